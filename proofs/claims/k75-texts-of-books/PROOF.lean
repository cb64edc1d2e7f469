import PyProof.Rows.All
import Wide.All
import OpenK.AllK
import Wide.FinOn
import HandS.ForMost
import HandS.ForExc
import HandS.IsInst
import HandS.WordsExc
import HandS.Ends
import HandS.Style
import HandS.Lambda
import HandS.DictComp
import HandS.Finally
import HandS.TupAny
import HandS.Property
import HandS.MakeKwOnly
import HandS.SortInts
import HandS.WordsDict
import HandS.OwnEq
import PyProof.InstNe
import HandS.Strs
import HandS.SetFor
import HandS.RaiseMore
import KE.KExcSuper
import HandS.ExcInit
import HandS.ExcField
import KE.KExcIs
import HandS.ExcValue
import HandS.EndTab
import HandS.Sort
import HandS.Conv
import KE.KDictList
import KE.SortData
import HandS.Star
import HandS.More
import HandS.DictTup
import KE.KEqDict
import HandS.NoneIn
import PyProof.NeData
import KE.GoesEnum
import HandS.Text
import HandS.Iter
import PyProof.EqKinds
import HandS.Codes
import KE.GoesZip
import KE.GoesMore
import PyProof.P3Eq
import KE.KStateDown
import HandS.Head0
import HandS.Head1
import HandS.Head2
import HandS.HeadHook1
import PyProof.ReprLen
import PySem.Challenge.RW_whilemerged_k75_texts_of_books
set_option Elab.async false
set_option linter.all false
set_option maxRecDepth 100000
set_option maxHeartbeats 6400000
namespace CM
open PySem PySem.Spec PyProof.Rows L2
inductive D where
  | non | bl (b : Bool) | int (i : Int) | str (s : Str)
  | lst (xs : List D) | tup (xs : List D) | dct (kvs : List (Key × D))
  | obj (c : Nat) (fs : List (Str × D))
  | scr (ns : List Int) | ref (k : Nat) | ty (n : String) | cls (c : Nat)
  | exc (c : Nat) (fs : List (Str × D))
  deriving Inhabited
/-- an object that may change -/
inductive MO where
  | lst (xs : List D) | dct (kvs : List (Key × D)) | lck (kvs : List (Key × D)) | lkl (xs : List D) | obj (c : Nat) (fs : List (Str × D))
  | dctT (kvs : List (List Key × D))
  deriving Inhabited
/-- not walked at the moment -/
def NotLck : MO → Prop
  | .lck _ => False
  | .lkl _ => False
  | _ => True
abbrev Lckd (o : MO) : Prop := NotLck o → False
/-- the objects that may change, by name; nx: the next name -/
structure CH where
  nx : Nat
  ob : Nat → Option MO
def CH.new (h : CH) (o : MO) : CH := ⟨h.nx + 1, fun j => if j = h.nx then some o else h.ob j⟩
def CH.put (h : CH) (k : Nat) (o : MO) : CH := ⟨h.nx, fun j => if j = k then some o else h.ob j⟩
def CH.del (h : CH) (k : Nat) : CH := ⟨h.nx, fun j => if j = k then none else h.ob j⟩
def CH.emp : CH := ⟨0, fun _ => none⟩
/-- how a computation ends -/
inductive R (α : Type) where
  | ok (a : α) (h : CH)
  | ex (c : Nat) (fs : List (Str × D)) (h : CH)
  | no
def R.bind {α β : Type} (r : R α) (f : α → CH → R β) : R β := match r with
  | .ok a h => f a h
  | .ex c fs h => .ex c fs h
  | .no => .no
/-- no exception may leave -/
def R.calm {α β : Type} (r : R α) (f : α → CH → R β) : R β := match r with
  | .ok a h => f a h
  | .ex _ _ _ => .no
  | .no => .no
/-- the classes' addresses, and the tables of code objects -/
structure CAs where
  f : Nat → Addr
  T : List (Addr × Str)
instance : CoeFun CAs (fun _ => Nat → Addr) := ⟨CAs.f⟩
/-- no table and no other thing -/
def NTab : HO → Prop
  | .tbl _ => False
  | .ext _ => False
  | _ => True
/-- an exception of the class at C stands at a -/
def ExV (C a : Addr) (dd : Option Addr) : HO := .ext fun h => ∃ (oe : Obj) (vs : Array Value), h.get? a = some oe ∧ Zc (.ref C) dd oe ∧ oe.data = .fields vs
/-- where the named objects stand; and what is being made -/
structure Mp where
  f : Nat → Addr
  z : List Addr
instance : CoeFun Mp (fun _ => Nat → Addr) := ⟨Mp.f⟩
def Live (m : Mp) (h : CH) (a : Addr) : Prop := (∃ k o, h.ob k = some o ∧ m k = a) ∨ a ∈ m.z
/-- an object that is locked is the object -/
def core : HO → HO
  | .frz _ (.dK kvs) => .dK kvs
  | .frz _ (.dT kvs) => .dT kvs
  | .tbl _ => .tbl #[]
  | o => o
theorem core_ext {o : HO} {φ : Heap → Prop} (h : core o = .ext φ) : o = .ext φ := by
  cases o with
  | frz ob u => cases u <;> simp [core] at h
  | _ => first | exact h | simp [core] at h
theorem core_lst {o : HO} {xs : List V} (h : core o = .lst xs) : o = .lst xs := by
  cases o with
  | frz ob u => cases u <;> simp [core] at h
  | _ => first | exact h | simp [core] at h
theorem core_tup {o : HO} {xs : List V} (h : core o = .tup xs) : o = .tup xs := by
  cases o with
  | frz ob u => cases u <;> simp [core] at h
  | _ => first | exact h | simp [core] at h
theorem core_ins {o : HO} {c d : Addr} {fs : List (Str × V)} (h : core o = .ins c d fs) : o = .ins c d fs := by
  cases o with
  | frz ob u => cases u <;> simp [core] at h
  | _ => first | exact h | simp [core] at h
theorem core_xd {o : HO} {fs : List (Str × V)} (h : core o = .xd fs) : o = .xd fs := by
  cases o with
  | frz ob u => cases u <;> simp [core] at h
  | _ => first | exact h | simp [core] at h
theorem core_dK {o : HO} {kvs : List (Key × V)} (h : core o = .dK kvs) : o = .dK kvs ∨ ∃ ob, o = .frz ob (.dK kvs) := by
  cases o with
  | frz ob u => cases u <;> simp [core] at h <;> (subst h; exact .inr ⟨ob, rfl⟩)
  | dK k => simp [core] at h; exact .inl (by rw [h])
  | _ => simp [core] at h
theorem core_frzL {o : HO} {ob : Obj} {xs : List V} (h : core o = .frz ob (.lst xs)) : o = .frz ob (.lst xs) := by
  cases o with
  | frz ob' u => cases u <;> first | (simp [core] at h; done) | (simp only [core] at h; exact h)
  | _ => first | exact h | simp [core] at h
/-- what stands outside of the named objects is kept, or locked -/
def Lk (o o' : HO) : Prop := o' = o ∨ (∃ ob kvs, o = .dK kvs ∧ o' = .frz ob o) ∨ ∃ ps qs, o = .tbl ps ∧ o' = .tbl qs
theorem Lk.core {o o' : HO} (l : Lk o o') : core o' = core o := by
  rcases l with rfl | ⟨ob, kvs, rfl, rfl⟩ | ⟨ps, qs, rfl, rfl⟩ <;> rfl
def NoTb : HO → Prop
  | .tbl _ => False
  | _ => True
theorem lk_nt {o o' : HO} (l : Lk o o') (n : NoTb o) : NoTb o' := by
  rcases l with rfl | ⟨ob, kvs, rfl, rfl⟩ | ⟨ps, qs, rfl, rfl⟩
  · exact n
  · trivial
  · exact n.elim
theorem core_nt {o : HO} {kvs : List (Key × V)} (h : core o = .dK kvs) : NoTb o := by
  rcases core_dK h with rfl | ⟨ob, rfl⟩ <;> trivial
theorem Lk.trans {o o1 o2 : HO} (a : Lk o o1) (b : Lk o1 o2) : Lk o o2 := by
  rcases a with rfl | ⟨ob, kvs, rfl, rfl⟩ | ⟨ps, qs, rfl, rfl⟩
  · exact b
  · rcases b with rfl | ⟨ob', kvs', e, _⟩ | ⟨ps, qs, e, _⟩
    · exact .inr (.inl ⟨ob, kvs, rfl, rfl⟩)
    · cases e
    · cases e
  · rcases b with rfl | ⟨ob', kvs', e, _⟩ | ⟨ps', qs', e, rfl⟩
    · exact .inr (.inr ⟨ps, _, rfl, rfl⟩)
    · cases e
    · exact .inr (.inr ⟨ps, _, rfl, rfl⟩)
theorem Lk.frz {ob : Obj} {u o' : HO} (l : Lk (.frz ob u) o') : o' = .frz ob u := by
  rcases l with rfl | ⟨_, _, e, _⟩ | ⟨_, _, e, _⟩
  · rfl
  · cases e
  · cases e
section
variable (K : PySem.W.Frag) (CA : CAs) (m : Mp) (h : CH) (H : Hp)
mutual
inductive Rp : V → D → Prop
  | non : Rp .non .non
  | bl (b : Bool) : Rp (.bl b) (.bl b)
  | int (i : Int) : Rp (.int i) (.int i)
  | str (x : Str) : Rp (.str x) (.str x)
  | lst {a : Addr} {xs : List V} {ds : List D} : ¬ Live m h a → H a = some (.lst xs) → RpAll xs ds → Rp (.ref a) (.lst ds)
  | tup {a : Addr} {xs : List V} {ds : List D} : ¬ Live m h a → H a = some (.tup xs) → RpAll xs ds → Rp (.ref a) (.tup ds)
  | ktup {a : Addr} {xs : List V} {ds : List D} : SqT K (fun _ => none) a xs → RpAll xs ds → Rp (.ref a) (.tup ds)
  | dct {a : Addr} {o : HO} {kvs : List (Key × V)} {dks : List (Key × D)} : ¬ Live m h a → H a = some o → core o = .dK kvs → kvs.map (·.1) = dks.map (·.1) → RpAll (kvs.map (·.2)) (dks.map (·.2)) → Rp (.ref a) (.dct dks)
  | obj {a : Addr} {c : Nat} {dx : Addr} {fs : List (Str × V)} {dfs : List (Str × D)} : ¬ Live m h a → H a = some (.ins (CA c) dx fs) → fs.map (·.1) = dfs.map (·.1) → RpAll (fs.map (·.2)) (dfs.map (·.2)) → Rp (.ref a) (.obj c dfs)
  | scr {a : Addr} {ns : List Int} {o : Obj} : ¬ Live m h a → H a = some (.frz o (.lst (ns.map V.int))) → Rp (.ref a) (.scr ns)
  | kscr {a : Addr} {ns : List Int} : SqL K (fun _ => none) a (ns.map V.int) → Rp (.ref a) (.scr ns)
  | ref {k : Nat} : k < h.nx → Rp (.ref (m k)) (.ref k)
  | ty (n : String) : Rp (.ty n) (.ty n)
  | cls (c : Nat) : Rp (.ref (CA c)) (.cls c)
  | exc {a : Addr} {c : Nat} {dd : Option Addr} {fs : List (Str × V)} {dfs : List (Str × D)} : ¬ Live m h a → H a = some (ExV (CA c) a dd) → ((dd = none ∧ fs = []) ∨ ∃ x, dd = some x ∧ ¬ Live m h x ∧ H x = some (.xd fs)) → fs.map (·.1) = dfs.map (·.1) → RpAll (fs.map (·.2)) (dfs.map (·.2)) → Rp (.ref a) (.exc c dfs)
inductive RpAll : List V → List D → Prop
  | nil : RpAll [] []
  | cons {v : V} {vs : List V} {d : D} {ds : List D} : Rp v d → RpAll vs ds → RpAll (v :: vs) (d :: ds)
end
end
/-- a step: names stand, and what stands outside of the named objects stands on -/
structure Mv (m : Mp) (h : CH) (H : Hp) (m' : Mp) (h' : CH) (H' : Hp) : Prop where
  nx : h.nx ≤ h'.nx
  mp : ∀ k, k < h.nx → m' k = m k
  kp : ∀ a o, ¬ Live m h a → H a = some o → NoTb o → ¬ Live m' h' a ∧ ∃ o', H' a = some o' ∧ Lk o o'
structure Sz (m : Mp) (h : CH) (H : Hp) (m' : Mp) (h' : CH) (H' : Hp) : Prop extends Mv m h H m' h' H' where
  lk : ∀ k o, k < h.nx → h.ob k = some o → Lckd o → h'.ob k = some o ∧ H' (m k) = H (m k)
structure Stp (m : Mp) (h : CH) (H : Hp) (m' : Mp) (h' : CH) (H' : Hp) : Prop extends Sz m h H m' h' H' where
  z : m'.z = m.z
  zk : ∀ a, a ∈ m.z → H' a = H a
/-- while a thing is made at p -/
structure Sc (p : Addr) (m : Mp) (h : CH) (H : Hp) (m' : Mp) (h' : CH) (H' : Hp) : Prop extends Sz m h H m' h' H' where
  z : m'.z = m.z
  zk : ∀ a, a ∈ m.z → a ≠ p → H' a = H a
theorem Stp.mk' {m m' : Mp} {h h' : CH} {H H' : Hp} (x : Mv m h H m' h' H') (lk : ∀ k o, k < h.nx → h.ob k = some o → Lckd o → h'.ob k = some o ∧ H' (m k) = H (m k)) (z : m'.z = m.z) (zk : ∀ a, a ∈ m.z → H' a = H a) : Stp m h H m' h' H' := ⟨⟨x, lk⟩, z, zk⟩
theorem Stp.refl {m : Mp} {h : CH} {H : Hp} : Stp m h H m h H := .mk' ⟨Nat.le_refl _, fun _ _ => rfl, fun _ o n e _ => ⟨n, o, e, .inl rfl⟩⟩ (fun _ _ _ e _ => ⟨e, rfl⟩) rfl fun _ _ => rfl
theorem Stp.sc {p : Addr} {m m' : Mp} {h h' : CH} {H H' : Hp} (s : Stp m h H m' h' H') : Sc p m h H m' h' H' := ⟨s.toSz, s.z, fun a l _ => s.zk a l⟩
theorem Sz.trans {m m1 m2 : Mp} {h h1 h2 : CH} {H H1 H2 : Hp} (a : Sz m h H m1 h1 H1) (b : Sz m1 h1 H1 m2 h2 H2) : Sz m h H m2 h2 H2 :=
  ⟨⟨Nat.le_trans a.nx b.nx, fun k l => (b.mp k (Nat.lt_of_lt_of_le l a.nx)).trans (a.mp k l), fun x o n e nt => by
    obtain ⟨n1, o1, e1, c1⟩ := a.kp x o n e nt
    obtain ⟨n2, o2, e2, c2⟩ := b.kp x o1 n1 e1 (lk_nt c1 nt)
    exact ⟨n2, o2, e2, c1.trans c2⟩⟩, fun k kvs l e ld => by
    obtain ⟨e1, q1⟩ := a.lk k kvs l e ld
    obtain ⟨e2, q2⟩ := b.lk k kvs (Nat.lt_of_lt_of_le l a.nx) e1 ld
    rw [a.mp k l] at q2
    exact ⟨e2, q2.trans q1⟩⟩
theorem Stp.trans {m m1 m2 : Mp} {h h1 h2 : CH} {H H1 H2 : Hp} (a : Stp m h H m1 h1 H1) (b : Stp m1 h1 H1 m2 h2 H2) : Stp m h H m2 h2 H2 := ⟨a.toSz.trans b.toSz, b.z.trans a.z, fun x l => (b.zk x (by rw [a.z]; exact l)).trans (a.zk x l)⟩
theorem Sc.trans {p : Addr} {m m1 m2 : Mp} {h h1 h2 : CH} {H H1 H2 : Hp} (a : Sc p m h H m1 h1 H1) (b : Sc p m1 h1 H1 m2 h2 H2) : Sc p m h H m2 h2 H2 := ⟨a.toSz.trans b.toSz, b.z.trans a.z, fun x l n => (b.zk x (by rw [a.z]; exact l) n).trans (a.zk x l n)⟩
section
variable {K : PySem.W.Frag} {CA : CAs} {m m' : Mp} {h h' : CH} {H H' : Hp} {v : V} {d : D} {vs : List V} {ds : List D}
theorem Rp.mv0 (snx : h.nx ≤ h'.nx) (smp : ∀ k, k < h.nx → m' k = m k) (skp : ∀ a o, ¬ Live m h a → H a = some o → NoTb o → ¬ Live m' h' a ∧ ∃ o', H' a = some o' ∧ Lk o o') : ∀ {v d}, Rp K CA m h H v d → Rp K CA m' h' H' v d := fun {v d} r => by
  refine Rp.rec (motive_1 := fun v d _ => Rp K CA m' h' H' v d) (motive_2 := fun vs ds _ => RpAll K CA m' h' H' vs ds) ?_ ?_ ?_ ?_ ?_ ?_ ?_ ?_ ?_ ?_ ?_ ?_ ?_ ?_ ?_ ?_ ?_ r
  · exact .non
  · exact .bl
  · exact .int
  · exact .str
  · intro a xs ds n e _ ih
    obtain ⟨n', o', e', c⟩ := skp a _ n e trivial
    replace c := c.core
    exact .lst n' (by rw [e', core_lst c]) ih
  · intro a xs ds n e _ ih
    obtain ⟨n', o', e', c⟩ := skp a _ n e trivial
    replace c := c.core
    exact .tup n' (by rw [e', core_tup c]) ih
  · intro a xs ds e _ ih
    exact .ktup e ih
  · intro a o kvs dks n e c en _ ih
    obtain ⟨n', o', e', c'⟩ := skp a _ n e (core_nt c)
    replace c' := c'.core
    exact .dct n' e' (c'.trans c) en ih
  · intro a c dx fs dfs n e en _ ih
    obtain ⟨n', o', e', c'⟩ := skp a _ n e trivial
    replace c' := c'.core
    exact .obj n' (by rw [e', core_ins c']) en ih
  · intro a ns o n e
    obtain ⟨n', o', e', c'⟩ := skp a _ n e trivial
    replace c' := c'.core
    exact .scr n' (by rw [e', core_frzL c'])
  · intro a ns e
    exact .kscr e
  · intro k l
    rw [← smp k l]
    exact .ref (Nat.lt_of_lt_of_le l snx)
  · exact .ty
  · exact .cls
  · intro a c dd fs dfs n e hd en _ ih
    obtain ⟨n', o', e', c'⟩ := skp a _ n e trivial
    refine .exc n' (by rw [e', core_ext c'.core]; rfl) ?_ en ih
    rcases hd with q | ⟨x, rfl, nx, ex⟩
    · exact .inl q
    · obtain ⟨nx', ox, ex', cx⟩ := skp x _ nx ex trivial
      exact .inr ⟨x, rfl, nx', by rw [ex', core_xd cx.core]⟩
  · exact .nil
  · intro v vs d ds _ _ ih1 ih2
    exact .cons ih1 ih2
theorem RpAll.mv0 (snx : h.nx ≤ h'.nx) (smp : ∀ k, k < h.nx → m' k = m k) (skp : ∀ a o, ¬ Live m h a → H a = some o → NoTb o → ¬ Live m' h' a ∧ ∃ o', H' a = some o' ∧ Lk o o') : ∀ {vs ds}, RpAll K CA m h H vs ds → RpAll K CA m' h' H' vs ds := fun {vs ds} r => by
  induction vs generalizing ds with
  | nil => cases r; exact .nil
  | cons v vs ih => cases r with
    | cons h1 h2 => exact .cons (h1.mv0 snx smp skp) (ih h2)
theorem Rp.mv (s : Mv m h H m' h' H') {v d} (r : Rp K CA m h H v d) : Rp K CA m' h' H' v d := r.mv0 s.nx s.mp s.kp
theorem RpAll.mv (s : Mv m h H m' h' H') {vs ds} (r : RpAll K CA m h H vs ds) : RpAll K CA m' h' H' vs ds := r.mv0 s.nx s.mp s.kp
theorem Rp.move (s : Stp m h H m' h' H') {v d} (r : Rp K CA m h H v d) : Rp K CA m' h' H' v d := r.mv s.toMv
theorem RpAll.move (s : Stp m h H m' h' H') {vs ds} (r : RpAll K CA m h H vs ds) : RpAll K CA m' h' H' vs ds := r.mv s.toMv
theorem RpAll.length (r : RpAll K CA m h H vs ds) : vs.length = ds.length := by
  induction vs generalizing ds with
  | nil => cases r; rfl
  | cons v vs ih => cases r with
    | cons _ h2 => simp [ih h2]
theorem RpAll.getD (r : RpAll K CA m h H vs ds) {i : Nat} {d : D} (e : ds[i]? = some d) : ∃ v, vs[i]? = some v ∧ Rp K CA m h H v d := by
  induction vs generalizing ds i with
  | nil => cases r; simp at e
  | cons x vs ih => cases r with
    | cons h1 h2 =>
      cases i with
      | zero => simp at e; subst e; exact ⟨_, rfl, h1⟩
      | succ i => simpa using ih h2 (by simpa using e)
theorem RpAll.get (r : RpAll K CA m h H vs ds) {i : Nat} {v : V} (e : vs[i]? = some v) : ∃ d, ds[i]? = some d ∧ Rp K CA m h H v d := by
  induction vs generalizing ds i with
  | nil => simp at e
  | cons x vs ih => cases r with
    | cons h1 h2 =>
      cases i with
      | zero => simp at e; subst e; exact ⟨_, rfl, h1⟩
      | succ i => simpa using ih h2 (by simpa using e)
theorem RpAll.append {vs' : List V} {ds' : List D} (r : RpAll K CA m h H vs ds) (r' : RpAll K CA m h H vs' ds') : RpAll K CA m h H (vs ++ vs') (ds ++ ds') := by
  induction vs generalizing ds with
  | nil => cases r; exact r'
  | cons x vs ih => cases r with
    | cons h1 h2 => exact .cons h1 (ih h2)
theorem RpAll.take (r : RpAll K CA m h H vs ds) (n : Nat) : RpAll K CA m h H (vs.take n) (ds.take n) := by
  induction vs generalizing ds n with
  | nil => cases r; simp; exact .nil
  | cons x vs ih => cases r with
    | cons h1 h2 =>
      cases n with
      | zero => exact .nil
      | succ n => exact .cons h1 (ih h2 n)
theorem RpAll.drop (r : RpAll K CA m h H vs ds) (n : Nat) : RpAll K CA m h H (vs.drop n) (ds.drop n) := by
  induction vs generalizing ds n with
  | nil => cases r; simp; exact .nil
  | cons x vs ih => cases r with
    | cons h1 h2 =>
      cases n with
      | zero => exact .cons h1 h2
      | succ n => exact ih h2 n
theorem RpAll.eraseIdx (r : RpAll K CA m h H vs ds) (n : Nat) : RpAll K CA m h H (vs.eraseIdx n) (ds.eraseIdx n) := by
  induction vs generalizing ds n with
  | nil => cases r; simp; exact .nil
  | cons x vs ih => cases r with
    | cons h1 h2 =>
      cases n with
      | zero => exact h2
      | succ n => exact .cons h1 (ih h2 n)
theorem RpAll.set (r : RpAll K CA m h H vs ds) (n : Nat) (r1 : Rp K CA m h H v d) : RpAll K CA m h H (vs.set n v) (ds.set n d) := by
  induction vs generalizing ds n with
  | nil => cases r; simp; exact .nil
  | cons x vs ih => cases r with
    | cons h1 h2 =>
      cases n with
      | zero => exact .cons r1 h2
      | succ n => exact .cons h1 (ih h2 n)
theorem RpAll.reverse (r : RpAll K CA m h H vs ds) : RpAll K CA m h H vs.reverse ds.reverse := by
  induction vs generalizing ds with
  | nil => cases r; exact .nil
  | cons x vs ih => cases r with
    | cons h1 h2 =>
      simp only [List.reverse_cons]
      exact (ih h2).append (.cons h1 .nil)
end
section
variable (K : PySem.W.Frag) (CA : CAs) (m : Mp) (h : CH) (H : Hp)
/-- the named object o stands at a -/
inductive MOk (a : Addr) : MO → Prop
  | lst {xs : List V} {ds : List D} : H a = some (.lst xs) → RpAll K CA m h H xs ds → MOk a (.lst ds)
  | dct {kvs : List (Key × V)} {dks : List (Key × D)} : H a = some (.dK kvs) → kvs.map (·.1) = dks.map (·.1) → RpAll K CA m h H (kvs.map (·.2)) (dks.map (·.2)) → MOk a (.dct dks)
  | lck {ob : Obj} {kvs : List (Key × V)} {dks : List (Key × D)} : H a = some (.frz ob (.dK kvs)) → kvs.map (·.1) = dks.map (·.1) → RpAll K CA m h H (kvs.map (·.2)) (dks.map (·.2)) → MOk a (.lck dks)
  | lkl {xs : List V} {ds : List D} : H a = some (.lst xs) → RpAll K CA m h H xs ds → MOk a (.lkl ds)
  | obj {c : Nat} {dx : Addr} {fs : List (Str × V)} {dfs : List (Str × D)} : H a = some (.ins (CA c) dx fs) → fs.map (·.1) = dfs.map (·.1) → RpAll K CA m h H (fs.map (·.2)) (dfs.map (·.2)) → MOk a (.obj c dfs)
  | dctT {kvs : List (List Key × V)} {dks : List (List Key × D)} : H a = some (.dT kvs) → kvs.map (·.1) = dks.map (·.1) → RpAll K CA m h H (kvs.map (·.2)) (dks.map (·.2)) → MOk a (.dctT dks)
structure HR : Prop where
  ob : ∀ k o, h.ob k = some o → k < h.nx ∧ MOk K CA m h H (m k) o
  inj : ∀ k j o u, h.ob k = some o → h.ob j = some u → m k = m j → k = j
  zn : ∀ k o, h.ob k = some o → m k ∉ m.z
  zh : ∀ a, a ∈ m.z → ∃ u, H a = some u ∧ NTab u
  tb : LamX.Tabs CA.T H
abbrev DE := List (Option D)
structure SO (σ : L2.St) (ρ : DE) : Prop where
  hr : HR K CA m h H
  len : σ.length = ρ.length
  sl : ∀ (i : Nat) (d : D), ρ[i]? = some (some d) → ∃ v, σ[i]? = some (some v) ∧ Rp K CA m h H v d
/-- an exception, told -/
def XR (cls : Value) (dd : Option Addr) (c : Nat) (fs : List (Str × D)) : Prop :=
  cls = .ref (CA c) ∧ ((dd = none ∧ fs = []) ∨ ∃ (x : Addr) (hf : List (Str × V)), dd = some x ∧ ¬ Live m h x ∧ H x = some (.xd hf) ∧ hf.map (·.1) = fs.map (·.1) ∧ RpAll K CA m h H (hf.map (·.2)) (fs.map (·.2)))
end
section
variable {K : PySem.W.Frag} {CA : CAs} {m m' : Mp} {h h' : CH} {H H' : Hp} {σ : L2.St} {ρ : DE} {v : V} {d : D} {a p : Addr} {o : MO} {k : Nat}
theorem MOk.mv (s : Mv m h H m' h' H') (e : H' a = H a) (x : MOk K CA m h H a o) : MOk K CA m' h' H' a o := by
  cases x with
  | lst q r => exact .lst (e.trans q) (r.mv s)
  | dct q en r => exact .dct (e.trans q) en (r.mv s)
  | lck q en r => exact .lck (e.trans q) en (r.mv s)
  | lkl q r => exact .lkl (e.trans q) (r.mv s)
  | obj q en r => exact .obj (e.trans q) en (r.mv s)
  | dctT q en r => exact .dctT (e.trans q) en (r.mv s)
theorem MOk.move (s : Stp m h H m' h' H') (e : H' a = H a) (x : MOk K CA m h H a o) : MOk K CA m' h' H' a o := x.mv s.toMv e
theorem MOk.some (x : MOk K CA m h H a o) : ∃ u, H a = some u := by
  cases x with
  | lst q r => exact ⟨_, q⟩
  | dct q en r => exact ⟨_, q⟩
  | lck q en r => exact ⟨_, q⟩
  | lkl q r => exact ⟨_, q⟩
  | obj q en r => exact ⟨_, q⟩
  | dctT q en r => exact ⟨_, q⟩
theorem mok_nt (x : MOk K CA m h H a o) : ∃ u, H a = some u ∧ NTab u := by
  cases x with
  | lst q r => exact ⟨_, q, trivial⟩
  | dct q en r => exact ⟨_, q, trivial⟩
  | lck q en r => exact ⟨_, q, trivial⟩
  | lkl q r => exact ⟨_, q, trivial⟩
  | obj q en r => exact ⟨_, q, trivial⟩
  | dctT q en r => exact ⟨_, q, trivial⟩
/-- the tables, where something else is written -/
theorem tabs_upd {T : List (Addr × Str)} {u w : HO} (t : LamX.Tabs T H) (e : H a = some w) (n : NTab w) : LamX.Tabs T (upd H a u) := fun p hp => by
  obtain ⟨ps, h1, h2, h3⟩ := t p hp
  refine ⟨ps, by rw [upd_ne (fun z => by rw [z, e] at h1; cases h1; exact n)]; exact h1, h2, fun pos cv hc => ?_⟩
  obtain ⟨c, e1, e2⟩ := h3 pos cv hc
  refine ⟨c, e1, ?_⟩
  rw [upd_ne (fun z => by
    rw [z, e] at e2
    unfold LamX.CodeO at e2
    cases e2
    exact n)]
  exact e2
theorem tabs_grow {T : List (Addr × Str)} {H1 : Hp} (t : LamX.Tabs T H) (k : ∀ a u, H a = some u → H1 a = some u) : LamX.Tabs T H1 := t.ext k
theorem tabs_laid {T : List (Addr × Str)} {u : HO} (t : LamX.Tabs T H) (n : H p = none) : LamX.Tabs T (upd H p u) := t.ext fun a w e => by rw [upd_ne (ne_of_none e n)]; exact e
theorem HR.live (S : HR K CA m h H) (l : Live m h a) : ∃ u, H a = some u := by
  rcases l with ⟨k, o, e, rfl⟩ | l
  · exact (S.ob k o e).2.some
  · obtain ⟨u, q, _⟩ := S.zh a l
    exact ⟨u, q⟩
theorem HR.fresh (S : HR K CA m h H) (n : H p = none) : ¬ Live m h p := fun l => by
  obtain ⟨u, e⟩ := S.live l
  rw [n] at e; cases e
theorem SO.move (S : SO K CA m h H σ ρ) (s : Stp m h H m' h' H') (r : HR K CA m' h' H') : SO K CA m' h' H' σ ρ :=
  ⟨r, S.len, fun i d e => let ⟨v, e1, q⟩ := S.sl i d e; ⟨v, e1, q.move s⟩⟩
theorem XR.move {cls : Value} {dd : Option Addr} {c : Nat} {fs : List (Str × D)} (x : XR K CA m h H cls dd c fs) (s : Stp m h H m' h' H') : XR K CA m' h' H' cls dd c fs := by
  obtain ⟨x1, x2⟩ := x
  refine ⟨x1, x2.imp id ?_⟩
  rintro ⟨y, hf, e1, e2, e3, e4, e5⟩
  obtain ⟨n', o', e', c'⟩ := s.kp y _ e2 e3 trivial
  replace c' := c'.core
  exact ⟨y, hf, e1, n', by rw [e', core_xd c'], e4, e5.move s⟩
/-- a new object that does not change -/
theorem stp_laid (S : HR K CA m h H) {u : HO} (n : H p = none) : Stp m h H m h (upd H p u) :=
  .mk' ⟨Nat.le_refl _, fun _ _ => rfl, fun b x l e _ => ⟨l, x, by rw [upd_ne (ne_of_none e n)]; exact e, .inl rfl⟩⟩ (fun k kvs _ e _ => ⟨e, by
    obtain ⟨u, q⟩ := (S.ob k _ e).2.some
    exact upd_ne (ne_of_none q n)⟩) rfl fun a l => by
    obtain ⟨u, q, _⟩ := S.zh a l
    exact upd_ne (ne_of_none q n)
/-- things are laid: what stood stands -/
theorem stp_grow {H1 : Hp} (S : HR K CA m h H) (k : ∀ a u, H a = some u → H1 a = some u) : Stp m h H m h H1 :=
  .mk' ⟨Nat.le_refl _, fun _ _ => rfl, fun b x l e _ => ⟨l, x, k b x e, .inl rfl⟩⟩ (fun j kvs _ e _ => ⟨e, by
    obtain ⟨u, q⟩ := (S.ob j _ e).2.some
    rw [q]; exact k _ _ q⟩) rfl fun a l => by
    obtain ⟨u, q, _⟩ := S.zh a l
    rw [q]; exact k _ _ q
theorem HR.grow {H1 : Hp} (S : HR K CA m h H) (k : ∀ a u, H a = some u → H1 a = some u) : HR K CA m h H1 :=
  ⟨fun j o e => ⟨(S.ob j o e).1, (S.ob j o e).2.move (stp_grow S k) (by
    obtain ⟨x, q⟩ := (S.ob j o e).2.some
    rw [q]; exact k _ _ q)⟩, S.inj, S.zn, fun a l => by
    obtain ⟨w, q, nt⟩ := S.zh a l
    exact ⟨w, k a w q, nt⟩, tabs_grow S.tb k⟩
theorem HR.laid (S : HR K CA m h H) {u : HO} (n : H p = none) : HR K CA m h (upd H p u) :=
  ⟨fun k o e => ⟨(S.ob k o e).1, (S.ob k o e).2.move (stp_laid S n) (by
    obtain ⟨x, q⟩ := (S.ob k o e).2.some
    exact upd_ne (ne_of_none q n))⟩, S.inj, S.zn, fun a l => by
    obtain ⟨w, q, nt⟩ := S.zh a l
    exact ⟨w, by rw [upd_ne (ne_of_none q n)]; exact q, nt⟩, tabs_laid S.tb n⟩
/-- the names, with a new one -/
def mpNew (m : Mp) (h : CH) (p : Addr) : Mp := ⟨fun j => if j = h.nx then p else m j, m.z⟩
theorem mpNew_nx : mpNew m h p h.nx = p := if_pos rfl
theorem mpNew_lt (l : k < h.nx) : mpNew m h p k = m k := if_neg (Nat.ne_of_lt l)
theorem live_new (S : HR K CA m h H) {o : MO} (l : Live (mpNew m h p) (h.new o) a) : a = p ∨ Live m h a := by
  rcases l with ⟨k, u, e, rfl⟩ | l
  · unfold CH.new at e
    by_cases q : k = h.nx
    · subst q; exact .inl mpNew_nx
    · simp only [if_neg q] at e
      exact .inr (.inl ⟨k, u, e, (mpNew_lt (S.ob k u e).1).symm⟩)
  · exact .inr (.inr l)
/-- a new object that may change: laid at p (H1 is H with p laid, and perhaps more) -/
theorem stp_new (S : HR K CA m h H) {o : MO} {H1 : Hp} (n : H p = none) (k : ∀ a u, H a = some u → H1 a = some u) : Stp m h H (mpNew m h p) (h.new o) H1 :=
  .mk' ⟨Nat.le_succ _, fun k l => mpNew_lt l, fun b x l e _ => ⟨fun z => by
    rcases live_new S z with rfl | z
    · rw [n] at e; cases e
    · exact l z, x, k b x e, .inl rfl⟩⟩ (fun j kvs l e _ => ⟨by
    unfold CH.new
    simp only [if_neg (Nat.ne_of_lt l)]
    exact e, by
    obtain ⟨u, q⟩ := (S.ob j _ e).2.some
    rw [q]; exact k _ _ q⟩) rfl fun a l => by
    obtain ⟨u, q, _⟩ := S.zh a l
    rw [q]; exact k _ _ q
theorem HR.new (S : HR K CA m h H) {o : MO} {H1 : Hp} (n : H p = none) (k : ∀ a u, H a = some u → H1 a = some u) (x : MOk K CA (mpNew m h p) (h.new o) H1 p o) : HR K CA (mpNew m h p) (h.new o) H1 := by
  have key : ∀ j u, (h.new o).ob j = some u → (j = h.nx ∧ u = o) ∨ (j < h.nx ∧ h.ob j = some u) := fun j u e => by
    unfold CH.new at e
    by_cases q : j = h.nx
    · simp only [if_pos q] at e; cases e; exact .inl ⟨q, rfl⟩
    · simp only [if_neg q] at e
      exact .inr ⟨(S.ob j u e).1, e⟩
  have off : ∀ j u, h.ob j = some u → m j ≠ p := fun j u e z => S.fresh n (.inl ⟨j, u, e, z⟩)
  refine ⟨fun j u e => ?_, fun i j u w e1 e2 e3 => ?_, fun j u e => ?_, fun a l => ?_, tabs_grow S.tb k⟩
  · rcases key j u e with ⟨rfl, rfl⟩ | ⟨l, q⟩
    · exact ⟨Nat.lt_succ_self _, by rw [mpNew_nx]; exact x⟩
    · refine ⟨Nat.lt_succ_of_lt l, ?_⟩
      rw [mpNew_lt l]
      obtain ⟨y, z⟩ := (S.ob j u q).2.some
      exact (S.ob j u q).2.move (stp_new S n k) (by rw [z]; exact k _ _ z)
  · rcases key i u e1 with ⟨rfl, rfl⟩ | ⟨l1, q1⟩
    · rcases key j w e2 with ⟨rfl, rfl⟩ | ⟨l2, q2⟩
      · rfl
      · rw [mpNew_nx, mpNew_lt l2] at e3
        exact absurd e3.symm (off j w q2)
    · rcases key j w e2 with ⟨rfl, rfl⟩ | ⟨l2, q2⟩
      · rw [mpNew_nx, mpNew_lt l1] at e3
        exact absurd e3 (off i u q1)
      · rw [mpNew_lt l1, mpNew_lt l2] at e3
        exact S.inj i j u w q1 q2 e3
  · rcases key j u e with ⟨rfl, rfl⟩ | ⟨l, q⟩
    · rw [mpNew_nx]; exact fun z => S.fresh n (.inr z)
    · rw [mpNew_lt l]; exact S.zn j u q
  · obtain ⟨w, q, nt⟩ := S.zh a l
    exact ⟨w, k a w q, nt⟩
theorem upd_new {u : HO} (n : H p = none) : ∀ a w, H a = some w → upd H p u a = some w := fun a w e => by
  rw [upd_ne (ne_of_none e n)]; exact e
/-- the named object k is written -/
theorem live_put {o' : MO} (e : h.ob k = some o) : Live m (h.put k o') a ↔ Live m h a := by
  constructor
  · rintro (⟨j, u, q, rfl⟩ | q)
    · unfold CH.put at q
      by_cases z : j = k
      · subst z; exact .inl ⟨_, _, e, rfl⟩
      · simp only [if_neg z] at q; exact .inl ⟨_, _, q, rfl⟩
    · exact .inr q
  · rintro (⟨j, u, q, rfl⟩ | q)
    · by_cases z : j = k
      · subst z; exact .inl ⟨j, o', by unfold CH.put; simp, rfl⟩
      · exact .inl ⟨j, u, by unfold CH.put; simp only [if_neg z]; exact q, rfl⟩
    · exact .inr q
theorem mv_put (e : h.ob k = some o) {o' : MO} {u : HO} : Mv m h H m (h.put k o') (upd H (m k) u) :=
  ⟨Nat.le_refl _, fun _ _ => rfl, fun b x l q _ => ⟨fun z => l ((live_put e).mp z), x, by
    rw [upd_ne (fun z => l (.inl ⟨k, o, e, z.symm⟩))]; exact q, .inl rfl⟩⟩
theorem stp_put (S : HR K CA m h H) (e : h.ob k = some o) (nl : NotLck o) {o' : MO} {u : HO} : Stp m h H m (h.put k o') (upd H (m k) u) :=
  .mk' (mv_put e) (fun j kvs l q ld => by
    have nj : j ≠ k := fun z => by subst z; rw [q] at e; cases e; exact ld nl
    exact ⟨by unfold CH.put; simp only [if_neg nj]; exact q, upd_ne fun z => nj (S.inj _ _ _ _ q e z)⟩) rfl fun a l => upd_ne fun z => S.zn k _ e (by rw [← z]; exact l)
theorem HR.put (S : HR K CA m h H) (e : h.ob k = some o) {o' : MO} {u : HO} (x : MOk K CA m (h.put k o') (upd H (m k) u) (m k) o') : HR K CA m (h.put k o') (upd H (m k) u) := by
  have key : ∀ j w, (h.put k o').ob j = some w → (j = k ∧ w = o') ∨ (j ≠ k ∧ h.ob j = some w) := fun j w q => by
    unfold CH.put at q
    by_cases z : j = k
    · simp only [if_pos z] at q; cases q; exact .inl ⟨z, rfl⟩
    · simp only [if_neg z] at q; exact .inr ⟨z, q⟩
  have back : ∀ j w, (h.put k o').ob j = some w → ∃ w', h.ob j = some w' := fun j w q => by
    rcases key j w q with ⟨rfl, _⟩ | ⟨_, q⟩
    · exact ⟨_, e⟩
    · exact ⟨_, q⟩
  obtain ⟨w0, e0, n0⟩ := mok_nt (S.ob k o e).2
  refine ⟨fun j w q => ?_, fun i j w w' e1 e2 e3 => ?_, fun j w q => ?_, fun a l => ?_, tabs_upd S.tb e0 n0⟩
  · rcases key j w q with ⟨rfl, rfl⟩ | ⟨z, q⟩
    · exact ⟨(S.ob _ _ e).1, x⟩
    · exact ⟨(S.ob _ _ q).1, (S.ob _ _ q).2.mv (mv_put e) (upd_ne fun y => z (S.inj _ _ _ _ q e y))⟩
  · obtain ⟨y, q1⟩ := back i w e1
    obtain ⟨y', q2⟩ := back j w' e2
    exact S.inj i j _ _ q1 q2 e3
  · obtain ⟨y, q1⟩ := back j w q
    exact S.zn j _ q1
  · obtain ⟨y, q, nt⟩ := S.zh a l
    exact ⟨y, by rw [upd_ne (fun z => S.zn k o e (by rw [← z]; exact l))]; exact q, nt⟩
theorem put_same {o : MO} : (h.put k o).ob k = some o := by unfold CH.put; simp
theorem put_ne {o : MO} {j : Nat} (n : j ≠ k) : (h.put k o).ob j = h.ob j := by unfold CH.put; simp only [if_neg n]
theorem upd_eq {a : Addr} {u : HO} (e : H a = some u) : upd H a u = H := by
  funext b
  by_cases z : b = a
  · subst z; rw [upd_same, e]
  · rw [upd_ne z]
/-- a list is locked, things happen, it is unlocked -/
theorem lockL_ok {ds : List D} (S : HR K CA m h H) (e : h.ob k = some (.lst ds)) : ∃ xs, H (m k) = some (.lst xs) ∧ RpAll K CA m h H xs ds ∧ Stp m h H m (h.put k (.lkl ds)) H ∧ HR K CA m (h.put k (.lkl ds)) H := by
  have x := (S.ob k _ e).2
  cases x with
  | @lst xs _ q r =>
    have s1 := stp_put (o' := .lkl ds) (u := .lst xs) S e trivial
    have S1 := S.put (o' := .lkl ds) (u := .lst xs) e (.lkl upd_same (r.mv (mv_put e)))
    rw [upd_eq q] at s1 S1
    exact ⟨xs, q, r, s1, S1⟩
theorem unlockL_ok {ds : List D} {m2 : Mp} {h2 : CH} {H2 : Hp} (S : HR K CA m h H) (e : h.ob k = some (.lst ds)) (s : Stp m (h.put k (.lkl ds)) H m2 h2 H2) (S2 : HR K CA m2 h2 H2) :
    h2.ob k = some (.lkl ds) ∧ Stp m h H m2 (h2.put k (.lst ds)) H2 ∧ HR K CA m2 (h2.put k (.lst ds)) H2 := by
  have lt := (S.ob k _ e).1
  obtain ⟨e2, q2⟩ := s.lk k _ lt put_same id
  have x := (S2.ob k _ e2).2
  cases x with
  | @lkl xs _ qh r =>
    have S3 := S2.put (o' := .lst ds) (u := .lst xs) e2 (.lst upd_same (r.mv (mv_put e2)))
    rw [upd_eq qh] at S3
    refine ⟨e2, .mk' ⟨s.nx, s.mp, fun a o l qa nt => ?_⟩ (fun j kv l qj ld => ?_) s.z s.zk, S3⟩
    · obtain ⟨l2, o', q', lk⟩ := s.kp a o (fun z => l ((live_put e).mp z)) qa nt
      exact ⟨fun z => l2 ((live_put e2).mp z), o', q', lk⟩
    · have nj : j ≠ k := fun z => by subst z; rw [qj] at e; cases e; exact ld trivial
      obtain ⟨a1, a2⟩ := s.lk j kv l (by rw [put_ne nj]; exact qj) ld
      exact ⟨by rw [put_ne nj]; exact a1, a2⟩
/-- the named object k is given free: it will not change -/
theorem live_del (S : HR K CA m h H) (e : h.ob k = some o) : Live m (h.del k) a → Live m h a ∧ a ≠ m k := by
  rintro (⟨j, u, q, rfl⟩ | q)
  · unfold CH.del at q
    by_cases z : j = k
    · simp only [if_pos z] at q; cases q
    · simp only [if_neg z] at q
      exact ⟨.inl ⟨j, u, q, rfl⟩, fun y => z (S.inj _ _ _ _ q e y)⟩
  · exact ⟨.inr q, fun z => S.zn k o e (z ▸ q)⟩
theorem stp_del (S : HR K CA m h H) (e : h.ob k = some o) (nl : NotLck o) : Stp m h H m (h.del k) H :=
  .mk' ⟨Nat.le_refl _, fun _ _ => rfl, fun b x l q _ => ⟨fun z => l (live_del S e z).1, x, q, .inl rfl⟩⟩ (fun j kvs l q ld => by
    have nj : j ≠ k := fun z => by subst z; rw [q] at e; cases e; exact ld nl
    exact ⟨by unfold CH.del; simp only [if_neg nj]; exact q, rfl⟩) rfl fun _ _ => rfl
theorem HR.del (S : HR K CA m h H) (e : h.ob k = some o) (nl : NotLck o) : HR K CA m (h.del k) H := by
  have key : ∀ j w, (h.del k).ob j = some w → h.ob j = some w := fun j w q => by
    unfold CH.del at q
    by_cases z : j = k
    · simp only [if_pos z] at q; cases q
    · simp only [if_neg z] at q; exact q
  exact ⟨fun j w q => ⟨(S.ob j w (key j w q)).1, (S.ob j w (key j w q)).2.move (stp_del S e nl) rfl⟩, fun i j w w' e1 e2 => S.inj i j w w' (key i w e1) (key j w' e2), fun j w q => S.zn j w (key j w q), S.zh, S.tb⟩
/-- a thing begins to be made at p -/
def Mp.add (m : Mp) (p : Addr) : Mp := ⟨m.f, p :: m.z⟩
theorem Mp.add_kp {u : HO} (n : H p = none) : ∀ a o, ¬ Live m h a → H a = some o → NoTb o → ¬ Live (m.add p) h a ∧ ∃ o', upd H p u a = some o' ∧ Lk o o' := fun a o l e _ => ⟨fun z => by
    rcases z with ⟨k, w, q, rfl⟩ | z
    · exact l (.inl ⟨k, w, q, rfl⟩)
    · rcases List.mem_cons.mp z with rfl | z
      · rw [n] at e; cases e
      · exact l (.inr z), o, by rw [upd_ne (ne_of_none e n)]; exact e, .inl rfl⟩
theorem Rp.add {u : HO} (n : H p = none) {v : V} {d : D} (r : Rp K CA m h H v d) : Rp K CA (m.add p) h (upd H p u) v d := Rp.mv0 (m := m) (h := h) (H := H) (m' := m.add p) (h' := h) (H' := upd H p u) (Nat.le_refl _) (fun _ _ => rfl) (Mp.add_kp n) r
theorem RpAll.add {u : HO} (n : H p = none) {v : List V} {d : List D} (r : RpAll K CA m h H v d) : RpAll K CA (m.add p) h (upd H p u) v d := RpAll.mv0 (m := m) (h := h) (H := H) (m' := m.add p) (h' := h) (H' := upd H p u) (Nat.le_refl _) (fun _ _ => rfl) (Mp.add_kp n) r
theorem HR.add (S : HR K CA m h H) {u : HO} (n : H p = none) (nu : NTab u := by trivial) : HR K CA (m.add p) h (upd H p u) := by
  have rps : ∀ {vs : List V} {ds : List D}, RpAll K CA m h H vs ds → RpAll K CA (m.add p) h (upd H p u) vs ds := fun r => r.add n
  refine ⟨fun k o e => ⟨(S.ob k o e).1, ?_⟩, S.inj, fun k o e z => ?_, fun a l => ?_, tabs_laid S.tb n⟩
  · have ne : m k ≠ p := fun z => S.fresh n (.inl ⟨k, o, e, z⟩)
    have x := (S.ob k o e).2
    have nq : ∀ {w}, H (m k) = some w → upd H p u ((m.add p) k) = some w := fun {w} q => by
      show upd H p u (m k) = some w
      rw [upd_ne ne]; exact q
    cases x with
    | lst q r => exact .lst (nq q) (rps r)
    | dct q en r => exact .dct (nq q) en (rps r)
    | lck q en r => exact .lck (nq q) en (rps r)
    | lkl q r => exact .lkl (nq q) (rps r)
    | obj q en r => exact .obj (nq q) en (rps r)
    | dctT q en r => exact .dctT (nq q) en (rps r)
  · rcases List.mem_cons.mp z with z | z
    · exact S.fresh n (.inl ⟨k, o, e, z⟩)
    · exact S.zn k o e z
  · rcases List.mem_cons.mp l with rfl | l
    · exact ⟨u, upd_same, nu⟩
    · obtain ⟨w, q, nt⟩ := S.zh a l
      exact ⟨w, by rw [upd_ne (ne_of_none q n)]; exact q, nt⟩
/-- .. it is changed while it is made -/
theorem sc_made (S : HR K CA m h H) (l : p ∈ m.z) {u : HO} : Sc p m h H m h (upd H p u) := by
  refine ⟨⟨⟨Nat.le_refl _, fun _ _ => rfl, fun b x nl q _ => ⟨nl, x, ?_, .inl rfl⟩⟩, fun k kvs _ e _ => ⟨e, upd_ne fun z => S.zn k _ e (by rw [z]; exact l)⟩⟩, rfl, fun a _ n => upd_ne n⟩
  have hb : b ≠ p := fun z => nl (.inr (by rw [z]; exact l))
  rw [upd_ne hb]; exact q
theorem sz_add (S : HR K CA m h H) {u : HO} (n : H p = none) : Sz m h H (m.add p) h (upd H p u) :=
  ⟨⟨Nat.le_refl _, fun _ _ => rfl, Mp.add_kp n⟩, fun k kvs _ e _ => ⟨e, upd_ne fun z => S.fresh n (.inl ⟨k, _, e, z⟩)⟩⟩
theorem HR.made (S : HR K CA m h H) (l : p ∈ m.z) {u : HO} (nu : NTab u := by trivial) : HR K CA m h (upd H p u) :=
  let ⟨_, e0, n0⟩ := S.zh p l
  ⟨fun k o e => ⟨(S.ob k o e).1, (S.ob k o e).2.mv (sc_made S l).toMv (upd_ne fun z => S.zn k _ e (by rw [z]; exact l))⟩, S.inj, S.zn, fun a la => by
    by_cases q : a = p
    · subst q; exact ⟨u, upd_same, nu⟩
    · obtain ⟨w, e, nt⟩ := S.zh a la
      exact ⟨w, by rw [upd_ne q]; exact e, nt⟩, tabs_upd S.tb e0 n0⟩
/-- .. it is made: since (m, h, H), where p was free -/
theorem stp_done {m2 : Mp} {h2 : CH} {H2 : Hp} (S : HR K CA m h H) {u : HO} (n : H p = none) (s : Sc p (m.add p) h (upd H p u) m2 h2 H2) : Stp m h H ⟨m2.f, m.z⟩ h2 H2 := by
  have z2 : m2.z = p :: m.z := s.z
  refine .mk' ⟨s.nx, s.mp, fun a o l e nt => ?_⟩ (fun k kvs l e ld => ?_) rfl fun a l => ?_
  · have ne : a ≠ p := ne_of_none e n
    obtain ⟨l2, o', e', k'⟩ := s.kp a o (fun z => by
      rcases z with ⟨k, w, q, rfl⟩ | z
      · exact l (.inl ⟨k, w, q, rfl⟩)
      · rcases List.mem_cons.mp z with z | z
        · exact ne z
        · exact l (.inr z)) (by rw [upd_ne ne]; exact e) nt
    refine ⟨fun z => l2 ?_, o', e', k'⟩
    rcases z with z | z
    · exact .inl z
    · exact .inr (by rw [z2]; exact List.mem_cons_of_mem _ z)
  · obtain ⟨a1, a2⟩ := s.lk k kvs l e ld
    have ne : m k ≠ p := fun z => S.fresh n (.inl ⟨k, _, e, z⟩)
    exact ⟨a1, a2.trans (upd_ne ne)⟩
  · have ne : a ≠ p := fun z => S.fresh n (.inr (by rw [← z]; exact l))
    exact (s.zk a (List.mem_cons_of_mem _ l) ne).trans (upd_ne ne)
theorem Mp.done_kp {m2 : Mp} {zs : List Addr} {h2 : CH} {H2 : Hp} (z2 : m2.z = p :: zs) : ∀ a o, ¬ Live m2 h2 a → H2 a = some o → NoTb o → ¬ Live ⟨m2.f, zs⟩ h2 a ∧ ∃ o', H2 a = some o' ∧ Lk o o' := fun a o l e _ => ⟨fun z => l (by
    rcases z with z | z
    · exact .inl z
    · exact .inr (by rw [z2]; exact List.mem_cons_of_mem _ z)), o, e, .inl rfl⟩
theorem RpAll.done {m2 : Mp} {zs : List Addr} {h2 : CH} {H2 : Hp} (z2 : m2.z = p :: zs) {vs : List V} {ds : List D} (r : RpAll K CA m2 h2 H2 vs ds) : RpAll K CA ⟨m2.f, zs⟩ h2 H2 vs ds := RpAll.mv0 (m := m2) (h := h2) (H := H2) (m' := ⟨m2.f, zs⟩) (h' := h2) (H' := H2) (Nat.le_refl _) (fun _ _ => rfl) (Mp.done_kp z2) r
theorem HR.done {m2 : Mp} {zs : List Addr} {h2 : CH} {H2 : Hp} (S : HR K CA m2 h2 H2) (z2 : m2.z = p :: zs) : HR K CA ⟨m2.f, zs⟩ h2 H2 := by
  refine ⟨fun k o e => ⟨(S.ob k o e).1, ?_⟩, S.inj, fun k o e z => S.zn k o e (by rw [z2]; exact List.mem_cons_of_mem _ z), fun a l => S.zh a (by rw [z2]; exact List.mem_cons_of_mem _ l), S.tb⟩
  have x := (S.ob k o e).2
  cases x with
  | lst q r => exact .lst q (r.done z2)
  | dct q en r => exact .dct q en (r.done z2)
  | lck q en r => exact .lck q en (r.done z2)
  | lkl q r => exact .lkl q (r.done z2)
  | obj q en r => exact .obj q en (r.done z2)
  | dctT q en r => exact .dctT q en (r.done z2)
theorem set_some {α : Type} {l : List α} {i j : Nat} {x y : α} (h : (l.set i x)[j]? = some y) : (j = i ∧ y = x) ∨ (j ≠ i ∧ l[j]? = some y) := by
  by_cases e : j = i
  · subst e
    left
    refine ⟨rfl, ?_⟩
    rw [List.getElem?_set_self' ] at h
    cases q : l[j]? with
    | none => rw [q] at h; simp at h
    | some z => rw [q] at h; simpa using h.symm
  · right
    rw [List.getElem?_set_ne (Ne.symm e)] at h
    exact ⟨e, h⟩
theorem SO.set (S : SO K CA m h H σ ρ) (i : Nat) (r : Rp K CA m h H v d) : SO K CA m h H (σ.set i (some v)) (ρ.set i (some d)) := by
  refine ⟨S.hr, by simp [S.len], fun j s e => ?_⟩
  rcases set_some e with ⟨rfl, q⟩ | ⟨n, q⟩
  · cases q
    have hj : j < ρ.length := by
      have := (List.getElem?_eq_some_iff.mp e).1
      simpa using this
    exact ⟨v, by rw [List.getElem?_set_self (by rw [S.len]; exact hj)], r⟩
  · obtain ⟨w, e1, h⟩ := S.sl j s q
    exact ⟨w, by rw [List.getElem?_set_ne (Ne.symm n)]; exact e1, h⟩
end
end CM
namespace CM
open PySem PySem.Spec PyProof.Rows L2
abbrev TD := DE → CH → R D
abbrev TDs := DE → CH → R (List D)
abbrev TB := DE → CH → R Bool
/-- how a statement ends -/
inductive RS where
  | nx (ρ : DE) (h : CH) | rt (d : D) (h : CH) | bk (ρ : DE) (h : CH) | ct (ρ : DE) (h : CH)
  | ex (ρ : DE) (c : Nat) (fs : List (Str × D)) (h : CH) | no
abbrev SD := DE → CH → RS
def R.toS {α : Type} (r : R α) (ρ : DE) (f : α → CH → RS) : RS := match r with
  | .ok a h => f a h
  | .ex c fs h => .ex ρ c fs h
  | .no => .no
section
variable (K : PySem.W.Frag) (CA : CAs) (W : WX)
def PostG {α β : Type} (RR : Mp → CH → Hp → β → α → Prop) (m : Mp) (h : CH) (H : Hp) (σ : L2.St) (Q' : β → Hp → Prop) : R α → Prop
  | .ok a h' => ∀ m' b H', Stp m h H m' h' H' → HR K CA m' h' H' → RR m' h' H' b a → Q' b H'
  | .ex c fs h' => ∀ m' cls dd H', Stp m h H m' h' H' → HR K CA m' h' H' → XR K CA m' h' H' cls dd c fs → W cls dd σ H'
  | .no => False
abbrev RB : Mp → CH → Hp → Bool → Bool → Prop := fun _ _ _ b a => b = a
abbrev PostE := PostG K CA W (Rp K CA)
abbrev PostA := PostG K CA W (RpAll K CA)
abbrev PostT := PostG K CA W RB
def SimE (tH : TE) (t : TD) : Prop := ∀ (m : Mp) (h : CH) (H : Hp) (σ : L2.St) (ρ : DE) (Q' : VK), SO K CA m h H σ ρ → PostE K CA W m h H σ Q' (t ρ h) → tH σ H Q'
def SimT (tH : TT) (t : TB) : Prop := ∀ (m : Mp) (h : CH) (H : Hp) (σ : L2.St) (ρ : DE) (Q' : Bool → Hp → Prop), SO K CA m h H σ ρ → PostT K CA W m h H σ Q' (t ρ h) → tH σ H Q'
def SimA (tH : TA) (t : TDs) : Prop := ∀ (m : Mp) (h : CH) (H : Hp) (σ : L2.St) (ρ : DE) (Q' : List V → Hp → Prop), SO K CA m h H σ ρ → PostA K CA W m h H σ Q' (t ρ h) → tH σ H Q'
end
/-- operations by values -/
abbrev F1 := D → CH → R D
abbrev F2 := D → D → CH → R D
abbrev FD := List D → CH → R D
def SimR (K : PySem.W.Frag) (CA : CAs) (r : R2) (f : F2) : Prop := ∀ (W : WX) (σ : L2.St) (m : Mp) (h : CH) (H : Hp) (x y : V) (dx dy : D) (Q' : VK), HR K CA m h H → Rp K CA m h H x dx → Rp K CA m h H y dy → PostE K CA W m h H σ Q' (f dx dy h) → r x y H Q'
def SimC (K : PySem.W.Frag) (CA : CAs) (r : List V → Hp → VK → Prop) (f : FD) : Prop := ∀ (W : WX) (σ : L2.St) (m : Mp) (h : CH) (H : Hp) (xs : List V) (ds : List D) (Q' : VK), HR K CA m h H → RpAll K CA m h H xs ds → PostE K CA W m h H σ Q' (f ds h) → r xs H Q'
section
variable {K : PySem.W.Frag} {CA : CAs} {W : WX} {m m1 : Mp} {h h1 : CH} {H H1 : Hp} {σ : L2.St} {α β γ δ : Type} {RR : Mp → CH → Hp → β → α → Prop} {RR2 : Mp → CH → Hp → δ → γ → Prop} {Q1 : β → Hp → Prop} {Q2 : δ → Hp → Prop} {p : Addr} {u : HO} {d : D} {v : V} {Q' : VK}
theorem PostG.from {r : R α} (q : PostG K CA W RR m h H σ Q1 r) (s : Stp m h H m1 h1 H1) : PostG K CA W RR m1 h1 H1 σ Q1 r := by
  cases r with
  | ok a h2 => exact fun m' b H' s' => q m' b H' (s.trans s')
  | ex c fs h2 => exact fun m' cls dd H' s' => q m' cls dd H' (s.trans s')
  | no => exact q
theorem PostG.bind {r : R α} {k : α → CH → R γ} (q : PostG K CA W RR2 m h H σ Q2 (r.bind k))
    (f : ∀ a h1 m1 b H1, Stp m h H m1 h1 H1 → HR K CA m1 h1 H1 → RR m1 h1 H1 b a → PostG K CA W RR2 m1 h1 H1 σ Q2 (k a h1) → Q1 b H1) : PostG K CA W RR m h H σ Q1 r := by
  cases r with
  | ok a h1 => exact fun m1 b H1 s S rr => f a h1 m1 b H1 s S rr (q.from s)
  | ex c fs h1 => exact q
  | no => exact q
theorem PostG.here {a : α} {b : β} (q : PostG K CA W RR m h H σ Q1 (.ok a h)) (S : HR K CA m h H) (r : RR m h H b a) : Q1 b H := q m b H .refl S r
theorem PostG.laid (q : PostE K CA W m h H σ Q' (.ok d h)) (S : HR K CA m h H) (n : H p = none) (r : Rp K CA m h (upd H p u) (.ref p) d) : Q' (.ref p) (upd H p u) := q m _ _ (stp_laid S n) (S.laid n) r
theorem PostG.new {o : MO} (q : PostE K CA W m h H σ Q' (.ok (.ref h.nx) (h.new o))) (S : HR K CA m h H) (n : H p = none) (x : MOk K CA (mpNew m h p) (h.new o) (upd H p u) p o) : Q' (.ref p) (upd H p u) :=
  q (mpNew m h p) _ _ (stp_new S n (upd_new n)) (S.new n (upd_new n) x) (by
    have := Rp.ref (K := K) (CA := CA) (m := mpNew m h p) (h := h.new o) (H := upd H p u) (k := h.nx) (Nat.lt_succ_self _)
    rw [mpNew_nx] at this
    exact this)
theorem rps_laid {vs : List V} {ds : List D} (S : HR K CA m h H) (n : H p = none) (r : RpAll K CA m h H vs ds) : RpAll K CA m h (upd H p u) vs ds := r.move (stp_laid S n)
theorem rps_new {vs : List V} {ds : List D} {o : MO} (S : HR K CA m h H) (n : H p = none) (r : RpAll K CA m h H vs ds) : RpAll K CA (mpNew m h p) (h.new o) (upd H p u) vs ds := r.move (stp_new S n (upd_new n))
end
/-- a new list, dict: a named object (true), or data -/
def mkL (nm : Bool) (ds : List D) (h : CH) : R D := match nm with
  | true => .ok (.ref h.nx) (h.new (.lst ds))
  | false => .ok (.lst ds) h
def mkD (nm : Bool) (ds : List (Key × D)) (h : CH) : R D := match nm with
  | true => .ok (.ref h.nx) (h.new (.dct ds))
  | false => .ok (.dct ds) h
section
variable {K : PySem.W.Frag} {CA : CAs} {W : WX} {m : Mp} {h : CH} {H : Hp} {σ : L2.St} {p : Addr} {Q' : VK}
theorem mkL_post {nm : Bool} {xs : List V} {ds : List D} (S : HR K CA m h H) (n : H p = none) (r : RpAll K CA m h H xs ds) (t : PostE K CA W m h H σ Q' (mkL nm ds h)) : Q' (.ref p) (upd H p (.lst xs)) := by
  cases nm with
  | true => exact PostG.new (show PostE K CA W m h H σ Q' (.ok (.ref h.nx) (h.new (.lst ds))) from t) S n (.lst upd_same (rps_new S n r))
  | false => exact PostG.laid (show PostE K CA W m h H σ Q' (.ok (.lst ds) h) from t) S n (.lst (S.fresh n) upd_same (rps_laid S n r))
theorem mkD_post {nm : Bool} {kvs : List (Key × V)} {dks : List (Key × D)} (S : HR K CA m h H) (n : H p = none) (en : kvs.map (·.1) = dks.map (·.1)) (r : RpAll K CA m h H (kvs.map (·.2)) (dks.map (·.2))) (t : PostE K CA W m h H σ Q' (mkD nm dks h)) : Q' (.ref p) (upd H p (.dK kvs)) := by
  cases nm with
  | true => exact PostG.new (show PostE K CA W m h H σ Q' (.ok (.ref h.nx) (h.new (.dct dks))) from t) S n (.dct upd_same en (rps_new S n r))
  | false => exact PostG.laid (show PostE K CA W m h H σ Q' (.ok (.dct dks) h) from t) S n (.dct (S.fresh n) upd_same rfl en (rps_laid S n r))
end
section
variable (X : Cx) (K : PySem.W.Frag) (CA : CAs) (W : WX)
structure WE (e : Expr) (tH : TE) (t : TD) : Prop where
  pe : PE X e tH
  sim : SimE K CA W tH t
structure WT (e : Expr) (tH : TT) (t : TB) : Prop where
  pe : PT X e tH
  sim : SimT K CA W tH t
structure WW (e : Expr) (tH : TT) (t : TB) : Prop where
  pe : PW X e tH
  sim : SimT K CA W tH t
structure WA (es : List Expr) (tH : TA) (t : TDs) : Prop where
  pe : PA X es tH
  sim : SimA K CA W tH t
end
def dVar (i : Nat) : TD := fun ρ h => match ρ[i]? with
  | some (some d) => .ok d h
  | _ => .no
def dC (d : D) : TD := fun _ h => .ok d h
def dOp (f : F2) (ta tb : TD) : TD := fun ρ h => (ta ρ h).bind fun x h => (tb ρ h).bind fun y h => f x y h
def dUn (f : F1) (ta : TD) : TD := fun ρ h => (ta ρ h).bind f
def dNil : TDs := fun _ h => .ok [] h
def dCons (ta : TD) (ts : TDs) : TDs := fun ρ h => (ta ρ h).bind fun x h => (ts ρ h).bind fun xs h => .ok (x :: xs) h
def dTup (ts : TDs) : TD := fun ρ h => (ts ρ h).bind fun xs h => if xs.length ≤ sizeLine then .ok (.tup xs) h else .no
def dLst (nm : Bool) (ts : TDs) : TD := fun ρ h => (ts ρ h).bind fun xs h => if xs.length ≤ sizeLine then mkL nm xs h else .no
def asB : D → CH → R Bool
  | .bl b, h => .ok b h
  | _, _ => .no
def dB (t : TD) : TB := fun ρ h => (t ρ h).bind asB
def dAnd (t u : TB) : TB := fun ρ h => (t ρ h).bind fun c h => if c = true then u ρ h else .ok false h
def dOr (t u : TB) : TB := fun ρ h => (t ρ h).bind fun c h => if c = true then .ok true h else u ρ h
def dNot (t : TB) : TB := fun ρ h => (t ρ h).bind fun c h => .ok (!c) h
def dAndV (ta tb : TD) : TD := fun ρ h => (ta ρ h).bind fun x h => (asB x h).bind fun c h => if c = true then tb ρ h else .ok (.bl false) h
def dOrV (ta tb : TD) : TD := fun ρ h => (ta ρ h).bind fun x h => (asB x h).bind fun c h => if c = true then .ok (.bl true) h else tb ρ h
def dNotV (ta : TD) : TD := fun ρ h => (ta ρ h).bind fun x h => (asB x h).bind fun c h => .ok (.bl (!c)) h
def dIf (t : TB) (ta tb : TD) : TD := fun ρ h => (t ρ h).bind fun c h => if c = true then ta ρ h else tb ρ h
def dCB (f : FD) (ts : TDs) : TD := fun ρ h => (ts ρ h).bind f
def dChain (f f' : F2) (ta tb tc : TD) : TD := fun ρ h => (ta ρ h).bind fun x h => (tb ρ h).bind fun y h => (f x y h).bind fun z h => (asB z h).bind fun k h =>
  if k = true then (tc ρ h).bind fun w h => f' y w h else .ok (.bl false) h
section
variable {X : Cx} {K : PySem.W.Frag} {CA : CAs} {W : WX} {e a b c : Expr} {es : List Expr} {pos : Pos} {ha hb hc : TE} {ta tb tc : TD} {hs : TA} {ts : TDs} {hA hB : TT} {tA tB : TB} {rest : List Expr}
theorem we_var {i : Nat} (h : PE X e (L2.tVar i)) : WE X K CA W e (L2.tVar i) (dVar i) := ⟨h, fun m h H σ ρ Q' S t => by
  unfold dVar at t
  split at t
  · rename_i d e1
    obtain ⟨v, e2, r⟩ := S.sl i _ e1
    exact ⟨v, e2, t.here S.hr r⟩
  · exact t.elim⟩
theorem we_int {i j} : WE X K CA W (.Constant (.int i) j pos) (L2.tC (.int i)) (dC (.int i)) := ⟨pe_int, fun m h H σ ρ Q' S t => t.here S.hr (.int i)⟩
theorem we_bl {i j} : WE X K CA W (.Constant (.bool i) j pos) (L2.tC (.bl i)) (dC (.bl i)) := ⟨pe_bl, fun m h H σ ρ Q' S t => t.here S.hr (.bl i)⟩
theorem we_non {j} : WE X K CA W (.Constant .none j pos) (L2.tC .non) (dC .non) := ⟨pe_non, fun m h H σ ρ Q' S t => t.here S.hr .non⟩
theorem we_str {x j} : WE X K CA W (.Constant (.str x) j pos) (L2.tC (.str x)) (dC (.str x)) := ⟨pe_str, fun m h H σ ρ Q' S t => t.here S.hr (.str x)⟩
/-- a built-in type as a value -/
theorem we_ty {n : String} (h : PE X e (L2.tC (.ty n))) : WE X K CA W e (L2.tC (.ty n)) (dC (.ty n)) := ⟨h, fun m h H σ ρ Q' S t => t.here S.hr (.ty n)⟩
theorem sim_op {r : R2} {f : F2} {tH tH' : TE} (hs : SimR K CA r f) (ha : SimE K CA W tH ta) (hb : SimE K CA W tH' tb) : SimE K CA W (L2.tOp r tH tH') (dOp f ta tb) :=
  fun m h H σ ρ Q' S t => ha m h H σ ρ _ S (t.bind fun x h1 m1 v H1 s1 S1 r1 t1 =>
    hb m1 h1 H1 σ ρ _ (S.move s1 S1) (t1.bind fun y h2 m2 w H2 s2 S2 r2 t2 => hs W σ m2 h2 H2 v w x y Q' S2 (r1.move s2) r2 t2))
theorem we_op {op : Operator} {r : R2} {f : F2} (ho : OpR X (binaryOp op) r) (s : SimR K CA r f) (xa : WE X K CA W a ha ta) (xb : WE X K CA W b hb tb) : WE X K CA W (.BinOp a op b pos) (L2.tOp r ha hb) (dOp f ta tb) :=
  ⟨pe_op ho xa.pe xb.pe, sim_op s xa.sim xb.sim⟩
theorem we_cmp {op : CmpOp} {r : R2} {f : F2} (ho : OpR X (compareOp op) r) (s : SimR K CA r f) (xa : WE X K CA W a ha ta) (xb : WE X K CA W b hb tb) (hm : behindInMarks op b = false) : WE X K CA W (.Compare a [op] [b] pos) (L2.tOp r ha hb) (dOp f ta tb) :=
  ⟨pe_cmpR ho xa.pe xb.pe hm, sim_op s xa.sim xb.sim⟩
theorem asB_inv {m : Mp} {h : CH} {H : Hp} {σ : L2.St} {x : D} {v : V} {Q : Bool → Hp → Prop} (r : Rp K CA m h H v x) (S : HR K CA m h H) (t : PostT K CA W m h H σ Q (asB x h)) : ∃ b, x = .bl b ∧ v = .bl b ∧ Q b H := by
  cases r <;> first
    | exact t.elim
    | exact ⟨_, rfl, rfl, t.here S rfl⟩
theorem sim_B {tH : TE} (h : SimE K CA W tH ta) : SimT K CA W (fun σ H Q => tH σ H fun x H' => ∃ k, x = .bl k ∧ Q k H') (dB ta) := fun m hh H σ ρ Q' S t =>
  h m hh H σ ρ _ S (t.bind fun x h1 m1 v H1 s1 S1 r1 t1 => by
    obtain ⟨b, _, e, q⟩ := asB_inv r1 S1 t1
    exact ⟨b, e, q⟩)
theorem wt_cmp {op : CmpOp} {r : R2} {f : F2} (ho : OpR X (compareOp op) r) (s : SimR K CA r f) (xa : WE X K CA W a ha ta) (xb : WE X K CA W b hb tb) (hm : behindInMarks op b = false) : WT X K CA W (.Compare a [op] [b] pos) (tTest (L2.tOp r ha hb)) (dB (dOp f ta tb)) :=
  ⟨pt_cmpR ho xa.pe xb.pe hm, sim_B (sim_op s xa.sim xb.sim)⟩
theorem wt_val (h : WE X K CA W e ha ta) (he : ∀ whole, isTrue e X.env whole = (do let v ← whole; standAt e.pos; holding [v] (truthy v)) := by intro _; rfl) : WT X K CA W e (L2.tB ha) (dB ta) := ⟨pt_val h.pe he, sim_B h.sim⟩
theorem asB_bind {α β : Type} {RR : Mp → CH → Hp → β → α → Prop} {m : Mp} {h : CH} {H : Hp} {σ : L2.St} {x : D} {v : V} {Q : β → Hp → Prop} {k : Bool → CH → R α} (r : Rp K CA m h H v x) (t : PostG K CA W RR m h H σ Q ((asB x h).bind k)) : ∃ b, x = .bl b ∧ v = .bl b ∧ PostG K CA W RR m h H σ Q (k b h) := by
  cases r <;> first
    | exact t.elim
    | exact ⟨_, rfl, rfl, t⟩
theorem WW.wt (h : WW X K CA W e hA tA) : WT X K CA W e hA tA := ⟨h.pe.pt, h.sim⟩
theorem ww_and1 (h : WT X K CA W a hA tA) : WW X K CA W (.BoolOp .And [a] pos) hA tA := ⟨pw_and1 h.pe, h.sim⟩
theorem ww_or1 (h : WT X K CA W a hA tA) : WW X K CA W (.BoolOp .Or [a] pos) hA tA := ⟨pw_or1 h.pe, h.sim⟩
theorem ww_and (h : WT X K CA W a hA tA) (h' : WW X K CA W (.BoolOp .And (b :: rest) pos) hB tB) : WW X K CA W (.BoolOp .And (a :: b :: rest) pos) (L2.tAnd hA hB) (dAnd tA tB) := by
  refine ⟨pw_and h.pe h'.pe, fun m hh H σ ρ Q' S t => h.sim m hh H σ ρ _ S (t.bind fun k h1 m1 k' H1 s1 S1 r1 t1 => ?_)⟩
  cases (show k' = k from r1)
  cases k with
  | true => exact h'.sim m1 h1 H1 σ ρ Q' (S.move s1 S1) t1
  | false => exact t1.here S1 rfl
theorem ww_or (h : WT X K CA W a hA tA) (h' : WW X K CA W (.BoolOp .Or (b :: rest) pos) hB tB) : WW X K CA W (.BoolOp .Or (a :: b :: rest) pos) (L2.tOr hA hB) (dOr tA tB) := by
  refine ⟨pw_or h.pe h'.pe, fun m hh H σ ρ Q' S t => h.sim m hh H σ ρ _ S (t.bind fun k h1 m1 k' H1 s1 S1 r1 t1 => ?_)⟩
  cases (show k' = k from r1)
  cases k with
  | false => exact h'.sim m1 h1 H1 σ ρ Q' (S.move s1 S1) t1
  | true => exact t1.here S1 rfl
theorem wt_not (h : WT X K CA W a hA tA) : WT X K CA W (.UnaryOp .Not a pos) (L2.tNot hA) (dNot tA) :=
  ⟨pt_not h.pe, fun m hh H σ ρ Q' S t => h.sim m hh H σ ρ _ S (t.bind fun k h1 m1 k' H1 s1 S1 r1 t1 => by
    cases (show k' = k from r1)
    exact t1.here S1 rfl)⟩
theorem we_one {op} (h : WE X K CA W a ha ta) : WE X K CA W (.BoolOp op [a] pos) ha ta := ⟨pe_one h.pe, h.sim⟩
theorem we_and (h : WE X K CA W a ha ta) (h' : WE X K CA W (.BoolOp .And (b :: rest) pos) hb tb) : WE X K CA W (.BoolOp .And (a :: b :: rest) pos) (L2.tAndV ha hb) (dAndV ta tb) := by
  refine ⟨pe_and h.pe h'.pe, fun m hh H σ ρ Q' S t => h.sim m hh H σ ρ _ S (t.bind fun x h1 m1 v H1 s1 S1 r1 t1 => ?_)⟩
  obtain ⟨k, rfl, e, t2⟩ := asB_bind r1 t1
  refine ⟨k, e, ?_⟩
  cases k with
  | true => exact h'.sim m1 h1 H1 σ ρ Q' (S.move s1 S1) t2
  | false => exact t2.here S1 (.bl false)
theorem we_ifExp (h0 : WT X K CA W c hA tA) (h : WE X K CA W a ha ta) (h' : WE X K CA W b hb tb) : WE X K CA W (.IfExp c a b pos) (L2.tIf hA ha hb) (dIf tA ta tb) := by
  refine ⟨pe_ifExp h0.pe h.pe h'.pe, fun m hh H σ ρ Q' S t => h0.sim m hh H σ ρ _ S (t.bind fun k h1 m1 k' H1 s1 S1 r1 t1 => ?_)⟩
  cases (show k' = k from r1)
  cases k with
  | true => exact h.sim m1 h1 H1 σ ρ Q' (S.move s1 S1) t1
  | false => exact h'.sim m1 h1 H1 σ ρ Q' (S.move s1 S1) t1
theorem wa_nil : WA X K CA W [] L2.tNil dNil := ⟨pa_nil, fun m h H σ ρ Q' S t => t.here S.hr .nil⟩
theorem sim_cons (h : SimE K CA W ha ta) (h' : SimA K CA W hs ts) : SimA K CA W (L2.tCons ha hs) (dCons ta ts) := fun m hh H σ ρ Q' S t =>
  h m hh H σ ρ _ S (t.bind fun x h1 m1 v H1 s1 S1 r1 t1 => h' m1 h1 H1 σ ρ _ (S.move s1 S1) (t1.bind fun xs h2 m2 vs H2 s2 S2 r2 t2 => t2.here S2 (.cons (r1.move s2) r2)))
theorem wa_cons (h : WE X K CA W e ha ta) (h' : WA X K CA W es hs ts) (hst : starEach (e :: es) X.env = (false, eval e X.env) :: starEach es X.env := by rfl) : WA X K CA W (e :: es) (L2.tCons ha hs) (dCons ta ts) :=
  ⟨pa_cons h.pe h'.pe hst, sim_cons h.sim h'.sim⟩
theorem post_ite {α β : Type} {RR : Mp → CH → Hp → β → α → Prop} {m : Mp} {h : CH} {H : Hp} {σ : L2.St} {Q : β → Hp → Prop} {c : Prop} [Decidable c] {r : R α} (t : PostG K CA W RR m h H σ Q (if c then r else .no)) : c ∧ PostG K CA W RR m h H σ Q r := by
  by_cases q : c
  · rw [if_pos q] at t; exact ⟨q, t⟩
  · rw [if_neg q] at t; exact t.elim
theorem we_tup {x1} (h : WA X K CA W es hs ts) : WE X K CA W (.Tuple es x1 pos) (L2.tTup hs) (dTup ts) := by
  refine ⟨pe_tup h.pe, fun m hh H σ ρ Q' S t => h.sim m hh H σ ρ _ S (t.bind fun xs h1 m1 vs H1 s1 S1 r1 t1 => ?_)⟩
  obtain ⟨l, t1⟩ := post_ite t1
  exact ⟨by rw [r1.length]; exact l, fun p n => t1.laid S1 n (.tup (S1.fresh n) upd_same (rps_laid S1 n r1))⟩
theorem we_lst (nm : Bool) (h : WA X K CA W es hs ts) : WE X K CA W (.List es pos) (L2.tLst hs) (dLst nm ts) := by
  refine ⟨pe_lst h.pe, fun m hh H σ ρ Q' S t => h.sim m hh H σ ρ _ S (t.bind fun xs h1 m1 vs H1 s1 S1 r1 t1 => ?_)⟩
  obtain ⟨l, t1⟩ := post_ite t1
  exact ⟨by rw [r1.length]; exact l, fun p n => mkL_post S1 n r1 t1⟩
theorem sim_CB {r : List V → Hp → VK → Prop} {f : FD} {tH : TA} (hs : SimC K CA r f) (ha : SimA K CA W tH ts) : SimE K CA W (tCB r tH) (dCB f ts) := fun m h H σ ρ Q' S t =>
  ha m h H σ ρ _ S (t.bind fun xs h1 m1 vs H1 s1 S1 r1 t1 => hs W σ m1 h1 H1 vs xs Q' S1 r1 t1)
/-- a built-in's call: its own rule h -/
theorem we_cb {r : List V → Hp → VK → Prop} {f : FD} (s : SimC K CA r f) (x : WA X K CA W es hs ts) (h : PA X es hs → PE X e (tCB r hs)) : WE X K CA W e (tCB r hs) (dCB f ts) := ⟨h x.pe, sim_CB s x.sim⟩
theorem we_ix {r : R2} {f : F2} (hr : IxR X r) (s : SimR K CA r f) (xa : WE X K CA W a ha ta) (xb : WE X K CA W b hb tb) (hp : PlainIx b := by exact fun _ _ => rfl) : WE X K CA W (.Subscript a b pos) (L2.tOp r ha hb) (dOp f ta tb) :=
  ⟨pe_ix hr xa.pe xb.pe hp, sim_op s xa.sim xb.sim⟩
def fz : D → CH → R D
  | .ref k, h => match h.ob k with
    | some (.lst ds) => .ok (.lst ds) (h.del k)
    | some (.dct kvs) => .ok (.dct kvs) (h.del k)
    | some (.obj c fs) => .ok (.obj c fs) (h.del k)
    | _ => .no
  | _, _ => .no
/-- .. if it is one -/
def fzI : D → CH → R D
  | .ref k, h => fz (.ref k) h
  | d, h => .ok d h
theorem fz_post {m : Mp} {h : CH} {H : Hp} {σ : L2.St} {v : V} {x : D} {Q' : VK} (S : HR K CA m h H) (r : Rp K CA m h H v x) (t : PostE K CA W m h H σ Q' (fz x h)) : Q' v H := by
  cases r with
  | @ref k l =>
    unfold fz at t
    simp only at t
    have nl : ∀ o, h.ob k = some o → ¬ Live m (h.del k) (m k) := fun o e z => (live_del S e z).2 rfl
    split at t
    · rename_i ds e
      have x := (S.ob k _ e).2
      cases x with
      | lst q r => exact t m _ H (stp_del S e trivial) (S.del e trivial) (.lst (nl _ e) q (r.move (stp_del S e trivial)))
    · rename_i ds e
      have x := (S.ob k _ e).2
      cases x with
      | dct q en r => exact t m _ H (stp_del S e trivial) (S.del e trivial) (.dct (nl _ e) q rfl en (r.move (stp_del S e trivial)))
    · rename_i c ds e
      have x := (S.ob k _ e).2
      cases x with
      | obj q en r => exact t m _ H (stp_del S e trivial) (S.del e trivial) (.obj (nl _ e) q en (r.move (stp_del S e trivial)))
    · exact t.elim
  | _ => exact t.elim
theorem fzI_post {m : Mp} {h : CH} {H : Hp} {σ : L2.St} {v : V} {x : D} {Q' : VK} (S : HR K CA m h H) (r : Rp K CA m h H v x) (t : PostE K CA W m h H σ Q' (fzI x h)) : Q' v H := by
  cases r with
  | ref l => exact fz_post S (.ref l) t
  | lst n e r => exact t.here S (.lst n e r)
  | tup n e r => exact t.here S (.tup n e r)
  | ktup e r => exact t.here S (.ktup e r)
  | dct n e c en r => exact t.here S (.dct n e c en r)
  | obj n e en r => exact t.here S (.obj n e en r)
  | scr n e => exact t.here S (.scr n e)
  | kscr e => exact t.here S (.kscr e)
  | non => exact t.here S .non
  | bl b => exact t.here S (.bl b)
  | int b => exact t.here S (.int b)
  | str b => exact t.here S (.str b)
  | ty b => exact t.here S (.ty b)
  | cls b => exact t.here S (.cls b)
  | exc n e x en r => exact t.here S (.exc n e x en r)
theorem we_fzI (h : WE X K CA W e ha ta) : WE X K CA W e ha (dUn fzI ta) := ⟨h.pe, fun m hh H σ ρ Q' S t => h.sim m hh H σ ρ Q' S (t.bind fun x h1 m1 v H1 s1 S1 r1 t1 => fzI_post S1 r1 t1)⟩
end
end CM
namespace CM
open PySem PySem.Spec PyProof.Rows L2
def lstOf (h : CH) : D → Option (List D)
  | .lst ds => some ds
  | .ref k => match h.ob k with
    | some (.lst ds) => some ds
    | some (.lkl ds) => some ds
    | _ => none
  | _ => none
def seqOf (h : CH) : D → Option (List D)
  | .lst ds => some ds
  | .tup ds => some ds
  | .ref k => match h.ob k with
    | some (.lst ds) => some ds
    | some (.lkl ds) => some ds
    | _ => none
  | _ => none
def dctOf (h : CH) : D → Option (List (Key × D))
  | .dct kvs => some kvs
  | .ref k => match h.ob k with
    | some (.dct kvs) => some kvs
    | some (.lck kvs) => some kvs
    | _ => none
  | _ => none
def flatD : D → Bool
  | .non | .bl _ | .int _ | .str _ => true
  | _ => false
def eqF : D → D → Bool
  | .non, .non => true
  | .bl a, .bl b => a == b
  | .bl a, .int j => (if a then 1 else 0) == j
  | .int i, .bl b => i == (if b then 1 else 0)
  | .int i, .int j => i == j
  | .str x, .str y => x == y
  | _, _ => false
/-- flat data that == tells apart by kind and value -/
def scalD : D → D → Bool
  | .int _, .bl _ => false
  | .bl _, .int _ => false
  | x, y => flatD x && flatD y
/-- as the library's data -/
def toP (h : CH) : Nat → D → Option PyData
  | 0, _ => none
  | n + 1, d => match d with
    | .non => some .none
    | .bl b => some (.bool b)
    | .int i => some (.int i)
    | .str x => some (.str x)
    | .lst xs => (xs.mapM (toP h n)).map .list
    | .tup xs => (xs.mapM (toP h n)).map .tuple
    | .ref k => match h.ob k with
      | some (.lst xs) => (xs.mapM (toP h n)).map .list
      | _ => none
    | _ => none
def keyD : D → Option Key
  | .int i => some (.inl i)
  | .str x => some (.inr x)
  | _ => none
def dGet (kvs : List (Key × D)) (k : Key) : Option D := (kvs.find? fun kv => decide (kv.1 = k)).map (·.2)
def dPut (ps : List (Key × D)) (k : Key) (d : D) : List (Key × D) :=
  if (ps.any fun p => decide (p.1 = k)) = true then ps.map (fun p => if p.1 = k then (p.1, d) else p)
  else ps ++ [(k, d)]
section
variable {K : PySem.W.Frag} {CA : CAs} {m : Mp} {h : CH} {H : Hp} {v : V} {d : D}
theorem sq_emp {a : Addr} {xs : List V} (h : SqT K (fun _ => none) a xs) : SqT K H a xs := by
  rcases h with h | h
  · rcases h with h | ⟨o, h⟩ <;> cases h
  · exact .inr h
theorem sl_emp {a : Addr} {xs : List V} (h : SqL K (fun _ => none) a xs) : SqL K H a xs := by
  rcases h with h | h
  · rcases h with h | ⟨o, h⟩ <;> cases h
  · exact .inr h
theorem rp_lst (S : HR K CA m h H) {ds : List D} (r : Rp K CA m h H v d) (e : lstOf h d = some ds) : ∃ a xs, v = .ref a ∧ H a = some (.lst xs) ∧ RpAll K CA m h H xs ds := by
  cases r with
  | lst n e1 r => cases e; exact ⟨_, _, rfl, e1, r⟩
  | ref l =>
    simp only [lstOf] at e
    split at e
    · rename_i q
      cases e
      have x := (S.ob _ _ q).2
      cases x with
      | lst e1 r => exact ⟨_, _, rfl, e1, r⟩
    · rename_i q
      cases e
      have x := (S.ob _ _ q).2
      cases x with
      | lkl e1 r => exact ⟨_, _, rfl, e1, r⟩
    · cases e
  | _ => cases e
theorem rp_tup {ds : List D} (r : Rp K CA m h H v (.tup ds)) : ∃ a xs, v = .ref a ∧ SqT K H a xs ∧ RpAll K CA m h H xs ds := by
  cases r with
  | tup n e r => exact ⟨_, _, rfl, .of e, r⟩
  | ktup e r => exact ⟨_, _, rfl, sq_emp e, r⟩
theorem rp_seq (S : HR K CA m h H) {ds : List D} (r : Rp K CA m h H v d) (e : seqOf h d = some ds) : ∃ a xs, v = .ref a ∧ (SqL K H a xs ∨ SqT K H a xs) ∧ RpAll K CA m h H xs ds := by
  cases d with
  | tup es =>
    cases e
    obtain ⟨a, xs, e1, e2, r2⟩ := rp_tup r
    exact ⟨a, xs, e1, .inr e2, r2⟩
  | lst es =>
    obtain ⟨a, xs, e1, e2, r2⟩ := rp_lst S r (show lstOf h (.lst es) = some ds from e)
    exact ⟨a, xs, e1, .inl (.of e2), r2⟩
  | ref k =>
    obtain ⟨a, xs, e1, e2, r2⟩ := rp_lst S r (show lstOf h (.ref k) = some ds from e)
    exact ⟨a, xs, e1, .inl (.of e2), r2⟩
  | _ => cases e
theorem rp_dct (S : HR K CA m h H) {ds : List (Key × D)} (r : Rp K CA m h H v d) (e : dctOf h d = some ds) : ∃ a o kvs, v = .ref a ∧ H a = some o ∧ core o = .dK kvs ∧ kvs.map (·.1) = ds.map (·.1) ∧ RpAll K CA m h H (kvs.map (·.2)) (ds.map (·.2)) := by
  cases r with
  | dct n e1 c en r => cases e; exact ⟨_, _, _, rfl, e1, c, en, r⟩
  | ref l =>
    simp only [dctOf] at e
    split at e
    · rename_i q
      cases e
      have x := (S.ob _ _ q).2
      cases x with
      | dct e1 en r => exact ⟨_, _, _, rfl, e1, rfl, en, r⟩
    · rename_i q
      cases e
      have x := (S.ob _ _ q).2
      cases x with
      | lck e1 en r => exact ⟨_, _, _, rfl, e1, rfl, en, r⟩
    · cases e
  | _ => cases e
theorem dget_core {a : Addr} {o : HO} {kvs : List (Key × V)} {k : Key} (e : H a = some o) (c : core o = .dK kvs) : DGet H a (kV k) (valV kvs k) := by
  rcases core_dK c with rfl | ⟨ob, rfl⟩
  · exact .inl ⟨kvs, k, .inl e, rfl, rfl⟩
  · exact .inl ⟨kvs, k, .inr ⟨ob, e⟩, rfl, rfl⟩
theorem rp_key {y : D} {k : Key} (r : Rp K CA m h H v y) (e : keyD y = some k) : v = kV k := by
  cases r <;> first | (cases e; rfl) | cases e
theorem rp_flat (r : Rp K CA m h H v d) (f : flatD d = true) : flatV v = true := by cases r <;> first | rfl | cases f
theorem rp_flats {vs : List V} {ds : List D} (r : RpAll K CA m h H vs ds) (f : ds.all flatD = true) : vs.all flatV = true := by
  induction vs generalizing ds with
  | nil => rfl
  | cons x vs ih => cases r with
    | cons h1 h2 =>
      rw [List.all_cons, Bool.and_eq_true] at f ⊢
      exact ⟨rp_flat h1 f.1, ih h2 f.2⟩
theorem rp_eqV {y x : V} {e c : D} (r : Rp K CA m h H y e) (r' : Rp K CA m h H x c) (f : flatD e = true) (f' : flatD c = true) : eqV y x = eqF e c := by
  cases r <;> first
    | (cases f; done)
    | (cases r' <;> first | rfl | (cases f'; done))
theorem rp_inV {x : V} {c : D} {vs : List V} {ds : List D} (r : RpAll K CA m h H vs ds) (r' : Rp K CA m h H x c) (f : ds.all flatD = true) (f' : flatD c = true) : inV x vs = ds.any fun e => eqF e c := by
  unfold inV
  induction vs generalizing ds with
  | nil => cases r; rfl
  | cons y vs ih => cases r with
    | cons h1 h2 =>
      rw [List.all_cons, Bool.and_eq_true] at f
      rw [List.any_cons, List.any_cons, ih h2 f.2, rp_eqV h1 r' f.1 f']
theorem rp_scal {y x : V} {e c : D} (r : Rp K CA m h H y e) (r' : Rp K CA m h H x c) (s : scalD e c = true) : scal y x = true ∧ decide (y = x) = eqF e c := by
  cases r <;> first
    | (cases r' <;> first
      | exact ⟨rfl, rfl⟩
      | exact ⟨rfl, dec_int⟩
      | exact ⟨rfl, dec_bl⟩
      | exact ⟨rfl, dec_str⟩
      | cases s)
    | (cases s; done)
    | (cases c <;> cases s; done)
theorem rp_dget {k : Key} : ∀ {kvs : List (Key × V)} {ds : List (Key × D)}, kvs.map (·.1) = ds.map (·.1) → RpAll K CA m h H (kvs.map (·.2)) (ds.map (·.2)) →
    (∃ v d, valV kvs k = some v ∧ dGet ds k = some d ∧ Rp K CA m h H v d) ∨ (valV kvs k = none ∧ dGet ds k = none)
  | [], [], _, _ => .inr ⟨rfl, rfl⟩
  | [], _ :: _, e, _ => by simp at e
  | _ :: _, [], e, _ => by simp at e
  | p :: kvs, q :: ds, e, r => by
    obtain ⟨pk, pv⟩ := p
    obtain ⟨qk, qv⟩ := q
    simp only [List.map_cons, List.cons.injEq] at e
    obtain ⟨e1, e2⟩ := e
    subst e1
    cases r with
    | cons r1 r2 =>
      by_cases h : pk = k
      · subst h
        exact .inl ⟨pv, qv, by simp [valV], by simp [dGet], r1⟩
      · rcases rp_dget (k := k) e2 r2 with ⟨v, d, h1, h2, h3⟩ | ⟨h1, h2⟩
        · exact .inl ⟨v, d, by rw [valV_neg h]; exact h1, by simp only [dGet, List.find?_cons, decide_eq_false h]; exact h2, h3⟩
        · exact .inr ⟨by rw [valV_neg h]; exact h1, by simp only [dGet, List.find?_cons, decide_eq_false h]; exact h2⟩
theorem keys_any {κ α β : Type} {k : κ} [DecidableEq κ] : ∀ {kvs : List (κ × α)} {ds : List (κ × β)}, kvs.map (·.1) = ds.map (·.1) → (kvs.any fun kv => decide (kv.1 = k)) = (ds.any fun kv => decide (kv.1 = k))
  | [], [], _ => rfl
  | [], _ :: _, e => by simp at e
  | _ :: _, [], e => by simp at e
  | p :: kvs, q :: ds, e => by
    simp only [List.map_cons, List.cons.injEq] at e
    rw [List.any_cons, List.any_cons, e.1, keys_any e.2]
theorem rp_dput {k : Key} {kvs : List (Key × V)} {ds : List (Key × D)} (e : kvs.map (·.1) = ds.map (·.1)) (r : RpAll K CA m h H (kvs.map (·.2)) (ds.map (·.2))) (r' : Rp K CA m h H v d) :
    (putK kvs k v).map (·.1) = (dPut ds k d).map (·.1) ∧ RpAll K CA m h H ((putK kvs k v).map (·.2)) ((dPut ds k d).map (·.2)) := by
  unfold putK dPut
  rw [keys_any e]
  by_cases q : (ds.any fun kv => decide (kv.1 = k)) = true
  · rw [if_pos q, if_pos q]
    clear q
    induction kvs generalizing ds with
    | nil => cases ds with
      | nil => exact ⟨rfl, .nil⟩
      | cons => simp at e
    | cons p kvs ih => cases ds with
      | nil => simp at e
      | cons q ds =>
        simp only [List.map_cons, List.cons.injEq] at e
        cases r with
        | cons r1 r2 =>
          obtain ⟨i1, i2⟩ := ih e.2 r2
          simp only [List.map_cons]
          by_cases hk : q.1 = k
          · rw [if_pos (e.1.trans hk), if_pos hk]
            exact ⟨by rw [i1, e.1], .cons r' i2⟩
          · rw [if_neg (fun z => hk (e.1.symm.trans z)), if_neg hk]
            exact ⟨by rw [i1, e.1], .cons r1 i2⟩
  · rw [if_neg q, if_neg q]
    simp only [List.map_append, List.map_cons, List.map_nil]
    exact ⟨by rw [e], r.append (.cons r' .nil)⟩
theorem rp_dps_of {f : D → Option PyData} (ih : ∀ (d : D) (v : V) (p : PyData), Rp K CA m h H v d → f d = some p → Dp K H v p) : ∀ (ds : List D) (vs : List V) (ps : List PyData), RpAll K CA m h H vs ds → ds.mapM f = some ps → DpAll K H vs ps
  | [], _, _, r, e => by cases r; simp at e; subst e; exact .nil
  | d :: ds, _, _, r, e => by
    cases r with
    | cons h1 h2 =>
      simp only [List.mapM_cons, Option.bind_eq_bind, Option.bind_eq_some_iff, Option.pure_def, Option.some.injEq] at e
      obtain ⟨p, e1, ps, e2, rfl⟩ := e
      exact .cons (ih d _ p h1 e1) (rp_dps_of ih ds _ ps h2 e2)
theorem rp_dp (S : HR K CA m h H) : ∀ (n : Nat) (d : D) (v : V) (p : PyData), Rp K CA m h H v d → toP h n d = some p → Dp K H v p
  | 0, d, _, _, _, e => by cases d <;> cases e
  | n + 1, .non, _, _, r, e => by cases r; simp only [toP, Option.some.injEq] at e; subst e; exact .non
  | n + 1, .bl b, _, _, r, e => by cases r; simp only [toP, Option.some.injEq] at e; subst e; exact .bl b
  | n + 1, .int b, _, _, r, e => by cases r; simp only [toP, Option.some.injEq] at e; subst e; exact .int b
  | n + 1, .str b, _, _, r, e => by cases r; simp only [toP, Option.some.injEq] at e; subst e; exact .str b
  | n + 1, .lst ds, _, _, r, e => by
    simp only [toP, Option.map_eq_some_iff] at e
    obtain ⟨ps, e1, rfl⟩ := e
    obtain ⟨a, xs, rfl, e2, r2⟩ := rp_lst S r rfl
    exact .lst (.of e2) (rp_dps_of (rp_dp S n) ds xs ps r2 e1)
  | n + 1, .tup ds, _, _, r, e => by
    simp only [toP, Option.map_eq_some_iff] at e
    obtain ⟨ps, e1, rfl⟩ := e
    obtain ⟨a, xs, rfl, e2, r2⟩ := rp_tup r
    exact .tup e2 (rp_dps_of (rp_dp S n) ds xs ps r2 e1)
  | n + 1, .ref k, _, _, r, e => by
    simp only [toP] at e
    split at e
    · rename_i ds q
      simp only [Option.map_eq_some_iff] at e
      obtain ⟨ps, e1, rfl⟩ := e
      obtain ⟨a, xs, rfl, e2, r2⟩ := rp_lst S r (show lstOf h (.ref k) = some ds by simp only [lstOf, q])
      exact .lst (.of e2) (rp_dps_of (rp_dp S n) ds xs ps r2 e1)
    · cases e
  | n + 1, .dct _, _, _, _, e => by simp [toP] at e
  | n + 1, .obj _ _, _, _, _, e => by simp [toP] at e
  | n + 1, .scr _, _, _, _, e => by simp [toP] at e
  | n + 1, .ty _, _, _, _, e => by simp [toP] at e
  | n + 1, .cls _, _, _, _, e => by simp [toP] at e
  | n + 1, .exc _ _, _, _, _, e => by simp [toP] at e
end
instance {i j : Int} : Decidable (CMul i j) := by unfold CMul; infer_instance
instance {i j : Int} : Decidable (CDiv i j) := by unfold CDiv; infer_instance
instance {i j : Int} : Decidable (CPow i j) := by unfold CPow; infer_instance
/-- + -/
def fAdd (nm : Bool) : F2 := fun x y h => match x, y with
  | .int i, .int j => .ok (.int (i + j)) h
  | .str a, .str b => if a.length + b.length ≤ sizeLine then .ok (.str (a ++ b)) h else .no
  | .tup a, .tup b => if a ≠ [] ∧ a.length + b.length ≤ sizeLine then .ok (.tup (a ++ b)) h else .no
  | x, y => match lstOf h x, lstOf h y with
    | some a, some b => if a.length + b.length ≤ sizeLine then mkL nm (a ++ b) h else .no
    | _, _ => .no
def fSubI : F2 := fun x y h => match x, y with
  | .int i, .int j => .ok (.int (i - j)) h
  | _, _ => .no
def fMul (nm : Bool) : F2 := fun x y h => match x, y with
  | .int i, .int j => if CMul i j then .ok (.int (i * j)) h else .no
  | x, .int k => match lstOf h x with
    | some ds => if -(2 ^ 63) ≤ k ∧ k < 2 ^ 63 ∧ ds.length * k.toNat ≤ sizeLine then mkL nm (List.replicate k.toNat ds).flatten h else .no
    | none => .no
  | _, _ => .no
def fDiv : F2 := fun x y h => match x, y with
  | .int i, .int j => if CDiv i j then .ok (.int (i / j)) h else .no
  | _, _ => .no
def fMod : F2 := fun x y h => match x, y with
  | .int i, .int j => if 0 < j then .ok (.int (i % j)) h else .no
  | _, _ => .no
def fPow : F2 := fun x y h => match x, y with
  | .int i, .int j => if CPow i j then .ok (.int (i ^ j.toNat)) h else .no
  | _, _ => .no
def fB (f : Int → Int → Bool) : F2 := fun x y h => match x, y with
  | .int i, .int j => .ok (.bl (f i j)) h
  | _, _ => .no
def bneg (neg b : Bool) : Bool := if neg then !b else b
def fEq (neg : Bool) : F2 := fun x y h => if scalD x y = true then .ok (.bl (bneg neg (eqF x y))) h else match toP h 10 x, toP h 10 y with
  | some p, some q => if SeqAt.shaped p = true ∧ SeqAt.shaped q = true then .ok (.bl (bneg neg (PyData.eqv p q))) h else .no
  | _, _ => .no
def isNon : D → Bool
  | .non => true
  | _ => false
def fIsN (neg : Bool) : F2 := fun x y h => match y with
  | .non => .ok (.bl (bneg neg (isNon x))) h
  | _ => .no
/-- x in y -/
def fIn (neg : Bool) : F2 := fun x y h => match seqOf h y with
  | some ds => if flatD x = true ∧ ds.all flatD = true then .ok (.bl (bneg neg (ds.any fun e => eqF e x))) h else .no
  | none => match dctOf h y, keyD x with
    | some kvs, some k => .ok (.bl (bneg neg (dGet kvs k).isSome)) h
    | _, _ => .no
/-- x[y] -/
def fIx : F2 := fun x y h => match x, y with
  | .str z, .int i => if z.length ≤ sizeLine then (match atI z.cps.toList i with
    | some c => .ok (.str ⟨#[c]⟩) h
    | none => .no) else .no
  | x, y => match seqOf h x, y with
    | some ds, .int i => (match atI ds i with
      | some v => .ok v h
      | none => .no)
    | _, _ => match dctOf h x, keyD y with
      | some kvs, some k => (match dGet kvs k with
        | some v => .ok v h
        | none => .no)
      | _, _ => .no
section
variable {X : Cx} {K : PySem.W.Frag} {CA : CAs} {W : WX} {m : Mp} {h : CH} {H : Hp} {σ : L2.St}
abbrev rAddU (K : PySem.W.Frag) : R2 := fun x y H Q => (rI0 (fun i j => .int (i + j)) x y H Q) ∨ (rCat x y H Q) ∨ (rCatT K x y H Q) ∨ (∃ i j, x = .str i ∧ y = .str j ∧ i.length + j.length ≤ sizeLine ∧ Q (.str (i ++ j)) H)
theorem add_lst {nm : Bool} {x y : D} {v w : V} {Q' : VK} (S : HR K CA m h H) (rx : Rp K CA m h H v x) (ry : Rp K CA m h H w y)
    (t : PostE K CA W m h H σ Q' (match lstOf h x, lstOf h y with | some a, some b => if a.length + b.length ≤ sizeLine then mkL nm (a ++ b) h else .no | _, _ => .no)) : rCat v w H Q' := by
  split at t
  · rename_i a b e1 e2
    obtain ⟨l, t⟩ := post_ite t
    obtain ⟨a, xs, rfl, e1, r1⟩ := rp_lst S rx e1
    obtain ⟨b, ys, rfl, e2, r2⟩ := rp_lst S ry e2
    exact ⟨a, b, xs, ys, rfl, rfl, e1, e2, by rw [r1.length, r2.length]; exact l, fun p n => mkL_post S n (r1.append r2) t⟩
  · exact t.elim
theorem sim_add {nm : Bool} : SimR K CA (rAddU K) (fAdd nm) := by
  intro W σ m h H x y dx dy Q' S rx ry t
  unfold fAdd at t
  split at t
  · cases rx; cases ry; exact .inl ⟨_, _, rfl, rfl, t.here S (.int _)⟩
  · cases rx; cases ry
    obtain ⟨l, t⟩ := post_ite t
    exact .inr (.inr (.inr ⟨_, _, rfl, rfl, l, t.here S (.str _)⟩))
  · obtain ⟨⟨l1, l2⟩, t⟩ := post_ite t
    obtain ⟨a, xs, rfl, e1, r1⟩ := rp_tup rx
    obtain ⟨b, ys, rfl, e2, r2⟩ := rp_tup ry
    refine .inr (.inr (.inl ⟨a, b, xs, ys, rfl, rfl, e1, e2, fun z => l1 ?_, by rw [r1.length, r2.length]; exact l2, fun z => ?_, fun _ p n => ?_⟩))
    · subst z; cases r1; rfl
    · subst z; cases r2
      rw [List.append_nil] at t
      exact t.here S rx
    · exact t.laid S n (.tup (S.fresh n) upd_same (rps_laid S n (r1.append r2)))
  · exact .inr (.inl (add_lst S rx ry t))
theorem op_addU (hK : X.K = K := by rfl) : OpR X (binaryOp .Add) (rAddU K) := by subst hK; exact op_add.or (op_cat.or (op_catT.or op_add_str))
theorem sim_subI : SimR K CA (rI0 fun i j => .int (i - j)) fSubI := by
  intro W σ m h H x y dx dy Q' S rx ry t
  unfold fSubI at t
  split at t
  · cases rx; cases ry; exact ⟨_, _, rfl, rfl, t.here S (.int _)⟩
  · exact t.elim
theorem op_mulU : OpR X (binaryOp .Mult) (fun x y H Q => rI CMul (fun i j => .int (i * j)) x y H Q ∨ rRep x y H Q) := op_mul.or op_rep
theorem rp_rep {vs : List V} {ds : List D} (r : RpAll K CA m h H vs ds) : ∀ n : Nat, RpAll K CA m h H (List.replicate n vs).flatten (List.replicate n ds).flatten
  | 0 => by simp; exact .nil
  | n + 1 => by
    rw [List.replicate_succ, List.replicate_succ, List.flatten_cons, List.flatten_cons]
    exact r.append (rp_rep r n)
theorem sim_mul {nm : Bool} : SimR K CA (fun x y H Q => rI CMul (fun i j => .int (i * j)) x y H Q ∨ rRep x y H Q) (fMul nm) := by
  intro W σ m h H x y dx dy Q' S rx ry t
  unfold fMul at t
  split at t
  · obtain ⟨c, t⟩ := post_ite t
    cases rx; cases ry; exact .inl ⟨_, _, rfl, rfl, c, t.here S (.int _)⟩
  · split at t
    · rename_i e
      obtain ⟨⟨c1, c2, c3⟩, t⟩ := post_ite t
      obtain ⟨a, xs, rfl, e1, r1⟩ := rp_lst S rx e
      cases ry
      exact .inr ⟨a, _, xs, rfl, rfl, e1, c1, c2, by rw [r1.length]; exact c3, fun p n => mkL_post S n (rp_rep r1 _) t⟩
    · exact t.elim
  · exact t.elim
theorem sim_div : SimR K CA (rI CDiv fun i j => .int (i / j)) fDiv := by
  intro W σ m h H x y dx dy Q' S rx ry t
  unfold fDiv at t
  split at t
  · obtain ⟨c, t⟩ := post_ite t
    cases rx; cases ry; exact ⟨_, _, rfl, rfl, c, t.here S (.int _)⟩
  · exact t.elim
theorem sim_mod : SimR K CA (rI (fun _ j => 0 < j) fun i j => .int (i % j)) fMod := by
  intro W σ m h H x y dx dy Q' S rx ry t
  unfold fMod at t
  split at t
  · obtain ⟨c, t⟩ := post_ite t
    cases rx; cases ry; exact ⟨_, _, rfl, rfl, c, t.here S (.int _)⟩
  · exact t.elim
theorem sim_pow : SimR K CA (rI CPow fun i j => .int (i ^ j.toNat)) fPow := by
  intro W σ m h H x y dx dy Q' S rx ry t
  unfold fPow at t
  split at t
  · obtain ⟨c, t⟩ := post_ite t
    cases rx; cases ry; exact ⟨_, _, rfl, rfl, c, t.here S (.int _)⟩
  · exact t.elim
theorem sim_cB {f : Int → Int → Bool} : SimR K CA (rI0 fun i j => .bl (f i j)) (fB f) := by
  intro W σ m h H x y dx dy Q' S rx ry t
  unfold fB at t
  split at t
  · cases rx; cases ry; exact ⟨_, _, rfl, rfl, t.here S (.bl _)⟩
  · exact t.elim
theorem sim_eq : SimR K CA (fun x y H Q => rEq x y H Q ∨ rEqD K x y H Q) (fEq false) := by
  intro W σ m h H x y dx dy Q' S rx ry t
  unfold fEq at t
  split at t
  · rename_i c
    obtain ⟨s, e⟩ := rp_scal rx ry c
    exact .inl ⟨s, by rw [e]; exact t.here S (.bl _)⟩
  · split at t
    · rename_i p q e1 e2
      obtain ⟨⟨c1, c2⟩, t⟩ := post_ite t
      exact .inr ⟨p, q, rp_dp S _ dx x p rx e1, rp_dp S _ dy y q ry e2, c1, c2, t.here S (.bl _)⟩
    · exact t.elim
theorem op_eqU (hu : X.A.units + 64 < cLine) (hK : X.K = K := by rfl) : OpR X (compareOp .Eq) (fun x y H Q => rEq x y H Q ∨ rEqD K x y H Q) := by subst hK; exact op_eq.or (op_eqD hu)
theorem sim_ne : SimR K CA (fun x y H Q => rNe x y H Q ∨ rNeD K x y H Q) (fEq true) := by
  intro W σ m h H x y dx dy Q' S rx ry t
  unfold fEq at t
  split at t
  · rename_i c
    obtain ⟨s, e⟩ := rp_scal rx ry c
    exact .inl ⟨s, by rw [e]; exact t.here S (.bl _)⟩
  · split at t
    · rename_i p q e1 e2
      obtain ⟨⟨c1, c2⟩, t⟩ := post_ite t
      exact .inr ⟨p, q, rp_dp S _ dx x p rx e1, rp_dp S _ dy y q ry e2, c1, c2, t.here S (.bl _)⟩
    · exact t.elim
theorem op_neU (hu : X.A.units + 64 < cLine) (hK : X.K = K := by rfl) : OpR X (compareOp .NotEq) (fun x y H Q => rNe x y H Q ∨ rNeD K x y H Q) := by subst hK; exact op_ne.or (op_neD hu)
theorem sim_isN : SimR K CA (fun x y H Q => y = .non ∧ Q (.bl (decide (x = .non))) H) (fIsN false) := by
  intro W σ m h H x y dx dy Q' S rx ry t
  unfold fIsN at t
  split at t
  · cases ry
    refine ⟨rfl, ?_⟩
    cases rx <;> exact t.here S (.bl _)
  · exact t.elim
def rDIn (neg : Bool) : R2 := fun y x H Q => ∃ a o, x = .ref a ∧ DGet H a y o ∧ Q (.bl (if neg then !o.isSome else o.isSome)) H
theorem op_inDct (hu : X.A.units + 1 < cLine) : OpR X (compareOp .In) (rDIn false) := by
  intro pins s σ H y x u v Q I ry rx h
  obtain ⟨a, o, rfl, g, q⟩ := h
  cases rx
  exact d_in hu I g ry fun s3 I3 => ⟨.bl o.isSome, H, I3, rfl, q⟩
theorem op_notInDct (hu : X.A.units + 1 < cLine) : OpR X (compareOp .NotIn) (rDIn true) := by
  intro pins s σ H y x u v Q I ry rx h
  obtain ⟨a, o, rfl, g, q⟩ := h
  cases rx
  exact d_notIn hu I g ry fun s3 I3 => ⟨.bl (!o.isSome), H, I3, rfl, q⟩
theorem sim_in {neg : Bool} : SimR K CA (fun x y H Q => rIn K neg x y H Q ∨ rDIn neg x y H Q) (fIn neg) := by
  intro W σ m h H x y dx dy Q' S rx ry t
  unfold fIn at t
  split at t
  · rename_i ds e
    obtain ⟨⟨f, fs⟩, t⟩ := post_ite t
    obtain ⟨a, xs, rfl, e1, r1⟩ := rp_seq S ry e
    refine .inl ⟨a, xs, rfl, e1, rp_flat rx f, rp_flats r1 fs, ?_⟩
    rw [rp_inV r1 rx fs f]
    exact t.here S (.bl _)
  · split at t
    · rename_i kvs k e ek
      obtain ⟨a, o, hk, rfl, e1, c, en, r⟩ := rp_dct S ry e
      have ek := rp_key rx ek
      subst ek
      refine .inr ⟨a, valV hk k, rfl, dget_core e1 c, ?_⟩
      rcases rp_dget (k := k) en r with ⟨v, d, h1, h2, _⟩ | ⟨h1, h2⟩
      · rw [h1]; rw [h2] at t; exact t.here S (.bl _)
      · rw [h1]; rw [h2] at t; exact t.here S (.bl _)
    · exact t.elim
theorem op_inU (hu : X.A.units + 1 < cLine) (hK : X.K = K := by rfl) : OpR X (compareOp .In) (fun x y H Q => rIn K false x y H Q ∨ rDIn false x y H Q) := by subst hK; exact op_in_seq.or (op_inDct hu)
theorem op_notInU (hu : X.A.units + 1 < cLine) (hK : X.K = K := by rfl) : OpR X (compareOp .NotIn) (fun x y H Q => rIn K true x y H Q ∨ rDIn true x y H Q) := by subst hK; exact op_notIn_seq.or (op_notInDct hu)
theorem ix_dct (hu : X.A.units + 1 < cLine) : IxR X (fun x y H Q => ∃ a v, x = .ref a ∧ DGet H a y (some v) ∧ Q v H) := by
  intro value slice pins s σ H x y v u Q I rx ry h hs
  obtain ⟨a, z, rfl, g, q⟩ := h
  cases rx
  exact tail_any (dict_typeIs I g) PySem.F.slot_dict_getitem.lookup (d_getItem hu I g ry fun w' s3 I3 rw' => ⟨z, H, I3, rw', q⟩) hs
abbrev rIxU (K : PySem.W.Frag) : R2 := fun x y H Q => rIx K x y H Q ∨ ∃ a v, x = .ref a ∧ DGet H a y (some v) ∧ Q v H
theorem ixU (hu : X.A.units + 1 < cLine) (hK : X.K = K := by rfl) : IxR X (rIxU K) := by subst hK; exact ix_seq.or (ix_dct hu)
theorem atI_rp {vs : List V} {ds : List D} {i : Int} {d : D} (r : RpAll K CA m h H vs ds) (e : atI ds i = some d) : ∃ v, atI vs i = some v ∧ Rp K CA m h H v d := by
  unfold atI at e ⊢
  rw [r.length]
  cases q : ixN ds.length i with
  | none => rw [q] at e; cases e
  | some j =>
    rw [q] at e
    exact r.getD e
theorem sim_ix : SimR K CA (rIxU K) fIx := by
  intro W σ m h H x y dx dy Q' S rx ry t
  unfold fIx at t
  split at t
  · obtain ⟨l, t⟩ := post_ite t
    split at t
    · rename_i c e
      cases rx; cases ry
      exact .inl (.inr (.inr ⟨_, _, c, rfl, rfl, l, e, t.here S (.str _)⟩))
    · exact t.elim
  · split at t
    · rename_i ds i e _
      split at t
      · rename_i d ea
        obtain ⟨a, xs, rfl, e1, r1⟩ := rp_seq S rx e
        cases ry
        obtain ⟨w, e2, r2⟩ := atI_rp r1 ea
        rcases e1 with e1 | e1
        · exact .inl (.inl ⟨a, xs, _, w, rfl, rfl, e1, e2, t.here S r2⟩)
        · exact .inl (.inr (.inl ⟨a, xs, _, w, rfl, rfl, e1, e2, t.here S r2⟩))
      · exact t.elim
    · split at t
      · rename_i kvs k e ek
        split at t
        · rename_i d eg
          obtain ⟨a, o, hk, rfl, e1, c, en, r⟩ := rp_dct S rx e
          have e2 := rp_key ry ek
          subst e2
          rcases rp_dget (k := k) en r with ⟨w, d, h1, h2, h3⟩ | ⟨_, h2⟩
          · rw [h2] at eg
            cases eg
            refine .inr ⟨a, w, rfl, ?_, t.here S h3⟩
            rw [← h1]
            exact dget_core e1 c
          · rw [h2] at eg; cases eg
        · exact t.elim
      · exact t.elim
end
end CM
namespace CM
open PySem PySem.Spec PyProof.Rows L2
section
variable (K : PySem.W.Frag) (CA : CAs) (W : WX)
def PostS (m : Mp) (h : CH) (H : Hp) (D' : Ends) : RS → Prop
  | .nx ρ' h' => ∀ m' σ' H', Stp m h H m' h' H' → SO K CA m' h' H' σ' ρ' → D'.nx σ' H'
  | .rt d h' => ∀ m' v H', Stp m h H m' h' H' → HR K CA m' h' H' → Rp K CA m' h' H' v d → D'.rt v H'
  | .bk ρ' h' => ∀ m' σ' H', Stp m h H m' h' H' → SO K CA m' h' H' σ' ρ' → D'.bk σ' H'
  | .ct ρ' h' => ∀ m' σ' H', Stp m h H m' h' H' → SO K CA m' h' H' σ' ρ' → D'.ct σ' H'
  | .ex ρ' c fs h' => ∀ m' cls dd σ' H', Stp m h H m' h' H' → SO K CA m' h' H' σ' ρ' → XR K CA m' h' H' cls dd c fs → W cls dd σ' H'
  | .no => False
def SimS (tS : TS) (u : SD) : Prop := ∀ (m : Mp) (h : CH) (H : Hp) (σ : L2.St) (ρ : DE) (D' : Ends), SO K CA m h H σ ρ → PostS K CA W m h H D' (u ρ h) → tS D' σ H
end
section
variable (X : Cx) (K : PySem.W.Frag) (CA : CAs) (W : WX)
structure WS (st : Stmt) (tS : TS) (u : SD) : Prop where
  pe : PS X st tS
  sim : SimS K CA W tS u
structure WSs (st : List Stmt) (tS : TS) (u : SD) : Prop where
  pe : PSs X st tS
  sim : SimS K CA W tS u
end
section
variable {K : PySem.W.Frag} {CA : CAs} {W : WX} {m m1 : Mp} {h h1 : CH} {H H1 : Hp} {σ : L2.St} {ρ : DE} {D' : Ends} {α β : Type} {RR : Mp → CH → Hp → β → α → Prop} {Q1 : β → Hp → Prop}
theorem PostS.from {r : RS} (q : PostS K CA W m h H D' r) (s : Stp m h H m1 h1 H1) : PostS K CA W m1 h1 H1 D' r := by
  cases r with
  | nx ρ' h' => exact fun m' σ' H' s' => q m' σ' H' (s.trans s')
  | rt d h' => exact fun m' v H' s' => q m' v H' (s.trans s')
  | bk ρ' h' => exact fun m' σ' H' s' => q m' σ' H' (s.trans s')
  | ct ρ' h' => exact fun m' σ' H' s' => q m' σ' H' (s.trans s')
  | ex ρ' c fs h' => exact fun m' cls dd σ' H' s' => q m' cls dd σ' H' (s.trans s')
  | no => exact q
theorem PostS.bind {r : R α} {k : α → CH → RS} (S : SO K CA m h H σ ρ) (q : PostS K CA W m h H D' (r.toS ρ k))
    (f : ∀ a h1 m1 b H1, Stp m h H m1 h1 H1 → HR K CA m1 h1 H1 → RR m1 h1 H1 b a → PostS K CA W m1 h1 H1 D' (k a h1) → Q1 b H1) : PostG K CA W RR m h H σ Q1 r := by
  cases r with
  | ok a h1 => exact fun m1 b H1 s S1 rr => f a h1 m1 b H1 s S1 rr (q.from s)
  | ex c fs h1 => exact fun m' cls dd H' s S1 x => q m' cls dd σ H' s (S.move s S1) x
  | no => exact q
end
def dNext : SD := fun ρ h => .nx ρ h
def RS.bind (r : RS) (w : SD) : RS := match r with
  | .nx ρ h => w ρ h
  | r => r
def dSeq (u w : SD) : SD := fun ρ h => (u ρ h).bind w
def dIfS (c : TB) (u w : SD) : SD := fun ρ h => (c ρ h).toS ρ fun b h => if b = true then u ρ h else w ρ h
def dRet (t : TD) : SD := fun ρ h => (t ρ h).toS ρ fun d h => .rt d h
def dDrop (t : TD) : SD := fun ρ h => (t ρ h).toS ρ fun _ h => .nx ρ h
abbrev TGD := D → DE → CH → R DE
abbrev TGDs := List D → DE → CH → R DE
def gdName (i : Nat) : TGD := fun d ρ h => .ok (ρ.set i (some d)) h
def gdNil : TGDs := fun ds ρ h => match ds with
  | [] => .ok ρ h
  | _ => .no
def gdCons (t : TGD) (u : TGDs) : TGDs := fun ds ρ h => match ds with
  | d :: r => (t d ρ h).bind fun ρ h => u r ρ h
  | [] => .no
/-- a tuple's parts -/
def gdTup (n : Nat) (t : TGDs) : TGD := fun d ρ h => match d with
  | .tup ds => if ds.length = n then t ds ρ h else .no
  | _ => .no
/-- a target's storing: no exception may come of it -/
def R.put (r : R DE) (k : SD) : RS := match r with
  | .ok ρ h => k ρ h
  | _ => .no
def dAsg (t : TD) (tg : TGD) : SD := fun ρ h => (t ρ h).toS ρ fun d h => (tg d ρ h).put fun ρ h => .nx ρ h
def dPar (i j : Nat) (ts : TDs) : SD := fun ρ h => (ts ρ h).toS ρ fun ds h => match ds with
  | [x, y] => .nx ((ρ.set i (some x)).set j (some y)) h
  | _ => .no
/-- for, over the items -/
def dForL (tg : TGD) (u : SD) : List D → SD
  | [], ρ, h => .nx ρ h
  | d :: r, ρ, h => (tg d ρ h).put fun ρ1 h1 => match u ρ1 h1 with
    | .nx ρ2 h2 => dForL tg u r ρ2 h2
    | .ct ρ2 h2 => dForL tg u r ρ2 h2
    | .bk ρ2 h2 => .nx ρ2 h2
    | x => x
/-- what is unlocked behind a walk -/
abbrev Unl := Option (Nat × MO)
def unlH : Unl → CH → CH
  | none, h => h
  | some (k, o), h => h.put k o
def RS.unl (u : Unl) : RS → RS
  | .nx ρ h => .nx ρ (unlH u h)
  | .rt d h => .rt d (unlH u h)
  | .bk ρ h => .bk ρ (unlH u h)
  | .ct ρ h => .ct ρ (unlH u h)
  | r => r
def R.unl {α : Type} (u : Unl) : R α → R α
  | .ok a h => .ok a (unlH u h)
  | r => r
abbrev TDw := DE → CH → R (List D × Unl)
def dFor (t : TDw) (tg : TGD) (u : SD) : SD := fun ρ h => (t ρ h).toS ρ fun w h => (dForL tg u w.1 ρ h).unl w.2
/-- while, at most so many turns -/
def dWhile (c : TB) (u : SD) : Nat → SD
  | 0, _, _ => .no
  | n + 1, ρ, h => (c ρ h).toS ρ fun b h1 => if b = true then (match u ρ h1 with
    | .nx ρ2 h2 => dWhile c u n ρ2 h2
    | .ct ρ2 h2 => dWhile c u n ρ2 h2
    | .bk ρ2 h2 => .nx ρ2 h2
    | x => x) else .nx ρ h1
section
variable {K : PySem.W.Frag} {CA : CAs} {W : WX} {t t' : TS} {u w : SD} {tH : TE} {tT : TT} {d : TD} {tB : TB}
theorem sim_next : SimS K CA W tNext dNext := fun m h H σ ρ D' S q => q m σ H .refl S
theorem sim_seq (x : SimS K CA W t u) (y : SimS K CA W t' w) : SimS K CA W (tSeq t t') (dSeq u w) := fun m h H σ ρ D' S q =>
  x m h H σ ρ { D' with nx := t' D' } S (by
    unfold dSeq at q
    cases e : u ρ h with
    | nx ρ' h' => rw [e] at q; exact fun m' σ' H' s S' => y m' h' H' σ' ρ' D' S' (PostS.from (show PostS K CA W m h H D' (w ρ' h') from q) s)
    | rt d h' => rw [e] at q; exact q
    | bk d h' => rw [e] at q; exact q
    | ct d h' => rw [e] at q; exact q
    | ex ρ' c fs h' => rw [e] at q; exact q
    | no => rw [e] at q; exact q)
theorem sim_ifS (hc : SimT K CA W tT tB) (x : SimS K CA W t u) (y : SimS K CA W t' w) : SimS K CA W (tIfS tT t t') (dIfS tB u w) := fun m h H σ ρ D' S q =>
  hc m h H σ ρ _ S (PostS.bind S q fun b h1 m1 b' H1 s1 S1 e q1 => by
    cases (show b' = b from e)
    cases b with
    | true => exact x m1 h1 H1 σ ρ D' (S.move s1 S1) q1
    | false => exact y m1 h1 H1 σ ρ D' (S.move s1 S1) q1)
theorem sim_ret (x : SimE K CA W tH d) : SimS K CA W (tRet tH) (dRet d) := fun m h H σ ρ D' S q =>
  x m h H σ ρ _ S (PostS.bind S q fun a h1 m1 v H1 s1 S1 r q1 => q1 m1 v H1 .refl S1 r)
theorem sim_drop (x : SimE K CA W tH d) : SimS K CA W (tDrop tH) (dDrop d) := fun m h H σ ρ D' S q =>
  x m h H σ ρ _ S (PostS.bind S q fun a h1 m1 v H1 s1 S1 r q1 => q1 m1 σ H1 .refl (S.move s1 S1))
end
section
variable (K : PySem.W.Frag) (CA : CAs) (W : WX)
def PostT' (m : Mp) (h : CH) (H : Hp) (σ : L2.St) (sl : List Nat) (Q' : L2.St → Hp → Prop) : R DE → Prop
  | .ok ρ' h' => ∀ m' σ' H', Stp m h H m' h' H' → SO K CA m' h' H' σ' ρ' → σ'.length = σ.length → (∀ j, j ∉ sl → σ'[j]? = σ[j]?) → Q' σ' H'
  | .ex _ _ _ => False
  | .no => False
def SimG (sl : List Nat) (gH : TG) (tg : TGD) : Prop := ∀ (m : Mp) (h : CH) (H : Hp) (σ : L2.St) (ρ : DE) (v : V) (d : D) (Q' : L2.St → Hp → Prop), SO K CA m h H σ ρ → Rp K CA m h H v d → PostT' K CA m h H σ sl Q' (tg d ρ h) → gH v σ H Q'
def SimGs (sl : List Nat) (gH : TGs) (tg : TGDs) : Prop := ∀ (m : Mp) (h : CH) (H : Hp) (σ : L2.St) (ρ : DE) (vs : List V) (ds : List D) (Q' : L2.St → Hp → Prop), SO K CA m h H σ ρ → RpAll K CA m h H vs ds → PostT' K CA m h H σ sl Q' (tg ds ρ h) → gH vs σ H Q'
end
section
variable (X : Cx) (K : PySem.W.Frag) (CA : CAs) (W : WX)
structure WG (e : Expr) (sl : List Nat) (gH : TG) (tg : TGD) : Prop where
  pe : PG X e gH
  sim : SimG K CA sl gH tg
structure WGs (es : List Expr) (sl : List Nat) (gH : TGs) (tg : TGDs) : Prop where
  pe : PGs X es gH
  sim : SimGs K CA sl gH tg
end
section
variable {X : Cx} {K : PySem.W.Frag} {CA : CAs} {W : WX} {e a b c : Expr} {es : List Expr} {gH : TG} {tg : TGD} {gHs : TGs} {tgs : TGDs} {pos : Pos} {st : Stmt} {sts rest x y : List Stmt} {tu tw : TS} {u w : SD} {ha : TE} {ta : TD} {hs : TA} {ts : TDs} {hB : TT} {tB : TB}
theorem PostT'.mono {m m1 : Mp} {h h1 : CH} {H H1 : Hp} {σ σ1 : L2.St} {s1 s2 : List Nat} {Q' : L2.St → Hp → Prop} {r : R DE} (q : PostT' K CA m h H σ s2 Q' r) (s : Stp m h H m1 h1 H1) (l : σ1.length = σ.length) (k : ∀ j, j ∉ s2 → σ1[j]? = σ[j]?) (sub : ∀ j, j ∈ s1 → j ∈ s2) : PostT' K CA m1 h1 H1 σ1 s1 Q' r := by
  cases r with
  | ok ρ' h' => exact fun m' σ' H' s' S' l' k' => q m' σ' H' (s.trans s') S' (l'.trans l) fun j hj => (k' j fun z => hj (sub j z)).trans (k j hj)
  | ex c fs h' => exact q
  | no => exact q
theorem sim_gName {i : Nat} : SimG K CA [i] (gName i) (gdName i) := fun m h H σ ρ v d Q' S r k => k m _ H .refl (S.set i r) (by simp) fun j hj => List.getElem?_set_ne (fun z => hj (by simp [z]))
theorem wg_name {i : Nat} (h : PG X e (gName i)) : WG X K CA e [i] (gName i) (gdName i) := ⟨h, sim_gName⟩
theorem wgs_nil : WGs X K CA [] [] gNil gdNil := ⟨pgs_nil, fun m h H σ ρ vs ds Q' S r k => by
  cases r with
  | nil => exact ⟨rfl, k m σ H .refl S rfl fun _ _ => rfl⟩
  | cons => exact k.elim⟩
theorem wgs_cons {s1 s2 : List Nat} (h : WG X K CA e s1 gH tg) (h' : WGs X K CA es s2 gHs tgs) (hst : (assignEach (e :: es) X.env).map (·.2) = assign e X.env :: (assignEach es X.env).map (·.2) := by rfl) : WGs X K CA (e :: es) (s1 ++ s2) (gCons gH gHs) (gdCons tg tgs) := by
  refine ⟨pgs_cons h.pe h'.pe hst, fun m hh H σ ρ vs ds Q' S r q => ?_⟩
  cases r with
  | nil => exact q.elim
  | @cons v vs d ds r1 r2 =>
    refine ⟨v, vs, rfl, h.sim m hh H σ ρ v d _ S r1 ?_⟩
    simp only [gdCons] at q
    cases e : tg d ρ hh with
    | ok ρ' h1 =>
      rw [e] at q
      exact fun m1 σ1 H1 st1 S1 l1 k1 => h'.sim m1 h1 H1 σ1 ρ' vs ds Q' S1 (r2.move st1) (PostT'.mono (show PostT' K CA m hh H σ (s1 ++ s2) Q' (tgs ds ρ' h1) from q) st1 l1 (fun j hj => k1 j fun z => hj (List.mem_append_left _ z)) fun j hj => List.mem_append_right _ hj)
    | ex c fs h1 => rw [e] at q; exact q
    | no => rw [e] at q; exact q
theorem wg_tup {n k : Nat} {sl : List Nat} (hc : X.calm = true) (h : WGs X K CA es sl gHs tgs) (hn : (assignEach es X.env).length = n := by rfl) (hst : (assignEach es X.env).findIdx? (·.1) = none := by rfl) (hK : X.K = K := by rfl) : WG X K CA (.Tuple es k pos) sl (gTup K n gHs) (gdTup n tgs) := by
  subst hK
  refine ⟨pg_tup hc h.pe hn hst, fun m hh H σ ρ v d Q' S r q => ?_⟩
  cases d with
  | tup ds =>
    simp only [gdTup] at q
    by_cases hl : ds.length = n
    · rw [if_pos hl] at q
      obtain ⟨a, xs, rfl, e1, r1⟩ := rp_tup r
      exact ⟨a, xs, rfl, e1, r1.length.trans hl, h.sim m hh H σ ρ xs ds Q' S r1 q⟩
    · rw [if_neg hl] at q; exact q.elim
  | _ => exact q.elim
theorem wss_nil : WSs X K CA W [] tNext dNext := ⟨pss_nil, sim_next⟩
theorem wss_cons (h : WS X K CA W st tu u) (h' : WSs X K CA W rest tw w) : WSs X K CA W (st :: rest) (tSeq tu tw) (dSeq u w) := ⟨pss_cons h.pe h'.pe, sim_seq h.sim h'.sim⟩
theorem wss_one (h : WS X K CA W st tu u) : WSs X K CA W [st] tu u := ⟨pss_one h.pe, h.sim⟩
theorem ws_expr (h : WE X K CA W e ha ta) (hsw : swapsWith e none pos.line X.env = pure false := by rfl) : WS X K CA W (.Expr e pos) (tDrop ha) (dDrop ta) := ⟨ps_expr h.pe hsw, sim_drop h.sim⟩
theorem ws_ret (h : WE X K CA W e ha ta) : WS X K CA W (.Return (some e) pos) (tRet ha) (dRet ta) := ⟨ps_ret h.pe, sim_ret h.sim⟩
theorem ws_if (h0 : WT X K CA W c hB tB) (h : WSs X K CA W x tu u) (h' : WSs X K CA W y tw w) : WS X K CA W (.If c x y pos) (tIfS hB tu tw) (dIfS tB u w) := ⟨ps_if h0.pe h.pe h'.pe, sim_ifS h0.sim h.sim h'.sim⟩
theorem put_post {sl : List Nat} {m : Mp} {h : CH} {H : Hp} {σ : L2.St} {D' : Ends} {r : R DE} {k : SD} {Q' : L2.St → Hp → Prop} (q : PostS K CA W m h H D' (r.put k)) (f : ∀ ρ' h' m' σ' H', Stp m h H m' h' H' → SO K CA m' h' H' σ' ρ' → PostS K CA W m' h' H' D' (k ρ' h') → Q' σ' H') : PostT' K CA m h H σ sl Q' r := by
  cases r with
  | ok ρ' h2 => exact fun m2 σ2 H2 s2 S2 _ _ => f ρ' h2 m2 σ2 H2 s2 S2 (PostS.from (show PostS K CA W m h H D' (k ρ' h2) from q) s2)
  | ex c fs h2 => exact q
  | no => exact q
theorem sim_asg {sl : List Nat} (h : SimE K CA W ha ta) (hg : SimG K CA sl gH tg) : SimS K CA W (tAsg ha gH) (dAsg ta tg) := fun m hh H σ ρ D' S q =>
  h m hh H σ ρ _ S (PostS.bind S q fun d h1 m1 v H1 s1 S1 r q1 => hg m1 h1 H1 σ ρ v d _ (S.move s1 S1) r (put_post q1 fun ρ' h' m' σ' H' s' S' q' => q' m' σ' H' .refl S'))
theorem ws_asg {sl : List Nat} (h : WE X K CA W e ha ta) (hg : WG X K CA a sl gH tg) (hsw : swapsWithSole [a] e pos.line X.env = pure false := by rfl) (hw : swappedStores [a] e X.env = pure none := by rfl)
    (h1 : (assignEach [a] X.env).map (·.2) = [assign a X.env] := by rfl) : WS X K CA W (.Assign [a] e pos) (tAsg ha gH) (dAsg ta tg) := ⟨ps_asg h.pe hg.pe hsw hw h1, sim_asg h.sim hg.sim⟩
/-- x = e: hp is the rule ps_set .. -/
theorem ws_set {i : Nat} (h : WE X K CA W e ha ta) (hp : PE X e ha → PS X st (tAsg ha (gName i))) : WS X K CA W st (tAsg ha (gName i)) (dAsg ta (gdName i)) :=
  ⟨hp h.pe, sim_asg h.sim sim_gName⟩
theorem ws_par {i j : Nat} (h : WA X K CA W es hs ts) (hp : PA X es hs → PS X st (tPar i j hs)) : WS X K CA W st (tPar i j hs) (dPar i j ts) := by
  refine ⟨hp h.pe, fun m hh H σ ρ D' S q => h.sim m hh H σ ρ _ S (PostS.bind S q fun ds h1 m1 vs H1 s1 S1 r q1 => ?_)⟩
  split at q1
  · cases r with
    | @cons v _ _ _ r1 r2 =>
      cases r2 with
      | @cons v' _ _ _ r2 r3 =>
        cases r3
        exact ⟨v, v', rfl, q1 m1 _ H1 .refl (((S.move s1 S1).set i r1).set j r2)⟩
  · exact q1.elim
end
section
variable (K : PySem.W.Frag) (CA : CAs) (W : WX)
/-- the iterator J gives the items ds, whatever the body does -/
structure Wk (m : Mp) (h : CH) (H : Hp) (J : It) (ds : List D) : Prop where
  go : ∀ (i : Nat) (m' : Mp) (h' : CH) (H' : Hp) (d : D), Sz m h H m' h' H' → HR K CA m' h' H' → ds[i]? = some d → J.go i H' ∧ ∀ x H2, J.yld i H' x H2 → (∀ a u, H' a = some u → H2 a = some u) ∧ Rp K CA m' h' H2 x d
  stop : ∀ (m' : Mp) (h' : CH) (H' : Hp), Sz m h H m' h' H' → HR K CA m' h' H' → J.stop ds.length H'
/-- .. and what was locked for the walk may be unlocked -/
def UnlOk (H0 : Hp) (m : Mp) (h : CH) (H : Hp) (m' : Mp) (h' : CH) (H' : Hp) : Unl → Prop
  | none => True
  | some (k, o) => ∀ m2 h2 H2, Stp m' h' H' m2 h2 H2 → HR K CA m2 h2 H2 → ∃ o' H3, h2.ob k = some o' ∧ (H3 = H2 ∨ ∃ od hk, H2 (m2 k) = some (.frz od (.dK hk)) ∧ (∀ o' u', H0 (m2 k) ≠ some (.frz o' u')) ∧ H3 = upd H2 (m2 k) (.dK hk)) ∧
      Stp m h H m2 (h2.put k o) H3 ∧ HR K CA m2 (h2.put k o) H3
def PostI (H0 : Hp) (m : Mp) (h : CH) (H : Hp) (σ : L2.St) (R' : It → Hp → Prop) : R (List D × Unl) → Prop
  | .ok w h' => ∀ m' J H', Stp m h H m' h' H' → HR K CA m' h' H' → Wk K CA m' h' H' J w.1 → UnlOk K CA H0 m h H m' h' H' w.2 → R' J H'
  | .ex c fs h' => ∀ m' cls dd H', Stp m h H m' h' H' → HR K CA m' h' H' → XR K CA m' h' H' cls dd c fs → W cls dd σ H'
  | .no => False
def SimI (H0 : Hp) (wH : TI) (t : TDw) : Prop := ∀ (m : Mp) (h : CH) (H : Hp) (σ : L2.St) (ρ : DE) (R' : It → Hp → Prop), SO K CA m h H σ ρ → PostI K CA W H0 m h H σ R' (t ρ h) → wH σ H R'
end
section
variable (X : Cx) (K : PySem.W.Frag) (CA : CAs) (W : WX)
structure WI (tg iter : Expr) (wH : TI) (t : TDw) : Prop where
  pe : PI X tg iter wH
  sim : SimI K CA W X.H_0 wH t
end
/-- a state behind which something locked is unlocked -/
def UnlP (X : Cx) (P : Hp → Prop) (H : Hp) : Prop := P H ∨ ∃ d od u, H d = some (.frz od u) ∧ (∀ o' u', X.H_0 d ≠ some (.frz o' u')) ∧ P (upd H d u)
def unlE (X : Cx) (D : Ends) : Ends := ⟨fun σ => UnlP X (D.nx σ), fun v => UnlP X (D.rt v), fun σ => UnlP X (D.bk σ), fun σ => UnlP X (D.ct σ)⟩
theorem unl_inv {X : Cx} {pins : List (Addr × Obj)} {σ : L2.St} {H : Hp} {s : Shared} {P : Hp → Prop} (I : Inv X pins σ H s) (q : UnlP X P H) : ∃ H', Inv X pins σ H' s ∧ P H' := by
  rcases q with q | ⟨d, od, u, e, n, q⟩
  · exact ⟨H, I, q⟩
  · exact ⟨_, I.unlock e n, q⟩
theorem ps_unl {X : Cx} {st : Stmt} {t : TS} (x : PS X st t) : PS X st (fun D σ H => t (unlE X D) σ H) := by
  refine ⟨fun pins s σ H D I hw => thn (x.run pins s σ H _ I hw) fun f s1 q => ?_⟩
  cases f with
  | next => obtain ⟨σ', H', I2, q⟩ := q; obtain ⟨H2, I3, q⟩ := unl_inv I2 q; exact ⟨σ', H2, I3, q⟩
  | brk => obtain ⟨σ', H', I2, q⟩ := q; obtain ⟨H2, I3, q⟩ := unl_inv I2 q; exact ⟨σ', H2, I3, q⟩
  | cont => obtain ⟨σ', H', I2, q⟩ := q; obtain ⟨H2, I3, q⟩ := unl_inv I2 q; exact ⟨σ', H2, I3, q⟩
  | ret v => obtain ⟨y, σ', H', I2, r, q⟩ := q; obtain ⟨H2, I3, q⟩ := unl_inv I2 q; exact ⟨y, σ', H2, I3, r, q⟩
theorem pe_unl {X : Cx} {e : Expr} {t : TE} (x : PE X e t) : PE X e (fun σ H Q => t σ H fun v => UnlP X (Q v)) := by
  refine ⟨fun pins s σ H Q I hw => thn (x.run pins s σ H _ I hw) fun v s1 q => ?_⟩
  obtain ⟨y, H1, I2, r, q⟩ := q
  obtain ⟨H2, I3, q⟩ := unl_inv I2 q
  exact ⟨y, H2, I3, r, q⟩
def itemsD (h : CH) : D → Option (List D)
  | .lst ds => some ds
  | .tup ds => some ds
  | .scr ns => some (ns.map D.int)
  | _ => none
/-- what is walked: the items -/
def lockD (d : D) (h : CH) : R (List D × Unl) := match d with
  | .ref k => match h.ob k with
    | some (.lst ds) => .ok (ds, some (k, .lst ds)) (h.put k (.lkl ds))
    | some (.lkl ds) => .ok (ds, none) h
    | _ => .no
  | _ => .no
def dSeqI (t : TD) : TDw := fun ρ h => (t ρ h).bind fun d h => match itemsD h d with
  | some ds => .ok (ds, none) h
  | none => lockD d h
def rgD (a : Int) (n : Nat) : List D := (List.range n).map fun (i : Nat) => D.int (a + (i : Int))
def dRng1 (ts : TDs) : TDw := fun ρ h => (ts ρ h).bind fun ds h => match ds with
  | [.int n] => if -(2 ^ 62) ≤ n ∧ n < 2 ^ 62 then .ok (rgD 0 n.toNat, none) h else .no
  | _ => .no
def enD : Nat → List D → List D
  | _, [] => []
  | i, d :: r => .tup [.int (i : Int), d] :: enD (i + 1) r
section
variable {X : Cx} {K : PySem.W.Frag} {CA : CAs} {W : WX} {e a b l c tge iter : Expr} {es : List Expr} {gH : TG} {tg : TGD} {pos p : Pos} {st : Stmt} {sts rest body : List Stmt} {tb : TS} {u w : SD} {ha : TE} {ta : TD} {hs : TA} {wH : TI} {ts : TDs} {ti : TDw} {hB : TT} {tB : TB}
theorem sim_forL {sl : List Nat} (s' : SimG K CA sl gH tg) (s'' : SimS K CA W tb u) {m : Mp} {h : CH} {H : Hp} {σ : L2.St} {ρ : DE} {D' : Ends} {J : It} {ds : List D} (S : SO K CA m h H σ ρ) (wk : Wk K CA m h H J ds) (q : PostS K CA W m h H D' (dForL tg u ds ρ h)) :
    ∃ (Wl : Nat → Nat → L2.St → Hp → Prop), (∃ n, Wl 0 n σ H) ∧ ∀ i n σ' H', Wl i n σ' H' → (J.stop i H' ∧ D'.nx σ' H') ∨ (J.go i H' ∧ ∃ Nx : L2.St → Hp → Prop, (∀ σ3 H3, Nx σ3 H3 → ∃ n', n' < n ∧ Wl (i + 1) n' σ3 H3) ∧
      ∀ x H2, J.yld i H' x H2 → gH x σ' H2 fun σ2 H2' => tb { D' with nx := Nx, ct := Nx, bk := D'.nx } σ2 H2') := by
  refine ⟨fun i n σ' H' => n + i = ds.length ∧ ∃ m' h' ρ', Stp m h H m' h' H' ∧ SO K CA m' h' H' σ' ρ' ∧ PostS K CA W m' h' H' D' (dForL tg u (ds.drop i) ρ' h'), ⟨ds.length, rfl, m, h, ρ, .refl, S, q⟩, ?_⟩
  rintro i n σ' H' ⟨hm, m', h', ρ', st', S', q'⟩
  cases hd : ds[i]? with
  | none =>
    have hlen : ds.length ≤ i := List.getElem?_eq_none_iff.mp hd
    obtain rfl : i = ds.length := by omega
    rw [List.drop_length] at q'
    exact .inl ⟨wk.stop m' h' H' st'.toSz S'.hr, q' m' σ' H' .refl S'⟩
  | some d =>
    obtain ⟨hlt, ed⟩ := List.getElem?_eq_some_iff.mp hd
    rw [List.drop_eq_getElem_cons hlt, ed] at q'
    obtain ⟨go, yl⟩ := wk.go i m' h' H' d st'.toSz S'.hr hd
    refine .inr ⟨go, fun σ3 H3 => ∃ m3 h3 ρ3, Stp m h H m3 h3 H3 ∧ SO K CA m3 h3 H3 σ3 ρ3 ∧ PostS K CA W m3 h3 H3 D' (dForL tg u (ds.drop (i + 1)) ρ3 h3), fun σ3 H3 n3 => ⟨n - 1, by omega, by omega, n3⟩, fun x H2 y2 => ?_⟩
    obtain ⟨gr, r2⟩ := yl x H2 y2
    have a2 := stp_grow S'.hr gr
    have w2 := S'.hr.grow gr
    have q2 := q'.from a2
    unfold dForL at q2
    refine s' m' h' H2 σ' ρ' x d _ (S'.move a2 w2) r2 (put_post q2 fun ρ4 h4 m4 σ4 H4 s4 S4 q4 => ?_)
    refine s'' m4 h4 H4 σ4 ρ4 _ S4 ?_
    have stp4 : Stp m h H m4 h4 H4 := (st'.trans a2).trans s4
    cases e : u ρ4 h4 with
    | nx ρ5 h5 => rw [e] at q4; exact fun m5 σ5 H5 s5 S5 => ⟨m5, h5, ρ5, stp4.trans s5, S5, q4.from s5⟩
    | ct ρ5 h5 => rw [e] at q4; exact fun m5 σ5 H5 s5 S5 => ⟨m5, h5, ρ5, stp4.trans s5, S5, q4.from s5⟩
    | bk ρ5 h5 => rw [e] at q4; exact q4
    | rt d5 h5 => rw [e] at q4; exact q4
    | ex ρ5 c fs h5 => rw [e] at q4; exact q4
    | no => rw [e] at q4; exact q4
theorem PostI.bindS {m : Mp} {h : CH} {H : Hp} {σ : L2.St} {ρ : DE} {D' : Ends} {H0 : Hp} {r : R (List D × Unl)} {k : List D × Unl → CH → RS} {R' : It → Hp → Prop} (S : SO K CA m h H σ ρ) (q : PostS K CA W m h H D' (r.toS ρ k))
    (f : ∀ w h1 m1 J H1, Stp m h H m1 h1 H1 → HR K CA m1 h1 H1 → Wk K CA m1 h1 H1 J w.1 → UnlOk K CA H0 m h H m1 h1 H1 w.2 → PostS K CA W m h H D' (k w h1) → R' J H1) : PostI K CA W H0 m h H σ R' r := by
  cases r with
  | ok w h1 => exact fun m1 J H1 s S1 wk uo => f w h1 m1 J H1 s S1 wk uo q
  | ex c fs h1 => exact fun m' cls dd H' s S1 x => q m' cls dd σ H' s (S.move s S1) x
  | no => exact q
/-- the end of a walk -/
theorem unl_at {m m1 m2 : Mp} {h h1 h2 : CH} {H H1 H2 : Hp} {u : Unl} {P : Hp → Prop} (s : Stp m h H m1 h1 H1) (uo : UnlOk K CA X.H_0 m h H m1 h1 H1 u) (s2 : Stp m1 h1 H1 m2 h2 H2) (S2 : HR K CA m2 h2 H2)
    (f : ∀ H3, Stp m h H m2 (unlH u h2) H3 → HR K CA m2 (unlH u h2) H3 → (∀ v d, Rp K CA m2 h2 H2 v d → Rp K CA m2 (unlH u h2) H3 v d) → P H3) : UnlP X P H2 := by
  cases u with
  | none => exact .inl (f H2 (s.trans s2) S2 fun _ _ r => r)
  | some p =>
    obtain ⟨k, kvs⟩ := p
    obtain ⟨o', H3, eo, e, s3, S3⟩ := uo m2 h2 H2 s2 S2
    rcases e with rfl | ⟨od, hk, e, n, rfl⟩
    · refine .inl (f _ s3 S3 fun _ _ r => ?_)
      obtain ⟨u, q⟩ := (S2.ob _ _ eo).2.some
      have := r.mv (mv_put (o' := kvs) (u := u) eo)
      rw [upd_eq q] at this
      exact this
    · exact .inr ⟨m2 k, od, _, e, n, f _ s3 S3 fun _ _ r => r.mv (mv_put eo)⟩
theorem post_unl {m m1 : Mp} {h h1 : CH} {H H1 : Hp} {D' : Ends} {r : RS} {u : Unl} (s : Stp m h H m1 h1 H1) (uo : UnlOk K CA X.H_0 m h H m1 h1 H1 u) (q : PostS K CA W m h H D' (r.unl u)) : PostS K CA W m1 h1 H1 (unlE X D') r := by
  have so : ∀ {m2 : Mp} {h2 : CH} {H2 H3 : Hp} {σ : L2.St} {ρ : DE}, SO K CA m2 h2 H2 σ ρ → HR K CA m2 (unlH u h2) H3 → (∀ v d, Rp K CA m2 h2 H2 v d → Rp K CA m2 (unlH u h2) H3 v d) → SO K CA m2 (unlH u h2) H3 σ ρ := fun S2 S3 k => ⟨S3, S2.len, fun i d e => let ⟨v, e1, q⟩ := S2.sl i d e; ⟨v, e1, k v d q⟩⟩
  cases r with
  | nx ρ' h' => exact fun m2 σ2 H2 s2 S2 => unl_at s uo s2 S2.hr fun H3 s3 S3 k => q m2 σ2 H3 s3 (so S2 S3 k)
  | rt d h' => exact fun m2 v H2 s2 S2 r => unl_at s uo s2 S2 fun H3 s3 S3 k => q m2 v H3 s3 S3 (k v d r)
  | bk ρ' h' => exact fun m2 σ2 H2 s2 S2 => unl_at s uo s2 S2.hr fun H3 s3 S3 k => q m2 σ2 H3 s3 (so S2 S3 k)
  | ct ρ' h' => exact fun m2 σ2 H2 s2 S2 => unl_at s uo s2 S2.hr fun H3 s3 S3 k => q m2 σ2 H3 s3 (so S2 S3 k)
  | ex ρ' c fs h' => exact fun m2 cls dd σ2 H2 s2 S2 x => q m2 cls dd σ2 H2 (s.trans s2) S2 x
  | no => exact q
abbrev tForU (X : Cx) (wH : TI) (gH : TG) (tb : TS) : TS := fun D σ H => tFor wH gH tb (unlE X D) σ H
theorem ws_for {sl : List Nat} (hi : WI X K CA W a iter wH ti) (hg : WG X K CA a sl gH tg) (hb : WSs X K CA W body tb u)
    (hp : PI X a iter wH → PG X a gH → PSs X body tb → PS X st (tFor wH gH tb)) : WS X K CA W st (tForU X wH gH tb) (dFor ti tg u) :=
  ⟨ps_unl (hp hi.pe hg.pe hb.pe), fun m h H σ ρ D' S q => hi.sim m h H σ ρ _ S (PostI.bindS S q fun w h1 m1 J H1 s1 S1 wk uo q1 => by
    obtain ⟨Wl, w0, w1⟩ := sim_forL hg.sim hb.sim (S.move s1 S1) wk (post_unl s1 uo q1)
    refine ⟨Wl, w0, fun i n σ' H' hw => ?_⟩
    rcases w1 i n σ' H' hw with z | ⟨z, Nx, z1, z2⟩
    · exact .inl z
    · exact .inr ⟨z, Nx, z1, z2⟩)⟩
/-- a walk's reading, from what is read first -/
theorem PostI.bind {α β : Type} {RR : Mp → CH → Hp → β → α → Prop} {Q1 : β → Hp → Prop} {m : Mp} {h : CH} {H : Hp} {σ : L2.St} {H0 : Hp} {r : R α} {k : α → CH → R (List D × Unl)} {R' : It → Hp → Prop} (q : PostI K CA W H0 m h H σ R' (r.bind k))
    (f : ∀ a h1 m1 b H1, Stp m h H m1 h1 H1 → HR K CA m1 h1 H1 → RR m1 h1 H1 b a → PostI K CA W H0 m h H σ R' (k a h1) → Q1 b H1) : PostG K CA W RR m h H σ Q1 r := by
  cases r with
  | ok a h1 => exact fun m1 b H1 s S rr => f a h1 m1 b H1 s S rr q
  | ex c fs h1 => exact q
  | no => exact q
theorem postI_ite {m : Mp} {h : CH} {H : Hp} {σ : L2.St} {H0 : Hp} {R' : It → Hp → Prop} {c : Prop} [Decidable c] {r : R (List D × Unl)} (t : PostI K CA W H0 m h H σ R' (if c then r else .no)) : c ∧ PostI K CA W H0 m h H σ R' r := by
  by_cases q : c
  · rw [if_pos q] at t; exact ⟨q, t⟩
  · rw [if_neg q] at t; exact t.elim
theorem PostI.walk {m m1 : Mp} {h h1 : CH} {H H1 : Hp} {σ : L2.St} {H0 : Hp} {ds : List D} {J : It} {R' : It → Hp → Prop} (q : PostI K CA W H0 m h H σ R' (.ok (ds, none) h1)) (s : Stp m h H m1 h1 H1) (S : HR K CA m1 h1 H1) (wk : Wk K CA m1 h1 H1 J ds) : R' J H1 := q m1 J H1 s S wk trivial
/-- a list or a tuple is walked -/
def iSeq (K : PySem.W.Frag) (tl : TE) : TI := fun σ H R => tl σ H fun x H1 => ∃ a, x = .ref a ∧ (((∃ xs, SqL K H1 a xs) ∧ R (Itl K a) H1) ∨ ((∃ xs, SqT K H1 a xs) ∧ R (Itt K a) H1))
theorem pi_seq {tl : TE} (hl : PE X l tl) (hK : X.K = K := by rfl) : PI X tge l (iSeq K tl) := by
  subst hK
  refine ⟨fun pins s σ H R I q => thn (hl.run pins s σ H _ I q) fun v s1 hv => ?_⟩
  obtain ⟨x, H1, I1, r1, a, rfl, hq⟩ := hv
  cases r1
  have new : ∀ o, Inv X pins σ H1 { s1 with heap := s1.heap.push o } := fun o => I1.kept (t' := s1.toks) fun b o e => Heap.get?_push_of_some _ e
  have fp : ∀ b ∈ [s1.heap.objs.size], FpOk X pins H1 b := fun b hb => by
    rw [List.mem_singleton] at hb
    rw [hb]
    exact I1.fpOk (Nat.le_refl _) (I1.hok.fresh (Nat.le_refl _))
  rcases hq with ⟨⟨xs, hx⟩, q⟩ | ⟨⟨xs, hx⟩, q⟩
  · obtain ⟨its, _, pl, _⟩ := I1.list hx
    exact wpAny_pyIter_list pl.isList ⟨_, _, _, _, H1, rfl, new _, turn_list a _, ⟨_, Heap.get?_push_size _ rfl, rfl, rfl⟩, fp, q⟩
  · obtain ⟨its, _, pl, _⟩ := I1.tuple hx
    exact wpAny_pyIter_tuple (show s1.heap.IsTuple a its.toArray from pl) ⟨_, _, _, _, H1, rfl, new _, turn_tuple a _, ⟨_, Heap.get?_push_size _ rfl, rfl, rfl⟩, fp, q⟩
section
variable {m : Mp} {h : CH} {H : Hp} {ds : List D} {xs : List V}
theorem wk_list {a : Addr} (k : ∀ m' h' H', Sz m h H m' h' H' → SqL K H' a xs) (r : RpAll K CA m h H xs ds) : Wk K CA m h H (Itl K a) ds :=
  ⟨fun i m' h' H' d s S hd => by
    obtain ⟨v, hv, rv⟩ := r.getD hd
    have e' := k m' h' H' s
    refine ⟨⟨xs, v, e', hv⟩, fun x H2 y => ?_⟩
    obtain ⟨rfl, hy⟩ := y
    have ex := (hy xs e').symm.trans hv
    cases ex
    exact ⟨fun _ _ q => q, rv.mv s.toMv⟩, fun m' h' H' s S => ⟨xs, k m' h' H' s, by rw [r.length]; exact Nat.le_refl _⟩⟩
theorem wk_tup {a : Addr} (k : ∀ m' h' H', Sz m h H m' h' H' → SqT K H' a xs) (r : RpAll K CA m h H xs ds) : Wk K CA m h H (Itt K a) ds :=
  ⟨fun i m' h' H' d s S hd => by
    obtain ⟨v, hv, rv⟩ := r.getD hd
    have e' := k m' h' H' s
    refine ⟨⟨xs, v, e', hv⟩, fun x H2 y => ?_⟩
    obtain ⟨rfl, hy⟩ := y
    have ex := (hy xs e').symm.trans hv
    cases ex
    exact ⟨fun _ _ q => q, rv.mv s.toMv⟩, fun m' h' H' s S => ⟨xs, k m' h' H' s, by rw [r.length]; exact Nat.le_refl _⟩⟩
theorem keep_lst {a : Addr} (n : ¬ Live m h a) (e : H a = some (.lst xs)) : ∀ m' h' H', Sz m h H m' h' H' → SqL K H' a xs := fun m' h' H' s => by
  obtain ⟨_, o, e', l⟩ := s.kp a _ n e trivial
  exact .of (by rw [e', core_lst l.core])
theorem keep_tup {a : Addr} (n : ¬ Live m h a) (e : H a = some (.tup xs)) : ∀ m' h' H', Sz m h H m' h' H' → SqT K H' a xs := fun m' h' H' s => by
  obtain ⟨_, o, e', l⟩ := s.kp a _ n e trivial
  exact .of (by rw [e', core_tup l.core])
theorem all_ints : ∀ ns : List Int, RpAll K CA m h H (ns.map V.int) (ns.map D.int)
  | [] => .nil
  | n :: ns => .cons (.int n) (all_ints ns)
end
theorem wi_seq (h : WE X K CA W l ha ta) (hK : X.K = K := by rfl) : WI X K CA W tge l (iSeq K ha) (dSeqI ta) := by
  refine ⟨pi_seq h.pe hK, fun m hh H σ ρ R' S t => h.sim m hh H σ ρ _ S (PostI.bind t fun d h1 m1 v H1 s1 S1 r1 t1 => ?_)⟩
  cases r1 with
  | lst n e r => exact ⟨_, rfl, .inl ⟨⟨_, .of e⟩, t1.walk s1 S1 (wk_list (keep_lst n e) r)⟩⟩
  | tup n e r => exact ⟨_, rfl, .inr ⟨⟨_, .of e⟩, t1.walk s1 S1 (wk_tup (keep_tup n e) r)⟩⟩
  | ktup e r => exact ⟨_, rfl, .inr ⟨⟨_, sq_emp e⟩, t1.walk s1 S1 (wk_tup (fun _ _ _ _ => sq_emp e) r)⟩⟩
  | scr n e => exact ⟨_, rfl, .inl ⟨⟨_, .inl (.inr ⟨_, e⟩)⟩, t1.walk s1 S1 (wk_list (fun m' h' H' s => by
      obtain ⟨_, o, e', l⟩ := s.kp _ _ n e trivial
      exact .inl (.inr ⟨_, by rw [e', l.frz]⟩)) (all_ints _))⟩⟩
  | kscr e => exact ⟨_, rfl, .inl ⟨⟨_, sl_emp e⟩, t1.walk s1 S1 (wk_list (fun _ _ _ _ => sl_emp e) (all_ints _))⟩⟩
  | @ref k lt =>
    replace t1 : PostI K CA W X.H_0 m hh H σ R' (lockD (.ref k) h1) := t1
    unfold lockD at t1
    simp only at t1
    split at t1
    · rename_i ds eo
      obtain ⟨xs, eH, r, s2, S2⟩ := lockL_ok S1 eo
      refine ⟨m1 k, rfl, .inl ⟨⟨xs, .of eH⟩, t1 m1 _ H1 (s1.trans s2) S2 (wk_list (fun m' h' H' s => ?_) (r.move s2)) ?_⟩⟩
      · obtain ⟨_, q⟩ := s.lk k _ lt put_same id
        exact .of (q.trans eH)
      · intro m2 h2 H2 s3 S3
        obtain ⟨q1, q2, q3⟩ := unlockL_ok S1 eo s3 S3
        exact ⟨_, H2, q1, .inl rfl, s1.trans q2, q3⟩
    · rename_i ds eo
      have x := (S1.ob k _ eo).2
      cases x with
      | @lkl xs _ eH r =>
        refine ⟨m1 k, rfl, .inl ⟨⟨xs, .of eH⟩, t1.walk s1 S1 (wk_list (fun m' h' H' s => ?_) r)⟩⟩
        obtain ⟨_, q⟩ := s.lk k _ lt eo id
        exact .of (q.trans eH)
    · exact t1.elim
  | _ => exact t1.elim
theorem wk_range {m : Mp} {h : CH} {H : Hp} (lo : Int) (n : Nat) : Wk K CA m h H (Itr lo n) (rgD lo n) :=
  ⟨fun i m' h' H' d s S hd => by
    unfold rgD at hd
    rw [List.getElem?_map] at hd
    cases hr : (List.range n)[i]? with
    | none => rw [hr] at hd; cases hd
    | some j =>
      rw [hr] at hd
      obtain ⟨hlt, ej⟩ := List.getElem?_eq_some_iff.mp hr
      rw [List.getElem_range] at ej
      subst ej
      cases hd
      refine ⟨by show i < n; simpa using hlt, fun x H2 y => ?_⟩
      obtain ⟨rfl, rfl⟩ := y
      exact ⟨fun _ _ q => q, .int _⟩, fun m' h' H' s S => by
    show n ≤ (rgD lo n).length
    unfold rgD
    rw [List.length_map, List.length_range]
    exact Nat.le_refl _⟩
theorem wi_rng1 (h : WA X K CA W es hs ts) (hp : PA X es hs → PI X tge l (iRng1 hs)) : WI X K CA W tge l (iRng1 hs) (dRng1 ts) := by
  refine ⟨hp h.pe, fun m hh H σ ρ R' S t => h.sim m hh H σ ρ _ S (PostI.bind t fun ds h1 m1 vs H1 s1 S1 r1 t1 => ?_)⟩
  split at t1
  · rename_i n
    obtain ⟨⟨c1, c2⟩, t1⟩ := postI_ite t1
    cases r1 with
    | cons r1 r2 =>
      cases r1
      cases r2
      exact ⟨n, rfl, c1, c2, t1.walk s1 S1 (wk_range 0 n.toNat)⟩
  · exact t1.elim
theorem enD_get : ∀ (xs : List D) (k i : Nat) (d : D), (enD k xs)[i]? = some d → ∃ x, xs[i]? = some x ∧ d = .tup [.int ((k + i : Nat) : Int), x]
  | [], k, i, d, h => by simp [enD] at h
  | x :: xs, k, 0, d, h => by simp [enD] at h; exact ⟨x, rfl, by rw [← h]; rfl⟩
  | x :: xs, k, i + 1, d, h => by
    obtain ⟨y, h1, h2⟩ := enD_get xs (k + 1) i d (by simpa [enD] using h)
    exact ⟨y, by simpa using h1, by rw [h2]; congr 4; omega⟩
theorem enD_length : ∀ (xs : List D) (k : Nat), (enD k xs).length = xs.length
  | [], _ => rfl
  | _ :: xs, k => by simp [enD, enD_length xs (k + 1)]
theorem wk_enum {m : Mp} {h : CH} {H : Hp} {a : Addr} {xs : List V} {ds : List D} (n : ¬ Live m h a) (e : H a = some (.lst xs)) (r : RpAll K CA m h H xs ds) : Wk K CA m h H (Ite K a) (enD 0 ds) :=
  ⟨fun i m' h' H' d s S hd => by
    obtain ⟨y, hy, rfl⟩ := enD_get ds 0 i d hd
    obtain ⟨v, hv, rv⟩ := r.getD hy
    have e' := keep_lst (K := K) n e m' h' H' s
    refine ⟨⟨xs, v, e', hv⟩, fun x H2 yl => ?_⟩
    obtain ⟨T, z, rfl, nT, rfl, hz⟩ := yl
    have ex := (hz xs e').symm.trans hv
    cases ex
    have ri : ((0 + i : Nat) : Int) = ((i : Nat) : Int) := by omega
    rw [ri]
    exact ⟨upd_new nT, .tup (S.fresh nT) upd_same (.cons (.int _) (.cons ((rv.mv s.toMv).move (stp_laid S nT)) .nil))⟩, fun m' h' H' s S => ⟨xs, keep_lst n e m' h' H' s, by rw [enD_length, r.length]; exact Nat.le_refl _⟩⟩
theorem sim_while {tC : TT} {tb' : TS} (s : SimT K CA W tC tB) (s' : SimS K CA W tb' u) (N : Nat) : SimS K CA W (tWhile tC tb') (dWhile tB u N) := fun m h H σ ρ D' S q => by
  refine ⟨fun n σ' H' => ∃ m' h' ρ', Stp m h H m' h' H' ∧ SO K CA m' h' H' σ' ρ' ∧ PostS K CA W m' h' H' D' (dWhile tB u n ρ' h'), ⟨N, m, h, ρ, .refl, S, q⟩, ?_⟩
  rintro n σ' H' ⟨m', h', ρ', st', S', q'⟩
  cases n with
  | zero => exact q'.elim
  | succ n =>
    refine s m' h' H' σ' ρ' _ S' (PostS.bind S' q' fun b h1 m1 b' H1 s1 S1 e q1 => ?_)
    cases (show b' = b from e)
    have S1' := S'.move s1 S1
    cases b with
    | false => exact q1 m1 σ' H1 .refl S1'
    | true =>
      refine ⟨fun σ3 H3 => ∃ m3 h3 ρ3, Stp m h H m3 h3 H3 ∧ SO K CA m3 h3 H3 σ3 ρ3 ∧ PostS K CA W m3 h3 H3 D' (dWhile tB u n ρ3 h3), fun σ3 H3 z => ⟨n, Nat.lt_succ_self _, z⟩, ?_⟩
      have stp1 : Stp m h H m1 h1 H1 := st'.trans s1
      refine s' m1 h1 H1 σ' ρ' _ S1' ?_
      replace q1 : PostS K CA W m1 h1 H1 D' (match u ρ' h1 with
        | .nx ρ2 h2 => dWhile tB u n ρ2 h2
        | .ct ρ2 h2 => dWhile tB u n ρ2 h2
        | .bk ρ2 h2 => .nx ρ2 h2
        | x => x) := q1
      cases e : u ρ' h1 with
      | nx ρ5 h5 => rw [e] at q1; exact fun m5 σ5 H5 s5 S5 => ⟨m5, h5, ρ5, stp1.trans s5, S5, q1.from s5⟩
      | ct ρ5 h5 => rw [e] at q1; exact fun m5 σ5 H5 s5 S5 => ⟨m5, h5, ρ5, stp1.trans s5, S5, q1.from s5⟩
      | bk ρ5 h5 => rw [e] at q1; exact q1
      | rt d5 h5 => rw [e] at q1; exact q1
      | ex ρ5 c fs h5 => rw [e] at q1; exact q1
      | no => rw [e] at q1; exact q1
theorem ws_while (N : Nat) (hc : WT X K CA W c hB tB) (hb : WSs X K CA W body tb u) (hp : PT X c hB → PSs X body tb → PS X st (tWhile hB tb)) : WS X K CA W st (tWhile hB tb) (dWhile tB u N) :=
  ⟨hp hc.pe hb.pe, sim_while hc.sim hb.sim N⟩
end
end CM
namespace CM
open PySem PySem.Spec PyProof.Rows L2
def kD : Key → D
  | .inl i => .int i
  | .inr x => .str x
section
variable {X : Cx} {K : PySem.W.Frag} {CA : CAs} {W : WX} {e tge iter : Expr} {ha : TE} {ta : TD} {m : Mp} {h : CH} {H : Hp}
theorem len_of {hk : List (Key × V)} {kvs : List (Key × D)} (en : hk.map (·.1) = kvs.map (·.1)) : hk.length = kvs.length := by simpa using congrArg List.length en
/-- the comprehension's own names are not there yet -/
def wipeD (ρ : DE) : List Nat → DE
  | [] => ρ
  | v :: vs => (wipeD ρ vs).set v none
def dYes : TB := fun _ h => .ok true h
def dLcL (tg : TGD) (tt : TB) (te : TD) (ρ0 : DE) : List D → CH → R (List D)
  | [], h => .ok [] h
  | d :: r, h => (tg d ρ0 h).calm fun ρ2 h => (tt ρ2 h).calm fun b h => if b = true then (te ρ2 h).calm fun y h => (dLcL tg tt te ρ0 r h).bind fun ys h => .ok (y :: ys) h
    else dLcL tg tt te ρ0 r h
def dLc (nm : Bool) (ti : TDw) (tg : TGD) (tt : TB) (te : TD) (vs : List Nat) : TD := fun ρ h => (ti ρ h).bind fun w h => if w.1.length ≤ sizeLine then ((dLcL tg tt te (wipeD ρ vs) w.1 h).bind fun ys h => mkL nm ys h).unl w.2 else .no
section
variable {m m1 m2 : Mp} {h1 h2 : CH} {H1 H2 : Hp} {σ : L2.St} {ρ : DE} {p : Addr} {Q' : VK}
theorem wipe_at {σ : L2.St} {vs : List Nat} {j : Nat} (h : j ∉ vs) : (wipe σ vs)[j]? = σ[j]? := by
  induction vs with
  | nil => rfl
  | cons v vs ih =>
    simp only [List.mem_cons, not_or] at h
    unfold wipe
    rw [List.getElem?_set_ne (Ne.symm h.1)]
    exact ih h.2
theorem wipeD_len (ρ : DE) (vs : List Nat) : (wipeD ρ vs).length = ρ.length := by
  induction vs with
  | nil => rfl
  | cons v vs ih => unfold wipeD; rw [List.length_set, ih]
theorem wipeD_some {ρ : DE} {vs : List Nat} {j : Nat} {s : D} (h : (wipeD ρ vs)[j]? = some (some s)) : j ∉ vs ∧ ρ[j]? = some (some s) := by
  induction vs with
  | nil => exact ⟨by simp, h⟩
  | cons v vs ih =>
    unfold wipeD at h
    rcases set_some h with ⟨_, q⟩ | ⟨n, q⟩
    · cases q
    · obtain ⟨h1, h2⟩ := ih q
      exact ⟨by simp [n, h1], h2⟩
theorem SO.wiped (S : SO K CA m h H σ ρ) (vs : List Nat) : SO K CA m h H (wipe σ vs) (wipeD ρ vs) :=
  ⟨S.hr, by rw [wipe_length, wipeD_len]; exact S.len, fun j s e => by
    obtain ⟨h1, h2⟩ := wipeD_some e
    obtain ⟨v, e1, r⟩ := S.sl j s h2
    exact ⟨v, by rw [wipe_at h1]; exact e1, r⟩⟩
abbrev W0 : WX := fun _ _ _ _ => False
theorem wipe_none {σ : L2.St} {vs : List Nat} {j : Nat} (h : j ∈ vs) : (wipe σ vs)[j]? = none ∨ (wipe σ vs)[j]? = some none := by
  induction vs with
  | nil => cases h
  | cons w ws ih =>
    unfold wipe
    by_cases q : w = j
    · subst q
      by_cases l : w < (wipe σ ws).length
      · exact .inr (List.getElem?_set_self l)
      · exact .inl (by rw [List.getElem?_eq_none_iff, List.length_set]; omega)
    · rw [List.getElem?_set_ne q]
      rcases List.mem_cons.mp h with z | z
      · exact absurd z.symm q
      · exact ih z
theorem wipe_eq {σ σ' : L2.St} {vs : List Nat} (hl : σ'.length = σ.length) (h : ∀ j, j ∉ vs → σ'[j]? = σ[j]?) : wipe σ' vs = wipe σ vs := by
  apply List.ext_getElem?
  intro j
  by_cases hj : j ∈ vs
  · have l1 := wipe_length σ' vs
    have l2 := wipe_length σ vs
    by_cases lt : j < σ.length
    · have k1 := wipe_none (σ := σ') hj
      have k2 := wipe_none (σ := σ) hj
      have n1 : (wipe σ' vs)[j]? ≠ none := fun z => by have := List.getElem?_eq_none_iff.mp z; omega
      have n2 : (wipe σ vs)[j]? ≠ none := fun z => by have := List.getElem?_eq_none_iff.mp z; omega
      rw [k1.resolve_left n1, k2.resolve_left n2]
    · rw [List.getElem?_eq_none_iff.mpr (by omega), List.getElem?_eq_none_iff.mpr (by omega)]
  · rw [wipe_at hj, wipe_at hj]
    exact h j hj
/-- what was made at p gets a name -/
theorem named_kp {zs : List Addr} (S2 : HR K CA m2 h2 H2) (z2 : m2.z = p :: zs) {o : MO} : ∀ a w, ¬ Live m2 h2 a → H2 a = some w → NoTb w → ¬ Live (mpNew ⟨m2.f, zs⟩ h2 p) (h2.new o) a ∧ ∃ o', H2 a = some o' ∧ Lk w o' := fun a w l e _ => ⟨fun z => l (by
    rcases z with ⟨k, u, q, rfl⟩ | z
    · unfold CH.new at q
      by_cases c : k = h2.nx
      · subst c
        have e2 : (mpNew ⟨m2.f, zs⟩ h2 p) h2.nx = p := mpNew_nx
        exact .inr (by rw [z2, e2]; exact List.mem_cons_self ..)
      · simp only [if_neg c] at q
        have e2 : (mpNew ⟨m2.f, zs⟩ h2 p) k = m2 k := mpNew_lt (m := ⟨m2.f, zs⟩) (S2.ob k u q).1
        exact .inl ⟨k, u, q, e2.symm⟩
    · exact .inr (by rw [z2]; exact List.mem_cons_of_mem _ z)), w, e, .inl rfl⟩
theorem RpAll.named {zs : List Addr} (S2 : HR K CA m2 h2 H2) (z2 : m2.z = p :: zs) {o : MO} {vs : List V} {ds : List D} (r : RpAll K CA m2 h2 H2 vs ds) : RpAll K CA (mpNew ⟨m2.f, zs⟩ h2 p) (h2.new o) H2 vs ds :=
  RpAll.mv0 (m := m2) (h := h2) (H := H2) (m' := mpNew ⟨m2.f, zs⟩ h2 p) (h' := h2.new o) (H' := H2) (Nat.le_succ _) (fun k l => mpNew_lt (m := ⟨m2.f, zs⟩) l) (named_kp S2 z2) r
theorem done_named (S : HR K CA m1 h1 H1) (n : H1 p = none) {u : HO} (s : Sc p (m1.add p) h1 (upd H1 p u) m2 h2 H2) (S2 : HR K CA m2 h2 H2) {o : MO} (x : MOk K CA (mpNew ⟨m2.f, m1.z⟩ h2 p) (h2.new o) H2 p o) :
    Stp m1 h1 H1 (mpNew ⟨m2.f, m1.z⟩ h2 p) (h2.new o) H2 ∧ HR K CA (mpNew ⟨m2.f, m1.z⟩ h2 p) (h2.new o) H2 := by
  have z2 : m2.z = p :: m1.z := s.z
  have sd := stp_done S n s
  have key : ∀ j u, (h2.new o).ob j = some u → (j = h2.nx ∧ u = o) ∨ (j < h2.nx ∧ h2.ob j = some u) := fun j u e => by
    unfold CH.new at e
    by_cases q : j = h2.nx
    · simp only [if_pos q] at e; cases e; exact .inl ⟨q, rfl⟩
    · simp only [if_neg q] at e
      exact .inr ⟨(S2.ob j u e).1, e⟩
  have pz : p ∈ m2.z := by rw [z2]; exact List.mem_cons_self ..
  have off : ∀ j u, h2.ob j = some u → m2 j ≠ p := fun j u e z => S2.zn j u e (by rw [z]; exact pz)
  have at0 : (mpNew ⟨m2.f, m1.z⟩ h2 p) h2.nx = p := mpNew_nx
  have at1 : ∀ k, k < h2.nx → (mpNew ⟨m2.f, m1.z⟩ h2 p) k = m2 k := fun k l => mpNew_lt (m := ⟨m2.f, m1.z⟩) l
  refine ⟨.mk' ⟨Nat.le_trans sd.nx (Nat.le_succ _), fun k l => (at1 k (Nat.lt_of_lt_of_le l sd.nx)).trans (sd.mp k l), fun a w l e nt => ?_⟩ (fun k kvs l e ld => ?_) rfl (fun a l => sd.zk a l), ⟨fun j w e => ?_, fun i j u w e1 e2 e3 => ?_, fun j w e => ?_, fun a l => ?_, S2.tb⟩⟩
  · have ne : a ≠ p := ne_of_none e n
    obtain ⟨l2, o', e', lk⟩ := s.kp a w (fun z => by
      rcases z with ⟨k, u, q, rfl⟩ | z
      · exact l (.inl ⟨k, u, q, rfl⟩)
      · rcases List.mem_cons.mp z with z | z
        · exact ne z
        · exact l (.inr z)) (by rw [upd_ne ne]; exact e) nt
    exact ⟨(named_kp S2 z2 a o' l2 e' (lk_nt lk nt)).1, o', e', lk⟩
  · obtain ⟨a1, a2⟩ := sd.lk k kvs l e ld
    refine ⟨?_, a2⟩
    unfold CH.new
    simp only [if_neg (Nat.ne_of_lt (Nat.lt_of_lt_of_le l sd.nx))]
    exact a1
  · rcases key j w e with ⟨rfl, rfl⟩ | ⟨l, q⟩
    · exact ⟨Nat.lt_succ_self _, by rw [at0]; exact x⟩
    · refine ⟨Nat.lt_succ_of_lt l, ?_⟩
      rw [at1 j l]
      exact (S2.ob j w q).2.mv ⟨Nat.le_succ _, at1, named_kp S2 z2⟩ rfl
  · rcases key i u e1 with ⟨rfl, rfl⟩ | ⟨l1, q1⟩
    · rcases key j w e2 with ⟨rfl, rfl⟩ | ⟨l2, q2⟩
      · rfl
      · rw [at0, at1 j l2] at e3
        exact absurd e3.symm (off j w q2)
    · rcases key j w e2 with ⟨rfl, rfl⟩ | ⟨l2, q2⟩
      · rw [at0, at1 i l1] at e3
        exact absurd e3 (off i u q1)
      · rw [at1 i l1, at1 j l2] at e3
        exact S2.inj i j u w q1 q2 e3
  · rcases key j w e with ⟨rfl, rfl⟩ | ⟨l, q⟩
    · rw [at0]; exact fun z => S.fresh n (.inr z)
    · rw [at1 j l]; exact fun z => S2.zn j w q (by rw [z2]; exact List.mem_cons_of_mem _ z)
  · exact S2.zh a (by rw [z2]; exact List.mem_cons_of_mem _ l)
/-- what was made at p is data -/
theorem done_data (S : HR K CA m1 h1 H1) (n : H1 p = none) {u : HO} (s : Sc p (m1.add p) h1 (upd H1 p u) m2 h2 H2) (S2 : HR K CA m2 h2 H2) : ¬ Live ⟨m2.f, m1.z⟩ h2 p := fun z => by
  have z2 : m2.z = p :: m1.z := s.z
  rcases z with ⟨k, o, e, q⟩ | z
  · exact S2.zn k o e (by rw [z2]; have q' : m2 k = p := q; rw [q']; exact List.mem_cons_self ..)
  · exact S.fresh n (.inr z)
theorem doneL {nm : Bool} {acc : List V} {ds : List D} {Q1 : VK} {mb : Mp} {hb : CH} {Hb : Hp} (sb : Stp mb hb Hb m1 h1 H1) (S : HR K CA m1 h1 H1) (n : H1 p = none) {u : HO} (s : Sc p (m1.add p) h1 (upd H1 p u) m2 h2 H2) (S2 : HR K CA m2 h2 H2) (e : H2 p = some (.lst acc)) (r : RpAll K CA m2 h2 H2 acc ds) {un : Unl}
    (uo : UnlOk K CA X.H_0 mb hb Hb m1 h1 H1 un) (t : PostE K CA W mb hb Hb σ Q1 ((mkL nm ds h2).unl un)) : UnlP X (Q1 (.ref p)) H2 := by
  have z2 : m2.z = p :: m1.z := s.z
  cases nm with
  | true =>
    obtain ⟨s3, S3⟩ := done_named (o := .lst ds) S n s S2 (.lst e (r.named S2 z2))
    refine unl_at sb uo s3 S3 fun H3 s4 S4 k => t _ _ H3 s4 S4 (k _ _ ?_)
    have := Rp.ref (K := K) (CA := CA) (m := mpNew ⟨m2.f, m1.z⟩ h2 p) (h := h2.new (.lst ds)) (H := H2) (k := h2.nx) (Nat.lt_succ_self _)
    rw [show (mpNew ⟨m2.f, m1.z⟩ h2 p) h2.nx = p from mpNew_nx] at this
    exact this
  | false => exact unl_at sb uo (stp_done S n s) (S2.done z2) fun H3 s4 S4 k => t _ _ H3 s4 S4 (k _ _ (.lst (done_data S n s S2) e (r.done z2)))
end
/-- a comprehension's walk: PostI from an expression's wish -/
theorem PostI.bindE {α β : Type} {RR : Mp → CH → Hp → β → α → Prop} {m : Mp} {h : CH} {H : Hp} {σ : L2.St} {H0 : Hp} {r : R (List D × Unl)} {k : List D × Unl → CH → R α} {Q2 : β → Hp → Prop} {R' : It → Hp → Prop} (q : PostG K CA W RR m h H σ Q2 (r.bind k))
    (f : ∀ w h1 m1 J H1, Stp m h H m1 h1 H1 → HR K CA m1 h1 H1 → Wk K CA m1 h1 H1 J w.1 → UnlOk K CA H0 m h H m1 h1 H1 w.2 → PostG K CA W RR m h H σ Q2 (k w h1) → R' J H1) : PostI K CA W H0 m h H σ R' r := by
  cases r with
  | ok w h1 => exact fun m1 J H1 s S1 wk uo => f w h1 m1 J H1 s S1 wk uo q
  | ex c fs h1 => exact q
  | no => exact q
abbrev tLcU (X : Cx) (wH : TI) (gH : TG) (hT : TT) (he : TE) (vs : List Nat) : TE := fun σ H Q => tLc wH gH hT he vs σ H fun v => UnlP X (Q v)
theorem sim_lc {nm : Bool} {gH : TG} {tg : TGD} {hT : TT} {tt : TB} {te : TD} {he : TE} {wH : TI} {ti : TDw} {vs sl : List Nat} (hi : SimI K CA W X.H_0 wH ti) (hg : SimG K CA sl gH tg) (ht : SimT K CA W0 hT tt) (hel : SimE K CA W0 he te) (ho : ∀ j, j ∈ sl → j ∈ vs) : SimE K CA W (tLcU X wH gH hT he vs) (dLc nm ti tg tt te vs) := by
  intro m h H σ ρ Q' S t
  refine hi m h H σ ρ _ S (PostI.bindE t fun w h1 m1 J H1 s1 S1 wk uo t1 => ?_)
  obtain ⟨hsz, t1⟩ := post_ite t1
  intro D0 n
  have S2 := S1.add (u := .lst []) n
  have SO2 : SO K CA (m1.add D0) h1 (upd H1 D0 (.lst [])) σ ρ := ⟨S2, S.len, fun i d e => let ⟨v, e1, q⟩ := (S.move s1 S1).sl i d e; ⟨v, e1, q.add n⟩⟩
  refine ⟨fun i k H' => k + i = w.1.length ∧ ∃ acc dacc m' h', Sc D0 (m1.add D0) h1 (upd H1 D0 (.lst [])) m' h' H' ∧ SO K CA m' h' H' σ ρ ∧ H' D0 = some (.lst acc) ∧ dacc.length ≤ i ∧ RpAll K CA m' h' H' acc dacc ∧ PostE K CA W m h H σ Q' (((dLcL tg tt te (wipeD ρ vs) (w.1.drop i) h').bind fun ys h => mkL nm (dacc ++ ys) h).unl w.2),
    ⟨w.1.length, rfl, [], [], m1.add D0, h1, Stp.sc .refl, SO2, upd_same, Nat.le_refl _, .nil, t1⟩, ?_⟩
  rintro i k H' ⟨hk, acc, dacc, m', h', st', S', eD, hl, ra, q'⟩
  have sz0 := sz_add (u := .lst []) S1 n
  cases hd : w.1[i]? with
  | none =>
    have hlen : w.1.length ≤ i := List.getElem?_eq_none_iff.mp hd
    obtain rfl : i = w.1.length := by omega
    rw [List.drop_length] at q'
    refine .inl ⟨wk.stop m' h' H' (sz0.trans st'.toSz) S'.hr, doneL (W := W) (σ := σ) (nm := nm) s1 S1 n st' S'.hr eD ra uo ?_⟩
    have q2 : PostE K CA W m h H σ Q' ((mkL nm (dacc ++ []) h').unl w.2) := q'
    rw [List.append_nil] at q2
    exact q2
  | some d =>
    obtain ⟨hlt, ed⟩ := List.getElem?_eq_some_iff.mp hd
    rw [List.drop_eq_getElem_cons hlt, ed] at q'
    obtain ⟨go, yl⟩ := wk.go i m' h' H' d (sz0.trans st'.toSz) S'.hr hd
    refine .inr ⟨go, fun H3 => ∃ acc dacc m' h', Sc D0 (m1.add D0) h1 (upd H1 D0 (.lst [])) m' h' H3 ∧ SO K CA m' h' H3 σ ρ ∧ H3 D0 = some (.lst acc) ∧ dacc.length ≤ i + 1 ∧ RpAll K CA m' h' H3 acc dacc ∧ PostE K CA W m h H σ Q' (((dLcL tg tt te (wipeD ρ vs) (w.1.drop (i + 1)) h').bind fun ys h => mkL nm (dacc ++ ys) h).unl w.2),
      fun H3 n3 => ⟨k - 1, by omega, by omega, n3⟩, fun x H2 y2 => ?_⟩
    obtain ⟨gr, r2⟩ := yl x H2 y2
    have a2 := stp_grow S'.hr gr
    have S3 := S'.move a2 (S'.hr.grow gr)
    have st3 := st'.trans (a2.sc (p := D0))
    have eD3 := gr _ _ eD
    have ra3 := ra.move a2
    have pz : D0 ∈ m'.z := by rw [st'.z]; exact List.mem_cons_self ..
    have wip : wipe (wipe σ vs) vs = wipe σ vs := wipe_eq (wipe_length _ _) fun j hj => wipe_at hj
    refine hg m' h' H2 (wipe σ vs) (wipeD ρ vs) x d _ (S3.wiped vs) r2 ?_
    unfold dLcL at q'
    cases eg : tg d (wipeD ρ vs) h' with
    | ex c fs h4 => rw [eg] at q'; exact q'.elim
    | no => rw [eg] at q'; exact q'.elim
    | ok ρ2 h4 =>
      rw [eg] at q'
      intro m4 σ4 H4 s4 S4 hl4 hn4
      refine ⟨(wipe_eq hl4 fun j hj => hn4 j fun z => hj (ho j z)).trans wip, ht m4 h4 H4 σ4 ρ2 _ S4 ?_⟩
      have eD4 := (s4.zk D0 pz).trans eD3
      have ra4 := ra3.move s4
      have S4' := S3.move s4 S4.hr
      have pz4 : D0 ∈ m4.z := by rw [s4.z]; exact pz
      replace q' : PostE K CA W m h H σ Q' ((((tt ρ2 h4).calm fun b h => if b = true then (te ρ2 h).calm fun y h => (dLcL tg tt te (wipeD ρ vs) (w.1.drop (i + 1)) h).bind fun ys h => .ok (y :: ys) h else dLcL tg tt te (wipeD ρ vs) (w.1.drop (i + 1)) h).bind fun ys h => mkL nm (dacc ++ ys) h).unl w.2) := q'
      cases et : tt ρ2 h4 with
      | ex c fs h5 => rw [et] at q'; exact q'.elim
      | no => rw [et] at q'; exact q'.elim
      | ok b h5 =>
        rw [et] at q'
        intro m5 b' H5 s5 S5 eb
        cases (show b' = b from eb)
        have eD5 := (s5.zk D0 pz4).trans eD4
        have ra5 := ra4.move s5
        have S5' := S4'.move s5 S5
        have pz5 : D0 ∈ m5.z := by rw [s5.z]; exact pz4
        have st5 := (st3.trans (s4.sc (p := D0))).trans (s5.sc (p := D0))
        cases b with
        | false => exact ⟨acc, dacc, m5, h5, st5, S5', eD5, Nat.le_succ_of_le hl, ra5, q'⟩
        | true =>
          refine hel m5 h5 H5 σ4 ρ2 _ (S4.move s5 S5) ?_
          replace q' : PostE K CA W m h H σ Q' ((((te ρ2 h5).calm fun y h => (dLcL tg tt te (wipeD ρ vs) (w.1.drop (i + 1)) h).bind fun ys h => .ok (y :: ys) h).bind fun ys h => mkL nm (dacc ++ ys) h).unl w.2) := q'
          cases ee : te ρ2 h5 with
          | ex c fs h6 => rw [ee] at q'; exact q'.elim
          | no => rw [ee] at q'; exact q'.elim
          | ok y h6 =>
            rw [ee] at q'
            intro m6 v6 H6 s6 S6 r6
            have eD6 := (s6.zk D0 pz5).trans eD5
            have pz6 : D0 ∈ m6.z := by rw [s6.z]; exact pz5
            have ra6 := (ra5.move s6).append (.cons r6 .nil)
            have S6' := S5'.move s6 S6
            have sm := sc_made (u := .lst (acc ++ [v6])) S6 pz6
            refine ⟨acc, eD6, by rw [ra.length]; omega, acc ++ [v6], dacc ++ [y], m6, h6, (st5.trans (s6.sc (p := D0))).trans sm, ⟨S6.made pz6, S6'.len, fun j dj ej => ?_⟩, upd_same, by simp; exact hl, ra6.mv sm.toMv, ?_⟩
            · obtain ⟨vj, e1, q⟩ := S6'.sl j dj ej
              exact ⟨vj, e1, q.mv sm.toMv⟩
            · have e3 : ∀ r : R (List D), (r.bind fun ys h => R.ok (y :: ys) h).bind (fun ys h => mkL nm (dacc ++ ys) h) = r.bind fun ys h => mkL nm ((dacc ++ [y]) ++ ys) h := fun r => by
                cases r with
                | ok ys h7 => show mkL nm (dacc ++ (y :: ys)) h7 = mkL nm ((dacc ++ [y]) ++ ys) h7; rw [List.append_assoc]; rfl
                | ex c fs h7 => rfl
                | no => rfl
              rw [← e3]
              exact q'
structure WTs (X : Cx) (K : PySem.W.Frag) (CA : CAs) (W : WX) (ifs : List Expr) (tH : TT) (t : TB) : Prop where
  pe : PTs X ifs tH
  sim : SimT K CA W tH t
theorem wts_nil : WTs X K CA W [] L2.tYes dYes := ⟨pts_nil, fun m h H σ ρ Q' S t => t.here S.hr rfl⟩
theorem wts_one {c : Expr} {hB : TT} {tB : TB} (h : WT X K CA W c hB tB) : WTs X K CA W [c] hB tB := ⟨pts_one h.pe, h.sim⟩
section
variable {elt kx vx : Expr} {ifs : List Expr} {pos : Pos} {gH : TG} {tg : TGD} {hT : TT} {tt : TB} {he hk hv : TE} {te tk tv : TD} {wH : TI} {ti : TDw} {st : Stmt}
theorem we_lc (nm : Bool) {scope : Scope} {own : List (Str × Nat)} {sl : List Nat} (hc : X.calm = true) (hN : X.N.Nodup) (hi : WI X K CA W tge iter wH ti) (ok : BlkOk X.N X.env.scope scope own)
    (hg : ∀ (s : Shared) (H : Hp) (C : Addr) (cl : List (Str × Addr)) (fp : List Addr), WG (X.blk s H scope (compEnvC scope cl C X.env) fp) K CA tge sl gH tg)
    (ht : ∀ (s : Shared) (H : Hp) (C : Addr) (cl : List (Str × Addr)) (fp : List Addr), WTs (X.blk s H scope (compEnvC scope cl C X.env) fp) K CA W0 ifs hT tt)
    (hel : ∀ (s : Shared) (H : Hp) (C : Addr) (cl : List (Str × Addr)) (fp : List Addr), WE (X.blk s H scope (compEnvC scope cl C X.env) fp) K CA W0 elt he te)
    (ho : ∀ j, j ∈ sl → j ∈ own.map (·.2)) (hs : ∀ x, foldedSetIterable iter X.env x = pure x := by intro _; rfl) : WE X K CA W (.ListComp elt [⟨tge, iter, ifs, 0⟩] scope pos) (tLcU X wH gH hT he (own.map (·.2))) (dLc nm ti tg tt te (own.map (·.2))) :=
  ⟨pe_unl (pe_lc hc hN hi.pe ok (fun s H C cl fp => (hg s H C cl fp).pe) (fun s H C cl fp => (ht s H C cl fp).pe) (fun s H C cl fp => (hel s H C cl fp).pe) hs), sim_lc hi.sim (hg X.s_0 X.H_0 0 [] []).sim (ht X.s_0 X.H_0 0 [] []).sim (hel X.s_0 X.H_0 0 [] []).sim ho⟩
/-- name = [..] -/
theorem ws_setLc (nm : Bool) {i : Nat} {y : Str} {py spos : Pos} {scope : Scope} {own : List (Str × Nat)} {sl : List Nat} (hc : X.calm = true) (hN : X.N.Nodup) (hy : X.N[i]? = some y) (hyl : X.env.scope.names.lookup y = some .local)
    (hi : WI X K CA W tge iter wH ti) (ok : BlkOk X.N X.env.scope scope own)
    (hg : ∀ (s : Shared) (H : Hp) (C : Addr) (cl : List (Str × Addr)) (fp : List Addr), WG (X.blk s H scope (compEnvC scope cl C X.env) fp) K CA tge sl gH tg)
    (ht : ∀ (s : Shared) (H : Hp) (C : Addr) (cl : List (Str × Addr)) (fp : List Addr), WTs (X.blk s H scope (compEnvC scope cl C X.env) fp) K CA W0 ifs hT tt)
    (hel : ∀ (s : Shared) (H : Hp) (C : Addr) (cl : List (Str × Addr)) (fp : List Addr), WE (X.blk s H scope (compEnvC scope cl C X.env) fp) K CA W0 elt he te)
    (ho : ∀ j, j ∈ sl → j ∈ own.map (·.2)) (hsw : swapsWith (.ListComp elt [⟨tge, iter, ifs, 0⟩] scope pos) (some (.Name y py)) spos.line X.env = pure true := by rfl) (hs : ∀ x, foldedSetIterable iter X.env x = pure x := by intro _; rfl) :
    WS X K CA W (.Assign [.Name y py] (.ListComp elt [⟨tge, iter, ifs, 0⟩] scope pos) spos) (fun D σ H => tAsg (tLc wH gH hT he (own.map (·.2))) (gName i) (unlE X D) σ H) (dAsg (dLc nm ti tg tt te (own.map (·.2))) (gdName i)) :=
  ⟨ps_unl (ps_setLc hc hN hy hyl hsw hi.pe ok (fun s H C cl fp => (hg s H C cl fp).pe) (fun s H C cl fp => (ht s H C cl fp).pe) (fun s H C cl fp => (hel s H C cl fp).pe) hs),
    sim_asg (sim_lc hi.sim (hg X.s_0 X.H_0 0 [] []).sim (ht X.s_0 X.H_0 0 [] []).sim (hel X.s_0 X.H_0 0 [] []).sim ho) sim_gName⟩
end
end
end CM
namespace CM
open PySem PySem.Spec PyProof.Rows L2
section
variable {K : PySem.W.Frag} {CA : CAs} {W : WX} {m : Mp} {h : CH} {H : Hp} {σ : L2.St} {Q' : VK} {k : Nat} {o o' : MO} {u : HO} {d : D} {v : V}
theorem PostG.put (t : PostE K CA W m h H σ Q' (.ok d (h.put k o'))) (S : HR K CA m h H) (e : h.ob k = some o) (nl : NotLck o) (x : MOk K CA m (h.put k o') (upd H (m k) u) (m k) o') (r : Rp K CA m h H v d) : Q' v (upd H (m k) u) :=
  t m v _ (stp_put S e nl) (S.put e x) (r.move (stp_put S e nl))
theorem rp_ref (r : Rp K CA m h H v (.ref k)) : v = .ref (m k) := by cases r; rfl
theorem mo_lst {ds : List D} (S : HR K CA m h H) (e : h.ob k = some (.lst ds)) : ∃ xs, H (m k) = some (.lst xs) ∧ RpAll K CA m h H xs ds := by
  have x := (S.ob k _ e).2
  cases x with
  | lst q r => exact ⟨_, q, r⟩
theorem mo_dct {ds : List (Key × D)} (S : HR K CA m h H) (e : h.ob k = some (.dct ds)) : ∃ xs, H (m k) = some (.dK xs) ∧ xs.map (·.1) = ds.map (·.1) ∧ RpAll K CA m h H (xs.map (·.2)) (ds.map (·.2)) := by
  have x := (S.ob k _ e).2
  cases x with
  | dct q en r => exact ⟨_, q, en, r⟩
theorem mo_obj {c : Nat} {ds : List (Str × D)} (S : HR K CA m h H) (e : h.ob k = some (.obj c ds)) : ∃ dx xs, H (m k) = some (.ins (CA c) dx xs) ∧ xs.map (·.1) = ds.map (·.1) ∧ RpAll K CA m h H (xs.map (·.2)) (ds.map (·.2)) := by
  have x := (S.ob k _ e).2
  cases x with
  | obj q en r => exact ⟨_, _, q, en, r⟩
end
abbrev FM := D → List D → CH → R D
def isTy (T : String) (x : D) (h : CH) : Bool := match T with
  | "list" => (lstOf h x).isSome
  | "dict" => match x with
    | .ref k => match h.ob k with
      | some (.dct _) => true
      | _ => false
    | _ => false
  | "str" => match x with
    | .str _ => true
    | _ => false
  | _ => false
def dBM (T : String) (f : FM) (to : TD) (ts : TDs) : TD := fun ρ h => (to ρ h).bind fun x h => if isTy T x h = true then (ts ρ h).bind fun xs h => f x xs h else .no
def dBM0 (T : String) (f : FM) (to : TD) : TD := fun ρ h => (to ρ h).bind fun x h => if isTy T x h = true then f x [] h else .no
def SimM (K : PySem.W.Frag) (CA : CAs) (r : V → List V → Hp → VK → Prop) (f : FM) : Prop := ∀ (W : WX) (σ : L2.St) (m : Mp) (h : CH) (H : Hp) (x : V) (dx : D) (xs : List V) (ds : List D) (Q' : VK), HR K CA m h H → Rp K CA m h H x dx → RpAll K CA m h H xs ds → PostE K CA W m h H σ Q' (f dx ds h) → r x xs H Q'
section
variable {X : Cx} {K : PySem.W.Frag} {CA : CAs} {W : WX} {m : Mp} {h : CH} {H : Hp} {e o : Expr} {es : List Expr} {T : String} {r : V → List V → Hp → VK → Prop} {f : FM} {ha : TE} {ta : TD} {hs : TA} {ts : TDs}
theorem isTy_ok {x : V} {d : D} (S : HR K CA m h H) (r : Rp K CA m h H x d) (t : isTy T d h = true) : tyV K T x H := by
  unfold isTy at t
  split at t
  · obtain ⟨ds, e⟩ := Option.isSome_iff_exists.mp t
    obtain ⟨a, xs, rfl, e1, _⟩ := rp_lst S r e
    exact .inl ⟨rfl, xs, .of e1⟩
  · split at t
    · split at t
      · rename_i e
        obtain ⟨xs, q, _⟩ := mo_dct S e
        cases r
        exact .inr (.inr (.inl ⟨rfl, .inl ⟨_, q⟩⟩))
      · cases t
    · cases t
  · split at t
    · cases r; rfl
    · cases t
  · cases t
theorem we_bm (s : SimM K CA r f) (x : WE X K CA W o ha ta) (y : WA X K CA W es hs ts) (hp : PE X o ha → PA X es hs → PE X e (tBM K T r ha hs)) : WE X K CA W e (tBM K T r ha hs) (dBM T f ta ts) :=
  ⟨hp x.pe y.pe, fun m h H σ ρ Q' S t => x.sim m h H σ ρ _ S (t.bind fun d h1 m1 v H1 s1 S1 r1 t1 => by
    obtain ⟨c, t1⟩ := post_ite t1
    exact ⟨isTy_ok S1 r1 c, y.sim m1 h1 H1 σ ρ _ (S.move s1 S1) (t1.bind fun ds h2 m2 vs H2 s2 S2 r2 t2 => s W σ m2 h2 H2 v d vs ds Q' S2 (r1.move s2) r2 t2)⟩)⟩
end
def fAppend : FM := fun x xs h => match x, xs with
  | .ref k, [y] => match h.ob k with
    | some (.lst ds) => if ds.length < sizeLine then .ok .non (h.put k (.lst (ds ++ [y]))) else .no
    | _ => .no
  | _, _ => .no
def fExtend : FM := fun x xs h => match x, xs with
  | .ref k, [y] => match h.ob k, lstOf h y with
    | some (.lst ds), some es => if ds.length + es.length ≤ sizeLine then .ok .non (h.put k (.lst (ds ++ es))) else .no
    | _, _ => .no
  | _, _ => .no
def fPopAt : FM := fun x xs h => match x, xs with
  | .ref k, [.int i] => match h.ob k with
    | some (.lst ds) => if -(2 ^ 63) ≤ i ∧ i < 2 ^ 63 then (match seqIndex? i ds.length with
      | some j => (match ds[j]? with
        | some y => .ok y (h.put k (.lst (ds.eraseIdx j)))
        | none => .no)
      | none => .no) else .no
    | _ => .no
  | _, _ => .no
section
variable {K : PySem.W.Frag} {CA : CAs}
theorem sim_append : SimM K CA rAppend fAppend := by
  intro W σ m h H x dx xs ds Q' S rx rs t
  unfold fAppend at t
  split at t
  · split at t
    · rename_i e
      obtain ⟨l, t⟩ := post_ite t
      obtain ⟨ys, q, r⟩ := mo_lst S e
      cases rs with
      | @cons v _ _ _ r1 r2 =>
        cases r2
        exact ⟨_, ys, v, rp_ref rx, rfl, q, by rw [r.length]; exact l, t.put S e trivial (.lst upd_same ((r.append (.cons r1 .nil)).mv (mv_put e))) .non⟩
    · exact t.elim
  · exact t.elim
theorem sim_extend : SimM K CA rExtend fExtend := by
  intro W σ m h H x dx xs ds Q' S rx rs t
  unfold fExtend at t
  split at t
  · split at t
    · rename_i e e2
      obtain ⟨l, t⟩ := post_ite t
      obtain ⟨ys, q, r⟩ := mo_lst S e
      cases rs with
      | cons r1 r2 =>
        cases r2
        obtain ⟨b, zs, rfl, q2, rz⟩ := rp_lst S r1 e2
        exact ⟨_, b, ys, zs, rp_ref rx, rfl, q, q2, by rw [r.length, rz.length]; exact l, t.put S e trivial (.lst upd_same ((r.append rz).mv (mv_put e))) .non⟩
    · exact t.elim
  · exact t.elim
theorem sim_popAt : SimM K CA rPopAt fPopAt := by
  intro W σ m h H x dx xs ds Q' S rx rs t
  unfold fPopAt at t
  split at t
  · split at t
    · rename_i e
      obtain ⟨⟨l1, l2⟩, t⟩ := post_ite t
      obtain ⟨ys, q, r⟩ := mo_lst S e
      cases rs with
      | cons r1 r2 =>
        cases r2
        cases r1
        split at t
        · rename_i j ej
          split at t
          · rename_i ey
            obtain ⟨v, ev, rv⟩ := r.getD ey
            exact ⟨_, ys, _, j, v, rp_ref rx, rfl, q, l1, l2, by rw [r.length]; exact ej, ev, t.put S e trivial (.lst upd_same ((r.eraseIdx _).mv (mv_put e))) rv⟩
          · exact t.elim
        · exact t.elim
    · exact t.elim
  · exact t.elim
end
def refOf : D → Option Nat
  | .ref r => some r
  | _ => none
theorem refOf_eq {d : D} {r : Nat} (e : refOf d = some r) : d = .ref r := by cases d <;> first | (cases e; rfl) | cases e
def dPairs : List (TD × TD) → DE → CH → R (List (D × D))
  | [], _, h => .ok [] h
  | (tk, tv) :: r, ρ, h => (tk ρ h).bind fun x h => (tv ρ h).bind fun y h => (dPairs r ρ h).bind fun ps h => .ok ((x, y) :: ps) h
def keysOf : List (D × D) → Option (List (Key × D))
  | [] => some []
  | (x, y) :: r => match keyD x, keysOf r with
    | some k, some ks => some ((k, y) :: ks)
    | _, _ => none
def mergeD (kvs more : List (Key × D)) : List (Key × D) := more.foldl (fun acc kv => dPut acc kv.1 kv.2) kvs
def dDisp (nm : Bool) (ts : List (TD × TD)) : TD := fun ρ h => (dPairs ts ρ h).bind fun ps h => match keysOf ps with
  | some kvs => if kvs.length ≤ 15 then mkD nm (mergeD [] kvs) h else .no
  | none => .no
def dDNew (nm : Bool) : TD := fun _ h => mkD nm [] h
def RPs (K : PySem.W.Frag) (CA : CAs) : Mp → CH → Hp → List (V × V) → List (D × D) → Prop := fun m h H ps qs => RpAll K CA m h H (ps.map (·.1)) (qs.map (·.1)) ∧ RpAll K CA m h H (ps.map (·.2)) (qs.map (·.2))
def SimP (K : PySem.W.Frag) (CA : CAs) (W : WX) (trs : List (TE × TE)) (ts : List (TD × TD)) : Prop := ∀ (m : Mp) (h : CH) (H : Hp) (σ : L2.St) (ρ : DE) (Q' : List (V × V) → Hp → Prop), SO K CA m h H σ ρ → PostG K CA W (RPs K CA) m h H σ Q' (dPairs ts ρ h) → tPairs trs σ H Q'
structure WP (X : Cx) (K : PySem.W.Frag) (CA : CAs) (W : WX) (pos : Pos) (keys : List (Option Expr)) (values : List Expr) (trs : List (TE × TE)) (ts : List (TD × TD)) : Prop where
  pe : PPs X pos keys values trs
  sim : SimP K CA W trs ts
section
variable {X : Cx} {K : PySem.W.Frag} {CA : CAs} {W : WX} {m : Mp} {h : CH} {H : Hp} {a b : Expr} {hk hv : TE} {tk tv : TD} {pos : Pos}
theorem wp_nil : WP X K CA W pos [] [] [] [] := ⟨pps_nil, fun m h H σ ρ Q' S t => t.here S.hr ⟨.nil, .nil⟩⟩
theorem wp_cons {ks : List (Option Expr)} {vs : List Expr} {trs : List (TE × TE)} {ts : List (TD × TD)} (x : WE X K CA W a hk tk) (y : WE X K CA W b hv tv) (z : WP X K CA W pos ks vs trs ts) : WP X K CA W pos (some a :: ks) (b :: vs) ((hk, hv) :: trs) ((tk, tv) :: ts) :=
  ⟨pps_cons x.pe y.pe z.pe, fun m h H σ ρ Q' S t => x.sim m h H σ ρ _ S (t.bind fun d1 h1 m1 v1 H1 s1 S1 r1 t1 => y.sim m1 h1 H1 σ ρ _ (S.move s1 S1) (t1.bind fun d2 h2 m2 v2 H2 s2 S2 r2 t2 =>
    z.sim m2 h2 H2 σ ρ _ ((S.move s1 S1).move s2 S2) (t2.bind fun qs h3 m3 ps H3 s3 S3 r3 t3 => t3.here S3 ⟨.cons ((r1.move s2).move s3) r3.1, .cons (r2.move s3) r3.2⟩)))⟩
theorem keys_rel : ∀ (ps : List (V × V)) (qs : List (D × D)) (ks : List (Key × D)), RpAll K CA m h H (ps.map (·.1)) (qs.map (·.1)) → RpAll K CA m h H (ps.map (·.2)) (qs.map (·.2)) → keysOf qs = some ks →
    ∃ kvs : List (Key × V), ps = kvs.map (fun kv => (kV kv.1, kv.2)) ∧ kvs.map (·.1) = ks.map (·.1) ∧ RpAll K CA m h H (kvs.map (·.2)) (ks.map (·.2))
  | [], [], ks, _, _, h => by cases h; exact ⟨[], rfl, rfl, .nil⟩
  | [], _ :: _, _, h, _, _ => by cases h
  | _ :: _, [], _, h, _, _ => by cases h
  | (x, y) :: ps, (d1, d2) :: qs, ks, h1, h2, h => by
    cases h1 with
    | cons a1 b1 =>
      cases h2 with
      | cons a2 b2 =>
        simp only [keysOf] at h
        cases hk : keyD d1 with
        | none => rw [hk] at h; cases h
        | some k =>
          cases hr : keysOf qs with
          | none => rw [hk, hr] at h; cases h
          | some r =>
            rw [hk, hr] at h
            cases h
            obtain ⟨kvs, e1, e2, e3⟩ := keys_rel ps qs r b1 b2 hr
            exact ⟨(k, y) :: kvs, by rw [List.map_cons, ← e1]; have ek : x = kV k := rp_key a1 hk; rw [ek], by rw [List.map_cons, List.map_cons, e2], .cons a2 e3⟩
theorem merge_rel : ∀ (more : List (Key × V)) (dmore : List (Key × D)) (kvs : List (Key × V)) (ds : List (Key × D)), more.map (·.1) = dmore.map (·.1) → RpAll K CA m h H (more.map (·.2)) (dmore.map (·.2)) → kvs.map (·.1) = ds.map (·.1) → RpAll K CA m h H (kvs.map (·.2)) (ds.map (·.2)) →
    (mergeK kvs more).map (·.1) = (mergeD ds dmore).map (·.1) ∧ RpAll K CA m h H ((mergeK kvs more).map (·.2)) ((mergeD ds dmore).map (·.2))
  | [], [], kvs, ds, _, _, e, r => ⟨e, r⟩
  | [], _ :: _, _, _, h, _, _, _ => by simp at h
  | _ :: _, [], _, _, h, _, _, _ => by simp at h
  | (k, y) :: more, (k', d) :: dmore, kvs, ds, h, h', e, r => by
    simp only [List.map_cons, List.cons.injEq] at h
    obtain ⟨rfl, h⟩ := h
    cases h' with
    | cons a b =>
      obtain ⟨e2, r2⟩ := rp_dput (k := k) e r a
      exact merge_rel more dmore _ _ h b e2 r2
theorem doneD0 {σ : L2.St} {m1 m2 : Mp} {h1 h2 : CH} {H1 H2 : Hp} {p : Addr} {nm : Bool} {acc : List (Key × V)} {ds : List (Key × D)} {Q1 : VK} {mb : Mp} {hb : CH} {Hb : Hp} (sb : Stp mb hb Hb m1 h1 H1) (S : HR K CA m1 h1 H1) (n : H1 p = none) {u : HO} (s : Sc p (m1.add p) h1 (upd H1 p u) m2 h2 H2) (S2 : HR K CA m2 h2 H2) (e : H2 p = some (.dK acc)) (en : acc.map (·.1) = ds.map (·.1)) (r : RpAll K CA m2 h2 H2 (acc.map (·.2)) (ds.map (·.2)))
    (t : PostE K CA W mb hb Hb σ Q1 (mkD nm ds h2)) : Q1 (.ref p) H2 := by
  have z2 : m2.z = p :: m1.z := s.z
  cases nm with
  | true =>
    obtain ⟨s3, S3⟩ := done_named (o := .dct ds) S n s S2 (.dct e en (r.named S2 z2))
    refine t _ _ H2 (sb.trans s3) S3 ?_
    have := Rp.ref (K := K) (CA := CA) (m := mpNew ⟨m2.f, m1.z⟩ h2 p) (h := h2.new (.dct ds)) (H := H2) (k := h2.nx) (Nat.lt_succ_self _)
    rw [show (mpNew ⟨m2.f, m1.z⟩ h2 p) h2.nx = p from mpNew_nx] at this
    exact this
  | false => exact t _ _ H2 (sb.trans (stp_done S n s)) (S2.done z2) (.dct (done_data S n s S2) e rfl en (r.done z2))
theorem we_dnew (nm : Bool) : WE X K CA W (.Dict [] [] pos) tDNewK (dDNew nm) := ⟨pe_dnewK, fun m h H σ ρ Q' S t p n => mkD_post S.hr n rfl .nil t⟩
/-- the dict p is made meanwhile -/
theorem we_disp (nm : Bool) {ks : List (Option Expr)} {vs : List Expr} {trs : List (TE × TE)} {ts : List (TD × TD)} (x : WP X K CA W pos ks vs trs ts) (hall : ks.all (·.isSome) = true) (hl : ks.length = vs.length) (h0 : ks ≠ []) (h15 : ks.length ≤ 15) : WE X K CA W (.Dict ks vs pos) (tDisp trs) (dDisp nm ts) := by
  refine ⟨pe_disp x.pe hall hl h0 h15, fun m hh H σ ρ Q' S t p n => ?_⟩
  have S2 := S.hr.add (u := .dK []) n
  have SO2 : SO K CA (m.add p) hh (upd H p (.dK [])) σ ρ := ⟨S2, S.len, fun i d e => let ⟨v, e1, q⟩ := S.sl i d e; ⟨v, e1, q.add n⟩⟩
  have pz : p ∈ (m.add p).z := List.mem_cons_self ..
  refine x.sim (m.add p) hh _ σ ρ _ SO2 ?_
  unfold dDisp at t
  cases ep : dPairs ts ρ hh with
  | no => rw [ep] at t; exact t.elim
  | ex c fs h1 =>
    rw [ep] at t
    intro m1 cls dd H1 s1 S1 xr
    have z2 : m1.z = p :: m.z := s1.z
    refine t ⟨m1.f, m.z⟩ cls dd H1 (stp_done S.hr n s1.sc) (S1.done z2) ?_
    obtain ⟨x1, x2⟩ := xr
    refine ⟨x1, x2.imp id ?_⟩
    rintro ⟨y, hf, e1, e2, e3, e4, e5⟩
    exact ⟨y, hf, e1, (Mp.done_kp z2 y _ e2 e3 trivial).1, e3, e4, e5.done z2⟩
  | ok qs h1 =>
    rw [ep] at t
    intro m1 ps H1 s1 S1 rr
    replace t : PostE K CA W m hh H σ Q' (match keysOf qs with
      | some kvs => if kvs.length ≤ 15 then mkD nm (mergeD [] kvs) h1 else .no
      | none => .no) := t
    cases ek : keysOf qs with
    | none => rw [ek] at t; exact t.elim
    | some kvs =>
      rw [ek] at t
      obtain ⟨l, t⟩ := post_ite t
      obtain ⟨hkv, e1, e2, e3⟩ := keys_rel ps qs kvs rr.1 rr.2 ek
      have pz1 : p ∈ m1.z := by rw [s1.z]; exact pz
      obtain ⟨m3, m4⟩ := merge_rel hkv kvs [] [] e2 e3 rfl .nil
      refine ⟨(s1.zk p pz).trans upd_same, hkv, e1, by rw [len_of e2]; exact l, ?_⟩
      have sm := sc_made (u := .dK (mergeK [] hkv)) S1 pz1
      exact doneD0 .refl S.hr n (s1.sc.trans sm) (S1.made pz1) upd_same m3 (m4.mv sm.toMv) t
end
end CM
namespace CM
open PySem PySem.Spec PyProof.Rows L2
def putD (f : Str) (v : D) : List (Str × D) → List (Str × D)
  | [] => [(f, v)]
  | (g, x) :: r => if g = f then (g, v) :: r else (g, x) :: putD f v r
/-- an object's class and fields -/
def objOf (h : CH) : D → Option (Nat × List (Str × D))
  | .obj c fs => some (c, fs)
  | .ref k => match h.ob k with
    | some (.obj c fs) => some (c, fs)
    | _ => none
  | _ => none
def fFld (cs : List Nat) (f : Str) : F1 := fun d h => match objOf h d with
  | some (c, fs) => if c ∈ cs then (match fs.lookup f with
    | some x => .ok x h
    | none => .no) else .no
  | none => .no
/-- classes whose instances' attribute f is a field -/
def FldOf (K : PySem.W.Frag) (CA : CAs) (cs : List Nat) (f : Str) : Prop := ∀ c, c ∈ cs → Cls K (CA c) ∧ NoAttr K (CA c) f
theorem FldOf.one {K : PySem.W.Frag} {CA : CAs} {c : Nat} {f : Str} (h1 : Cls K (CA c)) (h2 : NoAttr K (CA c) f) : FldOf K CA [c] f := fun x hx => by
  rw [List.mem_singleton] at hx
  subst hx
  exact ⟨h1, h2⟩
theorem FldOf.cons {K : PySem.W.Frag} {CA : CAs} {c : Nat} {cs : List Nat} {f : Str} (h1 : Cls K (CA c)) (h2 : NoAttr K (CA c) f) (h3 : FldOf K CA cs f) : FldOf K CA (c :: cs) f := fun x hx => by
  rcases List.mem_cons.mp hx with rfl | hx
  · exact ⟨h1, h2⟩
  · exact h3 x hx
section
variable {X : Cx} {K : PySem.W.Frag} {CA : CAs} {W : WX} {m : Mp} {h : CH} {H : Hp} {e o i : Expr} {ha hi : TE} {ta ti : TD} {pos : Pos} {f : Str} {cs : List Nat}
theorem rp_obj {v : V} {d : D} {c : Nat} {fs : List (Str × D)} (S : HR K CA m h H) (r : Rp K CA m h H v d) (e : objOf h d = some (c, fs)) : ∃ a dx hf, v = .ref a ∧ H a = some (.ins (CA c) dx hf) ∧ hf.map (·.1) = fs.map (·.1) ∧ RpAll K CA m h H (hf.map (·.2)) (fs.map (·.2)) := by
  cases r with
  | obj n e1 en r => cases e; exact ⟨_, _, _, rfl, e1, en, r⟩
  | ref l =>
    simp only [objOf] at e
    split at e
    · rename_i q
      cases e
      obtain ⟨dx, xs, q1, q2, q3⟩ := mo_obj S q
      exact ⟨_, dx, xs, rfl, q1, q2, q3⟩
    · cases e
  | _ => cases e
theorem rp_look {d : D} : ∀ {fs : List (Str × V)} {dfs : List (Str × D)}, fs.map (·.1) = dfs.map (·.1) → RpAll K CA m h H (fs.map (·.2)) (dfs.map (·.2)) → dfs.lookup f = some d → ∃ v, fs.lookup f = some v ∧ Rp K CA m h H v d
  | [], [], _, _, h => by cases h
  | [], _ :: _, e, _, _ => by simp at e
  | _ :: _, [], e, _, _ => by simp at e
  | (g, v) :: fs, (g', d') :: dfs, e, r, h => by
    simp only [List.map_cons, List.cons.injEq] at e
    obtain ⟨rfl, e⟩ := e
    cases r with
    | cons r1 r2 =>
      rw [List.lookup_cons] at h ⊢
      cases q : f == g with
      | true => rw [q] at h; simp only [Option.some.injEq] at h; subst h; exact ⟨v, rfl, r1⟩
      | false => rw [q] at h; exact rp_look e r2 h
theorem rp_putF {v : V} {d : D} (r' : Rp K CA m h H v d) : ∀ {fs : List (Str × V)} {dfs : List (Str × D)}, fs.map (·.1) = dfs.map (·.1) → RpAll K CA m h H (fs.map (·.2)) (dfs.map (·.2)) →
    (putF f v fs).map (·.1) = (putD f d dfs).map (·.1) ∧ RpAll K CA m h H ((putF f v fs).map (·.2)) ((putD f d dfs).map (·.2))
  | [], [], _, _ => ⟨rfl, .cons r' .nil⟩
  | [], _ :: _, e, _ => by simp at e
  | _ :: _, [], e, _ => by simp at e
  | (g, x) :: fs, (g', y) :: dfs, e, r => by
    simp only [List.map_cons, List.cons.injEq] at e
    obtain ⟨rfl, e⟩ := e
    cases r with
    | cons r1 r2 =>
      obtain ⟨i1, i2⟩ := rp_putF r' e r2
      unfold putF putD
      by_cases q : g = f
      · rw [if_pos q, if_pos q]
        exact ⟨by simp [e], .cons r' r2⟩
      · rw [if_neg q, if_neg q]
        exact ⟨by simp only [List.map_cons]; rw [i1], .cons r1 i2⟩
theorem we_fld (hf : FldOf K CA cs f) (x : WE X K CA W e ha ta) (hb : attributeBase e f X.env (eval e X.env) = eval e X.env := by rfl) (hK : X.K = K := by rfl) : WE X K CA W (.Attribute e f pos) (tFld K ha f) (dUn (fFld cs f) ta) := by
  subst hK
  refine ⟨pe_fld x.pe hb, fun m h H σ ρ Q' S t => x.sim m h H σ ρ _ S (t.bind fun d h1 m1 v H1 s1 S1 r1 t1 => ?_)⟩
  unfold fFld at t1
  split at t1
  · rename_i c fs eo
    by_cases hc : c ∈ cs
    · rw [if_pos hc] at t1
      split at t1
      · rename_i y el
        obtain ⟨a, dx, hfs, rfl, q1, q2, q3⟩ := rp_obj S1 r1 eo
        obtain ⟨u, hu, ru⟩ := rp_look q2 q3 el
        exact ⟨a, _, dx, hfs, u, rfl, q1, (hf c hc).1, (hf c hc).2, hu, t1.here S1 ru⟩
      · exact t1.elim
    · rw [if_neg hc] at t1; exact t1.elim
  · exact t1.elim
def gFldH (K : PySem.W.Frag) (to : TE) (f : Str) : TG := fun v σ H Q => to σ H fun x H1 => ∃ a C dx fs, x = .ref a ∧ H1 a = some (.ins C dx fs) ∧ Cls K C ∧ NoAttr K C f ∧ fs.length < 1000 ∧ Q σ (upd H1 a (.ins C dx (putF f v fs)))
theorem pg_fld {to : TE} (ho : PE X o to) : PG X (.Attribute o f pos) (gFldH X.K to f) := by
  refine ⟨fun pins s σ H v u Q I r hq => ?_⟩
  show wpAny _ X.A (do
    let ov ← holding [u] (eval o X.env)
    standAt pos.atName
    holding [u, ov] (setAttr ov f u)
    release [u, ov] []) _ _ s
  refine wpAny_bind (wpAny_holding (thn (ho.run pins s σ H _ I hq) fun ov s1 q => ?_))
  obtain ⟨x, H1, I1, r1, a, C, dx, fs, rfl, ea, c, n, l, q⟩ := q
  obtain rfl : ov = Value.ref a := r1
  refine wpAny_bind (wpAny_standAt (wpAny_bind (wpAny_holding (setattr_ok I1 ea c n l r fun s3 I3 => ?_))))
  exact wpAny_release ⟨σ, _, I3, q⟩
def gdFld (cs : List Nat) (f : Str) (to : TD) : TGD := fun d ρ h => (to ρ h).calm fun x h => match refOf x with
  | some k => match h.ob k with
    | some (.obj c fs) => if c ∈ cs ∧ fs.length < 1000 then .ok ρ (h.put k (.obj c (putD f d fs))) else .no
    | _ => .no
  | none => .no
theorem PostT'.calm {α β : Type} {RR : Mp → CH → Hp → β → α → Prop} {Q1 : β → Hp → Prop} {σ : L2.St} {sl : List Nat} {Q' : L2.St → Hp → Prop} {r : R α} {k : α → CH → R DE} (q : PostT' K CA m h H σ sl Q' (r.calm k))
    (g : ∀ a h1 m1 b H1, Stp m h H m1 h1 H1 → HR K CA m1 h1 H1 → RR m1 h1 H1 b a → PostT' K CA m1 h1 H1 σ sl Q' (k a h1) → Q1 b H1) : PostG K CA W RR m h H σ Q1 r := by
  cases r with
  | ok a h1 => exact fun m1 b H1 s S rr => g a h1 m1 b H1 s S rr (PostT'.mono (show PostT' K CA m h H σ sl Q' (k a h1) from q) s rfl (fun _ _ => rfl) fun _ z => z)
  | ex c fs h1 => exact q.elim
  | no => exact q.elim
theorem wg_fld (hf : FldOf K CA cs f) (x : WE X K CA W o ha ta) (hK : X.K = K := by rfl) : WG X K CA (.Attribute o f pos) [] (gFldH K ha f) (gdFld cs f ta) := by
  subst hK
  refine ⟨pg_fld x.pe, fun m hh H σ ρ v d Q' S r q => x.sim m hh H σ ρ _ S (PostT'.calm q fun a h1 m1 w H1 s1 S1 r1 q1 => ?_)⟩
  split at q1
  · rename_i k er
    have er := refOf_eq er
    subst er
    split at q1
    · rename_i c fs eo
      by_cases hc : c ∈ cs ∧ fs.length < 1000
      · rw [if_pos hc] at q1
        obtain ⟨dx, hfs, e1, en, rr⟩ := mo_obj S1 eo
        obtain ⟨i1, i2⟩ := rp_putF (f := f) (r.move s1) en rr
        refine ⟨_, _, dx, hfs, rp_ref r1, e1, (hf c hc.1).1, (hf c hc.1).2, by have := congrArg List.length en; simp at this; omega, ?_⟩
        have sp := stp_put (o' := .obj c (putD f d fs)) (u := .ins (CA c) dx (putF f v hfs)) S1 eo trivial
        exact q1 m1 σ _ sp ((S.move s1 S1).move sp (S1.put eo (.obj upd_same i1 (i2.mv (mv_put eo))))) rfl fun _ _ => rfl
      · rw [if_neg hc] at q1; exact q1.elim
    · exact q1.elim
  · exact q1.elim
/-- o[i] = v: a list, a dict -/
def rSetU : V → V → V → Hp → (Hp → Prop) → Prop := fun o i v H Q => rSetL o i v H Q ∨ ∃ a H', o = .ref a ∧ DPut H a i v H' ∧ Q H'
theorem set_U (hu : X.A.units + 1 < cLine) : PSet X rSetU := by
  intro pins s σ H o i v ov iv u Q I ro ri rv hq
  rcases hq with hq | ⟨a, H', rfl, dp, q⟩
  · exact set_list pins s σ H o i v ov iv u Q I ro ri rv hq
  · obtain rfl : ov = Value.ref a := ro
    exact d_setItem hu I dp ri rv fun s4 I4 => ⟨H', I4, q⟩
def gdSub (to ti : TD) : TGD := fun d ρ h => (to ρ h).calm fun x h => (ti ρ h).calm fun y h => match refOf x with
  | some k => match h.ob k with
    | some (.lst ds) => (match y with
      | .int i => (match ixN ds.length i with
        | some j => .ok ρ (h.put k (.lst (ds.set j d)))
        | none => .no)
      | _ => .no)
    | some (.dct kvs) => (match keyD y with
      | some key => if kvs.length < sizeLine then .ok ρ (h.put k (.dct (dPut kvs key d))) else .no
      | none => .no)
    | _ => .no
  | none => .no
theorem wg_sub (hu : X.A.units + 1 < cLine) (x : WE X K CA W o ha ta) (y : WE X K CA W i hi ti) (hp : PE X o ha → PE X i hi → PSet X rSetU → PG X e (gSub ha hi rSetU)) : WG X K CA e [] (gSub ha hi rSetU) (gdSub ta ti) := by
  refine ⟨hp x.pe y.pe (set_U hu), fun m hh H σ ρ v d Q' S r q => x.sim m hh H σ ρ _ S (PostT'.calm q fun a h1 m1 w H1 s1 S1 r1 q1 => y.sim m1 h1 H1 σ ρ _ (S.move s1 S1) (PostT'.calm q1 fun b h2 m2 w2 H2 s2 S2 r2 q2 => ?_))⟩
  split at q2
  · rename_i k er
    have er := refOf_eq er
    subst er
    have ew := rp_ref (r1.move s2)
    have rv := (r.move s1).move s2
    have SS := (S.move s1 S1).move s2 S2
    split at q2
    · rename_i ds eo
      split at q2
      · split at q2
        · rename_i j ej
          obtain ⟨ys, e1, rr⟩ := mo_lst S2 eo
          cases r2
          have sp := stp_put (o' := .lst (ds.set j d)) (u := .lst (ys.set j v)) S2 eo trivial
          exact .inl ⟨_, ys, _, j, ew, rfl, e1, by rw [rr.length]; exact ej, q2 m2 σ _ sp (SS.move sp (S2.put eo (.lst upd_same ((rr.set j rv).mv (mv_put eo))))) rfl fun _ _ => rfl⟩
        · exact q2.elim
      · exact q2.elim
    · rename_i kvs eo
      split at q2
      · rename_i key ek
        by_cases hz : kvs.length < sizeLine
        · rw [if_pos hz] at q2
          obtain ⟨hkv, e1, en, rr⟩ := mo_dct S2 eo
          have ey := rp_key r2 ek
          subst ey
          obtain ⟨i1, i2⟩ := rp_dput (k := key) en rr rv
          have sp := stp_put (o' := .dct (dPut kvs key d)) (u := .dK (putK hkv key v)) S2 eo trivial
          exact .inr ⟨_, _, ew, DPut.k e1 (by rw [len_of en]; exact hz), q2 m2 σ _ sp (SS.move sp (S2.put eo (.dct upd_same i1 (i2.mv (mv_put eo))))) rfl fun _ _ => rfl⟩
        · rw [if_neg hz] at q2; exact q2.elim
      · exact q2.elim
    · exact q2.elim
  · exact q2.elim
end
def cutD (xs : List D) (lo hi : Option Int) : List D := (xs.drop (HT.sIx xs.length 0 lo)).take (HT.sIx xs.length xs.length hi - HT.sIx xs.length 0 lo)
theorem rp_cut {K : PySem.W.Frag} {CA : CAs} {m : Mp} {h : CH} {H : Hp} {vs : List V} {ds : List D} {lo hi : Option Int} (r : RpAll K CA m h H vs ds) : RpAll K CA m h H (cutV vs lo hi) (cutD ds lo hi) := by
  unfold cutV cutD
  rw [r.length]
  exact (r.drop _).take _
abbrev TDo := DE → CH → R (Option Int)
def dNoPart : TDo := fun _ h => .ok none h
def dPart (t : TD) : TDo := fun ρ h => (t ρ h).bind fun d h => match d with
  | .int i => .ok (some i) h
  | _ => .no
def dSl (nm : Bool) (ta : TD) (tl th : TDo) : TD := fun ρ h => (ta ρ h).bind fun x h => (tl ρ h).bind fun l h => (th ρ h).bind fun u h => match x with
  | .tup ds => .ok (.tup (cutD ds l u)) h
  | x => match lstOf h x with
    | some ds => mkL nm (cutD ds l u) h
    | none => .no
def RO : Mp → CH → Hp → Option Int → Option Int → Prop := fun _ _ _ b a => b = a
def SimO (K : PySem.W.Frag) (CA : CAs) (W : WX) (tH : TO) (t : TDo) : Prop := ∀ (m : Mp) (h : CH) (H : Hp) (σ : L2.St) (ρ : DE) (Q' : Option Int → Hp → Prop), SO K CA m h H σ ρ → PostG K CA W RO m h H σ Q' (t ρ h) → tH σ H Q'
structure WO (X : Cx) (K : PySem.W.Frag) (CA : CAs) (W : WX) (e : Option Expr) (tH : TO) (t : TDo) : Prop where
  pe : PO X e tH
  sim : SimO K CA W tH t
section
variable {X : Cx} {K : PySem.W.Frag} {CA : CAs} {W : WX} {e a : Expr} {lo hi : Option Expr} {ha : TE} {ta : TD} {hl hh : TO} {tl th : TDo} {pos p2 : Pos}
theorem wo_none : WO X K CA W none tNoPart dNoPart := ⟨po_none, fun m h H σ ρ Q' S t => t.here S.hr rfl⟩
theorem wo_some (x : WE X K CA W e ha ta) : WO X K CA W (some e) (tPart ha) (dPart ta) := ⟨po_some x.pe, fun m h H σ ρ Q' S t => x.sim m h H σ ρ _ S (t.bind fun d h1 m1 v H1 s1 S1 r1 t1 => by
  split at t1
  · cases r1; exact ⟨_, rfl, t1.here S1 rfl⟩
  · exact t1.elim)⟩
abbrev rSlU (K : PySem.W.Frag) : V → Option Int → Option Int → Hp → VK → Prop := fun x lo hi H Q => rSlL K x lo hi H Q ∨ rSlA K x lo hi H Q
theorem cut_whole {xs : List D} {lo hi : Option Int} (h1 : HT.sIx xs.length 0 lo = 0) (h2 : HT.sIx xs.length xs.length hi = xs.length) : cutD xs lo hi = xs := by
  unfold cutD
  rw [h1, h2]
  simp
theorem we_slice (nm : Bool) (x : WE X K CA W a ha ta) (y : WO X K CA W lo hl tl) (z : WO X K CA W hi hh th) (hK : X.K = K := by rfl) : WE X K CA W (.Subscript a (.Slice lo hi none p2) pos) (tSl (rSlU K) ha hl hh) (dSl nm ta tl th) := by
  subst hK
  refine ⟨pe_slice (sl_list.or sl_tupA) x.pe y.pe z.pe, fun m h H σ ρ Q' S t => x.sim m h H σ ρ _ S (t.bind fun d h1 m1 v H1 s1 S1 r1 t1 => ?_)⟩
  refine y.sim m1 h1 H1 σ ρ _ (S.move s1 S1) (t1.bind fun l h2 m2 l' H2 s2 S2 e2 t2 => ?_)
  cases (show l' = l from e2)
  refine z.sim m2 h2 H2 σ ρ _ ((S.move s1 S1).move s2 S2) (t2.bind fun u h3 m3 u' H3 s3 S3 e3 t3 => ?_)
  cases (show u' = u from e3)
  have r3 := (r1.move s2).move s3
  split at t3
  · obtain ⟨b, xs, rfl, e1, r2⟩ := rp_tup r3
    refine .inr ⟨b, xs, rfl, e1, fun z => ?_, fun _ p n => t3.laid S3 n (.tup (S3.fresh n) upd_same (rps_laid S3 n (rp_cut r2)))⟩
    rename_i ds
    have e : cutD ds l u = ds := cut_whole (by rw [← r2.length]; exact z.1) (by rw [← r2.length]; exact z.2)
    rw [e] at t3
    exact t3.here S3 r3
  · split at t3
    · rename_i ds ed
      obtain ⟨b, xs, rfl, e1, r2⟩ := rp_lst S3 r3 ed
      exact .inl ⟨b, xs, rfl, .of e1, fun p n => mkL_post S3 n (rp_cut r2) t3⟩
    · exact t3.elim
end
end CM
namespace CM
open PySem PySem.Spec PyProof.Rows L2
/-- what a def promises; g: it may show objects, so no guard may be under way -/
structure FnG (P : Program) (w : World) (K : PySem.W.Frag) (mg : Str → Option Value) (base : Heap) (g : Bool) (k : Nat) (f : Addr) (fd : FuncData) (ps : List Str) (sp : Sp) : Prop where
  ln : ∀ vs H Q E, sp vs H Q E → vs.length = ps.length
  go : ∀ (A : Around) (outer : List Env) (s : Shared) (H : Hp) (args : Args) (us : List Value) (vs : List V) (Q : VK) (E : XK), (g = true → A.guards = some []) → Room k A → Env0 P w K mg base A outer s H → BindsTo s fd args (ps.zip us) → Vals vs us →
    sp vs H Q E → codeAny (model P w) A (.call (.ref f) args) (CR (L2.CX P w) outer P w H s Q E) s
theorem FnG.mono {P : Program} {w : World} {K : PySem.W.Frag} {mg : Str → Option Value} {base : Heap} {g : Bool} {j k : Nat} {f : Addr} {fd : FuncData} {ps : List Str} {sp : Sp} (F : FnG P w K mg base g j f fd ps sp) (h : j ≤ k) : FnG P w K mg base g k f fd ps sp :=
  ⟨F.ln, fun A o s H a us vs Q E hg hr => F.go A o s H a us vs Q E hg (hr.mono h)⟩
abbrev cxD (P : Program) (w : World) (K : PySem.W.Frag) (mg : Str → Option Value) (base : Heap) (N : List Str) (qual : Str) (st : Stmt) (f : Addr) (cd : Value) (A : Around) (outer : List Env) (s : Shared) (H : Hp) (E : XK) : Cx :=
  cxOf (L2.CX P w) P w K mg base N qual (defScope st) f cd A outer s H E
abbrev wxD (E : XK) : WX := fun cls d _ H => E cls d H
section
variable {P : Program} {w : World} {K : PySem.W.Frag} {mg : Str → Option Value} {base : Heap} {CA : CAs} {g : Bool}
theorem FnG.mk' {nm qual : Str} {st : Stmt} {f : Addr} {fd : FuncData} {N ps : List Str} {k : Nat} {sp : Sp} (F : Fun K nm qual st f fd) (S : FnScope N ps (defScope st)) (ln : ∀ vs H Q E, sp vs H Q E → vs.length = ps.length)
    (body : ∀ (cd : Value) (A : Around) (outer : List Env) (s : Shared) (H : Hp) (vs : List V) (Q : VK) (E : XK), (g = true → A.guards = some []) → Room k (A.deeper (envOfC qual (defScope st) s.heap.objs.size f cd)) → sp vs H Q E →
      ∃ t, PSs (cxD P w K mg base N qual st f cd A outer s H E) (defBody st) t ∧ t { nx := fun _ H2 => Q .non H2, rt := Q } (start N vs) H) : FnG P w K mg base g (k + 1) f fd ps sp := by
  obtain ⟨x1, x2, x3, x4, x5, x6, cd, x8, x9, rfl, look, code⟩ := F.ex
  refine ⟨ln, fun A outer s H args us vs Q E hg room e0 bd rv hs => ?_⟩
  have len1 := ln _ _ _ _ hs
  have kin : K.In s.heap := e0.mod.kin.keeps fun b o e => (e0.bs b o e).1
  have nl : s.heap.NoLimit := e0.mod.nolimit.keeps fun b o e => (e0.bs b o e).1
  have kinds : ∀ y, y ∈ ps.zip us → (defScope st).names.lookup y.1 = some .local ∨ ((defScope st).names.lookup y.1 = some .cell ∧ ((cellsFrom (s.heap.objs.size + 1) (defScope st).names []).lookup y.1).isSome = true) := by
    rintro ⟨a, b⟩ hm
    exact (S.par a (List.of_mem_zip hm).1).imp id fun q => ⟨q, PySem.W.cellsFrom_some _ _ _ (.inl q)⟩
  refine codeAny_call_function room.depth (kin _ _ look) rfl S.co S.gen rfl (PySem.W.codeRec_of kin code) (bd _ _ _ _ (wpAny_newFunctionEnv_cells S.kind kinds fun env ee s1 hc => ?_))
  cases ee
  refine ⟨nl.keeps hc.toInCall.keep, codeAny_func ?_⟩
  obtain ⟨t, ht, hq⟩ := body cd A outer s H vs Q E hg (room.deeper _) hs
  have inv : Inv (cxD P w K mg base N qual st f cd A outer s H E) [] (start N vs) H s1 := inv_start S room.hd e0 len1 rv hc
  have back : ∀ {σ' : L2.St} {H2 : Hp} {v : V} {u : Value} {s2 : Shared}, Inv (cxD P w K mg base N qual st f cd A outer s H E) [] σ' H2 s2 → RelV v u → Q v H2 → CE outer P w H s Q u s2 := fun {_ H2 v _ _} J r q => ⟨v, H2, J.os, J.bare, J.base, J.hok, r, q⟩
  refine wpAny_mono (ht.run [] s1 (start N vs) H _ inv hq) (fun fl s2 h2 => ?_) fun _ _ z => z
  rcases fl with _ | _ | _ | u
  · obtain ⟨_, _, J, q⟩ := h2
    exact back (v := V.non) (u := Value.none) J rfl q
  · obtain ⟨_, _, _, q⟩ := h2; exact False.elim q
  · obtain ⟨_, _, _, q⟩ := h2; exact False.elim q
  · obtain ⟨_, _, _, J, r, q⟩ := h2
    exact back J r q
theorem FnG.ok {k : Nat} {f : Addr} {fd : FuncData} {ps : List Str} {sp : Sp} (F : FnG P w K mg base false k f fd ps sp) : FnOk P w K mg base (L2.CX P w) k f fd ps sp := ⟨F.ln, fun A o s H a us vs Q E hr => F.go A o s H a us vs Q E (fun z => nomatch z) hr⟩
def spD (K : PySem.W.Frag) (CA : CAs) (n : Nat) (F : FD) : Sp := fun vs H Q E => vs.length = n ∧ ∃ (m : Mp) (h : CH) (ds : List D), HR K CA m h H ∧ RpAll K CA m h H vs ds ∧ PostE K CA (wxD E) m h H [] Q (F ds h)
/-- the slots at a def's entry -/
def startD (N : Nat) (ds : List D) : DE := ds.map some ++ List.replicate (N - ds.length) none
def RS.res : RS → R D
  | .nx _ h => .ok .non h
  | .rt d h => .ok d h
  | .ex _ c fs h => .ex c fs h
  | _ => .no
def bodyF (N : Nat) (u : SD) : FD := fun ds h => (u (startD N ds) h).res
theorem so_start {m : Mp} {h : CH} {H : Hp} {vs : List V} {ds : List D} (N : List Str) (hl : vs.length ≤ N.length) (S : HR K CA m h H) (r : RpAll K CA m h H vs ds) : SO K CA m h H (start N vs) (startD N.length ds) := by
  have hds := r.length
  refine ⟨S, by simp [L2.start, startD, hds], fun i s e => ?_⟩
  unfold startD at e
  by_cases hi : i < ds.length
  · rw [List.getElem?_append_left (by simpa using hi), List.getElem?_map] at e
    cases q : ds[i]? with
    | none => rw [q] at e; cases e
    | some d =>
      rw [q] at e; cases e
      obtain ⟨v, e2, rv⟩ := r.getD q
      refine ⟨v, ?_, rv⟩
      unfold L2.start
      have hi := (List.getElem?_eq_some_iff.mp e2).1
      rw [List.getElem?_append_left (by simpa using hi), List.getElem?_map, e2]
      rfl
  · rw [List.getElem?_append_right (by simpa using hi), List.getElem?_replicate] at e
    split at e <;> cases e
theorem res_post {E : XK} {m : Mp} {h : CH} {H : Hp} {Q : VK} {r : RS} {σ : L2.St} (t : PostE K CA (wxD E) m h H σ Q r.res) : PostS K CA (wxD E) m h H { nx := fun _ H2 => Q .non H2, rt := Q } r := by
  cases r with
  | nx ρ' h' => exact fun m' σ' H' s S => t m' .non H' s S.hr .non
  | rt d h' => exact t
  | bk ρ' h' => exact t.elim
  | ct ρ' h' => exact t.elim
  | ex ρ' c fs h' => exact fun m' cls dd σ' H' s S x => t m' cls dd H' s S.hr x
  | no => exact t
def noxF (F : FD) : FD := fun ds h => (F ds h).calm fun d h => .ok d h
/-- a def, by the reading of its body -/
theorem okD {nm qual : Str} {st : Stmt} {f : Addr} {fd : FuncData} {N ps : List Str} {k n l : Nat} {u : SD} (F : Fun K nm qual st f fd) (S : FnScope N ps (defScope st)) (hm : ps.length = l) (hn : N.length = n)
    (hb : ∀ (cd : Value) (A : Around) (outer : List Env) (s : Shared) (H : Hp) (E : XK), (g = true → A.guards = some []) → Room k (A.deeper (envOfC qual (defScope st) s.heap.objs.size f cd)) →
      Takes (cxD P w K mg base N qual st f cd A outer s H E) (wxD E) → ∃ tS, WSs (cxD P w K mg base N qual st f cd A outer s H E) K CA (wxD E) (defBody st) tS u) : FnG P w K mg base g (k + 1) f fd ps (spD K CA l (bodyF n u)) := by
  subst hm hn
  refine FnG.mk' F S (fun vs H Q E h => h.1) fun cd A outer s H vs Q E hg hr h => ?_
  obtain ⟨hl, m, ch, ds, hR, r, q⟩ := h
  obtain ⟨t, ws⟩ := hb cd A outer s H E hg hr (takes_of rfl rfl rfl rfl)
  have hle : vs.length ≤ N.length := by
    have := congrArg List.length S.pre
    rw [List.length_take] at this
    omega
  exact ⟨t, ws.pe, ws.sim m ch H _ _ _ (so_start N hle hR r) (res_post q)⟩
/-- a getter: no exception leaves it -/
theorem okP {nm qual : Str} {st : Stmt} {fa : Addr} {fd : FuncData} {N ps : List Str} {k l n : Nat} {u : SD} (F : Fun K nm qual st fa fd) (S : FnScope N ps (defScope st)) (hm : ps.length = l) (hn : N.length = n)
    (hb : ∀ (cd : Value) (A : Around) (outer : List Env) (s : Shared) (H : Hp) (E : XK), Room k (A.deeper (envOfC qual (defScope st) s.heap.objs.size fa cd)) →
      ∃ tS, WSs (cxOf L2.CX0 P w K mg base N qual (defScope st) fa cd A outer s H E).nox K CA W0 (defBody st) tS u) : FnOk P w K mg base L2.CX0 (k + 1) fa fd ps (spD K CA l (noxF (bodyF n u))) := by
  subst hm hn
  refine F.ok S (fun vs H Q E h => h.1) fun cd A outer s H vs Q E hr h => ?_
  obtain ⟨hl, m, ch, ds, hR, r, q⟩ := h
  obtain ⟨t, ws⟩ := hb cd A outer s H E hr
  have hle : vs.length ≤ N.length := by
    have := congrArg List.length S.pre
    rw [List.length_take] at this
    omega
  refine ⟨t, ws.pe, ws.sim m ch H _ _ _ (so_start N hle hR r) ?_⟩
  replace q : PostE K CA (wxD E) m ch H [] Q ((u (startD N.length ds) ch).res.calm fun d h => .ok d h) := q
  cases e : u (startD N.length ds) ch with
  | nx ρ' h' => rw [e] at q; exact fun m' σ' H' s S => q m' .non H' s S.hr .non
  | rt d h' => rw [e] at q; exact q
  | bk ρ' h' => rw [e] at q; exact q.elim
  | ct ρ' h' => rw [e] at q; exact q.elim
  | ex ρ' c fs h' => rw [e] at q; exact q.elim
  | no => rw [e] at q; exact q
/-- a def of the module -/
structure Df (P : Program) (w : World) (K : PySem.W.Frag) (mg : Str → Option Value) (base : Heap) (CA : CAs) (nm : Str) (g : Bool) (k : Nat) (ps : List Str) (F : FD) (f : Addr) (fd : FuncData) : Prop where
  G : FnG P w K mg base g k f fd ps (spD K CA ps.length F)
  hm : mg nm = some (.ref f)
  hk : PySem.W.keepIn K (.ref f) = true
/-- the ground of a recursion -/
theorem FnG.none {k : Nat} {f : Addr} {fd : FuncData} {ps : List Str} {l : Nat} : FnG P w K mg base g k f fd ps (spD K CA l fun _ _ => .no) :=
  ⟨fun _ _ _ _ h => by obtain ⟨_, _, _, _, _, _, z⟩ := h; exact z.elim, fun _ _ _ _ _ _ _ _ _ _ _ _ _ _ h => by obtain ⟨_, _, _, _, _, _, z⟩ := h; exact z.elim⟩
theorem Df.none {nm : Str} {k : Nat} {ps : List Str} {F : FD} {f : Addr} {fd : FuncData} {k' : Nat} {F' : FD} (d : Df P w K mg base CA nm g k' ps F' f fd) : Df P w K mg base CA nm g k ps (fun _ _ => .no) f fd := ⟨.none, d.hm, d.hk⟩
end
/-- the i-th positional argument, the i-th keyword's, a default -/
inductive Src where
  | p (i : Nat) | k (i : Nat) | c (d : D)
def pickD (ds zs : List D) : List Src → List D
  | [] => []
  | .p i :: r => ds.getD i .non :: pickD ds zs r
  | .k i :: r => zs.getD i .non :: pickD ds zs r
  | .c d :: r => d :: pickD ds zs r
def pickL (us ws : List Value) : List Src → List Value → List Value
  | [], _ => []
  | .p i :: r, cs => us.getD i .none :: pickL us ws r cs
  | .k i :: r, cs => ws.getD i .none :: pickL us ws r cs
  | .c _ :: r, c :: cs => c :: pickL us ws r cs
  | .c _ :: r, [] => .none :: pickL us ws r []
def consts : List Src → List D
  | [] => []
  | .p _ :: r => consts r
  | .k _ :: r => consts r
  | .c d :: r => d :: consts r
/-- the value stands for the data, whatever happens -/
def Ever (K : PySem.W.Frag) (CA : CAs) (u : Value) (d : D) : Prop := ∃ v, RelV v u ∧ ∀ m h H, Rp K CA m h H v d
/-- how the arguments bind -/
structure KwB (K : PySem.W.Frag) (CA : CAs) (fd : FuncData) (ps : List Str) (n : Nat) (ks : List Str) (src : List Src) : Prop where
  ex : ∃ cs : List Value, Paired (Ever K CA) cs (consts src) ∧ ∀ (s : Shared) (us ws : List Value), K.In s.heap → us.length = n → ws.length = ks.length → BindsTo s fd ⟨us, ks.zip ws⟩ (ps.zip (pickL us ws src cs))
section
variable {K : PySem.W.Frag} {CA : CAs} {m : Mp} {h : CH} {H : Hp}
theorem getP_rel {vs : List V} {us : List Value} {ds : List D} (r : Vals vs us) (rd : RpAll K CA m h H vs ds) (i : Nat) : ∃ v, RelV v (us.getD i .none) ∧ Rp K CA m h H v (ds.getD i .non) := by
  induction r generalizing ds i with
  | nil => cases rd; exact ⟨.non, rfl, .non⟩
  | cons a _ ih =>
    cases rd with
    | cons b rd =>
      cases i with
      | zero => exact ⟨_, a, b⟩
      | succ i => exact ih rd i
theorem pick_rel {vs zs : List V} {us ws : List Value} {ds es : List D} (r : Vals vs us) (rd : RpAll K CA m h H vs ds) (rz : Vals zs ws) (re : RpAll K CA m h H zs es) : ∀ {src : List Src} {cs : List Value}, Paired (Ever K CA) cs (consts src) →
    ∃ xs, Vals xs (pickL us ws src cs) ∧ RpAll K CA m h H xs (pickD ds es src)
  | [], _, _ => ⟨[], .nil, .nil⟩
  | .p i :: src, cs, q => by
    obtain ⟨xs, h1, h2⟩ := pick_rel r rd rz re (src := src) (cs := cs) q
    obtain ⟨v, h3, h4⟩ := getP_rel r rd i
    exact ⟨v :: xs, .cons h3 h1, .cons h4 h2⟩
  | .k i :: src, cs, q => by
    obtain ⟨xs, h1, h2⟩ := pick_rel r rd rz re (src := src) (cs := cs) q
    obtain ⟨v, h3, h4⟩ := getP_rel rz re i
    exact ⟨v :: xs, .cons h3 h1, .cons h4 h2⟩
  | .c d :: src, cs, q => by
    cases q with
    | cons a q =>
      obtain ⟨xs, h1, h2⟩ := pick_rel r rd rz re (src := src) q
      obtain ⟨v, h3, h4⟩ := a
      exact ⟨v :: xs, .cons h3 h1, .cons (h4 m h H) h2⟩
theorem KwB.of {fd : FuncData} {ps : List Str} {n : Nat} {ks : List Str} {src : List Src} (hc : consts src = []) (b : ∀ (us ws : List Value), us.length = n → ws.length = ks.length → bindArgs fd ⟨us, ks.zip ws⟩ = pure (ps.zip (pickL us ws src []))) : KwB K CA fd ps n ks src :=
  ⟨[], by rw [hc]; exact .nil, fun s us ws _ h1 h2 => .of_eq (b us ws h1 h2)⟩
end
/-- a def's reading, at the arguments picked -/
def dCallN (n l : Nat) (src : List Src) (F : FD) (ts tk : TDs) : TD := fun ρ h => (ts ρ h).bind fun ds h => (tk ρ h).bind fun zs h => if ds.length = n ∧ zs.length = l then F (pickD ds zs src) h else .no
def dCall (n : Nat) (F : FD) (ts : TDs) : TD := fun ρ h => (ts ρ h).bind fun ds h => if ds.length = n then F ds h else .no
def tCallN (K : PySem.W.Frag) (CA : CAs) (W : WX) (n l : Nat) (G : List D → List D → CH → R D) (t tk : TA) : TE := fun σ H Q => t σ H fun vs H1 => tk σ H1 fun zs H2 => vs.length = n ∧ zs.length = l ∧ ∃ (m : Mp) (h : CH) (ds es : List D), HR K CA m h H2 ∧ RpAll K CA m h H2 vs ds ∧ RpAll K CA m h H2 zs es ∧ PostE K CA W m h H2 σ Q (G ds es h)
section
variable {X : Cx} {K : PySem.W.Frag} {CA : CAs} {W : WX} {o e : Expr} {es : List Expr} {kws : List Keyword} {pos apos p : Pos} {ha : TE} {ta : TD} {hs hk : TA} {ts tk : TDs} {x nm : Str} {g : Bool} {k n l c0 : Nat} {ps ks : List Str} {src : List Src} {F : FD} {f : Addr} {fd : FuncData}
theorem run_fnG {sp : Sp} {Ex : L2.St → XK} {pins : List (Addr × Obj)} {σ : L2.St} {H : Hp} {s : Shared} {Q : VK} {args : Args} {us : List Value} {vs : List V} (G : FnG X.prog X.w X.K X.mg X.base g k f fd ps sp) (hG : g = true → X.A.guards = some []) (hr : Room k X.A)
    (hb : us.length = ps.length → BindsTo s fd args (ps.zip us)) (hx : PassesAt (L2.CX X.prog X.w) X σ (Ex σ)) (I : Inv X pins σ H s) (r : Vals vs us) (h : sp vs H Q (Ex σ)) : codeAny (model X.prog X.w) X.A (.call (.ref f) args) (fun r s' => match r with | .ok (.ret u) => EP X pins σ Q u s' | .ok _ => False | .error e => X.xe e s') s := by
  refine codeAny_mono (G.go X.A X.stack s H args us vs Q (Ex σ) hG hr I.env0 (hb (by rw [← r.length]; exact G.ln _ _ _ _ h)) r h) fun r s' hq => ?_
  rcases r with e | fl
  · exact hx pins H s e s' I hq
  · rcases fl with _ | _ | _ | u
    · exact hq.elim
    · exact hq.elim
    · exact hq.elim
    · exact I.after hq
/-- the wish at the slots -/
theorem post_at {m : Mp} {h : CH} {H : Hp} {σ : L2.St} {Q : VK} {r : R D} (t : PostE K CA W m h H σ Q r) : PostE K CA (wxD (L2.WE W σ)) m h H [] Q r := by
  cases r with
  | ok d h' => exact t
  | ex c fs h' => exact t
  | no => exact t
theorem end_call {A : Around} {σ : L2.St} {pins : List (Addr × Obj)} {Q : VK} {u : Value} {args : List Value} {kw : List (Str × Value)} {s : Shared} (h : codeAny (model X.prog X.w) A (.call u ⟨args, kw⟩) (fun r s' => match r with | .ok (.ret u) => EP X pins σ Q u s' | .ok _ => False | .error e => X.xe e s') s) :
    wpAny (model X.prog X.w) A (call u args kw) (EP X pins σ Q) X.xe s := by
  refine wpAny_call (codeAny_mono h fun r s' hq => ?_)
  rcases r with e | fl
  · exact hq
  · rcases fl with _ | _ | _ | u <;> exact hq
theorem run_callN {pins : List (Addr × Obj)} {σ : L2.St} {H : Hp} {s : Shared} {Q : VK} {us ws : List Value} {vs zs : List V} {m : Mp} {h : CH} {ds es : List D} (G : FnG X.prog X.w X.K X.mg X.base g k f fd ps (spD X.K CA ps.length F)) (hG : g = true → X.A.guards = some []) (hr : Room k X.A) (B : KwB X.K CA fd ps n ks src) (tk : Takes X W)
    (I : Inv X pins σ H s) (r : Vals vs us) (rz : Vals zs ws) (l1 : vs.length = n) (l2 : zs.length = ks.length) (hR : HR X.K CA m h H) (rd : RpAll X.K CA m h H vs ds) (re : RpAll X.K CA m h H zs es) (hl : src.length = ps.length) (q : PostE X.K CA W m h H σ Q (F (pickD ds es src) h)) :
    wpAny (model X.prog X.w) X.A (call (.ref f) us (ks.zip ws)) (EP X pins σ Q) X.xe s := by
  obtain ⟨cs, hc, hb⟩ := B.ex
  obtain ⟨xs, h1, h2⟩ := pick_rel r rd rz re hc
  have hlen : ∀ {src : List Src}, (pickD ds es src).length = src.length := fun {src} => by
    induction src with
    | nil => rfl
    | cons a src ih => cases a <;> simp [pickD, ih]
  exact end_call (run_fnG G hG hr (fun _ => hb s us ws I.kIn (r.length.symm.trans l1) (rz.length.symm.trans l2)) (passAt tk σ) I h1 ⟨by rw [h2.length, hlen]; exact hl, m, h, _, hR, h2, post_at q⟩)
theorem sim_callN (s : SimA K CA W hs ts) (s' : SimA K CA W hk tk) : SimE K CA W (tCallN K CA W n l (fun ds es => F (pickD ds es src)) hs hk) (dCallN n l src F ts tk) := fun m h H σ ρ Q' S t =>
  s m h H σ ρ _ S (t.bind fun ds h1 m1 vs H1 s1 S1 r1 t1 => s' m1 h1 H1 σ ρ _ (S.move s1 S1) (t1.bind fun es h2 m2 zs H2 s2 S2 r2 t2 => by
    obtain ⟨⟨c1, c2⟩, t2⟩ := post_ite t2
    exact ⟨r1.length.trans c1, r2.length.trans c2, m2, h2, ds, es, S2, r1.move s2, r2, t2⟩))
theorem sim_call (s : SimA K CA W hs ts) : SimE K CA W (tCallN K CA W n 0 (fun ds _ => F ds) hs L2.tNil) (dCall n F ts) := fun m h H σ ρ Q' S t =>
  s m h H σ ρ _ S (t.bind fun ds h1 m1 vs H1 s1 S1 r1 t1 => by
    obtain ⟨c1, t1⟩ := post_ite t1
    exact ⟨r1.length.trans c1, rfl, m1, h1, ds, [], S1, r1, .nil, t1⟩)
/-- named arguments -/
structure WK (X : Cx) (K : PySem.W.Frag) (CA : CAs) (W : WX) (kws : List Keyword) (hs : TA) (ts : TDs) : Prop where
  pe : PK X kws hs
  sim : SimA K CA W hs ts
theorem wk_nil : WK X K CA W [] L2.tNil dNil := ⟨pk_nil, fun m h H σ ρ Q' S t => t.here S.hr .nil⟩
theorem wk_cons {nm : Option Str} {kpos : Pos} (h : WE X K CA W e ha ta) (h' : WK X K CA W kws hs ts) : WK X K CA W (⟨nm, e, kpos⟩ :: kws) (L2.tCons ha hs) (dCons ta ts) :=
  ⟨pk_cons h.pe h'.pe, sim_cons h.sim h'.sim⟩
/-- the positional ones alone, as they come -/
def srcP : Nat → Nat → List Src
  | _, 0 => []
  | i, n + 1 => .p i :: srcP (i + 1) n
/-- f(k = e, ..) -/
theorem we_callK0 (D : Df X.prog X.w X.K X.mg X.base CA x g k ps F f fd) (hG : g = true → X.A.guards = some []) (hr : Room k X.A) (tk' : Takes X W) (h' : WK X K CA W kws hk tk) (B : KwB K CA fd ps 0 ks src) (hl : src.length = ps.length := by rfl) (hg : Gl X x := by rfl) (hK : X.K = K := by rfl)
    (hall : (backToKw pos (keywordEach kws X.env)).all (·.1.isSome) = true := by rfl) (hks : (backToKw pos (keywordEach kws X.env)).filterMap (·.1) = ks := by rfl) (hdb : (x == ("__debug__" : Str)) = false := by decide)
    (hpl : ((backTo pos (starEach [] X.env)).any (·.1) || (backToKw pos (keywordEach kws X.env)).any (·.1.isNone)) = false := by rfl) :
    WE X K CA W (.Call (.Name x p) [] kws pos) (tCallN K CA W 0 ks.length (fun ds es => F (pickD ds es src)) L2.tNil hk) (dCallN 0 ks.length src F dNil tk) := by
  subst hK
  refine ⟨⟨fun pins s σ H Q I hq => wpAny_Call_Name_kw (ld_glob I hg D.hm ?_ hdb)⟩, sim_callN (fun m h H σ ρ Q' S t => t.here S.hr .nil) h'.sim⟩
  refine PySem.W.callWith_KW0 (h₀ := X.base) I.ok.mod.kin D.hk hall (thn (h'.pe.run pos pins s σ H _ I hq) fun ws s1 ⟨zs, H1, I1, rz, l1, l2, m, h, ds, es, hR, rd, re, q⟩ => ⟨I1.kIn, ?_⟩) hpl
  rw [hks]
  exact run_callN (us := []) (vs := []) D.G hG hr B tk' I1 .nil rz l1 l2 hR rd re hl q
end
/-- nm is a method of the class c0 -/
structure Mtd (P : Program) (w : World) (K : PySem.W.Frag) (mg : Str → Option Value) (base : Heap) (CA : CAs) (c0 : Nat) (nm : Str) (g : Bool) (k : Nat) (ps : List Str) (F : FD) (f : Addr) (fd : FuncData) : Prop where
  G : FnG P w K mg base g k f fd ps (spD K CA ps.length F)
  cl : Cls K (CA c0)
  mt : Meth K (CA c0) nm f
def dMethN (c0 : Nat) (nm : Str) (n l : Nat) (src : List Src) (F : FD) (ta : TD) (ts tk : TDs) : TD := fun ρ h => (ta ρ h).bind fun d h => match objOf h d with
  | some (c, fs) => if c = c0 ∧ (fs.lookup nm).isNone = true then (ts ρ h).bind fun ds h => (tk ρ h).bind fun zs h => if ds.length + 1 = n ∧ zs.length = l then F (pickD (d :: ds) zs src) h else .no else .no
  | none => .no
def dProp (c0 : Nat) (F : FD) (ta : TD) : TD := fun ρ h => (ta ρ h).bind fun d h => match objOf h d with
  | some (c, _) => if c = c0 then noxF F [d] h else .no
  | none => .no
section
variable {X : Cx} {K : PySem.W.Frag} {CA : CAs} {W : WX} {o e : Expr} {pos : Pos} {ha : TE} {ta : TD} {c0 : Nat} {F : FD}
theorem we_prop (x : WE X K CA W e ha ta) (hp : PE X e ha → PE X o (tProp (CA c0) (spD K CA 1 (noxF F)) [] L2.E0 ha)) : WE X K CA W o (tProp (CA c0) (spD K CA 1 (noxF F)) [] L2.E0 ha) (dProp c0 F ta) :=
  ⟨hp x.pe, fun m h H σ ρ Q' S t => x.sim m h H σ ρ _ S (t.bind fun d h1 m1 v H1 s1 S1 r1 t1 => by
    split at t1
    · rename_i c fs eo
      obtain ⟨ec, t3⟩ := post_ite t1
      subst ec
      clear t1
      obtain ⟨a, dx, hfs, rfl, q1, q2, q3⟩ := rp_obj S1 r1 eo
      refine ⟨a, dx, hfs, rfl, q1, rfl, m1, h1, [d], S1, .cons r1 .nil, ?_⟩
      have t1 : PostE K CA W m1 h1 H1 σ Q' ((F [d] h1).calm fun d h => .ok d h) := t3
      show PostE K CA (wxD L2.E0) m1 h1 H1 [] Q' ((F [d] h1).calm fun d h => .ok d h)
      cases ef : F [d] h1 with
      | ok d' h' => rw [ef] at t1; exact t1
      | ex c fs h' => rw [ef] at t1; exact t1.elim
      | no => rw [ef] at t1; exact t1
    · exact t1.elim)⟩
end
/-- nm is a property of the class c0 -/
structure Prd (P : Program) (w : World) (K : PySem.W.Frag) (mg : Str → Option Value) (base : Heap) (CA : CAs) (c0 : Nat) (nm : Str) (k : Nat) (ps : List Str) (F : FD) : Prop where
  ex : ∃ (p g : Addr) (fd : FuncData), FnOk P w K mg base L2.CX0 k g fd ps (spD K CA 1 (noxF F)) ∧ PropOf K (CA c0) nm p g ∧ Binds K fd ps []
  cl : Cls K (CA c0)
section
variable {X : Cx} {K : PySem.W.Frag} {CA : CAs} {W : WX} {e : Expr} {pos : Pos} {ha : TE} {ta : TD} {c0 k : Nat} {F : FD} {nm : Str} {ps : List Str}
/-- e.nm, a property -/
theorem we_pr (M : Prd X.prog X.w X.K X.mg X.base CA c0 nm k ps F) (hr : Room (k + 1) X.A) (x : WE X K CA W e ha ta) (hK : X.K = K := by rfl) (hab : attributeBase e nm X.env (eval e X.env) = eval e X.env := by rfl) :
    WE X K CA W (.Attribute e nm pos) (tProp (CA c0) (spD K CA 1 (noxF F)) [] L2.E0 ha) (dProp c0 F ta) := by
  subst hK
  obtain ⟨p, g, fd, G, hp, hb⟩ := M.ex
  exact we_prop x fun a => pe_prop a M.cl hp G hr hb .nil pass0 hab
end
/-- the class c0, called nm, is made by its __init__ -/
structure Mkd (P : Program) (w : World) (K : PySem.W.Frag) (mg : Str → Option Value) (base : Heap) (CA : CAs) (c0 : Nat) (nm : Str) (k : Nat) (ps : List Str) (F : FD) (f : Addr) (fd : FuncData) : Prop where
  G : FnG P w K mg base false k f fd ps (spD K CA ps.length F)
  hm : mg nm = some (.ref (CA c0))
  mkd : Mk K (CA c0) f
/-- a new object: kept named, or given free (fr) -/
def dMakeN (c0 : Nat) (fr : Bool) (n l : Nat) (src : List Src) (F : FD) (ts tk : TDs) : TD := fun ρ h => (ts ρ h).bind fun ds h => (tk ρ h).bind fun zs h => if ds.length + 1 = n ∧ zs.length = l then (F (pickD (.ref h.nx :: ds) zs src) (h.new (.obj c0 []))).bind fun r h2 => match r with
  | .non => if fr = true then fz (.ref h.nx) h2 else .ok (.ref h.nx) h2
  | _ => .no
  else .no
def tMakeN (K : PySem.W.Frag) (CA : CAs) (W : WX) (c0 : Nat) (n l : Nat) (G : List D → List D → CH → R D) (t tk : TA) : TE := fun σ H Q => t σ H fun vs H1 => tk σ H1 fun zs H2 => vs.length + 1 = n ∧ zs.length = l ∧ ∀ a da, H2 a = none → H2 da = none → da ≠ a →
  ∃ (m : Mp) (h : CH) (ds es : List D), HR K CA m h (upd (upd H2 da (.own a)) a (.ins (CA c0) da [])) ∧ RpAll K CA m h (upd (upd H2 da (.own a)) a (.ins (CA c0) da [])) (.ref a :: vs) ds ∧ RpAll K CA m h (upd (upd H2 da (.own a)) a (.ins (CA c0) da [])) zs es ∧
    PostE K CA W m h (upd (upd H2 da (.own a)) a (.ins (CA c0) da [])) σ (fun v H3 => v = .non ∧ Q (.ref a) H3) (G ds es h)
section
variable {X : Cx} {K : PySem.W.Frag} {CA : CAs} {W : WX} {e : Expr} {es : List Expr} {kws : List Keyword} {pos p : Pos} {hs hk : TA} {ts tk : TDs} {x : Str} {k n l c0 : Nat} {ps ks : List Str} {src : List Src} {F : FD} {f : Addr} {fd : FuncData} {fr : Bool}
theorem sim_makeN (s : SimA K CA W hs ts) (s' : SimA K CA W hk tk) : SimE K CA W (tMakeN K CA W c0 n l (fun ds es => F (pickD ds es src)) hs hk) (dMakeN c0 fr n l src F ts tk) := fun m h H σ ρ Q' S t =>
  s m h H σ ρ _ S (t.bind fun ds h1 m1 vs H1 s1 S1 r1 t1 => s' m1 h1 H1 σ ρ _ (S.move s1 S1) (t1.bind fun es h2 m2 zs H2 s2 S2 r2 t2 => by
    obtain ⟨⟨c1, c2⟩, t2⟩ := post_ite t2
    refine ⟨by rw [r1.length]; exact c1, r2.length.trans c2, fun a da na nd ne => ?_⟩
    have gr : ∀ b u, H2 b = some u → (upd (upd H2 da (.own a)) a (.ins (CA c0) da [])) b = some u := fun b u e => by
      rw [upd_ne (ne_of_none e na), upd_ne (ne_of_none e nd)]; exact e
    have sN := stp_new (o := .obj c0 []) S2 na gr
    have SN := S2.new (o := .obj c0 []) na gr (.obj upd_same rfl .nil)
    have ra := Rp.ref (K := K) (CA := CA) (m := mpNew m2 h2 a) (h := h2.new (.obj c0 [])) (H := upd (upd H2 da (.own a)) a (.ins (CA c0) da [])) (k := h2.nx) (Nat.lt_succ_self _)
    rw [mpNew_nx] at ra
    refine ⟨mpNew m2 h2 a, h2.new (.obj c0 []), .ref h2.nx :: ds, es, SN, .cons ra ((r1.move s2).move sN), r2.move sN, ?_⟩
    show PostE K CA W _ _ _ σ _ (F (pickD (.ref h2.nx :: ds) es src) (h2.new (.obj c0 [])))
    cases ef : F (pickD (.ref h2.nx :: ds) es src) (h2.new (.obj c0 [])) with
    | no => rw [ef] at t2; exact t2.elim
    | ex c fs h' => rw [ef] at t2; exact fun m' cls dd H' s' S' xr => t2 m' cls dd H' (sN.trans s') S' xr
    | ok d h' =>
      rw [ef] at t2
      intro m' v H' s' S' rv
      have mk : m' h2.nx = a := by
        have := s'.mp h2.nx (Nat.lt_succ_self _)
        rw [mpNew_nx] at this
        exact this
      have rk : Rp K CA m' h' H' (.ref a) (.ref h2.nx) := by
        rw [← mk]
        exact .ref (Nat.lt_of_lt_of_le (Nat.lt_succ_self _) s'.nx)
      cases d with
      | non =>
        cases rv
        refine ⟨rfl, ?_⟩
        have t3 : PostE K CA W m2 h2 H2 σ Q' (if fr = true then fz (.ref h2.nx) h' else .ok (.ref h2.nx) h') := t2
        cases fr with
        | true => exact fz_post S' rk (t3.from (sN.trans s'))
        | false => exact t3 m' _ H' (sN.trans s') S' rk
      | _ => exact t2.elim))
theorem run_makeN' {pins : List (Addr × Obj)} {σ : L2.St} {H : Hp} {s : Shared} {Q : VK} {us ws : List Value} {vs zs : List V} (D : Mkd X.prog X.w X.K X.mg X.base CA c0 x k ps F f fd) (hr : Room (k + 1) X.A) (B : KwB X.K CA fd ps n ks src) (tk' : Takes X W) (hl : src.length = ps.length)
    (I : Inv X pins σ H s) (r : Vals vs us) (rz : Vals zs ws) (l1 : vs.length + 1 = n) (l2 : zs.length = ks.length)
    (q : ∀ a da, H a = none → H da = none → da ≠ a → ∃ (m : Mp) (h : CH) (ds es : List CM.D), HR X.K CA m h (upd (upd H da (.own a)) a (.ins (CA c0) da [])) ∧ RpAll X.K CA m h (upd (upd H da (.own a)) a (.ins (CA c0) da [])) (.ref a :: vs) ds ∧ RpAll X.K CA m h (upd (upd H da (.own a)) a (.ins (CA c0) da [])) zs es ∧
      PostE X.K CA W m h (upd (upd H da (.own a)) a (.ins (CA c0) da [])) σ (fun v H3 => v = .non ∧ Q (.ref a) H3) (F (pickD ds es src) h)) :
    wpAny (model X.prog X.w) X.A (call (.ref (CA c0)) us (ks.zip ws)) (EP X pins σ Q) X.xe s := by
  obtain ⟨m, h, ds, es, hR, rd, re, q⟩ := q (s.heap.objs.size + 1) s.heap.objs.size (I.hok.fresh (Nat.le_succ _)) (I.hok.fresh (Nat.le_refl _)) (Nat.ne_of_lt (Nat.lt_succ_self _))
  have I2 := Inv.made (C := CA c0) I
  have r1 : Vals (V.ref (s.heap.objs.size + 1) :: vs) (Value.ref (s.heap.objs.size + 1) :: us) := .cons rfl r
  obtain ⟨cs, hc, hb⟩ := B.ex
  obtain ⟨xs, h1, h2⟩ := pick_rel r1 rd rz re hc
  have hlen : ∀ {src : List Src}, (pickD ds es src).length = src.length := fun {src} => by
    induction src with
    | nil => rfl
    | cons a src ih => cases a <;> simp [pickD, ih]
  have n1 : (Value.ref (s.heap.objs.size + 1) :: us).length = n := by rw [← r1.length]; exact l1
  refine wpAny_call (make_map (f := f) I.kIn D.mkd.makes D.mkd.init (beq_iff_eq.mp D.mkd.fn) (codeAny_mono (D.G.go _ X.stack _ _ ⟨Value.ref (s.heap.objs.size + 1) :: us, ks.zip ws⟩ _ xs _ (L2.WE W σ) (fun z => nomatch z) (hr.make (CA c0) us (ks.zip ws))
    (I2.env0.make (CA c0) us (ks.zip ws)) (hb _ (Value.ref (s.heap.objs.size + 1) :: us) ws I2.kIn n1 (rz.length.symm.trans l2)) h1 ⟨by rw [h2.length, hlen]; exact hl, m, h, _, hR, h2, post_at q⟩) fun r s' hq' => ?_))
  rcases r with er | fl
  · exact passAt tk' σ pins _ _ er s' I2 hq'
  · rcases fl with _ | _ | _ | u
    · exact False.elim hq'
    · exact False.elim hq'
    · exact False.elim hq'
    · obtain ⟨v, H', I3, rv, ev, q3⟩ := I2.after hq'
      subst ev
      exact ⟨rv, ⟨V.ref (s.heap.objs.size + 1), H', I3, rfl, q3⟩⟩
/-- C(k = e, ..) -/
theorem we_makeK0 (fr : Bool) (D : Mkd X.prog X.w X.K X.mg X.base CA c0 x k ps F f fd) (hr : Room (k + 1) X.A) (tk' : Takes X W) (h' : WK X K CA W kws hk tk) (B : KwB K CA fd ps 1 ks src) (hl : src.length = ps.length := by rfl) (hg : Gl X x := by rfl) (hK : X.K = K := by rfl)
    (hall : (backToKw pos (keywordEach kws X.env)).all (·.1.isSome) = true := by rfl) (hks : (backToKw pos (keywordEach kws X.env)).filterMap (·.1) = ks := by rfl) (hdb : (x == ("__debug__" : Str)) = false := by decide)
    (hpl : ((backTo pos (starEach [] X.env)).any (·.1) || (backToKw pos (keywordEach kws X.env)).any (·.1.isNone)) = false := by rfl) :
    WE X K CA W (.Call (.Name x p) [] kws pos) (tMakeN K CA W c0 1 ks.length (fun ds es => F (pickD ds es src)) L2.tNil hk) (dMakeN c0 fr 1 ks.length src F dNil tk) := by
  subst hK
  refine ⟨⟨fun pins s σ H Q I hq => wpAny_Call_Name_kw (ld_glob I hg D.hm ?_ hdb)⟩, sim_makeN (fun m h H σ ρ Q' S t => t.here S.hr .nil) h'.sim⟩
  refine PySem.W.callWith_KW0 (h₀ := X.base) I.ok.mod.kin D.mkd.kp hall (thn (h'.pe.run pos pins s σ H _ I hq) fun ws s1 ⟨zs, H1, I1, rz, l1, l2, q⟩ => ⟨I1.kIn, ?_⟩) hpl
  rw [hks]
  exact run_makeN' (us := []) (vs := []) D hr B tk' hl I1 .nil rz l1 l2 q
end
/-- the module's name x stands for the data d, whatever happens -/
def GV (K : PySem.W.Frag) (CA : CAs) (mg : Str → Option Value) (x : Str) (d : D) : Prop := ∃ v u, mg x = some u ∧ RelV v u ∧ ∀ m h H, Rp K CA m h H v d
noncomputable def GV.v {K : PySem.W.Frag} {CA : CAs} {mg : Str → Option Value} {x : Str} {d : D} (G : GV K CA mg x d) : V := Classical.choose G
section
variable {X : Cx} {K : PySem.W.Frag} {CA : CAs} {W : WX} {x : Str} {d : D} {p : Pos} {mg : Str → Option Value}
theorem we_gv (G : GV K CA X.mg x d) (hg : Gl X x := by rfl) (hd : (x == ("__debug__" : Str)) = false := by decide) : WE X K CA W (.Name x p) (L2.tC G.v) (dC d) := by
  have h : ∃ u, X.mg x = some u ∧ RelV G.v u ∧ ∀ m h H, Rp K CA m h H G.v d := Classical.choose_spec G
  obtain ⟨u, h1, h2, h3⟩ := h
  exact ⟨pe_glob hg h1 h2 hd, fun m h H σ ρ Q' S t => t.here S.hr (h3 m h H)⟩
theorem gv_int {i : Int} {t : Tok} (h : mg x = some (.int i t)) : GV K CA mg x (.int i) := ⟨.int i, _, h, ⟨t, rfl⟩, fun _ _ _ => .int i⟩
theorem gv_cls {a : Addr} {c : Nat} (h : mg x = some (.ref a)) (e : CA c = a) : GV K CA mg x (.cls c) := ⟨.ref a, _, h, rfl, fun _ _ _ => by rw [← e]; exact .cls c⟩
/-- written values -/
inductive WrV (K : PySem.W.Frag) : Value → D → Prop
  | str (x : Str) (t : Tok) : WrV K (.str x t) (.str x)
  | int (i : Int) (t : Tok) : WrV K (.int i t) (.int i)
  | bl (b : Bool) : WrV K (.bool b) (.bl b)
  | non : WrV K .none .non
  | tup {a : Addr} {dd : Option Addr} {us : List Value} {n : Nat} {sl : Array (Option Value)} {ds : List D} : K.lookup a = some ⟨.type "tuple", dd, .seq us.toArray n, sl⟩ → Paired (WrV K) us ds → us.length ≤ sizeLine → WrV K (.ref a) (.tup ds)
end
end CM
namespace CM
open PySem PySem.Spec PyProof.Rows L2
def fLen : FD := fun ds h => match ds with
  | [.str z] => if z.length ≤ sizeLine then .ok (.int z.length) h else .no
  | [.scr ns] => .ok (.int ns.length) h
  | [d] => match seqOf h d with
    | some xs => .ok (.int xs.length) h
    | none => match dctOf h d with
      | some kvs => .ok (.int kvs.length) h
      | none => .no
  | _ => .no
def rLenU (K : PySem.W.Frag) : List V → Hp → VK → Prop := fun xs H Q => (∃ p ys, xs = [V.ref p] ∧ (SqL K H p ys ∨ SqT K H p ys) ∧ Q (.int ys.length) H) ∨ ((∃ z, xs = [V.str z] ∧ z.length ≤ sizeLine ∧ Q (.int z.length) H) ∨ ∃ a kvs, xs = [V.ref a] ∧ Rd H a (.dK kvs) ∧ Q (.int kvs.length) H)
section
variable {X : Cx} {K : PySem.W.Frag} {CA : CAs} {W : WX}
theorem call_lenU (hK : X.K = K := by rfl) (hl : CallR X (.builtin "len") (fun xs H Q => ∃ a kvs, xs = [V.ref a] ∧ Rd H a (.dK kvs) ∧ Q (.int kvs.length) H)) : CallR X (.builtin "len") (rLenU K) := by subst hK; exact call_len_seq.or (call_len_str.or hl)
theorem sim_len : SimC K CA (rLenU K) fLen := by
  intro W σ m h H xs ds Q' S r t
  unfold fLen at t
  split at t
  · obtain ⟨l, t⟩ := post_ite t
    cases r with
    | cons r1 r2 => cases r1; cases r2; exact .inr (.inl ⟨_, rfl, l, t.here S (.int _)⟩)
  · cases r with
    | cons r1 r2 =>
      cases r2
      cases r1 with
      | scr n e => exact .inl ⟨_, _, rfl, .inl (.inl (.inr ⟨_, e⟩)), by rw [List.length_map]; exact t.here S (.int _)⟩
      | kscr e => exact .inl ⟨_, _, rfl, .inl (sl_emp e), by rw [List.length_map]; exact t.here S (.int _)⟩
  · cases r with
    | cons r1 r2 =>
      cases r2
      split at t
      · rename_i xs e
        obtain ⟨a, ys, rfl, e1, rr⟩ := rp_seq S r1 e
        exact .inl ⟨a, ys, rfl, e1, by rw [rr.length]; exact t.here S (.int _)⟩
      · split at t
        · rename_i kvs e
          obtain ⟨a, o, hk, rfl, e1, c, en, rr⟩ := rp_dct S r1 e
          refine .inr (.inr ⟨a, hk, rfl, ?_, by rw [len_of en]; exact t.here S (.int _)⟩)
          rcases core_dK c with rfl | ⟨ob, rfl⟩
          · exact .inl e1
          · exact .inr ⟨ob, e1⟩
        · exact t.elim
  · exact t.elim
end
inductive Tg where
  | b (n : String) | o (c : Nat)
  deriving DecidableEq
def tgOf (h : CH) : D → Option Tg
  | .non => some (.b "NoneType") | .bl _ => some (.b "bool") | .int _ => some (.b "int") | .str _ => some (.b "str") | .lst _ => some (.b "list") | .tup _ => some (.b "tuple") | .dct _ => some (.b "dict")
  | .obj c _ => some (.o c)
  | .scr _ => some (.b "list")
  | .ref k => match h.ob k with
    | some (.lst _) => some (.b "list")
    | some (.dct _) => some (.b "dict")
    | some (.lck _) => some (.b "dict")
    | some (.lkl _) => some (.b "list")
    | some (.obj c _) => some (.o c)
    | _ => none
  | _ => none
def clsOf : D → Option Tg
  | .ty n => some (.b n)
  | .cls c => some (.o c)
  | _ => none
def clssOf : List D → Option (List Tg)
  | [] => some []
  | d :: ds => match clsOf d, clssOf ds with
    | some t, some ts => some (t :: ts)
    | _, _ => none
def Tg.v (CA : CAs) : Tg → Value
  | .b n => .type n
  | .o c => .ref (CA c)
abbrev KT := Tg → Tg → Option Bool
/-- what the table says is so; and the own classes are plain ones -/
structure KtOk (K : PySem.W.Frag) (CA : CAs) (own : List Nat) (kt : KT) : Prop where
  one : ∀ a b r, kt a b = some r → PySem.W.kitOne K (a.v CA) (b.v CA) = some r
  ins : ∀ c, c ∈ own → Cls K (CA c) ∧ PySem.W.findIn K (.ref (CA c)) "__class__" = some (some (.builtin "object.__class__")) ∧ PySem.W.specialIn K (.builtin "object.__class__") "__get__" = some (some (.builtin "getset_descriptor.__get__")) ∧ PySem.W.takesIn K (.builtin "object.__class__") = some true ∧ PySem.W.mroIn K (CA c) (.type "object") = some true
def okTg (own : List Nat) : Tg → Bool
  | .b _ => true
  | .o c => decide (c ∈ own)
def fIsi (own : List Nat) (kt : KT) : FD := fun ds h => match ds with
  | [d, t] => match tgOf h d, clsOf t with
    | some a, some b => if okTg own a = true then (match kt a b with
      | some r => .ok (.bl r) h
      | none => .no) else .no
    | _, _ => .no
  | _ => .no
def ktAny (kt : KT) (a : Tg) : List Tg → Option Bool
  | [] => some false
  | b :: bs => match kt a b with
    | some true => some true
    | some false => ktAny kt a bs
    | none => none
def fIsT (own : List Nat) (kt : KT) : FD := fun ds h => match ds with
  | [d, .tup ts] => match tgOf h d, clssOf ts with
    | some a, some bs => if okTg own a = true then (match ktAny kt a bs with
      | some r => .ok (.bl r) h
      | none => .no) else .no
    | _, _ => .no
  | _ => .no
section
variable {X : Cx} {K : PySem.W.Frag} {CA : CAs} {W : WX} {m : Mp} {h : CH} {H : Hp} {own : List Nat} {kt : KT}
theorem rp_tg {v : V} {d : D} {a : Tg} (kk : KtOk K CA own kt) (S : HR K CA m h H) (r : Rp K CA m h H v d) (e : tgOf h d = some a) (ok : okTg own a = true) : TyX K H v (a.v CA) := by
  have io : ∀ {c : Nat} {p dx : Addr} {fs : List (Str × V)}, H p = some (.ins (CA c) dx fs) → okTg own (.o c) = true → TyX K H (.ref p) ((Tg.o c).v CA) := fun {c p dx fs} e ok => by
    obtain ⟨h1, h2, h3, h4, h5⟩ := kk.ins c (by simpa [okTg] using ok)
    exact .base (.ins e h1 h2 h3 h4 h5)
  cases r with
  | non => cases e; exact .base .non
  | bl b => cases e; exact .base (.bl b)
  | int b => cases e; exact .base (.int b)
  | str b => cases e; exact .base (.str b)
  | lst _ q _ => cases e; exact .base (.lst q)
  | tup _ q _ => cases e; exact .base (.tup q)
  | ktup q _ =>
    cases e
    rcases q with q | ⟨o, its, n, hk, hc, _⟩
    · rcases q with q | ⟨o, q⟩ <;> cases q
    · exact .kTuple hk hc
  | dct _ q c _ _ =>
    cases e
    rcases core_dK c with rfl | ⟨ob, rfl⟩
    · exact .base (.dK q)
    · exact .fDict q
  | obj _ q _ _ => cases e; exact io q ok
  | scr _ q => cases e; exact .base (.frz q)
  | kscr q =>
    cases e
    rcases q with q | ⟨o, its, n, hk, hc, _⟩
    · rcases q with q | ⟨o, q⟩ <;> cases q
    · exact .kList hk hc
  | ref l =>
    simp only [tgOf] at e
    split at e
    · rename_i q
      obtain ⟨xs, q1, _⟩ := mo_lst S q
      cases e; exact .base (.lst q1)
    · rename_i q
      obtain ⟨xs, q1, _⟩ := mo_dct S q
      cases e; exact .base (.dK q1)
    · rename_i q
      have x := (S.ob _ _ q).2
      cases x with
      | lck q1 en r => cases e; exact .fDict q1
    · rename_i q
      have x := (S.ob _ _ q).2
      cases x with
      | lkl q1 r => cases e; exact .base (.lst q1)
    · rename_i q
      obtain ⟨dx, xs, q1, _⟩ := mo_obj S q
      cases e; exact io q1 ok
    · cases e
  | ty => cases e
  | cls => cases e
  | exc => cases e
theorem rp_cls {v : V} {d : D} {b : Tg} (r : Rp K CA m h H v d) (e : clsOf d = some b) : ClsV v (b.v CA) := by
  cases r with
  | ty n => cases e; exact .ty n
  | cls c => cases e; exact .own _
  | _ => cases e
theorem rp_clss {vs : List V} {ds : List D} {bs : List Tg} (r : RpAll K CA m h H vs ds) (e : clssOf ds = some bs) : Paired ClsV vs (bs.map (Tg.v CA)) := by
  induction vs generalizing ds bs with
  | nil => cases r; cases e; exact .nil
  | cons v vs ih =>
    cases r with
    | cons r1 r2 =>
      simp only [clssOf] at e
      split at e
      · rename_i t ts e1 e2
        cases e
        exact .cons (rp_cls r1 e1) (ih r2 e2)
      · cases e
theorem kt_any {a : Tg} (kk : KtOk K CA own kt) : ∀ {bs : List Tg} {r : Bool}, ktAny kt a bs = some r → PySem.W.kitAny K (a.v CA) (bs.map (Tg.v CA)) = some r
  | [], r, e => by cases e; rfl
  | b :: bs, r, e => by
    simp only [ktAny] at e
    simp only [List.map_cons, PySem.W.kitAny]
    split at e
    · rename_i q
      rw [kk.one a b _ q]
      exact e
    · rename_i q
      rw [kk.one a b _ q]
      exact kt_any kk e
    · cases e
theorem sim_isi (kk : KtOk K CA own kt) : SimC K CA (rIsi K) (fIsi own kt) := by
  intro W σ m h H xs ds Q' S r t
  unfold fIsi at t
  split at t
  · split at t
    · rename_i a b ea eb
      obtain ⟨ok, t⟩ := post_ite t
      split at t
      · rename_i r' ek
        cases r with
        | cons r1 r2 => cases r2 with
          | cons r2 r3 => cases r3; exact ⟨_, _, _, _, _, rfl, rp_cls r2 eb, rp_tg kk S r1 ea ok, kk.one _ _ _ ek, t.here S (.bl _)⟩
      · exact t.elim
    · exact t.elim
  · exact t.elim
def rIsiU (K : PySem.W.Frag) : List V → Hp → VK → Prop := fun xs H Q => rIsiT K xs H Q ∨ rIsiK K xs H Q
theorem call_isiTU (hK : X.K = K := by rfl) : CallR X (.builtin "isinstance") (rIsiU K) := by subst hK; exact call_isiT.or call_isiK
theorem sim_isT (kk : KtOk K CA own kt) : SimC K CA (rIsiU K) (fIsT own kt) := by
  intro W σ m h H xs ds Q' S r t
  unfold fIsT at t
  split at t
  · split at t
    · rename_i a bs ea eb
      obtain ⟨ok, t⟩ := post_ite t
      split at t
      · rename_i r' ek
        cases r with
        | cons r1 r2 => cases r2 with
          | cons r2 r3 =>
            cases r3
            cases r2 with
            | tup n2 e2 ra => exact .inl ⟨_, _, _, _, _, _, rfl, e2, rp_clss ra eb, rp_tg kk S r1 ea ok, kt_any kk ek, t.here S (.bl _)⟩
            | ktup hk ra =>
              have hp := rp_clss ra eb
              have ha := kt_any kk ek
              rcases hk with hk | ⟨ob, its, m2, h1, h2, h3, h4, h5⟩
              · rcases hk with hk | ⟨_, hk⟩ <;> cases hk
              · have e3 := ClsV.all hp h5
                obtain ⟨oc, od, dt, sl⟩ := ob
                simp only at h2 h3
                subst h2 h3
                refine .inr ⟨_, _, od, _, m2, sl, _, _, rfl, ?_, rp_tg kk S r1 ea ok, ha, t.here S (.bl _)⟩
                rw [h1, ← e3]
      · exact t.elim
    · exact t.elim
  · exact t.elim
end
section
variable {X : Cx} {K : PySem.W.Frag} {CA : CAs} {W : WX} {m : Mp} {h : CH} {H : Hp}
def fListOf (nm : Bool) : FD := fun ds h => match ds with
  | [d] => match seqOf h d with
    | some xs => mkL nm xs h
    | none => .no
  | _ => .no
def fTupOf : FD := fun ds h => match ds with
  | [.tup xs] => .ok (.tup xs) h
  | [d] => match lstOf h d with
    | some xs => .ok (.tup xs) h
    | none => .no
  | _ => .no
def fDctOf (nm : Bool) : FD := fun ds h => match ds with
  | [d] => match dctOf h d with
    | some kvs => mkD nm kvs h
    | none => .no
  | _ => .no
def rListOf (K : PySem.W.Frag) : List V → Hp → VK → Prop := fun xs H Q => ∃ p ys, xs = [V.ref p] ∧ (SqL K H p ys ∨ SqT K H p ys) ∧ ∀ l, H l = none → Q (.ref l) (upd H l (.lst ys))
def rTupOf (K : PySem.W.Frag) : List V → Hp → VK → Prop := fun xs H Q => ∃ p ys, xs = [V.ref p] ∧ ((SqL K H p ys ∧ ∀ l, H l = none → Q (.ref l) (upd H l (.tup ys))) ∨ (SqT K H p ys ∧ Q (.ref p) H))
def rDctOf : List V → Hp → VK → Prop := fun xs H Q => ∃ (a : Addr) (kvs : List (Key × V)), xs = [.ref a] ∧ Rd H a (.dK kvs) ∧ ∀ p, H p = none → Q (.ref p) (upd H p (.dK kvs))
theorem call_listOf (hK : X.K = K := by rfl) : CallR X (.type "list") (rListOf K) := by subst hK; exact call_list_of
theorem call_tupOf (hK : X.K = K := by rfl) : CallR X (.type "tuple") (rTupOf K) := by subst hK; exact call_tuple_of
theorem sim_listOf {nm : Bool} : SimC K CA (rListOf K) (fListOf nm) := by
  intro W σ m h H xs ds Q' S r t
  unfold fListOf at t
  split at t
  · split at t
    · rename_i xs e
      cases r with
      | cons r1 r2 =>
        cases r2
        obtain ⟨a, ys, rfl, e1, rr⟩ := rp_seq S r1 e
        exact ⟨a, ys, rfl, e1, fun l n => mkL_post S n rr t⟩
    · exact t.elim
  · exact t.elim
theorem sim_tupOf : SimC K CA (rTupOf K) fTupOf := by
  intro W σ m h H xs ds Q' S r t
  unfold fTupOf at t
  split at t
  · cases r with
    | cons r1 r2 =>
      cases r2
      obtain ⟨a, ys, rfl, e1, rr⟩ := rp_tup r1
      exact ⟨a, ys, rfl, .inr ⟨e1, t.here S r1⟩⟩
  · split at t
    · rename_i xs e
      cases r with
      | cons r1 r2 =>
        cases r2
        obtain ⟨a, ys, rfl, e1, rr⟩ := rp_lst S r1 e
        exact ⟨a, ys, rfl, .inl ⟨.of e1, fun l n => t.laid S n (.tup (S.fresh n) upd_same (rps_laid S n rr))⟩⟩
    · exact t.elim
  · exact t.elim
theorem sim_dctOf {nm : Bool} : SimC K CA rDctOf (fDctOf nm) := by
  intro W σ m h H xs ds Q' S r t
  unfold fDctOf at t
  split at t
  · split at t
    · rename_i kvs e
      cases r with
      | cons r1 r2 =>
        cases r2
        obtain ⟨a, o, hk, rfl, e1, c, en, rr⟩ := rp_dct S r1 e
        refine ⟨a, hk, rfl, ?_, fun p n => mkD_post S n en rr t⟩
        rcases core_dK c with rfl | ⟨ob, rfl⟩
        · exact .inl e1
        · exact .inr ⟨ob, e1⟩
    · exact t.elim
  · exact t.elim
def fMin : FD := fun ds h => match ds with
  | [.int i, .int j] => .ok (.int (if j < i then j else i)) h
  | _ => .no
def fAbs : FD := fun ds h => match ds with
  | [.int i] => .ok (.int (if i < 0 then -i else i)) h
  | _ => .no
def fInt : FD := fun ds h => match ds with
  | [.int i] => .ok (.int i) h
  | [.bl k] => .ok (.int (if k then 1 else 0)) h
  | _ => .no
def fNeg : F1 := fun d h => match d with
  | .int i => .ok (.int (-i)) h
  | _ => .no
def rMin : List V → Hp → VK → Prop := fun xs H Q => ∃ i j, xs = [V.int i, V.int j] ∧ Q (.int (if j < i then j else i)) H
def rAbs : List V → Hp → VK → Prop := fun xs H Q => ∃ i, xs = [V.int i] ∧ Q (.int (if i < 0 then -i else i)) H
def rInt : List V → Hp → VK → Prop := fun xs H Q => (∃ i, xs = [V.int i] ∧ Q (.int i) H) ∨ ∃ k, xs = [V.bl k] ∧ Q (.int (if k then 1 else 0)) H
theorem call_minU (hc : X.calm = true := by rfl) : CallR X (.builtin "min") rMin := call_min2 hc
theorem sim_min : SimC K CA rMin fMin := by
  intro W σ m h H xs ds Q' S r t
  unfold fMin at t
  split at t
  · cases r with
    | cons r1 r2 => cases r2 with
      | cons r2 r3 => cases r1; cases r2; cases r3; exact ⟨_, _, rfl, t.here S (.int _)⟩
  · exact t.elim
theorem sim_abs : SimC K CA rAbs fAbs := by
  intro W σ m h H xs ds Q' S r t
  unfold fAbs at t
  split at t
  · cases r with
    | cons r1 r2 => cases r1; cases r2; exact ⟨_, rfl, t.here S (.int _)⟩
  · exact t.elim
theorem sim_int : SimC K CA rInt fInt := by
  intro W σ m h H xs ds Q' S r t
  unfold fInt at t
  split at t
  · cases r with
    | cons r1 r2 => cases r1; cases r2; exact .inl ⟨_, rfl, t.here S (.int _)⟩
  · cases r with
    | cons r1 r2 => cases r1; cases r2; exact .inr ⟨_, rfl, t.here S (.int _)⟩
  · exact t.elim
end
end CM
namespace CM
open PySem PySem.Spec PyProof.Rows L2
def insB {α : Type} (lt : α → α → Bool) (x : α) : List α → List α
  | [] => [x]
  | y :: r => if lt y x = true then y :: insB lt x r else x :: y :: r
def sortB {α : Type} (lt : α → α → Bool) : List α → List α
  | [] => []
  | x :: r => insB lt x (sortB lt r)
theorem insB_perm {α : Type} {lt : α → α → Bool} (x : α) : ∀ l : List α, (insB lt x l).Perm (x :: l)
  | [] => .refl _
  | y :: r => by
    unfold insB
    split
    · exact ((insB_perm x r).cons y).trans (.swap x y r)
    · exact .refl _
theorem sortB_perm {α : Type} {lt : α → α → Bool} : ∀ l : List α, (sortB lt l).Perm l
  | [] => .refl _
  | x :: r => (insB_perm x _).trans ((sortB_perm r).cons x)
theorem insB_sorted {α : Type} {lt : α → α → Bool} (asym : ∀ a b, lt a b = true → lt b a = false) (tr : ∀ a b c, lt b a = false → lt c b = false → lt c a = false) (x : α) : ∀ l : List α, l.Pairwise (fun a b => lt b a = false) → (insB lt x l).Pairwise (fun a b => lt b a = false)
  | [], _ => by simp [insB]
  | y :: r, h => by
    unfold insB
    rw [List.pairwise_cons] at h
    split
    · rename_i q
      rw [List.pairwise_cons]
      refine ⟨fun z hz => ?_, insB_sorted asym tr x r h.2⟩
      rcases List.mem_cons.mp ((insB_perm x r).mem_iff.mp hz) with rfl | hz
      · exact asym _ _ q
      · exact h.1 z hz
    · rename_i q
      rw [List.pairwise_cons]
      refine ⟨fun z hz => ?_, List.pairwise_cons.mpr h⟩
      have q' : lt y x = false := by simpa using q
      rcases List.mem_cons.mp hz with rfl | hz
      · exact q'
      · exact tr _ _ _ q' (h.1 z hz)
theorem sortB_sorted {α : Type} {lt : α → α → Bool} (asym : ∀ a b, lt a b = true → lt b a = false) (tr : ∀ a b c, lt b a = false → lt c b = false → lt c a = false) : ∀ l : List α, (sortB lt l).Pairwise (fun a b => lt b a = false)
  | [] => .nil
  | x :: r => insB_sorted asym tr x _ (sortB_sorted asym tr r)
def ltI (a b : Int) : Bool := decide (a < b)
def sortI : List Int → List Int := sortB ltI
theorem sortI_sorted (l : List Int) : (sortI l).Pairwise (· ≤ ·) := (sortB_sorted (lt := ltI) (fun a b h => by simp [ltI] at *; omega) (fun a b c h1 h2 => by simp [ltI] at *; omega) l).imp fun {a b} h => by simp [ltI] at h; exact h
theorem sortI_perm (l : List Int) : (sortI l).Perm l := sortB_perm l
theorem sortI_eq {l l' : List Int} (p : l'.Perm l) (h : l'.Pairwise (· ≤ ·)) : l' = sortI l := PySem.W.ksm_same (p.trans (sortI_perm l).symm) h (sortI_sorted l)
def ltS (a b : Str) : Bool := ltCps a.cps.toList b.cps.toList
theorem ltCps_asym : ∀ a b : List Nat, ltCps a b = true → ltCps b a = false
  | [], [], h => by cases h
  | [], _ :: _, _ => rfl
  | _ :: _, [], h => by cases h
  | a :: r, b :: t, h => by
    simp only [ltCps, Bool.or_eq_true, decide_eq_true_eq, Bool.and_eq_true, beq_iff_eq] at h
    simp only [ltCps, Bool.or_eq_false_iff, decide_eq_false_iff_not, Bool.and_eq_false_iff, beq_eq_false_iff_ne]
    rcases h with h | ⟨rfl, h⟩
    · exact ⟨by omega, .inl (by omega)⟩
    · exact ⟨by omega, .inr (ltCps_asym r t h)⟩
theorem ltCps_tr : ∀ a b c : List Nat, ltCps b a = false → ltCps c b = false → ltCps c a = false
  | [], b, c, h1, h2 => by cases c <;> rfl
  | a :: r, [], c, h1, h2 => by cases h1
  | a :: r, b :: t, [], h1, h2 => by cases h2
  | a :: r, b :: t, c :: u, h1, h2 => by
    simp only [ltCps, Bool.or_eq_false_iff, decide_eq_false_iff_not, Bool.and_eq_false_iff, beq_eq_false_iff_ne] at *
    refine ⟨by omega, ?_⟩
    by_cases q : c = a
    · right
      subst q
      have e : b = c := by omega
      subst e
      exact ltCps_tr r t u (h1.2.resolve_left (by simp)) (h2.2.resolve_left (by simp))
    · exact .inl q
theorem ltCps_tot : ∀ a b : List Nat, ltCps a b = false → ltCps b a = false → a = b
  | [], [], _, _ => rfl
  | [], _ :: _, h, _ => by cases h
  | _ :: _, [], _, h => by cases h
  | a :: r, b :: t, h1, h2 => by
    simp only [ltCps, Bool.or_eq_false_iff, decide_eq_false_iff_not, Bool.and_eq_false_iff, beq_eq_false_iff_ne] at *
    have e : a = b := by omega
    subst e
    rw [ltCps_tot r t (h1.2.resolve_left (by simp)) (h2.2.resolve_left (by simp))]
def sortS : List Str → List Str := sortB ltS
theorem str_cps {a b : Str} (h : a.cps.toList = b.cps.toList) : a = b := by
  obtain ⟨a⟩ := a
  obtain ⟨b⟩ := b
  simp only at h
  rw [Array.toList_inj.mp h]
theorem risingS_pw : ∀ (p : Str) (l : List Str), risingS p l = true → (p :: l).Pairwise (fun a b => ltS b a = false)
  | p, [], _ => by simp
  | p, x :: r, h => by
    simp only [risingS, Bool.and_eq_true, Bool.not_eq_true'] at h
    have ih := risingS_pw x r h.2
    rw [List.pairwise_cons]
    refine ⟨fun z hz => ?_, ih⟩
    rcases List.mem_cons.mp hz with rfl | hz
    · exact h.1
    · exact ltCps_tr _ _ _ h.1 ((List.pairwise_cons.mp ih).1 z hz)
theorem sortS_eq {l l' : List Str} (p : l'.Perm l) (h : sortedS l' = true) : l' = sortS l := by
  have h' : l'.Pairwise (fun a b => ltS b a = false) := by
    cases l' with
    | nil => exact .nil
    | cons x r => exact risingS_pw x r h
  exact (p.trans (sortB_perm (lt := ltS) l).symm).eq_of_pairwise (fun a b _ _ h1 h2 => str_cps (ltCps_tot _ _ h2 h1)) h' (sortB_sorted (lt := ltS) (fun a b q => ltCps_asym _ _ q) (fun a b c q1 q2 => ltCps_tr _ _ _ q1 q2) l)
theorem sortS_perm (l : List Str) : (sortS l).Perm l := sortB_perm l
def intsOf : List D → Option (List Int)
  | [] => some []
  | .int i :: r => match intsOf r with
    | some is => some (i :: is)
    | none => none
  | _ => none
def strsOf : List D → Option (List Str)
  | [] => some []
  | .str i :: r => match strsOf r with
    | some is => some (i :: is)
    | none => none
  | _ => none
def blsOf : List D → Option (List Bool)
  | [] => some []
  | .bl i :: r => match blsOf r with
    | some is => some (i :: is)
    | none => none
  | _ => none
def fSort (nm : Bool) : FD := fun ds h => match ds with
  | [d] => match lstOf h d with
    | some xs => match intsOf xs with
      | some is => mkL nm ((sortI is).map D.int) h
      | none => match strsOf xs with
        | some ss => if ss.length < 64 then mkL nm ((sortS ss).map D.str) h else .no
        | none => .no
    | none => match dctOf h d with
      | some kvs => match intsOf (kvs.map fun kv => kD kv.1) with
        | some is => if is.length < 64 then mkL nm ((sortI is).map D.int) h else .no
        | none => match strsOf (kvs.map fun kv => kD kv.1) with
          | some ss => if ss.length < 64 then mkL nm ((sortS ss).map D.str) h else .no
          | none => .no
      | none => .no
  | _ => .no
def fAllB (neg : Bool) : FD := fun ds h => match ds with
  | [d] => match lstOf h d with
    | some xs => match blsOf xs with
      | some bs => .ok (.bl (if neg then bs.any id else bs.all id)) h
      | none => .no
    | none => .no
  | _ => .no
section
variable {X : Cx} {K : PySem.W.Frag} {CA : CAs} {W : WX} {m : Mp} {h : CH} {H : Hp} {e : Expr} {pos : Pos} {ha : TE} {ta : TD}
theorem rp_ints : ∀ {ds : List D} {is : List Int} {vs : List V}, RpAll K CA m h H vs ds → intsOf ds = some is → vs = is.map V.int ∧ ds = is.map D.int
  | [], is, vs, r, e => by cases r; cases e; exact ⟨rfl, rfl⟩
  | d :: ds, is, vs, r, e => by
    cases r with
    | cons r1 r2 =>
      cases r1 with
      | int i =>
        simp only [intsOf] at e
        split at e
        · rename_i is' e'
          cases e
          obtain ⟨e1, e2⟩ := rp_ints r2 e'
          exact ⟨by rw [e1]; rfl, by rw [e2]; rfl⟩
        · cases e
      | _ => simp [intsOf] at e
theorem rp_strs : ∀ {ds : List D} {is : List Str} {vs : List V}, RpAll K CA m h H vs ds → strsOf ds = some is → vs = is.map V.str ∧ ds = is.map D.str
  | [], is, vs, r, e => by cases r; cases e; exact ⟨rfl, rfl⟩
  | d :: ds, is, vs, r, e => by
    cases r with
    | cons r1 r2 =>
      cases r1 with
      | str i =>
        simp only [strsOf] at e
        split at e
        · rename_i is' e'
          cases e
          obtain ⟨e1, e2⟩ := rp_strs r2 e'
          exact ⟨by rw [e1]; rfl, by rw [e2]; rfl⟩
        · cases e
      | _ => simp [strsOf] at e
theorem rp_bls : ∀ {ds : List D} {is : List Bool} {vs : List V}, RpAll K CA m h H vs ds → blsOf ds = some is → vs = is.map V.bl ∧ ds = is.map D.bl
  | [], is, vs, r, e => by cases r; cases e; exact ⟨rfl, rfl⟩
  | d :: ds, is, vs, r, e => by
    cases r with
    | cons r1 r2 =>
      cases r1 with
      | bl i =>
        simp only [blsOf] at e
        split at e
        · rename_i is' e'
          cases e
          obtain ⟨e1, e2⟩ := rp_bls r2 e'
          exact ⟨by rw [e1]; rfl, by rw [e2]; rfl⟩
        · cases e
      | _ => simp [blsOf] at e
theorem all_strs : ∀ ns : List Str, RpAll K CA m h H (ns.map V.str) (ns.map D.str)
  | [] => .nil
  | n :: ns => .cons (.str n) (all_strs ns)
abbrev rSrt (K : PySem.W.Frag) : List V → Hp → VK → Prop := fun xs H Q => rSortedI K xs H Q ∨ (rSortedS K xs H Q ∨ ((∃ (a : Addr) (kvs : List (Key × V)) (ks : List Int), xs = [.ref a] ∧ Rd H a (.dK kvs) ∧ kvs.map (·.1) = ks.map Sum.inl ∧ ks.length < 64 ∧
    ∀ (ys : List Int) (p : Addr), ys.Perm ks → ys.Pairwise (· ≤ ·) → H p = none → Q (.ref p) (upd H p (.lst (ys.map V.int)))) ∨ (∃ (a : Addr) (kvs : List (Key × V)) (ks : List Str), xs = [.ref a] ∧ Rd H a (.dK kvs) ∧ kvs.map (·.1) = ks.map Sum.inr ∧ ks.length < 64 ∧
    ∀ ys p, ys.Perm ks → sortedS ys = true → H p = none → Q (.ref p) (upd H p (.lst (ys.map V.str))))))
theorem call_sortU (hc : X.calm = true := by rfl) (hK : X.K = K := by rfl) : CallR X (.builtin "sorted") (rSrt K) := by subst hK; exact cr_sortedI.or (cr_sortedS.or ((call_sortedDI hc).or (call_sortedD hc)))
theorem keys_ints : ∀ {kvs : List (Key × D)} {is : List Int}, intsOf (kvs.map fun kv => kD kv.1) = some is → kvs.map (·.1) = is.map Sum.inl
  | [], is, e => by cases e; rfl
  | (k, d) :: kvs, is, e => by
    cases k with
    | inl i =>
      simp only [List.map_cons, kD, intsOf] at e
      split at e
      · rename_i is' e'
        cases e
        rw [List.map_cons, List.map_cons, keys_ints e']
      · cases e
    | inr x => simp [kD, intsOf] at e
theorem keys_strs : ∀ {kvs : List (Key × D)} {is : List Str}, strsOf (kvs.map fun kv => kD kv.1) = some is → kvs.map (·.1) = is.map Sum.inr
  | [], is, e => by cases e; rfl
  | (k, d) :: kvs, is, e => by
    cases k with
    | inr i =>
      simp only [List.map_cons, kD, strsOf] at e
      split at e
      · rename_i is' e'
        cases e
        rw [List.map_cons, List.map_cons, keys_strs e']
      · cases e
    | inl x => simp [kD, strsOf] at e
theorem sim_sort {nm : Bool} : SimC K CA (rSrt K) (fSort nm) := by
  intro W σ m h H xs ds Q' S r t
  unfold fSort at t
  split at t
  · cases r with
    | cons r1 r2 =>
      cases r2
      split at t
      · rename_i xs e
        obtain ⟨a, ys, rfl, e1, rr⟩ := rp_lst S r1 e
        split at t
        · rename_i is ei
          obtain ⟨q1, q2⟩ := rp_ints rr ei
          subst q1
          exact .inl ⟨a, is, rfl, .of e1, fun ns' p h1 h2 n => by rw [sortI_eq h1 h2]; exact mkL_post S n (all_ints _) t⟩
        · split at t
          · rename_i ss es
            obtain ⟨l, t⟩ := post_ite t
            obtain ⟨q1, q2⟩ := rp_strs rr es
            subst q1
            exact .inr (.inl ⟨a, ss, rfl, .of e1, l, fun ns' p h1 h2 n => by rw [sortS_eq h1 h2]; exact mkL_post S n (all_strs _) t⟩)
          · exact t.elim
      · split at t
        · rename_i kvs ek
          obtain ⟨a, o, hk, rfl, e1, c, en, rr⟩ := rp_dct S r1 ek
          have rd : Rd H a (.dK hk) := by
            rcases core_dK c with rfl | ⟨ob, rfl⟩
            · exact .inl e1
            · exact .inr ⟨ob, e1⟩
          split at t
          · rename_i is ei
            obtain ⟨l, t⟩ := post_ite t
            exact .inr (.inr (.inl ⟨a, hk, is, rfl, rd, en.trans (keys_ints ei), l, fun ys p h1 h2 n => by rw [sortI_eq h1 h2]; exact mkL_post S n (all_ints _) t⟩))
          · split at t
            · rename_i ss es
              obtain ⟨l, t⟩ := post_ite t
              exact .inr (.inr (.inr ⟨a, hk, ss, rfl, rd, en.trans (keys_strs es), l, fun ys p h1 h2 n => by rw [sortS_eq h1 h2]; exact mkL_post S n (all_strs _) t⟩))
            · exact t.elim
        · exact t.elim
  · exact t.elim
theorem call_allU (hc : X.calm = true := by rfl) (hK : X.K = K := by rfl) : CallR X (.builtin "all") (rAll K) := by subst hK; exact cr_all hc
theorem sim_all : SimC K CA (rAll K) (fAllB false) := by
  intro W σ m h H xs ds Q' S r t
  unfold fAllB at t
  split at t
  · split at t
    · rename_i xs e
      split at t
      · rename_i bs eb
        cases r with
        | cons r1 r2 =>
          cases r2
          obtain ⟨a, ys, rfl, e1, rr⟩ := rp_lst S r1 e
          obtain ⟨q1, q2⟩ := rp_bls rr eb
          subst q1
          exact ⟨a, bs, rfl, .of e1, t.here S (.bl _)⟩
      · exact t.elim
    · exact t.elim
  · exact t.elim
theorem we_neg (x : WE X K CA W e ha ta) : WE X K CA W (.UnaryOp .USub e pos) (tUn (rU fun i => .int (-i)) ha) (dUn fNeg ta) :=
  ⟨pe_un un_neg x.pe, fun m h H σ ρ Q' S t => x.sim m h H σ ρ _ S (t.bind fun d h1 m1 v H1 s1 S1 r1 t1 => by
    unfold fNeg at t1
    split at t1
    · cases r1; exact ⟨_, rfl, t1.here S1 (.int _)⟩
    · exact t1.elim)⟩
end
/-- where the modules' dict stands, no list stands -/
def SM (base : Heap) : Prop := ∃ o es ep, base.get? sysModules = some o ∧ o.data = .dict es ep
def LawF (F : FD) : Prop := ∀ ns : List Int, ns.length ≤ 63 → ∃ h, F [.scr ns] CH.emp = .ok (.bl true) h
end CM
namespace CM
open PySem PySem.Spec PyProof.Rows L2
theorem boot_lenU : bootBuiltins "len" = some (.builtin "len") := by rfl
theorem boot_isinstanceU : bootBuiltins "isinstance" = some (.builtin "isinstance") := by rfl
theorem boot_minU : bootBuiltins "min" = some (.builtin "min") := by rfl
theorem boot_absU : bootBuiltins "abs" = some (.builtin "abs") := by rfl
theorem boot_reprU : bootBuiltins "repr" = some (.builtin "repr") := by rfl
theorem boot_allU : bootBuiltins "all" = some (.builtin "all") := by rfl
theorem boot_sortedU : bootBuiltins "sorted" = some (.builtin "sorted") := by rfl
theorem boot_intU : bootBuiltins "int" = some (.type "int") := by rfl
theorem boot_strU : bootBuiltins "str" = some (.type "str") := by rfl
theorem boot_tupleU : bootBuiltins "tuple" = some (.type "tuple") := by rfl
theorem boot_listU : bootBuiltins "list" = some (.type "list") := by rfl
theorem boot_dictU : bootBuiltins "dict" = some (.type "dict") := by rfl
theorem call_lenRd {X : Cx} : CallR X (.builtin "len") (fun xs H Q => ∃ a kvs, xs = [V.ref a] ∧ Rd H a (.dK kvs) ∧ Q (.int kvs.length) H) := by
  rintro pins s σ H xs us Q I r ⟨a, kvs, rfl, rd, q⟩
  obtain ⟨u, rfl, ru⟩ := vals1 r
  cases ru
  exact d_len I rd fun t s2 I2 => ⟨V.int kvs.length, H, I2, ⟨t, rfl⟩, q⟩
section
variable {P : Program} {w : World} {K : PySem.W.Frag} {mg : Str → Option Value} {base : Heap} {CA : CAs}
/-- how a def without positional defaults binds, at the function's data -/
theorem KwB.fn {nm qual : Str} {st : Stmt} {f : Addr} {fd : FuncData} {ps : List Str} {n : Nat} {ks : List Str} {src : List Src} (T : Fun K nm qual st f fd) (hc : consts src = [])
    (h : ∀ (kV doc pm : Value) (an : Option Addr) (cdv ct : Value) (us ws : List Value), us.length = n → ws.length = ks.length → bindArgs (PySem.W.fnOf nm qual (defArgs st) (defBody st) (defScope st) .none kV doc pm an cdv ct) ⟨us, ks.zip ws⟩ = pure (ps.zip (pickL us ws src []))) : KwB K CA fd ps n ks src := by
  obtain ⟨c1, o1, k1, d1, p1, a1, v1, t1, s1, rfl, _, _⟩ := T.ex
  exact .of hc fun us ws h1 h2 => h _ _ _ _ _ _ us ws h1 h2
/-- written values, as data -/
theorem WrV.rel : ∀ {u : Value} {d : D}, WrV K u d → ∃ v, RelV v u ∧ ∀ m h H, Rp K CA m h H v d := fun {u d} w => by
  refine WrV.rec (motive_1 := fun u d _ => ∃ v, RelV v u ∧ ∀ m h H, Rp K CA m h H v d) (motive_2 := fun us ds _ => ∃ vs, Vals vs us ∧ ∀ m h H, RpAll K CA m h H vs ds) ?_ ?_ ?_ ?_ ?_ ?_ ?_ w
  · exact fun x t => ⟨.str x, ⟨t, rfl⟩, fun _ _ _ => .str x⟩
  · exact fun x t => ⟨.int x, ⟨t, rfl⟩, fun _ _ _ => .int x⟩
  · exact fun b => ⟨.bl b, rfl, fun _ _ _ => .bl b⟩
  · exact ⟨.non, rfl, fun _ _ _ => .non⟩
  · intro a dd us n sl ds hk _ hl ⟨vs, h1, h2⟩
    exact ⟨.ref a, rfl, fun m h H => .ktup (.inr ⟨_, us.toArray, n, hk, rfl, rfl, by rw [List.size_toArray]; exact hl, by simpa using h1⟩) (h2 m h H)⟩
  · exact ⟨[], .nil, fun _ _ _ => .nil⟩
  · intro u d us ds _ _ ⟨v, h1, h2⟩ ⟨vs, h3, h4⟩
    exact ⟨v :: vs, .cons h1 h3, fun m h H => .cons (h2 m h H) (h4 m h H)⟩
theorem gv_wr {x : Str} {u : Value} {d : D} (h : mg x = some u) (w : WrV K u d) : GV K CA mg x d := by
  obtain ⟨v, h1, h2⟩ := w.rel (CA := CA)
  exact ⟨v, u, h, h1, h2⟩
end
def tys : List String := ["NoneType", "bool", "int", "str", "list", "tuple", "dict"]
def ktB : KT := fun a b => match a, b with
  | .b a, .b b => if a ∈ tys ∧ b ∈ tys then some (a == b || (a == "bool" && b == "int")) else none
  | _, _ => none
theorem kitB_tys : ∀ a, a ∈ tys → ∀ b, b ∈ tys → kitB a b = some (a == b || (a == "bool" && b == "int")) := by decide +kernel
theorem ktB_ok {K : PySem.W.Frag} {CA : CAs} : KtOk K CA [] ktB := by
  refine ⟨fun a b r e => ?_, fun c hc => (nomatch hc)⟩
  cases a with
  | b a => cases b with
    | b b =>
      simp only [ktB] at e
      by_cases c : a ∈ tys ∧ b ∈ tys
      · rw [if_pos c] at e
        rw [← e]
        exact kit_ty (kitB_tys a c.1 b c.2)
      · rw [if_neg c] at e; cases e
    | o c => cases e
  | o c => cases e
end CM
namespace CM
open PySem PySem.Spec PyProof.Rows L2
/-- the two classes' say: the own == at c0, whose reading is F; no exception leaves it -/
def fOwn (c0 : Nat) (nf : Tg → Bool) (own : List Nat) (neg : Bool) (F : FD) : F2 := fun a b h => match objOf h a, tgOf h b with
  | some (c, _), some t => if c = c0 ∧ nf t = true ∧ okTg own t = true then (F [a, b] h).calm fun r h2 => match r with
    | .bl k => .ok (.bl (k != neg)) h2
    | _ => .no
    else .no
  | _, _ => .no
/-- what stands in the written part -/
structure OwnE (P : Program) (w : World) (K : PySem.W.Frag) (mg : Str → Option Value) (base : Heap) (CA : CAs) (c0 : Nat) (nf : Tg → Bool) (k : Nat) (ps : List Str) (F : FD) (f : Addr) (fd : FuncData) : Prop where
  G : FnG P w K mg base false k f fd ps (spD K CA 2 F)
  at_ : PySem.W.findIn K (.ref (CA c0)) "__eq__" = some (some (.ref f))
  ne : PySem.W.findIn K (.ref (CA c0)) "__ne__" = some (some (.builtin "object.__ne__"))
  fn : PySem.W.isFn K (.ref f) = true
  ob : PySem.W.mroIn K (CA c0) (.type "object") = some true
  nf : ∀ t, nf t = true → PySem.W.notFirst K (CA c0) (t.v CA) = true
  bd : Binds K fd ps []
section
open PySem.W
variable {prog : Program} {w : World} {A : Around} {E : Value → Shared → Prop} {s : Shared} {K : Frag} {x C f : Addr} {ox : Obj} {od : Option Obj} {b : Value}
/-- x != b by object.__ne__, which asks the own == -/
theorem ne_try {Q : Option Value → Shared → Prop} (hu : A.units + 1 < cLine) (X : K.In s.heap) (I : InstAt s.heap x ox C od) (hn : findIn K (.ref C) "__ne__" = some (some (.builtin "object.__ne__"))) (he : findIn K (.ref C) "__eq__" = some (some (.ref f))) (hf : isFn K (.ref f) = true)
    (hm : mroIn K C (.type "object") = some true) (h : wpAny (model prog w) A.in1 (call (.ref f) [.ref x, b]) (fun v s' => ∃ k, v = .bool k ∧ Q (some (.bool (!k))) s') E s) :
    wpAny (model prog w) A (tryCompare (.ref x) "__ne__" b) Q E s := by
  have FB := PySem.F.cmp_object
  have sub : Looks (model prog w) s.heap (isInstance (.ref x) (.type "object")) true := I.type.andThen (looks_mroIn X hm)
  have inner : wpAny (model prog w) A (call (.builtin "object.__ne__") [.ref x, b]) (fun v s' => ∃ k, v = .bool k ∧ Q (some (.bool k)) s') E s := by
    refine wpAny_call (codeAny_call_builtin FB.ne.plain PySem.F.cmpEntry_ne (@check_slot (model prog w) _ _ s "object.__ne__" "object" "__ne__" (.ref x) [b] [] _ PySem.F.cmpKind_ne PySem.F.cmpSplit_ne sub (PySem.F.cmpArgs_ne (.ref x) b) ?_))
    have body : ∀ {Qf : Fin → Shared → Prop}, wpAny (model prog w) A.in1 (call (.ref f) [.ref x, b]) (fun v s' => ∃ k, v = .bool k ∧ Qf (.done (.ret (.bool (!k)))) s') E s → wpAny (model prog w) A.in1 (Builtin.«object.__ne__» ⟨[.ref x, b], []⟩) Qf E s := by
      intro Qf hc
      unfold Builtin.«object.__ne__»
      repeat (first
        | with_reducible refine wpAny_cRoomFor hu ?_
        | (refine wpAny_bind (m := callSpecialIfBound? (.ref x) (Str.ofString "__eq__") [b])
            (ifBound_K X I he hf (wpAny_mono hc (fun r s' hr => by
              obtain ⟨k, rfl, hq⟩ := hr
              repeat (first | exact hq | exact wpAny_pure hq | exact wpAny_truthy_bool hq | (refine wpAny_bind (m := truthy (.bool _)) (wpAny_truthy_bool ?_)) | wp_step)) fun _ _ e => e)))
        | wp_step)
    exact body (wpAny_mono h (fun v s' ⟨k, e, q⟩ => ⟨k, e, ⟨!k, rfl, q⟩⟩) fun _ _ e => e)
  unfold tryCompare
  have fin : wpAny (model prog w) A (call (.builtin "object.__ne__") ([.ref x] ++ [b]) >>= fun v => pure (some v)) (fun r s' => ∃ k, r = some (.bool k) ∧ Q (some (.bool k)) s') E s :=
    wpAny_bind (wpAny_mono inner (fun v s' ⟨k, e, q⟩ => wpAny_pure ⟨k, by rw [e], q⟩) fun _ _ e => e)
  refine wpAny_bind ?_
  show wpAny _ _ (callSpecialIfBound? (.ref x) "__ne__" [b]) _ _ _
  simp only [callSpecialIfBound?, bindSpecialIfBound?]
  refine wpAny_holding (wpAny_bind (wpAny_bind (wpAny_bind (I.type.here ((looks_findIn X hn).here ?_)))))
  refine wpAny_bind (wpAny_askSetting (wpAny_ite ?_))
  rw [FB.ne.bind]
  split
  · refine wpAny_bind (wpAny_pure (wpAny_pure ?_))
    refine wpAny_mono fin (fun r s' ⟨k, e, q⟩ => ?_) fun _ _ e => e
    subst e
    exact wpAny_pure q
  · refine wpAny_tryCatch (wpAny_bind (wpAny_pure (wpAny_pure ?_)))
    refine wpAny_mono fin (fun r s' ⟨k, e, q⟩ => ?_) fun _ _ e => e
    subst e
    exact wpAny_pure q
theorem ne_K {tb : Value} {Q : Value → Shared → Prop} (hu : A.units + 1 < cLine) (X : K.In s.heap) (I : InstAt s.heap x ox C od) (hb : Looks (model prog w) s.heap (typeOf b) tb) (hn : notFirst K C tb = true)
    (hne : findIn K (.ref C) "__ne__" = some (some (.builtin "object.__ne__"))) (he : findIn K (.ref C) "__eq__" = some (some (.ref f))) (hf : isFn K (.ref f) = true) (hm : mroIn K C (.type "object") = some true)
    (h : wpAny (model prog w) A.in1 (call (.ref f) [.ref x, b]) (fun v s' => ∃ k, v = .bool k ∧ Q (.bool (!k)) s') E s) : wpAny (model prog w) A (richCompare .NotEq (.ref x) b) Q E s := by
  have one : wpAny (model prog w) A (tryCompare (.ref x) (cmpInfo .NotEq).2.1 b) (fun r s' => ∃ v, r = some v ∧ Q v s') E s :=
    ne_try (Q := fun r s' => ∃ v, r = some v ∧ Q v s') hu X I hne he hf hm (wpAny_mono h (fun v s' ⟨k, e, q⟩ => ⟨k, e, _, rfl, q⟩) fun _ _ e => e)
  unfold richCompare
  simp only [oneThing_ref]
  refine wpAny_holding (wpAny_bind (wpAny_cRoomFor (Nat.lt_of_succ_lt hu) ?_))
  refine wpAny_bind (I.type.here (wpAny_bind (hb.here ?_)))
  split
  · rename_i q
    have e : subIn K tb (.ref C) = some false := by
      rcases Bool.or_eq_true_iff.mp hn with e | e
      · rw [beq_iff_eq.mp e] at q; simp at q
      · exact beq_iff_eq.mp e
    refine wpAny_bind ((looks_subIn X e).here ?_)
    simp only [Bool.false_eq_true, if_false]
    refine wpAny_bind (wpAny_mono one (fun r s' z => ?_) fun _ _ e => e)
    obtain ⟨v, rfl, hq⟩ := z
    exact wpAny_pure hq
  · refine wpAny_bind (wpAny_pure ?_)
    simp only [Bool.false_eq_true, if_false]
    refine wpAny_bind (wpAny_mono one (fun r s' z => ?_) fun _ _ e => e)
    obtain ⟨v, rfl, hq⟩ := z
    exact wpAny_pure hq
end
/-- the reading at the heap -/
def rOwn (K : PySem.W.Frag) (CA : CAs) (c0 : Nat) (nf : Tg → Bool) (neg : Bool) (F : FD) : R2 := fun x y H Q => ∃ a dx fs t, x = .ref a ∧ H a = some (.ins (CA c0) dx fs) ∧ TyX K H y (Tg.v CA t) ∧ nf t = true ∧
  ∃ (m : Mp) (h : CH) (d1 d2 : D), HR K CA m h H ∧ RpAll K CA m h H [x, y] [d1, d2] ∧ PostE K CA (wxD L2.E0) m h H [] (fun v H2 => ∃ k, v = .bl k ∧ Q (.bl (k != neg)) H2) (noxF F [d1, d2] h)
section
variable {X : Cx} {K : PySem.W.Frag} {CA : CAs} {W : WX} {c0 k : Nat} {nf : Tg → Bool} {own : List Nat} {kt : KT} {F : FD} {f : Addr} {fd : FuncData} {ps : List Str} {neg : Bool}
theorem post_nox {E : XK} {m : Mp} {h : CH} {H : Hp} {σ : L2.St} {Q : VK} {r : R D} (t : PostE K CA W m h H σ Q (r.calm fun d h => .ok d h)) : PostE K CA (wxD E) m h H [] Q r := by
  cases r with
  | ok d h' => exact t
  | ex c fs h' => exact t.elim
  | no => exact t.elim
theorem sim_own (kk : KtOk K CA own kt) : SimR K CA (rOwn K CA c0 nf neg F) (fOwn c0 nf own neg F) := by
  intro W σ m h H x y dx dy Q' S rx ry t
  unfold fOwn at t
  split at t
  · rename_i c fs tg e1 e2
    obtain ⟨⟨ec, hn, ok⟩, t2⟩ := post_ite t
    clear t
    subst ec
    obtain ⟨a, da, hf, rfl, q1, _, _⟩ := rp_obj S rx e1
    refine ⟨a, da, hf, tg, rfl, q1, rp_tg kk S ry e2 ok, hn, m, h, dx, dy, S, .cons rx (.cons ry .nil), ?_⟩
    cases ef : F [dx, dy] h with
    | no => rw [ef] at t2; exact t2.elim
    | ex c fs h' => rw [ef] at t2; exact t2.elim
    | ok d h' =>
      rw [ef] at t2
      show PostE K CA (wxD L2.E0) m h H [] _ ((F [dx, dy] h).calm fun d h => .ok d h)
      rw [ef]
      intro m' v H' s' S' rv
      cases d with
      | bl k =>
        cases rv
        exact ⟨k, rfl, t2 m' _ H' s' S' (.bl _)⟩
      | _ => exact t2.elim
  · exact t.elim
theorem op_ownEq (O : OwnE X.prog X.w X.K X.mg X.base CA c0 nf k ps F f fd) (hr : Room (k + 1) X.A) (hl : ps.length = 2) (hK : X.K = K := by rfl) : OpR X (compareOp .Eq) (rOwn K CA c0 nf false F) := by
  subst hK
  intro pins s σ H x y v u Q I rx ry h
  obtain ⟨a, dx, fs, t, rfl, ha, ty, hn, m, ch, d1, d2, hR, rr, q⟩ := h
  obtain rfl : v = Value.ref a := rx
  obtain ⟨mA, J, _⟩ := ins_get I.hok ha
  obtain ⟨od, J, _⟩ := J.look
  obtain ⟨P, kx, hP, _⟩ := kit_of I ry ty
  obtain ⟨mf, hF⟩ := I.fr
  show wpAny _ _ (richCompare .Eq (Value.ref a) u) _ _ _
  refine PySem.W.cmp_K (op := .Eq) (tb := Tg.v CA t) (by have := hr.un; omega) hF I.ok.mod.kin J (kx.ty _ _ I.kIn hP) (O.nf t hn) O.at_ O.fn ?_
  have r2 : Vals [V.ref a, y] [Value.ref a, u] := .cons rfl (.cons ry .nil)
  have bd := O.bd s [.ref a, u] I.kIn (by rw [hl]; rfl)
  rw [List.append_nil] at bd
  refine wpAny_call (codeAny_mono (O.G.go X.A X.stack s H ⟨[.ref a, u], []⟩ [.ref a, u] [.ref a, y] _ L2.E0 (fun z => nomatch z) (hr.mono (Nat.le_succ _)) I.env0 bd r2 ⟨rfl, m, ch, [d1, d2], hR, rr, post_nox q⟩) fun r s' hq => ?_)
  rcases r with er | fl
  · obtain ⟨_, _, _, _, _, _, _, _, _, _, _, _, z⟩ := hq
    exact z.elim
  · rcases fl with _ | _ | _ | z
    · exact False.elim hq
    · exact False.elim hq
    · exact False.elim hq
    · obtain ⟨v', H', I3, rv, b, ev, q3⟩ := I.after hq
      subst ev
      cases rv
      cases b
      · exact ⟨.bl false, H', I3, rfl, q3⟩
      · exact ⟨.bl true, H', I3, rfl, q3⟩
theorem op_ownNe (O : OwnE X.prog X.w X.K X.mg X.base CA c0 nf k ps F f fd) (hr : Room (k + 1) X.A) (hl : ps.length = 2) (hK : X.K = K := by rfl) : OpR X (compareOp .NotEq) (rOwn K CA c0 nf true F) := by
  subst hK
  intro pins s σ H x y v u Q I rx ry h
  obtain ⟨a, dx, fs, t, rfl, ha, ty, hn, m, ch, d1, d2, hR, rr, q⟩ := h
  obtain rfl : v = Value.ref a := rx
  obtain ⟨mA, J, _⟩ := ins_get I.hok ha
  obtain ⟨od, J, _⟩ := J.look
  obtain ⟨P, kx, hP, _⟩ := kit_of I ry ty
  obtain ⟨mf, hF⟩ := I.fr
  show wpAny _ _ (richCompare .NotEq (Value.ref a) u) _ _ _
  refine ne_K (by have := hr.un; omega) I.kIn J (kx.ty _ _ I.kIn hP) (O.nf t hn) O.ne O.at_ O.fn O.ob ?_
  have r2 : Vals [V.ref a, y] [Value.ref a, u] := .cons rfl (.cons ry .nil)
  have bd := O.bd s [.ref a, u] I.kIn (by rw [hl]; rfl)
  rw [List.append_nil] at bd
  refine wpAny_call (codeAny_mono (O.G.go X.A.in1 X.stack s H ⟨[.ref a, u], []⟩ [.ref a, u] [.ref a, y] _ L2.E0 (fun z => nomatch z) hr.in1 I.env0.in1 bd r2 ⟨rfl, m, ch, [d1, d2], hR, rr, post_nox q⟩) fun r s' hq => ?_)
  rcases r with er | fl
  · obtain ⟨_, _, _, _, _, _, _, _, _, _, _, _, z⟩ := hq
    exact z.elim
  · rcases fl with _ | _ | _ | z
    · exact False.elim hq
    · exact False.elim hq
    · exact False.elim hq
    · obtain ⟨v', H', I3, rv, b, ev, q3⟩ := I.after hq
      subst ev
      cases rv
      refine ⟨b, rfl, ?_⟩
      cases b
      · exact ⟨.bl true, H', I3, rfl, q3⟩
      · exact ⟨.bl false, H', I3, rfl, q3⟩
end
end CM
namespace CM
open PySem PySem.Spec PyProof.Rows L2
/-- an empty set as set.__new__ lays it -/
abbrev eSet (w : World) : Obj := { cls := .type "set", dict := none, data := .set #[] 0 (.fresh 0 0 (!w.params.followText "set-order")) }
/-- the different ones, as they are met -/
def ded (l : List Str) : List Str := l.foldl (fun acc x => if x ∈ acc then acc else acc ++ [x]) []
theorem ded_snoc (l : List Str) (x : Str) : ded (l ++ [x]) = if x ∈ ded l then ded l else ded l ++ [x] := by
  unfold ded
  rw [List.foldl_append]
  rfl
theorem mem_ded (l : List Str) : ∀ x, x ∈ ded l ↔ x ∈ l := by
  intro x
  have key : ∀ (l acc : List Str), x ∈ l.foldl (fun acc x => if x ∈ acc then acc else acc ++ [x]) acc ↔ x ∈ acc ∨ x ∈ l := by
    intro l
    induction l with
    | nil => intro acc; simp
    | cons y l ih =>
      intro acc
      rw [List.foldl_cons, ih]
      split
      · rename_i h
        constructor
        · rintro (a | a)
          · exact .inl a
          · exact .inr (List.mem_cons_of_mem _ a)
        · rintro (a | a)
          · exact .inl a
          · rcases List.mem_cons.mp a with e | e
            · subst e; exact .inl h
            · exact .inr e
      · rw [List.mem_append, List.mem_singleton, List.mem_cons, or_assoc]
  have := key l []
  simpa [ded] using this
theorem ded_le (l : List Str) : (ded l).length ≤ l.length := by
  have key : ∀ (l acc : List Str), (l.foldl (fun acc x => if x ∈ acc then acc else acc ++ [x]) acc).length ≤ acc.length + l.length := by
    intro l
    induction l with
    | nil => intro acc; simp
    | cons y l ih =>
      intro acc
      rw [List.foldl_cons]
      refine Nat.le_trans (ih _) ?_
      split <;> simp <;> omega
  have := key l []
  simpa [ded] using this
section
variable {P : Program} {w : World} {A : Around} {R : Result → Shared → Prop} {I : Addr} {fp wr : List Addr} {G : Array GenState → Array GenState → Prop} {n : Nat} {Pv : Nat → Value → Prop} {St : Nat → Shared → Prop}
/-- the texts are added one by one -/
theorem fill_texts (Wk : WalksS P w A.in1 I fp wr G n Pv St) (D : Addr) (nf : D ∉ fp) (zs : List Str) (nz : n = zs.length) (room : zs.length + 1 < scanBound) (vals : ∀ i v, Pv i v → ∃ k t, zs[i]? = some k ∧ v = .str k t) :
    ∀ (k i : Nat) (s : Shared), n - i = k → i ≤ n → St i s → s.heap.SetOf (PySem.strKind P w) D (fun z => decide (z ∈ ded (zs.take i))) (ded (zs.take i)).length →
      (∀ s', Moved (D :: wr) G s s' → s'.heap.SetOf (PySem.strKind P w) D (fun z => decide (z ∈ ded zs)) (ded zs).length → R (.ok (.ret .none)) s') →
      codeAny (model P w) A (.builtin "set.update.loop" ⟨[.ref D, .ref I], []⟩) R s := by
  have nw : D ∉ wr := fun h => nf (Wk.sub _ h)
  have up1 : ∀ b ∈ wr, b ∈ D :: wr := fun b h => List.mem_cons_of_mem _ h
  intro k
  induction k with
  | zero =>
    intro i s hk li st hS fin
    obtain rfl : i = n := by omega
    refine codeAny_builtin PyProof.Rows.F.entry_set_update_loop ?_
    rw [Around.under_plainId PyProof.Rows.F.plain_set_update_loop _]
    show wpAny _ A.in1 (pyNext (.ref I) >>= _) _ _ s
    refine wpAny_bind (Wk.done s _ _ st fun s2 mv => ?_)
    show wpAny _ A.in1 (ret Value.none) _ _ s2
    rw [List.take_of_length_le (show zs.length ≤ i by omega)] at hS
    obtain ⟨o, es, ep, tb, ho, more⟩ := hS
    exact wpAny_pure (fin s2 (mv.mono up1) ⟨o, es, ep, tb, mv.heap D _ nw ho, more⟩)
  | succ k ih =>
    intro i s hk li st hS fin
    have lt : i < n := by omega
    refine codeAny_builtin PyProof.Rows.F.entry_set_update_loop ?_
    rw [Around.under_plainId PyProof.Rows.F.plain_set_update_loop _]
    show wpAny _ A.in1 (pyNext (.ref I) >>= _) _ _ s
    refine wpAny_bind (Wk.item i s _ _ lt st fun v s2 hv st2 mv => ?_)
    obtain ⟨z, t, ez, rfl⟩ := vals i v hv
    have hS2 : s2.heap.SetOf (PySem.strKind P w) D (fun z => decide (z ∈ ded (zs.take i))) (ded (zs.take i)).length := by
      obtain ⟨o, es, ep, tb, ho, more⟩ := hS
      exact ⟨o, es, ep, tb, mv.heap D _ nw ho, more⟩
    show wpAny _ A.in1 (holding [Value.str z t] (setAdd D (.str z t)) >>= _) _ _ s2
    refine wpAny_bind (wpAny_holding ?_)
    unfold setAdd
    refine wpAny_holding ?_
    refine wpAny_bind ((PySem.strKind P w).pyHash (k := z) (strKind_is _ _ _ _) ?_)
    have small : (ded (zs.take i)).length ≤ zs.length := Nat.le_trans (ded_le _) (by rw [List.length_take]; omega)
    refine wpAny_setAddHashed_of (knd := PySem.strKind P w) (s := { s2 with toks := s2.toks + 1 }) (strKind_is _ _ _ _) rfl hS2 (by omega) fun h3 sb hS3 => ?_
    have e1 : zs.take (i + 1) = zs.take i ++ [z] := by rw [List.take_add_one, ez]; rfl
    have hS4 : h3.SetOf (PySem.strKind P w) D (fun z => decide (z ∈ ded (zs.take (i + 1)))) (ded (zs.take (i + 1))).length := by
      refine SetOf_congr hS3 (fun y => ?_) ?_
      · rw [e1, ded_snoc]
        by_cases c : z ∈ ded (zs.take i)
        · rw [if_pos c]
          by_cases d : y = z
          · subst d; simp [c]
          · simp [d]
        · rw [if_neg c]
          simp [List.mem_append]
      · rw [e1, ded_snoc]
        by_cases c : z ∈ ded (zs.take i) <;> simp [c]
    refine wpAny_pure ⟨plainId_quiet PyProof.Rows.F.plain_set_update_loop _, ih (i + 1) _ (by omega) lt (Wk.frame _ s2 _ _ st2 (Nat.le_succ _) fun b hb o e => ?_) hS4 fun s5 mv5 hS5 => ?_⟩
    · exact (sb.2 b (fun z => nf (z ▸ hb))).trans e
    · exact fin s5 (Moved.trans Wk.gtrans ((mv.mono up1).then_heap (Nat.le_succ _) fun b o hb e => (sb.2 b (fun z => hb (z ▸ List.mem_cons_self))).trans e) mv5) hS5
end
section
variable {P : Program} {w : World} {A : Around} {E : Value → Shared → Prop} {s : Shared}
/-- set(x), x a list: whatever the filling makes sure of -/
theorem set_by_list {l : Addr} {its : Array Value} {Post : Heap → Prop} {Q : Value → Shared → Prop} (calm : A.handled = none) (hl : s.heap.IsList l its)
    (fill : ∀ (R : Result → Shared → Prop) (I : Addr) (St : Nat → Shared → Prop) (s1 : Shared), s.heap.objs.size ∉ [I, l] → WalksS P w A.in1.in1.in1 I [I, l] [I] (fun a b => b = a) its.size (fun i v => its[i]? = some v) St → St 0 s1 →
      s1.heap.get? s.heap.objs.size = some (eSet w) → (∀ s2, Moved [s.heap.objs.size, I] (fun a b => b = a) s1 s2 → Post s2.heap → R (.ok (.ret .none)) s2) → codeAny (model P w) A.in1.in1 (.builtin "set.update.loop" ⟨[.ref s.heap.objs.size, .ref I], []⟩) R s1)
    (done : ∀ (h2 : Heap) (tk : Nat), Post h2 → (∀ b o, s.heap.get? b = some o → h2.get? b = some o) → Q (.ref s.heap.objs.size) { s with heap := h2, toks := tk }) :
    wpAny (model P w) A (call (.type "set") [.ref l]) Q E s := by
  obtain ⟨_, _, f_mro⟩ := PySem.F.called_set.mro
  have f_made := PySem.F.called_set.made
  have f_sub := PySem.F.called_set.sub
  refine wpAny_call (codeAny_of_tree ?_)
  show wpAny _ _ (callAny (.type "set") _) _ _ _
  refine wpAny_pure ⟨Code.quiet_builtin _ (by decide +kernel), codeAny_builtin PySem.F.entry_type_call ?_⟩
  rw [Around.under_plain (weight_type_call_type "set" [.ref l] []) rfl]
  have f_1 := PySem.F.called_set.notType
  have f_2 := PySem.F.called_set.canCreate
  have f_3 := PySem.F.typeCall_set_1 (.ref l)
  repeat any_goals (first | assumption | wp_step)

  refine codeAny_mono (code_set_led1 (.ref l) (E := E) (Q₁ := fun ob s1 => ob = .ref s.heap.objs.size ∧ s1 = { s with heap := s.heap.push (eSet w) }) ⟨rfl, rfl⟩) fun r s1 hr => ?_
  rcases r with e | fl
  · exact hr
  · rcases fl with _ | _ | _ | ob
    · exact hr.elim
    · exact hr.elim
    · exact hr.elim
    · obtain ⟨rfl, rfl⟩ := hr
      have atS : (s.heap.push (eSet w)).get? s.heap.objs.size = some (eSet w) := Heap.get?_push_size _ rfl
      have tyS : Shared.TypeIs { s with heap := s.heap.push (eSet w) } (.ref s.heap.objs.size) "set" := ⟨_, atS, rfl⟩
      have f_4 := PySem.F.called_set.init.lookup
      have f_5 := PySem.F.called_set.init.bind (.ref s.heap.objs.size)
      repeat any_goals (first | assumption | wp_step)

      refine codeAny_mono (codeAny_call_builtin (R := wants (fun r s2 => r = .none ∧ ∃ h2 tk, s2 = { s with heap := h2, toks := tk } ∧ Post h2 ∧ (∀ b o, s.heap.get? b = some o → h2.get? b = some o)) E)
        PySem.F.called_set.init.plain PySem.F.entry_set_init (check_set_init_1 tyS ?_)) fun r2 s2 hr2 => ?_
      · obtain ⟨ol, look, ec, nl, ed⟩ := hl
        obtain ⟨oc, od, oda, osl⟩ := ol
        dsimp only at ec ed
        subst ec ed
        have look2 : (s.heap.push (eSet w)).get? l = some { cls := .type "list", dict := od, data := .seq its nl, slots := osl } := Heap.get?_push_of_some _ look
        have f_6 := PySem.F.sub_list_set
        have f_7 := PySem.F.sub_list_frozenset
        have f_8 : (Value.type "list" == Value.type "dict") = false := by decide
        have is2 : (s.heap.push (eSet w)).IsList l its := ⟨_, look2, rfl, nl, rfl⟩
        unfold Builtin.«set.__init__» noKeywords Builtin.Frozenset.updateFrom
        generalize ePI : pyIter = PI
        wp_walk
        subst ePI
        refine wpAny_pyIter_list is2 ?_
        refine wpAny_bind (wpAny_runValue ?_)
        have lts : l < s.heap.objs.size := Heap.lt_size look
        have calm3 : A.in1.in1.in1.handled = none := by simp [calm]
        have sz : (s.heap.push (eSet w)).objs.size = s.heap.objs.size + 1 := Heap.size_push ..
        have neI : l ≠ (s.heap.push (eSet w)).objs.size := by rw [sz]; exact Nat.ne_of_lt (Nat.lt_succ_of_lt lts)
        have nin : s.heap.objs.size ∉ [(s.heap.push (eSet w)).objs.size, l] := by
          rw [sz]
          intro z
          rcases List.mem_cons.mp z with z | z
          · exact absurd z (Nat.ne_of_lt (Nat.lt_succ_self _))
          · exact absurd (List.mem_singleton.mp z) (Nat.ne_of_gt lts)
        refine fill _ _ _ _ nin ((Walks.list calm3 _ l neI its).toS) ⟨⟨_, Heap.get?_push_size _ rfl, rfl, rfl⟩, is2.push _⟩ (Heap.get?_push_of_some _ atS) fun s3 mv p3 => ?_
        obtain ⟨h3, g3, d3, tk3, os3⟩ := s3
        obtain rfl : g3 = s.gens := mv.gens
        obtain rfl : d3 = s.drawn := mv.drawn
        obtain rfl : os3 = s.os := mv.os
        show wpAny _ _ _ _ _ _
        refine wpAny_pure ?_
        show wpAny _ _ (ret Value.none) _ _ _
        refine wpAny_pure ⟨rfl, h3, tk3, rfl, p3, fun b o e => ?_⟩
        have ltb := Heap.lt_size e
        refine mv.heap b o (fun z => ?_) (Heap.get?_push_of_some _ (Heap.get?_push_of_some _ e))
        rcases List.mem_cons.mp z with z | z
        · exact absurd z (Nat.ne_of_lt ltb)
        · exact absurd (List.mem_singleton.mp z) (by rw [sz]; exact Nat.ne_of_lt (Nat.lt_succ_of_lt ltb))
      · rcases r2 with e | fl2
        · exact hr2
        · rcases fl2 with _ | _ | _ | u
          · exact hr2.elim
          · exact hr2.elim
          · exact hr2.elim
          · obtain ⟨rfl, h2, tk, rfl, p2, k2⟩ := hr2
            repeat any_goals (first | assumption | wp_step)
            exact done _ _ p2 k2
/-- set(x), x a tuple: whatever the filling makes sure of -/
theorem set_by_tuple {l : Addr} {its : Array Value} {Post : Heap → Prop} {Q : Value → Shared → Prop} (calm : A.handled = none) (hl : s.heap.IsTuple l its)
    (fill : ∀ (R : Result → Shared → Prop) (I : Addr) (St : Nat → Shared → Prop) (s1 : Shared), s.heap.objs.size ∉ [I, l] → WalksS P w A.in1.in1.in1 I [I, l] [I] (fun a b => b = a) its.size (fun i v => its[i]? = some v) St → St 0 s1 →
      s1.heap.get? s.heap.objs.size = some (eSet w) → (∀ s2, Moved [s.heap.objs.size, I] (fun a b => b = a) s1 s2 → Post s2.heap → R (.ok (.ret .none)) s2) → codeAny (model P w) A.in1.in1 (.builtin "set.update.loop" ⟨[.ref s.heap.objs.size, .ref I], []⟩) R s1)
    (done : ∀ (h2 : Heap) (tk : Nat), Post h2 → (∀ b o, s.heap.get? b = some o → h2.get? b = some o) → Q (.ref s.heap.objs.size) { s with heap := h2, toks := tk }) :
    wpAny (model P w) A (call (.type "set") [.ref l]) Q E s := by
  obtain ⟨_, _, f_mro⟩ := PySem.F.called_set.mro
  have f_made := PySem.F.called_set.made
  have f_sub := PySem.F.called_set.sub
  refine wpAny_call (codeAny_of_tree ?_)
  show wpAny _ _ (callAny (.type "set") _) _ _ _
  refine wpAny_pure ⟨Code.quiet_builtin _ (by decide +kernel), codeAny_builtin PySem.F.entry_type_call ?_⟩
  rw [Around.under_plain (weight_type_call_type "set" [.ref l] []) rfl]
  have f_1 := PySem.F.called_set.notType
  have f_2 := PySem.F.called_set.canCreate
  have f_3 := PySem.F.typeCall_set_1 (.ref l)
  repeat any_goals (first | assumption | wp_step)

  refine codeAny_mono (code_set_led1 (.ref l) (E := E) (Q₁ := fun ob s1 => ob = .ref s.heap.objs.size ∧ s1 = { s with heap := s.heap.push (eSet w) }) ⟨rfl, rfl⟩) fun r s1 hr => ?_
  rcases r with e | fl
  · exact hr
  · rcases fl with _ | _ | _ | ob
    · exact hr.elim
    · exact hr.elim
    · exact hr.elim
    · obtain ⟨rfl, rfl⟩ := hr
      have atS : (s.heap.push (eSet w)).get? s.heap.objs.size = some (eSet w) := Heap.get?_push_size _ rfl
      have tyS : Shared.TypeIs { s with heap := s.heap.push (eSet w) } (.ref s.heap.objs.size) "set" := ⟨_, atS, rfl⟩
      have f_4 := PySem.F.called_set.init.lookup
      have f_5 := PySem.F.called_set.init.bind (.ref s.heap.objs.size)
      repeat any_goals (first | assumption | wp_step)

      refine codeAny_mono (codeAny_call_builtin (R := wants (fun r s2 => r = .none ∧ ∃ h2 tk, s2 = { s with heap := h2, toks := tk } ∧ Post h2 ∧ (∀ b o, s.heap.get? b = some o → h2.get? b = some o)) E)
        PySem.F.called_set.init.plain PySem.F.entry_set_init (check_set_init_1 tyS ?_)) fun r2 s2 hr2 => ?_
      · obtain ⟨ol, look, ec, nl, ed⟩ := hl
        obtain ⟨oc, od, oda, osl⟩ := ol
        dsimp only at ec ed
        subst ec ed
        have look2 : (s.heap.push (eSet w)).get? l = some { cls := .type "tuple", dict := od, data := .seq its nl, slots := osl } := Heap.get?_push_of_some _ look
        have f_6 := PySem.F.sub_tuple_set
        have f_7 := PySem.F.sub_tuple_frozenset
        have f_8 : (Value.type "tuple" == Value.type "dict") = false := by decide
        have is2 : (s.heap.push (eSet w)).IsTuple l its := ⟨_, look2, rfl, nl, rfl⟩
        unfold Builtin.«set.__init__» noKeywords Builtin.Frozenset.updateFrom
        generalize ePI : pyIter = PI
        wp_walk
        subst ePI
        refine wpAny_pyIter_tuple is2 ?_
        refine wpAny_bind (wpAny_runValue ?_)
        have lts : l < s.heap.objs.size := Heap.lt_size look
        have calm3 : A.in1.in1.in1.handled = none := by simp [calm]
        have sz : (s.heap.push (eSet w)).objs.size = s.heap.objs.size + 1 := Heap.size_push ..
        have neI : l ≠ (s.heap.push (eSet w)).objs.size := by rw [sz]; exact Nat.ne_of_lt (Nat.lt_succ_of_lt lts)
        have nin : s.heap.objs.size ∉ [(s.heap.push (eSet w)).objs.size, l] := by
          rw [sz]
          intro z
          rcases List.mem_cons.mp z with z | z
          · exact absurd z (Nat.ne_of_lt (Nat.lt_succ_self _))
          · exact absurd (List.mem_singleton.mp z) (Nat.ne_of_gt lts)
        refine fill _ _ _ _ nin ((Walks.tuple calm3 _ l neI its).toS) ⟨⟨_, Heap.get?_push_size _ rfl, rfl, rfl⟩, is2.push _⟩ (Heap.get?_push_of_some _ atS) fun s3 mv p3 => ?_
        obtain ⟨h3, g3, d3, tk3, os3⟩ := s3
        obtain rfl : g3 = s.gens := mv.gens
        obtain rfl : d3 = s.drawn := mv.drawn
        obtain rfl : os3 = s.os := mv.os
        show wpAny _ _ _ _ _ _
        refine wpAny_pure ?_
        show wpAny _ _ (ret Value.none) _ _ _
        refine wpAny_pure ⟨rfl, h3, tk3, rfl, p3, fun b o e => ?_⟩
        have ltb := Heap.lt_size e
        refine mv.heap b o (fun z => ?_) (Heap.get?_push_of_some _ (Heap.get?_push_of_some _ e))
        rcases List.mem_cons.mp z with z | z
        · exact absurd z (Nat.ne_of_lt ltb)
        · exact absurd (List.mem_singleton.mp z) (by rw [sz]; exact Nat.ne_of_lt (Nat.lt_succ_of_lt ltb))
      · rcases r2 with e | fl2
        · exact hr2
        · rcases fl2 with _ | _ | _ | u
          · exact hr2.elim
          · exact hr2.elim
          · exact hr2.elim
          · obtain ⟨rfl, h2, tk, rfl, p2, k2⟩ := hr2
            repeat any_goals (first | assumption | wp_step)
            exact done _ _ p2 k2
end
end CM
namespace CM
open PySem PySem.Spec PyProof.Rows L2
def rSortQ (K : PySem.W.Frag) : List V → Hp → VK → Prop := fun xs H Q => ∃ a ys, xs = [V.ref a] ∧ (SqL K H a ys ∨ SqT K H a ys) ∧
  ((∃ ns : List Int, ys = ns.map V.int ∧ ns.length < 64 ∧ ∀ (l : List Int) (p : Addr), l.Perm ns → l.Pairwise (· ≤ ·) → H p = none → Q (.ref p) (upd H p (.lst (l.map V.int)))) ∨
    (∃ ss : List Str, ys = ss.map V.str ∧ ss.length < 64 ∧ ∀ (l : List Str) (p : Addr), l.Perm ss → sortedS l = true → H p = none → Q (.ref p) (upd H p (.lst (l.map V.str)))))
section
variable {X : Cx} {K : PySem.W.Frag} {CA : CAs}
theorem cr_sortQ (hK : X.K = K := by rfl) : CallR X (.builtin "sorted") (rSortQ K) := by
  subst hK
  intro pins s σ H vs us Q I r hq
  obtain ⟨a, ys, rfl, hs, hq⟩ := hq
  rw [Vals.ref1 r]
  obtain ⟨T, o, its, n, hT, ho, hc, hd, rv, hz⟩ : ∃ (T : String) (o : Obj) (its : List Value) (n : Nat), (T = "list" ∨ T = "tuple") ∧ s.heap.get? a = some o ∧ o.cls = .type T ∧ o.data = .seq its.toArray n ∧ Vals ys its ∧ its.length ≤ sizeLine := by
    rcases hs with hs | hs
    · obtain ⟨its, rv, pl, hz⟩ := I.list hs
      obtain ⟨o, ho, hc, n, hd⟩ := pl.isList
      exact ⟨"list", o, its, n, .inl rfl, ho, hc, hd, rv, by rw [← rv.length]; exact hz⟩
    · obtain ⟨its, rv, pl, hz⟩ := I.tuple hs
      obtain ⟨o, ho, hc, n, hd⟩ := pl
      exact ⟨"tuple", o, its, n, .inr rfl, ho, hc, hd, rv, by rw [← rv.length]; exact hz⟩
  refine Calls.call_function_entry PyProof.Rows.kind_sorted PyProof.Rows.plain_sorted PyProof.Rows.entry_sorted (PyProof.Rows.args_sorted1 _) ?_
  unfold Builtin.«sorted»
  refine wpAny_bind (m := checkCount "sorted" 1 1 _) (wpAny_pure ?_)
  refine wpAny_bind (wpAny_collect_seq a hT ho hc hd (fun h1 kp => ?_) (by rw [List.size_toArray]; exact hz))
  have I1 : Inv X pins σ H { s with heap := h1, toks := s.toks } := I.kept kp
  show wpAny _ _ _ _ _ { s with heap := h1, toks := s.toks }
  rw [List.toList_toArray]
  refine wpAny_bind (wpAny_newList ?_ hz)
  have atL : (h1.push (seqObj "list" its.toArray 0)).get? h1.objs.size = some (seqObj "list" its.toArray 0) := Heap.get?_push_size _ rfl
  have keepL : ∀ {out : Array Value} (b : Addr) (u : Obj), h1.get? b = some u → (PyProof.Rows.sortedHeap (h1.push (seqObj "list" its.toArray 0)) h1.objs.size its out).get? b = some u := fun {out} b u e => by
    have lt := Heap.lt_size e
    rw [PyProof.Rows.sortedHeap_old (Nat.ne_of_lt lt) (by rw [size_push']; exact Nat.lt_succ_of_lt lt)]
    exact Heap.get?_push_of_some _ e
  rcases hq with ⟨ns, ey, l64, q⟩ | ⟨ss, ey, l64, q⟩
  · subst ey
    have hi := rv.ints
    have le := rv.length
    rw [List.length_map] at le
    refine wpAny_bind (wpAny_holding (wpAny_call_entry PyProof.Rows.slot_list_sort ⟨_, atL, rfl⟩ PyProof.Rows.entry_list_sort
      (list_sort_tree (s := { s with heap := h1.push (seqObj "list" its.toArray 0), toks := s.toks }) atL hi (by rw [← le]; exact l64) fun out ns' g1 g2 g3 => ⟨_, rfl, ?_⟩) (PyProof.Rows.args_list_sort _)))
    obtain ⟨ep, hp⟩ := PyProof.Rows.sortedHeap_at (vs := its) (out := out) atL
    refine wpAny_pure ⟨_, rfl, .ref h1.objs.size, upd H h1.objs.size (.lst (ns'.map V.int)), I1.laid (t' := s.toks) keepL (Nat.le_refl _)
      (show ObjOk X.prog X.w _ _ _ (.lst (ns'.map V.int)) from ⟨by rw [List.length_map, g2.length_eq]; exact Nat.le_trans (Nat.le_of_lt l64) (by decide), out.toList, ep, vals_of_ints g1, by rw [Array.toArray_toList]; exact hp⟩), rfl, q ns' _ g2 g3 (I1.hok.fresh (Nat.le_refl _))⟩
  · subst ey
    have hi := rv.strs
    have le := rv.length
    rw [List.length_map] at le
    refine wpAny_bind (wpAny_holding (wpAny_call_entry PyProof.Rows.slot_list_sort ⟨_, atL, rfl⟩ PyProof.Rows.entry_list_sort
      (list_sort_treeK strKind_oneLt (s := { s with heap := h1.push (seqObj "list" its.toArray 0), toks := s.toks }) atL hi.keysOf (fun v1 v2 rest e => keyKind_strs (by rw [← e]; exact hi)) (by rw [← le]; exact l64) fun st g1 g2 => ⟨_, rfl, ?_⟩) (PyProof.Rows.args_list_sort _)))
    obtain ⟨l, g3, g4, g5⟩ := sorted_out_str hi g1 g2
    obtain ⟨ep, hp⟩ := PyProof.Rows.sortedHeap_at (vs := its) (out := (arrOf st).map (·.2)) atL
    refine wpAny_pure ⟨_, rfl, .ref h1.objs.size, upd H h1.objs.size (.lst (l.map V.str)), I1.laid (t' := s.toks) keepL (Nat.le_refl _)
      (show ObjOk X.prog X.w _ _ _ (.lst (l.map V.str)) from ⟨by rw [List.length_map, g4.length_eq]; exact Nat.le_trans (Nat.le_of_lt l64) (by decide), ((arrOf st).map (·.2)).toList, ep, vals_of_strs g3, by rw [Array.toArray_toList]; exact hp⟩), rfl, q l _ g4 g5 (I1.hok.fresh (Nat.le_refl _))⟩
def fSrt (nm : Bool) : FD := fun ds h => match ds with
  | [d] => match seqOf h d with
    | some xs => match intsOf xs with
      | some is => if is.length < 64 then mkL nm ((sortI is).map D.int) h else fSort nm ds h
      | none => match strsOf xs with
        | some ss => if ss.length < 64 then mkL nm ((sortS ss).map D.str) h else .no
        | none => .no
    | none => fSort nm ds h
  | _ => .no
theorem call_srt (hc : X.calm = true := by rfl) (hK : X.K = K := by rfl) : CallR X (.builtin "sorted") (fun xs H Q => rSrt K xs H Q ∨ rSortQ K xs H Q) := (call_sortU hc hK).or (cr_sortQ hK)
theorem sim_srt {nm : Bool} : SimC K CA (fun xs H Q => rSrt K xs H Q ∨ rSortQ K xs H Q) (fSrt nm) := by
  intro W σ m h H xs ds Q' S r t
  unfold fSrt at t
  split at t
  · rename_i d
    split at t
    · rename_i ys e
      obtain ⟨v, rfl⟩ : ∃ v, xs = [v] := by cases r with | cons r1 r2 => cases r2; exact ⟨_, rfl⟩
      have r1 : Rp K CA m h H v d := by cases r with | cons r1 r2 => exact r1
      obtain ⟨a, zs, rfl, e1, rr⟩ := rp_seq S r1 e
      split at t
      · rename_i is ei
        by_cases c : is.length < 64
        · rw [if_pos c] at t
          obtain ⟨q1, q2⟩ := rp_ints rr ei
          exact .inr ⟨a, zs, rfl, e1, .inl ⟨is, q1, c, fun l p h1 h2 n => by rw [sortI_eq h1 h2]; exact mkL_post S n (all_ints _) t⟩⟩
        · rw [if_neg c] at t
          exact .inl (sim_sort W σ m h H _ _ Q' S r t)
      · split at t
        · rename_i ss es
          obtain ⟨l64, t⟩ := post_ite t
          obtain ⟨q1, q2⟩ := rp_strs rr es
          exact .inr ⟨a, zs, rfl, e1, .inr ⟨ss, q1, l64, fun l p h1 h2 n => by rw [sortS_eq h1 h2]; exact mkL_post S n (all_strs _) t⟩⟩
        · exact t.elim
    · exact .inl (sim_sort W σ m h H _ _ Q' S r t)
  · exact t.elim
end
def fLenS : F1 := fun d h => match seqOf h d with
  | some xs => match strsOf xs with
    | some ss => if ss.length < 1000 then .ok (.int (ded ss).length) h else .no
    | none => .no
  | none => .no
def tLenS (K : PySem.W.Frag) (ta : TE) : TE := fun σ H Q => ta σ H fun x H1 => ∃ a ss, x = V.ref a ∧ (SqL K H1 a (ss.map V.str) ∨ SqT K H1 a (ss.map V.str)) ∧ ss.length < 1000 ∧ Q (.int (ded ss).length) H1
section
variable {X : Cx} {K : PySem.W.Frag} {CA : CAs} {W : WX} {e : Expr} {p p2 q pos : Pos} {ha : TE} {ta : TD}
theorem vals_of {ss : List Str} {its : List Value} (hi : StrsAre its ss) : ∀ (i : Nat) (v : Value), its.toArray[i]? = some v → ∃ k t, ss[i]? = some k ∧ v = .str k t := fun i v hv => by
  have hv' : its[i]? = some v := by simpa using hv
  obtain ⟨t, e⟩ := SS.strs_at hi i v hv'
  have lt : i < ss.length := by
    rw [← StrsAre.len_eq hi]
    exact (List.getElem?_eq_some_iff.mp hv').1
  refine ⟨ss[i], t, List.getElem?_eq_getElem lt, ?_⟩
  rw [e, List.getD_eq_getElem?_getD, List.getElem?_eq_getElem lt]
  rfl
theorem pe_lenS (hc : X.calm = true) (hg : Gl X "len") (hm : X.mg "len" = none) (hg2 : Gl X "set") (hm2 : X.mg "set" = none) (ha' : PE X e ha) (hK : X.K = K := by rfl)
    (na : starEach [e] X.env = (false, eval e X.env) :: starEach [] X.env := by rfl) : PE X (.Call (.Name "len" p) [.Call (.Name "set" p2) [e] [] q] [] pos) (tLenS K ha) := by
  subst hK
  refine ⟨fun pins s σ H Q I h => ?_⟩
  refine Call_ (ld_blt I hg hm boot_len ?_)
  refine PyProof.Rows.callWith_builtin1 (PyProof.Rows.args_cons ?_ rfl) rfl rfl
  refine Call_ (ld_blt I hg2 hm2 boot_set ?_)
  refine PyProof.Rows.callWith_type1 (PyProof.Rows.args_cons (thn (ha'.run pins s σ H _ I h) fun v s1 ⟨x, H1, I1, r1, q1⟩ => PyProof.Rows.args_nil ?_) na) na rfl
  obtain ⟨a, ss, rfl, hs, l3, q2⟩ := q1
  cases r1
  have room : ss.length + 1 < scanBound := by unfold scanBound; omega
  have last : ∀ (h2 : Heap) (tk : Nat), h2.SetOf (PySem.strKind X.prog X.w) s1.heap.objs.size (fun z => decide (z ∈ ded ss)) (ded ss).length → (∀ b o, s1.heap.get? b = some o → h2.get? b = some o) →
      wpAny (model X.prog X.w) X.A (spliced (backTo pos (starEach [] X.env))) (fun vs s₂ => wpAny (model X.prog X.w) X.A (call (.builtin "len") (Value.ref s1.heap.objs.size :: vs)) (EP X pins σ Q) X.xe s₂) X.xe { s1 with heap := h2, toks := tk } := fun h2 tk hS kp => by
    refine PyProof.Rows.args_nil ?_
    obtain ⟨o, es, ep, t, ho, hex, hd, _, _, _, hf, hn⟩ := hS
    have I2 : Inv X pins σ H1 { s1 with heap := h2, toks := tk } := I1.kept kp
    have := ded_le ss
    exact call_len_set ho hex hd hf (by rw [hn]; omega) ⟨.int (ded ss).length, H1, I2.tok _, ⟨_, by rw [hn]⟩, q2⟩
  have fill : ∀ {its : List Value} (hi : StrsAre its ss) (R : Result → Shared → Prop) (I : Addr) (St : Nat → Shared → Prop) (s2 : Shared), s1.heap.objs.size ∉ [I, a] → WalksS X.prog X.w X.A.in1.in1.in1 I [I, a] [I] (fun a b => b = a) its.toArray.size (fun i v => its.toArray[i]? = some v) St → St 0 s2 →
      s2.heap.get? s1.heap.objs.size = some (eSet X.w) → (∀ s3, Moved [s1.heap.objs.size, I] (fun a b => b = a) s2 s3 → s3.heap.SetOf (PySem.strKind X.prog X.w) s1.heap.objs.size (fun z => decide (z ∈ ded ss)) (ded ss).length → R (.ok (.ret .none)) s3) →
      codeAny (model X.prog X.w) X.A.in1.in1 (.builtin "set.update.loop" ⟨[.ref s1.heap.objs.size, .ref I], []⟩) R s2 := fun {its} hi R I St s2 nin Wk st at0 fin =>
    fill_texts Wk _ nin ss (by rw [List.size_toArray]; exact StrsAre.len_eq hi) room (vals_of hi) _ 0 s2 rfl (Nat.zero_le _) st
      (SetOf_congr ((setObjOf_fresh (knd := PySem.strKind X.prog X.w) _).setOf at0 (by unfold scanBound; omega)) (fun z => by simp [ded]) (by simp [ded])) fun s3 mv hS => fin s3 mv hS
  rcases hs with hs | hs
  · obtain ⟨its, rv, pl, hz⟩ := I1.list hs
    exact set_by_list (I1.ok.hd hc) pl.isList (fill rv.strs) last
  · obtain ⟨its, rv, pl, hz⟩ := I1.tuple hs
    exact set_by_tuple (I1.ok.hd hc) pl (fill rv.strs) last
theorem we_lenS (x : WE X K CA W e ha ta) (hm : X.mg "len" = none) (hm2 : X.mg "set" = none) (hc : X.calm = true := by rfl) (hg : Gl X "len" := by rfl) (hg2 : Gl X "set" := by rfl) (hK : X.K = K := by rfl)
    (na : starEach [e] X.env = (false, eval e X.env) :: starEach [] X.env := by rfl) : WE X K CA W (.Call (.Name "len" p) [.Call (.Name "set" p2) [e] [] q] [] pos) (tLenS K ha) (dUn fLenS ta) :=
  ⟨pe_lenS hc hg hm hg2 hm2 x.pe hK na, fun m h H σ ρ Q' S t => x.sim m h H σ ρ _ S (t.bind fun d h1 m1 v H1 s1 S1 r1 t1 => by
    unfold fLenS at t1
    split at t1
    · rename_i xs e
      split at t1
      · rename_i ss es
        obtain ⟨l3, t2⟩ := post_ite t1
        obtain ⟨a, zs, rfl, e1, rr⟩ := rp_seq S1 r1 e
        obtain ⟨q1, q2⟩ := rp_strs rr es
        subst q1
        exact ⟨a, ss, rfl, e1, l3, t2.here S1 (.int _)⟩
      · exact t1.elim
    · exact t1.elim)⟩
end
end CM
namespace CM
open PySem PySem.Spec PyProof.Rows L2
theorem noG {p : Prop} : (false = true) → p := fun z => nomatch z
theorem pick_cons (d : D) (ds zs : List D) : ∀ (n i : Nat), pickD (d :: ds) zs (srcP (i + 1) n) = pickD ds zs (srcP i n)
  | 0, _ => rfl
  | n + 1, i => by
    show (d :: ds).getD (i + 1) .non :: pickD (d :: ds) zs (srcP (i + 1 + 1) n) = ds.getD i .non :: pickD ds zs (srcP (i + 1) n)
    rw [pick_cons d ds zs n (i + 1)]
    rfl
theorem pick_srcP (zs : List D) : ∀ ds : List D, pickD ds zs (srcP 0 ds.length) = ds
  | [] => rfl
  | d :: ds => by
    show (d :: ds).getD 0 .non :: pickD (d :: ds) zs (srcP 1 ds.length) = d :: ds
    rw [pick_cons, pick_srcP zs ds]
    rfl
theorem srcP_length : ∀ (n i : Nat), (srcP i n).length = n
  | 0, _ => rfl
  | n + 1, i => by rw [srcP, List.length_cons, srcP_length n]
section
variable {X : Cx} {K : PySem.W.Frag} {CA : CAs} {W : WX} {e : Expr} {es : List Expr} {pos p : Pos} {hs : TA} {ts : TDs} {x : Str} {g : Bool} {k : Nat} {ps : List Str} {F : FD} {f : Addr} {fd : FuncData}
/-- f(e, ..), all that there are -/
theorem we_callP (D : Df X.prog X.w X.K X.mg X.base CA x g k ps F f fd) (hG : g = true → X.A.guards = some []) (hr : Room k X.A) (tk' : Takes X W) (h : WA X K CA W (e :: es) hs ts) (B : KwB K CA fd ps ps.length [] (srcP 0 ps.length)) (hg : Gl X x := by rfl) (hK : X.K = K := by rfl)
    (hdb : (x == ("__debug__" : Str)) = false := by decide) (he : starEach (e :: es) X.env = (false, eval e X.env) :: starEach es X.env := by rfl) (hpl : (backTo pos (starEach es X.env)).any (·.1) = false := by rfl) :
    WE X K CA W (.Call (.Name x p) (e :: es) [] pos) (tCallN K CA W ps.length 0 (fun ds _ => F ds) hs L2.tNil) (dCall ps.length F ts) := by
  subst hK
  refine ⟨⟨fun pins s σ H Q I hq => wpAny_Call_Name_kw (ld_glob I hg D.hm ?_ hdb)⟩, sim_call h.sim⟩
  refine PySem.W.callWith_K (h₀ := X.base) I.ok.mod.kin D.hk (thn (h.pe.run pos pins s σ H _ I hq) fun us s1 ⟨vs, H1, I1, r, l1, l2, m, h, ds, es, hR, rd, re, q⟩ => ⟨I1.kIn, ?_⟩) he hpl
  refine run_callN (ws := []) D.G hG hr B tk' I1 r .nil l1 l2 hR rd re (srcP_length _ _) ?_
  have e : pickD ds es (srcP 0 ps.length) = ds := by rw [← l1, rd.length]; exact pick_srcP es ds
  rw [e]
  exact q
end
def clsB (K : PySem.W.Frag) (C : Addr) : Bool :=
  PySem.W.plainGet K C Str.empty && (PySem.W.hasDictIn K C && (PySem.W.plainOver K C && (decide (PySem.W.findIn K (.ref C) "__setattr__" = some (some (.builtin "object.__setattr__"))) &&
  (decide (PySem.W.findIn K (.ref C) "__class__" = some (some (.builtin "object.__class__"))) && (decide (PySem.W.specialIn K (.builtin "object.__class__") "__get__" = some (some (.builtin "getset_descriptor.__get__"))) &&
  (decide (PySem.W.takesIn K (.builtin "object.__class__") = some true) && decide (PySem.W.mroIn K C (.type "object") = some true)))))))
structure ClsOk (K : PySem.W.Frag) (C : Addr) : Prop where
  cl : Cls K C
  i1 : PySem.W.findIn K (.ref C) "__class__" = some (some (.builtin "object.__class__"))
  i2 : PySem.W.specialIn K (.builtin "object.__class__") "__get__" = some (some (.builtin "getset_descriptor.__get__"))
  i3 : PySem.W.takesIn K (.builtin "object.__class__") = some true
  i4 : PySem.W.mroIn K C (.type "object") = some true
theorem clsB_ok {K : PySem.W.Frag} {C : Addr} (h : clsB K C = true) : ClsOk K C := by
  unfold clsB at h
  simp only [Bool.and_eq_true, decide_eq_true_eq] at h
  obtain ⟨h1, h2, h3, h4, h5, h6, h7, h8⟩ := h
  exact ⟨⟨h1, h2, h3, h4⟩, h5, h6, h7, h8⟩
def noB (K : PySem.W.Frag) (C : Addr) (fs : List Str) : Bool := fs.all fun f => decide (PySem.W.findIn K (.ref C) f = some none)
theorem noB_ok {K : PySem.W.Frag} {C : Addr} {fs : List Str} (h : noB K C fs = true) {f : Str} (hf : f ∈ fs) : NoAttr K C f := by
  have := List.all_eq_true.mp h f hf
  have e : PySem.W.findIn K (.ref C) f = some none := by simpa using this
  exact e
def ktT (sup : List (List Tg)) (bs : List String) : KT := fun a b => match a, b with
  | .b x, .b y => ktB (.b x) (.b y)
  | .b x, .o d => if x ∈ tys ∧ d < sup.length then some false else none
  | .o c, b => match sup[c]? with
    | some l => if (match b with | .b y => decide (y ∈ bs) | .o d => decide (d < sup.length)) = true then some (decide (b ∈ l)) else none
    | none => none
def ktChk (K : PySem.W.Frag) (CA : CAs) (sup : List (List Tg)) (bs : List String) : Bool :=
  (List.range sup.length).all fun c => (tys.all fun x => decide (PySem.W.kitOne K (.type x) (.ref (CA c)) = some false)) && ((bs.all fun y => decide (PySem.W.kitOne K (.ref (CA c)) (.type y) = some (decide (Tg.b y ∈ sup.getD c [])))) &&
    (List.range sup.length).all fun d => decide (PySem.W.kitOne K (.ref (CA c)) (.ref (CA d)) = some (decide (Tg.o d ∈ sup.getD c []))))
theorem ktT_ok {K : PySem.W.Frag} {CA : CAs} {sup : List (List Tg)} {bs : List String} {own : List Nat} (h : ktChk K CA sup bs = true) (hc : ∀ c, c ∈ own → ClsOk K (CA c)) : KtOk K CA own (ktT sup bs) := by
  have look : ∀ c, c < sup.length → (tys.all fun x => decide (PySem.W.kitOne K (.type x) (.ref (CA c)) = some false)) = true ∧ (bs.all fun y => decide (PySem.W.kitOne K (.ref (CA c)) (.type y) = some (decide (Tg.b y ∈ sup.getD c [])))) = true ∧
      (List.range sup.length).all (fun d => decide (PySem.W.kitOne K (.ref (CA c)) (.ref (CA d)) = some (decide (Tg.o d ∈ sup.getD c [])))) = true := fun c lt => by
    have := List.all_eq_true.mp h c (List.mem_range.mpr lt)
    rw [Bool.and_eq_true, Bool.and_eq_true] at this
    exact ⟨this.1, this.2.1, this.2.2⟩
  refine ⟨fun a b r e => ?_, fun c hm => ⟨(hc c hm).cl, (hc c hm).i1, (hc c hm).i2, (hc c hm).i3, (hc c hm).i4⟩⟩
  cases a with
  | b x =>
    cases b with
    | b y => exact (ktB_ok (K := K) (CA := CA)).one _ _ r e
    | o d =>
      simp only [ktT] at e
      by_cases q : x ∈ tys ∧ d < sup.length
      · rw [if_pos q] at e
        cases e
        exact of_decide_eq_true (List.all_eq_true.mp (look d q.2).1 x q.1)
      · rw [if_neg q] at e; cases e
  | o c =>
    simp only [ktT] at e
    split at e
    · rename_i l el
      have lt : c < sup.length := (List.getElem?_eq_some_iff.mp el).1
      have gl : sup.getD c [] = l := by rw [List.getD_eq_getElem?_getD, el]; rfl
      have lk := look c lt
      rw [gl] at lk
      cases b with
      | b y =>
        by_cases q : y ∈ bs
        · simp only [q, decide_true, if_true] at e
          cases e
          exact of_decide_eq_true (List.all_eq_true.mp lk.2.1 y q)
        · simp [q] at e
      | o d =>
        by_cases q : d < sup.length
        · simp only [q, decide_true, if_true] at e
          cases e
          exact of_decide_eq_true (List.all_eq_true.mp lk.2.2 d (List.mem_range.mpr q))
        · simp [q] at e
    · cases e
section
variable {P : Program} {w : World} {K : PySem.W.Frag} {mg : Str → Option Value} {base : Heap} {CA : CAs} {c0 k : Nat} {ps : List Str} {F : FD} {f p : Addr} {fd : FuncData} {nm nmf qual : Str} {st : Stmt}
theorem Df.of {g : Bool} (T : Fun K nmf qual st f fd) (G : FnG P w K mg base g k f fd ps (spD K CA ps.length F)) (hm : mg nm = some (.ref f)) : Df P w K mg base CA nm g k ps F f fd := ⟨G, hm, T.kp⟩
theorem Mtd.of {g : Bool} (T : Fun K nmf qual st f fd) (G : FnG P w K mg base g k f fd ps (spD K CA ps.length F)) (cl : ClsOk K (CA c0)) (hm : PySem.W.findIn K (.ref (CA c0)) nm = some (some (.ref f))) (hf : PySem.W.isFn K (.ref f) = true) : Mtd P w K mg base CA c0 nm g k ps F f fd :=
  ⟨G, cl.cl, ⟨hm, hf, T.kp⟩⟩
theorem Mkd.of (T : Fun K nmf qual st f fd) (G : FnG P w K mg base false k f fd ps (spD K CA ps.length F)) (hm : mg nm = some (.ref (CA c0))) (hi : PySem.W.findIn K (.ref (CA c0)) "__init__" = some (some (.ref f))) (hf : PySem.W.isFn K (.ref f) = true) (mk : PySem.W.makesIn K (CA c0) = true) (kp : PySem.W.keepIn K (.ref (CA c0)) = true) :
    Mkd P w K mg base CA c0 nm k ps F f fd := ⟨G, hm, ⟨mk, hi, hf, kp⟩⟩
theorem Prd.of {rest : List Value} (T : Fun K nmf qual st f fd) (G : FnOk P w K mg base L2.CX0 k f fd ps (spD K CA 1 (noxF F))) (cl : ClsOk K (CA c0)) (h1 : PySem.W.findIn K (.ref (CA c0)) nm = some (some (.ref p))) (h2 : PySem.W.specialIn K (.ref p) "__get__" = some (some (.builtin "property.__get__"))) (h3 : PySem.W.takesIn K (.ref p) = some true)
    (h4 : PySem.W.recIn K p "property" = some (.ref f :: rest)) (b : ∀ (kV doc pm : Value) (an : Option Addr) (cdv ct : Value) (us : List Value), us.length = ps.length → bindArgs (PySem.W.fnOf nmf qual (defArgs st) (defBody st) (defScope st) .none kV doc pm an cdv ct) ⟨us, []⟩ = pure (ps.zip us)) :
    Prd P w K mg base CA c0 nm k ps F := ⟨⟨p, f, fd, G, ⟨h1, h2, h3, rest, h4⟩, T.binds b⟩, cl.cl⟩
def nfB (K : PySem.W.Frag) (CA : CAs) (c0 : Nat) (ts : List Tg) : Bool := ts.all fun t => PySem.W.notFirst K (CA c0) (t.v CA)
theorem OwnE.of {ts : List Tg} (T : Fun K nmf qual st f fd) (G : FnG P w K mg base false k f fd ps (spD K CA ps.length F)) (hl : ps.length = 2) (cl : ClsOk K (CA c0)) (hm : PySem.W.findIn K (.ref (CA c0)) "__eq__" = some (some (.ref f))) (hf : PySem.W.isFn K (.ref f) = true)
    (hn : PySem.W.findIn K (.ref (CA c0)) "__ne__" = some (some (.builtin "object.__ne__"))) (hc : nfB K CA c0 ts = true) (b : ∀ (kV doc pm : Value) (an : Option Addr) (cdv ct : Value) (us : List Value), us.length = ps.length → bindArgs (PySem.W.fnOf nmf qual (defArgs st) (defBody st) (defScope st) .none kV doc pm an cdv ct) ⟨us, []⟩ = pure (ps.zip us)) :
    OwnE P w K mg base CA c0 (fun t => decide (t ∈ ts)) k ps F f fd :=
  ⟨by rw [← hl]; exact G, hm, hn, hf, cl.i4, fun t ht => List.all_eq_true.mp hc t (of_decide_eq_true ht), T.binds b⟩
end
end CM
namespace CM
open PySem PySem.Spec PyProof.Rows L2
end CM
namespace CM
open PySem PySem.Spec PyProof.Rows L2
mutual
inductive DpD (K : PySem.W.Frag) (H : Hp) : V → PyData → Prop
  | non : DpD K H .non .none
  | bl (b : Bool) : DpD K H (.bl b) (.bool b)
  | int (i : Int) : DpD K H (.int i) (.int i)
  | str (x : Str) : DpD K H (.str x) (.str x)
  | lst {a : Addr} {xs : List V} {ds : List PyData} : SqL K H a xs → DpDs K H xs ds → DpD K H (.ref a) (.list ds)
  | tup {a : Addr} {xs : List V} {ds : List PyData} : SqT K H a xs → DpDs K H xs ds → DpD K H (.ref a) (.tuple ds)
  | dct {a : Addr} {kvs : List (Key × V)} {ks ds : List PyData} : Rd H a (.dK kvs) → ks = kvs.map (fun p => match p.1 with | .inl i => PyData.int i | .inr x => PyData.str x) → DpDs K H (kvs.map (·.2)) ds → DpD K H (.ref a) (.dict (ks.zip ds))
inductive DpDs (K : PySem.W.Frag) (H : Hp) : List V → List PyData → Prop
  | nil : DpDs K H [] []
  | cons {v : V} {vs : List V} {d : PyData} {ds : List PyData} : DpD K H v d → DpDs K H vs ds → DpDs K H (v :: vs) (d :: ds)
end
def keyP : Key → PyData
  | .inl i => .int i
  | .inr x => .str x
section
variable {X : Cx} {pins : List (Addr × Obj)} {σ : L2.St} {H : Hp} {s : Shared}
theorem DpDs.length {K : PySem.W.Frag} {vs : List V} {ds : List PyData} (r : DpDs K H vs ds) : vs.length = ds.length := by
  induction vs generalizing ds with
  | nil => cases r; rfl
  | cons v vs ih => cases r with
    | cons _ h => simp [ih h]
theorem keys_reads {P : Program} {w : World} {h : Heap} : ∀ {kvs : List (Key × Value)} {es : List DictEntry}, Pairs (mixKind P w) es kvs → ReadsAll h (es.map (·.key)) (kvs.map fun p => keyP p.1) []
  | [], _, r => by cases r; exact .nil
  | (k, v) :: kvs, _, r => by
    cases r with
    | @cons e _ es _ h1 h2 h3 =>
      have ih := keys_reads (h := h) h3
      have hk : Reads h e.key (keyP k) [] := by
        have h1' : keyIs k e.key = true := h1
        rcases keyIs_shape h1' with ⟨i, t, rfl, q⟩ | ⟨x, t, rfl, q⟩
        · rw [q]; exact .int i t
        · rw [q]; exact .str x t
      exact ReadsAll.cons (as := []) (bs := []) hk ih
theorem vals_pairs {P : Program} {w : World} : ∀ {kvs : List (Key × V)} {vs : List (Key × Value)} {es : List DictEntry}, KV kvs vs → Pairs (mixKind P w) es vs → Vals (kvs.map (·.2)) (es.map (·.val)) ∧ kvs.map (·.1) = vs.map (·.1)
  | [], _, _, r, p => by cases r; cases p; exact ⟨.nil, rfl⟩
  | kv :: kvs, _, _, r, p => by
    cases r with
    | cons a r =>
      cases p with
      | cons h1 h2 h3 =>
        obtain ⟨q1, q2⟩ := vals_pairs r h3
        have hv : L2.RelV kv.2 _ := a.2
        rw [← h2] at hv
        exact ⟨.cons hv q1, by simp only [List.map_cons, q2, a.1]⟩
/-- where a list or a tuple stands, the modules' dict does not -/
theorem sm_ne (I : Inv X pins σ H s) (sm : SM X.base) {a : Addr} {o : Obj} {vs : Array Value} {n : Nat} (e : s.heap.get? a = some o) (d : o.data = .seq vs n) : a ≠ sysModules := fun z => by
  obtain ⟨o', es, ep, e', d'⟩ := sm
  have e2 := I.bk _ _ e'
  rw [← z, e] at e2
  cases e2
  rw [d] at d'
  cases d'
mutual
theorem DpD.reads (I : Inv X pins σ H s) (sm : SM X.base) : ∀ (d : PyData) (v : V) (u : Value), DpD X.K H v d → RelV v u → ∃ as, Reads s.heap u d as ∧ sysModules ∉ as
  | .none, _, _, h, r => by cases h; cases r; exact ⟨_, Reads.none, by simp⟩
  | .bool b, _, _, h, r => by cases h; cases r; exact ⟨_, Reads.bool b, by simp⟩
  | .int i, _, _, h, r => by cases h; obtain ⟨t, rfl⟩ := r; exact ⟨_, Reads.int i t, by simp⟩
  | .str x, _, _, h, r => by cases h; obtain ⟨t, rfl⟩ := r; exact ⟨_, Reads.str x t, by simp⟩
  | .list ds, _, _, h, r => by
    cases h with
    | lst hs ha =>
      cases r
      obtain ⟨its, rv, ⟨o, n, ho, hc, _, hd⟩, _⟩ := I.list hs
      obtain ⟨as, hr, na⟩ := DpDs.reads I sm ds _ its ha rv
      refine ⟨_, Reads.list ho hc hd hr, fun z => ?_⟩
      rcases List.mem_cons.mp z with z | z
      · exact sm_ne I sm ho hd z.symm
      · exact na z
  | .tuple ds, _, _, h, r => by
    cases h with
    | tup hs ha =>
      cases r
      obtain ⟨its, rv, ⟨o, ho, hc, n, hd⟩, _⟩ := I.tuple hs
      obtain ⟨as, hr, na⟩ := DpDs.reads I sm ds _ its ha rv
      exact ⟨_, Reads.tuple ho hc hd hr, na⟩
  | .dict kvs0, _, _, h, r => by
    cases h with
    | @dct a kvs ks ds hr ek ha =>
      cases r
      obtain ⟨z, lo, vs, rel, o, es, ep, ho, hx, hd, _, pr, _⟩ := dk_rd I.hok hr
      obtain ⟨q1, q2⟩ := vals_pairs rel pr
      have kr := keys_reads (h := s.heap) pr
      have ll := ha.length
      have ek2 : ks = vs.map fun p => keyP p.1 := by
        rw [ek]
        have : (fun p : Key × V => (match p.1 with | .inl i => PyData.int i | .inr x => PyData.str x)) = fun p => keyP p.1 := by
          funext p
          obtain ⟨k, v⟩ := p
          cases k <;> rfl
        rw [this]
        have e3 : (kvs.map (·.1)).map keyP = (vs.map (·.1)).map keyP := by rw [q2]
        rw [List.map_map, List.map_map] at e3
        exact e3
      have lk : ks.length = ds.length := by rw [ek, List.length_map, ← ll, List.length_map]
      have m1 : (ks.zip ds).map (·.1) = ks := by rw [List.map_fst_zip]; omega
      have m2 : (ks.zip ds).map (·.2) = ds := by rw [List.map_snd_zip]; omega
      have sz : ∀ p ∈ ks.zip ds, p.2 ∈ ds := fun p hp => (List.of_mem_zip hp).2
      obtain ⟨as, hr2, na⟩ := DpDs.readsZ I sm (ks.zip ds) ds _ _ m2 ha q1
      refine ⟨_, Reads.dict ho hx.1 hd (by rw [m1, ek2]; exact kr) (by rw [m2]; exact hr2), fun z => ?_⟩
      simp only [List.append_nil, List.cons_append, List.mem_cons, List.nil_append] at z
      rcases z with z | z
      · rw [z] at lo; simp at lo
      · exact na z
theorem DpDs.reads (I : Inv X pins σ H s) (sm : SM X.base) : ∀ (ds : List PyData) (vs : List V) (us : List Value), DpDs X.K H vs ds → Vals vs us → ∃ as, ReadsAll s.heap us ds as ∧ sysModules ∉ as
  | [], _, _, h, r => by cases h; cases r; exact ⟨_, ReadsAll.nil, by simp⟩
  | d :: ds, _, _, h, r => by
    cases h with
    | cons h1 h2 =>
      cases r with
      | cons r1 r2 =>
        obtain ⟨as, q1, n1⟩ := DpD.reads I sm d _ _ h1 r1
        obtain ⟨bs, q2, n2⟩ := DpDs.reads I sm ds _ _ h2 r2
        exact ⟨_, ReadsAll.cons q1 q2, by simp [n1, n2]⟩
theorem DpDs.readsZ (I : Inv X pins σ H s) (sm : SM X.base) : ∀ (zs : List (PyData × PyData)) (ds : List PyData) (vs : List V) (us : List Value), zs.map (·.2) = ds → DpDs X.K H vs ds → Vals vs us → ∃ as, ReadsAll s.heap us ds as ∧ sysModules ∉ as
  | [], _, _, _, e, h, r => by subst e; cases h; cases r; exact ⟨_, ReadsAll.nil, by simp⟩
  | (k, d) :: zs, _, _, _, e, h, r => by
    subst e
    cases h with
    | cons h1 h2 =>
      cases r with
      | cons r1 r2 =>
        obtain ⟨as, q1, n1⟩ := DpD.reads I sm d _ _ h1 r1
        obtain ⟨bs, q2, n2⟩ := DpDs.readsZ I sm zs _ _ _ rfl h2 r2
        exact ⟨_, ReadsAll.cons q1 q2, by simp [n1, n2]⟩
end
end
/-- as the library's data, dicts too -/
def toQ (h : CH) : Nat → D → Option PyData
  | 0, _ => none
  | n + 1, d => match d with
    | .non => some .none
    | .bl b => some (.bool b)
    | .int i => some (.int i)
    | .str x => some (.str x)
    | .lst xs => (xs.mapM (toQ h n)).map .list
    | .tup xs => (xs.mapM (toQ h n)).map .tuple
    | .dct kvs => ((kvs.map (·.2)).mapM (toQ h n)).map fun ds => .dict ((kvs.map fun p => keyP p.1).zip ds)
    | .ref k => match h.ob k with
      | some (.lst xs) => (xs.mapM (toQ h n)).map .list
      | some (.dct kvs) => ((kvs.map (·.2)).mapM (toQ h n)).map fun ds => .dict ((kvs.map fun p => keyP p.1).zip ds)
      | _ => none
    | _ => none
section
variable {X : Cx} {K : PySem.W.Frag} {CA : CAs} {W : WX} {m : Mp} {h : CH} {H : Hp}
theorem rp_dpq_of {f : D → Option PyData} (ih : ∀ (d : D) (v : V) (p : PyData), Rp K CA m h H v d → f d = some p → DpD K H v p) : ∀ (ds : List D) (vs : List V) (ps : List PyData), RpAll K CA m h H vs ds → ds.mapM f = some ps → DpDs K H vs ps
  | [], _, _, r, e => by cases r; simp at e; subst e; exact .nil
  | d :: ds, _, _, r, e => by
    cases r with
    | cons h1 h2 =>
      simp only [List.mapM_cons, Option.bind_eq_bind, Option.bind_eq_some_iff, Option.pure_def, Option.some.injEq] at e
      obtain ⟨p, e1, ps, e2, rfl⟩ := e
      exact .cons (ih d _ p h1 e1) (rp_dpq_of ih ds _ ps h2 e2)
theorem dct_dpq {n : Nat} {v : V} {d : D} {kvs : List (Key × D)} {p : PyData} (S : HR K CA m h H) (ih : ∀ (d : D) (v : V) (p : PyData), Rp K CA m h H v d → toQ h n d = some p → DpD K H v p) (r : Rp K CA m h H v d) (ed : dctOf h d = some kvs)
    (e : ((kvs.map (·.2)).mapM (toQ h n)).map (fun ds => PyData.dict ((kvs.map fun p => keyP p.1).zip ds)) = some p) : DpD K H v p := by
  simp only [Option.map_eq_some_iff] at e
  obtain ⟨ps, e1, rfl⟩ := e
  obtain ⟨a, o, hk, rfl, ea, ec, en, r2⟩ := rp_dct S r ed
  have hrd : Rd H a (.dK hk) := by
    rcases core_dK ec with rfl | ⟨ob, rfl⟩
    · exact .inl ea
    · exact .inr ⟨ob, ea⟩
  refine .dct hrd ?_ (rp_dpq_of ih _ _ ps r2 e1)
  have e3 : (kvs.map (·.1)).map keyP = (hk.map (·.1)).map keyP := by rw [en]
  have this : (fun p : Key × V => (match p.1 with | .inl i => PyData.int i | .inr x => PyData.str x)) = fun p => keyP p.1 := by
    funext p
    obtain ⟨k, v⟩ := p
    cases k <;> rfl
  rw [this]
  rw [List.map_map, List.map_map] at e3
  exact e3
theorem rp_dpq (S : HR K CA m h H) : ∀ (n : Nat) (d : D) (v : V) (p : PyData), Rp K CA m h H v d → toQ h n d = some p → DpD K H v p
  | 0, d, _, _, _, e => by cases d <;> cases e
  | n + 1, .non, _, _, r, e => by cases r; simp only [toQ, Option.some.injEq] at e; subst e; exact .non
  | n + 1, .bl b, _, _, r, e => by cases r; simp only [toQ, Option.some.injEq] at e; subst e; exact .bl b
  | n + 1, .int b, _, _, r, e => by cases r; simp only [toQ, Option.some.injEq] at e; subst e; exact .int b
  | n + 1, .str b, _, _, r, e => by cases r; simp only [toQ, Option.some.injEq] at e; subst e; exact .str b
  | n + 1, .lst ds, _, _, r, e => by
    simp only [toQ, Option.map_eq_some_iff] at e
    obtain ⟨ps, e1, rfl⟩ := e
    obtain ⟨a, xs, rfl, e2, r2⟩ := rp_lst S r rfl
    exact .lst (.of e2) (rp_dpq_of (rp_dpq S n) ds xs ps r2 e1)
  | n + 1, .tup ds, _, _, r, e => by
    simp only [toQ, Option.map_eq_some_iff] at e
    obtain ⟨ps, e1, rfl⟩ := e
    obtain ⟨a, xs, rfl, e2, r2⟩ := rp_tup r
    exact .tup e2 (rp_dpq_of (rp_dpq S n) ds xs ps r2 e1)
  | n + 1, .dct kvs, v, p, r, e => dct_dpq S (rp_dpq S n) r rfl (by simpa only [toQ] using e)
  | n + 1, .ref k, v, p, r, e => by
    simp only [toQ] at e
    split at e
    · rename_i ds q
      simp only [Option.map_eq_some_iff] at e
      obtain ⟨ps, e1, rfl⟩ := e
      obtain ⟨a, xs, rfl, e2, r2⟩ := rp_lst S r (show lstOf h (.ref k) = some ds by simp only [lstOf, q])
      exact .lst (.of e2) (rp_dpq_of (rp_dpq S n) ds xs ps r2 e1)
    · rename_i kvs q
      exact dct_dpq S (rp_dpq S n) r (show dctOf h (.ref k) = some kvs by simp only [dctOf, q]) e
    · cases e
  | n + 1, .obj _ _, _, _, _, e => by simp [toQ] at e
  | n + 1, .scr _, _, _, _, e => by simp [toQ] at e
  | n + 1, .ty _, _, _, _, e => by simp [toQ] at e
  | n + 1, .cls _, _, _, _, e => by simp [toQ] at e
  | n + 1, .exc _ _, _, _, _, e => by simp [toQ] at e
def boxed (h : CH) (d : D) : Bool := (seqOf h d).isSome || (dctOf h d).isSome
def fRep : FD := fun ds h => match ds with
  | [.int i] => if i.natAbs.log2 < 1920 then .ok (.str (toString i)) h else .no
  | [d] => match toQ h 14 d with
    | some p => if boxed h d = true ∧ p.showable = true ∧ p.depth ≤ 60 ∧ p.shown.length ≤ sizeLine then .ok (.str p.shown) h else .no
    | none => .no
  | _ => .no
def rRep (K : PySem.W.Frag) : List V → Hp → VK → Prop := fun xs H Q => (∃ i, xs = [.int i] ∧ i.natAbs.log2 < 1920 ∧ Q (.str (toString i)) H) ∨
  ∃ a p, xs = [V.ref a] ∧ DpD K H (V.ref a) p ∧ p.showable = true ∧ p.depth ≤ 60 ∧ p.shown.length ≤ sizeLine ∧ Q (.str p.shown) H
theorem call_rep (sm : SM X.base) (hG : X.A.guards = some []) (hu : X.A.units + 64 < cLine) (hK : X.K = K := by rfl) : CallR X (.builtin "repr") (rRep K) := by
  subst hK
  rintro pins s σ H xs us Q I r (⟨i, rfl, l, q⟩ | ⟨a, p, rfl, dp, sh, dep, sz, q⟩)
  · exact SkE.call_repr_int pins s σ H _ us Q I r ⟨i, rfl, l, q⟩
  · obtain ⟨u, rfl, rx⟩ := vals1 r
    cases (show u = Value.ref a from rx)
    obtain ⟨as, rd, na⟩ := DpD.reads I sm p (V.ref a) _ dp rfl
    exact repr_of_reads' rd sh (fun _ => na) hG (by omega) (fun _ _ e => e) (fun h' u tk hk => ⟨.str p.shown, H, I.kept hk, ⟨u, rfl⟩, q⟩) sz
theorem sim_rep : SimC K CA (rRep K) fRep := by
  intro W σ m h H xs ds Q' S r t
  unfold fRep at t
  split at t
  · cases r with
    | cons r1 r2 =>
      cases r1
      cases r2
      obtain ⟨c, t⟩ := post_ite t
      exact .inl ⟨_, rfl, c, t.here S (.str _)⟩
  · rename_i d _
    split at t
    · rename_i p e2
      obtain ⟨⟨c0, c1, c2, c3⟩, t⟩ := post_ite t
      cases r with
      | cons r1 r2 =>
        cases r2
        unfold boxed at c0
        cases e1 : seqOf h d with
        | some ys =>
          obtain ⟨a, zs, rfl, _, _⟩ := rp_seq S r1 e1
          exact .inr ⟨a, p, rfl, rp_dpq S _ _ _ p r1 e2, c1, c2, c3, t.here S (.str _)⟩
        | none =>
          rw [e1] at c0
          cases e3 : dctOf h d with
          | none => rw [e3] at c0; simp at c0
          | some kvs =>
            obtain ⟨a, o, hk, rfl, _⟩ := rp_dct S r1 e3
            exact .inr ⟨a, p, rfl, rp_dpq S _ _ _ p r1 e2, c1, c2, c3, t.here S (.str _)⟩
    · exact t.elim
  · exact t.elim
end
end CM
namespace CM
open PySem PySem.Spec PySem.Calls PyProof.Rows L2
/-- an exception's __init__, as it is written -/
abbrev iniBody (txt fl arg : Str) (j : Nat) (p0 p1 p2 p3 p4 p5 q0 q1 q2 q3 : Pos) : List Stmt :=
  [.Expr (.Call (.Attribute (.Call (.Name "super" p0) [] [] p1) "__init__" p2) [.Constant (.str txt) j p3] [] p4) p5, .Assign [.Attribute (.Name "self" q0) fl q1] (.Name arg q2) q3]
/-- super().__init__(txt) is carried out as a method's call -/
def IniEv (txt : Str) (j : Nat) (p0 p1 p2 p3 p4 : Pos) (env : Env) (pl : Sem Bool) : Prop :=
  eval (.Call (.Attribute (.Call (.Name "super" p0) [] [] p1) "__init__" p2) [.Constant (.str txt) j p3] [] p4) env = (do
      let ov ← attributeBase (.Call (.Name "super" p0) [] [] p1) "__init__" env (eval (.Call (.Name "super" p0) [] [] p1) env)
      standAt p2.atName
      let (f, first) ← holding [ov] (getMethod ov "__init__" pl)
      callWith p4 f first (backTo p4 (starEach [.Constant (.str txt) j p3] env)) [])
/-- what its names are -/
def iniScB (arg : Str) (sc : Scope) : Bool :=
  decide (sc.kind = .function) && (!sc.isCoroutine && (!sc.isGenerator && (decide (sc.names.lookup ("super" : Str) = some .globalImplicit) && (decide (sc.names.lookup ("__class__" : Str) = some .free) &&
  (decide (sc.names.lookup ("self" : Str) = some .local) && (decide (sc.names.lookup arg = some .local) && (decide (("self" : Str) ≠ arg) && (decide (arg ≠ ("__debug__" : Str)) && (!(arg == ("__classdict__" : Str)) && sc.names.all fun y => !decide (y.2 = .cell) && (!decide (y.2 = .free) || decide (y.1 = ("__class__" : Str))))))))))))
structure IniSc (arg : Str) (sc : Scope) : Prop where
  kind : sc.kind = .function
  co : sc.isCoroutine = false
  gen : sc.isGenerator = false
  su : sc.names.lookup ("super" : Str) = some .globalImplicit
  cl : sc.names.lookup ("__class__" : Str) = some .free
  se : sc.names.lookup ("self" : Str) = some .local
  ar : sc.names.lookup arg = some .local
  ne : ("self" : Str) ≠ arg
  db : arg ≠ ("__debug__" : Str)
  dcd : (arg == ("__classdict__" : Str)) = false
  nc : ∀ y ∈ sc.names, y.2 ≠ .cell
  fr : ∀ y ∈ sc.names, y.2 = .free → y.1 = ("__class__" : Str)
theorem iniSc_by {arg : Str} {sc : Scope} (h : iniScB arg sc = true) : IniSc arg sc := by
  unfold iniScB at h
  simp only [Bool.and_eq_true, Bool.or_eq_true, Bool.not_eq_true', decide_eq_true_eq, decide_eq_false_iff_not, List.all_eq_true] at h
  obtain ⟨h1, h2, h3, h4, h5, h6, h7, h8, h9, h9b, h10⟩ := h
  exact ⟨h1, h2, h3, h4, h5, h6, h7, h8, h9, h9b, fun y hy => (h10 y hy).1, fun y hy e => (h10 y hy).2.resolve_left fun z => z e⟩
/-- what the written part says of the class at C and its __init__ at f -/
structure IniOk (P : Program) (K : PySem.W.Frag) (mg : Str → Option Value) (C f : Addr) (fl arg : Str) (fd : FuncData) : Prop where
  ox : OexC K C
  sup : PySem.W.ks_superIn K C C "__init__" = some (some (.builtin "ValueError.__init__"))
  ve : PySem.W.subIn K (.ref C) (.type "ValueError") = some true
  sc : PySem.W.mroIn K C (.ref C) = some true
  op : PySem.W.nsIn K cStatics "thirdparty.any" = some none
  no : PySem.W.findIn K (.ref C) fl = some none
  su : mg "super" = none
  tp : (P.main.scope.names.lookup ("super" : Str)).isSome = false
  bd : ∀ (s : Shared) (u v : Value), BindsTo s fd ⟨[u, v], []⟩ [("self", u), (arg, v)] ∧ BindsTo s fd ⟨[u], [(arg, v)]⟩ [("self", u), (arg, v)]
  fn : ∃ (qual txt : Str) (j : Nat) (p0 p1 p2 p3 p4 p5 q0 q1 q2 q3 : Pos) (params : Arguments) (scope : Scope) (dV kV doc pm ct oc : Value) (an od : Option Addr) (osl : Array (Option Value)) (cda cc : Addr),
    fd = PySem.W.ksFn "__init__" qual params (iniBody txt fl arg j p0 p1 p2 p3 p4 p5 q0 q1 q2 q3) scope dV kV doc pm an (.ref cda) ct cc ∧ K.lookup f = some ⟨oc, od, .func fd, osl⟩ ∧ PySem.W.codeIn K (.ref cda) qual = true ∧ IniSc arg scope ∧
    (∃ ar, (params.posonlyargs ++ params.args).head? = some ar ∧ ar.arg = ("self" : Str)) ∧ (∃ ccl cdd cvs ccs file tf, K.lookup cda = some ⟨ccl, cdd, .fields cvs, ccs⟩ ∧ cvs[2]? = some (.str file tf) ∧ ((P.main.file : Str) == file) = true) ∧
    (∃ cl cld csl, K.lookup cc = some ⟨cl, cld, .cell (some (.ref C)), csl⟩) ∧ (∀ env : Env, ∃ pl : Sem Bool, IniEv txt j p0 p1 p2 p3 p4 env pl)
def iniCx (P : Program) (w : World) (K : PySem.W.Frag) (mg : Str → Option Value) (base : Heap) (arg qual : Str) (scope : Scope) (f : Addr) (cdv : Value) (cc : Addr) (A : Around) (outer : List Env) (s : Shared) (H : Hp) : Cx where
  prog := P
  w := w
  K := K
  mg := mg
  base := base
  A := A.deeper (PySem.W.ksEnv qual scope s.heap.objs.size f cdv cc)
  N := ["self", arg]
  s_0 := s
  H_0 := H
  env := PySem.W.ksEnv qual scope s.heap.objs.size f cdv cc
  outer := outer
  stack := PySem.W.ksEnv qual scope s.heap.objs.size f cdv cc :: outer
  ex := []
  fn := fun _ => false
  calm := true
  pn := []
  xe := fun _ _ => False
section
variable {P : Program} {w : World} {K : PySem.W.Frag} {mg : Str → Option Value} {base : Heap} {arg qual : Str} {scope : Scope} {f cc C a : Addr} {cdv : Value} {A : Around} {outer : List Env} {s : Shared} {H : Hp} {v : V} {u : Value} {h₁ : Heap} {tk : Nat}
theorem ini_inv (S : IniSc arg scope) (hd : A.handled = none) (e0 : Env0 P w K mg base A outer s H) (hns : h₁.Ns s.heap.objs.size fun y => ([("self", Value.ref a), (arg, u)] : List (Str × Value)).reverse.lookup y) (kp : ∀ b o, s.heap.get? b = some o → h₁.get? b = some o) (rv : RelV v u)
    (lc : ∃ cl cld csl, K.lookup cc = some ⟨cl, cld, .cell (some (.ref C)), csl⟩) : Inv (iniCx P w K mg base arg qual scope f cdv cc A outer s H) [] [some (.ref a), some v] H { s with heap := h₁, toks := tk } := by
  obtain ⟨cl, cld, csl, lc⟩ := lc
  have noA : ∀ b : Addr, b ∉ (iniCx P w K mg base arg qual scope f cdv cc A outer s H).ex := fun b z => absurd (show b ∈ ([] : List Addr) from z) (by simp)
  have lkC : ∀ {y : Str} {c : Addr}, ([("__class__", cc)] : List (Str × Addr)).lookup y = some c → y = "__class__" ∧ c = cc := fun {y c} e => by
    simp only [List.lookup] at e
    split at e
    · rename_i q
      exact ⟨by simpa using q, by cases e; rfl⟩
    · cases e
  have cb := e0.bs _ _ (e0.mod.kin _ _ lc)
  refine ⟨⟨e0.mod, S.kind, rfl, rfl, Nat.le_refl _, fun y z c e1 e2 => ?_, fun y hy => ?_, fun y c z _ => (nomatch (show false = true from z)), fun _ => hd, Around.frames_deeper e0.frames, .inr ⟨rfl, rfl⟩, fun b z => absurd z (noA b), e0.bs, e0.bsz, fun b _ _ => noA b,
      fun b z => absurd z (noA b), e0.funs, e0.frf⟩,
    rfl, e0.bare, Un.kept kp, ⟨_, hns, fun i y x e1 e2 e3 => ?_⟩, fun y c e => ?_, e0.hok.fresh (Nat.le_refl _), fun y c e => ?_, fun q hq => absurd (show q ∈ ([] : List (Addr × Obj)) ++ [] from hq) (by simp), e0.hok.kept kp, rfl⟩
  · exact (lkC e1).1.trans (lkC e2).1.symm
  · have hy : scope.names.lookup y = some .cell ∨ scope.names.lookup y = some .free := hy
    rcases hy with hy | hy
    · exact absurd rfl (S.nc _ (PySem.mem_of_lookup hy))
    · have := S.fr _ (PySem.mem_of_lookup hy) rfl
      subst this
      exact ⟨cc, by simp [PySem.W.ksEnv, iniCx]⟩
  · match i, e1, e2 with
    | 0, e1, e2 =>
      cases e1
      cases e2
      refine ⟨.ref a, rfl, .inl ⟨S.se, ?_⟩⟩
      have nb : (("self" : Str) == arg) = false := by simpa using S.ne
      simp [List.lookup, nb]
    | 1, e1, e2 =>
      cases e1
      cases e2
      refine ⟨u, rv, .inl ⟨S.ar, ?_⟩⟩
      simp [List.lookup]
    | (i + 2), e1, e2 => exact absurd (show (([] : List (Option V))[i]? = some (some x)) from e2) (by simp)
  · obtain ⟨_, rfl⟩ := lkC e
    exact ⟨_, _, kp _ _ cb.1, rfl⟩
  · obtain ⟨_, rfl⟩ := lkC e
    exact cb.2
end
def spIni (C : Addr) (fl : Str) : Sp := fun vs H Q _ => ∃ a v, vs = [.ref a, v] ∧ H a = some (exo a C none) ∧ ∀ dx, H dx = none → dx ≠ a → Q .non (upd (upd H dx (exd dx [(fl, v)])) a (exo a C (some dx)))
section
variable {P : Program} {w : World} {K : PySem.W.Frag} {mg : Str → Option Value} {base : Heap} {C f : Addr} {fl arg : Str} {fd : FuncData} {CX : CXT}
set_option maxHeartbeats 8000000 in
theorem ini_ok (IO : IniOk P K mg C f fl arg fd) : FnOk P w K mg base CX 1 f fd ["self", arg] (spIni C fl) := by
  obtain ⟨ox, sup, ve, sc, op, no, su, tp, bd, qual, txt, j, p0, p1, p2, p3, p4, p5, q0, q1, q2, q3, params, scope, dV, kV, doc, pm, ct, oc, an, od, osl, cda, cc, rfl, lk, hcd, S, ⟨ar, har, hself⟩, ⟨ccl, cdd, cvs, ccs, file, tf, lkc, cv2, hfile⟩, lc, hev⟩ := IO
  refine ⟨fun vs H Q E ⟨a, v, e, _⟩ => by rw [e]; rfl, fun A outer s H args us vs Q E hr e0 hb r hsp => ?_⟩
  obtain ⟨a, v, rfl, ha, q⟩ := hsp
  cases r with
  | @cons _ u0 _ ur ra r1 =>
  obtain rfl : u0 = Value.ref a := ra
  cases r1 with
  | @cons _ u _ ur2 rv r2 =>
  cases r2
  have KX : K.In s.heap := e0.mod.kin.keeps fun b o e => (e0.bs b o e).1
  have lim : s.heap.NoLimit := e0.mod.nolimit.keeps fun b o e => (e0.bs b o e).1
  refine ks_codeAny_call_defAt (fd := PySem.W.ksFn "__init__" qual params (iniBody txt fl arg j p0 p1 p2 p3 p4 p5 q0 q1 q2 q3) scope dV kV doc pm an (.ref cda) ct cc) (binds := [("self", .ref a), (arg, u)]) hr.depth (KX _ _ lk) rfl lim (PySem.W.codeRec_of KX hcd) rfl hb
    S.nc (fun x hx => ?_) (fun h₁ hns hk => ?_) S.co S.gen S.kind
  · rcases List.mem_cons.mp hx with rfl | hx
    · exact S.se
    · rcases List.mem_cons.mp hx with rfl | hx
      · exact S.ar
      · exact absurd hx (by simp)
  have I : Inv (iniCx P w K mg base arg qual scope f (.ref cda) cc A outer s H) [] [some (.ref a), some v] H { s with heap := h₁, toks := s.toks + 2 } := ini_inv S hr.hd e0 hns hk rv lc
  have hsm : (fun y => ([("self", Value.ref a), (arg, u)] : List (Str × Value)).reverse.lookup y) ar.arg = some (.ref a) := by
    have nb : (("self" : Str) == arg) = false := by simpa using S.ne
    rw [hself]
    simp [List.lookup, nb]
  obtain ⟨cl, cld, csl, lc⟩ := lc
  obtain ⟨nm, qq, N, bs, bm, sn, sub, ab, col, dd, k0, k1, k2, k3, k5, hC, hbm⟩ := id ox.cls
  have hcl : PySem.W.clsIn K C = some { name := nm, bases := bs, mro := .ref C :: bm, ns := N, qualname := qq, hasDict := true, slotNames := sn, subclasses := sub, abstract := ab, collection := col, hasDel := false } := by unfold PySem.W.clsIn; rw [hC] <;> rfl
  unfold PySem.W.ks_superIn at sup
  rw [hcl] at sup
  have KI := I.kIn
  have GL : h₁.Ns mainGlobals mg := I.mod.glob.keeps I.bk
  obtain ⟨mb, hb1, hb2⟩ := I.mod.blt
  have BL : h₁.Ns builtinsNs mb := hb1.keeps I.bk
  obtain ⟨t1, hoa⟩ := exo_at I.hok ha
  refine ks_wpAt_mono (Q := fun fw s' => fw = .next ∧ CE outer P w H s Q .none s') (E := fun _ _ => False) ?_ (fun fw s' ⟨e, h⟩ => by subst e; exact h) (fun _ _ z => z.elim)
  obtain ⟨pl, hev⟩ := hev (PySem.W.ksEnv qual scope s.heap.objs.size f (.ref cda) cc)
  refine ks_wpAt_execs_cons (ks_wpAt_Expr_any (ks_wpAt_MethodCall ?_ hev) (by show (scope.kind == .module && _) = false; rw [S.kind]; rfl))
  refine ks_wpAt_super_base S.su S.cl (by decide) rfl (KI _ _ lk) rfl har rfl (KI _ _ lkc) rfl cv2 hfile tp ?_
  refine PySem.W.ks_loadName_global S.kind S.su (Calls.loadGlobal_builtin GL su BL ((hb2 _ (by decide)).trans PyProof.Rows.Boot.«super») ⟨rfl, ?_⟩)
  refine wpAny_loadName_free S.kind S.cl rfl ⟨_, KI _ _ lc, rfl⟩ ?_
  refine wpAny_loadName_local S.kind (hself ▸ S.se) hns hsm ?_
  refine ks_wpAny_isType_cls (KI _ _ hC) rfl ⟨rfl, ?_⟩
  refine ks_wpAny_call_super (KI _ _ hC) rfl hoa rfl (fun c e => by cases e) (PySem.W.looks_mroIn KI sc) (fun h2 so k => ?_)
  have I2 : Inv (iniCx P w K mg base arg qual scope f (.ref cda) cc A outer s H) [] [some (.ref a), some v] H { s with heap := h2, toks := s.toks + 2 } := I.un (Un.kept k) (I.hok.kept k)
  have KI2 := I2.kIn
  have IA : PySem.W.InstAt h2 a { cls := .ref C, dict := none, data := .fields #[.ref t1, .none, .none, .none, .bool false, .none] } C none := ⟨k _ _ hoa, rfl, rfl, trivial⟩
  refine PySem.W.kxs_getMethod PySem.W.kxs_ValueError so (PySem.W.looks_opaque KI2 op) (l₀ := .ref C :: bm) (fun A Q E s k q => wpAny_bind ((PySem.W.looks_clsIn KI2 hcl) A _ E s k (wpAny_pure q))) rfl KI2 sup (IA.type.andThen (PySem.W.looks_subIn KI2 ve)) (PySem.W.ks_ne KI2 IA hcl) (by decide) ?_
  have I3 : Inv (iniCx P w K mg base arg qual scope f (.ref cda) cc A outer s H) [(h2.objs.size, PySem.W.kxs_mw "ValueError.__init__" a)] [some (.ref a), some v] H { s with heap := h2.push (PySem.W.kxs_mw "ValueError.__init__" a), toks := s.toks + 3 } :=
    Inv.pins_of (pins := []) (I2.un (Un.kept fun b o e => Heap.get?_push_of_some _ e) (I2.hok.kept fun b o e => Heap.get?_push_of_some _ e)) fun p hp => by
      obtain rfl : p = _ := by simpa using hp
      exact ⟨Heap.get?_push_at rfl rfl, I2.hok.fresh (Nat.le_refl _), fun z => absurd I2.lt (by show ¬ _ < h2.objs.size; rw [show h2.objs.size = _ from z]; exact Nat.lt_irrefl _), I2.nofs (Nat.le_refl _), fun v z => by cases z⟩
  have ha3 : PA (iniCx P w K mg base arg qual scope f (.ref cda) cc A outer s H) [.Constant (.str txt) j p3] (tCons (tC (.str txt)) tNil) := pa_cons pe_str pa_nil
  refine PySem.W.kxs_callWith (i := "ValueError.__init__") (x := a) (by rfl) (evalArgs_plain (thn (ha3.run p4 [(h2.objs.size, PySem.W.kxs_mw "ValueError.__init__" a)] _ _ H (fun vs H1 => vs.length = 1 ∧ H1 = H) I3 ⟨rfl, rfl⟩) fun vs s1 hh => ?_))
  obtain ⟨vs1, H1, I4, r4, hl1, eH⟩ := hh
  subst eH
  have hl4 : vs.length ≤ sizeLine := by
    rw [← Paired.length r4, hl1, sizeLine_eq]
    omega
  obtain ⟨hu, _⟩ := I4.pin (h2.objs.size, PySem.W.kxs_mw "ValueError.__init__" a) (List.mem_append_right _ (List.mem_cons_self ..))
  obtain ⟨t4, ho4⟩ := exo_at I4.hok ha
  refine ⟨hu, ?_⟩
  obtain ⟨hp4, g4, d4, tk4, os4⟩ := s1
  refine wpAny_call (codeAny_of_tree ?_)
  show wpAny _ (Around.in1 _) (callAny (.ref h2.objs.size) ⟨[] ++ vs, []⟩) _ _ _
  simp only [callAny]
  refine wpAny_bind (wpAny_load hu ?_)
  simp only [PySem.W.kxs_mw, show (Value.type "method-wrapper" == Value.type "method" || Value.type "method-wrapper" == Value.type "builtin_function_or_method" || Value.type "method-wrapper" == Value.type "method-wrapper") = true by decide, if_true]
  refine PySem.W.KFB.if_so (by decide) ?_
  refine wpAny_bind (PySem.W.check_bound_init F.excBase_ValueError.toExcCallFacts (I4.kIn _ _ hC) ho4 rfl ?_)
  refine wpAny_bind (wpAny_pure (wpAny_pure ?_))
  refine ⟨plainId_quiet F.excBase_ValueError.init.plain _, codeAny_builtin F.excBase_ValueError.initEntry ?_⟩
  refine PySem.W.exc_init_tree (cls := .ref C) (t0 := t4) (dv := none) (c2 := .none) (c3 := .none) (b4 := .bool false) ho4 hl4 fun h' kk hx _ => ?_
  have J := I4.write (t' := tk4) (x := a) (e := a) (o := exo a C none) (by rw [ha]; exact True.intro) (.inl rfl) kk ⟨_, hx⟩ (exo_ok hx)
  have eu : upd H1 a (exo a C none) = H1 := by
    funext b
    by_cases hb : b = a
    · rw [hb, upd_same, ha]
    · rw [upd_ne hb]
  rw [eu] at J
  have J2 : Inv (iniCx P w K mg base arg qual scope f (.ref cda) cc A outer s H1) [] [some (.ref a), some v] H1 ⟨h', g4, d4, tk4, os4⟩ := J.pins_of (pins' := []) fun p z => absurd z (by simp)
  refine ks_wpAt_execs_cons (ks_wpAt_Assign_Attr (wpAt_of_wpAny (thn ((pe_var (i := 1) (x := arg) rfl (.inl S.ar) (by simpa using S.db) S.dcd).run [] _ _ H1 (fun y H2 => y = v ∧ H2 = H1) J2 ⟨v, rfl, rfl, rfl⟩) fun u5 s5 h5 => ?_)) (by rfl))
  obtain ⟨y5, H5, J5, r5, rfl, rfl⟩ := h5
  refine thn ((pe_var (i := 0) (x := "self") rfl (.inl S.se)).run [] _ _ H5 (fun y H2 => y = V.ref a ∧ H2 = H5) J5 ⟨.ref a, rfl, rfl, rfl⟩) fun u6 s6 h6 => ?_
  obtain ⟨y6, H6, J6, r6, rfl, rfl⟩ := h6
  obtain rfl : u6 = Value.ref a := r6
  refine ost_new ox J6 ha no r5 fun dx s' n ne J7 => ?_
  exact wpAt_of_wpAny (wpAny_execs_nil ⟨rfl, .non, _, J7.os, J7.bare, J7.base, J7.hok, rfl, q dx n ne⟩)
end
end CM
namespace CM
open PySem PySem.Spec PySem.Calls PyProof.Rows L2 PySem.HandSPX
end CM
namespace CM
open PySem PySem.Spec PySem.Calls PyProof.Rows L2
section
variable {X : Cx} {pins : List (Addr × Obj)} {σ : L2.St} {H : Hp} {s : Shared} {a C d f : Addr} {fs : List (Str × V)} {fl arg : Str} {fd : FuncData}
/-- the class at C, called x, is made by its __init__ at f -/
structure Xmd (P : Program) (K : PySem.W.Frag) (mg : Str → Option Value) (C : Addr) (x fl arg : Str) : Prop where
  hm : mg x = some (.ref C)
  ini : ∃ (f : Addr) (fd : FuncData), IniOk P K mg C f fl arg fd ∧ PySem.W.findIn K (.ref C) "__init__" = some (some (.ref f)) ∧ PySem.W.typeIn K (.ref f) = some (.type "function")
end
end CM
namespace CM
open PySem PySem.Spec PySem.Calls PyProof.Rows L2
/-- err.n may be read -/
def XfOf (K : PySem.W.Frag) (CA : CAs) (cs : List Nat) (n : Str) : Prop := ∀ c ∈ cs, XfC K (CA c) ∧ PySem.W.findIn K (.ref (CA c)) n = some none
def fXf (cs : List Nat) (n : Str) : F1 := fun d h => match d with
  | .exc c fs => if c ∈ cs then (match fs.lookup n with
    | some v => .ok v h
    | none => .no) else .no
  | _ => .no
def tXfv (K : PySem.W.Frag) (n : Str) (te : TE) : TE := fun σ H Q => te σ H fun x H1 => ∃ a C dd fs v, x = .ref a ∧ H1 a = some (ExV C a (some dd)) ∧ H1 dd = some (.xd fs) ∧ XfC K C ∧ PySem.W.findIn K (.ref C) n = some none ∧ fs.lookup n = some v ∧ Q v H1
section
variable {X : Cx} {K : PySem.W.Frag} {CA : CAs} {W : WX} {e : Expr} {pos : Pos} {te : TE} {ta : TD} {n : Str} {cs : List Nat} {s : Shared} {σ : L2.St} {H : Hp} {pins : List (Addr × Obj)}
theorem exv_inst {C a : Addr} {dd : Option Addr} (I : Inv X pins σ H s) (e : H a = some (ExV C a dd)) (hd : dd = none ∨ ∃ x fs, dd = some x ∧ H x = some (.xd fs)) : ∃ oe od, PySem.W.InstAt s.heap a oe C od ∧
    ∀ x fs, dd = some x → H x = some (.xd fs) → ∃ (mA : Str → Option Value) (ob : Obj), od = some ob ∧ (∀ y, RelO (fs.lookup y) (mA y)) ∧ ∀ n, PySem.W.lookIn n ob = some (mA n) := by
  obtain ⟨⟨oe, vs, ho, hz, hdt⟩, _, _⟩ := I.hok a _ e
  have nc : PySem.W.notCls oe = true := by unfold PySem.W.notCls; rw [hdt] <;> rfl
  rcases hd with rfl | ⟨x, fs, rfl, ex⟩
  · exact ⟨oe, none, ⟨ho, hz.1, nc, by rw [hz.2]; trivial⟩, fun x fs e => by cases e⟩
  · obtain ⟨mA, hns, hr⟩ := (show ObjOk X.prog X.w H s.heap x (.xd fs) from I.hok x _ ex)
    obtain ⟨od, hod, hl⟩ := lookIn_ns hns
    refine ⟨oe, some od, ⟨ho, hz.1, nc, by rw [hz.2]; exact hod⟩, fun x' fs' e1 e2 => ?_⟩
    cases e1
    rw [ex] at e2
    cases e2
    exact ⟨mA, od, rfl, hr, hl⟩
theorem we_xf (hf : XfOf K CA cs n) (x : WE X K CA W e te ta) (hb : attributeBase e n X.env (eval e X.env) = eval e X.env := by rfl) (hK : X.K = K := by rfl) : WE X K CA W (.Attribute e n pos) (tXfv K n te) (dUn (fXf cs n) ta) := by
  subst hK
  refine ⟨⟨fun pins s σ H Q I h => ?_⟩, fun m h H σ ρ Q' S t => x.sim m h H σ ρ _ S (t.bind fun d h1 m1 v H1 s1 S1 r1 t1 => ?_)⟩
  · refine attr_of hb (thn (x.pe.run pins s σ H _ I h) fun u s1 hh => ?_)
    obtain ⟨x, H1, I1, rx, a, C, dd, fs, v, ex, ea, ed, T, hno, l, q⟩ := hh
    subst ex
    obtain rfl : u = Value.ref a := rx
    obtain ⟨oe, od, J, g⟩ := exv_inst I1 ea (.inr ⟨dd, fs, rfl, ed⟩)
    obtain ⟨mA, ob, rfl, hr, hl⟩ := g _ _ rfl ed
    obtain ⟨u, hu, ru⟩ := RelO.some_of (v := v) (o := mA n) (by rw [← l]; exact hr n)
    exact HandSPX.exc_get I1.kIn J T.ga T.gg T.exC (PySem.W.findObj_own T.hdC hno rfl (by rw [hl, hu])) (handed_of ru) ⟨v, H1, I1.tok _, ru, q⟩
  · unfold fXf at t1
    split at t1
    · rename_i c fs
      by_cases hc : c ∈ cs
      · rw [if_pos hc] at t1
        split at t1
        · rename_i y el
          cases r1 with
          | exc na ea hd en ra =>
            obtain ⟨v, hv, rv⟩ := rp_look en ra el
            rcases hd with ⟨rfl, rfl⟩ | ⟨x, rfl, nx, ex⟩
            · cases hv
            · exact ⟨_, _, _, _, v, rfl, ea, ex, (hf c hc).1, (hf c hc).2, hv, t1.here S1 rv⟩
        · exact t1.elim
      · rw [if_neg hc] at t1; exact t1.elim
    · exact t1.elim
end
structure XkC (K : PySem.W.Frag) (C : Addr) : Prop where
  cl : (PySem.W.clsIn K C).isSome = true
  ga : PySem.W.findIn K (.ref C) "__getattribute__" = some (some (.builtin "BaseException.__getattribute__"))
  gg : PySem.W.findIn K (.ref C) "__getattr__" = some none
  ex : PySem.W.subIn K (.ref C) (.type "BaseException") = some true
  ca : PySem.W.findIn K (.ref C) "__class__" = some (some (.builtin "object.__class__"))
  sp : PySem.W.specialIn K (.builtin "object.__class__") "__get__" = some (some (.builtin "getset_descriptor.__get__"))
  tk : PySem.W.takesIn K (.builtin "object.__class__") = some true
  ob : PySem.W.mroIn K C (.type "object") = some true
def fIsX (xs own : List Nat) (kt : KT) : FD := fun ds h => match ds with
  | [.exc c fs, t] => match clsOf t with
    | some b => if c ∈ xs then (match kt (.o c) b with
      | some r => .ok (.bl r) h
      | none => .no) else .no
    | none => .no
  | _ => fIsi own kt ds h
def rIsX (K : PySem.W.Frag) : List V → Hp → VK → Prop := fun xs H Q => ∃ (a C : Addr) (c : V) (u : Value) (dd : Option Addr) (b : Bool), xs = [.ref a, c] ∧ ClsV c u ∧ H a = some (ExV C a dd) ∧ (dd = none ∨ ∃ x fs, dd = some x ∧ H x = some (.xd fs)) ∧ XkC K C ∧ PySem.W.kitOne K (.ref C) u = some b ∧ Q (.bl b) H
section
variable {X : Cx} {K : PySem.W.Frag} {CA : CAs} {xs own : List Nat} {kt : KT}
theorem call_isX0 : CallR X (.builtin "isinstance") (rIsX X.K) := by
  intro pins s σ H xs us Q I r h
  obtain ⟨a, C, c, u, dd, b, rfl, k, ea, hd, T, e, q⟩ := h
  obtain ⟨u1, u2, rfl, r1, r2⟩ := vals2 r
  have e2 := k.eq r2
  subst e2
  obtain rfl : u1 = Value.ref a := r1
  obtain ⟨oe, od, J, _⟩ := exv_inst I ea hd
  exact PySem.W.kia_one (PySem.W.kitx_exc (ox := oe) (od := od) T.cl T.ga T.gg T.ex T.ca T.sp T.tk T.ob) I.kIn J e (fun z => by cases z) fun tk => ⟨.bl b, H, I.tok tk, rfl, q⟩
def rIsXU (K : PySem.W.Frag) : List V → Hp → VK → Prop := fun xs H Q => rIsX K xs H Q ∨ rIsi K xs H Q
theorem call_isX (hK : X.K = K := by rfl) : CallR X (.builtin "isinstance") (rIsXU K) := by subst hK; exact call_isX0.or call_isi
theorem sim_isX (hx : ∀ c ∈ xs, XkC K (CA c)) (kk : KtOk K CA own kt) : SimC K CA (rIsXU K) (fIsX xs own kt) := by
  intro W σ m h H ys ds Q' S r t
  unfold fIsX at t
  split at t
  · split at t
    · rename_i b eb
      obtain ⟨ok, t⟩ := post_ite t
      split at t
      · rename_i r' ek
        cases r with
        | cons r1 r2 => cases r2 with
          | cons r2 r3 =>
            cases r3
            cases r1 with
            | exc na ea hd en ra =>
              refine .inl ⟨_, _, _, _, _, _, rfl, rp_cls r2 eb, ea, ?_, hx _ ok, kk.one _ _ _ ek, t.here S (.bl _)⟩
              rcases hd with ⟨rfl, _⟩ | ⟨x, rfl, _, ex⟩
              · exact .inl rfl
              · exact .inr ⟨x, _, rfl, ex⟩
      · exact t.elim
    · exact t.elim
  · exact .inr (sim_isi kk W σ m h H ys ds Q' S r t)
end
end CM
namespace CM
open PySem PySem.Spec PySem.Calls PyProof.Rows L2
def excB (K : PySem.W.Frag) (C : Addr) : Bool :=
  (PySem.W.clsIn K C).isSome && (decide (PySem.W.findIn K (.ref C) "__getattribute__" = some (some (.builtin "BaseException.__getattribute__"))) && (decide (PySem.W.findIn K (.ref C) "__getattr__" = some none) && (decide (PySem.W.subIn K (.ref C) (.type "BaseException") = some true) &&
  (decide (PySem.W.findIn K (.ref C) "__class__" = some (some (.builtin "object.__class__"))) && (decide (PySem.W.specialIn K (.builtin "object.__class__") "__get__" = some (some (.builtin "getset_descriptor.__get__"))) && (decide (PySem.W.takesIn K (.builtin "object.__class__") = some true) &&
  (decide (PySem.W.mroIn K C (.type "object") = some true) && (PySem.W.hasDictIn K C && (decide (PySem.W.typeIn K (.ref C) = some (.type "type")) && PySem.W.keepIn K (.ref C))))))))))
structure ExcOk (K : PySem.W.Frag) (C : Addr) : Prop extends XkC K C where
  hd : PySem.W.hasDictIn K C = true
  ty : PySem.W.typeIn K (.ref C) = some (.type "type")
  kp : PySem.W.keepIn K (.ref C) = true
theorem excB_ok {K : PySem.W.Frag} {C : Addr} (h : excB K C = true) : ExcOk K C := by
  unfold excB at h
  simp only [Bool.and_eq_true, decide_eq_true_eq] at h
  obtain ⟨h1, h2, h3, h4, h5, h6, h7, h8, h9, h10, h11⟩ := h
  exact ⟨⟨h1, h2, h3, h4, h5, h6, h7, h8⟩, h9, h10, h11⟩
theorem ExcOk.xf {K : PySem.W.Frag} {C : Addr} (h : ExcOk K C) : XfC K C := ⟨h.ga, h.gg, h.ex, h.hd⟩
theorem xfOf_by {K : PySem.W.Frag} {CA : CAs} {cs : List Nat} {n : Str} (h : ∀ c ∈ cs, ExcOk K (CA c)) (h2 : (cs.all fun c => decide (PySem.W.findIn K (.ref (CA c)) n = some none)) = true) : XfOf K CA cs n := fun c hc => ⟨(h c hc).xf, of_decide_eq_true (List.all_eq_true.mp h2 c hc)⟩
/-- the class object of an own exception -/
def oexClsB (K : PySem.W.Frag) (C : Addr) : Bool := match K.lookup C with
  | some ⟨.type "type", _, .cls cd, sl⟩ => (match cd.mro, sl.toList with
    | .ref C' :: bm, [_, _, _, _, some (.builtin n), _] => C' == C && (n == "ValueError.__new__" && (!cd.hasDel && (cd.hasDict && PySem.HandSPX.refsVE bm)))
    | _, _ => false)
  | _ => false
theorem oexClsB_ok {K : PySem.W.Frag} {C : Addr} (q : oexClsB K C = true) : ∃ nm q N bs bm sn sub ab col dd k0 k1 k2 k3 k5, K.lookup C = some (excClassObj nm q C N bs bm true sn sub ab col dd k0 k1 k2 k3 k5 "ValueError.__new__") ∧ PySem.HandSPX.refsVE bm = true := by
  unfold oexClsB at q
  split at q
  · rename_i dd cd sl ho
    split at q
    · rename_i C' bm k0 k1 k2 k3 n k5 hm hs
      simp only [Bool.and_eq_true, beq_iff_eq, Bool.not_eq_true'] at q
      obtain ⟨rfl, rfl, hdel, hd, hv⟩ := q
      obtain ⟨nm, bs, mro, ns, qn, hd', sn, sub, ab, col, del⟩ := cd
      dsimp only at hm hdel hd
      subst hm
      subst hdel
      subst hd
      refine ⟨nm, qn, ns, bs, bm, sn, sub, ab, col, dd, k0, k1, k2, k3, k5, ?_, hv⟩
      rw [ho]
      have : sl = #[k0, k1, k2, k3, some (.builtin "ValueError.__new__"), k5] := by
        apply Array.ext'
        rw [hs]
      rw [this]
    · cases q
  · cases q
def iniB (K : PySem.W.Frag) (C : Addr) (fl : Str) : Bool :=
  oexClsB K C && (decide (PySem.W.findIn K (.ref C) "__setattr__" = some (some (.builtin "object.__setattr__"))) && (decide (PySem.W.ks_superIn K C C "__init__" = some (some (.builtin "ValueError.__init__"))) && (decide (PySem.W.subIn K (.ref C) (.type "ValueError") = some true) &&
  (decide (PySem.W.mroIn K C (.ref C) = some true) && (decide (PySem.W.nsIn K cStatics "thirdparty.any" = some none) && decide (PySem.W.findIn K (.ref C) fl = some none))))))
/-- the text of an exception's __init__ -/
def IniSh (st : Stmt) (fl arg : Str) : Prop := ∃ (txt : Str) (j : Nat) (p0 p1 p2 p3 p4 p5 q0 q1 q2 q3 : Pos), defBody st = iniBody txt fl arg j p0 p1 p2 p3 p4 p5 q0 q1 q2 q3 ∧ ∀ env : Env, ∃ pl : Sem Bool, IniEv txt j p0 p1 p2 p3 p4 env pl
theorem xmd_of {P : Program} {K : PySem.W.Frag} {mg : Str → Option Value} {C f cda cc : Addr} {x fl arg qual : Str} {st : Stmt} {dV kV doc pm ct oc ccl cl : Value} {an od cdd cld : Option Addr} {osl ccs csl : Array (Option Value)} {cvs : Array Value} {file : Str} {tf : Tok}
    (hm : mg x = some (.ref C)) (E : ExcOk K C) (ib : iniB K C fl = true) (su : mg "super" = none) (tp : (P.main.scope.names.lookup ("super" : Str)).isSome = false) (iC : PySem.W.findIn K (.ref C) "__init__" = some (some (.ref f))) (tI : PySem.W.typeIn K (.ref f) = some (.type "function"))
    (l : K.lookup f = some ⟨oc, od, .func (PySem.W.ksFn "__init__" qual (defArgs st) (defBody st) (defScope st) dV kV doc pm an (.ref cda) ct cc), osl⟩) (hcd : PySem.W.codeIn K (.ref cda) qual = true) (S : iniScB arg (defScope st) = true) (sh : IniSh st fl arg)
    (har : ∃ ar, ((defArgs st).posonlyargs ++ (defArgs st).args).head? = some ar ∧ ar.arg = ("self" : Str)) (lkc : K.lookup cda = some ⟨ccl, cdd, .fields cvs, ccs⟩) (cv2 : cvs[2]? = some (.str file tf)) (hfile : ((P.main.file : Str) == file) = true)
    (lc : K.lookup cc = some ⟨cl, cld, .cell (some (.ref C)), csl⟩)
    (bd : ∀ (s : Shared) (u v : Value), BindsTo s (PySem.W.ksFn "__init__" qual (defArgs st) (defBody st) (defScope st) dV kV doc pm an (.ref cda) ct cc) ⟨[u, v], []⟩ [("self", u), (arg, v)] ∧ BindsTo s (PySem.W.ksFn "__init__" qual (defArgs st) (defBody st) (defScope st) dV kV doc pm an (.ref cda) ct cc) ⟨[u], [(arg, v)]⟩ [("self", u), (arg, v)]) :
    Xmd P K mg C x fl arg := by
  unfold iniB at ib
  simp only [Bool.and_eq_true, decide_eq_true_eq] at ib
  obtain ⟨i1, i2, i3, i4, i5, i6, i7⟩ := ib
  obtain ⟨txt, j, p0, p1, p2, p3, p4, p5, q0, q1, q2, q3, hbd, hev⟩ := sh
  refine ⟨hm, f, _, ⟨⟨oexClsB_ok i1, i2, E.ex, E.ty, E.kp⟩, i3, i4, i5, i6, i7, su, tp, bd, qual, txt, j, p0, p1, p2, p3, p4, p5, q0, q1, q2, q3, _, _, dV, kV, doc, pm, ct, oc, an, od, osl, cda, cc, ?_, l, hcd, iniSc_by S, har, ⟨ccl, cdd, cvs, ccs, file, tf, lkc, cv2, hfile⟩, ⟨cl, cld, csl, lc⟩, hev⟩, iC, tI⟩
  rw [hbd]
theorem boot_ValueErrorU : bootBuiltins "ValueError" = some (.type "ValueError") := Boot.«ValueError»
/-- raise C(e) -/
def rxOf (ρ : DE) (c0 : Nat) (fl : Str) (ds : List CM.D) (h : CH) : RS := match ds with
  | [d] => .ex ρ c0 [(fl, d)] h
  | _ => .no
def dRaiseX (c0 : Nat) (fl : Str) (ts : TDs) : SD := fun ρ h => (ts ρ h).toS ρ (rxOf ρ c0 fl)
section
variable {X : Cx} {K : PySem.W.Frag} {CA : CAs} {W : WX} {e : Expr} {pos p pos' : Pos} {hs : TA} {ts : TDs} {x fl arg : Str} {c0 j : Nat} {m : Str}
def tRaiseX (W : WX) (C : Addr) (fl : Str) (ta : TA) : TS := fun _ σ H => tMkO C (spIni C fl) [] ta σ H (fun cls d H' => W cls d σ H')
theorem sim_raiseX (s : SimA K CA W hs ts) : SimS K CA W (tRaiseX W (CA c0) fl hs) (dRaiseX c0 fl ts) := fun m h H σ ρ D' S t => by
  refine s m h H σ ρ _ S ?_
  unfold dRaiseX at t
  cases er : ts ρ h with
  | no => rw [er] at t; exact t.elim
  | ex c fs h' =>
    rw [er] at t
    exact fun m' cls dd H' s' S' x => t m' cls dd σ H' s' (S.move s' S') x
  | ok ds h' =>
    rw [er] at t
    intro m1 vs H1 s1 S1 r1
    have t2 : PostS K CA W m h H D' (rxOf ρ c0 fl ds h') := t
    clear t
    unfold rxOf at t2
    split at t2
    · rename_i d
      cases r1 with
      | @cons v _ _ _ r1 r2 =>
        cases r2
        refine ⟨by simp, fun a na => ?_⟩
        refine ⟨a, v, rfl, upd_same, fun dx nd ne => ⟨rfl, dx, [(fl, v)], upd_same, by rw [upd_ne ne, upd_same], by rw [upd_ne ne] at nd; exact nd, ?_⟩⟩
        rw [upd_ne ne] at nd
        have eq : upd (del (upd (upd (upd H1 a (exo a (CA c0) none)) dx (exd dx [(fl, v)])) a (exo a (CA c0) (some dx))) a) dx (.xd [(fl, v)]) = upd H1 dx (.xd [(fl, v)]) := by
          funext b
          by_cases hd : b = dx
          · rw [hd, upd_same, upd_same]
          · rw [upd_ne hd, upd_ne hd]
            by_cases hb : b = a
            · rw [hb, del_same, na]
            · rw [del_ne hb, upd_ne hb, upd_ne hd, upd_ne hb]
        rw [eq]
        have sA := stp_laid (u := .xd [(fl, v)]) S1 nd
        have SA := S1.laid (u := .xd [(fl, v)]) nd
        exact t2 m1 _ _ _ _ (s1.trans sA) (S.move (s1.trans sA) SA) ⟨rfl, .inr ⟨dx, [(fl, v)], rfl, S1.fresh nd, upd_same, rfl, .cons (r1.move sA) .nil⟩⟩
    · exact t2.elim
theorem ws_raiseX (D : Xmd X.prog X.K X.mg (CA c0) x fl arg) (hr : Room 2 X.A) (tk' : Takes X W) (h : WA X K CA W [e] hs ts) (hc : X.calm = true := by rfl) (hg : Gl X x := by rfl) (hK : X.K = K := by rfl)
    (hdb : (x == ("__debug__" : Str)) = false := by decide) (he : starEach [e] X.env = (false, eval e X.env) :: starEach [] X.env := by rfl) (hpl : (backTo pos (starEach [] X.env)).any (·.1) = false := by rfl) :
    WS X K CA W (.Raise (some (.Call (.Name x p) [e] [] pos)) none pos') (tRaiseX W (CA c0) fl hs) (dRaiseX c0 fl ts) := by
  subst hK
  obtain ⟨f, fd, IO, iC, tI⟩ := D.ini
  refine ⟨?_, sim_raiseX h.sim⟩
  have F1 : FnOk X.prog X.w X.K X.mg X.base (fun _ _ _ _ _ _ => False) 1 f fd ["self", arg] (spIni (CA c0) fl) := ini_ok IO
  have bb : Binds X.K fd ["self", arg] [] := fun s us _ hl => by
    rw [List.append_nil] at hl ⊢
    match us, hl with
    | [u, v], _ => exact (IO.bd s u v).1
  exact ps_raise hc tk' (pmk_oex IO.ox iC tI F1 hr bb .nil (fun _ _ _ _ _ _ _ z => z.elim) hg D.hm h.pe hdb he hpl)
end
end CM
namespace CM
open PySem PySem.Spec PySem.Calls PyProof.Rows L2
/-- an exception of the class cls stands at a -/
def ExW (cls : Value) (a : Addr) (dd : Option Addr) : HO := .ext fun h => ∃ (oe : Obj) (vs : Array Value), h.get? a = some oe ∧ Zc cls dd oe ∧ oe.data = .fields vs
section
variable {X : Cx} {pins : List (Addr × Obj)} {σ : L2.St} {H : Hp} {s : Shared} {a : Addr} {cls : Value} {d : Option Addr} {oe : Obj}
theorem inv_track (I : Inv X pins σ H s) (ha : s.heap.get? a = some oe) (hz : Zc cls d oe) (hd : ∃ vs, oe.data = .fields vs) (na : H a = none) (n0 : X.s_0.heap.get? a = none) (nL : a ≠ X.env.locals) (np : ∀ p ∈ X.pn ++ pins, p.1 ≠ a) : Inv X pins σ (upd H a (ExW cls a d)) s := by
  obtain ⟨vs, hd⟩ := hd
  have ne0 : ∀ b o, X.s_0.heap.get? b = some o → b ≠ a := fun b o e z => by
    rw [z, n0] at e
    cases e
  refine ⟨I.ok, I.os, I.bare, ⟨I.base.keep, I.base.slot, fun b o e n hx => by rw [upd_ne (ne0 b o e)]; exact I.base.free b o e n hx, I.base.there, fun b xs e => ?_, fun b o u e => ?_, fun b ps e => ?_⟩, I.loc, I.cell, by rw [upd_ne (Ne.symm nL)]; exact I.free, fun x c e => ?_, fun p hp => ?_, fun b u e => ?_, I.len⟩
  · have q := I.base.tups b xs e
    rw [upd_ne (ne_of_none q na)]
    exact q
  · have q := I.base.frzs b o u e
    rw [upd_ne (ne_of_none q na)]
    exact q
  · obtain ⟨m, q⟩ := I.base.tbls b ps e
    exact ⟨m, by rw [upd_ne (ne_of_none q na)]; exact q⟩
  · have nc : c ≠ a := fun z => by
      obtain ⟨v, o, ho, hv⟩ := I.cell x c e
      rw [z, ha] at ho
      cases ho
      rw [hd] at hv
      cases hv
    rw [upd_ne nc]
    exact I.freeC x c e
  · obtain ⟨e, n, ne, nf, dd⟩ := I.pin p hp
    exact ⟨e, by rw [upd_ne (np p hp)]; exact n, ne, nf, dd⟩
  · by_cases hb : b = a
    · subst hb
      rw [upd_same] at e
      cases e
      exact ⟨⟨oe, vs, ha, hz, hd⟩, ⟨oe, ha⟩, fun _ _ ⟨o, v, q, r⟩ k => ⟨o, v, k o q, r⟩⟩
    · rw [upd_ne hb] at e
      exact (I.hok b u e).stay (fun _ _ _ k => k) (fun c hc => by rw [upd_ne (ne_of_none hc na)]; exact hc) fun c xs hc => by rw [upd_ne (ne_of_none hc na)]; exact hc
end
/-- what the clause 'except x as n: suite' wishes, the exception being tracked behind the suite -/
def wAsV (K : PySem.W.Frag) (c : Value) (i nl : Nat) (ts : Addr → Value → Option Addr → TS) (Wout : WX) (D : Ends) : WX := fun cls d σ H =>
  ∃ b, PySem.W.exmOne K cls c = some b ∧ (b = true → σ.length = nl → ∀ a, H a = none → ts a cls d { nx := fun σ' H' => D.nx (σ'.set i none) (upd H' a (ExW cls a d)), rt := fun _ _ => False, bk := fun _ _ => False, ct := fun _ _ => False } (σ.set i (some (.ref a))) H) ∧
    (b = false → Wout cls d σ H)
section
variable {X : Cx} {x n : Str} {c : Value} {i : Nat} {body suite : List Stmt} {b₀ : Stmt} {np pos pos' : Pos} {tb : WX → TS} {ts : Addr → Value → Option Addr → TS} {Wout : WX}
theorem ps_try_asV (hex : X.ex = []) (hs : X.stack = X.env :: X.outer) (hf : X.env.frame = some X.env.locals) (hN : X.N.Nodup) (hi : X.N[i]? = some n) (hln : X.env.kindOf n = some .local) (hc : Names X x c) (tk : Takes X Wout)
    (hb : ∀ (W : WX) (pn : List (Addr × Obj)) (xe : Value → Shared → Prop), Takes (X.tr pn xe) W → PassesOwn (model X.prog X.w) X.A X.env xe → PSs (X.tr pn xe) body (tb W))
    (hsu : ∀ (a : Addr) (oe : Obj) (cls : Value) (d : Option Addr) (pn : List (Addr × Obj)), Zc cls d oe → (∃ vs, oe.data = .fields vs) → PSs (X.suite a ((a, oe) :: pn)) (b₀ :: suite) (ts a cls d)) :
    PS X (.Try body [.ExceptHandler (some (.Name x np)) (some n) (b₀ :: suite) pos'] [] [] pos) (fun D σ H => tb (wAsV X.K c i X.N.length ts Wout D) D σ H) := by
  refine ⟨fun pins s σ H D I h => ?_⟩
  have ok := I.ok
  have hfr : X.A.frames = some (X.env :: X.outer) := by rw [ok.frames, hs]
  have hloc : Loc X.env.scope n := .inl hln
  refine wpAny_Try_except ?_
  refine wpAny_mono ((hb (wAsV X.K c i X.N.length ts Wout D) (X.pn ++ pins) (fun e s₁ => wpAny (model X.prog X.w) X.A (noteFrame e X.env) (fun _ s₂ => wpAny (model X.prog X.w) X.A (setFlight e none) (fun _ s₃ =>
    wpAny (model X.prog X.w) X.A (handleBy e X.env [.ExceptHandler (some (.Name x np)) (some n) (b₀ :: suite) pos']) (SP X pins D) X.xe s₃) X.xe s₂) X.xe s₁) (fun u s' xx => ?_) PassesOwn.looking).run [] s σ H D (I.toTry _) h) (fun f s1 hsp => ?_) (fun e s1 he => he)
  · -- the catch
    obtain ⟨a, B, sI, pins', σ', H', cls, d, rfl, J', nb, up, sky, na, os, ag, b, hb1, hyes, hno⟩ := xx
    have J : Inv X pins σ' H' sI := J'.ofTry ok
    have sky' : Sky B (X.env :: X.outer) a (Zc cls d) X.env.locals s'.heap := by rw [← hs]; exact sky
    show wpAny (model X.prog X.w) X.A (noteFrame (.ref a) X.env) _ _ _
    refine Sky.land Zc.steady hfr hf sky' fun h3 fl3 up3 => ?_
    have J3 : Inv X pins σ' H' { s' with heap := h3 } := J.landed nb fl3.1 (up.trans up3) os ag
    obtain ⟨oe3, vs3, he3, hz3, hd3⟩ := fl3.there
    have notFr : ∀ {h : Heap} {o : Obj} {vs : Array Value}, h.FunFrames B (X.env :: X.outer) → h.get? a = some o → o.data = .fields vs → a ∉ frs (X.env :: X.outer) := fun {h o vs} ff e dd hm => by
      obtain ⟨_, o', e', hnf⟩ := ff.mem hm
      rw [e] at e'; cases e'
      exact hnf _ dd
    have nfr := notFr fl3.2.2.1 he3 hd3
    have nL : a ≠ X.env.locals := fun z => nfr (List.mem_filterMap.mpr ⟨X.env, List.mem_cons_self, by rw [hf, z]⟩)
    have nF : a ∉ X.fs := fun hm => by
      obtain ⟨e, he, q⟩ := List.mem_filterMap.mp hm
      exact nfr (List.mem_filterMap.mpr ⟨e, List.mem_cons_of_mem _ he, q⟩)
    have nB : B.get? a = none := fl3.2.1
    have nI : sI.heap.get? a = none := by
      cases q : sI.heap.get? a with
      | none => rfl
      | some o =>
        have z := nb a o q (by rw [hs]; exact nfr)
        rw [nB] at z
        cases z
    have n0 : X.s_0.heap.get? a = none := by
      cases q : X.s_0.heap.get? a with
      | none => rfl
      | some o =>
        obtain ⟨o', z⟩ := J.base.there a o q (fun hx => by rw [hex] at hx; cases hx)
        rw [nI] at z
        cases z
    have nP : ∀ p ∈ X.pn ++ pins, p.1 ≠ a := fun p hp z => by
      obtain ⟨e, _⟩ := J.pin p hp
      rw [z, nI] at e
      cases e
    have S3 := J3.suite he3 hd3 na nL nF
    refine wpAny_handleBy_cons (codeAny_handlers_test ?_) (by intro q; cases q)
    have LT : PySem.W.Looks (model X.prog X.w) h3 (typeOf (.ref a)) cls := fun A Q E s k q => wpAny_typeOf_ref (k _ _ he3) (by rw [hz3.1]; exact q)
    have LM := PySem.W.exm_one (M := model X.prog X.w) (J3.kIn) LT hb1
    have test : ∀ {Q : Value → Shared → Prop} {E : Value → Shared → Prop}, Q c { s' with heap := h3 } → wpAny (model X.prog X.w) (X.A.mark (some (.ref a))) (eval (.Name x np) X.env) Q E { s' with heap := h3 } := fun {Q E} q => by
      obtain ⟨hg, hdbg, hm | ⟨hm, hv, hnn⟩⟩ := hc
      · exact ld_glob (X := X.suite a ((a, oe3) :: (X.pn ++ pins))) S3 hg hm q hdbg
      · exact ld_blt (X := X.suite a ((a, oe3) :: (X.pn ++ pins))) S3 hg hm hv q hnn hdbg
    refine test (LM.here ?_)
    cases b with
    | true =>
      refine codeAny_handlers_suite_as ?_
      refine HandSPX.lands_againZ fl3 fun h4 fl4 up4 => ?_
      have J4 : Inv X pins σ' H' { s' with heap := h4 } := J.landed nb fl4.1 ((up.trans up3).trans up4) os ag
      obtain ⟨oe4, vs4, he4, hz4, hd4⟩ := fl4.there
      have S4 := J4.suite he4 hd4 na nL nF
      refine store_ok (X := X.suite a ((a, oe4) :: (X.pn ++ pins))) (v := .ref a) S4 hN hi hloc rfl (fun s5 S5 => ?_) (.inr hln)
      refine wpAny_mono ((hsu a oe4 cls d (X.pn ++ pins) hz4 ⟨_, hd4⟩).run [] s5 _ H' _ S5 (hyes rfl J.len a na)) (fun f s6 hsp => ?_) (fun _ _ z => False.elim z)
      cases f with
      | next =>
        obtain ⟨σ6, H6, S6, q6⟩ := hsp
        obtain ⟨e6, n6, _⟩ := S6.pin (a, oe4) (List.mem_append_left _ List.mem_cons_self)
        have T6 := inv_track (S6.unsuite ok) e6 hz4 ⟨_, hd4⟩ n6 n0 nL nP
        exact gone_ok T6 hN hi hln fun s7 J7 => ⟨_, _, J7, q6⟩
      | brk =>
        obtain ⟨σ6, H6, S6, q6⟩ := hsp
        exact q6.elim
      | cont =>
        obtain ⟨σ6, H6, S6, q6⟩ := hsp
        exact q6.elim
      | ret u =>
        obtain ⟨v6, σ6, H6, S6, r6, q6⟩ := hsp
        exact q6.elim
    | false =>
      show wpAny _ X.A (handleBy (.ref a) X.env []) _ _ _
      refine wpAny_handleBy_nil ?_
      obtain ⟨k1, k2, k3, oe, vs, T, oT, ts', he, hz, hd, h1, hr⟩ := id fl3
      unfold PySem.passOn
      refine wpAny_bind (wpAny_field he hd h1 ?_)
      rw [if_neg (show ¬ ((Value.ref T == Value.none) = true) from by simp)]
      have fin : wpAny (model X.prog X.w) X.A (setFlight (.ref a) X.env.frame) (fun _ s4 => wpAny (model X.prog X.w) X.A (throw (.ref a) : Sem Flow) (SP X pins D) X.xe s4) X.xe { s' with heap := h3 } := by
        rw [hf]
        refine HandSPX.setFlight_upZ fl3 fun h4 hh4 up4 => wpAny_throw (tk _ _ ?_)
        exact ⟨a, B, sI, pins, σ', H', cls, d, rfl, J, nb, (up.trans up3).trans up4, .inr (.inr (by rw [hs]; exact hh4)), na, os, ag, hno rfl⟩
      first
        | exact wpAny_bind (wpAny_pure (wpAny_bind fin))
        | exact wpAny_bind fin
  · cases f with
    | next =>
      obtain ⟨σ', H', J', q⟩ := hsp
      exact wpAny_execs_nil ⟨σ', H', J'.ofTry ok, q⟩
    | brk =>
      obtain ⟨σ', H', J', q⟩ := hsp
      exact ⟨σ', H', J'.ofTry ok, q⟩
    | cont =>
      obtain ⟨σ', H', J', q⟩ := hsp
      exact ⟨σ', H', J'.ofTry ok, q⟩
    | ret u =>
      obtain ⟨v, σ', H', J', r, q⟩ := hsp
      exact ⟨v, σ', H', J'.ofTry ok, r, q⟩
end
/-- c = None; try: a() / except e as n: c = n / return c -/
def TCaught (K : PySem.W.Frag) (CS : Addr) : (XK → Hp → VK → Prop) → Hp → VK → Prop := fun tl H Q =>
  tl (fun cls d H' => ∃ b, PySem.W.exmOne K cls (.ref CS) = some b ∧ (b = true → ∀ a, H' a = none → Q (.ref a) (upd H' a (ExW cls a d))) ∧ (b = false → False)) H (fun _ H' => ∃ v : V, (some (some V.non) : Option (Option V)) = some (some v) ∧ Q v H')
theorem caught_gives {X : Cx} {x a e q c n : Str} {sg : Scope} {g CS : Addr} {cdg : Value} {j1 : Nat} {p1 p2 p3 p4 p7 p8 q2 q3 q4 q5 q6 q7 q8 q9 : Pos} (hge : sg.names.lookup e = some .globalImplicit) (hme : X.mg e = some (.ref CS)) (hde : (e == ("__debug__" : Str)) = false)
    (S : FnScope [a, c, n] [a] sg) (hc : sg.names.lookup c = some .local) (hn : sg.names.lookup n = some .local) (hd1 : (c == ("__debug__" : Str)) = false) (hd2 : (n == ("__debug__" : Str)) = false) (hd3 : (c == ("__classdict__" : Str)) = false) (hd4 : (n == ("__classdict__" : Str)) = false) :
    LamX.GivesTo X [a, c, n] x sg g cdg [.Assign [.Name c q2] (.Constant .none j1 q3) q4, .Try [.Expr (.Call (.Name a p1) [] [] p2) p3] [.ExceptHandler (some (.Name e p4)) (some n) [.Assign [.Name c q5] (.Name n q6) q7] p7] [] [] p8, .Return (some (.Name c q8)) q9] a q (TCaught X.K CS) := by
  intro f c' s H Q tl act hcc h
  have hgl : Gl (cxOf C8.CX0 X.prog X.w X.K X.mg X.base [a, c, n] x sg g cdg X.A X.stack s H C8.E0).nox e := hge
  have nd := S.nd
  refine ⟨_, pss_cons (ps_set (i := 1) nd rfl (.inl hc) pe_non) (pss_cons (ps_try_asV (X := (cxOf C8.CX0 X.prog X.w X.K X.mg X.base [a, c, n] x sg g cdg X.A X.stack s H C8.E0).nox) (c := .ref CS) (i := 2)
      (tb := fun W D σ H => ∃ Ech : XK, (∀ cls d σ' H', Ech cls d H' → W cls d σ' H') ∧ σ[0]? = some (some (.ref f)) ∧ H c' = some (LamX.CodeO c' q) ∧ tl Ech H fun _ H' => D.nx σ H')
      rfl rfl rfl nd rfl hn ⟨hgl, hde, .inl hme⟩ LamX.takes0 (fun W pn xe tk _ => ?_) (fun a oe cls d pn _ _ => pss_one (ps_set (i := 1) nd rfl (.inl hc) (pe_var (i := 2) rfl (.inl hn) hd2 hd4)))) (pss_one (ps_ret (pe_var (i := 1) rfl (.inl hc) hd1 hd3)))), ?_⟩
  · refine ⟨fun pins s' σ H' D I h' => ?_⟩
    obtain ⟨Ech, hW, h1, h2, h3⟩ := h'
    have hp := act W pn xe Ech p1 p2 tk hW
    have hq := pss_one (ps_expr (pos := p3) hp)
    exact hq.run pins s' σ H' D I ⟨h1, h2, h3⟩
  · refine ⟨fun cls d H' => ∃ b, PySem.W.exmOne X.K cls (.ref CS) = some b ∧ (b = true → ∀ a, H' a = none → Q (.ref a) (upd H' a (ExW cls a d))) ∧ (b = false → False), fun cls d σ' H' ⟨b, e1, e2, e3⟩ => ⟨b, e1, fun hb hl a na => ?_, fun hb => e3 hb⟩, rfl, hcc, ?_⟩
    · have l1 : 1 < σ'.length := by rw [hl]; exact (by decide : 1 < 3)
      have l2 : 2 < σ'.length := by rw [hl]; exact (by decide : 2 < 3)
      refine ⟨.ref a, by simp [l2], .ref a, by simp [l1, l2], e2 hb a na⟩
    · exact h
theorem stp_ext {K : PySem.W.Frag} {CA : CAs} {m : Mp} {h : CH} {H H1 : Hp} (S : HR K CA m h H) (e : LamX.ExtN H H1) (T : LamX.Tabs CA.T H1) : Stp m h H m h H1 ∧ HR K CA m h H1 := by
  have nt : ∀ {u : HO}, NoTb u → ∀ ps, u ≠ .tbl ps := fun {u} n ps z => by rw [z] at n; exact n
  have ntb : ∀ {u : HO}, NTab u → ∀ ps, u ≠ .tbl ps := fun {u} n ps z => by rw [z] at n; exact n
  have s : Stp m h H m h H1 := .mk' ⟨Nat.le_refl _, fun _ _ => rfl, fun b o l q n => ⟨l, o, e b o q (nt n), .inl rfl⟩⟩ (fun k o _ q _ => ⟨q, by
    obtain ⟨u, q1, n⟩ := mok_nt (S.ob k o q).2
    rw [q1, e _ _ q1 (ntb n)]⟩) rfl fun a l => by
    obtain ⟨u, q, n⟩ := S.zh a l
    rw [q, e _ _ q (ntb n)]
  refine ⟨s, fun k o q => ⟨(S.ob k o q).1, (S.ob k o q).2.move s ?_⟩, S.inj, S.zn, fun a l => ?_, T⟩
  · obtain ⟨u, q1, n⟩ := mok_nt (S.ob k o q).2
    rw [q1, e _ _ q1 (ntb n)]
  · obtain ⟨u, q, n⟩ := S.zh a l
    exact ⟨u, e _ _ q (ntb n), n⟩
end CM
namespace CM
open PySem PySem.Spec PySem.Calls PyProof.Rows L2
section
variable {P : Program} {w : World} {K : PySem.W.Frag} {CA : CAs} {mg mb : Str → Option Value} {k : Nat} {fa a : Addr} {fd : FuncData} {sh : Shared} {vs : List Value} {ns : List Int} {F : FD} {cs : List (Addr × Addr)}
theorem law_endT (kin : K.In sh.heap) (gl : sh.heap.Ns mainGlobals mg) (bl : sh.heap.Ns builtinsNs mb)
    (blt : ∀ x : Str, x ≠ "__name__" → mb x = bootBuiltins x) (nl : sh.heap.NoLimit) (gens : sh.gens = #[]) (ha : sh.heap.get? a = some { cls := .type "list", data := .seq vs.toArray }) (hi : IntsAre vs ns) (hl : ns.length ≤ 63) (hr : Room k callerA) (hF : LawF F) (sm : SM sh.heap)
    (hT : ∀ p ∈ cs, sh.heap.get? p.2 = some { cls := .none, data := .fields #[] }) (nT : ∀ p ∈ cs, K.lookup p.2 = none) (hC : ∀ p ∈ cs, PySem.W.CodeHd sh.heap p.1 p.2)
    (hbm : ∃ (bm : Addr) (ob : Obj), mg "__builtins__" = some (.ref bm) ∧ bm ≠ builtinsNs ∧ sh.heap.get? bm = some ob ∧ ob.cls = .type "module" ∧ ob.dict = some builtinsNs ∧ ob.data = .plain) (T0 : ∀ p ∈ CA.T, ∃ c, (c, p.1) ∈ cs)
    (G : ∀ base : Heap, K.In base → base.Ns mainGlobals mg → SM base → (∀ p ∈ cs, LamX.TabB base mg p.1 p.2) → FnG P w K mg base true k fa fd ["_law_script"] (spD K CA 1 F)) (bind : ∀ (s : Shared) (u : Value), BindsTo s fd ⟨[u], []⟩ [("_law_script", u)]) :
    codeAny (model P w) callerA (.call (.ref fa) ⟨[.ref a], []⟩) (fun r s' => r = .ok (.ret (.bool true)) ∧ OldK sh.heap s'.heap ∧ s'.os = sh.os ∧ AllBare s'.gens) sh := by
  have rv := vals_ints hi
  have hv := hi.length
  have isT : ∀ b : Addr, b ∈ cs.map (·.2) → sh.heap.get? b = some { cls := .none, data := .fields #[] } := fun b hb => by
    obtain ⟨p, hp, e⟩ := List.mem_map.mp hb
    rw [← e]
    exact hT p hp
  have memT : ∀ p ∈ cs, p.2 ∈ cs.map (·.2) := fun p hp => List.mem_map.mpr ⟨p, hp, rfl⟩
  have aT : a ∉ cs.map (·.2) := fun z => by
    have q := isT a z
    rw [ha] at q
    have z' : Data.seq vs.toArray _ = Data.fields #[] := congrArg Obj.data (Option.some.inj q)
    cases z'
  suffices main : ∀ H : Hp, (∀ b, H b = none ∨ (b = a ∧ ∃ o xs, H b = some (.frz o (.lst xs))) ∨ (b ∈ cs.map (·.2) ∧ H b = some (.tbl #[]))) → (∀ p ∈ cs, H p.2 = some (.tbl #[])) → Rp K CA ⟨fun _ => 0, []⟩ CH.emp H (.ref a) (.scr ns) → HOk P w H sh.heap → (H a ≠ none → K.lookup a = none) →
      codeAny (model P w) callerA (.call (.ref fa) ⟨[.ref a], []⟩) (fun r s' => r = .ok (.ret (.bool true)) ∧ OldK sh.heap s'.heap ∧ s'.os = sh.os ∧ AllBare s'.gens) sh by
    have nlive : ∀ b, ¬ Live ⟨fun _ => 0, []⟩ CH.emp b := fun b z => by
      rcases z with ⟨k, o, e, _⟩ | z
      · cases e
      · cases z
    cases hk : K.lookup a with
    | some o =>
      have e := kin a o hk
      rw [ha] at e
      cases e
      refine main (fun b => if b ∈ cs.map (·.2) then some (.tbl #[]) else none) (fun b => ?_) (fun p hp => if_pos (memT p hp)) (.kscr (.inr ⟨_, vs.toArray, _, hk, rfl, rfl, rfl, ?_, by simpa using rv⟩)) (fun b u z => ?_) fun z => absurd (if_neg aT) z
      · by_cases h : b ∈ cs.map (·.2)
        · exact .inr (.inr ⟨h, if_pos h⟩)
        · exact .inl (if_neg h)
      · rw [List.size_toArray, hv]
        exact Nat.le_trans hl (by decide)
      · by_cases h : b ∈ cs.map (·.2)
        · have z' := (if_pos h).symm.trans z
          cases z'
          exact isT b h
        · have z' := (if_neg h).symm.trans z
          cases z'
    | none =>
      refine main (fun b => if b = a then some (.frz { cls := .type "list", data := .seq vs.toArray } (.lst (ns.map V.int))) else if b ∈ cs.map (·.2) then some (.tbl #[]) else none) (fun b => ?_) (fun p hp => (if_neg (show ¬ p.2 = a from fun z => aT (by rw [← z]; exact memT p hp))).trans (if_pos (memT p hp)))
        (.scr (nlive a) (if_pos rfl)) (fun b u z => ?_) fun _ => hk
      · by_cases h : b = a
        · exact .inr (.inl ⟨h, _, _, if_pos h⟩)
        · by_cases h2 : b ∈ cs.map (·.2)
          · exact .inr (.inr ⟨h2, (if_neg h).trans (if_pos h2)⟩)
          · exact .inl ((if_neg h).trans (if_neg h2))
      · by_cases h : b = a
        · cases (if_pos h).symm.trans z
          subst h
          exact ⟨ha, by rw [List.length_map]; exact Nat.le_trans hl (by decide), vs, _, rv, ha⟩
        · have z1 := (if_neg h).symm.trans z
          by_cases h2 : b ∈ cs.map (·.2)
          · have z' := (if_pos h2).symm.trans z1
            cases z'
            exact isT b h2
          · have z' := (if_neg h2).symm.trans z1
            cases z'
  intro H only hH rp hok hK
  have noD : ∀ {b : Addr} {o : Obj}, sh.heap.get? b = some o → (∀ vs n, o.data ≠ .seq vs n) → o.data ≠ .fields #[] → H b = none := fun {b o} e h1 h2 => by
    rcases only b with q | ⟨q, _⟩ | ⟨q, _⟩
    · exact q
    · rw [q, ha] at e
      cases e
      exact (h1 _ _ rfl).elim
    · rw [isT b q] at e
      cases e
      exact (h2 rfl).elim
  have offA : ∀ {b : Addr} {o : Obj}, sh.heap.get? b = some o → H b = none → (hidT sh.heap H).get? b = some o := fun {b o} e n => hidT_get e n
  have noDict : ∀ {b : Addr} {o : Obj} {es : Array DictEntry} {ep : Nat}, sh.heap.get? b = some o → o.data = .dict es ep → H b = none := fun {b o es ep} e d => by
    refine noD e (fun vs n z => ?_) fun z => ?_
    · rw [d] at z
      cases z
    · rw [d] at z
      cases z
  have ns' : ∀ {b : Addr} {m : Str → Option Value}, sh.heap.Ns b m → (hidT sh.heap H).Ns b m := fun {b m} ⟨o, es, ep, e, d, r⟩ => ⟨o, es, ep, offA e (noDict e d), d, r⟩
  have kb : K.In (hidT sh.heap H) := fun b o e => offA (kin b o e) (by
    rcases only b with q | ⟨q, _⟩ | ⟨q, _⟩
    · exact q
    · by_cases h : H b = none
      · exact h
      · rw [q] at h e
        rw [hK h] at e
        cases e
    · obtain ⟨p, hp, ep⟩ := List.mem_map.mp q
      rw [← ep, nT p hp] at e
      cases e)
  have TB : ∀ p ∈ cs, LamX.TabB (hidT sh.heap H) mg p.1 p.2 := fun p hp => by
    have hTp := hT p hp
    refine ⟨?_, ?_, fun z => ?_⟩
    · obtain ⟨o, us, file, tf, flags, tg, inF, text, tt, e1, r1, r2, r3, rest⟩ := hC p hp
      refine ⟨o, us, file, tf, flags, tg, inF, text, tt, offA e1 (noD e1 (fun vs n z => ?_) fun z => ?_), r1, r2, r3, rest⟩
      · rw [r2] at z
        cases z
      · rw [r2] at z
        cases z
        simp at r3
    · obtain ⟨bm, ob, b1, b2, b3, b4, b5, b6⟩ := hbm
      have nG : bm ≠ mainGlobals := fun q => by
        obtain ⟨o, es, ep, e, hd, _⟩ := gl
        rw [q, e] at b3
        cases b3
        rw [hd] at b6
        cases b6
      have nP : bm ≠ p.2 := fun q => by
        rw [q, hTp] at b3
        cases b3
        cases b6
      refine ⟨bm, ob, b1, b2, nG, nP, offA b3 (noD b3 (fun vs n z => ?_) fun z => ?_), b4, b5, b6⟩
      · rw [b6] at z
        cases z
      · rw [b6] at z
        cases z
    · obtain ⟨o, es, ep, e, hd, _⟩ := gl
      rw [z, hTp] at e
      cases e
      cases hd
  have env : Env0 P w K mg (hidT sh.heap H) callerA [] sh H := ⟨rfl, ⟨kb, ns' gl, ⟨mb, ns' bl, blt⟩, nl.imp fun mc h => ⟨ns' h.1, h.2⟩⟩, fun b o e => of_hidT e, Nat.le_of_eq (hidT_size _ _), trivial, fun b hb => absurd hb List.not_mem_nil, hok, .of_eq gens⟩
  have hR : HR K CA ⟨fun _ => 0, []⟩ CH.emp H := ⟨fun k o e => (nomatch e), fun k j o u e => (nomatch e), fun k o e => (nomatch e), fun a l => (nomatch l), fun p hp => by
    obtain ⟨c, hc⟩ := T0 p hp
    exact LamX.TabS.nil (hH _ hc)⟩
  have smB : SM (hidT sh.heap H) := by
    obtain ⟨o, es, ep, e, d⟩ := sm
    exact ⟨o, es, ep, offA e (noDict e d), d⟩
  obtain ⟨hf, eF⟩ := hF ns hl
  refine codeAny_mono ((G _ kb (ns' gl) smB TB).go callerA [] sh H ⟨[.ref a], []⟩ [.ref a] [.ref a] (fun v _ => v = .bl true) (fun _ _ _ => False) (fun _ => rfl) hr env (bind sh (.ref a)) (.cons rfl .nil) ⟨rfl, ⟨fun _ => 0, []⟩, CH.emp, [.scr ns], hR, .cons rp .nil, by
    rw [eF]
    intro m' v H' s S r
    cases r
    rfl⟩) fun r s' h => ?_
  rcases r with e | fl
  · obtain ⟨_, _, _, _, _, _, _, _, _, _, _, _, z⟩ := h
    exact z.elim
  · rcases fl with _ | _ | _ | u
    · exact False.elim h
    · exact False.elim h
    · exact False.elim h
    · obtain ⟨v, H2, os, bare, un, hok2, r2, q⟩ := h
      obtain rfl : v = .bl true := q
      obtain rfl : u = Value.bool true := r2
      have key : ∀ b o, b ∉ cs.map (·.2) → sh.heap.get? b = some o → s'.heap.get? b = some o := fun b o nb e => by
        rcases only b with z | ⟨_, ob, xs, z⟩ | ⟨z, _⟩
        · exact un.keep b o e z (fun y => absurd y List.not_mem_nil) (by simp)
        · obtain ⟨e1, _⟩ := hok b _ z
          obtain ⟨e2, _⟩ := hok2 b _ (un.frzs b ob _ z)
          rw [e] at e1
          cases e1
          exact e2
        · exact absurd z nb
      have grown : ∀ p ∈ cs, ∃ more : Array Value, s'.heap.get? p.2 = some { cls := .none, data := .fields more } := fun p hp => by
        obtain ⟨more, z⟩ := un.tbls p.2 #[] (hH p hp)
        exact ⟨_, hok2 p.2 _ z⟩
      refine ⟨rfl, ⟨fun b o e => ?_, fun b o e => ?_⟩, os, bare⟩
      · by_cases hb : b ∈ cs.map (·.2)
        · obtain ⟨p, hp, ep⟩ := List.mem_map.mp hb
          obtain ⟨more, hm⟩ := grown p hp
          rw [← ep] at e ⊢
          rw [hT p hp] at e
          cases e
          exact .inr (.inl ⟨((hC p hp).tab (hT p hp)).isCodeTable, rfl, #[], more, rfl, by rw [Array.empty_append]; exact hm⟩)
        · exact .inl (key b o hb e)
      · by_cases hb : b ∈ cs.map (·.2)
        · obtain ⟨p, hp, ep⟩ := List.mem_map.mp hb
          obtain ⟨more, hm⟩ := grown p hp
          rw [← ep]
          exact ⟨_, hm⟩
        · exact ⟨o, key b o hb e⟩
end
end CM
namespace CM
open PySem PySem.Spec PySem.Calls PyProof.Rows L2
/-- a def of the text; its code object stands at c -/
structure FunC (K : PySem.W.Frag) (nm qual : Str) (st : Stmt) (f : Addr) (fd : FuncData) (c : Addr) : Prop where
  ex : ∃ (oc : Value) (od : Option Addr) (kV doc pm : Value) (an : Option Addr) (ct : Value) (osl : Array (Option Value)),
    fd = PySem.W.fnOf nm qual (defArgs st) (defBody st) (defScope st) .none kV doc pm an (.ref c) ct ∧ K.lookup f = some ⟨oc, od, .func fd, osl⟩ ∧ PySem.W.codeIn K (.ref c) qual = true
section
variable {P : Program} {w : World} {K : PySem.W.Frag} {mg : Str → Option Value} {base : Heap} {CA : CAs} {g : Bool}
theorem func_mk {nm qual : Str} {st : Stmt} {f c : Addr} {oc : Value} {od an : Option Addr} {osl : Array (Option Value)} {kV doc pm ct : Value} (l : K.lookup f = some ⟨oc, od, .func (PySem.W.fnOf nm qual (defArgs st) (defBody st) (defScope st) .none kV doc pm an (.ref c) ct), osl⟩) (h : PySem.W.codeIn K (.ref c) qual = true) :
    FunC K nm qual st f (PySem.W.fnOf nm qual (defArgs st) (defBody st) (defScope st) .none kV doc pm an (.ref c) ct) c := ⟨_, _, _, _, _, _, _, _, rfl, l, h⟩
theorem FnG.mkL {nm qual : Str} {st : Stmt} {f c : Addr} {fd : FuncData} {N ps : List Str} {k : Nat} {sp : Sp} (F : FunC K nm qual st f fd c) (S : FnScope N ps (defScope st)) (ln : ∀ vs H Q E, sp vs H Q E → vs.length = ps.length)
    (body : ∀ (A : Around) (outer : List Env) (s : Shared) (H : Hp) (vs : List V) (Q : VK) (E : XK), (g = true → A.guards = some []) → Room k (A.deeper (envOfC qual (defScope st) s.heap.objs.size f (.ref c))) → sp vs H Q E →
      ∃ t, PSs (cxD P w K mg base N qual st f (.ref c) A outer s H E) (defBody st) t ∧ t { nx := fun _ H2 => Q .non H2, rt := Q } (start N vs) H) : FnG P w K mg base g (k + 1) f fd ps sp := by
  obtain ⟨x1, x2, x4, x5, x6, x7, x8, x9, rfl, look, code⟩ := F.ex
  refine ⟨ln, fun A outer s H args us vs Q E hg room e0 bd rv hs => ?_⟩
  have len1 := ln _ _ _ _ hs
  have kin : K.In s.heap := e0.mod.kin.keeps fun b o e => (e0.bs b o e).1
  have nl : s.heap.NoLimit := e0.mod.nolimit.keeps fun b o e => (e0.bs b o e).1
  have kinds : ∀ y, y ∈ ps.zip us → (defScope st).names.lookup y.1 = some .local ∨ ((defScope st).names.lookup y.1 = some .cell ∧ ((cellsFrom (s.heap.objs.size + 1) (defScope st).names []).lookup y.1).isSome = true) := by
    rintro ⟨a, b⟩ hm
    exact (S.par a (List.of_mem_zip hm).1).imp id fun q => ⟨q, PySem.W.cellsFrom_some _ _ _ (.inl q)⟩
  refine codeAny_call_function room.depth (kin _ _ look) rfl S.co S.gen rfl (PySem.W.codeRec_of kin code) (bd _ _ _ _ (wpAny_newFunctionEnv_cells S.kind kinds fun env ee s1 hc => ?_))
  cases ee
  refine ⟨nl.keeps hc.toInCall.keep, codeAny_func ?_⟩
  obtain ⟨t, ht, hq⟩ := body A outer s H vs Q E hg (room.deeper _) hs
  have inv : Inv (cxD P w K mg base N qual st f (.ref c) A outer s H E) [] (start N vs) H s1 := inv_start S room.hd e0 len1 rv hc
  have back : ∀ {σ' : L2.St} {H2 : Hp} {v : V} {u : Value} {s2 : Shared}, Inv (cxD P w K mg base N qual st f (.ref c) A outer s H E) [] σ' H2 s2 → RelV v u → Q v H2 → CE outer P w H s Q u s2 := fun {_ H2 v _ _} J r q => ⟨v, H2, J.os, J.bare, J.base, J.hok, r, q⟩
  refine wpAny_mono (ht.run [] s1 (start N vs) H _ inv hq) (fun fl s2 h2 => ?_) fun _ _ z => z
  rcases fl with _ | _ | _ | u
  · obtain ⟨_, _, J, q⟩ := h2
    exact back (v := V.non) (u := Value.none) J rfl q
  · obtain ⟨_, _, _, q⟩ := h2; exact False.elim q
  · obtain ⟨_, _, _, q⟩ := h2; exact False.elim q
  · obtain ⟨_, _, _, J, r, q⟩ := h2
    exact back J r q
/-- a def that makes lambdas, by the reading of its body -/
theorem okDL {nm qual : Str} {st : Stmt} {f c : Addr} {fd : FuncData} {N ps : List Str} {k n l : Nat} {u : SD} (F : FunC K nm qual st f fd c) (S : FnScope N ps (defScope st)) (hm : ps.length = l) (hn : N.length = n)
    (hb : ∀ (A : Around) (outer : List Env) (s : Shared) (H : Hp) (E : XK), (g = true → A.guards = some []) → Room k (A.deeper (envOfC qual (defScope st) s.heap.objs.size f (.ref c))) →
      Takes (cxD P w K mg base N qual st f (.ref c) A outer s H E) (wxD E) → ∃ tS, WSs (cxD P w K mg base N qual st f (.ref c) A outer s H E) K CA (wxD E) (defBody st) tS u) : FnG P w K mg base g (k + 1) f fd ps (spD K CA l (bodyF n u)) := by
  subst hm hn
  refine FnG.mkL F S (fun vs H Q E h => h.1) fun A outer s H vs Q E hg hr h => ?_
  obtain ⟨hl, m, ch, ds, hR, r, q⟩ := h
  obtain ⟨t, ws⟩ := hb A outer s H E hg hr (takes_of rfl rfl rfl rfl)
  have hle : vs.length ≤ N.length := by
    have := congrArg List.length S.pre
    rw [List.length_take] at this
    omega
  exact ⟨t, ws.pe, ws.sim m ch H _ _ _ (so_start N hle hR r) (res_post q)⟩
/-- x is the def that calls what it gets and tells the exception of the class cs, or None -/
structure Cgt (K : PySem.W.Frag) (CA : CAs) (mg : Str → Option Value) (x : Str) (cs : Nat) : Prop where
  ex : ∃ (g : Addr) (a : Str) (pg : Arguments) (bg : List Stmt) (sg : Scope) (kV doc pm cdv ct oc : Value) (an od : Option Addr) (osl : Array (Option Value)) (Ng : List Str),
    mg x = some (.ref g) ∧ PySem.W.keepIn K (.ref g) = true ∧ K.lookup g = some ⟨oc, od, .func (PySem.W.fnOf x x pg bg sg .none kV doc pm an cdv ct), osl⟩ ∧ PySem.W.codeIn K cdv x = true ∧
    L2.Binds K (PySem.W.fnOf x x pg bg sg .none kV doc pm an cdv ct) [a] [] ∧ FnScope Ng [a] sg ∧ Ng[0]? = some a ∧ Vis sg a ∧ (a == ("__debug__" : Str)) = false ∧ (a == ("__classdict__" : Str)) = false ∧
    ∀ (X : Cx) (q : Str), X.K = K → X.mg = mg → LamX.GivesTo X Ng x sg g cdv bg a q (TCaught K (CA cs))
theorem cgt_mk {x a e c n : Str} {sg : Scope} {g : Addr} {cs : Nat} {pg : Arguments} {kV doc' pm cdv ct oc : Value} {an od : Option Addr} {osl : Array (Option Value)} {j1 : Nat} {p1 p2 p3 p4 p7 p8 q2 q3 q4 q5 q6 q7 q8 q9 : Pos}
    (lk : K.lookup g = some ⟨oc, od, .func (PySem.W.fnOf x x pg [.Assign [.Name c q2] (.Constant .none j1 q3) q4, .Try [.Expr (.Call (.Name a p1) [] [] p2) p3] [.ExceptHandler (some (.Name e p4)) (some n) [.Assign [.Name c q5] (.Name n q6) q7] p7] [] [] p8, .Return (some (.Name c q8)) q9] sg .none kV doc' pm an cdv ct), osl⟩)
    (hc0 : PySem.W.codeIn K cdv x = true) (hk : PySem.W.keepIn K (.ref g) = true) (hm : mg x = some (.ref g)) (hme : mg e = some (.ref (CA cs))) (hb : L2.Binds K (PySem.W.fnOf x x pg [.Assign [.Name c q2] (.Constant .none j1 q3) q4, .Try [.Expr (.Call (.Name a p1) [] [] p2) p3] [.ExceptHandler (some (.Name e p4)) (some n) [.Assign [.Name c q5] (.Name n q6) q7] p7] [] [] p8, .Return (some (.Name c q8)) q9] sg .none kV doc' pm an cdv ct) [a] [])
    (S : FnScope [a, c, n] [a] sg) (hge : sg.names.lookup e = some .globalImplicit) (hde : (e == ("__debug__" : Str)) = false) (ha : sg.names.lookup a = some .local) (hc : sg.names.lookup c = some .local) (hn : sg.names.lookup n = some .local)
    (da : (a == ("__debug__" : Str)) = false) (da2 : (a == ("__classdict__" : Str)) = false) (hd1 : (c == ("__debug__" : Str)) = false) (hd2 : (n == ("__debug__" : Str)) = false) (hd3 : (c == ("__classdict__" : Str)) = false) (hd4 : (n == ("__classdict__" : Str)) = false) : Cgt K CA mg x cs :=
  ⟨g, a, pg, _, sg, kV, doc', pm, cdv, ct, oc, an, od, osl, [a, c, n], hm, hk, lk, hc0, hb, S, rfl, .inl ha, da, da2, fun X q hK hmg => by
    subst hK hmg
    exact caught_gives hge hme hde S hc hn hd1 hd2 hd3 hd4⟩
end
end CM
namespace CM
open PySem PySem.Spec PyProof.Rows L2
def fRepA : FD := fun ds h => match ds with
  | [.non] => .ok (.str "None") h
  | [.bl b] => .ok (.str (if b then "True" else "False")) h
  | [.str x] => if (reprText x).length ≤ sizeLine then .ok (.str (reprText x)) h else .no
  | _ => fRep ds h
def rRepA (K : PySem.W.Frag) : List V → Hp → VK → Prop := fun xs H Q => (xs = [.non] ∧ Q (.str "None") H) ∨ (∃ b, xs = [.bl b] ∧ Q (.str (if b then "True" else "False")) H) ∨
  (∃ x, xs = [.str x] ∧ (reprText x).length ≤ sizeLine ∧ Q (.str (reprText x)) H) ∨ rRep K xs H Q
section
variable {X : Cx} {K : PySem.W.Frag} {CA : CAs}
theorem call_repA (sm : SM X.base) (hG : X.A.guards = some []) (hu : X.A.units + 64 < cLine) (hK : X.K = K := by rfl) : CallR X (.builtin "repr") (rRepA K) := by
  rintro pins s σ H xs us Q I r (⟨rfl, q⟩ | ⟨b, rfl, q⟩ | ⟨x, rfl, l, q⟩ | q)
  · obtain ⟨u, rfl, rfl⟩ := vals1 r
    exact PySem.P.repr_of_none ⟨.str _, H, I.tok _, ⟨_, rfl⟩, q⟩
  · obtain ⟨u, rfl, rfl⟩ := vals1 r
    exact PySem.P.repr_of_bool ⟨.str _, H, I.tok _, ⟨_, rfl⟩, q⟩
  · obtain ⟨u, rfl, t, rfl⟩ := vals1 r
    exact PySem.call_repr_gives (typeIs_str s x t) F.slot_str_repr F.entry_str_repr (F.args_str_repr_1 _) (gives_str_repr x t) (show EP X pins σ Q _ _ from ⟨.str _, H, I.tok _, ⟨_, rfl⟩, q⟩) (hx := l)
  · exact call_rep sm hG hu hK pins s σ H xs us Q I r q
theorem sim_repA : SimC K CA (rRepA K) fRepA := by
  intro W σ m h H xs ds Q' S r t
  unfold fRepA at t
  split at t
  · cases r with
    | cons r1 r2 => cases r1; cases r2; exact .inl ⟨rfl, t.here S (.str _)⟩
  · cases r with
    | cons r1 r2 => cases r1; cases r2; exact .inr (.inl ⟨_, rfl, t.here S (.str _)⟩)
  · cases r with
    | cons r1 r2 =>
      cases r1; cases r2
      obtain ⟨c, t⟩ := post_ite t
      exact .inr (.inr (.inl ⟨_, rfl, c, t.here S (.str _)⟩))
  · exact .inr (.inr (.inr (sim_rep W σ m h H xs ds Q' S r t)))
end
end CM
namespace CM
open PySem PySem.Spec PyProof.Rows L2
end CM
namespace CM
open PySem PySem.Spec PyProof.Rows L2
def dStar (ta : TD) (ts : TDs) : TDs := fun ρ h => (ta ρ h).bind fun d h => match seqOf h d with
  | some xs => (ts ρ h).bind fun ys h => .ok (xs ++ ys) h
  | none => .no
section
variable {X : Cx} {K : PySem.W.Frag} {CA : CAs} {W : WX} {e : Expr} {es : List Expr} {pos p sp_ : Pos} {ha : TE} {ta : TD} {hs : TA} {ts : TDs}
theorem rps_app {m : Mp} {h : CH} {H : Hp} : ∀ {xs ys : List V} {ds es : List D}, RpAll K CA m h H xs ds → RpAll K CA m h H ys es → RpAll K CA m h H (xs ++ ys) (ds ++ es)
  | [], _, _, _, a, b => by cases a; exact b
  | x :: xs, _, _, _, a, b => by
    cases a with
    | cons a1 a2 => exact .cons a1 (rps_app a2 b)
/-- *e among the arguments -/
theorem wa_star (x : WE X K CA W e ha ta) (y : WA X K CA W es hs ts) (hK : X.K = K := by rfl) (hst : starEach (.Starred e sp_ :: es) X.env = (true, eval e X.env) :: starEach es X.env := by rfl) : WA X K CA W (.Starred e sp_ :: es) (StX.tStar K ha hs) (dStar ta ts) := by
  subst hK
  refine ⟨StX.pa_star x.pe y.pe hst, fun m h H σ ρ Q' S t => x.sim m h H σ ρ _ S (t.bind fun d h1 m1 v H1 s1 S1 r1 t1 => ?_)⟩
  split at t1
  · rename_i xs e1
    obtain ⟨a, zs, rfl, q, rr⟩ := rp_seq S1 r1 e1
    refine ⟨a, zs, rfl, q.symm, y.sim m1 h1 H1 σ ρ _ (S.move s1 S1) (t1.bind fun ys h2 m2 ws H2 s2 S2 r2 t2 => ?_)⟩
    exact t2.here S2 (rps_app (rr.move s2) r2)
  · exact t1.elim
end
end CM
namespace CM
open PySem PySem.Spec PyProof.Rows L2
end CM
namespace CM
open PySem PySem.Spec PyProof.Rows L2
end CM
namespace CM
open PySem PySem.Spec PyProof.Rows L2
def dGL {α : Type} (tg : TGD) (tt : TB) (body : α → DE → CH → R α) (ρ0 : DE) : α → List D → CH → R α
  | acc, [], h => .ok acc h
  | acc, d :: r, h => (tg d ρ0 h).calm fun ρ2 h => (tt ρ2 h).calm fun b h => if b = true then (body acc ρ2 h).calm fun acc h => dGL tg tt body ρ0 acc r h else dGL tg tt body ρ0 acc r h
section
variable {K : PySem.W.Frag} {CA : CAs} {α : Type}
/-- what a reading with an account ends with, the object at a being its own -/
def PB (K : PySem.W.Frag) (CA : CAs) (a : Addr) (m : Mp) (h : CH) (H : Hp) (P : α → Mp → CH → Hp → Prop) : R α → Prop
  | .ok x h' => ∀ m' H', Sc a m h H m' h' H' → HR K CA m' h' H' → P x m' h' H'
  | _ => False
theorem PB.base {a : Addr} {m m2 : Mp} {h h2 : CH} {H H2 : Hp} {P : α → Mp → CH → Hp → Prop} {r : R α} (s : Sc a m h H m2 h2 H2) (q : PB K CA a m h H P r) : PB K CA a m2 h2 H2 P r := by
  cases r with
  | ok x h' => exact fun m' H' s' S' => q m' H' (s.trans s') S'
  | ex => exact q
  | no => exact q
theorem PB.calm {β : Type} {a : Addr} {m : Mp} {h : CH} {H : Hp} {P : α → Mp → CH → Hp → Prop} {r : R β} {k : β → CH → R α} (q : PB K CA a m h H P (r.calm k)) : ∃ b h', r = .ok b h' ∧ PB K CA a m h H P (k b h') := by
  cases r with
  | ok b h' => exact ⟨b, h', rfl, q⟩
  | ex => exact q.elim
  | no => exact q.elim
variable {RA : Addr → α → Mp → CH → Hp → Prop} {tb : Addr → L2.St → Hp → (Hp → Prop) → Prop} {body : α → DE → CH → R α} {gH : TG} {tg : TGD} {hT : TT} {tt : TB} {vs sl : List Nat} {J : It} {ds : List D} {m0 m1 : Mp} {h0 h1 : CH} {H0 H1 : Hp} {σ : L2.St} {ρ : DE} {a : Addr} {x : α} {Done : Hp → Prop}
end
end CM
namespace CM
open PySem PySem.Spec PyProof.Rows L2
section
variable {K : PySem.W.Frag} {CA : CAs}
def bK (tk tv : TD) : List (Key × D) → DE → CH → R (List (Key × D)) := fun acc ρ h => (tk ρ h).calm fun y h => (tv ρ h).calm fun z h => match keyD y with
  | some k => if acc.length < sizeLine then .ok (dPut acc k z) h else .no
  | none => .no
variable {hk hv : TE} {tk tv : TD} {hs : TA} {ts : TDs}
end
end CM
namespace CM
open PySem PySem.Spec PyProof.Rows L2
end CM
namespace CM
open PySem PySem.Spec PyProof.Rows L2
def b2 (ti : TDw) (tg : TGD) (tt : TB) (tk tv : TD) (vs1 : List Nat) : List (Key × D) → DE → CH → R (List (Key × D)) := fun acc ρ h => (ti ρ h).calm fun w h => match w.2 with
  | none => dGL tg tt (bK tk tv) (wipeD ρ vs1) acc w.1 h
  | some _ => .no
end CM
namespace CM
open PySem PySem.Spec PyProof.Rows L2
end CM
namespace CM
open PySem PySem.Spec PyProof.Rows L2
end CM
namespace CM
open PySem PySem.Spec PyProof.Rows L2
end CM
namespace CM
open PySem PySem.Spec PyProof.Rows L2
end CM
namespace CM
open PySem PySem.Spec PyProof.Rows L2
end CM
namespace CM
open PySem PySem.Spec PyProof.Rows L2
end CM
namespace CM
open PySem PySem.Spec PyProof.Rows L2
end CM
namespace CM
open PySem PySem.Spec PyProof.Rows L2
end CM
namespace CM
open PySem PySem.Spec PyProof.Rows L2
end CM
namespace CM
open PySem PySem.Spec PyProof.Rows L2
end CM
namespace CM
open PySem PySem.Spec PyProof.Rows L2
end CM
namespace CM
open PySem PySem.Spec PyProof.Rows L2
theorem we_gvM {X : Cx} {K : PySem.W.Frag} {CA : CAs} {W : WX} {mg : Str → Option Value} {x : Str} {p : Pos} {d : D} (G : GV K CA mg x d) (hd : (x == ("__debug__" : Str)) = false := by decide) (hg : Gl X x := by rfl) (hm : X.mg = mg := by rfl) : WE X K CA W (.Name x p) (L2.tC G.v) (dC d) := by
  subst hm
  exact we_gv G hg hd
end CM
namespace CM
open PySem PySem.Spec PySem.Calls PyProof.Rows L2
section
variable {X : Cx} {pins : List (Addr × Obj)} {σ : L2.St} {H : Hp} {s : Shared}
/-- the function object of a lambda -/
abbrev lamO (X : Cx) (params : Arguments) (body : Expr) (scope : Scope) (pm : Value) (c' : Addr) (ctv : Value) : Obj := PySem.W.kla_obj "<lambda>" (X.env.qual ++ "<lambda>") params body scope (cloFrom X.env.cells scope.names []) pm c' ctv
theorem unpinV {p : Addr × Obj} (I : Inv X (p :: pins) σ H s) : Inv X pins σ H s := I.pins_of fun r hr => I.pin r (List.mem_append_right _ (List.mem_cons_of_mem _ hr))
end
end CM
namespace CM
open PySem PySem.Spec PyProof.Rows L2
def keyS (e : Int × Value) : Str := match e.2 with | .str x _ => x | _ => ⟨#[]⟩
def GoodS (P : Program) (w : World) (e : Int × Value) : Prop := ∃ x u, e.2 = Value.str x u ∧ e.1 = (PySem.strKind P w).hash x
/-- a set of texts whose table rises -/
def SetT (P : Program) (w : World) (h : Heap) (a : Addr) (ss : List Str) : Prop :=
  ∃ b zs ep t, h.get? a = some b ∧ b.ExactSet ∧ b.data = .set zs ep t ∧ ((∀ e ∈ zs.toList, GoodS P w e) ∧ (zs.toList.map keyS).Nodup ∧ (∀ x, x ∈ ss ↔ x ∈ zs.toList.map keyS)) ∧
    zs.size < scanBound ∧ t.fits zs.size = true ∧ zs.size = ss.length ∧ (Ris t.place.toList ∧ (w.params.followText "set-order" = true ∨ t.led = true))
section
variable {P : Program} {w : World} {A : Around} {E : Value → Shared → Prop} {s : Shared} {a : Addr} {ss : List Str}
theorem elemsS {l : List (Int × Value)} (g : ∀ e ∈ l, GoodS P w e) : ElemsOf (PySem.strKind P w) l := fun e he => by
  obtain ⟨x, u, q1, q2⟩ := g e he
  exact ⟨⟨x, by rw [q1]; exact strKind_is P w x u, q2⟩, by rw [q1] <;> rfl⟩
theorem isS {e : Int × Value} (g : GoodS P w e) (x : Str) : (PySem.strKind P w).is x e.2 = true ↔ keyS e = x := by
  obtain ⟨y, u, q, _⟩ := g
  unfold keyS
  rw [q]
  show ((y == x) = true) ↔ y = x
  exact beq_iff_eq
theorem memS {l : List (Int × Value)} (g : ∀ e ∈ l, GoodS P w e) (x : Str) : x ∈ l.map keyS ↔ ∃ e ∈ l, (PySem.strKind P w).is x e.2 = true := by
  rw [List.mem_map]
  exact ⟨fun ⟨e, he, q⟩ => ⟨e, he, (isS (g e he) x).2 q⟩, fun ⟨e, he, q⟩ => ⟨e, he, (isS (g e he) x).1 q⟩⟩
theorem setT_tail {g : Bool → Sem Unit} (hg : ∀ (b : Bool) (s1 : Shared) (Q1 : Unit → Shared → Prop), Q1 () s1 → wpAny (model P w) A (g b) Q1 E s1)
    {b : Obj} {zs : Array (Int × Value)} {ep : Nat} {t : SetTable} (hb : s.heap.get? a = some b) (hx : b.ExactSet) (hd : b.data = .set zs ep t)
    {ys : Array (Int × Value)} {t2 : SetTable} (gd : (∀ e ∈ ys.toList, GoodS P w e) ∧ (ys.toList.map keyS).Nodup ∧ (∀ x, x ∈ ss ↔ x ∈ ys.toList.map keyS))
    (lb : ys.size < scanBound) (lf : t2.fits ys.size = true) (ln : ys.size = ss.length) (hr : Ris t2.place.toList ∧ (w.params.followText "set-order" = true ∨ t2.led = true)) {dm : Bool} {R : Option Bool → Shared → Prop}
    (hR : ∀ h1, Heap.SameBut a s.heap h1 → SetT P w h1 a ss → R (some true) { s with heap := h1 }) :
    wpAny (model P w) A (do
        storeSet a ys t2
        if (!dm && t2.tooFull) = true then do
            g (relayAll t2 ys (SetTable.grown ys.size)).2.2
            storeSet a (relayAll t2 ys (SetTable.grown ys.size)).1 (relayAll t2 ys (SetTable.grown ys.size)).2.1
            pure (some true)
          else pure (some true)) R E s := by
  refine wpAny_bind (wpAny_storeSet_of hb hd ?_ (fits_of_scanBound lb))
  have h1 := store_at (es' := ys) (t' := t2) hb hd
  have sb := Heap.SameBut.update s.heap a (Obj.putSet ys t2)
  split
  · have pm := relayAll_perm t2 ys (SetTable.grown ys.size)
    have f3 := relayAll_fits t2 ys (SetTable.grown ys.size)
    have r3 := relayAll_ris t2 ys (SetTable.grown ys.size)
    have l3 := relayAll_led t2 ys (SetTable.grown ys.size)
    generalize relayAll t2 ys (SetTable.grown ys.size) = Z at pm f3 r3 l3 ⊢
    obtain ⟨us, t3, gave⟩ := Z
    dsimp only at pm f3 r3 l3 ⊢
    have e3 : us.size = ys.size := by rw [← Array.length_toList, pm.length_eq, Array.length_toList]
    refine wpAny_bind (hg _ _ _ ?_)
    refine wpAny_bind (wpAny_storeSet_of h1 rfl ?_ (fits_of_scanBound (e3 ▸ lb)))
    refine wpAny_pure (hR _ (sb.trans (Heap.SameBut.update _ a _)) ?_)
    exact ⟨_, us, _, t3, store_at (es' := us) (t' := t3) h1 rfl, hx, rfl, ⟨fun e he => gd.1 e (pm.mem_iff.mp he), (pm.map keyS).nodup_iff.mpr gd.2.1, fun x => (gd.2.2 x).trans (pm.map keyS).mem_iff.symm⟩, e3 ▸ lb, f3, e3.trans ln, r3,
      hr.2.imp id fun z => by rw [l3]; exact z⟩
  · exact wpAny_pure (hR _ sb ⟨_, ys, _, t2, h1, hx, rfl, gd, lb, lf, ln, hr⟩)
theorem setT_add {x : Str} {u : Tok} {Q : Bool → Shared → Prop} (R : SetT P w s.heap a ss) (room : ss.length + 1 < scanBound)
    (hQ : ∀ b h1, Heap.SameBut a s.heap h1 → SetT P w h1 a (if x ∈ ss then ss else ss ++ [x]) → Q b { s with heap := h1 }) :
    wpAny (model P w) A (setAddHashed a (.str x u) ((PySem.strKind P w).hash x)) Q E s := by
  obtain ⟨b, zs, ep, t, hb, hx, hd, ⟨gd, nd, mm⟩, lb, lf, ln, hr, hl⟩ := R
  have k1 : (PySem.strKind P w).is x (.str x u) = true := strKind_is P w x u
  have k2 : (Value.str x u).scannable = true := rfl
  have el : ElemsOf (PySem.strKind P w) zs.toList := elemsS gd
  unfold setAddHashed setAddHashedIn
  refine wpAny_holding (wpAny_bind (wpAny_setState_of hb hd lf ?_))
  dsimp only
  rw [byScan_of k2 lb el]
  simp only [↓reduceIte]
  unfold setAddByScan
  refine wpAny_bind ?_
  refine wpAny_bind (wpAny_rule ?_)
  refine wpAny_bind (wpAny_setScan_of k1 hb hd lf el ?_)
  cases fi : List.findIdx? (fun e => (PySem.strKind P w).is x e.2) zs.toList with
  | some j =>
    dsimp only
    obtain ⟨hj, pj, _⟩ := List.findIdx?_eq_some_iff_getElem.mp fi
    have ix : x ∈ ss := (mm x).2 ((memS (P := P) (w := w) gd x).2 ⟨zs.toList[j], List.getElem_mem hj, pj⟩)
    refine wpAny_pure (wpAny_pure ?_)
    exact hQ _ s.heap (Heap.SameBut.refl a s.heap) (by rw [if_pos ix]; exact ⟨b, zs, ep, t, hb, hx, hd, ⟨gd, nd, mm⟩, lb, lf, ln, hr, hl⟩)
  | none =>
    dsimp only
    have nk : x ∉ zs.toList.map keyS := fun z => by
      obtain ⟨e, he, q⟩ := (memS (P := P) (w := w) gd x).1 z
      have c := List.findIdx?_eq_none_iff.mp fi e he
      rw [q] at c
      cases c
    have ix : x ∉ ss := fun z => nk ((mm x).1 z)
    rw [if_neg ix] at hQ
    have gw : ∀ (b : Bool) {s1 : Shared} {Q1 : Unit → Shared → Prop}, Q1 () s1 → wpAny (model P w) A (match b with | true => rule "set.scan.the-table-gave-way" | false => pure ()) Q1 E s1 :=
      fun b s1 Q1 q => by cases b <;> first | exact wpAny_pure q | exact wpAny_rule q
    have pm := layNew_perm t zs ((PySem.strKind P w).hash x) (.str x u)
    have f1 := layNew_fits t zs ((PySem.strKind P w).hash x) (.str x u)
    have r1 := layNew_ris t zs ((PySem.strKind P w).hash x) (.str x u) hr
    have l1 := layNew_led t zs ((PySem.strKind P w).hash x) (.str x u)
    generalize layNew t zs ((PySem.strKind P w).hash x) (.str x u) = Z at pm f1 r1 l1 ⊢
    obtain ⟨ys, t1, dm, gave⟩ := Z
    dsimp only at pm f1 r1 l1 ⊢
    rw [Array.toList_push] at pm
    have pc : ys.toList.Perm (((PySem.strKind P w).hash x, Value.str x u) :: zs.toList) := pm.trans (List.perm_append_singleton _ _)
    have pk : (ys.toList.map keyS).Perm (x :: zs.toList.map keyS) := pc.map keyS
    have g1 : (∀ e ∈ ys.toList, GoodS P w e) ∧ (ys.toList.map keyS).Nodup ∧ (∀ y, y ∈ ss ++ [x] ↔ y ∈ ys.toList.map keyS) := by
      refine ⟨fun e he => ?_, pk.nodup_iff.mpr (List.nodup_cons.mpr ⟨nk, nd⟩), fun y => ?_⟩
      · rcases List.mem_cons.mp (pc.mem_iff.mp he) with z | z
        · rw [z]; exact ⟨x, u, rfl, rfl⟩
        · exact gd e z
      · rw [List.mem_append, List.mem_singleton, mm y, pk.mem_iff, List.mem_cons]
        exact Or.comm
    have z1 : ys.size = (ss ++ [x]).length := by rw [← Array.length_toList, pc.length_eq, List.length_cons, Array.length_toList, ln, List.length_append]; rfl
    have b1 : ys.size < scanBound := by rw [z1, List.length_append]; exact room
    have hled : w.params.followText "set-order" = true ∨ t1.led = true := hl.imp id fun z => by rw [l1]; exact z
    refine wpAny_bind (gw _ ?_)
    split
    · refine wpAny_bind ?_
      rw [hashByValue_scannable 8 k2]
      refine wpAny_pure ?_
      refine setT_tail (ss := ss ++ [x]) ?_ hb hx hd g1 b1 ?_ z1 ⟨?_, ?_⟩ ?_
      · intro b s1 Q1 q; cases b <;> first | exact wpAny_pure q | exact wpAny_rule q
      · first | (split <;> first | exact f1 | exact SetTable.fits_plain_off f1) | exact f1
      · first | (split <;> exact r1) | exact r1
      · first | (split <;> exact hled) | exact hled
      · intro h1 sb r; dsimp only; exact wpAny_pure (hQ _ h1 sb r)
    · refine wpAny_bind (wpAny_pure ?_)
      simp only [↓reduceIte]
      refine setT_tail (ss := ss ++ [x]) ?_ hb hx hd g1 b1 f1 z1 ⟨r1, hled⟩ ?_
      · intro b s1 Q1 q; cases b <;> first | exact wpAny_pure q | exact wpAny_rule q
      · intro h1 sb r; dsimp only; exact wpAny_pure (hQ _ h1 sb r)
theorem setT_new {h : Heap} (hb : h.get? a = some (eSet w)) : SetT P w h a [] :=
  ⟨_, #[], 0, _, hb, ⟨rfl, rfl, rfl⟩, rfl, ⟨fun e he => by simp at he, by simp, fun x => by simp⟩, by decide, by rfl, rfl, List.Pairwise.nil, by
    show _ ∨ (!w.params.followText "set-order") = true
    cases w.params.followText "set-order"
    · exact .inr rfl
    · exact .inl rfl⟩
/-- the texts are added one by one -/
theorem fill_setT {I : Addr} {fp wr : List Addr} {G : Array GenState → Array GenState → Prop} {n : Nat} {Pv : Nat → Value → Prop} {St : Nat → Shared → Prop} {R : Result → Shared → Prop}
    (Wk : WalksS P w A.in1 I fp wr G n Pv St) (D : Addr) (nf : D ∉ fp) (zs : List Str) (nz : n = zs.length) (room : zs.length + 1 < scanBound) (vals : ∀ i v, Pv i v → ∃ k t, zs[i]? = some k ∧ v = .str k t) :
    ∀ (k i : Nat) (s : Shared), n - i = k → i ≤ n → St i s → SetT P w s.heap D (ded (zs.take i)) →
      (∀ s1, Moved (D :: wr) G s s1 → SetT P w s1.heap D (ded zs) → R (.ok (.ret .none)) s1) →
      codeAny (model P w) A (.builtin "set.update.loop" ⟨[.ref D, .ref I], []⟩) R s := by
  have nw : D ∉ wr := fun h => nf (Wk.sub _ h)
  have up1 : ∀ b ∈ wr, b ∈ D :: wr := fun b h => List.mem_cons_of_mem _ h
  intro k
  induction k with
  | zero =>
    intro i s hk li st hS fin
    obtain rfl : i = n := by omega
    refine codeAny_builtin PyProof.Rows.F.entry_set_update_loop ?_
    rw [Around.under_plainId PyProof.Rows.F.plain_set_update_loop _]
    show wpAny _ A.in1 (pyNext (.ref I) >>= _) _ _ s
    refine wpAny_bind (Wk.done s _ _ st fun s2 mv => ?_)
    show wpAny _ A.in1 (ret Value.none) _ _ s2
    rw [List.take_of_length_le (show zs.length ≤ i by omega)] at hS
    obtain ⟨o, es, ep, tb, ho, more⟩ := hS
    exact wpAny_pure (fin s2 (mv.mono up1) ⟨o, es, ep, tb, mv.heap D _ nw ho, more⟩)
  | succ k ih =>
    intro i s hk li st hS fin
    have lt : i < n := by omega
    refine codeAny_builtin PyProof.Rows.F.entry_set_update_loop ?_
    rw [Around.under_plainId PyProof.Rows.F.plain_set_update_loop _]
    show wpAny _ A.in1 (pyNext (.ref I) >>= _) _ _ s
    refine wpAny_bind (Wk.item i s _ _ lt st fun v s2 hv st2 mv => ?_)
    obtain ⟨z, t, ez, rfl⟩ := vals i v hv
    have hS2 : SetT P w s2.heap D (ded (zs.take i)) := by
      obtain ⟨o, es, ep, tb, ho, more⟩ := hS
      exact ⟨o, es, ep, tb, mv.heap D _ nw ho, more⟩
    show wpAny _ A.in1 (holding [Value.str z t] (setAdd D (.str z t)) >>= _) _ _ s2
    refine wpAny_bind (wpAny_holding ?_)
    unfold setAdd
    refine wpAny_holding ?_
    refine wpAny_bind ((PySem.strKind P w).pyHash (k := z) (strKind_is _ _ _ _) ?_)
    have small : (ded (zs.take i)).length ≤ zs.length := Nat.le_trans (ded_le _) (by rw [List.length_take]; omega)
    refine setT_add (s := { s2 with toks := s2.toks + 1 }) hS2 (by omega) fun b h3 sb hS3 => ?_
    have e1 : zs.take (i + 1) = zs.take i ++ [z] := by rw [List.take_add_one, ez]; rfl
    have hS4 : SetT P w h3 D (ded (zs.take (i + 1))) := by rw [e1, ded_snoc]; exact hS3
    refine wpAny_pure ⟨plainId_quiet PyProof.Rows.F.plain_set_update_loop _, ih (i + 1) _ (by omega) lt (Wk.frame _ s2 _ _ st2 (Nat.le_succ _) fun b hb o e => ?_) hS4 fun s5 mv5 hS5 => ?_⟩
    · exact (sb.2 b (fun z => nf (z ▸ hb))).trans e
    · exact fin s5 (Moved.trans Wk.gtrans ((mv.mono up1).then_heap (Nat.le_succ _) fun b o hb e => (sb.2 b (fun z => hb (z ▸ List.mem_cons_self))).trans e) mv5) hS5
def unS (v : Value) : Str := match v with | .str x _ => x | _ => ⟨#[]⟩
theorem strs_of : ∀ (l : List Value), (∀ v ∈ l, ∃ x u, v = Value.str x u) → StrsAre l (l.map unS)
  | [], _ => .nil
  | v :: l, h => by
    obtain ⟨x, u, rfl⟩ := h v (List.mem_cons_self ..)
    exact .cons x u (strs_of l fun y hy => h y (List.mem_cons_of_mem _ hy))
theorem sorted_setT {Q : Value → Shared → Prop} (R : SetT P w s.heap a ss) (calm : A.handled = none) (l64 : ss.length < 64) (nd0 : ss.Nodup)
    (hQ : ∀ s1 p (out : Array Value) (c : Nat) (l : List Str), (∀ b o, s.heap.get? b = some o → s1.heap.get? b = some o) → s1.gens = s.gens ∧ s1.os = s.os → s.heap.objs.size ≤ p →
      s1.heap.get? p = some (seqObj "list" out c) → StrsAre out.toList l → l.Perm ss → sortedS l = true → Q (.ref p) s1) :
    wpAny (model P w) A (call (.builtin "sorted") [.ref a]) Q E s := by
  obtain ⟨b, zs, ep, t, hb, hx, hd, ⟨gd, nd, mm⟩, lb, lf, ln, hr, hl⟩ := R
  refine Calls.call_function_entry kind_sorted plain_sorted entry_sorted (args_sorted1 _) ?_
  unfold Builtin.«sorted»
  refine wpAny_bind (m := checkCount "sorted" 1 1 _) (wpAny_pure ?_)
  refine wpAny_bind (collect_set (A := A.in1) calm ⟨b, hb, hx.1, hd⟩ lf lb hr hl fun s1 vs k1 hz g1 o1 pm => ?_)
  have vl : vs.length = ss.length := by rw [pm.length_eq, List.length_map, Array.length_toList]; exact ln
  have hI : StrsAre vs (vs.map unS) := strs_of vs fun v hv => by
    obtain ⟨e, he, q⟩ := List.mem_map.mp (pm.mem_iff.mp hv)
    obtain ⟨x, u, q1, _⟩ := gd e he
    exact ⟨x, u, by rw [← q]; exact q1⟩
  have pk : (vs.map unS).Perm (zs.toList.map keyS) := by
    have q := pm.map unS
    rw [List.map_map] at q
    exact q
  have ps : (zs.toList.map keyS).Perm ss := (List.perm_ext_iff_of_nodup nd nd0).mpr fun x => (mm x).symm
  refine wpAny_bind (wpAny_newList ?_ (by rw [vl, sizeLine_eq]; omega))
  have oL : (s1.heap.push (seqObj "list" vs.toArray 0)).get? s1.heap.objs.size = some (seqObj "list" vs.toArray 0) := Heap.get?_push_size _ rfl
  refine wpAny_bind (wpAny_holding (wpAny_call_entry slot_list_sort ⟨_, oL, rfl⟩ entry_list_sort
    (list_sort_treeK strKind_oneLt oL hI.keysOf (fun v1 v2 rest e => keyKind_strs (by rw [← e]; exact hI)) (by rw [vl]; exact l64) fun st a1 a2 => ⟨_, rfl, ?_⟩) (args_list_sort _)))
  obtain ⟨l, b1, b2, b3⟩ := sorted_out_str hI a1 a2
  obtain ⟨c, hc⟩ := sortedHeap_at (vs := vs) (out := (arrOf st).map (·.2)) oL
  refine wpAny_pure ⟨_, rfl, hQ _ s1.heap.objs.size _ c l (fun b u e => ?_) ⟨g1, o1⟩ hz hc b1 ((b2.trans pk).trans ps) b3⟩
  have q := k1 b u e
  have lt := Heap.lt_size q
  show (sortedHeap (s1.heap.push (seqObj "list" vs.toArray 0)) s1.heap.objs.size vs _).get? b = some u
  rw [sortedHeap_old (Nat.ne_of_lt lt) (by rw [size_push']; exact Nat.lt_succ_of_lt lt)]
  exact Heap.get?_push_of_some _ q
end
theorem dedT_nodup (l : List Str) : (ded l).Nodup := by
  have key : ∀ (l acc : List Str), acc.Nodup → (l.foldl (fun acc x => if x ∈ acc then acc else acc ++ [x]) acc).Nodup := by
    intro l
    induction l with
    | nil => intro acc h; exact h
    | cons y l ih =>
      intro acc h
      rw [List.foldl_cons]
      refine ih _ ?_
      split
      · exact h
      · rename_i c
        refine List.nodup_append.mpr ⟨h, by simp, fun p hp q hq z => ?_⟩
        have : q = y := by simpa using hq
        subst this
        subst z
        exact c hp
  exact key l [] List.nodup_nil
def fSortSetT (nm : Bool) : F1 := fun d h => match seqOf h d with
  | some xs => match strsOf xs with
    | some ss => if ss.length < 64 then mkL nm ((sortS (ded ss)).map D.str) h else .no
    | none => .no
  | none => .no
def tSortSetT (K : PySem.W.Frag) (ta : TE) : TE := fun σ H Q => ta σ H fun x H1 => ∃ a ss, x = V.ref a ∧ (SqL K H1 a (ss.map V.str) ∨ SqT K H1 a (ss.map V.str)) ∧ ss.length < 64 ∧ ∀ p, H1 p = none → Q (.ref p) (upd H1 p (.lst ((sortS (ded ss)).map V.str)))
section
variable {X : Cx} {K : PySem.W.Frag} {CA : CAs} {W : WX} {e : Expr} {p p2 q pos : Pos} {ha : TE} {ta : TD}
theorem pe_sortSetT (hc : X.calm = true) (hg : Gl X "sorted") (hm : X.mg "sorted" = none) (hg2 : Gl X "set") (hm2 : X.mg "set" = none) (ha' : PE X e ha) (hK : X.K = K := by rfl)
    (na : starEach [e] X.env = (false, eval e X.env) :: starEach [] X.env := by rfl) : PE X (.Call (.Name "sorted" p) [.Call (.Name "set" p2) [e] [] q] [] pos) (tSortSetT K ha) := by
  subst hK
  refine ⟨fun pins s σ H Q I h => ?_⟩
  refine Call_ (ld_blt I hg hm boot_sortedU ?_)
  refine PyProof.Rows.callWith_builtin1 (PyProof.Rows.args_cons ?_ rfl) rfl rfl
  refine Call_ (ld_blt I hg2 hm2 boot_set ?_)
  refine PyProof.Rows.callWith_type1 (PyProof.Rows.args_cons (thn (ha'.run pins s σ H _ I h) fun v s1 ⟨x, H1, I1, r1, q1⟩ => PyProof.Rows.args_nil ?_) na) na rfl
  obtain ⟨a, ss, rfl, hs, l3, q2⟩ := q1
  cases r1
  have room : ss.length + 1 < scanBound := by unfold scanBound; omega
  have last : ∀ (h2 : Heap) (tk : Nat), SetT X.prog X.w h2 s1.heap.objs.size (ded ss) → (∀ b o, s1.heap.get? b = some o → h2.get? b = some o) →
      wpAny (model X.prog X.w) X.A (spliced (backTo pos (starEach [] X.env))) (fun vs s₂ => wpAny (model X.prog X.w) X.A (call (.builtin "sorted") (Value.ref s1.heap.objs.size :: vs)) (EP X pins σ Q) X.xe s₂) X.xe { s1 with heap := h2, toks := tk } := fun h2 tk R kp => by
    refine PyProof.Rows.args_nil ?_
    have I2 : Inv X pins σ H1 { s1 with heap := h2, toks := tk } := I1.kept kp
    have ld := ded_le ss
    refine sorted_setT (P := X.prog) R (I1.ok.hd hc) (by omega) (dedT_nodup ss) fun s3 pp out cc l k3 ⟨g3, o3⟩ lp atp isS pl so => ?_
    have eL : sortS (ded ss) = l := (sortS_eq pl so).symm
    have nP := I2.hok.fresh lp
    have lz : (l.map V.str).length ≤ sizeLine := by rw [List.length_map, pl.length_eq]; exact Nat.le_trans ld (Nat.le_trans (Nat.le_of_lt l3) (by decide))
    have I3 : Inv X pins σ (upd H1 pp (.lst (l.map V.str))) s3 :=
      I2.call' (ch := []) o3 (Un.laid k3 lp nP) (I2.hok.laid k3 lp ⟨lz, out.toList, cc, vals_of_strs isS, by rw [Array.toArray_toList]; exact atp⟩) (by rw [g3]; exact I2.bare) (fun _ z => nomatch z)
    rw [← eL] at I3
    exact ⟨.ref pp, _, I3, rfl, q2 pp (I2.hok.fresh lp)⟩
  have fill : ∀ {its : List Value} (hi : StrsAre its ss) (R : Result → Shared → Prop) (I : Addr) (St : Nat → Shared → Prop) (s2 : Shared), s1.heap.objs.size ∉ [I, a] → WalksS X.prog X.w X.A.in1.in1.in1 I [I, a] [I] (fun a b => b = a) its.toArray.size (fun i v => its.toArray[i]? = some v) St → St 0 s2 →
      s2.heap.get? s1.heap.objs.size = some (eSet X.w) → (∀ s3, Moved [s1.heap.objs.size, I] (fun a b => b = a) s2 s3 → SetT X.prog X.w s3.heap s1.heap.objs.size (ded ss) → R (.ok (.ret .none)) s3) →
      codeAny (model X.prog X.w) X.A.in1.in1 (.builtin "set.update.loop" ⟨[.ref s1.heap.objs.size, .ref I], []⟩) R s2 := fun {its} hi R I St s2 nin Wk st at0 fin =>
    fill_setT Wk _ nin ss (by rw [List.size_toArray]; exact StrsAre.len_eq hi) room (vals_of hi) _ 0 s2 rfl (Nat.zero_le _) st (setT_new at0) fun s3 mv hS => fin s3 mv hS
  rcases hs with hs | hs
  · obtain ⟨its, rv, pl, hz⟩ := I1.list hs
    exact set_by_list (I1.ok.hd hc) pl.isList (fill rv.strs) last
  · obtain ⟨its, rv, pl, hz⟩ := I1.tuple hs
    exact set_by_tuple (I1.ok.hd hc) pl (fill rv.strs) last
theorem we_sortSetT (nm : Bool) (x : WE X K CA W e ha ta) (hm : X.mg "sorted" = none) (hm2 : X.mg "set" = none) (hc : X.calm = true := by rfl) (hg : Gl X "sorted" := by rfl) (hg2 : Gl X "set" := by rfl) (hK : X.K = K := by rfl)
    (na : starEach [e] X.env = (false, eval e X.env) :: starEach [] X.env := by rfl) : WE X K CA W (.Call (.Name "sorted" p) [.Call (.Name "set" p2) [e] [] q] [] pos) (tSortSetT K ha) (dUn (fSortSetT nm) ta) :=
  ⟨pe_sortSetT hc hg hm hg2 hm2 x.pe hK na, fun m h H σ ρ Q' S t => x.sim m h H σ ρ _ S (t.bind fun d h1 m1 v H1 s1 S1 r1 t1 => by
    unfold fSortSetT at t1
    split at t1
    · rename_i xs e
      split at t1
      · rename_i ss es
        obtain ⟨l3, t2⟩ := post_ite t1
        obtain ⟨a, zs, rfl, e1, rr⟩ := rp_seq S1 r1 e
        obtain ⟨q1, q2⟩ := rp_strs rr es
        subst q1
        exact ⟨a, ss, rfl, e1, l3, fun p n => mkL_post S1 n (all_strs _) t2⟩
      · exact t1.elim
    · exact t1.elim)⟩
end
end CM
namespace CM
open PySem PySem.Spec PySem.Calls PyProof.Rows L2
/-- a def that is called through the value that the class number c stands for -/
def Dv (X : Cx) (CA : CAs) (n c : Nat) (F : FD) : Prop := ∃ (g : Bool) (k : Nat) (f : Addr) (fd : FuncData) (ps : List Str), CA c = f ∧ ps.length = n ∧ FnG X.prog X.w X.K X.mg X.base g k f fd ps (spD X.K CA ps.length F) ∧ PySem.W.keepIn X.K (.ref f) = true ∧ (g = true → X.A.guards = some []) ∧ Room k X.A ∧ KwB X.K CA fd ps ps.length [] (srcP 0 ps.length)
inductive Dvs (X : Cx) (CA : CAs) (n : Nat) : List (Nat × FD) → Prop where
  | nil : Dvs X CA n []
  | cons {c : Nat} {F : FD} {l : List (Nat × FD)} : Dv X CA n c F → Dvs X CA n l → Dvs X CA n ((c, F) :: l)
theorem Dv.of {X : Cx} {CA : CAs} {n c : Nat} {F : FD} {x : Str} {g : Bool} {k : Nat} {f : Addr} {fd : FuncData} {ps : List Str} (D : Df X.prog X.w X.K X.mg X.base CA x g k ps F f fd) (hc : CA c = f) (hG : g = true → X.A.guards = some []) (hr : Room k X.A) (B : KwB X.K CA fd ps ps.length [] (srcP 0 ps.length)) (hn : ps.length = n := by rfl) : Dv X CA n c F :=
  ⟨g, k, f, fd, ps, hc, hn, D.G, D.hk, hG, hr, B⟩
theorem Dvs.get {X : Cx} {CA : CAs} {n c : Nat} {F : FD} : ∀ {l : List (Nat × FD)}, Dvs X CA n l → l.lookup c = some F → Dv X CA n c F
  | _, .nil, e => by cases e
  | (c', F') :: l, .cons d ds, e => by
    rw [List.lookup_cons] at e
    by_cases z : c = c'
    · subst z
      simp at e
      subst e
      exact d
    · rw [show (c == c') = false from by simpa using z] at e
      exact ds.get e
end CM
namespace CM
open PySem PySem.Spec PySem.Calls PyProof.Rows L2
end CM
namespace PySem
open Sem (wp)
theorem cm_meets_enum {v : Value} {o : Obj} {H : Heap → Prop} (B : Begins v o H) :
    Meets (Builtin.«enumerate.__new__» ⟨[.type "enumerate", v], []⟩) (fun _ R s => H s.heap ∧
      R (.ok (.ret (.ref (s.heap.push o).objs.size))) { s with heap := (s.heap.push o).push { cls := .type "enumerate", data := .fields #[.none, .bool false, .ref s.heap.objs.size, rawInt 0, .none, .none] } }) :=
  .of_wp fun prog w A R s h => by
    obtain ⟨hp, g, d, tk, os⟩ := s; obtain ⟨h1, h⟩ := h
    have hsub := sub_enumerate
    have q1 : ∀ {A' : Around} {E : Value → Shared → Prop} {Q : Value → Shared → Prop}, Q (.ref hp.objs.size) ⟨hp.push o, g, d, tk, os⟩ → wpAny (model prog w) A' (pyIter v) Q E ⟨hp, g, d, tk, os⟩ :=
      fun q => B.iter prog w _ _ ⟨hp, g, d, tk, os⟩ _ h1 q
    wp_walk using q1
    refine wpAny_stack_any fun st => wpAny_pure ?_
    split
    · rename_i c _ _ _ _ _
      cases (c == Value.type "enumerate")
      · wp_walk using q1
        exact ⟨_, rfl, h⟩
      · wp_walk using q1
        exact ⟨_, rfl, h⟩
    · wp_walk using q1
      exact ⟨_, rfl, h⟩
section
variable {prog : Program} {w : World} {A : Around} {E : Value → Shared → Prop} {s : Shared}
theorem cm_enum_begins {v : Value} {o : Obj} {H : Heap → Prop} {Q : Value → Shared → Prop} (B : Begins v o H) (h1 : H s.heap)
    (h : ∀ h', IsEnum h' (s.heap.objs.size + 1) s.heap.objs.size 0 .none → h'.get? s.heap.objs.size = some o → h'.objs.size = s.heap.objs.size + 2 →
      (∀ b o, s.heap.get? b = some o → h'.get? b = some o) → Q (.ref (s.heap.objs.size + 1)) { s with heap := h' }) :
    wpAny (model prog w) A (call (.type "enumerate") [v]) Q E s := by
  refine callType_new F.called_enumerate (by decide) (F.typeCall_enumerate_1 _) (F.newCall_enumerate_1 _) (fun obj => F.args_object_init_2 obj _) F.entry_enumerate_new
    (cm_meets_enum B) ⟨h1, ?_⟩
  have hz : (s.heap.push o).objs.size = s.heap.objs.size + 1 := Heap.size_push ..
  show _ ∧ _
  rw [hz]
  have he : IsEnum ((s.heap.push o).push { cls := .type "enumerate", data := .fields #[.none, .bool false, .ref s.heap.objs.size, rawInt 0, .none, .none] }) (s.heap.objs.size + 1) s.heap.objs.size 0 .none := by
    have := Heap.get?_push_size (s.heap.push o) (o := { cls := .type "enumerate", data := .fields #[.none, .bool false, .ref s.heap.objs.size, rawInt 0, .none, .none] }) rfl
    rw [hz] at this; exact this
  refine ⟨⟨_, he, rfl⟩, h _ he (Heap.get?_push_of_some _ (Heap.get?_push_size _ B.free)) (by rw [Heap.size_push, hz]) fun b o x => Heap.get?_push_of_some _ (Heap.get?_push_of_some _ x)⟩
theorem cm_enum_end {e it t : Addr} {n : Nat} {items : Array Value} {i : Int} {old : Value} {Q : Option Value → Shared → Prop} (hh : A.handled = none)
    (he : IsEnum s.heap e it i old) (hit : s.heap.IsTupleIter it t n) (ht : s.heap.IsTuple t items) (hx : items[n]? = none)
    (hQ : ∀ h', Heap.ExtBut it s.heap h' → Q none { s with heap := h' }) : wpAny (model prog w) A (pyNext (.ref e)) Q E s := by
  have hT : s.TypeIs (.ref e) "enumerate" := ⟨_, he, rfl⟩
  unfold pyNext
  refine wpAny_bind (wpAny_attempt (wpAny_callSpecial?_slot (name := Str.ofString "__next__") hT F.slot_enumerate_next
    (wpAny_call_entry F.slot_enumerate_next hT F.entry_enumerate_next ?_ (F.args_enumerate_next_1 _))))
  show wpAny _ _ (field (.ref e) 2 >>= _) _ _ _
  refine wpAny_bind (wpAny_field he rfl (x := .ref it) rfl ?_)
  refine wpAny_bind (wpAny_nextOf_tuple_end (A := A.in1) hh hit ht hx fun h' x he' hx' => ?_)
  obtain ⟨o, ho, hc⟩ := hx'
  refine wpAny_bind (wpAny_isInstance (T := "StopIteration") (b := true) ⟨o, ho, hc⟩ isSubtype_stop ?_)
  exact wpAny_pure (hQ _ he')
end
end PySem
namespace L2
open PySem PySem.Spec PyProof.Rows
/-- the tuple at a, each item in a new pair -/
def Itet (K : PySem.W.Frag) (a : Addr) : It :=
  ⟨fun i H => ∃ (xs : List V) (x : V), SqT K H a xs ∧ xs[i]? = some x, fun i H v H' => ∃ T x, v = .ref T ∧ H T = none ∧ H' = upd H T (.tup [.int (i : Nat), x]) ∧ ∀ xs, SqT K H a xs → xs[i]? = some x, fun i H => ∃ xs : List V, SqT K H a xs ∧ xs.length ≤ i⟩
theorem turn_enumT {P : Program} {w : World} {K : PySem.W.Frag} {elts : List Expr} {kk : Nat} {tpos : Pos} (a e it : Addr) :
    Turn P w K (.Tuple elts kk tpos) (Itet K a) [e, it] e (fun i h => (∃ old, IsEnum h e it ((i : Nat) : Int) old) ∧ h.IsTupleIter it a i ∧ e ≠ it) where
  mem := by simp
  obj := fun i h st b hb => by
    obtain ⟨⟨old, he⟩, ⟨o, ho, hc, hd⟩, _⟩ := st
    have e' : b = e ∨ b = it := by simpa using hb
    rcases e' with z | z
    · rw [z]; exact ⟨_, he, fun v q => nomatch q⟩
    · rw [z]; exact ⟨o, ho, fun v q => by rw [hd] at q; cases q⟩
  keep := fun i h h' st k => let ⟨⟨old, he⟩, hi, hne⟩ := st; ⟨⟨old, k e (by simp) _ he⟩, hi.at fun o q => k it (by simp) o q, hne⟩
  item := by
    intro X hP hw hK hc i pins s σ H E I hf st hg
    subst hP hw hK
    obtain ⟨⟨old, he⟩, hit, hne⟩ := st
    obtain ⟨xs, x, hq, hx⟩ := hg
    obtain ⟨its, rv, p, hz⟩ := I.tuple hq
    obtain ⟨u, hu, ru⟩ := rv.get hx
    have pt : s.heap.IsTuple a its.toArray := p
    obtain ⟨ot, hot, hct, _⟩ := id pt
    obtain ⟨oi, hoi, hci, _⟩ := id hit
    have ha1 : a ≠ it := fun z => by
      subst z
      rw [hoi] at hot
      cases hot
      rw [hci] at hct
      exact absurd hct (by decide)
    have ha2 : e ≠ a := fun z => by
      subst z
      have he' := he
      unfold IsEnum at he'
      rw [hot] at he'
      cases he'
      exact absurd hct (by simp)
    have hel : e < s.heap.objs.size := Heap.lt_size he
    have hil : it < s.heap.objs.size := Heap.lt_size hoi
    have hl : i < its.toArray.size := by
      have := (List.getElem?_eq_some_iff.mp hu).1
      simpa using this
    have D := Draws.tuple (prog := X.prog) (w := X.w) (A := X.A.in1) (I.ok.hd hc) it a ha1 its.toArray
    refine wpAny_pyNext_enum_itemD D he ⟨hit, pt⟩ hl hne (by simp [hne, ha2]) fun x' h' tk hPx ho hst' hT hsz hk => ?_
    have ex : x' = u := by
      have h1 : its.toArray[i]? = some x' := hPx
      have h2 : its.toArray[i]? = some u := by simpa using hu
      rw [h1] at h2
      exact Option.some.inj h2
    subst ex
    refine ⟨_, rfl, wpAny_letOwnedTupleGo_enum (s := { s with heap := h', toks := tk + 1 }) ho fun h'' he' sb => ?_⟩
    have hT2 : h''.get? s.heap.objs.size = some { cls := .type "tuple", data := .seq #[.int i tk, x'] } := (sb.2 _ (Nat.ne_of_gt hel)).trans hT
    have new : ObjOk X.prog X.w (upd H s.heap.objs.size (.tup [.int (i : Nat), x])) h'' s.heap.objs.size (.tup [.int (i : Nat), x]) :=
      ⟨by show 2 ≤ sizeLine; decide, [.int i tk, x'], .cons ⟨_, rfl⟩ (.cons ru .nil), ⟨_, hT2, rfl, _, rfl⟩⟩
    have I1 : Inv X pins σ (upd H s.heap.objs.size (.tup [.int (i : Nat), x])) { s with heap := h'', toks := tk + 1 } :=
      I.turnedNew (ch := [e, it]) (fun b ob hb q => (sb.2 b (fun z => hb (by simp [z]))).trans (hk b ob (fun z => hb (by simp [z])) (fun z => hb (by simp [z])) q)) hf (Nat.le_refl _) new
    refine ⟨.ref s.heap.objs.size, _, I1, rfl, ⟨_, x, rfl, I.hok.fresh (Nat.le_refl _), rfl, fun ys hy => by rw [I.tuple_inj hy hq]; exact hx⟩, ⟨⟨x', ?_⟩, hst'.1.at fun o q => (sb.2 it (Ne.symm hne)).trans q, hne⟩, fun b hb => ?_⟩
    · have e1 : ((i + 1 : Nat) : Int) = (i : Int) + 1 := by omega
      rw [e1]; exact he'
    · have hb' : b < s.heap.objs.size := by
        have e' : b = e ∨ b = it := by simpa using hb
        rcases e' with z | z
        · rw [z]; exact hel
        · rw [z]; exact hil
      rw [upd_ne (Nat.ne_of_lt hb')]
      exact (hf b hb).1
  done := by
    intro X hP hw hK hc i pins s σ H E I hf st hg
    subst hP hw hK
    obtain ⟨⟨old, he⟩, hit, hne⟩ := st
    obtain ⟨xs, hq, hx⟩ := hg
    obtain ⟨its, rv, p, hz⟩ := I.tuple hq
    obtain ⟨f0, f1, f2, f3, f4, f5⟩ := hf it (by simp)
    have hl := rv.length
    have pt : s.heap.IsTuple a its.toArray := p
    exact cm_enum_end (I.ok.hd hc) he hit pt (by simp; omega) fun h' eb => ⟨rfl, I.turned (t' := s.toks) (fun b o hb q => eb b o hb q) f0 f1 f3 f4 f5⟩
  self := fun A i s Q E st h => let ⟨⟨_, he⟩, _⟩ := st; wpAny_pyIter_enum he h
def iEnumT (K : PySem.W.Frag) (ta : TA) : TI := fun σ H R => ta σ H fun vs H1 => (∃ a xs, vs = [.ref a] ∧ SqL K H1 a xs ∧ R (Ite K a) H1) ∨ ∃ a xs, vs = [.ref a] ∧ SqT K H1 a xs ∧ R (Itet K a) H1
theorem pi_enumT {X : Cx} {e : Expr} {ta : TA} {p pos tpos : Pos} {elts : List Expr} {kk : Nat} (hg : Gl X "enumerate") (hm : X.mg "enumerate" = none) (ha : PA X [e] ta) (hs : starEach [e] X.env = [(false, eval e X.env)] := by rfl) :
    PI X (.Tuple elts kk tpos) (.Call (.Name "enumerate" p) [e] [] pos) (iEnumT X.K ta) := by
  refine ⟨fun pins s σ H R I h => ?_⟩
  refine Call_ (ld_blt I hg hm boot_enumerate (PyProof.Rows.callWith_type1 (thn (ha.run pos pins s σ H _ I h) fun us s1 ⟨vs, H1, I1, r1, q1⟩ => ?_) hs rfl))
  rcases q1 with ⟨a, xs, ex, hq, q⟩ | ⟨a, xs, ex, hq, q⟩
  · subst ex
    cases r1 with
    | cons r rr =>
      cases rr
      cases r
      obtain ⟨its, rv, p', hz⟩ := I1.list hq
      refine call_enumerate_list p'.isList fun h' he hit hsz hk => wpAny_pyIter_enum he ?_
      have I2 : Inv X pins σ H1 { s1 with heap := h' } := I1.kept (t' := s1.toks) hk
      refine ⟨s1.heap.objs.size + 1, [s1.heap.objs.size + 1, s1.heap.objs.size], _, _, H1, rfl, I2, turn_enum a (s1.heap.objs.size + 1) s1.heap.objs.size, ⟨⟨.none, he⟩, hit, Nat.succ_ne_self _⟩, fun b hb => ?_, q⟩
      have e' : b = s1.heap.objs.size + 1 ∨ b = s1.heap.objs.size := by simpa using hb
      have hle : s1.heap.objs.size ≤ b := by
        rcases e' with z | z
        · rw [z]; exact Nat.le_add_right _ _
        · rw [z]; exact Nat.le_refl _
      exact I1.fpOk hle (I1.hok.fresh hle)
  · subst ex
    cases r1 with
    | cons r rr =>
      cases rr
      cases r
      obtain ⟨its, rv, p', hz⟩ := I1.tuple hq
      refine cm_enum_begins (begins_tuple a its.toArray) p' fun h' he hit hsz hk => wpAny_pyIter_enum he ?_
      have I2 : Inv X pins σ H1 { s1 with heap := h' } := I1.kept (t' := s1.toks) hk
      refine ⟨s1.heap.objs.size + 1, [s1.heap.objs.size + 1, s1.heap.objs.size], _, _, H1, rfl, I2, turn_enumT a (s1.heap.objs.size + 1) s1.heap.objs.size, ⟨⟨.none, he⟩, ⟨_, hit, rfl, rfl⟩, Nat.succ_ne_self _⟩, fun b hb => ?_, q⟩
      have e' : b = s1.heap.objs.size + 1 ∨ b = s1.heap.objs.size := by simpa using hb
      have hle : s1.heap.objs.size ≤ b := by
        rcases e' with z | z
        · rw [z]; exact Nat.le_add_right _ _
        · rw [z]; exact Nat.le_refl _
      exact I1.fpOk hle (I1.hok.fresh hle)
end L2
namespace CM
open PySem PySem.Spec PySem.Calls PyProof.Rows L2
def dEnumT (ts : TDs) : TDw := fun ρ h => (ts ρ h).bind fun ds h => match ds with
  | [.lst xs] => .ok (enD 0 xs, none) h
  | [.tup xs] => .ok (enD 0 xs, none) h
  | _ => .no
section
variable {X : Cx} {K : PySem.W.Frag} {CA : CAs} {W : WX} {es : List Expr} {tge l : Expr} {hs : TA} {ts : TDs}
theorem wk_enumT {m : Mp} {h : CH} {H : Hp} {a : Addr} {xs : List V} {ds : List D} (k : ∀ m' h' H', Sz m h H m' h' H' → SqT K H' a xs) (r : RpAll K CA m h H xs ds) : Wk K CA m h H (Itet K a) (enD 0 ds) :=
  ⟨fun i m' h' H' d s S hd => by
    obtain ⟨y, hy, rfl⟩ := enD_get ds 0 i d hd
    obtain ⟨v, hv, rv⟩ := r.getD hy
    have e' := k m' h' H' s
    refine ⟨⟨xs, v, e', hv⟩, fun x H2 yl => ?_⟩
    obtain ⟨T, z, rfl, nT, rfl, hz⟩ := yl
    have ex := (hz xs e').symm.trans hv
    cases ex
    have ri : ((0 + i : Nat) : Int) = ((i : Nat) : Int) := by omega
    rw [ri]
    exact ⟨upd_new nT, .tup (S.fresh nT) upd_same (.cons (.int _) (.cons ((rv.mv s.toMv).move (stp_laid S nT)) .nil))⟩, fun m' h' H' s S => ⟨xs, k m' h' H' s, by rw [enD_length, r.length]; exact Nat.le_refl _⟩⟩
theorem wi_enumT (h : WA X K CA W es hs ts) (hp : PA X es hs → PI X tge l (iEnumT K hs)) : WI X K CA W tge l (iEnumT K hs) (dEnumT ts) := by
  refine ⟨hp h.pe, fun m hh H σ ρ R' S t => h.sim m hh H σ ρ _ S (PostI.bind t fun ds h1 m1 vs H1 s1 S1 r1 t1 => ?_)⟩
  split at t1
  · cases r1 with
    | cons r1 r2 =>
      cases r1 with
      | lst n e r =>
        cases r2
        exact .inl ⟨_, _, rfl, .of e, t1.walk s1 S1 (wk_enum n e r)⟩
  · cases r1 with
    | cons r1 r2 =>
      cases r2
      cases r1 with
      | tup n e r => exact .inr ⟨_, _, rfl, .of e, t1.walk s1 S1 (wk_enumT (keep_tup n e) r)⟩
      | ktup e r => exact .inr ⟨_, _, rfl, sq_emp e, t1.walk s1 S1 (wk_enumT (fun _ _ _ _ => sq_emp e) r)⟩
  · exact t1.elim
end
end CM
namespace CM
open PySem PySem.Spec PyProof.Rows L2
theorem strs_each : ∀ {us : List Value} {ks : List Str}, us.length = ks.length → (∀ (j : Nat) (v : Value), us[j]? = some v → ∃ (x : Str) (t : Tok), ks[j]? = some x ∧ v = Value.str x t) → StrsAre us ks
  | [], [], _, _ => .nil
  | u :: us, k :: ks, hl, h => by
    obtain ⟨x, t, e1, e2⟩ := h 0 u rfl
    have e1' : k = x := Option.some.inj e1
    subst e1'
    subst e2
    refine .cons _ _ (strs_each (by simpa using hl) fun j v e => ?_)
    obtain ⟨x, t, a, b⟩ := h (j + 1) v (by simpa using e)
    exact ⟨x, t, by simpa using a, b⟩
  | [], _ :: _, hl, _ => by simp at hl
  | _ :: _, [], hl, _ => by simp at hl
def rSrtDS : List V → Hp → VK → Prop := fun xs H Q => ∃ (a : Addr) (kvs : List (Key × V)) (ks : List Str), xs = [.ref a] ∧ Rd H a (.dK kvs) ∧ kvs.map (·.1) = ks.map Sum.inr ∧ ks.length < 64 ∧
    ∀ (ys : List Str) (p : Addr), ys.Perm ks → sortedS ys = true → H p = none → Q (.ref p) (upd H p (.lst (ys.map V.str)))
theorem call_srtDS {X : Cx} (hcalm : X.calm = true := by rfl) : CallR X (.builtin "sorted") rSrtDS := by
  intro pins s σ H xs us Q I r q
  obtain ⟨a, kvs, ks, ex, hd, hks, h64, q⟩ := q
  subst ex
  obtain ⟨u, eu, rx⟩ := vals1 r
  subst eu
  cases rx
  obtain ⟨z, lo, vs, rel, dd⟩ := dk_rd I.hok hd
  obtain ⟨ep, hat⟩ := dd.dictAt
  have hkeys : vs.map (·.1) = ks.map Sum.inr := rel.keys.symm.trans hks
  have hl : vs.length = ks.length := by
    have e := congrArg List.length hkeys
    rw [List.length_map, List.length_map] at e
    exact e
  have h16 : vs.length ≤ sizeLine := by rw [hl, sizeLine_eq]; omega
  refine Calls.call_function_entry PyProof.Rows.kind_sorted PyProof.Rows.plain_sorted PyProof.Rows.entry_sorted (PyProof.Rows.args_sorted1 _) ?_
  unfold Builtin.«sorted»
  refine wpAny_bind (m := checkCount "sorted" 1 1 _) (wpAny_pure ?_)
  refine wpAny_bind (PySem.W.kdu_collect (A := X.A.in1) (PySem.W.kdl_dict (knd := mixKind X.prog X.w) (kvs := vs) (ep := ep) lo) (I.ok.hd hcalm) hat h16 fun h' tk acc hk hacc => ?_)
  have hal : acc.toList.length = ks.length := by rw [Array.length_toList, hacc.1, hl]
  have hS : StrsAre acc.toList ks := strs_each hal fun j v e => by
    obtain ⟨k, x, e1, e2⟩ := hacc.2 j v (by rw [← Array.getElem?_toList]; exact e)
    have e3 : (vs.map (·.1))[j]? = some k := by rw [List.getElem?_map, e1]; rfl
    rw [hkeys, List.getElem?_map] at e3
    cases e4 : ks[j]? with
    | none => rw [e4] at e3; cases e3
    | some y =>
      rw [e4] at e3
      have e5 : Sum.inr y = k := Option.some.inj e3
      subst e5
      rcases keyIs_shape (show keyIs (Sum.inr y) v = true from e2) with ⟨i, t, ek, ev⟩ | ⟨z, t, ek, ev⟩
      · cases ek
      · cases ek
        exact ⟨y, t, rfl, ev⟩
  have I1 : Inv X pins σ H { s with heap := h', toks := tk } := I.kept hk
  refine wpAny_bind (wpAny_newList ?_ (by rw [hal, sizeLine_eq]; omega))
  have hoL : (h'.push (seqObj "list" acc.toList.toArray 0)).get? h'.objs.size = some (seqObj "list" acc.toList.toArray 0) := Heap.get?_push_size _ rfl
  show wpAny _ _ _ _ _ { s with heap := h'.push (seqObj "list" acc.toList.toArray 0), toks := tk }
  refine wpAny_bind (wpAny_holding (wpAny_call_entry PyProof.Rows.slot_list_sort ⟨_, hoL, rfl⟩ PyProof.Rows.entry_list_sort
    (list_sort_treeK strKind_oneLt (s := { s with heap := h'.push (seqObj "list" acc.toList.toArray 0), toks := tk }) hoL hS.keysOf (fun v1 v2 rest e => keyKind_strs (by rw [← e]; exact hS)) (by rw [hal]; exact h64) fun st g1 g2 => ⟨_, rfl, ?_⟩) (PyProof.Rows.args_list_sort _)))
  obtain ⟨ys, g3, g4, g5⟩ := sorted_out_str hS g1 g2
  obtain ⟨e', he'⟩ := PyProof.Rows.sortedHeap_at (vs := acc.toList) (out := (arrOf st).map (·.2)) hoL
  have hlen : (ys.map V.str).length ≤ sizeLine := by
    rw [List.length_map, g4.length_eq]
    exact Nat.le_trans (Nat.le_of_lt h64) (by decide)
  refine wpAny_pure ⟨_, rfl, .ref h'.objs.size, upd H h'.objs.size (.lst (ys.map V.str)), I1.laid (t' := tk) (fun b u e => ?_) (Nat.le_refl _)
    (show ObjOk X.prog X.w _ _ _ (.lst (ys.map V.str)) from ⟨hlen, ((arrOf st).map (·.2)).toList, e', vals_of_strs g3, by rw [Array.toArray_toList]; exact he'⟩), rfl, q ys _ g4 g5 (I1.hok.fresh (Nat.le_refl _))⟩
  have hb : b < h'.objs.size := Heap.lt_size e
  rw [PyProof.Rows.sortedHeap_old (Nat.ne_of_lt hb) (by rw [size_push']; exact Nat.lt_succ_of_lt hb)]
  exact Heap.get?_push_of_some _ e
def keyStrs : List (Key × D) → Option (List Str)
  | [] => some []
  | (.inr i, _) :: r => match keyStrs r with
    | some is => some (i :: is)
    | none => none
  | _ => none
theorem keyStrs_map : ∀ {ks : List (Key × D)} {is : List Str}, keyStrs ks = some is → ks.map (·.1) = is.map Sum.inr
  | [], is, e => by cases e; rfl
  | (.inr i, d) :: r, is, e => by
    unfold keyStrs at e
    cases q : keyStrs r with
    | none => rw [q] at e; cases e
    | some js => rw [q] at e; cases e; rw [List.map_cons, keyStrs_map q]; rfl
  | (.inl _, _) :: _, _, e => by cases e
def fSrtDS (nm : Bool) : FD := fun ds h => match ds with
  | [d] => match dctOf h d with
    | some kvs => match keyStrs kvs with
      | some is => if is.length < 64 then mkL nm ((sortS is).map D.str) h else .no
      | none => .no
    | none => .no
  | _ => .no
theorem sim_srtDS {K : PySem.W.Frag} {CA : CAs} {nm : Bool} : SimC K CA rSrtDS (fSrtDS nm) := by
  intro W σ m h H xs ds Q' S r t
  unfold fSrtDS at t
  split at t
  · split at t
    · rename_i kvs e
      split at t
      · rename_i is ei
        obtain ⟨l64, t⟩ := post_ite t
        cases r with
        | cons r1 r2 =>
          cases r2
          obtain ⟨a, o, hk, rfl, e1, c, en, rr⟩ := rp_dct S r1 e
          refine ⟨a, hk, is, rfl, ?_, en.trans (keyStrs_map ei), l64, fun ys p q1 q2 n => ?_⟩
          · rcases core_dK c with rfl | ⟨ob, rfl⟩
            · exact .inl e1
            · exact .inr ⟨ob, e1⟩
          · rw [sortS_eq q1 q2]
            exact mkL_post S n (all_strs _) t
      · exact t.elim
    · exact t.elim
  · exact t.elim
end CM
namespace CM
open PySem PySem.Spec PyProof.Rows L2
section
variable {X : Cx} {K : PySem.W.Frag} {CA : CAs} {W : WX} {m : Mp} {h : CH} {H : Hp} {σ : L2.St}
theorem rp_dctR2 {v : V} {d : D} {ds : List (Key × D)} (S : HR K CA m h H) (r : Rp K CA m h H v d) (e : dctOf h d = some ds) : ∃ a kvs, v = .ref a ∧ Rd H a (.dK kvs) ∧ kvs.map (·.1) = ds.map (·.1) ∧ RpAll K CA m h H (kvs.map (·.2)) (ds.map (·.2)) := by
  obtain ⟨a, o, kvs, rfl, e1, c, en, al⟩ := rp_dct S r e
  refine ⟨a, kvs, rfl, ?_, en, al⟩
  rcases core_dK c with rfl | ⟨ob, rfl⟩
  · exact .inl e1
  · exact .inr ⟨ob, e1⟩
end
end CM
namespace CM
open PySem PySem.Spec PySem.Calls PyProof.Rows L2
section
variable {X : Cx} {pins : List (Addr × Obj)} {σ : L2.St} {H : Hp} {s : Shared}
/-- x(), in any def further in: what the frames between have changed is none of the maker's -/
theorem pe_actG {CXg : CXT} {Eg : XK} {Ng : List Str} {qg : Str} {sg : Scope} {g f c' : Addr} {cdg pm ctv : Value} {params : Arguments} {body : Expr} {scope : Scope} {k i : Nat} {a : Str} {pn : List (Addr × Obj)} {xe : Value → Shared → Prop} {W : WX} {E : XK} {tb : TE} {p1 p2 : Pos} {A0 : Around} {st0 : List Env} {s0 : Shared} {H0 : Hp}
    (I : Inv X pins σ H s) (L : LamX.LamS X.env.scope scope) (hf : s.heap.get? f = some (PySem.W.kla_obj "<lambda>" (X.env.qual ++ "<lambda>") params body scope (cloFrom X.env.cells scope.names []) pm c' ctv)) (hfn : H f = none) (hfr : f ∉ frs X.stack)
    (hbind : bindArgs (PySem.W.kla_fn "<lambda>" (X.env.qual ++ "<lambda>") params body scope (cloFrom X.env.cells scope.names []) pm (.ref c') ctv) ⟨[], []⟩ = pure [])
    (tk : Takes ((cxOf CXg X.prog X.w X.K X.mg X.base Ng qg sg g cdg A0 st0 s0 H0 Eg).tr pn xe) W) (hW : ∀ cls d σ' H', E cls d H' → W cls d σ' H') (hr : Room (k + 1) (A0.deeper (envOfC qg sg s0.heap.objs.size g cdg)))
    (hun : ∀ (HZ : Hp) (s1 : Shared), s1.os = s0.os → AllBare s1.gens → HOk X.prog X.w HZ s1.heap → Un (frs st0) [] H0 HZ s0.heap s1.heap → Un (frs X.stack) [] H HZ s.heap s1.heap)
    (hbody : ∀ (A : Around) (outer : List Env) (s : Shared) (H : Hp), Room k (A.deeper (LamX.lamEnv X scope s.heap.objs.size f c')) → PE (LamX.lamCx X A outer s H E scope f c') body tb)
    (hN : Ng[i]? = some a) (hv : Vis sg a) (hd : (a == ("__debug__" : Str)) = false) (hcd : (a == ("__classdict__" : Str)) = false) :
    PE ((cxOf CXg X.prog X.w X.K X.mg X.base Ng qg sg g cdg A0 st0 s0 H0 Eg).tr pn xe) (.Call (.Name a p1) [] [] p2)
      (fun σZ HZ Q => σZ[i]? = some (some (.ref f)) ∧ HZ c' = some (LamX.CodeO c' (X.env.qual ++ "<lambda>")) ∧ tb σ HZ Q) := by
  refine ⟨fun pinsZ sZ σZ HZ Q IZ h => ?_⟩
  obtain ⟨hs, hc, ht⟩ := h
  refine wpAny_Call_Name_kw (thn ((pe_var (pos := p1) (i := i) hN hv hd hcd).run pinsZ sZ σZ HZ (fun v H1 => v = .ref f ∧ H1 = HZ) IZ ⟨.ref f, hs, rfl, rfl⟩) fun u s1 ⟨v, H1, I1, r1, q1⟩ => ?_)
  obtain ⟨ev, eH⟩ := q1
  subst ev
  rw [eH] at I1
  obtain rfl : u = Value.ref f := r1
  have un : Un (frs X.stack) [] H HZ s.heap s1.heap := hun HZ s1 I1.os I1.bare I1.hok I1.base
  have of1 : s1.heap.get? f = some (PySem.W.kla_obj "<lambda>" (X.env.qual ++ "<lambda>") params body scope (cloFrom X.env.cells scope.names []) pm c' ctv) := un.keep f _ hf hfn hfr (fun z => nomatch (show f ∈ ([] : List Addr) from z))
  refine PySem.W.callWith_F0 ⟨_, _, _, _, of1⟩ ?_
  obtain ⟨⟨oc, vs, t, hoc, hdc, hvc⟩, _, _⟩ := I1.hok c' _ hc
  have rc : codeAny (model X.prog X.w) (A0.deeper (envOfC qg sg s0.heap.objs.size g cdg)) (.call (.ref f) ⟨[], []⟩) (CR (L2.CX X.prog X.w) (envOfC qg sg s0.heap.objs.size g cdg :: st0) X.prog X.w HZ s1 Q E) s1 := by
    refine PySem.W.kla_callFunE hr.depth of1 rfl L.co L.gen rfl ⟨c', oc, vs, t, rfl, hoc, hdc, hvc⟩ ?_
    rw [hbind]
    refine wpAny_pure (wpAny_newFunctionEnv (fun y hy => (L.own y hy).2) (fun y hy => absurd hy (by simp)) (fun h₁ hns hsb => ⟨I1.nolimit.fresh _ hsb, ?_⟩) L.kind)
    show codeAny _ _ (.expr body (LamX.lamEnv X scope s1.heap.objs.size f c')) _ _
    have kp : ∀ b o, s1.heap.get? b = some o → h₁.get? b = some o := fun b o e => hsb.extBut b o (Nat.ne_of_lt (Heap.lt_size e)) (Heap.get?_push_of_some _ e)
    have J : Inv (LamX.lamCx X (A0.deeper (envOfC qg sg s0.heap.objs.size g cdg)) (envOfC qg sg s0.heap.objs.size g cdg :: st0) s1 HZ E scope f c') [] σ HZ { s1 with heap := h₁, toks := s1.toks + ([] : List (Str × Value)).length } :=
      LamX.lam_start2 I L I1.env0 hr.hd un hns kp
    refine PySem.W.kla_codeExpr (wpAny_mono ((hbody _ _ s1 HZ (hr.deeper _)).run [] _ _ HZ Q J ht) (fun v s' hq => ?_) fun e s' hq => hq)
    obtain ⟨w', H', J', rv, q⟩ := hq
    exact ⟨w', H', J'.os, J'.bare, J'.base, J'.hok, rv, q⟩
  have hx : Passes (L2.CX X.prog X.w) ((cxOf CXg X.prog X.w X.K X.mg X.base Ng qg sg g cdg A0 st0 s0 H0 Eg).tr pn xe) E := passes_call tk hW
  refine wpAny_call (codeAny_mono rc fun r s' hq => ?_)
  cases r with
  | error e => exact hx pinsZ σZ HZ s1 e s' I1 hq
  | ok fl =>
    cases fl with
    | ret u => exact I1.after hq
    | next => exact False.elim hq
    | brk => exact False.elim hq
    | cont => exact False.elim hq
end
/-- what is known of a lambda of X, object f, at the entry of a def further in -/
structure LamF (X : Cx) (f c' : Addr) (k : Nat) (tl : XK → Hp → VK → Prop) (st0 : List Env) (s0 : Shared) (H0 : Hp) : Prop where
  ex : ∃ (pins : List (Addr × Obj)) (σ : L2.St) (H : Hp) (s : Shared) (params : Arguments) (body : Expr) (scope : Scope) (pm ctv : Value) (t : XK → TE), Inv X pins σ H s ∧ LamX.LamS X.env.scope scope ∧
    s.heap.get? f = some (PySem.W.kla_obj "<lambda>" (X.env.qual ++ "<lambda>") params body scope (cloFrom X.env.cells scope.names []) pm c' ctv) ∧ H f = none ∧ f ∉ frs X.stack ∧
    bindArgs (PySem.W.kla_fn "<lambda>" (X.env.qual ++ "<lambda>") params body scope (cloFrom X.env.cells scope.names []) pm (.ref c') ctv) ⟨[], []⟩ = pure [] ∧
    (∀ (A : Around) (outer : List Env) (s : Shared) (H : Hp) (E : XK), Room k (A.deeper (LamX.lamEnv X scope s.heap.objs.size f c')) → PE (LamX.lamCx X A outer s H E scope f c') body (t E)) ∧
    (tl = fun E HZ Q => t E σ HZ Q) ∧
    (∀ (HZ : Hp) (s1 : Shared), s1.os = s0.os → AllBare s1.gens → HOk X.prog X.w HZ s1.heap → Un (frs st0) [] H0 HZ s0.heap s1.heap → Un (frs X.stack) [] H HZ s.heap s1.heap)
section
variable {X : Cx} {f c' : Addr} {k : Nat} {tl : XK → Hp → VK → Prop} {st0 : List Env} {s0 : Shared} {H0 : Hp}
theorem LamF.act (F : LamF X f c' k tl st0 s0 H0) {CXg : CXT} {Eg : XK} {Ng : List Str} {qg : Str} {sg : Scope} {g : Addr} {cdg : Value} {i : Nat} {a : Str} {pn : List (Addr × Obj)} {xe : Value → Shared → Prop} {W : WX} {E : XK} {p1 p2 : Pos} {A0 : Around}
    (tk : Takes ((cxOf CXg X.prog X.w X.K X.mg X.base Ng qg sg g cdg A0 st0 s0 H0 Eg).tr pn xe) W) (hW : ∀ cls d σ' H', E cls d H' → W cls d σ' H') (hr : Room (k + 1) (A0.deeper (envOfC qg sg s0.heap.objs.size g cdg)))
    (hN : Ng[i]? = some a) (hv : Vis sg a) (hd : (a == ("__debug__" : Str)) = false) (hcd : (a == ("__classdict__" : Str)) = false) :
    PE ((cxOf CXg X.prog X.w X.K X.mg X.base Ng qg sg g cdg A0 st0 s0 H0 Eg).tr pn xe) (.Call (.Name a p1) [] [] p2)
      (fun σZ HZ Q => σZ[i]? = some (some (.ref f)) ∧ HZ c' = some (LamX.CodeO c' (X.env.qual ++ "<lambda>")) ∧ tl E HZ Q) := by
  obtain ⟨pins, σ, H, s, params, body, scope, pm, ctv, t, I, L, hf, hfn, hfr, hbind, hbody, rfl, hun⟩ := F.ex
  exact pe_actG I L hf hfn hfr hbind tk hW hr hun (fun A outer s H hr2 => hbody A outer s H E hr2) hN hv hd hcd
theorem LamF.deeper (F : LamF X f c' k tl st0 s0 H0) {CX1 : CXT} {E1 : XK} {N1 : List Str} {q1 : Str} {sg1 : Scope} {g1 : Addr} {cd1 : Value} {A0 : Around} {pins1 : List (Addr × Obj)} {σ1 : L2.St} {H1 : Hp} {s1 : Shared}
    (I1 : Inv (cxOf CX1 X.prog X.w X.K X.mg X.base N1 q1 sg1 g1 cd1 A0 st0 s0 H0 E1) pins1 σ1 H1 s1) : LamF X f c' k tl (envOfC q1 sg1 s0.heap.objs.size g1 cd1 :: st0) s1 H1 := by
  obtain ⟨pins, σ, H, s, params, body, scope, pm, ctv, t, I, L, hf, hfn, hfr, hbind, hbody, e, hun⟩ := F.ex
  refine ⟨pins, σ, H, s, params, body, scope, pm, ctv, t, I, L, hf, hfn, hfr, hbind, hbody, e, fun HZ s3 os bare hok un => ?_⟩
  have J := I1.call' os un hok bare (fun b hb => absurd hb (by simp))
  exact hun HZ s3 J.os bare hok J.base
/-- x(y), y the lambda that this def got, x the def that calls it -/
theorem pe_lamarg (F : LamF X f c' k tl st0 s0 H0) {TT : (XK → Hp → VK → Prop) → Hp → VK → Prop} {CX1 : CXT} {E1 : XK} {N1 : List Str} {q1 : Str} {sg1 : Scope} {g1 : Addr} {cd1 : Value} {A0 : Around} {x a y : Str} {g : Addr} {iy : Nat} {pg : Arguments} {bg : List Stmt} {sg : Scope} {dV kV doc pm0 cdv ct oc : Value} {an od : Option Addr} {osl : Array (Option Value)} {Ng : List Str} {p p3 pos : Pos}
    (hg : Gl (cxOf CX1 X.prog X.w X.K X.mg X.base N1 q1 sg1 g1 cd1 A0 st0 s0 H0 E1) x) (hm : X.mg x = some (.ref g)) (hk : PySem.W.keepIn X.K (.ref g) = true)
    (lk : X.K.lookup g = some ⟨oc, od, .func (PySem.W.fnOf x x pg bg sg dV kV doc pm0 an cdv ct), osl⟩) (hcg : PySem.W.codeIn X.K cdv x = true) (hb : L2.Binds X.K (PySem.W.fnOf x x pg bg sg dV kV doc pm0 an cdv ct) [a] []) (Sg : FnScope Ng [a] sg) (hNg : Ng[0]? = some a) (hva : Vis sg a)
    (hG : LamX.GivesTo (cxOf CX1 X.prog X.w X.K X.mg X.base N1 q1 sg1 g1 cd1 A0 st0 s0 H0 E1) Ng x sg g cdv bg a (X.env.qual ++ "<lambda>") TT) (hr : Room (k + 2) (A0.deeper (envOfC q1 sg1 s0.heap.objs.size g1 cd1)))
    (hyN : N1[iy]? = some y) (hyv : Vis sg1 y)
    (hdb : (x == ("__debug__" : Str)) = false) (hd : (a == ("__debug__" : Str)) = false) (hcd : (a == ("__classdict__" : Str)) = false)
    (hyd : (y == ("__debug__" : Str)) = false) (hyc : (y == ("__classdict__" : Str)) = false) :
    PE (cxOf CX1 X.prog X.w X.K X.mg X.base N1 q1 sg1 g1 cd1 A0 st0 s0 H0 E1) (.Call (.Name x p) [.Name y p3] [] pos)
      (fun σ H Q => σ[iy]? = some (some (.ref f)) ∧ H c' = some (LamX.CodeO c' (X.env.qual ++ "<lambda>")) ∧ TT tl H Q) := by
  refine ⟨fun pins s σ H Q I h => ?_⟩
  obtain ⟨hσ, hco, ht⟩ := h
  refine wpAny_Call_Name_kw (ld_glob I hg hm ?_ hdb)
  refine PySem.W.callWith_K (h₀ := X.base) I.ok.mod.kin hk ?_ (by rfl) (by rfl)
  show wpAny _ _ (spliced ((false, eval (.Name y p3) (envOfC q1 sg1 s0.heap.objs.size g1 cd1)) :: backTo pos (starEach [] (envOfC q1 sg1 s0.heap.objs.size g1 cd1)))) _ _ s
  refine Calls.spliced_cons (thn ((pe_var (X := cxOf CX1 X.prog X.w X.K X.mg X.base N1 q1 sg1 g1 cd1 A0 st0 s0 H0 E1) (pos := p3) (i := iy) hyN hyv hyd hyc).run _ s σ H (fun v H1 => v = .ref f ∧ H1 = H) I ⟨.ref f, hσ, rfl, rfl⟩) fun u s1 ⟨v, H1, I1, r1, q1⟩ => ?_)
  obtain ⟨ev, eH⟩ := q1
  subst ev
  rw [eH] at I1
  obtain rfl : u = Value.ref f := r1
  refine Calls.spliced_nil ⟨I1.kIn, ?_⟩
  have rc : codeAny (model X.prog X.w) (A0.deeper (envOfC q1 sg1 s0.heap.objs.size g1 cd1)) (.call (.ref g) ⟨[.ref f], []⟩) (CR C8.CX0 (envOfC q1 sg1 s0.heap.objs.size g1 cd1 :: st0) X.prog X.w H s1 Q C8.E0) s1 := by
    refine LamX.run_ofS (N := Ng) (ps := [a]) (us := [.ref f]) (vs := [.ref f]) lk hcg Sg hr I1.env0 (hb s1 [.ref f] I1.kIn rfl) (.cons rfl .nil) rfl fun hr' => ?_
    obtain ⟨t', ht', hq'⟩ := hG f c' s1 H Q tl (fun W pn xe E p1 p2 tk hW => (F.deeper I1).act (i := 0) tk hW hr' hNg hva hd hcd) hco ht
    exact ⟨t', ht'.nox, hq'⟩
  refine wpAny_call (codeAny_mono rc fun r s2 hq => ?_)
  cases r with
  | error e => exact (show False from hq).elim
  | ok fl =>
    cases fl with
    | ret u => exact I1.after hq
    | next => exact False.elim hq
    | brk => exact False.elim hq
    | cont => exact False.elim hq
end
end CM
namespace CM
open PySem PySem.Spec PySem.Calls PyProof.Rows L2
/-- what is caught of a lambda's end -/
def caughtR (xs : List Nat) : R D → R D
  | .ok _ h => .ok .non h
  | .ex c fs h => if c ∈ xs then .ok (.exc c fs) h else .no
  | .no => .no
def dKr (r : R D) : TD := fun _ _ => r
def noxR (r : R D) : R D := r.calm fun d h => .ok d h
def E00 : XK := fun _ _ _ => False
/-- the lambda's reading and its data reading, at this very moment -/
def LamSim (K : PySem.W.Frag) (CA : CAs) (m : Mp) (h : CH) (H : Hp) (tl : XK → Hp → VK → Prop) (r : R D) : Prop := ∀ (E : XK) (σ : L2.St) (Q' : VK), PostE K CA (wxD E) m h H σ Q' r → tl E H Q'
section
variable {K : PySem.W.Frag} {CA : CAs} {W : WX} {f c' : Addr} {m m' : Mp} {h h' : CH} {H H' : Hp} {σ σ' : L2.St} {Q : VK} {r : R D} {q : Str}
theorem post_sig {E : XK} (t : PostE K CA (wxD E) m h H σ Q r) : PostE K CA (wxD E) m h H σ' Q r := by cases r <;> exact t
theorem postN {W' : WX} (t : PostE K CA W m h H σ Q (noxR r)) : PostE K CA W' m h H σ' Q r := by
  cases r with
  | ok d h => exact t
  | ex c fs h => exact t.elim
  | no => exact t
theorem post_w0 {W' : WX} (t : PostE K CA W' m h H σ Q (noxR r)) : PostE K CA W0 m h H σ' Q (noxR r) := by
  cases r with
  | ok d h => exact t
  | ex c fs h => exact t.elim
  | no => exact t
/-- a code object stays -/
theorem stp_code (S : HR K CA m h H) (s : Stp m h H m' h' H') (e : H c' = some (LamX.CodeO c' q)) : H' c' = some (LamX.CodeO c' q) := by
  by_cases z : c' ∈ m.z
  · rw [s.zk c' z]; exact e
  · have nl : ¬ Live m h c' := fun l => by
      rcases l with ⟨k, o, ek, em⟩ | l
      · have x := (S.ob k o ek).2
        rw [em] at x
        unfold LamX.CodeO at e
        cases x with
        | lst e1 _ => rw [e] at e1; cases e1
        | dct e1 _ _ => rw [e] at e1; cases e1
        | lck e1 _ _ => rw [e] at e1; cases e1
        | lkl e1 _ => rw [e] at e1; cases e1
        | obj e1 _ _ => rw [e] at e1; cases e1
        | dctT e1 _ _ => rw [e] at e1; cases e1
      · exact z l
    obtain ⟨_, o', e', l⟩ := s.kp c' _ nl e trivial
    rcases l with rfl | ⟨ob, kvs, q1, _⟩ | ⟨ps, qs, q1, _⟩
    · exact e'
    · unfold LamX.CodeO at q1; cases q1
    · unfold LamX.CodeO at q1; cases q1
def SimL (K : PySem.W.Frag) (CA : CAs) (W : WX) (f : Addr) (m : Mp) (h : CH) (H : Hp) (te : TE) (td : TD) : Prop := ∀ (σ : L2.St) (ρ : DE) (Q' : VK), SO K CA m h H σ ρ → σ[0]? = some (some (.ref f)) → PostE K CA W m h H σ Q' (td ρ h) → te σ H Q'
def SimLA (K : PySem.W.Frag) (CA : CAs) (W : WX) (f : Addr) (m : Mp) (h : CH) (H : Hp) (te : TA) (td : TDs) : Prop := ∀ (σ : L2.St) (ρ : DE) (Q' : List V → Hp → Prop), SO K CA m h H σ ρ → σ[0]? = some (some (.ref f)) → PostA K CA W m h H σ Q' (td ρ h) → te σ H Q'
def SimLS (K : PySem.W.Frag) (CA : CAs) (W : WX) (f : Addr) (m : Mp) (h : CH) (H : Hp) (tS : TS) (u : SD) : Prop := ∀ (σ : L2.St) (ρ : DE) (D' : Ends), SO K CA m h H σ ρ → σ[0]? = some (some (.ref f)) → PostS K CA W m h H D' (u ρ h) → tS D' σ H
theorem simL_cons {ha : TE} {ta : TD} {hs : TA} {ts : TDs} (x : SimL K CA W f m h H ha ta) (y : SimA K CA W hs ts) : SimLA K CA W f m h H (L2.tCons ha hs) (dCons ta ts) := fun σ ρ Q' S e0 t =>
  x σ ρ _ S e0 (t.bind fun x h1 m1 v H1 s1 S1 r1 t1 => y m1 h1 H1 σ ρ _ (S.move s1 S1) (t1.bind fun xs h2 m2 vs H2 s2 S2 r2 t2 => t2.here S2 (.cons (r1.move s2) r2)))
theorem simL_CB {r : List V → Hp → VK → Prop} {f' : FD} {tH : TA} {ts : TDs} (hs : SimC K CA r f') (ha : SimLA K CA W f m h H tH ts) : SimL K CA W f m h H (tCB r tH) (dCB f' ts) := fun σ ρ Q' S e0 t =>
  ha σ ρ _ S e0 (t.bind fun xs h1 m1 vs H1 s1 S1 r1 t1 => hs W σ m1 h1 H1 vs xs Q' S1 r1 t1)
theorem simL_op {r : R2} {f' : F2} {tH tH' : TE} {ta tb : TD} (hs : SimR K CA r f') (ha : SimL K CA W f m h H tH ta) (hb : SimE K CA W tH' tb) : SimL K CA W f m h H (L2.tOp r tH tH') (dOp f' ta tb) := fun σ ρ Q' S e0 t =>
  ha σ ρ _ S e0 (t.bind fun x h1 m1 v H1 s1 S1 r1 t1 => hb m1 h1 H1 σ ρ _ (S.move s1 S1) (t1.bind fun y h2 m2 w H2 s2 S2 r2 t2 => hs W σ m2 h2 H2 v w x y Q' S2 (r1.move s2) r2 t2))
theorem simL_ret {tH : TE} {d : TD} (x : SimL K CA W f m h H tH d) : SimLS K CA W f m h H (tRet tH) (dRet d) := fun σ ρ D' S e0 q =>
  x σ ρ _ S e0 (PostS.bind S q fun a h1 m1 v H1 s1 S1 r q1 => q1 m1 v H1 .refl S1 r)
theorem simL_asg {sl : List Nat} {ha : TE} {ta : TD} {gH : TG} {tg : TGD} (x : SimL K CA W f m h H ha ta) (hg : SimG K CA sl gH tg) : SimLS K CA W f m h H (tAsg ha gH) (dAsg ta tg) := fun σ ρ D' S e0 q =>
  x σ ρ _ S e0 (PostS.bind S q fun d h1 m1 v H1 s1 S1 r q1 => hg m1 h1 H1 σ ρ v d _ (S.move s1 S1) r (put_post q1 fun ρ' h' m' σ' H' s' S' q' => q' m' σ' H' .refl S'))
theorem simL_seq {t t' : TS} {u w : SD} (x : SimLS K CA W f m h H t u) (y : SimS K CA W t' w) : SimLS K CA W f m h H (tSeq t t') (dSeq u w) := fun σ ρ D' S e0 q =>
  x σ ρ { D' with nx := t' D' } S e0 (by
    unfold dSeq at q
    cases e : u ρ h with
    | nx ρ' h' => rw [e] at q; exact fun m' σ' H' s S' => y m' h' H' σ' ρ' D' S' (PostS.from (show PostS K CA W m h H D' (w ρ' h') from q) s)
    | rt d h' => rw [e] at q; exact q
    | bk d h' => rw [e] at q; exact q
    | ct d h' => rw [e] at q; exact q
    | ex ρ' c fs h' => rw [e] at q; exact q
    | no => rw [e] at q; exact q)
/-- what is caught of the lambda -/
def tCght (f c' : Addr) (q : Str) (K : PySem.W.Frag) (CS : Addr) (tl : XK → Hp → VK → Prop) : TE := fun σ H Q => σ[0]? = some (some (.ref f)) ∧ H c' = some (LamX.CodeO c' q) ∧ TCaught K CS tl H Q
theorem simL_caught {xs : List Nat} {cs : Nat} {tl : XK → Hp → VK → Prop} (hx : ∀ c ∈ xs, PySem.W.exmOne K (.ref (CA c)) (.ref (CA cs)) = some true) (s : LamSim K CA m h H tl r) (hc : H c' = some (LamX.CodeO c' q)) : SimL K CA W f m h H (tCght f c' q K (CA cs) tl) (dKr (caughtR xs r)) := fun σ ρ Q' S e0 t => by
  refine ⟨e0, hc, s _ σ _ ?_⟩
  unfold dKr at t
  cases r with
  | no => exact t.elim
  | ok d h' => exact fun m' v H' s' S' r => ⟨.non, rfl, t m' .non H' s' S' .non⟩
  | ex c fs h' =>
    obtain ⟨hc, t⟩ := post_ite t
    intro m' cls dd H' s' S' xr
    obtain ⟨rfl, hd⟩ := xr
    refine ⟨true, hx c hc, fun _ a na => ?_, fun z => nomatch z⟩
    have sA := stp_laid (u := ExV (CA c) a dd) S' na
    refine t m' _ _ (s'.trans sA) (S'.laid na) ?_
    rcases hd with ⟨rfl, rfl⟩ | ⟨x, hf, rfl, nx, ex, en, ra⟩
    · exact .exc (fs := []) (S'.fresh na) upd_same (.inl ⟨rfl, rfl⟩) rfl .nil
    · have ne : x ≠ a := ne_of_none ex na
      exact .exc (fs := hf) (S'.fresh na) upd_same (.inr ⟨x, rfl, nx, by rw [upd_ne ne]; exact ex⟩) en (ra.move sA)
end
structure FnL (P : Program) (w : World) (K : PySem.W.Frag) (mg : Str → Option Value) (base : Heap) (CA : CAs) (g : Bool) (k kb : Nat) (fa : Addr) (fd : FuncData) (ps : List Str) (n : Nat) (F : R D → FD) : Prop where
  go : ∀ (X : Cx) (f c' : Addr) (tl : XK → Hp → VK → Prop) (A : Around) (outer : List Env) (s : Shared) (H : Hp) (args : Args) (us : List Value) (vs : List V) (Q : VK) (m : Mp) (h : CH) (ds : List D) (r : R D),
    X.prog = P → X.w = w → X.K = K → X.mg = mg → X.base = base → (g = true → A.guards = some []) → Room k A → Env0 P w K mg base A outer s H → BindsTo s fd args (ps.zip (.ref f :: us)) → Vals vs us → vs.length = n →
    LamF X f c' kb tl outer s H → H c' = some (LamX.CodeO c' (X.env.qual ++ "<lambda>")) → LamSim K CA m h H tl r → HR K CA m h H → RpAll K CA m h H vs ds → PostE K CA W0 m h H [] Q (noxR (F r ds h)) →
    codeAny (model P w) A (.call (.ref fa) args) (CR (L2.CX P w) outer P w H s Q E00) s
def startL (N : Nat) (ds : List D) : DE := none :: startD N ds
section
variable {P : Program} {w : World} {K : PySem.W.Frag} {mg : Str → Option Value} {base : Heap} {CA : CAs} {g : Bool}
theorem cx_00 {outer : List Env} {H : Hp} {s s' : Shared} {e : Value} (z : L2.CX P w outer H s E00 e s') : False := by
  obtain ⟨_, _, _, _, _, _, _, _, _, _, _, _, _, _, _, _, z⟩ := z
theorem okL {nm qual : Str} {st : Stmt} {fa : Addr} {fd : FuncData} {N ps : List Str} {k kb n nn : Nat} {u : R D → SD} (F : Fun K nm qual st fa fd) (S : FnScope N ps (defScope st)) (hm : ps.length = n + 1) (hn : N.length = nn + 1)
    (hb : ∀ (cd : Value) (X : Cx) (f c' : Addr) (tl : XK → Hp → VK → Prop) (A : Around) (outer : List Env) (s : Shared) (H : Hp), X.prog = P → X.w = w → X.K = K → X.mg = mg → X.base = base → (g = true → A.guards = some []) → Room k (A.deeper (envOfC qual (defScope st) s.heap.objs.size fa cd)) →
      LamF X f c' kb tl outer s H → H c' = some (LamX.CodeO c' (X.env.qual ++ "<lambda>")) → Takes (cxD P w K mg base N qual st fa cd A outer s H E00) (wxD E00) →
      ∃ tS, PSs (cxD P w K mg base N qual st fa cd A outer s H E00) (defBody st) tS ∧ ∀ (m : Mp) (h : CH) (r : R D), HR K CA m h H → LamSim K CA m h H tl r → SimLS K CA (wxD E00) f m h H tS (u r)) :
    FnL P w K mg base CA g (k + 1) kb fa fd ps n (fun r ds h => (u r (startL nn ds) h).res) := by
  obtain ⟨x1, x2, x3, x4, x5, x6, cd, x8, x9, rfl, look, code⟩ := F.ex
  refine ⟨fun X f c' tl A outer s H args us vs Q m h ds r p1 p2 p3 p4 p5 hg room e0 bd rv hl LF hc hsim hR rp hq => ?_⟩
  have len1 : (V.ref f :: vs).length = ps.length := by rw [hm]; simp [hl]
  have kin : K.In s.heap := e0.mod.kin.keeps fun b o e => (e0.bs b o e).1
  have nl : s.heap.NoLimit := e0.mod.nolimit.keeps fun b o e => (e0.bs b o e).1
  have kinds : ∀ y, y ∈ ps.zip (.ref f :: us) → (defScope st).names.lookup y.1 = some .local ∨ ((defScope st).names.lookup y.1 = some .cell ∧ ((cellsFrom (s.heap.objs.size + 1) (defScope st).names []).lookup y.1).isSome = true) := by
    rintro ⟨a, b⟩ hm
    exact (S.par a (List.of_mem_zip hm).1).imp id fun q => ⟨q, PySem.W.cellsFrom_some _ _ _ (.inl q)⟩
  refine codeAny_call_function room.depth (kin _ _ look) rfl S.co S.gen rfl (PySem.W.codeRec_of kin code) (bd _ _ _ _ (wpAny_newFunctionEnv_cells S.kind kinds fun env ee s1 hc => ?_))
  cases ee
  refine ⟨nl.keeps hc.toInCall.keep, codeAny_func ?_⟩
  obtain ⟨t, ht, hS⟩ := hb cd X f c' tl A outer s H p1 p2 p3 p4 p5 hg (room.deeper _) LF ‹_› (takes_of rfl rfl rfl rfl)
  have inv : Inv (cxD P w K mg base N qual st fa cd A outer s H E00) [] (start N (.ref f :: vs)) H s1 := inv_start S room.hd e0 len1 (.cons rfl rv) hc
  have back : ∀ {σ' : L2.St} {H2 : Hp} {v : V} {u : Value} {s2 : Shared}, Inv (cxD P w K mg base N qual st fa cd A outer s H E00) [] σ' H2 s2 → RelV v u → Q v H2 → CE outer P w H s Q u s2 := fun {_ H2 v _ _} J r q => ⟨v, H2, J.os, J.bare, J.base, J.hok, r, q⟩
  have hle : (V.ref f :: vs).length ≤ N.length := by
    have := congrArg List.length S.pre
    rw [List.length_take] at this
    rw [len1]
    omega
  have so : SO K CA m h H (start N (.ref f :: vs)) (startL nn ds) := by
    have dl := rp.length
    refine ⟨hR, ?_, fun i d e => ?_⟩
    · simp only [L2.start, startL, startD, List.length_append, List.length_map, List.length_replicate, List.length_cons] at hle ⊢
      omega
    · cases i with
      | zero => cases e
      | succ i =>
        have e' : (startD nn ds)[i]? = some (some d) := e
        obtain ⟨v, e1, e2⟩ := (so_start (K := K) (CA := CA) (N.drop 1) (vs := vs) (by rw [List.length_drop]; simp at hle; omega) hR rp).sl i d (by rw [List.length_drop, hn]; exact e')
        refine ⟨v, ?_, e2⟩
        have : (L2.start N (.ref f :: vs))[i + 1]? = (L2.start (N.drop 1) vs)[i]? := by
          simp only [L2.start, List.map_cons, List.cons_append, List.getElem?_cons_succ, List.length_drop, List.length_cons]
          congr 3
          omega
        rw [this]
        exact e1
  have s0 : (start N (.ref f :: vs))[0]? = some (some (.ref f)) := rfl
  have hq' := hS m h r hR hsim _ _ { nx := fun _ H2 => Q .non H2, rt := Q } so s0 (res_post (σ := []) (postN hq))
  refine wpAny_mono (ht.run [] s1 (start N (.ref f :: vs)) H _ inv hq') (fun fl s2 h2 => ?_) fun _ _ z => z
  rcases fl with _ | _ | _ | u
  · obtain ⟨_, _, J, q⟩ := h2
    exact back (v := V.non) (u := Value.none) J rfl q
  · obtain ⟨_, _, _, q⟩ := h2; exact False.elim q
  · obtain ⟨_, _, _, q⟩ := h2; exact False.elim q
  · obtain ⟨_, _, _, J, r, q⟩ := h2
    exact back J r q
end
end CM
namespace CM
open PySem PySem.Spec PySem.Calls PyProof.Rows L2
/-- x is a def that gets a lambda, then n values -/
structure Dl (P : Program) (w : World) (K : PySem.W.Frag) (mg : Str → Option Value) (base : Heap) (CA : CAs) (x : Str) (g : Bool) (k kb : Nat) (ps : List Str) (n : Nat) (F : R D → FD) : Prop where
  ex : ∃ (fx : Addr) (fd : FuncData), FnL P w K mg base CA g k kb fx fd ps n F ∧ mg x = some (.ref fx) ∧ PySem.W.keepIn K (.ref fx) = true ∧ L2.Binds K fd ps []
  ln : ps.length = n + 1
def tLamFn (f c' : Addr) (q : Str) (K : PySem.W.Frag) (CA : CAs) (tl : XK → Hp → VK → Prop) (Fr : R D → FD) : TE := fun σ H Q => σ[0]? = some (some (.ref f)) ∧ H c' = some (LamX.CodeO c' q) ∧ ∃ (m : Mp) (h : CH) (r : R D), HR K CA m h H ∧ LamSim K CA m h H tl r ∧ PostE K CA W0 m h H [] Q (noxR (Fr r [] h))
def dLamF (Fr : R D → FD) (r : R D) : TD := fun _ h => noxR (Fr r [] h)
section
variable {X : Cx} {f c' : Addr} {k kb : Nat} {tl : XK → Hp → VK → Prop} {st0 : List Env} {s0 : Shared} {H0 : Hp} {P : Program} {w : World} {K : PySem.W.Frag} {mg : Str → Option Value} {base : Heap} {CA : CAs} {g : Bool}
/-- x(y), x the law's _law_caught -/
theorem pe_cght (F : LamF X f c' kb tl st0 s0 H0) {x y : Str} {cs : Nat} {E1 : XK} {N1 : List Str} {q1 : Str} {st1 : Stmt} {g1 : Addr} {cd1 : Value} {A0 : Around} {p p3 pos : Pos} (G : Cgt K CA mg x cs) (e1 : X.prog = P) (e2 : X.w = w) (e3 : X.K = K) (e4 : X.mg = mg) (e5 : X.base = base)
    (hg : Gl (cxD P w K mg base N1 q1 st1 g1 cd1 A0 st0 s0 H0 E1) x) (hr : Room (kb + 2) (A0.deeper (envOfC q1 (defScope st1) s0.heap.objs.size g1 cd1))) (hyN : N1[0]? = some y) (hyv : Vis (defScope st1) y)
    (hdb : (x == ("__debug__" : Str)) = false := by decide) (hyd : (y == ("__debug__" : Str)) = false := by decide) (hyc : (y == ("__classdict__" : Str)) = false := by decide) :
    PE (cxD P w K mg base N1 q1 st1 g1 cd1 A0 st0 s0 H0 E1) (.Call (.Name x p) [.Name y p3] [] pos) (tCght f c' (X.env.qual ++ "<lambda>") K (CA cs) tl) := by
  subst e1 e2 e3 e4 e5
  obtain ⟨g, a, pg, bg, sg, kV, doc, pm, cdv, ct, oc, an, od, osl, Ng, h1, h2, h3, h4, h5, h6, h7, h8, h9, h10, h11⟩ := G.ex
  exact pe_lamarg F hg h1 h2 h3 h4 h5 h6 h7 h8 (h11 _ _ rfl rfl) hr hyN hyv hdb h9 h10 hyd hyc
/-- x(y), x another def that gets a lambda -/
theorem pe_lamfn (F : LamF X f c' kb tl st0 s0 H0) {x y : Str} {ps : List Str} {Fr : R D → FD} {E1 : XK} {N1 : List Str} {q1 : Str} {st1 : Stmt} {g1 : Addr} {cd1 : Value} {A0 : Around} {p p3 pos : Pos} (G : Dl P w K mg base CA x g k kb ps 0 Fr) (e1 : X.prog = P) (e2 : X.w = w) (e3 : X.K = K) (e4 : X.mg = mg) (e5 : X.base = base)
    (hg : Gl (cxD P w K mg base N1 q1 st1 g1 cd1 A0 st0 s0 H0 E1) x) (hG : g = true → (A0.deeper (envOfC q1 (defScope st1) s0.heap.objs.size g1 cd1)).guards = some []) (hr : Room k (A0.deeper (envOfC q1 (defScope st1) s0.heap.objs.size g1 cd1))) (hyN : N1[0]? = some y) (hyv : Vis (defScope st1) y)
    (hdb : (x == ("__debug__" : Str)) = false := by decide) (hyd : (y == ("__debug__" : Str)) = false := by decide) (hyc : (y == ("__classdict__" : Str)) = false := by decide) :
    PE (cxD P w K mg base N1 q1 st1 g1 cd1 A0 st0 s0 H0 E1) (.Call (.Name x p) [.Name y p3] [] pos) (tLamFn f c' (X.env.qual ++ "<lambda>") K CA tl Fr) := by
  subst e1 e2 e3 e4 e5
  obtain ⟨fx, fd, FL, hm, hk, hb⟩ := G.ex
  have ln := G.ln
  refine ⟨fun pins s σ H Q I h => ?_⟩
  obtain ⟨hσ, hco, m, ch, r, hR, hsim, hq⟩ := h
  refine wpAny_Call_Name_kw (ld_glob I hg hm ?_ hdb)
  refine PySem.W.callWith_K (h₀ := X.base) I.ok.mod.kin hk ?_ (by rfl) (by rfl)
  show wpAny _ _ (spliced ((false, eval (.Name y p3) (envOfC q1 (defScope st1) s0.heap.objs.size g1 cd1)) :: backTo pos (starEach [] (envOfC q1 (defScope st1) s0.heap.objs.size g1 cd1)))) _ _ s
  refine Calls.spliced_cons (thn ((pe_var (X := cxD X.prog X.w X.K X.mg X.base N1 q1 st1 g1 cd1 A0 st0 s0 H0 E1) (pos := p3) (i := 0) hyN hyv hyd hyc).run _ s σ H (fun v H1 => v = .ref f ∧ H1 = H) I ⟨.ref f, hσ, rfl, rfl⟩) fun u s1 ⟨v, H1, I1, r1, q1⟩ => ?_)
  obtain ⟨ev, eH⟩ := q1
  subst ev
  rw [eH] at I1
  obtain rfl : u = Value.ref f := r1
  refine Calls.spliced_nil ⟨I1.kIn, ?_⟩
  have bt := hb s1 [.ref f] I1.kIn (by simp [ln])
  rw [List.append_nil] at bt
  have rc := FL.go X f c' tl _ _ s1 H ⟨[.ref f], []⟩ [] [] Q m ch [] r rfl rfl rfl rfl rfl hG hr I1.env0 bt .nil rfl (F.deeper I1) hco hsim hR .nil hq
  refine wpAny_call (codeAny_mono rc fun r s2 hq => ?_)
  cases r with
  | error e => exact (cx_00 hq).elim
  | ok fl =>
    cases fl with
    | ret u => exact I1.after hq
    | next => exact False.elim hq
    | brk => exact False.elim hq
    | cont => exact False.elim hq
theorem simL_fn {W : WX} {m : Mp} {h : CH} {H : Hp} {r : R D} {q : Str} {Fr : R D → FD} (s : LamSim K CA m h H tl r) (hc : H c' = some (LamX.CodeO c' q)) : SimL K CA W f m h H (tLamFn f c' q K CA tl Fr) (dLamF Fr r) := fun σ ρ Q' S e0 t =>
  ⟨e0, hc, m, h, r, S.hr, s, post_w0 t⟩
end
def tLamC (n : Nat) (q : Str) (K : PySem.W.Frag) (CA : CAs) (Fr : R D → FD) (t : XK → TE) (hs : TA) : TE := fun σ H Q => LamX.Tabs CA.T H ∧ ∀ (c' : Addr) (H1 : Hp), LamX.ExtN H H1 → LamX.Tabs CA.T H1 → H1 c' = some (LamX.CodeO c' q) →
  hs σ H1 fun vs H2 => H2 c' = some (LamX.CodeO c' q) ∧ vs.length = n ∧ ∃ (m : Mp) (h : CH) (ds : List D) (r : R D), HR K CA m h H2 ∧ RpAll K CA m h H2 vs ds ∧ LamSim K CA m h H2 (fun E H' Q' => t E σ H' Q') r ∧ PostE K CA W0 m h H2 [] Q (noxR (Fr r ds h))
def dLamC (n : Nat) (Fr : R D → FD) (tb : TD) (ts : TDs) : TD := fun ρ h => (ts ρ h).bind fun ds h1 => if ds.length = n then noxR (Fr (tb ρ h1) ds h1) else .no
section
variable {X : Cx} {K : PySem.W.Frag} {CA : CAs} {W : WX} {t : XK → TE} {tb : TD} {x : Str} {c P : Addr} {k kb n : Nat} {g : Bool} {params : Arguments} {body : Expr} {scope : Scope} {es : List Expr} {p lpos pos : Pos} {ps : List Str} {Fr : R D → FD} {hs : TA} {ts : TDs}
theorem sim_lamC (s : ∀ E : XK, SimE K CA (wxD E) (t E) tb) (ha : SimA K CA W hs ts) {q : Str} : SimE K CA W (tLamC n q K CA Fr t hs) (dLamC n Fr tb ts) := fun m h H σ ρ Q' S tt => by
  refine ⟨S.hr.tb, fun c' H1 ex T1 hco => ?_⟩
  obtain ⟨s1, S1⟩ := stp_ext S.hr ex T1
  have SO1 := S.move s1 S1
  refine ha m h H1 σ ρ _ SO1 ((PostG.from tt s1).bind fun ds h2 m2 vs H2 s2 S2 rr t2 => ?_)
  obtain ⟨l2, t3⟩ := post_ite t2
  refine ⟨stp_code S1 s2 hco, by rw [rr.length]; exact l2, m2, h2, ds, tb ρ h2, S2, rr, fun E σ' Q'' q => s E m2 h2 H2 σ ρ Q'' (SO1.move s2 S2) (post_sig q), post_w0 t3⟩
theorem we_lamC (G : Dl X.prog X.w X.K X.mg X.base CA x g k kb ps n Fr) (TB : LamX.TabB X.base X.mg c P) (hmT : (P, X.env.qual ++ "<lambda>") ∈ CA.T) (hu : ∀ p ∈ CA.T, p.1 = P → p.2 = X.env.qual ++ "<lambda>") (hG : g = true → X.A.guards = some []) (hr : Room k X.A) (hrb : Room (kb + 1) X.A)
    (L : LamX.lamSB X.env.scope scope = true)
    (hbody : ∀ (A : Around) (outer : List Env) (s : Shared) (H : Hp) (E : XK) (f c' : Addr), Room kb (A.deeper (LamX.lamEnv X scope s.heap.objs.size f c')) → Takes (LamX.lamCx X A outer s H E scope f c') (wxD E) → WE (LamX.lamCx X A outer s H E scope f c') K CA (wxD E) body (t E) tb)
    (ha : WA X K CA W es hs ts) (hcode : X.env.code = .ref c := by rfl) (hg : Gl X x := by rfl) (hK : X.K = K := by rfl) (hdef : defaultsOf params X.env = ([], []) := by rfl)
    (hbind : ∀ (q : Str) (cl : List (Str × Addr)) (pm cv ctv : Value), bindArgs (PySem.W.kla_fn "<lambda>" q params body scope cl pm cv ctv) ⟨[], []⟩ = pure [] := by intros; rfl) (hdb : (x == ("__debug__" : Str)) = false := by decide)
    (hst : X.stack = X.env :: X.outer := by rfl) (hfm : X.env.frame = some X.env.locals := by rfl)
    (he : starEach (.Lambda params body scope lpos :: es) X.env = (false, eval (.Lambda params body scope lpos) X.env) :: starEach es X.env := by rfl) (hpl : (backTo pos (starEach es X.env)).any (·.1) = false := by rfl) :
    WE X K CA W (.Call (.Name x p) (.Lambda params body scope lpos :: es) [] pos) (tLamC n (X.env.qual ++ "<lambda>") K CA Fr t hs) (dLamC n Fr tb ts) := by
  subst hK
  obtain ⟨fx, fd, FL, hm, hk, hb⟩ := G.ex
  have ln := G.ln
  refine ⟨⟨fun pins s σ H Q I h => ?_⟩, sim_lamC (fun E => (hbody X.A X.outer X.s_0 X.H_0 E 0 0 (hrb.deeper _) (takes_of rfl rfl rfl rfl)).sim) ha.sim⟩
  obtain ⟨hT, h⟩ := h
  refine wpAny_Call_Name_kw (ld_glob I hg hm ?_ hdb)
  refine PySem.W.callWith_K (h₀ := X.base) I.ok.mod.kin hk ?_ he hpl
  rw [he]
  show wpAny _ _ (spliced ((false, eval (.Lambda params body scope lpos) X.env) :: backTo pos (starEach es X.env))) _ _ s
  refine Calls.spliced_cons (LamX.lam_make2 I TB hcode hmT hu hT hdef ((LamX.lamS_by L).has I.ok) fun f c' pm' ctv H1 s' I1 eN T1 hf hfn hfr hco => ?_)
  have I2 : Inv X ((f, lamO X params body scope pm' c' ctv) :: pins) σ H1 s' := I1.pins_of fun p hp => by
    have fe : frs X.stack = X.env.locals :: X.fs := by
      rw [hst]
      unfold frs
      rw [List.filterMap_cons, hfm]
      rfl
    rw [fe] at hfr
    rcases List.mem_cons.mp hp with rfl | z
    · exact ⟨hf, hfn, fun e => hfr (List.mem_cons.mpr (.inl e)), fun e => hfr (List.mem_cons_of_mem _ e), fun v e => by cases e⟩
    · exact I1.pin p (List.mem_append_right _ z)
  refine thn (ha.pe.run pos ((f, lamO X params body scope pm' c' ctv) :: pins) s' σ H1 _ I2 (h c' H1 eN T1 hco)) fun us s2 ⟨vs, H2, I3, rv, hco2, hl, m, ch, ds, r, hR, rp, hsim, hq⟩ => ⟨I3.kIn, ?_⟩
  obtain ⟨pf, pn, pl, pfs, _⟩ := I3.pin (f, lamO X params body scope pm' c' ctv) (List.mem_append_right _ List.mem_cons_self)
  have hfr2 : f ∉ frs X.stack := fun z => by
    have fe : frs X.stack = X.env.locals :: X.fs := by
      rw [hst]
      unfold frs
      rw [List.filterMap_cons, hfm]
      rfl
    rw [fe] at z
    rcases List.mem_cons.mp z with e | e
    · exact pl e
    · exact pfs e
  have LF : LamF X f c' kb (fun E H' Q' => t E σ H' Q') X.stack s2 H2 := ⟨_, σ, H2, s2, params, body, scope, pm', ctv, t, I3, LamX.lamS_by L, pf, pn, hfr2, hbind _ _ _ _ _, fun A outer s H E hr2 => (hbody A outer s H E f c' hr2 (takes_of rfl rfl rfl rfl)).pe, rfl, fun _ _ _ _ _ un => un⟩
  have bt := hb s2 (.ref f :: us) I3.kIn (by have := rv.length; simp [ln]; omega)
  rw [List.append_nil] at bt
  have rc := FL.go X f c' _ _ _ s2 H2 ⟨.ref f :: us, []⟩ us vs Q m ch ds r rfl rfl rfl rfl rfl hG hr I3.env0 bt rv hl LF hco2 hsim hR rp hq
  have I4 := unpinV I3
  refine wpAny_call (codeAny_mono rc fun r s3 hq => ?_)
  cases r with
  | error e => exact (cx_00 hq).elim
  | ok fl =>
    cases fl with
    | ret u => exact I4.after hq
    | next => exact False.elim hq
    | brk => exact False.elim hq
    | cont => exact False.elim hq
end
end CM
namespace CM
open PySem PySem.Spec PySem.Calls PyProof.Rows L2
def dM1 (f : FM) (ta tb : TD) : TD := fun ρ h => (ta ρ h).bind fun x h => match x with
  | .str _ => (tb ρ h).bind fun y h => f x [y] h
  | _ => .no
def fSplit (nm : Bool) : FM := fun x xs h => match x, xs with
  | .str a, [.str b] => if (b.length == 0) = false ∧ a.length + 2 ≤ sizeLine then mkL nm ((Txt.split a b).map D.str) h else .no
  | _, _ => .no
def fJoin : FM := fun x xs h => match x, xs with
  | .str a, [y] => match seqOf h y with
    | some ds => match strsOf ds with
      | some ys => if (ys.map (·.length)).sum + ys.length * a.length ≤ 16777216 then .ok (.str (Txt.join a ys)) h else .no
      | none => .no
    | none => .no
  | _, _ => .no
section
variable {X : Cx} {K : PySem.W.Frag} {CA : CAs} {W : WX} {o e l tge call : Expr} {ha hb : TE} {ta tb : TD} {r : V → List V → Hp → VK → Prop} {f : FM}
theorem we_m1 (s : SimM K CA r f) (x : WE X K CA W o ha ta) (y : WE X K CA W e hb tb) (hp : PE X o ha → PE X e hb → PE X call (tM1 r ha hb)) : WE X K CA W call (tM1 r ha hb) (dM1 f ta tb) :=
  ⟨hp x.pe y.pe, fun m h H σ ρ Q' S t => x.sim m h H σ ρ _ S (t.bind fun d h1 m1 v H1 s1 S1 r1 t1 => by
    split at t1
    · rename_i a
      have ev : ∃ a, v = V.str a := by cases r1; exact ⟨_, rfl⟩
      exact ⟨ev, y.sim m1 h1 H1 σ ρ _ (S.move s1 S1) (t1.bind fun d2 h2 m2 w H2 s2 S2 r2 t2 => s W σ m2 h2 H2 v _ [w] [d2] Q' S2 (r1.move s2) (.cons r2 .nil) t2)⟩
    · exact t1.elim)⟩
theorem sim_split {nm : Bool} : SimM K CA (fun x xs H Q => ∃ a b, x = .str a ∧ xs = [.str b] ∧ (b.length == 0) = false ∧ a.length + 2 ≤ sizeLine ∧ rNewStrs (Txt.split a b) H Q) (fSplit nm) := by
  intro W σ m h H x dx xs ds Q' S rx rs t
  unfold fSplit at t
  split at t
  · obtain ⟨⟨c1, c2⟩, t⟩ := post_ite t
    cases rx
    cases rs with
    | cons r1 r2 =>
      cases r1; cases r2
      exact ⟨_, _, rfl, rfl, c1, c2, fun p n => mkL_post S n (all_strs _) t⟩
  · exact t.elim
theorem strs_rel {m : Mp} {h : CH} {H : Hp} : ∀ {vs : List V} {ds : List D} {ys : List Str}, RpAll K CA m h H vs ds → strsOf ds = some ys → vs = ys.map V.str
  | _, [], ys, r, e => by
    cases r
    cases e
    rfl
  | _, d :: ds, ys, r, e => by
    cases r with
    | cons r1 r2 =>
      cases d with
      | str x =>
        cases r1
        simp only [strsOf] at e
        cases q : strsOf ds with
        | none => rw [q] at e; cases e
        | some zs =>
          rw [q] at e
          cases e
          rw [strs_rel r2 q]
          rfl
      | _ => cases e
theorem sim_join : SimM K CA (fun x xs H Q => ∃ a p, ∃ ys : List Str, x = .str a ∧ xs = [.ref p] ∧ (SqL K H p (ys.map V.str) ∨ SqT K H p (ys.map V.str)) ∧ (ys.map (·.length)).sum + ys.length * a.length ≤ 16777216 ∧ Q (.str (Txt.join a ys)) H) fJoin := by
  intro W σ m h H x dx xs ds Q' S rx rs t
  unfold fJoin at t
  split at t
  · split at t
    · rename_i es e1
      split at t
      · rename_i ys e2
        obtain ⟨c, t⟩ := post_ite t
        cases rx
        cases rs with
        | cons r1 r2 =>
          cases r2
          obtain ⟨a, vs, rfl, q, rr⟩ := rp_seq S r1 e1
          rw [strs_rel rr e2] at q
          exact ⟨_, a, ys, rfl, rfl, q, c, t.here S (.str _)⟩
      · exact t.elim
    · exact t.elim
  · exact t.elim
end
end CM
namespace CM
open PySem PySem.Spec PySem.Calls PyProof.Rows L2
def eqB (k : Bool) (v : Value) : Bool := match v with
  | .bool b => b == k
  | _ => false
theorem vals_bls : ∀ {bs : List Bool} {us : List Value}, Vals (bs.map V.bl) us → us = bs.map Value.bool
  | [], _, r => by cases r; rfl
  | b :: bs, _, r => by
    cases r with
    | cons r1 r2 =>
      rw [vals_bls r2]
      have : _ = Value.bool b := r1
      rw [this]
      rfl
theorem eqB_count {k : Bool} : ∀ bs : List Bool, (bs.map Value.bool).countP (eqB k) = bs.count k
  | [] => rfl
  | b :: bs => by
    rw [List.map_cons, List.countP_cons, List.count_cons, eqB_count bs]
    rfl
def rCntB (K : PySem.W.Frag) : V → List V → Hp → VK → Prop := fun x xs H Q => ∃ (p : Addr) (bs : List Bool) (k : Bool), x = .ref p ∧ xs = [.bl k] ∧ SqL K H p (bs.map V.bl) ∧ Q (.int (bs.count k : Nat)) H
theorem mt_bcount {X : Cx} : MtR X "list.count" (rCntB X.K) := by
  intro pins s σ H x xs v us Q I rx rxs h
  obtain ⟨p, bs, k, rfl, rfl, hs, q⟩ := h
  cases rx
  obtain ⟨u, rfl, ru⟩ := rxs.one
  obtain rfl : u = Value.bool k := ru
  obtain ⟨its, rv, ⟨⟨cls, dd, data, sl⟩, n, ho, hc, hdn, hd⟩, hlen⟩ := I.list hs
  simp only at hc hd
  subst hc hd
  have hi := vals_bls rv
  refine call_meets PySem.F.slot_list_count ⟨_, ho, rfl⟩ PySem.F.entry_list_count (PySem.F.args_list_count_2 _ _)
    (SeqAt.list_countAt p its.toArray n dd sl (.bool k) (eqB k)) ⟨ho, fun y hy => ?_, ?_⟩
  · have hy' : y ∈ bs.map Value.bool := by rw [← hi]; simpa using hy
    obtain ⟨b, _, rfl⟩ := List.mem_map.mp hy'
    exact SeqAt.EqAt.bool_bool b k
  have ec : its.toArray.toList.countP (eqB k) = bs.count k := by
    rw [List.toList_toArray, hi]
    exact eqB_count bs
  refine ⟨.int (bs.count k : Nat), H, I.tok _, ⟨s.toks, ?_⟩, q⟩
  show Value.int ((its.toArray.toList.countP (eqB k) : Nat) : Int) s.toks = Value.int ((bs.count k : Nat) : Int) s.toks
  rw [ec]
def fCntB : FM := fun x xs h => match xs with
  | [.bl k] => match lstOf h x with
    | some ds => match blsOf ds with
      | some bs => .ok (.int (bs.count k : Nat)) h
      | none => .no
    | none => .no
  | _ => .no
section
variable {K : PySem.W.Frag} {CA : CAs}
theorem bls_rel {m : Mp} {h : CH} {H : Hp} : ∀ {vs : List V} {ds : List D} {ys : List Bool}, RpAll K CA m h H vs ds → blsOf ds = some ys → vs = ys.map V.bl
  | _, [], ys, r, e => by
    cases r
    cases e
    rfl
  | _, d :: ds, ys, r, e => by
    cases r with
    | cons r1 r2 =>
      cases d with
      | bl x =>
        cases r1
        simp only [blsOf] at e
        cases q : blsOf ds with
        | none => rw [q] at e; cases e
        | some zs =>
          rw [q] at e
          cases e
          rw [bls_rel r2 q]
          rfl
      | _ => cases e
theorem sim_cntB : SimM K CA (rCntB K) fCntB := by
  intro W σ m h H x dx xs ds Q' S rx rs t
  unfold fCntB at t
  split at t
  · split at t
    · rename_i es e1
      split at t
      · rename_i ys e2
        cases rs with
        | cons r1 r2 =>
          cases r1; cases r2
          obtain ⟨a, vs, rfl, q, rr⟩ := rp_lst S rx e1
          rw [bls_rel rr e2] at q
          exact ⟨a, ys, _, rfl, rfl, .of q, t.here S (.int _)⟩
      · exact t.elim
    · exact t.elim
  · exact t.elim
end
end CM
namespace CM
open PySem PySem.Spec PySem.Calls PyProof.Rows L2
end CM
namespace CM
open PySem PySem.Spec PySem.Calls PyProof.Rows L2
end CM
namespace L2
open PySem PySem.Spec PyProof.Rows
/-- the tuple at a and the list at b, of one length, item by item -/
def Itzm (K : PySem.W.Frag) (a b : Addr) : It :=
  ⟨fun i H => ∃ (us ws : List V) (p q : V), SqT K H a us ∧ SqL K H b ws ∧ us[i]? = some p ∧ ws[i]? = some q,
   fun i H v H' => ∃ T p q, v = .ref T ∧ H T = none ∧ H' = upd H T (.tup [p, q]) ∧ (∀ us, SqT K H a us → us[i]? = some p) ∧ ∀ ws, SqL K H b ws → ws[i]? = some q,
   fun i H => ∃ us ws : List V, SqT K H a us ∧ SqL K H b ws ∧ us.length = i ∧ ws.length = i⟩
theorem turn_zm {P : Program} {w : World} {K : PySem.W.Frag} {elts : List Expr} {kk : Nat} {tpos : Pos} {a b c TI TO i1 i2 : Addr} (D : ZipSep2 c TI TO i1 i2 [i1, a] [i2, b]) (na : a ≠ i1) (nb : b ≠ i2) :
    Turn P w K (.Tuple elts kk tpos) (Itzm K a b) [c, TI, TO, i1, i2] c (fun i h => IsZip h c TI TO .none ∧ IsTupOf2 h TI (.ref i1) (.ref i2) ∧ (∃ x y, IsTupOf2 h TO x y) ∧ h.IsTupleIter i1 a i ∧ h.IsListIter i2 b i) where
  mem := List.mem_cons_self ..
  obj := fun i h ⟨g1, g2, ⟨x, y, g3⟩, ⟨oa, ga, _, da⟩, ⟨ob, gb, _, db⟩⟩ e he => by
    simp only [List.mem_cons, List.not_mem_nil, or_false] at he
    rcases he with rfl | rfl | rfl | rfl | rfl
    · exact ⟨_, g1, fun v t => nomatch t⟩
    · exact ⟨_, g2, fun v t => nomatch t⟩
    · exact ⟨_, g3, fun v t => nomatch t⟩
    · exact ⟨oa, ga, fun v t => by rw [da] at t; cases t⟩
    · exact ⟨ob, gb, fun v t => by rw [db] at t; cases t⟩
  keep := fun i h h' ⟨g1, g2, ⟨x, y, g3⟩, ga, gb⟩ k =>
    ⟨k c (by simp) _ g1, k TI (by simp) _ g2, ⟨x, y, k TO (by simp) _ g3⟩, ga.at fun o t => k i1 (by simp) o t, gb.at fun o t => k i2 (by simp) o t⟩
  item := by
    intro X hP hw hK hc i pins s σ H E I hf ⟨g1, g2, ⟨x0, y0, g3⟩, ga, gb⟩ hg
    subst hP hw hK
    obtain ⟨us, ws, x, y, qa, qb, xa, yb⟩ := hg
    obtain ⟨va, ra, pa, _⟩ := I.tuple qa
    obtain ⟨vb, rb, pb, _⟩ := I.list qb
    obtain ⟨u, eu, ru⟩ := ra.get xa
    obtain ⟨u2, eu2, ru2⟩ := rb.get yb
    have la : i < va.toArray.size := by have := (List.getElem?_eq_some_iff.mp eu).1; simpa using this
    have lb : i < vb.toArray.size := by have := (List.getElem?_eq_some_iff.mp eu2).1; simpa using this
    have hd := I.ok.hd hc
    have D1 := Draws.tuple (prog := X.prog) (w := X.w) (A := X.A.in1) hd i1 a na va.toArray
    have D2 := Draws.list (prog := X.prog) (w := X.w) (A := X.A.in1) hd i2 b nb vb.toArray
    have cl : c < s.heap.objs.size := Heap.lt_size g1
    refine wpAny_pyNext_zipD2_item D D1 D2 g1 g2 g3 ⟨ga, pa⟩ ⟨gb, pb.isList⟩ la lb fun y1 y2 h1 tk o1 o2 c1 t1 s1 s2 nt sz kp => ?_
    have e1 : y1 = u := Option.some.inj ((show va.toArray[i]? = some y1 from o1).symm.trans (by simpa using eu))
    have e2 : y2 = u2 := Option.some.inj ((show vb.toArray[i]? = some y2 from o2).symm.trans (by simpa using eu2))
    subst e1
    subst e2
    refine ⟨_, rfl, wpAny_letOwnedTupleGo_zip (s := { s with heap := h1, toks := tk }) c1 fun h2 c2 sb => ?_⟩
    have nt2 := (sb.2 _ (Nat.ne_of_gt cl)).trans nt
    have I2 : Inv X pins σ (upd H s.heap.objs.size (.tup [x, y])) { s with heap := h2, toks := tk } :=
      I.turnedNew (ch := [c, TI, TO, i1, i2]) (fun e o ne q => (sb.2 e (fun z => ne (by simp [z]))).trans (kp e o (fun z => ne (by simp [z])) (fun z => ne (by simp [z])) (fun z => ne (by simp [z])) (fun z => ne (by simp [z])) q)) hf (Nat.le_refl _)
        ⟨by show 2 ≤ sizeLine; decide, [y1, y2], .cons ru (.cons ru2 .nil), ⟨_, nt2, rfl, _, rfl⟩⟩
    refine ⟨.ref s.heap.objs.size, _, I2, rfl, ⟨_, x, y, rfl, I.hok.fresh (Nat.le_refl _), rfl, fun l q => by rw [I.tuple_inj q qa]; exact xa, fun l q => by rw [I.list_inj q qb]; exact yb⟩, ⟨c2, ?_, ⟨y1, y2, (sb.2 _ D.TOz).trans t1⟩, s1.1.at fun o q => (sb.2 _ D.zi1.symm).trans q, s2.1.at fun o q => (sb.2 _ D.zi2.symm).trans q⟩, fun e he => ?_⟩
    · exact (sb.2 _ D.TIz).trans (kp _ _ D.TIz D.TITO D.TIi1 D.TIi2 g2)
    · have le : e < s.heap.objs.size := by
        simp only [List.mem_cons, List.not_mem_nil, or_false] at he
        obtain ⟨oa, ka, _⟩ := ga
        obtain ⟨ob, kb, _⟩ := gb
        rcases he with rfl | rfl | rfl | rfl | rfl
        · exact cl
        · exact Heap.lt_size g2
        · exact Heap.lt_size g3
        · exact Heap.lt_size ka
        · exact Heap.lt_size kb
      rw [upd_ne (Nat.ne_of_lt le)]
      exact (hf e he).1
  done := by
    intro X hP hw hK hc i pins s σ H E I hf ⟨g1, g2, ⟨x0, y0, g3⟩, ga, gb⟩ hg
    subst hP hw hK
    obtain ⟨us, ws, qa, qb, lu, lw⟩ := hg
    obtain ⟨va, ra, pa, _⟩ := I.tuple qa
    obtain ⟨vb, rb, pb, _⟩ := I.list qb
    have la := ra.length
    have lb := rb.length
    have hd := I.ok.hd hc
    have D1 := Draws.tuple (prog := X.prog) (w := X.w) (A := X.A.in1) hd i1 a na va.toArray
    have D2 := Draws.list (prog := X.prog) (w := X.w) (A := X.A.in1) hd i2 b nb vb.toArray
    have ea : va.toArray.size = i := by rw [List.size_toArray]; omega
    have eb : vb.toArray.size = i := by rw [List.size_toArray]; omega
    refine wpAny_pyNext_zipD2_end D D1 D2 g1 g2 g3 ⟨ga, pa⟩ ⟨gb, pb.isList⟩ (by omega) (by omega) (.inl (by omega)) fun h1 tk kp => ⟨rfl, I.turnedL (t' := tk) (ch := [c, TI, TO, i1, i2]) (fun e o ne q =>
      kp e o (fun z => ne (by simp [z])) (fun z => ne (by simp [z])) (fun z => ne (by simp [z])) (fun z => ne (by simp [z])) q) hf⟩
  self := fun A i s Q E st h => wpAny_pyIter_zip st.1 h
theorem nin2 {x y z : Nat} (h1 : x ≠ y) (h2 : x ≠ z) : (x : Addr) ∉ ([y, z] : List Addr) := fun q => by
  rcases List.mem_cons.mp q with e | q
  · exact h1 e
  · rcases List.mem_cons.mp q with e | q
    · exact h2 e
    · cases q
theorem zsep {n a b : Nat} (la : a < n) (lb : b < n) : ZipSep2 (n + 4) (n + 2) (n + 3) n (n + 1) [n, a] [n + 1, b] where
  TIz := Nat.ne_of_lt (Nat.add_lt_add_left (by decide) n)
  TOz := Nat.ne_of_lt (Nat.add_lt_add_left (by decide) n)
  TITO := Nat.ne_of_lt (Nat.add_lt_add_left (by decide) n)
  TIi1 := Nat.ne_of_gt (Nat.lt_add_of_pos_right (by decide))
  mem1 := List.mem_cons_self ..
  zf1 := nin2 (Nat.ne_of_gt (Nat.lt_add_of_pos_right (by decide))) (Nat.ne_of_gt (Nat.lt_of_lt_of_le la (Nat.le_add_right n 4)))
  Tf1 := nin2 (Nat.ne_of_gt (Nat.lt_add_of_pos_right (by decide))) (Nat.ne_of_gt (Nat.lt_of_lt_of_le la (Nat.le_add_right n 3)))
  TIi2 := Nat.ne_of_gt (Nat.add_lt_add_left (by decide) n)
  mem2 := List.mem_cons_self ..
  zf2 := nin2 (Nat.ne_of_gt (Nat.add_lt_add_left (by decide) n)) (Nat.ne_of_gt (Nat.lt_of_lt_of_le lb (Nat.le_add_right n 4)))
  Tf2 := nin2 (Nat.ne_of_gt (Nat.add_lt_add_left (by decide) n)) (Nat.ne_of_gt (Nat.lt_of_lt_of_le lb (Nat.le_add_right n 3)))
  sep1_2 := nin2 (Nat.ne_of_lt (Nat.lt_add_of_pos_right (by decide))) (Nat.ne_of_gt lb)
  sep2_1 := nin2 (Nat.ne_of_gt (Nat.lt_add_of_pos_right (by decide))) (Nat.ne_of_gt (Nat.lt_of_lt_of_le la (Nat.le_add_right n 1)))
def iZm (K : PySem.W.Frag) (ta : TA) : TI := fun σ H R => ta σ H fun vs H1 => ∃ a b us ws, vs = [.ref a, .ref b] ∧ SqT K H1 a us ∧ SqL K H1 b ws ∧ R (Itzm K a b) H1
theorem pi_zm {X : Cx} {e e2 : Expr} {ta : TA} {p pos tpos : Pos} {elts : List Expr} {kk : Nat} (hg : Gl X "zip") (hm : X.mg "zip" = none) (ha : PA X [e, e2] ta)
    (he : starEach [e, e2] X.env = (false, eval e X.env) :: starEach [e2] X.env := by rfl) (hn : (backTo pos (starEach [e2] X.env)).any (·.1) = false := by rfl) :
    PI X (.Tuple elts kk tpos) (.Call (.Name "zip" p) [e, e2] [] pos) (iZm X.K ta) := by
  refine ⟨fun pins s σ H R I h => ?_⟩
  refine Call_ (ld_blt I hg hm PyProof.Rows.boot_zip (PyProof.Rows.callWith_type1 (thn (ha.run pos pins s σ H _ I h) fun us s1 ⟨vs, H1, I1, r1, q1⟩ => ?_) he hn))
  obtain ⟨a, b, xs, ys, rfl, qa, qb, q⟩ := q1
  cases r1 with
  | cons ra rr =>
    cases rr with
    | cons rb rr =>
      cases rr
      cases ra
      cases rb
      obtain ⟨va, wa, pa, _⟩ := I1.tuple qa
      obtain ⟨vb, wb, pb, _⟩ := I1.list qb
      have pat : s1.heap.IsTuple a va.toArray := pa
      have pbl := pb.isList
      obtain ⟨oa, ga, _⟩ := id pat
      obtain ⟨ob, gb, _⟩ := id pbl
      have la := Heap.lt_size ga
      have lb := Heap.lt_size gb
      refine zip_begins2 (begins_tuple a va.toArray) (begins_list b vb.toArray) pat pbl fun h' z1 z2 z3 z4 z5 z6 kp => wpAny_pyIter_zip z1 ?_
      have I2 : Inv X pins σ H1 { s1 with heap := h' } := I1.kept (t' := s1.toks) kp
      refine ⟨s1.heap.objs.size + 4, [s1.heap.objs.size + 4, s1.heap.objs.size + 2, s1.heap.objs.size + 3, s1.heap.objs.size, s1.heap.objs.size + 1], _, _, H1, rfl, I2,
        turn_zm (zsep la lb) (Nat.ne_of_lt la) (Nat.ne_of_lt (Nat.lt_of_lt_of_le lb (Nat.le_add_right _ 1))), ⟨z1, z2, ⟨_, _, z3⟩, ⟨_, z4, rfl, rfl⟩, ⟨_, z5, rfl, rfl⟩⟩, fun d hd => ?_, q⟩
      have ge : s1.heap.objs.size ≤ d := by
        simp only [List.mem_cons, List.not_mem_nil, or_false] at hd
        rcases hd with rfl | rfl | rfl | rfl | rfl
        · exact Nat.le_add_right _ _
        · exact Nat.le_add_right _ _
        · exact Nat.le_add_right _ _
        · exact Nat.le_refl _
        · exact Nat.le_add_right _ _
      exact I1.fpOk ge (I1.hok.fresh ge)
end L2
namespace CM
open PySem PySem.Spec PySem.Calls PyProof.Rows L2
def zpD : List D → List D → List D
  | x :: xs, y :: ys => .tup [x, y] :: zpD xs ys
  | _, _ => []
def dZm (ts : TDs) : TDw := fun ρ h => (ts ρ h).bind fun ds h => match ds with
  | [.tup xs, .lst ys] => if xs.length = ys.length then .ok (zpD xs ys, none) h else .no
  | _ => .no
theorem zpD_get : ∀ (xs ys : List D) (i : Nat) (d : D), (zpD xs ys)[i]? = some d → ∃ x y, xs[i]? = some x ∧ ys[i]? = some y ∧ d = .tup [x, y]
  | [], _, _, _, e => by simp [zpD] at e
  | _ :: _, [], _, _, e => by simp [zpD] at e
  | x :: xs, y :: ys, 0, d, e => ⟨x, y, rfl, rfl, by simpa [zpD] using e.symm⟩
  | x :: xs, y :: ys, i + 1, d, e => by
    obtain ⟨p, q, a, b, c⟩ := zpD_get xs ys i d (by simpa [zpD] using e)
    exact ⟨p, q, by simpa using a, by simpa using b, c⟩
theorem zpD_len : ∀ (xs ys : List D), xs.length = ys.length → (zpD xs ys).length = xs.length
  | [], [], _ => rfl
  | _ :: _, [], e => by simp at e
  | [], _ :: _, e => by simp at e
  | x :: xs, y :: ys, e => by simp [zpD, zpD_len xs ys (by simpa using e)]
section
variable {X : Cx} {K : PySem.W.Frag} {CA : CAs} {W : WX} {es : List Expr} {tge l : Expr} {hs : TA} {ts : TDs}
theorem wk_zm {m : Mp} {h : CH} {H : Hp} {a b : Addr} {us ws : List V} {xs ys : List D} (ka : ∀ m' h' H', Sz m h H m' h' H' → SqT K H' a us) (kb : ∀ m' h' H', Sz m h H m' h' H' → SqL K H' b ws) (ra : RpAll K CA m h H us xs) (rb : RpAll K CA m h H ws ys) (el : xs.length = ys.length) : Wk K CA m h H (Itzm K a b) (zpD xs ys) :=
  ⟨fun i m' h' H' d s S hd => by
    obtain ⟨x, y, hx, hy, rfl⟩ := zpD_get xs ys i d hd
    obtain ⟨v, ev, rv⟩ := ra.getD hx
    obtain ⟨w, ew, rw'⟩ := rb.getD hy
    have qa := ka m' h' H' s
    have qb := kb m' h' H' s
    refine ⟨⟨us, ws, v, w, qa, qb, ev, ew⟩, fun z H2 yl => ?_⟩
    obtain ⟨T, p, q, rfl, nT, rfl, hp, hq⟩ := yl
    have e1 := (hp us qa).symm.trans ev
    have e2 := (hq ws qb).symm.trans ew
    cases e1
    cases e2
    exact ⟨upd_new nT, .tup (S.fresh nT) upd_same (.cons ((rv.mv s.toMv).move (stp_laid S nT)) (.cons ((rw'.mv s.toMv).move (stp_laid S nT)) .nil))⟩,
   fun m' h' H' s S => ⟨us, ws, ka m' h' H' s, kb m' h' H' s, by rw [zpD_len xs ys el, ra.length], by rw [zpD_len xs ys el, el, rb.length]⟩⟩
theorem wi_zm (h : WA X K CA W es hs ts) (hp : PA X es hs → PI X tge l (iZm K hs)) : WI X K CA W tge l (iZm K hs) (dZm ts) := by
  refine ⟨hp h.pe, fun m hh H σ ρ R' S t => h.sim m hh H σ ρ _ S (PostI.bind t fun ds h1 m1 vs H1 s1 S1 r1 t1 => ?_)⟩
  split at t1
  · obtain ⟨el, t1⟩ := postI_ite t1
    cases r1 with
    | cons ra rr =>
      cases rr with
      | cons rb rr =>
        cases rr
        cases rb with
        | lst n e r =>
          cases ra with
          | tup n2 e2 r2 => exact ⟨_, _, _, _, rfl, .of e2, .of e, t1.walk s1 S1 (wk_zm (keep_tup n2 e2) (keep_lst n e) r2 r el)⟩
          | ktup e2 r2 => exact ⟨_, _, _, _, rfl, sq_emp e2, .of e, t1.walk s1 S1 (wk_zm (fun _ _ _ _ => sq_emp e2) (keep_lst n e) r2 r el)⟩
  · exact t1.elim
end
end CM
namespace CM
open PySem PySem.Spec PySem.Calls PyProof.Rows L2
def gdUnl (n : Nat) (t : TGDs) : TGD := fun d ρ h => match lstOf h d with
  | some ds => if ds.length = n then t ds ρ h else .no
  | none => .no
section
variable {X : Cx} {K : PySem.W.Frag} {CA : CAs} {W : WX} {es : List Expr} {gHs : TGs} {tgs : TGDs} {pos : Pos}
theorem wg_unl {n k : Nat} {sl : List Nat} (hc : X.calm = true) (h : WGs X K CA es sl gHs tgs) (hn : (assignEach es X.env).length = n := by rfl) (hst : (assignEach es X.env).findIdx? (·.1) = none := by rfl) (hK : X.K = K := by rfl) : WG X K CA (.Tuple es k pos) sl (gUnl K n gHs) (gdUnl n tgs) := by
  subst hK
  refine ⟨pg_unl hc h.pe hn hst, fun m hh H σ ρ v d Q' S r q => ?_⟩
  unfold gdUnl at q
  split at q
  · rename_i ds e
    by_cases hl : ds.length = n
    · rw [if_pos hl] at q
      obtain ⟨a, xs, rfl, e1, r1⟩ := rp_lst S.hr r e
      exact ⟨a, xs, rfl, .of e1, r1.length.trans hl, h.sim m hh H σ ρ xs ds Q' S r1 q⟩
    · rw [if_neg hl] at q; exact q.elim
  · exact q.elim
end
end CM
namespace CM
open PySem PySem.Spec PyProof.Rows L2
def smallP (p : PyData) : Bool := SeqAt.shaped p && decide (p.depth ≤ 32)
def okDP (h : CH) (d : D) : Bool := match toP h 9 d with
  | some p => smallP p
  | none => false
def hitP (h : CH) (ls : List (Key × D)) (p : Key × D) : Bool := match toP h 9 p.2, (dGet ls p.1).bind (toP h 9) with
  | some a, some b => PyData.eqv a b
  | _, _ => false
def fEqDP (neg : Bool) : F2 := fun x y h => match dctOf h x, dctOf h y with
  | some ks, some ls => if (ks.all fun p => okDP h p.2) = true ∧ (ls.all fun p => okDP h p.2) = true then .ok (.bl (bneg neg (ks.length == ls.length && ks.all (hitP h ls)))) h else .no
  | _, _ => .no
def hitsP (F : Key → Option PyData) : List Key → List PyData → Bool
  | k :: ks, p :: ps => (match F k with
    | some q => PyData.eqv p q
    | none => false) && hitsP F ks ps
  | _, _ => true
def rEqDP (K : PySem.W.Frag) (neg : Bool) : R2 := fun x y H Q => ∃ a b kvs lvs, ∃ (ps : List PyData) (F : Key → Option PyData), x = .ref a ∧ y = .ref b ∧ Rd H a (.dK kvs) ∧ Rd H b (.dK lvs) ∧ DpAll K H (kvs.map (·.2)) ps ∧ (∀ p ∈ ps, smallP p = true) ∧
  (∀ k, (∃ v q, valV lvs k = some v ∧ F k = some q ∧ Dp K H v q ∧ smallP q = true) ∨ (valV lvs k = none ∧ F k = none)) ∧ Q (.bl (bneg neg (kvs.length == lvs.length && hitsP F (kvs.map (·.1)) ps))) H
section
variable {X : Cx} {K : PySem.W.Frag} {CA : CAs} {W : WX} {m : Mp} {h : CH} {H : Hp} {σ : L2.St}
theorem hits_dp {pins : List (Addr × Obj)} {s : Shared} {σ : L2.St} (I : Inv X pins σ H s) (hu : X.A.units + 64 < cLine) {F : Key → Option PyData} {lvs : List (Key × V)} {vb : List (Key × Value)} (rb : KV lvs vb)
    (hF : ∀ k, (∃ v q, valV lvs k = some v ∧ F k = some q ∧ Dp X.K H v q ∧ smallP q = true) ∨ (valV lvs k = none ∧ F k = none)) {ks : List (Key × V)} {va : List (Key × Value)} (ra : KV ks va) :
    ∀ {ps : List PyData}, DpAll X.K H (ks.map (·.2)) ps → (∀ p ∈ ps, smallP p = true) → PySem.W.KeqHits X.A.in1 s vb va (hitsP F (ks.map (·.1)) ps) := by
  unfold KV at ra
  induction ra with
  | nil => intro ps D _; cases D; exact .nil
  | @cons p q ks va hh t ih =>
    intro ps D sm
    obtain ⟨h1, h2⟩ := hh
    cases D with
    | @cons v vs d ds d1 d2 =>
      obtain ⟨k, y⟩ := q
      have h1' : p.1 = k := h1
      have rr := rb.val p.1
      have sd := sm d List.mem_cons_self
      rcases hF p.1 with ⟨v', q', e1, e2, e3, e4⟩ | ⟨e1, e2⟩
      · rw [e1] at rr
        obtain ⟨z, hz, rz⟩ := rr.some_of
        rw [h1'] at hz
        obtain ⟨as, r1⟩ := Dp.reads I d _ y d1 h2
        obtain ⟨bs, r2⟩ := Dp.reads I q' _ z e3 rz
        have c1 := Bool.and_eq_true_iff.mp sd
        have c2 := Bool.and_eq_true_iff.mp e4
        have dd : d.depth ≤ 32 := of_decide_eq_true c1.2
        have room : X.A.in1.units + min d.depth q'.depth < cLine := by
          show X.A.units + 1 + min d.depth q'.depth < cLine
          have := Nat.min_le_left d.depth q'.depth
          omega
        have he := SeqAt.eqAt_reads d q' X.A.in1 s y z as bs r1 r2 (SeqAt.canLay_of_shaped c1.1) (SeqAt.canLay_of_shaped c2.1) room
        have st : hitsP F ((p :: ks).map (·.1)) (d :: ds) = (PyData.eqv d q' && hitsP F (ks.map (·.1)) ds) := by
          show ((match F p.1 with | some q => PyData.eqv d q | none => false) && hitsP F (ks.map (·.1)) ds) = _
          rw [e2]
        rw [st]
        exact .hit hz he (ih d2 fun x hx => sm x (List.mem_cons_of_mem _ hx))
      · rw [e1] at rr
        have hz : valueAt vb k = none := by
          rw [← h1']
          cases hv : valueAt vb p.1 with
          | none => rfl
          | some z => rw [hv] at rr; cases rr
        have st : hitsP F ((p :: ks).map (·.1)) (d :: ds) = false := by
          show ((match F p.1 with | some q => PyData.eqv d q | none => false) && hitsP F (ks.map (·.1)) ds) = _
          rw [e2]
          rfl
        rw [st]
        exact .miss hz
theorem op_eqDP (hu : X.A.units + 64 < cLine) (hK : X.K = K := by rfl) : OpR X (compareOp .Eq) (rEqDP K false) := by
  subst hK
  intro pins s σ H x y v u Q I rx ry h
  obtain ⟨a, b, ks, ls, ps, F, rfl, rfl, ea, eb, dp, sm, hF, q⟩ := h
  cases (show v = Value.ref a from rx)
  cases (show u = Value.ref b from ry)
  obtain ⟨_, ya, va, ra, da⟩ := dk_rd I.hok ea
  obtain ⟨_, yb, vb, rb, db⟩ := dk_rd I.hok eb
  refine PySem.W.keq_eq (knd := mixKind X.prog X.w) (r := hitsP F (ks.map (·.1)) ps) ya yb da db (by omega) (fun _ => hits_dp I hu rb hF ra dp sm) (fin_bl I q ?_)
  rw [ra.length, rb.length]
  simp [bneg]
theorem dps_okDP (S : HR K CA m h H) : ∀ (ds : List D) (vs : List V), RpAll K CA m h H vs ds → (ds.all fun d => okDP h d) = true → ∃ ps, ds.mapM (toP h 9) = some ps ∧ DpAll K H vs ps ∧ ∀ p ∈ ps, smallP p = true
  | [], _, r, _ => by cases r; exact ⟨[], rfl, .nil, fun p hp => by cases hp⟩
  | d :: ds, _, r, e => by
    cases r with
    | cons h1 h2 =>
      rw [List.all_cons, Bool.and_eq_true] at e
      obtain ⟨ps, e1, d1, s1⟩ := dps_okDP S ds _ h2 e.2
      have o := e.1
      unfold okDP at o
      cases q : toP h 9 d with
      | none => rw [q] at o; cases o
      | some p =>
        rw [q] at o
        refine ⟨p :: ps, ?_, .cons (rp_dp S 9 d _ p h1 q) d1, fun x hx => ?_⟩
        · rw [List.mapM_cons, q, e1]
          rfl
        · rcases List.mem_cons.mp hx with rfl | hx
          · exact o
          · exact s1 x hx
theorem hits_same (ls : List (Key × D)) : ∀ (ks : List (Key × D)) (ps : List PyData), (ks.map (·.2)).mapM (toP h 9) = some ps → ks.all (hitP h ls) = hitsP (fun k => (dGet ls k).bind (toP h 9)) (ks.map (·.1)) ps
  | [], ps, e => by simp at e; subst e; rfl
  | k :: ks, ps, e => by
    rw [List.map_cons, List.mapM_cons] at e
    simp only [Option.bind_eq_bind, Option.bind_eq_some_iff, Option.pure_def, Option.some.injEq] at e
    obtain ⟨p, e1, qs, e2, rfl⟩ := e
    rw [List.all_cons, hits_same ls ks qs e2]
    show (hitP h ls k && _) = ((match (dGet ls k.1).bind (toP h 9) with | some q => PyData.eqv p q | none => false) && _)
    unfold hitP
    rw [e1]
    cases (dGet ls k.1).bind (toP h 9) <;> rfl
theorem sim_eqDP {neg : Bool} : SimR K CA (rEqDP K neg) (fEqDP neg) := by
  intro W σ m h H x y dx dy Q' S rx ry t
  unfold fEqDP at t
  split at t
  · rename_i ks ls e1 e2
    split at t
    · rename_i c
      obtain ⟨ca, cb⟩ := c
      obtain ⟨a, ka, rfl, h1, q1, r1⟩ := rp_dctR2 S rx e1
      obtain ⟨b, kb, rfl, h2, q2, r2⟩ := rp_dctR2 S ry e2
      obtain ⟨ps, m1, d1, s1⟩ := dps_okDP S (ks.map (·.2)) _ r1 (by rw [List.all_map]; exact ca)
      refine ⟨a, b, ka, kb, ps, fun k => (dGet ls k).bind (toP h 9), rfl, rfl, h1, h2, d1, s1, fun k => ?_, ?_⟩
      · rcases rp_dget (k := k) q2 r2 with ⟨v, d, g1, g2, g3⟩ | ⟨g1, g2⟩
        · refine .inl ?_
          have o : okDP h d = true := by
            have : ∃ p ∈ ls, p.2 = d := by
              unfold dGet at g2
              rw [Option.map_eq_some_iff] at g2
              obtain ⟨p, f, rfl⟩ := g2
              exact ⟨p, List.mem_of_find?_eq_some f, rfl⟩
            obtain ⟨p, mp, rfl⟩ := this
            exact List.all_eq_true.mp cb p mp
          unfold okDP at o
          cases q : toP h 9 d with
          | none => rw [q] at o; cases o
          | some z =>
            rw [q] at o
            exact ⟨v, z, g1, by simp [g2, q], rp_dp S 9 d v z g3 q, o⟩
        · exact .inr ⟨g1, by simp [g2]⟩
      · have l1 := congrArg List.length q1
        have l2 := congrArg List.length q2
        simp only [List.length_map] at l1 l2
        rw [l1, l2, q1, ← hits_same ls ks ps m1]
        exact t.here S (.bl _)
    · exact t.elim
  · exact t.elim
end
end CM
namespace CM
open PySem PySem.Spec PyProof.Rows L2
section
variable (K : PySem.W.Frag) (a : Addr)
def objD : Obj := (K.lookup a).getD default
def fdD : FuncData := match (objD K a).data with
  | .func fd => fd
  | _ => default
def fldD : Array Value := match (objD K a).data with
  | .fields vs => vs
  | _ => #[]
def seqD : Array Value := match (objD K a).data with
  | .seq vs _ => vs
  | _ => #[]
def seqN : Nat := match (objD K a).data with
  | .seq _ n => n
  | _ => 0
def celD : Option Value := match (objD K a).data with
  | .cell v => v
  | _ => none
/-- which kind stands there: 1 a function, 2 fields, 3 a row of items, 4 a dict, 5 a cell -/
def kndD : Nat := match K.lookup a with
  | some o => (match o.data with
    | .func _ => 1
    | .fields _ => 2
    | .seq _ _ => 3
    | .dict _ _ => 4
    | .cell _ => 5
    | _ => 0)
  | none => 0
end
def refA : Value → Addr
  | .ref a => a
  | _ => 0
def tkV : Value → Tok
  | .int _ t => t
  | .str _ t => t
  | _ => default
def strV : Value → Str
  | .str x _ => x
  | _ => Str.empty
def nsV (K : PySem.W.Frag) (ns : Addr) (x : Str) : Value := match PySem.W.nsIn K ns x with
  | some (some v) => v
  | _ => .none
def ga (K : PySem.W.Frag) (x : Str) : Addr := refA (nsV K mainGlobals x)
def ma (K : PySem.W.Frag) (C : Addr) (m : Str) : Addr := match PySem.W.findIn K (.ref C) m with
  | some (some (.ref a)) => a
  | _ => 0
def recV (K : PySem.W.Frag) (p : Addr) : List Value := match PySem.W.recIn K p "property" with
  | some l => l
  | none => []
abbrev FnV : Type := Option (Str × Str × Arguments × FuncBody × Scope × Addr × List Str × Value × Addr)
def fnO (K : PySem.W.Frag) (a : Addr) : FnV := match K.lookup a with
  | some ⟨_, _, .func fd, _⟩ => some (fd.name, fd.qualname, fd.params, fd.body, fd.scope, fd.globals, fd.closure.map (·.1), fd.defaults, fd.builtins)
  | _ => none
abbrev fnE (name qual : Str) (st : Stmt) : FnV := some (name, qual, defArgs st, .stmts (defBody st), defScope st, mainGlobals, [], .none, builtinsNs)
abbrev fnX' (name qual : Str) (st : Stmt) : FnV := some (name, qual, defArgs st, .stmts (defBody st), defScope st, mainGlobals, ["__class__"], .none, builtinsNs)
section
variable {K : PySem.W.Frag} {a : Addr} {name qual : Str} {st : Stmt}
theorem fnO_ok (e : fnO K a = fnE name qual st) : K.lookup a = some ⟨(objD K a).cls, (objD K a).dict, .func (PySem.W.fnOf name qual (defArgs st) (defBody st) (defScope st) .none (fdD K a).kwdefaults (fdD K a).doc (fdD K a).pyModule (fdD K a).annotations (fdD K a).code (fdD K a).closureTuple), (objD K a).slots⟩ := by
  unfold fnO at e
  cases q : K.lookup a with
  | none => rw [q] at e; cases e
  | some o =>
    obtain ⟨oc, od, dt, osl⟩ := o
    have eo : objD K a = ⟨oc, od, dt, osl⟩ := by unfold objD; rw [q]; rfl
    rw [q] at e
    cases dt with
    | func fd =>
      have ef : fdD K a = fd := by unfold fdD; rw [eo]
      rw [eo, ef]
      obtain ⟨n1, n2, n3, n4, n5, n6, n7, n8, n9, n10, n11, n12, n13, n14, n15⟩ := fd
      simp only [fnE, Option.some.injEq, Prod.mk.injEq, List.map_eq_nil_iff] at e
      obtain ⟨h1, h2, h3, h4, h5, h6, h7, h8, h9⟩ := e
      subst h1 h2 h3 h4 h5 h6 h7 h8 h9
      rfl
    | _ => cases e
theorem fnO_ks (e : fnO K a = fnX' name qual st) : K.lookup a = some ⟨(objD K a).cls, (objD K a).dict, .func (PySem.W.ksFn name qual (defArgs st) (defBody st) (defScope st) .none (fdD K a).kwdefaults (fdD K a).doc (fdD K a).pyModule (fdD K a).annotations (fdD K a).code (fdD K a).closureTuple ((fdD K a).closure.headD ("", 0)).2), (objD K a).slots⟩ := by
  unfold fnO at e
  cases q : K.lookup a with
  | none => rw [q] at e; cases e
  | some o =>
    obtain ⟨oc, od, dt, osl⟩ := o
    have eo : objD K a = ⟨oc, od, dt, osl⟩ := by unfold objD; rw [q]; rfl
    rw [q] at e
    cases dt with
    | func fd =>
      have ef : fdD K a = fd := by unfold fdD; rw [eo]
      rw [eo, ef]
      obtain ⟨n1, n2, n3, n4, n5, n6, n7, n8, n9, n10, n11, n12, n13, n14, n15⟩ := fd
      simp only [fnX', Option.some.injEq, Prod.mk.injEq] at e
      obtain ⟨h1, h2, h3, h4, h5, h6, h7, h8, h9⟩ := e
      cases n7 with
      | nil => exact absurd (congrArg List.length h7) (by simp)
      | cons z r =>
        cases r with
        | cons _ _ => exact absurd (congrArg List.length h7) (by simp)
        | nil =>
          obtain ⟨z1, z2⟩ := z
          simp only [List.map_cons, List.map_nil, List.cons.injEq, and_true] at h7
          subst h1 h2 h3 h4 h5 h6 h7 h8 h9
          rfl
    | _ => cases e
theorem knd_ex {n : Nat} (e : decide (kndD K a = n) = true) (n0 : n ≠ 0) : ∃ o, K.lookup a = some o ∧ objD K a = o ∧ (match o.data with
    | .func _ => 1
    | .fields _ => 2
    | .seq _ _ => 3
    | .dict _ _ => 4
    | .cell _ => 5
    | _ => 0) = n := by
  have e := of_decide_eq_true e
  unfold kndD at e
  cases q : K.lookup a with
  | none => rw [q] at e; exact absurd e.symm n0
  | some o => rw [q] at e; exact ⟨o, rfl, by unfold objD; rw [q]; rfl, e⟩
theorem fld_ok (e : decide (kndD K a = 2) = true) : K.lookup a = some ⟨(objD K a).cls, (objD K a).dict, .fields (fldD K a), (objD K a).slots⟩ := by
  obtain ⟨⟨c, d, dt, sl⟩, h1, h2, h3⟩ := knd_ex e (by decide)
  unfold fldD
  rw [h1, h2]
  cases dt <;> first | rfl | (simp at h3)
theorem seq_ok (e : decide (kndD K a = 3) = true) : K.lookup a = some ⟨(objD K a).cls, (objD K a).dict, .seq (seqD K a) (seqN K a), (objD K a).slots⟩ := by
  obtain ⟨⟨c, d, dt, sl⟩, h1, h2, h3⟩ := knd_ex e (by decide)
  unfold seqD seqN
  rw [h1, h2]
  cases dt <;> first | rfl | (simp at h3)
theorem tup_ok {vs : List Value} (e : decide (kndD K a = 3) = true) (c : decide ((objD K a).cls = .type "tuple") = true) (v : decide ((seqD K a).toList = vs) = true) : K.lookup a = some ⟨.type "tuple", (objD K a).dict, .seq vs.toArray (seqN K a), (objD K a).slots⟩ := by
  rw [seq_ok e, of_decide_eq_true c]
  have : seqD K a = vs.toArray := by rw [← of_decide_eq_true v]
  rw [this]
theorem cel_ok {v : Value} (e : decide (kndD K a = 5) = true) (c : decide (celD K a = some v) = true) : K.lookup a = some ⟨(objD K a).cls, (objD K a).dict, .cell (some v), (objD K a).slots⟩ := by
  obtain ⟨⟨c', d', dt, sl⟩, h1, h2, h3⟩ := knd_ex e (by decide)
  have c := of_decide_eq_true c
  unfold celD at c
  rw [h2] at c
  rw [h1, h2]
  cases dt <;> first | (simp at h3; done) | (simp only at c; rw [c])
theorem non_ok (e : (K.lookup a).isNone = true) : K.lookup a = none := Option.isNone_iff_eq_none.mp e
end
def refsX (o : Obj) : List Addr := He.refV o.cls ++ match o.data with
  | .seq its _ => its.toList.flatMap He.refV
  | .dict es _ => es.toList.flatMap fun e => He.refV e.val
  | .func fd => He.refV fd.code ++ (He.refV fd.defaults ++ (He.refV fd.kwdefaults ++ fd.closure.map (·.2)))
  | .cls cd => cd.ns :: cd.mro.flatMap He.refV
  | .fields vs => vs.toList.flatMap He.refV
  | .cell (some v) => He.refV v
  | _ => []
def newX (old : List Addr) : List Addr → List Addr
  | [] => []
  | a :: r => if old.contains a then newX old r else a :: newX (a :: old) r
def asX (g : Addr → Option Obj) : Nat → List Addr → List Addr → List Addr
  | 0, old, _ => old
  | n + 1, old, fr => match newX old (fr.flatMap fun a => match g a with
    | some o => refsX o
    | none => []) with
    | [] => old
    | x :: l => asX g n (x :: l ++ old) (x :: l)
def isTab (o : Option Obj) : Bool := match o with
  | some ⟨.none, none, .fields vs, sl⟩ => decide (vs.size = 0) && decide (sl.size = 0)
  | _ => false
theorem isTab_ok {o : Option Obj} (e : isTab o = true) : o = some { cls := .none, data := .fields #[] } := by
  unfold isTab at e
  split at e
  · rename_i vs sl
    rw [Bool.and_eq_true] at e
    have h1 := Array.eq_empty_of_size_eq_zero (of_decide_eq_true e.1)
    have h2 := Array.eq_empty_of_size_eq_zero (of_decide_eq_true e.2)
    subst h1 h2
    rfl
  · cases e
def fragX (g : Addr → Option Obj) (n : Nat) : PySem.W.Frag := He.frG g ((asX g n [mainGlobals] [mainGlobals]).filter fun a => !isTab (g a))
abbrev AlX : Type := Bool × (List FnV × List (Int × Str × Int))
/-- what the end leans on: checks, defs, entries, tables -/
structure SpecX where
  ck : PySem.W.Frag → Bool
  fn : PySem.W.Frag → List FnV
  fe : List FnV
  en : PySem.W.Frag → List (Int × Str × Int)
  ee : Params → List (Int × Str × Int)
  tb : PySem.W.Frag → List Addr
def SpecX.obs (X : SpecX) (n : Nat) (g : Addr → Option Obj) : AlX := (X.ck (fragX g n) && (X.tb (fragX g n)).all fun a => isTab (g a), X.fn (fragX g n), X.en (fragX g n))
def SpecX.val (X : SpecX) (P : Params) : AlX := (true, X.fe, X.ee P)
structure SaysX (X : SpecX) (w : World) (h : Heap) (K : PySem.W.Frag) : Prop where
  kin : K.In h
  ck : X.ck K = true
  fn : X.fn K = X.fe
  en : X.en K = X.ee w.params
  tb : ∀ a ∈ X.tb K, h.get? a = some { cls := .none, data := .fields #[] }
theorem ckF {l : List Bool} (h : l.all id = true) (i : Nat) {b : Bool} (e : l[i]? = some b) : b = true := List.all_eq_true.mp h b (List.mem_of_getElem? e)
theorem fnF {X : SpecX} {K : PySem.W.Frag} (e : X.fn K = X.fe) (i : Nat) {a b : FnV} (ea : (X.fn K)[i]? = some a) (eb : X.fe[i]? = some b) : a = b := by
  rw [e, eb] at ea
  exact (Option.some.inj ea).symm
/-- the law, over such a head -/
theorem walkGX {l : PySem.W.OpenLaw} {k : Nat} {q : Program} {loose : List Str} {XP : (Str → Option Value) → Heap → Prop} {YP : World → Heap → Prop} {d : DefRec} {F : FD} (hF : LawF F) (hi : importsNone q = true) (hn : l.most = some 63) (hdf : d.params.defaults = []) (hr : Room k callerA)
    (G0 : ∀ (w : World) (mg : Str → Option Value) (fa : Addr) (h : Heap), YP w h → h.Ns mainGlobals mg → mg d.name = some (.ref fa) → ∃ K : PySem.W.Frag, K.In h ∧ ∃ (fd : FuncData) (CA : CAs) (cs : List (Addr × Addr)), (∀ p ∈ CA.T, ∃ c, (c, p.1) ∈ cs) ∧ (∀ p ∈ cs, h.get? p.2 = some { cls := .none, data := .fields #[] }) ∧ (∀ p ∈ cs, K.lookup p.2 = none) ∧ (∀ p ∈ cs, PySem.W.CodeHd h p.1 p.2) ∧
      (∀ (s : Shared) (u : Value), BindsTo s fd ⟨[u], []⟩ [("_law_script", u)]) ∧
      ∀ base : Heap, K.In base → base.Ns mainGlobals mg → SM base → (∀ p ∈ cs, LamX.TabB base mg p.1 p.2) → FnG l.prog w K mg base true k fa fd ["_law_script"] (spD K CA 1 F)) : PySem.W.WalkO q loose XP YP l.row.toRowW d [] (fun f vs => PySem.call f vs) := by
  refine Att.attach_callB hn hdf fun w s0 s1 mg mb fa o pm cd doc a vs ns G Y _ _ _ hm ha his hl _ gens => ?_
  obtain ⟨mm, hm2, _⟩ := (G.T.seer hi).mods
  have sm : SM s1.heap := by
    obtain ⟨o, es, ep, e, d, _⟩ := hm2
    exact ⟨o, es, ep, e, d⟩
  obtain ⟨K, KX, fd, CA, cs, T0, hT, nT, hC, bd, G1⟩ := G0 w mg fa _ Y G.T.g hm
  exact law_endT KX G.T.g G.T.b G.T.builtins G.T.nolimit gens ha his hl hr hF sm hT nT hC G.T.bmain T0 G1 bd
end CM
namespace CM
open PySem PySem.Spec PyProof.Rows L2
def bitB (m a : Nat) : Bool := Nat.beq (Nat.land (Nat.shiftRight m a) 1) 1
def frO {α : Type} (o : Obj) (k : Obj → α) : α := match o with
  | ⟨c, d, x, sl⟩ => (match x with
    | .fields vs => k ⟨c, d, .fields vs, sl⟩
    | .seq vs n => k ⟨c, d, .seq vs n, sl⟩
    | x => k ⟨c, d, x, sl⟩)
theorem frO_eq {α : Type} (o : Obj) (k : Obj → α) : frO o k = k o := by
  obtain ⟨c, d, x, sl⟩ := o
  unfold frO
  cases x <;> rfl
/-- what is looked up often: defs, classes, dicts -/
def isHot (o : Obj) : Bool := match o.data with
  | .func _ => true
  | .cls _ => true
  | .dict _ _ => true
  | _ => false
def revB {α : Type} : PySem.W.Frag → PySem.W.Frag → (PySem.W.Frag → α) → α
  | [], L, k => k L
  | p :: r, L, k => revB r (p :: L) k
def reachB {α : Type} (g : Addr → Option Obj) : Nat → Nat → List Addr → PySem.W.Frag → PySem.W.Frag → (PySem.W.Frag → α) → α
  | 0, _, _, K, L, k => revB K L k
  | _ + 1, _, [], K, L, k => revB K L k
  | n + 1, m, a :: r, K, L, k => HandSHeadRun.frNat a fun a => match bitB m a with
    | true => reachB g n m r K L k
    | false => HandSHeadRun.frNat (Nat.lor m (Nat.shiftLeft 1 a)) fun m => match g a with
      | none => reachB g n m r K L k
      | some o => frO o fun o => match isTab (some o) with
        | true => reachB g n m r K L k
        | false => match isHot o with
          | true => reachB g n m (refsX o ++ r) ((a, o) :: K) L k
          | false => reachB g n m (refsX o ++ r) K ((a, o) :: L) k
def Sound (g : Addr → Option Obj) (K : PySem.W.Frag) : Prop := ∀ p ∈ K, g p.1 = some p.2
theorem Sound.cons {g : Addr → Option Obj} {K : PySem.W.Frag} {a : Addr} {o : Obj} (e : g a = some o) (h : Sound g K) : Sound g ((a, o) :: K) := fun p hp => by
  rcases List.mem_cons.mp hp with rfl | hp
  · exact e
  · exact h p hp
theorem revB_ok {α : Type} {g : Addr → Option Obj} : ∀ (K L : PySem.W.Frag), Sound g K → Sound g L → ∃ K', Sound g K' ∧ ∀ {β : Type} (k : PySem.W.Frag → β), revB K L k = k K'
  | [], L, _, hL => ⟨L, hL, fun k => rfl⟩
  | p :: r, L, hK, hL => revB_ok (α := α) r (p :: L) (fun q hq => hK q (List.mem_cons_of_mem _ hq)) (Sound.cons (hK p (List.mem_cons_self ..)) hL)
theorem reachB_ok {g : Addr → Option Obj} : ∀ (n m : Nat) (t : List Addr) (K L : PySem.W.Frag), Sound g K → Sound g L → ∃ K', Sound g K' ∧ ∀ {β : Type} (k : PySem.W.Frag → β), reachB g n m t K L k = k K'
  | 0, _, _, K, L, hK, hL => revB_ok (α := Nat) K L hK hL
  | _ + 1, _, [], K, L, hK, hL => revB_ok (α := Nat) K L hK hL
  | n + 1, m, a :: r, K, L, hK, hL => by
    cases eb : bitB m a with
    | true =>
      obtain ⟨K', h, e⟩ := reachB_ok n m r K L hK hL
      refine ⟨K', h, fun k => ?_⟩
      rw [reachB, HandSHeadRun.frNat_eq, eb]
      exact e k
    | false =>
      cases e : g a with
      | none =>
        obtain ⟨K', h, e2⟩ := reachB_ok n (Nat.lor m (Nat.shiftLeft 1 a)) r K L hK hL
        refine ⟨K', h, fun k => ?_⟩
        rw [reachB, HandSHeadRun.frNat_eq, eb]
        dsimp only
        rw [HandSHeadRun.frNat_eq, e]
        exact e2 k
      | some o =>
        cases it : isTab (some o) with
        | true =>
          obtain ⟨K', h, e2⟩ := reachB_ok n (Nat.lor m (Nat.shiftLeft 1 a)) r K L hK hL
          refine ⟨K', h, fun k => ?_⟩
          rw [reachB, HandSHeadRun.frNat_eq, eb]
          dsimp only
          rw [HandSHeadRun.frNat_eq, e]
          dsimp only
          rw [frO_eq, it]
          exact e2 k
        | false =>
          cases ih : isHot o with
          | true =>
            obtain ⟨K', h, e2⟩ := reachB_ok n (Nat.lor m (Nat.shiftLeft 1 a)) (refsX o ++ r) ((a, o) :: K) L (hK.cons e) hL
            refine ⟨K', h, fun k => ?_⟩
            rw [reachB, HandSHeadRun.frNat_eq, eb]
            dsimp only
            rw [HandSHeadRun.frNat_eq, e]
            dsimp only
            rw [frO_eq, it]
            dsimp only
            rw [ih]
            exact e2 k
          | false =>
            obtain ⟨K', h, e2⟩ := reachB_ok n (Nat.lor m (Nat.shiftLeft 1 a)) (refsX o ++ r) K ((a, o) :: L) hK (hL.cons e)
            refine ⟨K', h, fun k => ?_⟩
            rw [reachB, HandSHeadRun.frNat_eq, eb]
            dsimp only
            rw [HandSHeadRun.frNat_eq, e]
            dsimp only
            rw [frO_eq, it]
            dsimp only
            rw [ih]
            exact e2 k
theorem inB {h : Heap} : ∀ {K : PySem.W.Frag}, (∀ p ∈ K, h.get? p.1 = some p.2) → K.In h
  | [], _ => fun a o e => nomatch (show (none : Option Obj) = some o from e)
  | (b, ob) :: r, hK => fun a o e => by
    have e2 : (match a == b with | true => some ob | false => List.lookup a r) = some o := e
    cases q : (a == b) with
    | true =>
      rw [q] at e2
      rw [beq_iff_eq.mp q, ← Option.some.inj e2]
      exact hK (b, ob) List.mem_cons_self
    | false =>
      rw [q] at e2
      exact inB (fun p hp => hK p (List.mem_cons_of_mem _ hp)) a o e2
def SpecX.bod (X : SpecX) (g : Addr → Option Obj) (K : PySem.W.Frag) : AlX := (X.ck K && (X.tb K).all fun a => isTab (g a), X.fn K, X.en K)
def SpecX.obsB (X : SpecX) (n : Nat) (g : Addr → Option Obj) : AlX := reachB g n 0 [mainGlobals, cStatics] [] [] (X.bod g)
theorem bod_says {X : SpecX} {w : World} {s : Shared} {K : PySem.W.Frag} (hK : Sound s.heap.get? K) (e : X.bod s.heap.get? K = ((true, X.fe, X.ee w.params) : AlX)) : SaysX X w s.heap K := by
  unfold SpecX.bod at e
  simp only [Prod.mk.injEq, Bool.and_eq_true] at e
  obtain ⟨⟨e1, e2⟩, e3, e4⟩ := e
  exact ⟨inB hK, e1, e3, e4, fun a ha => isTab_ok (List.all_eq_true.mp e2 a ha)⟩
theorem sound_nil {g : Addr → Option Obj} : Sound g [] := fun _ h => nomatch h
theorem SaysX.keeps {X : SpecX} {w : World} {h h' : Heap} {K : PySem.W.Frag} (s : SaysX X w h K) (k : ∀ a o, h.get? a = some o → h'.get? a = some o) : SaysX X w h' K := ⟨PySem.W.Frag.In.keeps s.kin k, s.ck, s.fn, s.en, fun a ha => k _ _ (s.tb a ha)⟩
def hookB (X : SpecX) (n : Nat) : PySem.W.Hook where
  α := AlX
  obs := fun s => X.obsB n s.heap.get?
  val := fun w => X.val w.params
  says := fun w h => ∃ K : PySem.W.Frag, SaysX X w h K
  of := fun w s e => by
    obtain ⟨K, hK, ek⟩ := reachB_ok (g := s.heap.get?) n 0 [mainGlobals, cStatics] [] [] sound_nil sound_nil
    have e' : reachB s.heap.get? n 0 [mainGlobals, cStatics] [] [] (X.bod s.heap.get?) = ((true, X.fe, X.ee w.params) : AlX) := e
    rw [ek] at e'
    exact ⟨K, bod_says hK e'⟩
  keeps := fun _ _ _ ⟨K, s⟩ k => ⟨K, s.keeps k⟩
/-- two parts of the checks, each looked at by a run of its own -/
def hook2 (X Y : SpecX) (n : Nat) : PySem.W.Hook where
  α := AlX × AlX
  obs := fun s => (X.obsB n s.heap.get?, Y.obsB n s.heap.get?)
  val := fun w => (X.val w.params, Y.val w.params)
  says := fun w h => ∃ K : PySem.W.Frag, SaysX X w h K ∧ SaysX Y w h K
  of := fun w s e => by
    obtain ⟨K, hK, ek⟩ := reachB_ok (g := s.heap.get?) n 0 [mainGlobals, cStatics] [] [] sound_nil sound_nil
    have e' : ((reachB s.heap.get? n 0 [mainGlobals, cStatics] [] [] (X.bod s.heap.get?), reachB s.heap.get? n 0 [mainGlobals, cStatics] [] [] (Y.bod s.heap.get?)) : AlX × AlX) = ((true, X.fe, X.ee w.params), (true, Y.fe, Y.ee w.params)) := e
    rw [ek, ek] at e'
    have e1 := congrArg Prod.fst e'
    have e2 := congrArg Prod.snd e'
    exact ⟨K, bod_says hK e1, bod_says hK e2⟩
  keeps := fun _ _ _ ⟨K, s, t⟩ k => ⟨K, s.keeps k, t.keeps k⟩
theorem obs2_eq {X Y : SpecX} {n : Nat} {g : Addr → Option Obj} {s : Shared} (h : ∀ a, g a = s.heap.get? a) : ((X.obsB n g, Y.obsB n g) : AlX × AlX) = (hook2 X Y n).obs s := by
  have e : g = s.heap.get? := funext h
  rw [e] <;> rfl
theorem run2 {r : PySem.W.OpenRow} {q : Program} {X Y : SpecX} {n M : Nat} {ob1 ob2 : PySem.W.SharedT → AlX} {loose : List Str} {w : World} (h1 : HandSHeadRun.RunEq r q (hookB X n) ob1 M loose w) (h2 : HandSHeadRun.RunEq r q (hookB Y n) ob2 M loose w) :
    HandSHeadRun.RunEq r q (hook2 X Y n) (fun s => (ob1 s, ob2 s)) M loose w := fun os => by
  have a := h1 os
  have b := h2 os
  generalize HandSHeadRun.endF (HandSHeadRun.stepQ (HandSHeadRun.denQ HandSHeadRun.tabQ) r.prog w) M r.prog w os = e at a b ⊢
  cases e with
  | none => cases a
  | some s =>
    have a := Option.some.inj a
    have b := Option.some.inj b
    have a1 := congrArg Prod.fst a
    have a2 := congrArg (fun z => z.2.1) a
    have a3 := congrArg (fun z => z.2.2) a
    have b3 := congrArg (fun z => z.2.2) b
    exact congrArg some (Prod.ext a1 (Prod.ext a2 (Prod.ext a3 b3)))
end CM
namespace W_whilemerged_k75_texts_of_books
open PySem PySem.Spec PyProof.Rows L2 CM
def top (i : Nat) : Stmt := PySem.Challenge.pw_whilemerged_k75_texts_of_books.main.body.getD i (.Pass ⟨0, 0, 0, 0⟩)
abbrev s__law_begun : Stmt := top 32
abbrev s__law_mixed : Stmt := top 33
abbrev s__law_take : Stmt := top 34
abbrev s__law_pick : Stmt := top 35
abbrev s__law_words : Stmt := top 41
abbrev s__law_drawn_book : Stmt := top 42
abbrev s_need_word : Stmt := top 20
abbrev s_need_words : Stmt := top 21
abbrev s_Book_init : Stmt := inClass (top 22) 0
abbrev s__law_shuffled : Stmt := top 36
abbrev s__law_made_book : Stmt := top 43
abbrev s__law_page : Stmt := top 44
abbrev s_lines_of : Stmt := top 28
abbrev s_line_words : Stmt := top 29
abbrev s_read_book : Stmt := top 30
abbrev s__law_refusal : Stmt := top 39
abbrev s__law_is : Stmt := top 40
abbrev s_Book_eq : Stmt := inClass (top 22) 9
abbrev s_Book_notes : Stmt := inClass (top 22) 8
abbrev s__law_odd : Stmt := top 37
abbrev s_need_book : Stmt := top 19
abbrev s_Book_up : Stmt := inClass (top 22) 1
abbrev s_Book_down : Stmt := inClass (top 22) 2
abbrev s_Book_writes : Stmt := inClass (top 22) 3
abbrev s_Book_moves : Stmt := inClass (top 22) 4
abbrev s_Book_finish : Stmt := inClass (top 22) 5
abbrev s_Book_counts : Stmt := inClass (top 22) 6
abbrev s_chosen_words : Stmt := top 26
abbrev s_Book_bars : Stmt := inClass (top 22) 7
abbrev s_book_text : Stmt := top 27
abbrev s_law : Stmt := top 45
abbrev s__law_caught : Stmt := top 38
abbrev s_BadBook_init : Stmt := inClass (top 3) 0
abbrev s_BadText_init : Stmt := inClass (top 8) 0
def v_C0 (K : PySem.W.Frag) : Addr := ga K "MergeError"
def v_C1 (K : PySem.W.Frag) : Addr := ga K "BadDeed"
def v_C2 (K : PySem.W.Frag) : Addr := ga K "BadNumber"
def v_C3 (K : PySem.W.Frag) : Addr := ga K "BadBook"
def v_C4 (K : PySem.W.Frag) : Addr := ga K "BadPlan"
def v_C5 (K : PySem.W.Frag) : Addr := ga K "BadChain"
def v_C6 (K : PySem.W.Frag) : Addr := ga K "BadText"
def v_C7 (K : PySem.W.Frag) : Addr := ga K "Book"
def v_f0 (K : PySem.W.Frag) : Addr := ga K "_law_begun"
def v_cd0 (K : PySem.W.Frag) : Value := (fdD K (v_f0 K)).code
def v_f1 (K : PySem.W.Frag) : Addr := ga K "_law_mixed"
def v_cd1 (K : PySem.W.Frag) : Value := (fdD K (v_f1 K)).code
def v_f2 (K : PySem.W.Frag) : Addr := ga K "_law_take"
def v_cd2 (K : PySem.W.Frag) : Value := (fdD K (v_f2 K)).code
def v_f3 (K : PySem.W.Frag) : Addr := ga K "_law_pick"
def v_cd3 (K : PySem.W.Frag) : Value := (fdD K (v_f3 K)).code
def v_f4 (K : PySem.W.Frag) : Addr := ga K "_law_words"
def v_cd4 (K : PySem.W.Frag) : Value := (fdD K (v_f4 K)).code
def v_f5 (K : PySem.W.Frag) : Addr := ga K "_law_drawn_book"
def v_cd5 (K : PySem.W.Frag) : Value := (fdD K (v_f5 K)).code
def v_f6 (K : PySem.W.Frag) : Addr := ga K "need_word"
def v_cd6 (K : PySem.W.Frag) : Value := (fdD K (v_f6 K)).code
def v_f7 (K : PySem.W.Frag) : Addr := ga K "need_words"
def v_cd7 (K : PySem.W.Frag) : Value := (fdD K (v_f7 K)).code
def v_f8 (K : PySem.W.Frag) : Addr := ma K (v_C7 K) "__init__"
def v_cd8 (K : PySem.W.Frag) : Value := (fdD K (v_f8 K)).code
def v_f9 (K : PySem.W.Frag) : Addr := ga K "_law_shuffled"
def v_cd9 (K : PySem.W.Frag) : Value := (fdD K (v_f9 K)).code
def v_f10 (K : PySem.W.Frag) : Addr := ga K "_law_made_book"
def v_cd10 (K : PySem.W.Frag) : Value := (fdD K (v_f10 K)).code
def v_f11 (K : PySem.W.Frag) : Addr := ga K "_law_page"
def v_cd11 (K : PySem.W.Frag) : Value := (fdD K (v_f11 K)).code
def v_f12 (K : PySem.W.Frag) : Addr := ga K "lines_of"
def v_cd12 (K : PySem.W.Frag) : Value := (fdD K (v_f12 K)).code
def v_f13 (K : PySem.W.Frag) : Addr := ga K "line_words"
def v_cd13 (K : PySem.W.Frag) : Value := (fdD K (v_f13 K)).code
def v_f14 (K : PySem.W.Frag) : Addr := ga K "read_book"
def v_cd14 (K : PySem.W.Frag) : Value := (fdD K (v_f14 K)).code
def v_f15 (K : PySem.W.Frag) : Addr := ga K "_law_refusal"
def v_cd15 (K : PySem.W.Frag) : Value := (fdD K (v_f15 K)).code
def v_f16 (K : PySem.W.Frag) : Addr := ga K "_law_is"
def v_cd16 (K : PySem.W.Frag) : Value := (fdD K (v_f16 K)).code
def v_f17 (K : PySem.W.Frag) : Addr := ma K (v_C7 K) "__eq__"
def v_cd17 (K : PySem.W.Frag) : Value := (fdD K (v_f17 K)).code
def v_p18 (K : PySem.W.Frag) : Addr := ma K (v_C7 K) "notes"
def v_f18 (K : PySem.W.Frag) : Addr := refA ((recV K (v_p18 K)).headD .none)
def v_rs18 (K : PySem.W.Frag) : List Value := (recV K (v_p18 K)).tail
def v_cd18 (K : PySem.W.Frag) : Value := (fdD K (v_f18 K)).code
def v_f19 (K : PySem.W.Frag) : Addr := ga K "_law_odd"
def v_cd19 (K : PySem.W.Frag) : Value := (fdD K (v_f19 K)).code
def v_f20 (K : PySem.W.Frag) : Addr := ga K "need_book"
def v_cd20 (K : PySem.W.Frag) : Value := (fdD K (v_f20 K)).code
def v_p21 (K : PySem.W.Frag) : Addr := ma K (v_C7 K) "up"
def v_f21 (K : PySem.W.Frag) : Addr := refA ((recV K (v_p21 K)).headD .none)
def v_rs21 (K : PySem.W.Frag) : List Value := (recV K (v_p21 K)).tail
def v_cd21 (K : PySem.W.Frag) : Value := (fdD K (v_f21 K)).code
def v_p22 (K : PySem.W.Frag) : Addr := ma K (v_C7 K) "down"
def v_f22 (K : PySem.W.Frag) : Addr := refA ((recV K (v_p22 K)).headD .none)
def v_rs22 (K : PySem.W.Frag) : List Value := (recV K (v_p22 K)).tail
def v_cd22 (K : PySem.W.Frag) : Value := (fdD K (v_f22 K)).code
def v_p23 (K : PySem.W.Frag) : Addr := ma K (v_C7 K) "writes"
def v_f23 (K : PySem.W.Frag) : Addr := refA ((recV K (v_p23 K)).headD .none)
def v_rs23 (K : PySem.W.Frag) : List Value := (recV K (v_p23 K)).tail
def v_cd23 (K : PySem.W.Frag) : Value := (fdD K (v_f23 K)).code
def v_p24 (K : PySem.W.Frag) : Addr := ma K (v_C7 K) "moves"
def v_f24 (K : PySem.W.Frag) : Addr := refA ((recV K (v_p24 K)).headD .none)
def v_rs24 (K : PySem.W.Frag) : List Value := (recV K (v_p24 K)).tail
def v_cd24 (K : PySem.W.Frag) : Value := (fdD K (v_f24 K)).code
def v_p25 (K : PySem.W.Frag) : Addr := ma K (v_C7 K) "finish"
def v_f25 (K : PySem.W.Frag) : Addr := refA ((recV K (v_p25 K)).headD .none)
def v_rs25 (K : PySem.W.Frag) : List Value := (recV K (v_p25 K)).tail
def v_cd25 (K : PySem.W.Frag) : Value := (fdD K (v_f25 K)).code
def v_p26 (K : PySem.W.Frag) : Addr := ma K (v_C7 K) "counts"
def v_f26 (K : PySem.W.Frag) : Addr := refA ((recV K (v_p26 K)).headD .none)
def v_rs26 (K : PySem.W.Frag) : List Value := (recV K (v_p26 K)).tail
def v_cd26 (K : PySem.W.Frag) : Value := (fdD K (v_f26 K)).code
def v_f27 (K : PySem.W.Frag) : Addr := ga K "chosen_words"
def v_cd27 (K : PySem.W.Frag) : Value := (fdD K (v_f27 K)).code
def v_p28 (K : PySem.W.Frag) : Addr := ma K (v_C7 K) "bars"
def v_f28 (K : PySem.W.Frag) : Addr := refA ((recV K (v_p28 K)).headD .none)
def v_rs28 (K : PySem.W.Frag) : List Value := (recV K (v_p28 K)).tail
def v_cd28 (K : PySem.W.Frag) : Value := (fdD K (v_f28 K)).code
def v_f29 (K : PySem.W.Frag) : Addr := ga K "book_text"
def v_cd29 (K : PySem.W.Frag) : Value := (fdD K (v_f29 K)).code
def v_f30 (K : PySem.W.Frag) : Addr := ga K "law"
def v_ca30 (K : PySem.W.Frag) : Addr := refA (fdD K (v_f30 K)).code
def v_vs30 (K : PySem.W.Frag) : Array Value := fldD K (v_ca30 K)
def v_P30 (K : PySem.W.Frag) : Addr := refA ((fldD K (v_ca30 K)).getD 11 .none)
def v_p_UPS (K : PySem.W.Frag) : Addr := ga K "UPS"
def v_t_UPS0 (K : PySem.W.Frag) : Tok := tkV ((seqD K (v_p_UPS K)).getD 0 .none)
def v_t_UPS1 (K : PySem.W.Frag) : Tok := tkV ((seqD K (v_p_UPS K)).getD 1 .none)
def v_t_UPS2 (K : PySem.W.Frag) : Tok := tkV ((seqD K (v_p_UPS K)).getD 2 .none)
def v_p_DOWNS (K : PySem.W.Frag) : Addr := ga K "DOWNS"
def v_t_DOWNS0 (K : PySem.W.Frag) : Tok := tkV ((seqD K (v_p_DOWNS K)).getD 0 .none)
def v_t_DOWNS1 (K : PySem.W.Frag) : Tok := tkV ((seqD K (v_p_DOWNS K)).getD 1 .none)
def v_p_WRITES (K : PySem.W.Frag) : Addr := ga K "WRITES"
def v_t_WRITES0 (K : PySem.W.Frag) : Tok := tkV ((seqD K (v_p_WRITES K)).getD 0 .none)
def v_t_WRITES1 (K : PySem.W.Frag) : Tok := tkV ((seqD K (v_p_WRITES K)).getD 1 .none)
def v_t_WRITES2 (K : PySem.W.Frag) : Tok := tkV ((seqD K (v_p_WRITES K)).getD 2 .none)
def v_t_WRITES3 (K : PySem.W.Frag) : Tok := tkV ((seqD K (v_p_WRITES K)).getD 3 .none)
def v_t_WRITES4 (K : PySem.W.Frag) : Tok := tkV ((seqD K (v_p_WRITES K)).getD 4 .none)
def v_p_MOVES (K : PySem.W.Frag) : Addr := ga K "MOVES"
def v_t_MOVES0 (K : PySem.W.Frag) : Tok := tkV ((seqD K (v_p_MOVES K)).getD 0 .none)
def v_t_MOVES1 (K : PySem.W.Frag) : Tok := tkV ((seqD K (v_p_MOVES K)).getD 1 .none)
def v_p_FINISHES (K : PySem.W.Frag) : Addr := ga K "FINISHES"
def v_t_FINISHES0 (K : PySem.W.Frag) : Tok := tkV ((seqD K (v_p_FINISHES K)).getD 0 .none)
def v_t_FINISHES1 (K : PySem.W.Frag) : Tok := tkV ((seqD K (v_p_FINISHES K)).getD 1 .none)
def v_t_FINISHES2 (K : PySem.W.Frag) : Tok := tkV ((seqD K (v_p_FINISHES K)).getD 2 .none)
def v_p_COUNTS (K : PySem.W.Frag) : Addr := ga K "COUNTS"
def v_t_COUNTS0 (K : PySem.W.Frag) : Tok := tkV ((seqD K (v_p_COUNTS K)).getD 0 .none)
def v_t_COUNTS1 (K : PySem.W.Frag) : Tok := tkV ((seqD K (v_p_COUNTS K)).getD 1 .none)
def v_t_COUNTS2 (K : PySem.W.Frag) : Tok := tkV ((seqD K (v_p_COUNTS K)).getD 2 .none)
def v_p_BARS (K : PySem.W.Frag) : Addr := ga K "BARS"
def v_t_BARS0 (K : PySem.W.Frag) : Tok := tkV ((seqD K (v_p_BARS K)).getD 0 .none)
def v_t_BARS1 (K : PySem.W.Frag) : Tok := tkV ((seqD K (v_p_BARS K)).getD 1 .none)
def v_t_BARS2 (K : PySem.W.Frag) : Tok := tkV ((seqD K (v_p_BARS K)).getD 2 .none)
def v_t_BARS3 (K : PySem.W.Frag) : Tok := tkV ((seqD K (v_p_BARS K)).getD 3 .none)
def v_t_BARS4 (K : PySem.W.Frag) : Tok := tkV ((seqD K (v_p_BARS K)).getD 4 .none)
def v_p_NOTES (K : PySem.W.Frag) : Addr := ga K "NOTES"
def v_t_NOTES0 (K : PySem.W.Frag) : Tok := tkV ((seqD K (v_p_NOTES K)).getD 0 .none)
def v_t_NOTES1 (K : PySem.W.Frag) : Tok := tkV ((seqD K (v_p_NOTES K)).getD 1 .none)
def v_t_NOTES2 (K : PySem.W.Frag) : Tok := tkV ((seqD K (v_p_NOTES K)).getD 2 .none)
def v_p_FIELDS (K : PySem.W.Frag) : Addr := ga K "FIELDS"
def v_p_FIELDS_0 (K : PySem.W.Frag) : Addr := refA ((seqD K (v_p_FIELDS K)).getD 0 .none)
def v_t_FIELDS_00 (K : PySem.W.Frag) : Tok := tkV ((seqD K (v_p_FIELDS_0 K)).getD 0 .none)
def v_p_FIELDS_0_1 (K : PySem.W.Frag) : Addr := refA ((seqD K (v_p_FIELDS_0 K)).getD 1 .none)
def v_t_FIELDS_0_10 (K : PySem.W.Frag) : Tok := tkV ((seqD K (v_p_FIELDS_0_1 K)).getD 0 .none)
def v_t_FIELDS_0_11 (K : PySem.W.Frag) : Tok := tkV ((seqD K (v_p_FIELDS_0_1 K)).getD 1 .none)
def v_t_FIELDS_0_12 (K : PySem.W.Frag) : Tok := tkV ((seqD K (v_p_FIELDS_0_1 K)).getD 2 .none)
def v_p_FIELDS_1 (K : PySem.W.Frag) : Addr := refA ((seqD K (v_p_FIELDS K)).getD 1 .none)
def v_t_FIELDS_10 (K : PySem.W.Frag) : Tok := tkV ((seqD K (v_p_FIELDS_1 K)).getD 0 .none)
def v_p_FIELDS_1_1 (K : PySem.W.Frag) : Addr := refA ((seqD K (v_p_FIELDS_1 K)).getD 1 .none)
def v_t_FIELDS_1_10 (K : PySem.W.Frag) : Tok := tkV ((seqD K (v_p_FIELDS_1_1 K)).getD 0 .none)
def v_t_FIELDS_1_11 (K : PySem.W.Frag) : Tok := tkV ((seqD K (v_p_FIELDS_1_1 K)).getD 1 .none)
def v_p_FIELDS_2 (K : PySem.W.Frag) : Addr := refA ((seqD K (v_p_FIELDS K)).getD 2 .none)
def v_t_FIELDS_20 (K : PySem.W.Frag) : Tok := tkV ((seqD K (v_p_FIELDS_2 K)).getD 0 .none)
def v_p_FIELDS_2_1 (K : PySem.W.Frag) : Addr := refA ((seqD K (v_p_FIELDS_2 K)).getD 1 .none)
def v_t_FIELDS_2_10 (K : PySem.W.Frag) : Tok := tkV ((seqD K (v_p_FIELDS_2_1 K)).getD 0 .none)
def v_t_FIELDS_2_11 (K : PySem.W.Frag) : Tok := tkV ((seqD K (v_p_FIELDS_2_1 K)).getD 1 .none)
def v_t_FIELDS_2_12 (K : PySem.W.Frag) : Tok := tkV ((seqD K (v_p_FIELDS_2_1 K)).getD 2 .none)
def v_t_FIELDS_2_13 (K : PySem.W.Frag) : Tok := tkV ((seqD K (v_p_FIELDS_2_1 K)).getD 3 .none)
def v_t_FIELDS_2_14 (K : PySem.W.Frag) : Tok := tkV ((seqD K (v_p_FIELDS_2_1 K)).getD 4 .none)
def v_p_FIELDS_3 (K : PySem.W.Frag) : Addr := refA ((seqD K (v_p_FIELDS K)).getD 3 .none)
def v_t_FIELDS_30 (K : PySem.W.Frag) : Tok := tkV ((seqD K (v_p_FIELDS_3 K)).getD 0 .none)
def v_p_FIELDS_3_1 (K : PySem.W.Frag) : Addr := refA ((seqD K (v_p_FIELDS_3 K)).getD 1 .none)
def v_t_FIELDS_3_10 (K : PySem.W.Frag) : Tok := tkV ((seqD K (v_p_FIELDS_3_1 K)).getD 0 .none)
def v_t_FIELDS_3_11 (K : PySem.W.Frag) : Tok := tkV ((seqD K (v_p_FIELDS_3_1 K)).getD 1 .none)
def v_p_FIELDS_4 (K : PySem.W.Frag) : Addr := refA ((seqD K (v_p_FIELDS K)).getD 4 .none)
def v_t_FIELDS_40 (K : PySem.W.Frag) : Tok := tkV ((seqD K (v_p_FIELDS_4 K)).getD 0 .none)
def v_p_FIELDS_4_1 (K : PySem.W.Frag) : Addr := refA ((seqD K (v_p_FIELDS_4 K)).getD 1 .none)
def v_t_FIELDS_4_10 (K : PySem.W.Frag) : Tok := tkV ((seqD K (v_p_FIELDS_4_1 K)).getD 0 .none)
def v_t_FIELDS_4_11 (K : PySem.W.Frag) : Tok := tkV ((seqD K (v_p_FIELDS_4_1 K)).getD 1 .none)
def v_t_FIELDS_4_12 (K : PySem.W.Frag) : Tok := tkV ((seqD K (v_p_FIELDS_4_1 K)).getD 2 .none)
def v_p_FIELDS_5 (K : PySem.W.Frag) : Addr := refA ((seqD K (v_p_FIELDS K)).getD 5 .none)
def v_t_FIELDS_50 (K : PySem.W.Frag) : Tok := tkV ((seqD K (v_p_FIELDS_5 K)).getD 0 .none)
def v_p_FIELDS_5_1 (K : PySem.W.Frag) : Addr := refA ((seqD K (v_p_FIELDS_5 K)).getD 1 .none)
def v_t_FIELDS_5_10 (K : PySem.W.Frag) : Tok := tkV ((seqD K (v_p_FIELDS_5_1 K)).getD 0 .none)
def v_t_FIELDS_5_11 (K : PySem.W.Frag) : Tok := tkV ((seqD K (v_p_FIELDS_5_1 K)).getD 1 .none)
def v_t_FIELDS_5_12 (K : PySem.W.Frag) : Tok := tkV ((seqD K (v_p_FIELDS_5_1 K)).getD 2 .none)
def v_p_SETS (K : PySem.W.Frag) : Addr := ga K "SETS"
def v_p_SETS_0 (K : PySem.W.Frag) : Addr := refA ((seqD K (v_p_SETS K)).getD 0 .none)
def v_t_SETS_00 (K : PySem.W.Frag) : Tok := tkV ((seqD K (v_p_SETS_0 K)).getD 0 .none)
def v_p_SETS_0_1 (K : PySem.W.Frag) : Addr := refA ((seqD K (v_p_SETS_0 K)).getD 1 .none)
def v_t_SETS_0_10 (K : PySem.W.Frag) : Tok := tkV ((seqD K (v_p_SETS_0_1 K)).getD 0 .none)
def v_t_SETS_0_11 (K : PySem.W.Frag) : Tok := tkV ((seqD K (v_p_SETS_0_1 K)).getD 1 .none)
def v_t_SETS_0_12 (K : PySem.W.Frag) : Tok := tkV ((seqD K (v_p_SETS_0_1 K)).getD 2 .none)
def v_t_SETS_0_13 (K : PySem.W.Frag) : Tok := tkV ((seqD K (v_p_SETS_0_1 K)).getD 3 .none)
def v_t_SETS_0_14 (K : PySem.W.Frag) : Tok := tkV ((seqD K (v_p_SETS_0_1 K)).getD 4 .none)
def v_p_SETS_1 (K : PySem.W.Frag) : Addr := refA ((seqD K (v_p_SETS K)).getD 1 .none)
def v_t_SETS_10 (K : PySem.W.Frag) : Tok := tkV ((seqD K (v_p_SETS_1 K)).getD 0 .none)
def v_p_SETS_1_1 (K : PySem.W.Frag) : Addr := refA ((seqD K (v_p_SETS_1 K)).getD 1 .none)
def v_t_SETS_1_10 (K : PySem.W.Frag) : Tok := tkV ((seqD K (v_p_SETS_1_1 K)).getD 0 .none)
def v_t_SETS_1_11 (K : PySem.W.Frag) : Tok := tkV ((seqD K (v_p_SETS_1_1 K)).getD 1 .none)
def v_t_SETS_1_12 (K : PySem.W.Frag) : Tok := tkV ((seqD K (v_p_SETS_1_1 K)).getD 2 .none)
def v_t_LINES (K : PySem.W.Frag) : Tok := tkV (nsV K mainGlobals "LINES")
def v_fg0 (K : PySem.W.Frag) : Addr := ga K "_law_caught"
def v_cdg0 (K : PySem.W.Frag) : Value := (fdD K (v_fg0 K)).code
def v_xf3 (K : PySem.W.Frag) : Addr := ma K (v_C3 K) "__init__"
def v_xa3 (K : PySem.W.Frag) : Addr := refA (fdD K (v_xf3 K)).code
def v_xc3 (K : PySem.W.Frag) : Addr := ((fdD K (v_xf3 K)).closure.headD ("", 0)).2
def v_xvs3 (K : PySem.W.Frag) : Array Value := fldD K (v_xa3 K)
def v_xfile3 (K : PySem.W.Frag) : Str := strV ((fldD K (v_xa3 K)).getD 2 .none)
def v_xtf3 (K : PySem.W.Frag) : Tok := tkV ((fldD K (v_xa3 K)).getD 2 .none)
def v_xf6 (K : PySem.W.Frag) : Addr := ma K (v_C6 K) "__init__"
def v_xa6 (K : PySem.W.Frag) : Addr := refA (fdD K (v_xf6 K)).code
def v_xc6 (K : PySem.W.Frag) : Addr := ((fdD K (v_xf6 K)).closure.headD ("", 0)).2
def v_xvs6 (K : PySem.W.Frag) : Array Value := fldD K (v_xa6 K)
def v_xfile6 (K : PySem.W.Frag) : Str := strV ((fldD K (v_xa6 K)).getD 2 .none)
def v_xtf6 (K : PySem.W.Frag) : Tok := tkV ((fldD K (v_xa6 K)).getD 2 .none)
def ck0 (K : PySem.W.Frag) : List Bool := [decide (PySem.W.nsIn K mainGlobals "MergeError" = some (some (.ref (v_C0 K)))), decide (PySem.W.nsIn K mainGlobals "BadDeed" = some (some (.ref (v_C1 K)))), decide (PySem.W.nsIn K mainGlobals "BadNumber" = some (some (.ref (v_C2 K)))), decide (PySem.W.nsIn K mainGlobals "BadBook" = some (some (.ref (v_C3 K)))), decide (PySem.W.nsIn K mainGlobals "BadPlan" = some (some (.ref (v_C4 K)))), decide (PySem.W.nsIn K mainGlobals "BadChain" = some (some (.ref (v_C5 K)))), decide (PySem.W.nsIn K mainGlobals "BadText" = some (some (.ref (v_C6 K)))), decide (PySem.W.nsIn K mainGlobals "Book" = some (some (.ref (v_C7 K)))), decide (PySem.W.nsIn K mainGlobals "_law_begun" = some (some (.ref (v_f0 K)))), (PySem.W.codeIn K (v_cd0 K) "_law_begun" : Bool), (PySem.W.keepIn K (.ref (v_f0 K)) : Bool), decide (PySem.W.nsIn K mainGlobals "_law_mixed" = some (some (.ref (v_f1 K)))), (PySem.W.codeIn K (v_cd1 K) "_law_mixed" : Bool), (PySem.W.keepIn K (.ref (v_f1 K)) : Bool), decide (PySem.W.nsIn K mainGlobals "_law_take" = some (some (.ref (v_f2 K)))), (PySem.W.codeIn K (v_cd2 K) "_law_take" : Bool)]
def ck1 (K : PySem.W.Frag) : List Bool := [(PySem.W.keepIn K (.ref (v_f2 K)) : Bool), decide (PySem.W.nsIn K mainGlobals "_law_pick" = some (some (.ref (v_f3 K)))), (PySem.W.codeIn K (v_cd3 K) "_law_pick" : Bool), (PySem.W.keepIn K (.ref (v_f3 K)) : Bool), decide (PySem.W.nsIn K mainGlobals "_law_words" = some (some (.ref (v_f4 K)))), (PySem.W.codeIn K (v_cd4 K) "_law_words" : Bool), (PySem.W.keepIn K (.ref (v_f4 K)) : Bool), decide (PySem.W.nsIn K mainGlobals "_law_drawn_book" = some (some (.ref (v_f5 K)))), (PySem.W.codeIn K (v_cd5 K) "_law_drawn_book" : Bool), (PySem.W.keepIn K (.ref (v_f5 K)) : Bool), decide (PySem.W.nsIn K mainGlobals "need_word" = some (some (.ref (v_f6 K)))), (PySem.W.codeIn K (v_cd6 K) "need_word" : Bool), (PySem.W.keepIn K (.ref (v_f6 K)) : Bool), decide (PySem.W.nsIn K mainGlobals "need_words" = some (some (.ref (v_f7 K)))), (PySem.W.codeIn K (v_cd7 K) "need_words" : Bool), (PySem.W.keepIn K (.ref (v_f7 K)) : Bool)]
def ck2 (K : PySem.W.Frag) : List Bool := [decide (PySem.W.findIn K (.ref (v_C7 K)) "__init__" = some (some (.ref (v_f8 K)))), (PySem.W.isFn K (.ref (v_f8 K)) : Bool), (PySem.W.makesIn K (v_C7 K) : Bool), (PySem.W.keepIn K (.ref (v_C7 K)) : Bool), (PySem.W.codeIn K (v_cd8 K) "Book.__init__" : Bool), (PySem.W.keepIn K (.ref (v_f8 K)) : Bool), decide (PySem.W.nsIn K mainGlobals "_law_shuffled" = some (some (.ref (v_f9 K)))), (PySem.W.codeIn K (v_cd9 K) "_law_shuffled" : Bool), (PySem.W.keepIn K (.ref (v_f9 K)) : Bool), decide (PySem.W.nsIn K mainGlobals "_law_made_book" = some (some (.ref (v_f10 K)))), (PySem.W.codeIn K (v_cd10 K) "_law_made_book" : Bool), (PySem.W.keepIn K (.ref (v_f10 K)) : Bool), decide (PySem.W.nsIn K mainGlobals "_law_page" = some (some (.ref (v_f11 K)))), (PySem.W.codeIn K (v_cd11 K) "_law_page" : Bool), (PySem.W.keepIn K (.ref (v_f11 K)) : Bool), decide (PySem.W.nsIn K mainGlobals "lines_of" = some (some (.ref (v_f12 K))))]
def ck3 (K : PySem.W.Frag) : List Bool := [(PySem.W.codeIn K (v_cd12 K) "lines_of" : Bool), (PySem.W.keepIn K (.ref (v_f12 K)) : Bool), decide (PySem.W.nsIn K mainGlobals "line_words" = some (some (.ref (v_f13 K)))), (PySem.W.codeIn K (v_cd13 K) "line_words" : Bool), (PySem.W.keepIn K (.ref (v_f13 K)) : Bool), decide (PySem.W.nsIn K mainGlobals "read_book" = some (some (.ref (v_f14 K)))), (PySem.W.codeIn K (v_cd14 K) "read_book" : Bool), (PySem.W.keepIn K (.ref (v_f14 K)) : Bool), decide (PySem.W.nsIn K mainGlobals "_law_refusal" = some (some (.ref (v_f15 K)))), (PySem.W.codeIn K (v_cd15 K) "_law_refusal" : Bool), (PySem.W.keepIn K (.ref (v_f15 K)) : Bool), decide (PySem.W.nsIn K mainGlobals "_law_is" = some (some (.ref (v_f16 K)))), (PySem.W.codeIn K (v_cd16 K) "_law_is" : Bool), (PySem.W.keepIn K (.ref (v_f16 K)) : Bool), decide (PySem.W.findIn K (.ref (v_C7 K)) "__eq__" = some (some (.ref (v_f17 K)))), (PySem.W.isFn K (.ref (v_f17 K)) : Bool)]
def ck4 (K : PySem.W.Frag) : List Bool := [decide (PySem.W.findIn K (.ref (v_C7 K)) "__ne__" = some (some (.builtin "object.__ne__"))), (PySem.W.codeIn K (v_cd17 K) "Book.__eq__" : Bool), (PySem.W.keepIn K (.ref (v_f17 K)) : Bool), decide (PySem.W.findIn K (.ref (v_C7 K)) "notes" = some (some (.ref (v_p18 K)))), decide (PySem.W.specialIn K (.ref (v_p18 K)) "__get__" = some (some (.builtin "property.__get__"))), decide (PySem.W.takesIn K (.ref (v_p18 K)) = some true), decide (PySem.W.recIn K (v_p18 K) "property" = some (.ref (v_f18 K) :: (v_rs18 K))), (PySem.W.codeIn K (v_cd18 K) "Book.notes" : Bool), (PySem.W.keepIn K (.ref (v_f18 K)) : Bool), decide (PySem.W.nsIn K mainGlobals "_law_odd" = some (some (.ref (v_f19 K)))), (PySem.W.codeIn K (v_cd19 K) "_law_odd" : Bool), (PySem.W.keepIn K (.ref (v_f19 K)) : Bool), decide (PySem.W.nsIn K mainGlobals "need_book" = some (some (.ref (v_f20 K)))), (PySem.W.codeIn K (v_cd20 K) "need_book" : Bool), (PySem.W.keepIn K (.ref (v_f20 K)) : Bool), decide (PySem.W.findIn K (.ref (v_C7 K)) "up" = some (some (.ref (v_p21 K))))]
def ck5 (K : PySem.W.Frag) : List Bool := [decide (PySem.W.specialIn K (.ref (v_p21 K)) "__get__" = some (some (.builtin "property.__get__"))), decide (PySem.W.takesIn K (.ref (v_p21 K)) = some true), decide (PySem.W.recIn K (v_p21 K) "property" = some (.ref (v_f21 K) :: (v_rs21 K))), (PySem.W.codeIn K (v_cd21 K) "Book.up" : Bool), (PySem.W.keepIn K (.ref (v_f21 K)) : Bool), decide (PySem.W.findIn K (.ref (v_C7 K)) "down" = some (some (.ref (v_p22 K)))), decide (PySem.W.specialIn K (.ref (v_p22 K)) "__get__" = some (some (.builtin "property.__get__"))), decide (PySem.W.takesIn K (.ref (v_p22 K)) = some true), decide (PySem.W.recIn K (v_p22 K) "property" = some (.ref (v_f22 K) :: (v_rs22 K))), (PySem.W.codeIn K (v_cd22 K) "Book.down" : Bool), (PySem.W.keepIn K (.ref (v_f22 K)) : Bool), decide (PySem.W.findIn K (.ref (v_C7 K)) "writes" = some (some (.ref (v_p23 K)))), decide (PySem.W.specialIn K (.ref (v_p23 K)) "__get__" = some (some (.builtin "property.__get__"))), decide (PySem.W.takesIn K (.ref (v_p23 K)) = some true), decide (PySem.W.recIn K (v_p23 K) "property" = some (.ref (v_f23 K) :: (v_rs23 K))), (PySem.W.codeIn K (v_cd23 K) "Book.writes" : Bool)]
def ck6 (K : PySem.W.Frag) : List Bool := [(PySem.W.keepIn K (.ref (v_f23 K)) : Bool), decide (PySem.W.findIn K (.ref (v_C7 K)) "moves" = some (some (.ref (v_p24 K)))), decide (PySem.W.specialIn K (.ref (v_p24 K)) "__get__" = some (some (.builtin "property.__get__"))), decide (PySem.W.takesIn K (.ref (v_p24 K)) = some true), decide (PySem.W.recIn K (v_p24 K) "property" = some (.ref (v_f24 K) :: (v_rs24 K))), (PySem.W.codeIn K (v_cd24 K) "Book.moves" : Bool), (PySem.W.keepIn K (.ref (v_f24 K)) : Bool), decide (PySem.W.findIn K (.ref (v_C7 K)) "finish" = some (some (.ref (v_p25 K)))), decide (PySem.W.specialIn K (.ref (v_p25 K)) "__get__" = some (some (.builtin "property.__get__"))), decide (PySem.W.takesIn K (.ref (v_p25 K)) = some true), decide (PySem.W.recIn K (v_p25 K) "property" = some (.ref (v_f25 K) :: (v_rs25 K))), (PySem.W.codeIn K (v_cd25 K) "Book.finish" : Bool), (PySem.W.keepIn K (.ref (v_f25 K)) : Bool), decide (PySem.W.findIn K (.ref (v_C7 K)) "counts" = some (some (.ref (v_p26 K)))), decide (PySem.W.specialIn K (.ref (v_p26 K)) "__get__" = some (some (.builtin "property.__get__"))), decide (PySem.W.takesIn K (.ref (v_p26 K)) = some true)]
def ck7 (K : PySem.W.Frag) : List Bool := [decide (PySem.W.recIn K (v_p26 K) "property" = some (.ref (v_f26 K) :: (v_rs26 K))), (PySem.W.codeIn K (v_cd26 K) "Book.counts" : Bool), (PySem.W.keepIn K (.ref (v_f26 K)) : Bool), decide (PySem.W.nsIn K mainGlobals "chosen_words" = some (some (.ref (v_f27 K)))), (PySem.W.codeIn K (v_cd27 K) "chosen_words" : Bool), (PySem.W.keepIn K (.ref (v_f27 K)) : Bool), decide (PySem.W.findIn K (.ref (v_C7 K)) "bars" = some (some (.ref (v_p28 K)))), decide (PySem.W.specialIn K (.ref (v_p28 K)) "__get__" = some (some (.builtin "property.__get__"))), decide (PySem.W.takesIn K (.ref (v_p28 K)) = some true), decide (PySem.W.recIn K (v_p28 K) "property" = some (.ref (v_f28 K) :: (v_rs28 K))), (PySem.W.codeIn K (v_cd28 K) "Book.bars" : Bool), (PySem.W.keepIn K (.ref (v_f28 K)) : Bool), decide (PySem.W.nsIn K mainGlobals "book_text" = some (some (.ref (v_f29 K)))), (PySem.W.codeIn K (v_cd29 K) "book_text" : Bool), (PySem.W.keepIn K (.ref (v_f29 K)) : Bool), decide (PySem.W.nsIn K mainGlobals "law" = some (some (.ref (v_f30 K))))]
def ck8 (K : PySem.W.Frag) : List Bool := [decide ((fdD K (v_f30 K)).code = .ref (v_ca30 K)), (PySem.W.codeIn K (.ref (v_ca30 K)) "law" : Bool), (PySem.W.keepIn K (.ref (v_f30 K)) : Bool), decide (kndD K (v_ca30 K) = 2), decide ((v_vs30 K)[11]? = some (.ref (v_P30 K))), (PySem.W.codeHdIn K (v_ca30 K) (v_P30 K) : Bool), (K.lookup (v_P30 K)).isNone, decide (PySem.W.nsIn K mainGlobals "UPS" = some (some (.ref (v_p_UPS K)))), decide (kndD K (v_p_UPS K) = 3), decide ((objD K (v_p_UPS K)).cls = .type "tuple"), decide ((seqD K (v_p_UPS K)).toList = [.str "one" (v_t_UPS0 K), .str "late" (v_t_UPS1 K), .str "blind" (v_t_UPS2 K)]), decide (PySem.W.nsIn K mainGlobals "DOWNS" = some (some (.ref (v_p_DOWNS K)))), decide (kndD K (v_p_DOWNS K) = 3), decide ((objD K (v_p_DOWNS K)).cls = .type "tuple"), decide ((seqD K (v_p_DOWNS K)).toList = [.str "one" (v_t_DOWNS0 K), .str "two" (v_t_DOWNS1 K)]), decide (PySem.W.nsIn K mainGlobals "WRITES" = some (some (.ref (v_p_WRITES K))))]
def ck9 (K : PySem.W.Frag) : List Bool := [decide (kndD K (v_p_WRITES K) = 3), decide ((objD K (v_p_WRITES K)).cls = .type "tuple"), decide ((seqD K (v_p_WRITES K)).toList = [.str "plain" (v_t_WRITES0 K), .str "both" (v_t_WRITES1 K), .str "again" (v_t_WRITES2 K), .str "behind" (v_t_WRITES3 K), .str "refused" (v_t_WRITES4 K)]), decide (PySem.W.nsIn K mainGlobals "MOVES" = some (some (.ref (v_p_MOVES K)))), decide (kndD K (v_p_MOVES K) = 3), decide ((objD K (v_p_MOVES K)).cls = .type "tuple"), decide ((seqD K (v_p_MOVES K)).toList = [.str "now" (v_t_MOVES0 K), .str "first" (v_t_MOVES1 K)]), decide (PySem.W.nsIn K mainGlobals "FINISHES" = some (some (.ref (v_p_FINISHES K)))), decide (kndD K (v_p_FINISHES K) = 3), decide ((objD K (v_p_FINISHES K)).cls = .type "tuple"), decide ((seqD K (v_p_FINISHES K)).toList = [.str "one" (v_t_FINISHES0 K), .str "link" (v_t_FINISHES1 K), .str "cut" (v_t_FINISHES2 K)]), decide (PySem.W.nsIn K mainGlobals "COUNTS" = some (some (.ref (v_p_COUNTS K)))), decide (kndD K (v_p_COUNTS K) = 3), decide ((objD K (v_p_COUNTS K)).cls = .type "tuple"), decide ((seqD K (v_p_COUNTS K)).toList = [.str "last" (v_t_COUNTS0 K), .str "first" (v_t_COUNTS1 K), .str "never" (v_t_COUNTS2 K)]), decide (PySem.W.nsIn K mainGlobals "BARS" = some (some (.ref (v_p_BARS K))))]
def ck10 (K : PySem.W.Frag) : List Bool := [decide (kndD K (v_p_BARS K) = 3), decide ((objD K (v_p_BARS K)).cls = .type "tuple"), decide ((seqD K (v_p_BARS K)).toList = [.str "cover" (v_t_BARS0 K), .str "lower" (v_t_BARS1 K), .str "open" (v_t_BARS2 K), .str "others" (v_t_BARS3 K), .str "upper" (v_t_BARS4 K)]), decide (PySem.W.nsIn K mainGlobals "NOTES" = some (some (.ref (v_p_NOTES K)))), decide (kndD K (v_p_NOTES K) = 3), decide ((objD K (v_p_NOTES K)).cls = .type "tuple"), decide ((seqD K (v_p_NOTES K)).toList = [.str "again" (v_t_NOTES0 K), .str "job" (v_t_NOTES1 K), .str "place" (v_t_NOTES2 K)]), decide (PySem.W.nsIn K mainGlobals "FIELDS" = some (some (.ref (v_p_FIELDS K)))), decide (kndD K (v_p_FIELDS_0_1 K) = 3), decide ((objD K (v_p_FIELDS_0_1 K)).cls = .type "tuple"), decide ((seqD K (v_p_FIELDS_0_1 K)).toList = [.str "one" (v_t_FIELDS_0_10 K), .str "late" (v_t_FIELDS_0_11 K), .str "blind" (v_t_FIELDS_0_12 K)]), decide (kndD K (v_p_FIELDS_0 K) = 3), decide ((objD K (v_p_FIELDS_0 K)).cls = .type "tuple"), decide ((seqD K (v_p_FIELDS_0 K)).toList = [.str "up" (v_t_FIELDS_00 K), .ref (v_p_FIELDS_0_1 K)]), decide (kndD K (v_p_FIELDS_1_1 K) = 3), decide ((objD K (v_p_FIELDS_1_1 K)).cls = .type "tuple")]
def ck11 (K : PySem.W.Frag) : List Bool := [decide ((seqD K (v_p_FIELDS_1_1 K)).toList = [.str "one" (v_t_FIELDS_1_10 K), .str "two" (v_t_FIELDS_1_11 K)]), decide (kndD K (v_p_FIELDS_1 K) = 3), decide ((objD K (v_p_FIELDS_1 K)).cls = .type "tuple"), decide ((seqD K (v_p_FIELDS_1 K)).toList = [.str "down" (v_t_FIELDS_10 K), .ref (v_p_FIELDS_1_1 K)]), decide (kndD K (v_p_FIELDS_2_1 K) = 3), decide ((objD K (v_p_FIELDS_2_1 K)).cls = .type "tuple"), decide ((seqD K (v_p_FIELDS_2_1 K)).toList = [.str "plain" (v_t_FIELDS_2_10 K), .str "both" (v_t_FIELDS_2_11 K), .str "again" (v_t_FIELDS_2_12 K), .str "behind" (v_t_FIELDS_2_13 K), .str "refused" (v_t_FIELDS_2_14 K)]), decide (kndD K (v_p_FIELDS_2 K) = 3), decide ((objD K (v_p_FIELDS_2 K)).cls = .type "tuple"), decide ((seqD K (v_p_FIELDS_2 K)).toList = [.str "writes" (v_t_FIELDS_20 K), .ref (v_p_FIELDS_2_1 K)]), decide (kndD K (v_p_FIELDS_3_1 K) = 3), decide ((objD K (v_p_FIELDS_3_1 K)).cls = .type "tuple"), decide ((seqD K (v_p_FIELDS_3_1 K)).toList = [.str "now" (v_t_FIELDS_3_10 K), .str "first" (v_t_FIELDS_3_11 K)]), decide (kndD K (v_p_FIELDS_3 K) = 3), decide ((objD K (v_p_FIELDS_3 K)).cls = .type "tuple"), decide ((seqD K (v_p_FIELDS_3 K)).toList = [.str "moves" (v_t_FIELDS_30 K), .ref (v_p_FIELDS_3_1 K)])]
def ck12 (K : PySem.W.Frag) : List Bool := [decide (kndD K (v_p_FIELDS_4_1 K) = 3), decide ((objD K (v_p_FIELDS_4_1 K)).cls = .type "tuple"), decide ((seqD K (v_p_FIELDS_4_1 K)).toList = [.str "one" (v_t_FIELDS_4_10 K), .str "link" (v_t_FIELDS_4_11 K), .str "cut" (v_t_FIELDS_4_12 K)]), decide (kndD K (v_p_FIELDS_4 K) = 3), decide ((objD K (v_p_FIELDS_4 K)).cls = .type "tuple"), decide ((seqD K (v_p_FIELDS_4 K)).toList = [.str "finish" (v_t_FIELDS_40 K), .ref (v_p_FIELDS_4_1 K)]), decide (kndD K (v_p_FIELDS_5_1 K) = 3), decide ((objD K (v_p_FIELDS_5_1 K)).cls = .type "tuple"), decide ((seqD K (v_p_FIELDS_5_1 K)).toList = [.str "last" (v_t_FIELDS_5_10 K), .str "first" (v_t_FIELDS_5_11 K), .str "never" (v_t_FIELDS_5_12 K)]), decide (kndD K (v_p_FIELDS_5 K) = 3), decide ((objD K (v_p_FIELDS_5 K)).cls = .type "tuple"), decide ((seqD K (v_p_FIELDS_5 K)).toList = [.str "counts" (v_t_FIELDS_50 K), .ref (v_p_FIELDS_5_1 K)]), decide (kndD K (v_p_FIELDS K) = 3), decide ((objD K (v_p_FIELDS K)).cls = .type "tuple"), decide ((seqD K (v_p_FIELDS K)).toList = [.ref (v_p_FIELDS_0 K), .ref (v_p_FIELDS_1 K), .ref (v_p_FIELDS_2 K), .ref (v_p_FIELDS_3 K), .ref (v_p_FIELDS_4 K), .ref (v_p_FIELDS_5 K)]), decide (PySem.W.nsIn K mainGlobals "SETS" = some (some (.ref (v_p_SETS K))))]
def ck13 (K : PySem.W.Frag) : List Bool := [decide (kndD K (v_p_SETS_0_1 K) = 3), decide ((objD K (v_p_SETS_0_1 K)).cls = .type "tuple"), decide ((seqD K (v_p_SETS_0_1 K)).toList = [.str "cover" (v_t_SETS_0_10 K), .str "lower" (v_t_SETS_0_11 K), .str "open" (v_t_SETS_0_12 K), .str "others" (v_t_SETS_0_13 K), .str "upper" (v_t_SETS_0_14 K)]), decide (kndD K (v_p_SETS_0 K) = 3), decide ((objD K (v_p_SETS_0 K)).cls = .type "tuple"), decide ((seqD K (v_p_SETS_0 K)).toList = [.str "bars" (v_t_SETS_00 K), .ref (v_p_SETS_0_1 K)]), decide (kndD K (v_p_SETS_1_1 K) = 3), decide ((objD K (v_p_SETS_1_1 K)).cls = .type "tuple"), decide ((seqD K (v_p_SETS_1_1 K)).toList = [.str "again" (v_t_SETS_1_10 K), .str "job" (v_t_SETS_1_11 K), .str "place" (v_t_SETS_1_12 K)]), decide (kndD K (v_p_SETS_1 K) = 3), decide ((objD K (v_p_SETS_1 K)).cls = .type "tuple"), decide ((seqD K (v_p_SETS_1 K)).toList = [.str "notes" (v_t_SETS_10 K), .ref (v_p_SETS_1_1 K)]), decide (kndD K (v_p_SETS K) = 3), decide ((objD K (v_p_SETS K)).cls = .type "tuple"), decide ((seqD K (v_p_SETS K)).toList = [.ref (v_p_SETS_0 K), .ref (v_p_SETS_1 K)]), decide (PySem.W.nsIn K mainGlobals "LINES" = some (some (.int 8 (v_t_LINES K))))]
def ck14 (K : PySem.W.Frag) : List Bool := [decide (PySem.W.nsIn K mainGlobals "super" = some none), decide (PySem.W.nsIn K mainGlobals "abs" = some none), decide (PySem.W.nsIn K mainGlobals "int" = some none), decide (PySem.W.nsIn K mainGlobals "len" = some none), decide (PySem.W.nsIn K mainGlobals "isinstance" = some none), decide (PySem.W.nsIn K mainGlobals "str" = some none), decide (PySem.W.nsIn K mainGlobals "tuple" = some none), decide (PySem.W.nsIn K mainGlobals "list" = some none), decide (PySem.W.nsIn K mainGlobals "set" = some none), decide (PySem.W.nsIn K mainGlobals "sorted" = some none), decide (PySem.W.nsIn K mainGlobals "all" = some none), decide (PySem.W.nsIn K mainGlobals "enumerate" = some none), decide (PySem.W.nsIn K mainGlobals "ValueError" = some none), decide (PySem.W.nsIn K mainGlobals "repr" = some none), decide (PySem.W.nsIn K mainGlobals "zip" = some none), decide (PySem.W.nsIn K mainGlobals "range" = some none)]
def ck15 (K : PySem.W.Frag) : List Bool := [decide (PySem.W.nsIn K mainGlobals "min" = some none), decide (PySem.W.nsIn K mainGlobals "dict" = some none), ((([((v_P30 K), ("law" : Str) ++ (".<locals>." : Str) ++ ("<lambda>" : Str))] : List (Addr × Str)).all fun p => decide (p.1 = (v_P30 K) → p.2 = ("law" : Str) ++ (".<locals>." : Str) ++ ("<lambda>" : Str))) : Bool), decide (PySem.W.nsIn K mainGlobals "_law_caught" = some (some (.ref (v_fg0 K)))), (PySem.W.codeIn K (v_cdg0 K) "_law_caught" : Bool), (PySem.W.keepIn K (.ref (v_fg0 K)) : Bool), decide (PySem.W.exmOne K (.ref (v_C0 K)) (.ref (v_C0 K)) = some true), decide (PySem.W.exmOne K (.ref (v_C1 K)) (.ref (v_C0 K)) = some true), decide (PySem.W.exmOne K (.ref (v_C2 K)) (.ref (v_C0 K)) = some true), decide (PySem.W.exmOne K (.ref (v_C3 K)) (.ref (v_C0 K)) = some true), decide (PySem.W.exmOne K (.ref (v_C4 K)) (.ref (v_C0 K)) = some true), decide (PySem.W.exmOne K (.ref (v_C5 K)) (.ref (v_C0 K)) = some true), decide (PySem.W.exmOne K (.ref (v_C6 K)) (.ref (v_C0 K)) = some true), (excB K (v_C0 K) : Bool), (excB K (v_C1 K) : Bool), (excB K (v_C2 K) : Bool)]
def ck16 (K : PySem.W.Frag) : List Bool := [(excB K (v_C3 K) : Bool), (excB K (v_C4 K) : Bool), (excB K (v_C5 K) : Bool), (excB K (v_C6 K) : Bool), (([3].all fun c => decide (PySem.W.findIn K (.ref ((⟨fun n => [(v_C0 K), (v_C1 K), (v_C2 K), (v_C3 K), (v_C4 K), (v_C5 K), (v_C6 K), (v_C7 K)].getD n 0, [((v_P30 K), ("law" : Str) ++ (".<locals>." : Str) ++ ("<lambda>" : Str))]⟩ : CAs) c)) "field" = some none)) : Bool), (([2].all fun c => decide (PySem.W.findIn K (.ref ((⟨fun n => [(v_C0 K), (v_C1 K), (v_C2 K), (v_C3 K), (v_C4 K), (v_C5 K), (v_C6 K), (v_C7 K)].getD n 0, [((v_P30 K), ("law" : Str) ++ (".<locals>." : Str) ++ ("<lambda>" : Str))]⟩ : CAs) c)) "number" = some none)) : Bool), (([1].all fun c => decide (PySem.W.findIn K (.ref ((⟨fun n => [(v_C0 K), (v_C1 K), (v_C2 K), (v_C3 K), (v_C4 K), (v_C5 K), (v_C6 K), (v_C7 K)].getD n 0, [((v_P30 K), ("law" : Str) ++ (".<locals>." : Str) ++ ("<lambda>" : Str))]⟩ : CAs) c)) "at" = some none)) : Bool), (([6].all fun c => decide (PySem.W.findIn K (.ref ((⟨fun n => [(v_C0 K), (v_C1 K), (v_C2 K), (v_C3 K), (v_C4 K), (v_C5 K), (v_C6 K), (v_C7 K)].getD n 0, [((v_P30 K), ("law" : Str) ++ (".<locals>." : Str) ++ ("<lambda>" : Str))]⟩ : CAs) c)) "line" = some none)) : Bool), (iniB K (v_C3 K) "field" : Bool), decide (PySem.W.findIn K (.ref (v_C3 K)) "__init__" = some (some (.ref (v_xf3 K)))), decide ((fdD K (v_xf3 K)).code = .ref (v_xa3 K)), decide (PySem.W.typeIn K (.ref (v_xf3 K)) = some (.type "function")), (PySem.W.codeIn K (.ref (v_xa3 K)) "BadBook.__init__" : Bool), decide (kndD K (v_xa3 K) = 2), decide ((v_xvs3 K)[2]? = some (.str (v_xfile3 K) (v_xtf3 K))), (((PySem.Challenge.rw_whilemerged_k75_texts_of_books.prog.main.file : Str) == (v_xfile3 K)) : Bool)]
def ck17 (K : PySem.W.Frag) : List Bool := [decide (kndD K (v_xc3 K) = 5), decide (celD K (v_xc3 K) = some (.ref (v_C3 K))), (iniB K (v_C6 K) "line" : Bool), decide (PySem.W.findIn K (.ref (v_C6 K)) "__init__" = some (some (.ref (v_xf6 K)))), decide ((fdD K (v_xf6 K)).code = .ref (v_xa6 K)), decide (PySem.W.typeIn K (.ref (v_xf6 K)) = some (.type "function")), (PySem.W.codeIn K (.ref (v_xa6 K)) "BadText.__init__" : Bool), decide (kndD K (v_xa6 K) = 2), decide ((v_xvs6 K)[2]? = some (.str (v_xfile6 K) (v_xtf6 K))), (((PySem.Challenge.rw_whilemerged_k75_texts_of_books.prog.main.file : Str) == (v_xfile6 K)) : Bool), decide (kndD K (v_xc6 K) = 5), decide (celD K (v_xc6 K) = some (.ref (v_C6 K))), (clsB K (v_C7 K) : Bool), (noB K (v_C7 K) ["b_words", "b_bars", "b_notes"] : Bool), (ktChk K (⟨fun n => [(v_C0 K), (v_C1 K), (v_C2 K), (v_C3 K), (v_C4 K), (v_C5 K), (v_C6 K), (v_C7 K)].getD n 0, [((v_P30 K), ("law" : Str) ++ (".<locals>." : Str) ++ ("<lambda>" : Str))]⟩ : CAs) [[.o 0, .b "ValueError"], [.o 1, .o 0, .b "ValueError"], [.o 2, .o 0, .b "ValueError"], [.o 3, .o 0, .b "ValueError"], [.o 4, .o 0, .b "ValueError"], [.o 5, .o 0, .b "ValueError"], [.o 6, .o 0, .b "ValueError"], [.o 7]] ("ValueError" :: tys) : Bool), (nfB K (⟨fun n => [(v_C0 K), (v_C1 K), (v_C2 K), (v_C3 K), (v_C4 K), (v_C5 K), (v_C6 K), (v_C7 K)].getD n 0, [((v_P30 K), ("law" : Str) ++ (".<locals>." : Str) ++ ("<lambda>" : Str))]⟩ : CAs) 7 [.b "NoneType", .b "bool", .b "int", .b "str", .b "list", .b "tuple", .b "dict", .o 0, .o 1, .o 2, .o 3, .o 4, .o 5, .o 6, .o 7] : Bool)]
def fo0 (K : PySem.W.Frag) : List FnV := [fnO K (v_f0 K), fnO K (v_f1 K), fnO K (v_f2 K), fnO K (v_f3 K), fnO K (v_f4 K), fnO K (v_f5 K), fnO K (v_f6 K), fnO K (v_f7 K), fnO K (v_f8 K), fnO K (v_f9 K), fnO K (v_f10 K), fnO K (v_f11 K), fnO K (v_f12 K), fnO K (v_f13 K), fnO K (v_f14 K), fnO K (v_f15 K)]
def fe0 : List FnV := [fnE "_law_begun" "_law_begun" s__law_begun, fnE "_law_mixed" "_law_mixed" s__law_mixed, fnE "_law_take" "_law_take" s__law_take, fnE "_law_pick" "_law_pick" s__law_pick, fnE "_law_words" "_law_words" s__law_words, fnE "_law_drawn_book" "_law_drawn_book" s__law_drawn_book, fnE "need_word" "need_word" s_need_word, fnE "need_words" "need_words" s_need_words, fnE "__init__" "Book.__init__" s_Book_init, fnE "_law_shuffled" "_law_shuffled" s__law_shuffled, fnE "_law_made_book" "_law_made_book" s__law_made_book, fnE "_law_page" "_law_page" s__law_page, fnE "lines_of" "lines_of" s_lines_of, fnE "line_words" "line_words" s_line_words, fnE "read_book" "read_book" s_read_book, fnE "_law_refusal" "_law_refusal" s__law_refusal]
def fo1 (K : PySem.W.Frag) : List FnV := [fnO K (v_f16 K), fnO K (v_f17 K), fnO K (v_f18 K), fnO K (v_f19 K), fnO K (v_f20 K), fnO K (v_f21 K), fnO K (v_f22 K), fnO K (v_f23 K), fnO K (v_f24 K), fnO K (v_f25 K), fnO K (v_f26 K), fnO K (v_f27 K), fnO K (v_f28 K), fnO K (v_f29 K), fnO K (v_f30 K), fnO K (v_fg0 K)]
def fe1 : List FnV := [fnE "_law_is" "_law_is" s__law_is, fnE "__eq__" "Book.__eq__" s_Book_eq, fnE "notes" "Book.notes" s_Book_notes, fnE "_law_odd" "_law_odd" s__law_odd, fnE "need_book" "need_book" s_need_book, fnE "up" "Book.up" s_Book_up, fnE "down" "Book.down" s_Book_down, fnE "writes" "Book.writes" s_Book_writes, fnE "moves" "Book.moves" s_Book_moves, fnE "finish" "Book.finish" s_Book_finish, fnE "counts" "Book.counts" s_Book_counts, fnE "chosen_words" "chosen_words" s_chosen_words, fnE "bars" "Book.bars" s_Book_bars, fnE "book_text" "book_text" s_book_text, fnE "law" "law" s_law, fnE "_law_caught" "_law_caught" s__law_caught]
def fo2 (K : PySem.W.Frag) : List FnV := [fnO K (v_xf3 K), fnO K (v_xf6 K)]
def fe2 : List FnV := [fnX' "__init__" "BadBook.__init__" s_BadBook_init, fnX' "__init__" "BadText.__init__" s_BadText_init]
def specA : SpecX where
  ck := fun K => [(ck0 K).all id, (ck1 K).all id, (ck2 K).all id, (ck3 K).all id, (ck4 K).all id, (ck5 K).all id, (ck6 K).all id, (ck7 K).all id, (ck8 K).all id].all id
  fn := fun K => fo0 K ++ (fo1 K ++ (fo2 K))
  fe := fe0 ++ (fe1 ++ (fe2))
  en := fun K => []
  ee := fun P => []
  tb := fun K => []
def specB : SpecX where
  ck := fun K => [(ck9 K).all id, (ck10 K).all id, (ck11 K).all id, (ck12 K).all id, (ck13 K).all id, (ck14 K).all id, (ck15 K).all id, (ck16 K).all id, (ck17 K).all id].all id
  fn := fun K => []
  fe := []
  en := fun K => []
  ee := fun P => []
  tb := fun K => [(v_P30 K)]
def nm0 : List PySem.Str := ["_wall", "MergeError", "BadBook", "BadDeed", "BadNumber", "BadChain", "BadPlan", "BadText", "UPS", "DOWNS"]
def nm1 : List PySem.Str := ["WRITES", "MOVES", "FINISHES", "COUNTS", "BARS", "NOTES", "FIELDS", "need_book", "need_word", "need_words"]
def nm2 : List PySem.Str := ["Book", "SETS", "LINES", "chosen_words", "book_text", "lines_of", "line_words", "read_book", "_law_begun", "_law_mixed"]
def nm3 : List PySem.Str := ["_law_take", "_law_pick", "_law_shuffled", "_law_odd", "_law_caught", "_law_refusal", "_law_is", "_law_words", "_law_drawn_book", "_law_made_book"]
def nm4 : List PySem.Str := ["_law_page"]
def names : List PySem.Str := nm0 ++ nm1 ++ nm2 ++ nm3 ++ nm4
abbrev RW : PySem.W.OpenRow := PySem.W.OpenLaw.row PySem.Challenge.rw_whilemerged_k75_texts_of_books
abbrev qv : Program := PySem.W.view RW.prog [45]
abbrev hkX : PySem.W.Hook := hook2 specA specB 20000
def obA (s : PySem.W.SharedT) : AlX := specA.obsB 20000 (HandSHeadRun.getT s)
def obB (s : PySem.W.SharedT) : AlX := specB.obsB 20000 (HandSHeadRun.getT s)
def ob (s : PySem.W.SharedT) : AlX × AlX := (obA s, obB s)
theorem ob_eq (s : PySem.W.SharedT) : ob s = hkX.obs s.abs := obs2_eq (HandSHeadRun.getT_eq s)
set_option maxHeartbeats 0 in
theorem runA_false (w : World) : HandSHeadRun.RunEq RW qv (hookB specA 20000) obA 20000 names (w.withFollow "special-get-raises" false) := by intro os; kernel_rfl
set_option maxHeartbeats 0 in
theorem runA_true (w : World) : HandSHeadRun.RunEq RW qv (hookB specA 20000) obA 20000 names (w.withFollow "special-get-raises" true) := by intro os; kernel_rfl
set_option maxHeartbeats 0 in
theorem runB_false (w : World) : HandSHeadRun.RunEq RW qv (hookB specB 20000) obB 20000 names (w.withFollow "special-get-raises" false) := by intro os; kernel_rfl
set_option maxHeartbeats 0 in
theorem runB_true (w : World) : HandSHeadRun.RunEq RW qv (hookB specB 20000) obB 20000 names (w.withFollow "special-get-raises" true) := by intro os; kernel_rfl
theorem run (w : World) : HandSHeadRun.RunEq RW qv hkX ob 20000 names w := PySem.W.byRow2 "special-get-raises" (P := fun w => HandSHeadRun.RunEq RW qv hkX ob 20000 names w) (fun w => run2 (runA_false w) (runB_false w)) (fun w => run2 (runA_true w) (runB_true w)) w
end W_whilemerged_k75_texts_of_books
namespace CM
open PySem PySem.Spec PyProof.Rows L2
section
variable {α β : Type} {a : α} {h : CH} {c : Nat} {fs : List (Str × D)} {f : α → CH → R β} {g : α → CH → RS} {ρ : DE} {w : SD} {d : D}
@[simp] theorem bind_ok : (R.ok a h).bind f = f a h := rfl
@[simp] theorem bind_ex : (R.ex c fs h : R α).bind f = .ex c fs h := rfl
@[simp] theorem bind_no : (R.no : R α).bind f = .no := rfl
@[simp] theorem calm_ok : (R.ok a h).calm f = f a h := rfl
@[simp] theorem calm_no : (R.no : R α).calm f = .no := rfl
@[simp] theorem toS_ok : (R.ok a h).toS ρ g = g a h := rfl
@[simp] theorem toS_ex : (R.ex c fs h : R α).toS ρ g = .ex ρ c fs h := rfl
@[simp] theorem toS_no : (R.no : R α).toS ρ g = .no := rfl
@[simp] theorem sbind_nx : (RS.nx ρ h).bind w = w ρ h := rfl
@[simp] theorem sbind_rt : (RS.rt d h).bind w = .rt d h := rfl
@[simp] theorem sbind_bk : (RS.bk ρ h).bind w = .bk ρ h := rfl
@[simp] theorem sbind_ct : (RS.ct ρ h).bind w = .ct ρ h := rfl
@[simp] theorem sbind_ex : (RS.ex ρ c fs h).bind w = .ex ρ c fs h := rfl
@[simp] theorem sbind_no : (RS.no).bind w = .no := rfl
@[simp] theorem res_nx : (RS.nx ρ h).res = .ok .non h := rfl
@[simp] theorem res_rt : (RS.rt d h).res = .ok d h := rfl
@[simp] theorem res_ex : (RS.ex ρ c fs h).res = .ex c fs h := rfl
@[simp] theorem put_ok {ρ : DE} {k : SD} : (R.ok ρ h).put k = k ρ h := rfl
@[simp] theorem unl_nx : (RS.nx ρ h).unl none = .nx ρ h := rfl
@[simp] theorem unl_none {r : RS} : r.unl none = r := by cases r <;> rfl
@[simp] theorem runl_none {r : R α} : r.unl none = r := by cases r <;> rfl
end
section
variable {ta tb tc : TD} {ts : TDs} {t u : TB} {ρ : DE} {h : CH} {d : D} {f : F2} {f1 : F1} {F : FD} {FMm : FM} {n i : Nat} {nm : Bool} {T : String}
@[simp] theorem e_C : dC d ρ h = .ok d h := rfl
@[simp] theorem e_op : dOp f ta tb ρ h = (ta ρ h).bind fun x h => (tb ρ h).bind fun y h => f x y h := rfl
@[simp] theorem e_un : dUn f1 ta ρ h = (ta ρ h).bind f1 := rfl
@[simp] theorem e_nil : dNil ρ h = .ok [] h := rfl
@[simp] theorem e_cons : dCons ta ts ρ h = (ta ρ h).bind fun x h => (ts ρ h).bind fun xs h => .ok (x :: xs) h := rfl
@[simp] theorem e_tup : dTup ts ρ h = (ts ρ h).bind fun xs h => if xs.length ≤ sizeLine then .ok (.tup xs) h else .no := rfl
@[simp] theorem e_lst : dLst nm ts ρ h = (ts ρ h).bind fun xs h => if xs.length ≤ sizeLine then mkL nm xs h else .no := rfl
@[simp] theorem e_B : dB ta ρ h = (ta ρ h).bind asB := rfl
@[simp] theorem e_and : dAnd t u ρ h = (t ρ h).bind fun c h => if c = true then u ρ h else .ok false h := rfl
@[simp] theorem e_or : dOr t u ρ h = (t ρ h).bind fun c h => if c = true then .ok true h else u ρ h := rfl
@[simp] theorem e_not : dNot t ρ h = (t ρ h).bind fun c h => .ok (!c) h := rfl
@[simp] theorem e_andV : dAndV ta tb ρ h = (ta ρ h).bind fun x h => (asB x h).bind fun c h => if c = true then tb ρ h else .ok (.bl false) h := rfl
@[simp] theorem e_orV : dOrV ta tb ρ h = (ta ρ h).bind fun x h => (asB x h).bind fun c h => if c = true then .ok (.bl true) h else tb ρ h := rfl
@[simp] theorem e_notV : dNotV ta ρ h = (ta ρ h).bind fun x h => (asB x h).bind fun c h => .ok (.bl (!c)) h := rfl
@[simp] theorem e_if : dIf t ta tb ρ h = (t ρ h).bind fun c h => if c = true then ta ρ h else tb ρ h := rfl
@[simp] theorem e_CB : dCB F ts ρ h = (ts ρ h).bind F := rfl
@[simp] theorem e_call : dCall n F ts ρ h = (ts ρ h).bind fun ds h => if ds.length = n then F ds h else .no := rfl
@[simp] theorem asB_bl {b : Bool} : asB (.bl b) h = .ok b h := rfl
@[simp] theorem e_var : dVar i ρ h = match ρ[i]? with
  | some (some d) => .ok d h
  | _ => .no := rfl
@[simp] theorem e_BM : dBM T FMm ta ts ρ h = (ta ρ h).bind fun x h => if isTy T x h = true then (ts ρ h).bind fun xs h => FMm x xs h else .no := rfl
@[simp] theorem e_BM0 : dBM0 T FMm ta ρ h = (ta ρ h).bind fun x h => if isTy T x h = true then FMm x [] h else .no := rfl
end
section
variable {ta : TD} {tg : TGD} {tgs : TGDs} {u w : SD} {ρ : DE} {h : CH} {t : TB} {ts : TDs} {i j : Nat} {d : D} {ds : List D} {N : Nat} {ti : TDw}
@[simp] theorem s_next : dNext ρ h = .nx ρ h := rfl
@[simp] theorem s_seq : dSeq u w ρ h = (u ρ h).bind w := rfl
@[simp] theorem s_if : dIfS t u w ρ h = (t ρ h).toS ρ fun b h => if b = true then u ρ h else w ρ h := rfl
@[simp] theorem s_ret : dRet ta ρ h = (ta ρ h).toS ρ fun d h => .rt d h := rfl
@[simp] theorem s_drop : dDrop ta ρ h = (ta ρ h).toS ρ fun _ h => .nx ρ h := rfl
@[simp] theorem s_asg : dAsg ta tg ρ h = (ta ρ h).toS ρ fun d h => (tg d ρ h).put fun ρ h => .nx ρ h := rfl
@[simp] theorem s_par : dPar i j ts ρ h = (ts ρ h).toS ρ fun ds h => match ds with
  | [x, y] => .nx ((ρ.set i (some x)).set j (some y)) h
  | _ => .no := rfl
@[simp] theorem g_name : gdName i d ρ h = .ok (ρ.set i (some d)) h := rfl
@[simp] theorem s_for : dFor ti tg u ρ h = (ti ρ h).toS ρ fun w h => (dForL tg u w.1 ρ h).unl w.2 := rfl
@[simp] theorem e_seqI : dSeqI ta ρ h = (ta ρ h).bind fun d h => match itemsD h d with
  | some ds => .ok (ds, none) h
  | none => lockD d h := rfl
end
def Fr (S : List Nat) (h h' : CH) : Prop := h.nx ≤ h'.nx ∧ ∀ k, k < h.nx → k ∉ S → h'.ob k = h.ob k
theorem Fr.refl {S : List Nat} {h : CH} : Fr S h h := ⟨Nat.le_refl _, fun _ _ _ => rfl⟩
theorem Fr.trans {S : List Nat} {h h1 h2 : CH} (a : Fr S h h1) (b : Fr S h1 h2) : Fr S h h2 := ⟨Nat.le_trans a.1 b.1, fun k l n => (b.2 k (Nat.lt_of_lt_of_le l a.1) n).trans (a.2 k l n)⟩
theorem s_wc : ("wide" : Str) ≠ "cells" := by decide +kernel
theorem s_wr : ("wide" : Str) ≠ "rest" := by decide +kernel
theorem s_wt : ("wide" : Str) ≠ "turn" := by decide +kernel
theorem s_cr : ("cells" : Str) ≠ "rest" := by decide +kernel
theorem s_ct : ("cells" : Str) ≠ "turn" := by decide +kernel
theorem s_rt : ("rest" : Str) ≠ "turn" := by decide +kernel
def drKvs (w : Nat) (cs : List Int) (x t : Int) : List (Key × D) := [(.inr "wide", .ref w), (.inr "cells", .lst (cs.map D.int)), (.inr "rest", .int x), (.inr "turn", .int t)]
section
variable {w : Nat} {cs : List Int} {x t z : Int}
theorem dr_wide : dGet (drKvs w cs x t) (.inr "wide") = some (.ref w) := by simp [dGet, drKvs]
theorem dr_cells : dGet (drKvs w cs x t) (.inr "cells") = some (.lst (cs.map D.int)) := by simp [dGet, drKvs, s_wc]
theorem dr_rest : dGet (drKvs w cs x t) (.inr "rest") = some (.int x) := by simp [dGet, drKvs, s_wr, s_cr]
theorem dr_turn : dGet (drKvs w cs x t) (.inr "turn") = some (.int t) := by simp [dGet, drKvs, s_wt, s_ct, s_rt]
theorem dr_putR : dPut (drKvs w cs x t) (.inr "rest") (.int z) = drKvs w cs z t := by simp [dPut, drKvs, s_wr, s_cr, s_rt.symm]
theorem dr_putT : dPut (drKvs w cs x t) (.inr "turn") (.int z) = drKvs w cs x z := by simp [dPut, drKvs, s_wt, s_ct, s_rt]
end
structure DrawAt (r w : Nat) (n : Nat) (ws cs : List Int) (x t : Int) (h : CH) : Prop where
  or_ : h.ob r = some (.dct (drKvs w cs x t))
  ow : h.ob w = some (.lst (ws.map D.int))
  ne : r ≠ w
  lr : r < h.nx
  lw : w < h.nx
  cs_ : ∀ c, c ∈ cs → 0 ≤ c ∧ c < 2147483629
  lws : ws.length ≤ 63
  lcs : cs.length ≤ 63
  t0 : 0 ≤ t
  tn : t + (n : Int) ≤ 1000000000
def DrawOk (r w n : Nat) (h : CH) : Prop := ∃ ws cs x t, DrawAt r w n ws cs x t h
end CM
namespace CM
open PySem PySem.Spec PyProof.Rows L2
def u__law_begun : SD := dSeq (dAsg (dLc true (dSeqI (dVar 0)) (gdName 2) (dB (dOp (fB fun i j => decide (i ≥ j)) (dCB fAbs (dCons (dVar 2) (dNil))) (dOp fPow (dC (.int 10)) (dC (.int 18))))) (dOp fSubI (dCB fAbs (dCons (dVar 2) (dNil))) (dOp fPow (dC (.int 10)) (dC (.int 18)))) [2]) (gdName 1)) (dRet (dDisp true [(dC (.str "wide"), dVar 1), (dC (.str "cells"), dLc false (dSeqI (dVar 0)) (gdName 2) (dYes) (dOp fMod (dCB fInt (dCons (dCB fAbs (dCons (dVar 2) (dNil))) (dNil))) (dC (.int 2147483629))) [2]), (dC (.str "rest"), dC (.int 0)), (dC (.str "turn"), dC (.int 0))]))
def F__law_begun : FD := bodyF 3 u__law_begun
def u__law_mixed : SD := dSeq (dPar 1 2 (dCons (dOp (fAdd false) (dOp fIx (dVar 0) (dC (.str "turn"))) (dC (.int 1))) (dCons (dC (.int 0)) (dNil)))) (dSeq (dAsg (dVar 1) (gdSub (dVar 0) (dC (.str "turn")))) (dSeq (dFor (dSeqI (dLst false (dCons (dC (.int 2147483629)) (dCons (dC (.int 2147483587)) (dCons (dC (.int 2147483579)) (dCons (dC (.int 2147483563)) (dNil))))))) (gdName 3) (dSeq (dAsg (dOp (fAdd false) (dOp (fMul false) (dC (.int 61441)) (dVar 1)) (dOp fDiv (dVar 3) (dC (.int 19)))) (gdName 4)) (dSeq (dFor (dSeqI (dOp fIx (dVar 0) (dC (.str "cells")))) (gdName 5) (dAsg (dOp fMod (dCB fInt (dCons (dOp (fAdd false) (dOp (fAdd false) (dOp (fMul false) (dVar 4) (dC (.int 48271))) (dVar 5)) (dVar 1)) (dNil))) (dVar 3)) (gdName 4))) (dAsg (dOp (fAdd false) (dOp (fMul false) (dVar 2) (dC (.int 2147483647))) (dOp fMod (dCB fInt (dCons (dOp fPow (dVar 4) (dC (.int 5))) (dNil))) (dVar 3))) (gdName 2))))) (dRet (dVar 2))))
def F__law_mixed : FD := bodyF 6 u__law_mixed
def u__law_take : SD := dSeq (dIfS (dB (dOp (fEq false) (dOp fIx (dVar 0) (dC (.str "rest"))) (dC (.int 0)))) (dAsg (dIf (dB (dOp (fEq true) (dOp fIx (dVar 0) (dC (.str "wide"))) (dLst false (dNil)))) (dBM "list" fPopAt (dOp fIx (dVar 0) (dC (.str "wide"))) (dCons (dC (.int 0)) (dNil))) (dCall 1 F__law_mixed (dCons (dVar 0) (dNil)))) (gdSub (dVar 0) (dC (.str "rest")))) (dNext)) (dSeq (dAsg (dOp fMod (dCB fInt (dCons (dOp fIx (dVar 0) (dC (.str "rest"))) (dNil))) (dVar 1)) (gdName 2)) (dSeq (dAsg (dOp fDiv (dOp fIx (dVar 0) (dC (.str "rest"))) (dVar 1)) (gdSub (dVar 0) (dC (.str "rest")))) (dRet (dVar 2))))
def F__law_take : FD := bodyF 3 u__law_take
def u__law_pick : SD := dRet (dOp fIx (dVar 1) (dCall 2 F__law_take (dCons (dVar 0) (dCons (dCB fLen (dCons (dVar 1) (dNil))) (dNil)))))
def F__law_pick : FD := bodyF 2 u__law_pick
section
variable {r w n : Nat} {ws cs : List Int} {x t : Int} {h : CH}
abbrev mixBody : SD := dAsg (dOp fMod (dCB fInt (dCons (dOp (fAdd false) (dOp (fAdd false) (dOp (fMul false) (dVar 4) (dC (.int 48271))) (dVar 5)) (dVar 1)) (dNil))) (dVar 3)) (gdName 4)
theorem mix_in {d0 f : D} {tn p : Int} (hp : 0 < p) : ∀ (cs : List Int) (b : Int) (y : Option D), ∃ (b' : Int) (y' : Option D), dForL (gdName 5) mixBody (cs.map D.int) [some d0, some (.int tn), some f, some (.int p), some (.int b), y] h = .nx [some d0, some (.int tn), some f, some (.int p), some (.int b'), y'] h ∧ ((cs = [] ∧ b' = b) ∨ (0 ≤ b' ∧ b' < p))
  | [], b, y => ⟨b, y, rfl, .inl ⟨rfl, rfl⟩⟩
  | c :: cs, b, y => by
    obtain ⟨b', y', e, q⟩ := mix_in hp cs ((b * 48271 + c + tn) % p) (some (.int c))
    refine ⟨b', y', ?_, .inr ?_⟩
    · have cm : CMul b 48271 := .inr ⟨by decide, by decide⟩
      simp only [List.map_cons, dForL]
      simp [fMul, fAdd, fInt, fMod, hp, cm]
      exact e
    · rcases q with ⟨_, rfl⟩ | q
      · exact ⟨Int.emod_nonneg _ (by omega), Int.emod_lt_of_pos _ hp⟩
      · exact q
theorem ix_dr {k : Key} {d : D} {kd : D} (hk : keyD kd = some k) (e : h.ob r = some (.dct (drKvs w cs x t))) (g : dGet (drKvs w cs x t) k = some d) (ni : ∀ i, kd ≠ .int i) : fIx (.ref r) kd h = .ok d h := by
  cases kd with
  | str z => cases hk; simp [fIx, seqOf, dctOf, e, keyD, g]
  | _ => first | (cases hk; done) | exact absurd rfl (ni _)
abbrev outBody : SD := dSeq (dAsg (dOp (fAdd false) (dOp (fMul false) (dC (.int 61441)) (dVar 1)) (dOp fDiv (dVar 3) (dC (.int 19)))) (gdName 4)) (dSeq (dFor (dSeqI (dOp fIx (dVar 0) (dC (.str "cells")))) (gdName 5) mixBody) (dAsg (dOp (fAdd false) (dOp (fMul false) (dVar 2) (dC (.int 2147483647))) (dOp fMod (dCB fInt (dCons (dOp fPow (dVar 4) (dC (.int 5))) (dNil))) (dVar 3))) (gdName 2)))
theorem mix_one {f p tn : Int} {y4 y5 : Option D} (e : h.ob r = some (.dct (drKvs w cs x t))) (hp : 0 < p) (hp2 : p < 2147483648) (h1 : 0 ≤ tn) (h2 : tn ≤ 1000000000) :
    ∃ (f' : Int) (y4' y5' : Option D), outBody [some (.ref r), some (.int tn), some (.int f), some (.int p), y4, y5] h = .nx [some (.ref r), some (.int tn), some (.int f'), some (.int p), y4', y5'] h := by
  obtain ⟨b', y', ei, q⟩ := mix_in (h := h) (d0 := .ref r) (f := .int f) (tn := tn) hp cs (61441 * tn + p / 19) y5
  have c1 : CMul 61441 tn := .inl ⟨by decide, by decide⟩
  have c2 : CDiv p 19 := ⟨by decide, by decide⟩
  have c3 : CMul f 2147483647 := .inr ⟨by decide, by decide⟩
  have c4 : CPow b' 5 := by
    refine ⟨by decide, by decide, ?_⟩
    rcases q with ⟨_, rfl⟩ | q <;> omega
  have ic := ix_dr (kd := .str "cells") rfl e dr_cells (fun i => by simp)
  refine ⟨f * 2147483647 + b' ^ (5 : Int).toNat % p, some (.int b'), y', ?_⟩
  simp [outBody, c1, c2, fMul, fAdd, fDiv, ic, itemsD]
  rw [ei]
  simp [c3, c4, fMul, fAdd, fPow, fInt, fMod, hp]
theorem mixed_ok (A : DrawAt r w (n + 1) ws cs x t h) : ∃ v : Int, F__law_mixed [.ref r] h = .ok (.int v) (h.put r (.dct (drKvs w cs x (t + 1)))) := by
  have it := ix_dr (kd := .str "turn") rfl A.or_ dr_turn (fun i => by simp)
  have tn := A.tn
  have t0 := A.t0
  have e1 : (h.put r (.dct (drKvs w cs x (t + 1)))).ob r = some (.dct (drKvs w cs x (t + 1))) := put_same
  obtain ⟨f1, y1, z1, q1⟩ := mix_one (f := 0) (p := 2147483629) (tn := t + 1) (y4 := none) (y5 := none) e1 (by decide) (by decide) (by omega) (by omega)
  obtain ⟨f2, y2, z2, q2⟩ := mix_one (f := f1) (p := 2147483587) (tn := t + 1) (y4 := y1) (y5 := z1) e1 (by decide) (by decide) (by omega) (by omega)
  obtain ⟨f3, y3, z3, q3⟩ := mix_one (f := f2) (p := 2147483579) (tn := t + 1) (y4 := y2) (y5 := z2) e1 (by decide) (by decide) (by omega) (by omega)
  obtain ⟨f4, y4, z4, q4⟩ := mix_one (f := f3) (p := 2147483563) (tn := t + 1) (y4 := y3) (y5 := z3) e1 (by decide) (by decide) (by omega) (by omega)
  refine ⟨f4, ?_⟩
  have kl : (drKvs w cs x t).length < sizeLine := by show 4 < sizeLine; decide
  have l4 : 4 ≤ sizeLine := by decide
  have L : dForL (gdName 3) outBody [.int 2147483629, .int 2147483587, .int 2147483579, .int 2147483563] [some (.ref r), some (.int (t + 1)), some (.int 0), none, none, none] (h.put r (.dct (drKvs w cs x (t + 1)))) = .nx [some (.ref r), some (.int (t + 1)), some (.int f4), some (.int 2147483563), y4, z4] (h.put r (.dct (drKvs w cs x (t + 1)))) := by
    simp only [dForL, g_name, put_ok, List.set_cons_zero, List.set_cons_succ]
    rw [q1]
    simp only [List.set_cons_zero, List.set_cons_succ]
    rw [q2]
    simp only [List.set_cons_zero, List.set_cons_succ]
    rw [q3]
    simp only [List.set_cons_zero, List.set_cons_succ]
    rw [q4]
  simp only [F__law_mixed, bodyF, startD, u__law_mixed]
  simp [it, fAdd, gdSub, refOf, A.or_, keyD, kl, dr_putT, mkL, itemsD, l4]
  rw [L]
  simp
theorem toP_ints {k : Nat} : ∀ ns : List Int, (ns.map D.int).mapM (toP h (k + 1)) = some (ns.map PyData.int)
  | [] => rfl
  | n :: ns => by
    rw [List.map_cons, List.mapM_cons, toP_ints ns]
    rfl
theorem toP_ref {k n : Nat} {xs : List D} (e : h.ob k = some (.lst xs)) : toP h (n + 1) (.ref k) = (xs.mapM (toP h n)).map .list := by simp only [toP, e]
theorem lay_ints : ∀ ns : List Int, PyData.canLayAll0 (ns.map PyData.int) = true
  | [] => rfl
  | n :: ns => by simp only [List.map_cons, PyData.canLayAll0, PyData.canLay0, lay_ints ns, Bool.and_self]
theorem dep_ints : ∀ ns : List Int, PyData.depthAll (ns.map PyData.int) = 0
  | [] => rfl
  | n :: ns => by simp only [List.map_cons, PyData.depthAll, PyData.depth, dep_ints ns]; rfl
theorem shaped_ints (ns : List Int) : SeqAt.shaped (.list (ns.map PyData.int)) = true := by
  simp only [SeqAt.shaped, PyData.canLay0, lay_ints, PyData.depth, dep_ints, Bool.true_and]
  decide
/-- a list of ints against the empty one -/
theorem ne_nil_ints {k : Nat} (e : h.ob k = some (.lst (ws.map D.int))) : fEq true (.ref k) (.lst []) h = .ok (.bl (!ws.isEmpty)) h := by
  have e1 : toP h 10 (.ref k) = some (.list (ws.map PyData.int)) := by
    rw [toP_ref (n := 9) e, toP_ints (h := h) (k := 8) ws]
    rfl
  have e2 : toP h 10 (.lst []) = some (.list []) := rfl
  have e3 : SeqAt.shaped (.list []) = true := shaped_ints []
  have e4 : PyData.eqv (.list (ws.map PyData.int)) (.list []) = ws.isEmpty := by
    cases ws with
    | nil => rfl
    | cons a l => rfl
  have e5 : scalD (.ref k) (.lst []) = false := rfl
  unfold fEq
  rw [e5, e1, e2]
  simp [shaped_ints, e3, e4, bneg]
theorem eq0_int {i j : Int} : fEq false (.int i) (.int j) h = .ok (.bl (i == j)) h := by simp [fEq, scalD, flatD, eqF, bneg]
/-- only the draws change -/
def DrFr (r w : Nat) (h h' : CH) : Prop := h'.nx = h.nx ∧ ∀ k, k ≠ r → k ≠ w → h'.ob k = h.ob k
theorem DrFr.refl : DrFr r w h h := ⟨rfl, fun _ _ _ => rfl⟩
theorem DrFr.trans {h1 h2 : CH} (a : DrFr r w h h1) (b : DrFr r w h1 h2) : DrFr r w h h2 := ⟨b.1.trans a.1, fun k n m => (b.2 k n m).trans (a.2 k n m)⟩
theorem DrFr.putR {o : MO} : DrFr r w h (h.put r o) := ⟨rfl, fun k n _ => put_ne n⟩
theorem DrFr.putW {o : MO} : DrFr r w h (h.put w o) := ⟨rfl, fun k _ n => put_ne n⟩
theorem DrawAt.setR {x' t' : Int} {m : Nat} (A : DrawAt r w n ws cs x t h) (t0 : 0 ≤ t') (tn : t' + (m : Int) ≤ 1000000000) : DrawAt r w m ws cs x' t' (h.put r (.dct (drKvs w cs x' t'))) :=
  ⟨put_same, by rw [put_ne A.ne.symm]; exact A.ow, A.ne, A.lr, A.lw, A.cs_, A.lws, A.lcs, t0, tn⟩
/-- the rest is there -/
theorem take_first (A : DrawAt r w (n + 1) ws cs x t h) {s : Int} : ∃ (ws' : List Int) (x' t' : Int) (h' : CH), (dIfS (dB (dOp (fEq false) (dOp fIx (dVar 0) (dC (.str "rest"))) (dC (.int 0)))) (dAsg (dIf (dB (dOp (fEq true) (dOp fIx (dVar 0) (dC (.str "wide"))) (dLst false (dNil)))) (dBM "list" fPopAt (dOp fIx (dVar 0) (dC (.str "wide"))) (dCons (dC (.int 0)) (dNil))) (dCall 1 F__law_mixed (dCons (dVar 0) (dNil)))) (gdSub (dVar 0) (dC (.str "rest")))) (dNext)) [some (.ref r), some (.int s), none] h = .nx [some (.ref r), some (.int s), none] h' ∧ DrawAt r w n ws' cs x' t' h' ∧ DrFr r w h h' := by
  have ir := ix_dr (kd := .str "rest") rfl A.or_ dr_rest (fun i => by simp)
  have iw := ix_dr (kd := .str "wide") rfl A.or_ dr_wide (fun i => by simp)
  have kl : ∀ y z, (drKvs w cs y z).length < sizeLine := fun y z => by show 4 < sizeLine; decide
  have A1 : DrawAt r w n ws cs x t h := ⟨A.or_, A.ow, A.ne, A.lr, A.lw, A.cs_, A.lws, A.lcs, A.t0, by have := A.tn; omega⟩
  by_cases hx : x = 0
  · cases ws with
    | nil =>
      obtain ⟨v, ev⟩ := mixed_ok A
      have A2 : DrawAt r w n [] cs x (t + 1) (h.put r (.dct (drKvs w cs x (t + 1)))) := A.setR (by have := A.t0; omega) (by have := A.tn; omega)
      refine ⟨[], v, t + 1, _, ?_, A2.setR A2.t0 A2.tn, DrFr.putR.trans DrFr.putR⟩
      simp [ir, iw, eq0_int, hx, ne_nil_ints A.ow, mkL]
      have ev' := ev
      rw [hx] at ev'
      rw [ev']
      simp [gdSub, refOf, keyD, put_same, kl, dr_putR]
    | cons a ws =>
      have e1 : h.ob w = some (.lst (D.int a :: ws.map D.int)) := A.ow
      have ne := A.ne
      have o1 : (h.put w (.lst (ws.map D.int))).ob r = some (.dct (drKvs w cs x t)) := by rw [put_ne ne]; exact A.or_
      refine ⟨ws, a, t, (h.put w (.lst (ws.map D.int))).put r (.dct (drKvs w cs a t)), ?_, ⟨put_same, by rw [put_ne ne.symm]; exact put_same, ne, A.lr, A.lw, A.cs_, Nat.le_of_succ_le A.lws, A.lcs, A.t0, A1.tn⟩, DrFr.putW.trans DrFr.putR⟩
      have si : seqIndex? 0 (ws.length + 1) = some 0 := by simp [seqIndex?]
      simp [ir, iw, eq0_int, hx, ne_nil_ints A.ow, mkL, isTy, lstOf, fPopAt, e1, si]
      rw [hx] at o1
      simp [gdSub, refOf, keyD, o1, kl, dr_putR]
  · refine ⟨ws, x, t, h, ?_, A1, .refl⟩
    simp [ir, eq0_int, hx]
theorem take_ok (A : DrawOk r w (n + 1) h) {s : Int} (hs : 0 < s) (hs2 : s < 1073741824) : ∃ (v : Int) (h' : CH), F__law_take [.ref r, .int s] h = .ok (.int v) h' ∧ 0 ≤ v ∧ v < s ∧ DrawOk r w n h' ∧ DrFr r w h h' := by
  obtain ⟨ws, cs, x, t, A⟩ := A
  obtain ⟨ws', x', t', h1, e1, A1, f1⟩ := take_first A (s := s)
  have ir := ix_dr (kd := .str "rest") rfl A1.or_ dr_rest (fun i => by simp)
  have kl : ∀ y z, (drKvs w cs y z).length < sizeLine := fun y z => by show 4 < sizeLine; decide
  have cd : CDiv x' s := ⟨hs, hs2⟩
  refine ⟨x' % s, h1.put r (.dct (drKvs w cs (x' / s) t')), ?_, Int.emod_nonneg _ (by omega), Int.emod_lt_of_pos _ hs, ⟨ws', cs, _, t', A1.setR A1.t0 A1.tn⟩, f1.trans DrFr.putR⟩
  simp only [F__law_take, bodyF, startD, u__law_take]
  rw [s_seq]
  show ((_ : RS).bind _).res = _
  simp only [List.map_cons, List.map_nil, List.length_cons, List.length_nil, List.cons_append, List.nil_append]
  show (((dIfS _ _ _) [some (D.ref r), some (D.int s), none] h).bind _).res = _
  rw [e1]
  simp [ir, fInt, fMod, hs, fDiv, cd, gdSub, refOf, A1.or_, keyD, kl, dr_putR]
theorem pick_ok (A : DrawOk r w (n + 1) h) {xs : D} {ds : List D} (e : xs = .lst ds ∨ xs = .tup ds) (h0 : ds ≠ []) (h1 : ds.length < 1073741824) : ∃ (d : D) (h' : CH), F__law_pick [.ref r, xs] h = .ok d h' ∧ d ∈ ds ∧ DrawOk r w n h' ∧ DrFr r w h h' := by
  have hp : 0 < ds.length := List.length_pos_iff.mpr h0
  obtain ⟨v, h', e1, l1, l2, A', f⟩ := take_ok A (s := (ds.length : Int)) (by omega) (by omega)
  have sq : ∀ hh, seqOf hh xs = some ds := fun hh => by rcases e with rfl | rfl <;> rfl
  have hv : v.toNat < ds.length := by omega
  have ai : atI ds v = some ds[v.toNat] := by
    have : ixN ds.length v = some v.toNat := by
      unfold ixN
      rw [if_pos (by omega), if_pos l2]
    unfold atI
    rw [this]
    exact List.getElem?_eq_getElem hv
  refine ⟨ds[v.toNat], h', ?_, List.getElem_mem hv, A', f⟩
  have len : fLen [xs] h = .ok (.int ds.length) h := by
    rcases e with rfl | rfl <;> rfl
  have ix : fIx xs (.int v) h' = .ok ds[v.toNat] h' := by
    rcases e with rfl | rfl <;> simp [fIx, seqOf, ai]
  simp [F__law_pick, bodyF, startD, u__law_pick, len, e1, ix]
theorem b1_loop {a : D} : ∀ ns : List Int, ∃ ws : List Int, ws.length ≤ ns.length ∧ dLcL (gdName 2) (dB (dOp (fB fun i j => decide (i ≥ j)) (dCB fAbs (dCons (dVar 2) (dNil))) (dOp fPow (dC (.int 10)) (dC (.int 18))))) (dOp fSubI (dCB fAbs (dCons (dVar 2) (dNil))) (dOp fPow (dC (.int 10)) (dC (.int 18)))) [some a, none, none] (ns.map D.int) h = .ok (ws.map D.int) h
  | [] => ⟨[], Nat.le_refl _, rfl⟩
  | c :: ns => by
    obtain ⟨ws, l, e⟩ := b1_loop ns
    have cp : CPow 10 18 := by decide
    by_cases q : (if c < 0 then -c else c) ≥ 10 ^ (18 : Int).toNat
    · refine ⟨((if c < 0 then -c else c) - 10 ^ (18 : Int).toNat) :: ws, by simp; exact l, ?_⟩
      simp only [List.map_cons, dLcL]
      simp only [g_name, calm_ok, e_B, e_op, e_CB, e_cons, e_var, e_nil, e_C, List.set_cons_zero, List.set_cons_succ, List.getElem?_cons_zero, List.getElem?_cons_succ, bind_ok, fAbs, fPow, fB, if_pos cp, asB_bl, decide_eq_true q, if_true, fSubI]
      rw [e]
      rfl
    · refine ⟨ws, Nat.le_succ_of_le l, ?_⟩
      simp only [List.map_cons, dLcL]
      simp only [g_name, calm_ok, e_B, e_op, e_CB, e_cons, e_var, e_nil, e_C, List.set_cons_zero, List.set_cons_succ, List.getElem?_cons_zero, List.getElem?_cons_succ, bind_ok, fAbs, fPow, fB, if_pos cp, asB_bl, decide_eq_false q, Bool.false_eq_true, if_false]
      exact e
theorem b2_loop {a b : D} : ∀ ns : List Int, ∃ cs : List Int, cs.length = ns.length ∧ (∀ c, c ∈ cs → 0 ≤ c ∧ c < 2147483629) ∧ dLcL (gdName 2) dYes (dOp fMod (dCB fInt (dCons (dCB fAbs (dCons (dVar 2) (dNil))) (dNil))) (dC (.int 2147483629))) [some a, some b, none] (ns.map D.int) h = .ok (cs.map D.int) h
  | [] => ⟨[], rfl, fun _ h => (nomatch h), rfl⟩
  | c :: ns => by
    obtain ⟨cs, l, hc, e⟩ := b2_loop ns
    refine ⟨((if c < 0 then -c else c) % 2147483629) :: cs, by simp [l], fun y hy => ?_, ?_⟩
    · rcases List.mem_cons.mp hy with rfl | hy
      · exact ⟨Int.emod_nonneg _ (by decide), Int.emod_lt_of_pos _ (by decide)⟩
      · exact hc y hy
    · simp only [List.map_cons, dLcL, dYes]
      simp only [g_name, calm_ok, e_op, e_CB, e_cons, e_var, e_nil, e_C, List.set_cons_zero, List.set_cons_succ, List.getElem?_cons_zero, List.getElem?_cons_succ, bind_ok, fAbs, fInt, fMod, if_true, show ((0 : Int) < 2147483629) from by decide]
      rw [e]
      rfl
theorem begun_ok {ns : List Int} (hn : ns.length ≤ 63) : ∃ h', F__law_begun [.scr ns] h = .ok (.ref (h.nx + 1)) h' ∧ DrawOk (h.nx + 1) h.nx 1000000000 h' ∧ h'.nx = h.nx + 2 ∧ ∀ k, k < h.nx → h'.ob k = h.ob k := by
  obtain ⟨ws, lw, e1⟩ := b1_loop (h := h) (a := .scr ns) ns
  obtain ⟨cs, lc, hc, e2⟩ := b2_loop (h := h.new (.lst (ws.map D.int))) (a := .scr ns) (b := .ref h.nx) ns
  have sz : ns.length ≤ sizeLine := Nat.le_trans hn (by decide)
  refine ⟨(h.new (.lst (ws.map D.int))).new (.dct (drKvs h.nx cs 0 0)), ?_, ⟨ws, cs, 0, 0, ?_, ?_, by omega, by show h.nx + 1 < h.nx + 2; omega, by show h.nx < h.nx + 2; omega, hc, by omega, by omega, by decide, by decide⟩, rfl, fun k hk => ?_⟩
  · simp only [F__law_begun, bodyF, startD, u__law_begun]
    have i1 : itemsD h (.scr ns) = some (ns.map D.int) := rfl
    have i2 : itemsD (h.new (.lst (ws.map D.int))) (.scr ns) = some (ns.map D.int) := rfl
    have me : mergeD [] (drKvs h.nx cs 0 0) = drKvs h.nx cs 0 0 := by simp [mergeD, dPut, drKvs, s_wc, s_wr, s_wt, s_cr, s_ct, s_rt]
    simp only [List.map_cons, List.map_nil, List.length_cons, List.length_nil, List.cons_append, List.nil_append, s_seq, s_asg, dLc, e_seqI, e_var, List.getElem?_cons_zero, bind_ok, i1, List.length_map, if_pos sz, wipeD, List.replicate, List.set_cons_zero, List.set_cons_succ, e1, runl_none, mkL, toS_ok, g_name, put_ok, sbind_nx, s_ret, dDisp, dPairs, e_C, List.getElem?_cons_succ, i2, e2, keysOf, keyD]
    show ((if 4 ≤ 15 then mkD true (mergeD [] (drKvs h.nx cs 0 0)) _ else R.no).toS _ _).res = _
    rw [me]
    rfl
  · show (if h.nx + 1 = h.nx + 1 then _ else _) = _
    rw [if_pos rfl]
  · show (if h.nx = h.nx + 1 then _ else (if h.nx = h.nx then _ else _)) = _
    rw [if_neg (by omega), if_pos rfl]
  · show (if k = h.nx + 1 then _ else (if k = h.nx then _ else _)) = _
    rw [if_neg (by omega), if_neg (by omega)]
end
end CM
namespace CM
open PySem PySem.Spec PyProof.Rows L2
def R.sat {α : Type} (r : R α) (Q : α → CH → Prop) : Prop := match r with
  | .ok a h => Q a h
  | _ => False
/-- a statement goes on by N or returns by T -/
def RS.sat (r : RS) (N : DE → CH → Prop) (T : D → CH → Prop) : Prop := match r with
  | .nx ρ h => N ρ h
  | .rt d h => T d h
  | _ => False
/-- what comes behind a statement -/
def Kont (w : SD) (N : DE → CH → Prop) (T : D → CH → Prop) (ρ : DE) (h : CH) : Prop := (w ρ h).sat N T
section
variable {α β : Type} {a : α} {h : CH} {m : R α} {f : α → CH → R β} {g : α → CH → RS} {ρ : DE} {w u : SD} {d : D} {Q : β → CH → Prop} {P P' : α → CH → Prop} {N : DE → CH → Prop} {T : D → CH → Prop} {r : RS}
@[simp] theorem sat_ok : (R.ok a h).sat P = P a h := rfl
@[simp] theorem sat_no : (R.no : R α).sat P = False := rfl
@[simp] theorem sat_bind : (m.bind f).sat Q = m.sat fun a h => (f a h).sat Q := by cases m <;> rfl
@[simp] theorem sat_calm : (m.calm f).sat Q = m.sat fun a h => (f a h).sat Q := by cases m <;> rfl
@[simp] theorem sat_toS : (m.toS ρ g).sat N T = m.sat fun a h => (g a h).sat N T := by cases m <;> rfl
@[simp] theorem sat_put {m : R DE} : (m.put w).sat N T = m.sat fun ρ h => (w ρ h).sat N T := by cases m <;> rfl
@[simp] theorem sat_ite {c : Prop} [Decidable c] {m m' : R α} : (if c then m else m').sat P = if c then m.sat P else m'.sat P := by split <;> rfl
@[simp] theorem sat_iteS {c : Prop} [Decidable c] {r' : RS} : (if c then r else r').sat N T = if c then r.sat N T else r'.sat N T := by split <;> rfl
@[simp] theorem sat_nx : (RS.nx ρ h).sat N T = N ρ h := rfl
@[simp] theorem sat_rt : (RS.rt d h).sat N T = T d h := rfl
@[simp] theorem sat_noS : (RS.no).sat N T = False := rfl
@[simp] theorem sat_bindS : (r.bind w).sat N T = r.sat (Kont w N T) T := by cases r <;> rfl
@[simp] theorem sat_res {Q : D → CH → Prop} : r.res.sat Q = r.sat (fun _ h => Q .non h) Q := by cases r <;> rfl
@[simp] theorem sat_unl : (r.unl none).sat N T = r.sat N T := by rw [unl_none]
@[simp] theorem sat_unlR : (m.unl none).sat P = m.sat P := by rw [runl_none]
theorem R.sat.mono (x : m.sat P) (k : ∀ a h, P a h → P' a h) : m.sat P' := by
  cases m with
  | ok a h => exact k a h x
  | ex => exact x.elim
  | no => exact x.elim
theorem R.sat.ex (x : m.sat P) : ∃ a h, m = .ok a h ∧ P a h := by
  cases m with
  | ok a h => exact ⟨a, h, rfl, x⟩
  | ex => exact x.elim
  | no => exact x.elim
theorem sat_of {a : α} {h : CH} (e : m = .ok a h) (p : P a h) : m.sat P := by rw [e]; exact p
theorem RS.sat.mono {N' : DE → CH → Prop} {T' : D → CH → Prop} (x : r.sat N T) (k : ∀ ρ h, N ρ h → N' ρ h) (k' : ∀ d h, T d h → T' d h) : r.sat N' T' := by
  cases r with
  | nx => exact k _ _ x
  | rt => exact k' _ _ x
  | _ => exact x.elim
/-- for: an invariant of the items that are left -/
theorem sat_for {tg : TGD} (I : List D → DE → CH → Prop) (step : ∀ d r ρ h, I (d :: r) ρ h → (tg d ρ h).sat fun ρ h => (u ρ h).sat (I r) T) : ∀ {ds : List D} {ρ : DE} {h : CH}, I ds ρ h → (∀ ρ h, I [] ρ h → N ρ h) → (dForL tg u ds ρ h).sat N T
  | [], ρ, h, i, k => k ρ h i
  | d :: r, ρ, h, i, k => by
    obtain ⟨ρ1, h1, e1, x⟩ := (step d r ρ h i).ex
    show ((tg d ρ h).put _).sat N T
    rw [sat_put, e1]
    show (match u ρ1 h1 with
      | .nx ρ2 h2 => dForL tg u r ρ2 h2
      | .ct ρ2 h2 => dForL tg u r ρ2 h2
      | .bk ρ2 h2 => .nx ρ2 h2
      | x => x).sat N T
    cases e : u ρ1 h1 with
    | nx ρ2 h2 => rw [e] at x; exact sat_for I step x k
    | rt d2 h2 => rw [e] at x; exact x
    | _ => rw [e] at x; exact x.elim
/-- while: an invariant with a measure -/
theorem sat_while {c : TB} (I : Nat → DE → CH → Prop) (step : ∀ n ρ h, I n ρ h → (c ρ h).sat fun b h1 => if b = true then ∃ n', n = n' + 1 ∧ (u ρ h1).sat (I n') T else N ρ h1) : ∀ {n k : Nat} {ρ : DE} {h : CH}, n < k → I n ρ h → (dWhile c u k ρ h).sat N T
  | n, 0, ρ, h, l, i => absurd l (Nat.not_lt_zero _)
  | n, k + 1, ρ, h, l, i => by
    obtain ⟨b, h1, e1, x⟩ := (step n ρ h i).ex
    show ((c ρ h).toS ρ _).sat N T
    rw [sat_toS, e1]
    cases b with
    | false => exact x
    | true =>
      obtain ⟨n', rfl, x⟩ := x
      show (match u ρ h1 with
        | .nx ρ2 h2 => dWhile c u k ρ2 h2
        | .ct ρ2 h2 => dWhile c u k ρ2 h2
        | .bk ρ2 h2 => .nx ρ2 h2
        | x => x).sat N T
      cases e : u ρ h1 with
      | nx ρ2 h2 => rw [e] at x; exact sat_while I step (by omega) x
      | rt d2 h2 => rw [e] at x; exact x
      | _ => rw [e] at x; exact x.elim
/-- a comprehension: what was made so far and what is left -/
theorem sat_lcl {tg : TGD} {tt : TB} {te : TD} {ρ0 : DE} {Q : List D → CH → Prop} (I : List D → List D → CH → Prop) (step : ∀ d r ys h, I (d :: r) ys h → (tg d ρ0 h).sat fun ρ2 h => (tt ρ2 h).sat fun b h => if b = true then (te ρ2 h).sat fun y h => I r (ys ++ [y]) h else I r ys h) :
    ∀ {ds ys : List D} {h : CH}, I ds ys h → (∀ zs h, I [] zs h → ∀ l, zs = ys ++ l → Q l h) → (dLcL tg tt te ρ0 ds h).sat Q
  | [], ys, h, i, k => k ys h i [] (by simp)
  | d :: r, ys, h, i, k => by
    have st := step d r ys h i
    obtain ⟨ρ2, h1, e1, st⟩ := st.ex
    obtain ⟨b, h2, e2, st⟩ := st.ex
    show ((tg d ρ0 h).calm _).sat Q
    rw [sat_calm, e1]
    show ((tt ρ2 h1).calm _).sat Q
    rw [sat_calm, e2]
    cases b with
    | true =>
      obtain ⟨y, h3, e3, st⟩ := R.sat.ex (show (te ρ2 h2).sat _ from st)
      show (if true = true then (te ρ2 h2).calm _ else _ : R (List D)).sat Q
      rw [if_pos rfl, sat_calm, e3]
      show ((dLcL tg tt te ρ0 r h3).bind _).sat Q
      rw [sat_bind]
      exact sat_lcl I step st fun zs h i l e => k zs h i (y :: l) (by rw [e]; simp)
    | false =>
      show (if false = true then _ else dLcL tg tt te ρ0 r h2 : R (List D)).sat Q
      rw [if_neg Bool.false_ne_true]
      exact sat_lcl I step st k
end
section
variable {r w n m : Nat} {h h1 : CH}
theorem DrawOk.mono (A : DrawOk r w n h) (l : m ≤ n) : DrawOk r w m h := by
  obtain ⟨ws, cs, x, t, A⟩ := A
  exact ⟨ws, cs, x, t, A.or_, A.ow, A.ne, A.lr, A.lw, A.cs_, A.lws, A.lcs, A.t0, by have := A.tn; omega⟩
/-- the draws are not touched -/
theorem DrawOk.keep (A : DrawOk r w n h) (nx : h.nx ≤ h1.nx) (k : ∀ j, j = r ∨ j = w → h1.ob j = h.ob j) : DrawOk r w n h1 := by
  obtain ⟨ws, cs, x, t, A⟩ := A
  exact ⟨ws, cs, x, t, by rw [k r (.inl rfl)]; exact A.or_, by rw [k w (.inr rfl)]; exact A.ow, A.ne, Nat.lt_of_lt_of_le A.lr nx, Nat.lt_of_lt_of_le A.lw nx, A.cs_, A.lws, A.lcs, A.t0, A.tn⟩
theorem DrawOk.lt (A : DrawOk r w n h) : r < h.nx ∧ w < h.nx := by
  obtain ⟨ws, cs, x, t, A⟩ := A
  exact ⟨A.lr, A.lw⟩
theorem take_sat (A : DrawOk r w (n + 1) h) {s : Int} (hs : 0 < s) (hs2 : s < 1073741824) : (F__law_take [.ref r, .int s] h).sat fun d h1 => ∃ v, d = .int v ∧ 0 ≤ v ∧ v < s ∧ DrawOk r w n h1 ∧ DrFr r w h h1 := by
  obtain ⟨v, h1, e, p⟩ := take_ok A hs hs2
  exact sat_of e ⟨v, rfl, p⟩
theorem pick_sat (A : DrawOk r w (n + 1) h) {xs : D} {ds : List D} (e : xs = .lst ds ∨ xs = .tup ds) (h0 : ds ≠ []) (h1 : ds.length < 1073741824) : (F__law_pick [.ref r, xs] h).sat fun d h1 => d ∈ ds ∧ DrawOk r w n h1 ∧ DrFr r w h h1 := by
  obtain ⟨d, h1, e, p⟩ := pick_ok A e h0 h1
  exact sat_of e p
end
end CM
namespace CM
open PySem PySem.Spec PyProof.Rows L2
section
variable {h : CH}
theorem toP_strs {k : Nat} : ∀ ns : List Str, (ns.map D.str).mapM (toP h (k + 1)) = some (ns.map PyData.str)
  | [] => rfl
  | n :: ns => by
    rw [List.map_cons, List.mapM_cons, toP_strs ns]
    rfl
abbrev Layd (ns : List Str) : Prop := ∀ x, x ∈ ns → PyData.strOk x = true
theorem lay_strs : ∀ ns : List Str, Layd ns → PyData.canLayAll0 (ns.map PyData.str) = true
  | [], _ => rfl
  | n :: ns, ok => by simp only [List.map_cons, PyData.canLayAll0, PyData.canLay0, ok n (List.mem_cons_self ..), lay_strs ns fun x hx => ok x (List.mem_cons_of_mem _ hx), Bool.and_self]
theorem dep_strs : ∀ ns : List Str, PyData.depthAll (ns.map PyData.str) = 0
  | [] => rfl
  | n :: ns => by simp only [List.map_cons, PyData.depthAll, PyData.depth, dep_strs ns]; rfl
theorem shaped_strs (ns : List Str) (ok : Layd ns) : SeqAt.shaped (.list (ns.map PyData.str)) = true := by
  simp only [SeqAt.shaped, PyData.canLay0, lay_strs ns ok, PyData.depth, dep_strs, Bool.true_and]
  decide
theorem shapedT_strs (ns : List Str) (ok : Layd ns) : SeqAt.shaped (.tuple (ns.map PyData.str)) = true := by
  simp only [SeqAt.shaped, PyData.canLay0, lay_strs ns ok, PyData.depth, dep_strs, Bool.true_and]
  decide
/-- a list of texts against the empty one -/
theorem ne_nil_strs {k : Nat} {ws : List Str} (ok : Layd ws) (e : h.ob k = some (.lst (ws.map D.str))) : fEq true (.ref k) (.lst []) h = .ok (.bl (!ws.isEmpty)) h := by
  have e1 : toP h 10 (.ref k) = some (.list (ws.map PyData.str)) := by
    rw [toP_ref (n := 9) e, toP_strs (h := h) (k := 8) ws]
    rfl
  have e2 : toP h 10 (.lst []) = some (.list []) := rfl
  have e3 : SeqAt.shaped (.list []) = true := shaped_strs [] fun x hx => (nomatch hx)
  have e4 : PyData.eqv (.list (ws.map PyData.str)) (.list []) = ws.isEmpty := by
    cases ws with
    | nil => rfl
    | cons a l => rfl
  have e5 : scalD (.ref k) (.lst []) = false := rfl
  unfold fEq
  rw [e5, e1, e2]
  simp [shaped_strs ws ok, e3, e4, bneg]
end
end CM
namespace CM
open PySem PySem.Spec PyProof.Rows L2
abbrev stL (l : List Str) : List D := l.map D.str
/-- a list (named or free) or a tuple of these texts -/
def SeqS (h : CH) (X : D) (l : List Str) : Prop := (∃ k, X = .ref k ∧ h.ob k = some (.lst (stL l))) ∨ X = .lst (stL l) ∨ X = .tup (stL l)
section
variable {h : CH} {X : D} {l ws : List Str}
theorem SeqS.seq (s : SeqS h X l) : seqOf h X = some (stL l) := by
  rcases s with ⟨k, rfl, e⟩ | rfl | rfl
  · simp only [seqOf, e]
  · rfl
  · rfl
theorem strsOf_st : ∀ l : List Str, strsOf (stL l) = some l
  | [] => rfl
  | x :: l => by
    show (match strsOf (stL l) with | some is => some (x :: is) | none => none) = _
    rw [strsOf_st l]
theorem ded_app : ∀ (l acc : List Str), (acc ++ l).Nodup → l.foldl (fun acc x => if x ∈ acc then acc else acc ++ [x]) acc = acc ++ l
  | [], acc, _ => by simp
  | x :: l, acc, nd => by
    have nx : x ∉ acc := fun z => by
      rw [List.nodup_append] at nd
      exact nd.2.2 x z x (List.mem_cons_self ..) rfl
    rw [List.foldl_cons, if_neg nx, ded_app l (acc ++ [x]) (by simpa using nd)]
    simp
theorem ded_nodup (nd : l.Nodup) : ded l = l := by
  have := ded_app l [] (by simpa using nd)
  simpa [ded] using this
theorem fLenS_ok (s : SeqS h X l) (nd : l.Nodup) (hl : l.length < 1000) : fLenS X h = .ok (.int l.length) h := by
  unfold fLenS
  rw [s.seq]
  simp only [strsOf_st]
  rw [if_pos hl, ded_nodup nd]
theorem fLen_ok (s : SeqS h X l) : fLen [X] h = .ok (.int l.length) h := by
  have e := s.seq
  rcases s with ⟨k, rfl, _⟩ | rfl | rfl
  · simp [fLen, e]
  · simp [fLen, e]
  · simp [fLen, e]
theorem fSrt_ok (s : SeqS h X l) (hl : l.length < 64) : fSrt false [X] h = .ok (.lst (stL (sortS l))) h := by
  unfold fSrt
  simp only [s.seq]
  cases l with
  | nil => rfl
  | cons x l =>
    have e1 : intsOf (stL (x :: l)) = none := rfl
    simp only [e1, strsOf_st]
    rw [if_pos hl]
    rfl
theorem fIn_ok {x : Str} (m : x ∈ ws) {neg : Bool} : fIn neg (.str x) (.tup (stL ws)) h = .ok (.bl (bneg neg true)) h := by
  unfold fIn
  have e1 : seqOf h (.tup (stL ws)) = some (stL ws) := rfl
  have e2 : (stL ws).all flatD = true := by simp [flatD]
  have e3 : (stL ws).any (fun e => eqF e (.str x)) = true := by
    rw [List.any_eq_true]
    exact ⟨.str x, List.mem_map.mpr ⟨x, m, rfl⟩, by simp [eqF]⟩
  simp only [e1]
  rw [if_pos ⟨rfl, e2⟩, e3]
theorem CH.ext' {h h' : CH} (a : h.nx = h'.nx) (b : ∀ k, h.ob k = h'.ob k) : h = h' := by
  obtain ⟨n, o⟩ := h
  obtain ⟨n', o'⟩ := h'
  cases a
  have : o = o' := funext b
  rw [this]
theorem put_id {k : Nat} {o : MO} (e : h.ob k = some o) : h.put k o = h := CH.ext' rfl fun j => by
  by_cases z : j = k
  · subst z; rw [put_same, e]
  · rw [put_ne z]
theorem put_put {k : Nat} {o o' : MO} : (h.put k o).put k o' = h.put k o' := CH.ext' rfl fun j => by
  by_cases z : j = k
  · subst z; rw [put_same, put_same]
  · rw [put_ne z, put_ne z, put_ne z]
theorem sat_unlG {r : RS} {u : Unl} {N : DE → CH → Prop} {T : D → CH → Prop} : (r.unl u).sat N T = r.sat (fun ρ h => N ρ (unlH u h)) (fun d h => T d (unlH u h)) := by cases r <;> rfl
/-- a walk over such a sequence, whose body leaves the heap as it is -/
theorem sat_walk {tg : TGD} {u : SD} {N : DE → CH → Prop} {T : D → CH → Prop} {ta : TD} {ρ : DE} (s : SeqS h X l) (ea : ta ρ h = .ok X h) (I : List Str → DE → Prop) (i0 : I l ρ)
    (step : ∀ x r ρ h', I (x :: r) ρ → (tg (.str x) ρ h').sat fun ρ1 h1 => h1 = h' ∧ (u ρ1 h1).sat (fun ρ2 h2 => h2 = h' ∧ I r ρ2) (fun _ _ => False)) (fin : ∀ ρ, I [] ρ → N ρ h) : (dFor (dSeqI ta) tg u ρ h).sat N T := by
  have loop : ∀ (h' : CH), (dForL tg u (stL l) ρ h').sat (fun ρ' h2 => h2 = h' ∧ I [] ρ') (fun _ _ => False) := fun h' =>
    sat_for (I := fun rest ρ' h2 => h2 = h' ∧ ∃ r, rest = stL r ∧ I r ρ') (fun d r ρ1 h2 ⟨e, q, eq, i⟩ => by
      subst e
      cases q with
      | nil => cases eq
      | cons x q =>
        cases eq
        refine (step x q ρ1 h2 i).mono ?_
        rintro ρ2 h3 ⟨rfl, y⟩
        exact y.mono (fun ρ3 h4 ⟨e, i⟩ => ⟨e, q, rfl, i⟩) fun _ _ z => z.elim) ⟨rfl, l, rfl, i0⟩ fun ρ' h2 ⟨e, r, er, i⟩ => ⟨e, by
        cases r with
        | nil => exact i
        | cons => cases er⟩
  rw [s_for, sat_toS, e_seqI, sat_bind, ea, sat_ok]
  rcases s with ⟨k, rfl, e⟩ | rfl | rfl
  · show (lockD (.ref k) h).sat _
    unfold lockD
    simp only [e]
    rw [sat_ok, sat_unlG]
    refine (loop _).mono ?_ fun _ _ z => z.elim
    rintro ρ' h2 ⟨rfl, i⟩
    show N ρ' ((h.put k _).put k _)
    rw [put_put, put_id e]
    exact fin ρ' i
  · show (R.ok (stL l, none) h : R (List D × Unl)).sat _
    rw [sat_ok, sat_unlG]
    exact (loop h).mono (fun ρ' h2 ⟨e, i⟩ => by subst e; exact fin ρ' i) fun _ _ z => z.elim
  · show (R.ok (stL l, none) h : R (List D × Unl)).sat _
    rw [sat_ok, sat_unlG]
    exact (loop h).mono (fun ρ' h2 ⟨e, i⟩ => by subst e; exact fin ρ' i) fun _ _ z => z.elim
end
end CM
namespace W_whilemerged_k75_texts_of_books
open PySem PySem.Spec PyProof.Rows L2 CM
structure Txt (mg : Str → Option Value) : Prop where
  z_super : mg "super" = none
  z_abs : mg "abs" = none
  z_int : mg "int" = none
  z_len : mg "len" = none
  z_isinstance : mg "isinstance" = none
  z_str : mg "str" = none
  z_tuple : mg "tuple" = none
  z_list : mg "list" = none
  z_set : mg "set" = none
  z_sorted : mg "sorted" = none
  z_all : mg "all" = none
  z_enumerate : mg "enumerate" = none
  z_ValueError : mg "ValueError" = none
  z_repr : mg "repr" = none
  z_zip : mg "zip" = none
  z_range : mg "range" = none
  z_min : mg "min" = none
  z_dict : mg "dict" = none
structure Cst (K : PySem.W.Frag) (CA : CAs) (mg : Str → Option Value) : Prop where
  g_UPS : GV K CA mg "UPS" (.tup [.str "one", .str "late", .str "blind"])
  g_DOWNS : GV K CA mg "DOWNS" (.tup [.str "one", .str "two"])
  g_WRITES : GV K CA mg "WRITES" (.tup [.str "plain", .str "both", .str "again", .str "behind", .str "refused"])
  g_MOVES : GV K CA mg "MOVES" (.tup [.str "now", .str "first"])
  g_FINISHES : GV K CA mg "FINISHES" (.tup [.str "one", .str "link", .str "cut"])
  g_COUNTS : GV K CA mg "COUNTS" (.tup [.str "last", .str "first", .str "never"])
  g_BARS : GV K CA mg "BARS" (.tup [.str "cover", .str "lower", .str "open", .str "others", .str "upper"])
  g_NOTES : GV K CA mg "NOTES" (.tup [.str "again", .str "job", .str "place"])
  g_FIELDS : GV K CA mg "FIELDS" (.tup [.tup [.str "up", .tup [.str "one", .str "late", .str "blind"]], .tup [.str "down", .tup [.str "one", .str "two"]], .tup [.str "writes", .tup [.str "plain", .str "both", .str "again", .str "behind", .str "refused"]], .tup [.str "moves", .tup [.str "now", .str "first"]], .tup [.str "finish", .tup [.str "one", .str "link", .str "cut"]], .tup [.str "counts", .tup [.str "last", .str "first", .str "never"]]])
  g_SETS : GV K CA mg "SETS" (.tup [.tup [.str "bars", .tup [.str "cover", .str "lower", .str "open", .str "others", .str "upper"]], .tup [.str "notes", .tup [.str "again", .str "job", .str "place"]]])
  g_LINES : GV K CA mg "LINES" (.int 8)
  g_BadDeed : GV K CA mg "BadDeed" (.cls 1)
  g_BadNumber : GV K CA mg "BadNumber" (.cls 2)
  g_BadBook : GV K CA mg "BadBook" (.cls 3)
  g_BadPlan : GV K CA mg "BadPlan" (.cls 4)
  g_BadChain : GV K CA mg "BadChain" (.cls 5)
  g_BadText : GV K CA mg "BadText" (.cls 6)
  g_Book : GV K CA mg "Book" (.cls 7)
structure Fld (K : PySem.W.Frag) (CA : CAs) : Prop where
  x_b_words : FldOf K CA [7] "b_words"
  x_b_bars : FldOf K CA [7] "b_bars"
  x_b_notes : FldOf K CA [7] "b_notes"
structure XFd (K : PySem.W.Frag) (CA : CAs) : Prop where
  x_field : XfOf K CA [3] "field"
  x_number : XfOf K CA [2] "number"
  x_at : XfOf K CA [1] "at"
  x_line : XfOf K CA [6] "line"
abbrev xs0 : List Nat := [0, 1, 2, 3, 4, 5, 6]
def kt0 : KT := (ktT [[.o 0, .b "ValueError"], [.o 1, .o 0, .b "ValueError"], [.o 2, .o 0, .b "ValueError"], [.o 3, .o 0, .b "ValueError"], [.o 4, .o 0, .b "ValueError"], [.o 5, .o 0, .b "ValueError"], [.o 6, .o 0, .b "ValueError"], [.o 7]] ("ValueError" :: tys))
def u__law_words : SD := dSeq (dAsg (dDisp true [(dC (.str "up"), dLst false (dCons (dC (.str "one")) (dCons (dC (.str "late")) (dCons (dC (.str "blind")) (dNil))))), (dC (.str "down"), dLst false (dCons (dC (.str "one")) (dCons (dC (.str "two")) (dNil)))), (dC (.str "moves"), dLst false (dCons (dC (.str "now")) (dCons (dC (.str "first")) (dNil))))]) (gdName 1)) (dSeq (dAsg (dLst false (dCons (dC (.str "plain")) (dCons (dC (.str "both")) (dCons (dC (.str "again")) (dCons (dC (.str "behind")) (dCons (dC (.str "refused")) (dNil))))))) (gdSub (dVar 1) (dC (.str "writes")))) (dSeq (dAsg (dLst false (dCons (dC (.str "one")) (dCons (dC (.str "link")) (dCons (dC (.str "cut")) (dNil))))) (gdSub (dVar 1) (dC (.str "finish")))) (dSeq (dAsg (dLst false (dCons (dC (.str "last")) (dCons (dC (.str "first")) (dCons (dC (.str "never")) (dNil))))) (gdSub (dVar 1) (dC (.str "counts")))) (dSeq (dAsg (dLst false (dCons (dC (.str "cover")) (dCons (dC (.str "lower")) (dCons (dC (.str "open")) (dCons (dC (.str "others")) (dCons (dC (.str "upper")) (dNil))))))) (gdSub (dVar 1) (dC (.str "bars")))) (dSeq (dAsg (dLst false (dCons (dC (.str "again")) (dCons (dC (.str "job")) (dCons (dC (.str "place")) (dNil))))) (gdSub (dVar 1) (dC (.str "notes")))) (dRet (dOp fIx (dVar 1) (dVar 0))))))))
def F__law_words : FD := bodyF 2 u__law_words
def u__law_drawn_book : SD := dSeq (dAsg (dDNew true) (gdName 1)) (dSeq (dFor (dSeqI (dLst false (dCons (dC (.str "up")) (dCons (dC (.str "down")) (dCons (dC (.str "writes")) (dCons (dC (.str "moves")) (dCons (dC (.str "finish")) (dCons (dC (.str "counts")) (dNil))))))))) (gdName 2) (dAsg (dCall 2 F__law_pick (dCons (dVar 0) (dCons (dCall 1 F__law_words (dCons (dVar 2) (dNil))) (dNil)))) (gdSub (dVar 1) (dVar 2)))) (dSeq (dFor (dSeqI (dLst false (dCons (dC (.str "bars")) (dCons (dC (.str "notes")) (dNil))))) (gdName 2) (dSeq (dAsg (dCall 2 F__law_pick (dCons (dVar 0) (dCons (dLst false (dCons (dC (.int 1)) (dCons (dC (.int 2)) (dCons (dC (.int 2)) (dCons (dC (.int 4)) (dNil)))))) (dNil)))) (gdName 3)) (dAsg (dLc false (dSeqI (dCall 1 F__law_words (dCons (dVar 2) (dNil)))) (gdName 4) (dB (dOp (fEq false) (dCall 2 F__law_take (dCons (dVar 0) (dCons (dVar 3) (dNil)))) (dC (.int 0)))) (dVar 4) [4]) (gdSub (dVar 1) (dVar 2))))) (dRet (dUn fzI (dVar 1)))))
def F__law_drawn_book : FD := bodyF 5 u__law_drawn_book
def u_need_word : SD := dIfS (dOr (dNot (dB (dCB (fIsX xs0 [7] kt0) (dCons (dVar 1) (dCons (dC (.ty "str")) (dNil)))))) (dB (dOp (fIn true) (dVar 1) (dVar 2)))) (dRaiseX 3 "field" (dCons (dVar 0) (dNil))) (dNext)
def F_need_word : FD := bodyF 3 u_need_word
def u_need_words : SD := dSeq (dIfS (dNot (dB (dCB (fIsT [7] kt0) (dCons (dVar 1) (dCons (dTup (dCons (dC (.ty "list")) (dCons (dC (.ty "tuple")) (dNil)))) (dNil)))))) (dRaiseX 3 "field" (dCons (dVar 0) (dNil))) (dNext)) (dSeq (dFor (dSeqI (dVar 1)) (gdName 3) (dDrop (dCall 3 F_need_word (dCons (dVar 0) (dCons (dVar 3) (dCons (dVar 2) (dNil))))))) (dIfS (dB (dOp (fB fun i j => decide (i < j)) (dUn fLenS (dVar 1)) (dCB fLen (dCons (dVar 1) (dNil))))) (dRaiseX 3 "field" (dCons (dVar 0) (dNil))) (dNext)))
def F_need_words : FD := bodyF 4 u_need_words
def u_Book_init : SD := dSeq (dDrop (dCall 3 F_need_word (dCons (dC (.str "up")) (dCons (dVar 1) (dCons (dC (.tup [.str "one", .str "late", .str "blind"])) (dNil)))))) (dSeq (dDrop (dCall 3 F_need_word (dCons (dC (.str "down")) (dCons (dVar 2) (dCons (dC (.tup [.str "one", .str "two"])) (dNil)))))) (dSeq (dDrop (dCall 3 F_need_word (dCons (dC (.str "writes")) (dCons (dVar 3) (dCons (dC (.tup [.str "plain", .str "both", .str "again", .str "behind", .str "refused"])) (dNil)))))) (dSeq (dDrop (dCall 3 F_need_word (dCons (dC (.str "moves")) (dCons (dVar 4) (dCons (dC (.tup [.str "now", .str "first"])) (dNil)))))) (dSeq (dDrop (dCall 3 F_need_word (dCons (dC (.str "finish")) (dCons (dVar 5) (dCons (dC (.tup [.str "one", .str "link", .str "cut"])) (dNil)))))) (dSeq (dDrop (dCall 3 F_need_word (dCons (dC (.str "counts")) (dCons (dVar 6) (dCons (dC (.tup [.str "last", .str "first", .str "never"])) (dNil)))))) (dSeq (dDrop (dCall 3 F_need_words (dCons (dC (.str "bars")) (dCons (dVar 7) (dCons (dC (.tup [.str "cover", .str "lower", .str "open", .str "others", .str "upper"])) (dNil)))))) (dSeq (dDrop (dCall 3 F_need_words (dCons (dC (.str "notes")) (dCons (dVar 8) (dCons (dC (.tup [.str "again", .str "job", .str "place"])) (dNil)))))) (dSeq (dAsg (dTup (dCons (dVar 1) (dCons (dVar 2) (dCons (dVar 3) (dCons (dVar 4) (dCons (dVar 5) (dCons (dVar 6) (dNil)))))))) (gdFld [7] "b_words" (dVar 0))) (dSeq (dAsg (dCB fTupOf (dCons (dCB (fSrt false) (dCons (dVar 7) (dNil))) (dNil))) (gdFld [7] "b_bars" (dVar 0))) (dAsg (dCB fTupOf (dCons (dCB (fSrt false) (dCons (dVar 8) (dNil))) (dNil))) (gdFld [7] "b_notes" (dVar 0))))))))))))
def F_Book_init : FD := bodyF 9 u_Book_init
def u__law_shuffled : SD := dSeq (dPar 2 3 (dCons (dCB (fListOf true) (dCons (dVar 1) (dNil))) (dCons (dLst true (dNil)) (dNil)))) (dSeq (dWhile (dB (dOp (fEq true) (dVar 2) (dLst false (dNil)))) (dDrop (dBM "list" fAppend (dVar 3) (dCons (dBM "list" fPopAt (dVar 2) (dCons (dCall 2 F__law_take (dCons (dVar 0) (dCons (dCB fLen (dCons (dVar 2) (dNil))) (dNil)))) (dNil))) (dNil)))) 1000000) (dRet (dUn fzI (dVar 3))))
def F__law_shuffled : FD := bodyF 4 u__law_shuffled
def u__law_made_book : SD := dSeq (dPar 2 3 (dCons (dCall 2 F__law_shuffled (dCons (dVar 0) (dCons (dOp fIx (dVar 1) (dC (.str "bars"))) (dNil)))) (dCons (dCall 2 F__law_shuffled (dCons (dVar 0) (dCons (dOp fIx (dVar 1) (dC (.str "notes"))) (dNil)))) (dNil)))) (dSeq (dAsg (dMakeN 7 true 1 8 ([.p 0, .k 0, .k 1, .k 2, .k 3, .k 4, .k 5, .k 6, .k 7]) F_Book_init (dNil) (dCons (dOp fIx (dVar 1) (dC (.str "up"))) (dCons (dOp fIx (dVar 1) (dC (.str "down"))) (dCons (dOp fIx (dVar 1) (dC (.str "writes"))) (dCons (dOp fIx (dVar 1) (dC (.str "moves"))) (dCons (dOp fIx (dVar 1) (dC (.str "finish"))) (dCons (dOp fIx (dVar 1) (dC (.str "counts"))) (dCons (dCB fTupOf (dCons (dVar 2) (dNil))) (dCons (dVar 3) (dNil)))))))))) (gdName 4)) (dRet (dVar 4)))
def F__law_made_book : FD := bodyF 5 u__law_made_book
def u__law_page : SD := dSeq (dAsg (dLc false (dSeqI (dLst false (dCons (dC (.str "up")) (dCons (dC (.str "down")) (dCons (dC (.str "writes")) (dCons (dC (.str "moves")) (dCons (dC (.str "finish")) (dCons (dC (.str "counts")) (dNil))))))))) (gdName 2) (dYes) (dOp (fAdd false) (dOp (fAdd false) (dVar 2) (dC (.str " "))) (dOp fIx (dVar 0) (dVar 2))) [2]) (gdName 1)) (dSeq (dAsg (dOp (fAdd false) (dVar 1) (dLc false (dSeqI (dLst false (dCons (dC (.str "bars")) (dCons (dC (.str "notes")) (dNil))))) (gdName 2) (dYes) (dM1 fJoin (dC (.str " ")) (dOp (fAdd false) (dLst false (dCons (dVar 2) (dNil))) (dOp fIx (dVar 0) (dVar 2)))) [2])) (gdName 1)) (dRet (dM1 fJoin (dC (.str "")) (dLc false (dSeqI (dVar 1)) (gdName 3) (dYes) (dOp (fAdd false) (dVar 3) (dC (.str "\n"))) [3]))))
def F__law_page : FD := bodyF 4 u__law_page
def u_lines_of : SD := dSeq (dAsg (dM1 (fSplit false) (dVar 0) (dC (.str "\n"))) (gdName 1)) (dRet (dTup (dCons (dSl false (dVar 1) (dNoPart) (dPart (dUn fNeg (dC (.int 1))))) (dCons (dOp fIx (dVar 1) (dUn fNeg (dC (.int 1)))) (dNil)))))
def F_lines_of : FD := bodyF 2 u_lines_of
def u_line_words : SD := dSeq (dAsg (dM1 (fSplit false) (dVar 0) (dC (.str " "))) (gdName 2)) (dSeq (dIfS (dB (dOp (fB fun i j => decide (i < j)) (dVar 1) (dCB fLen (dCons (dC (.tup [.tup [.str "up", .tup [.str "one", .str "late", .str "blind"]], .tup [.str "down", .tup [.str "one", .str "two"]], .tup [.str "writes", .tup [.str "plain", .str "both", .str "again", .str "behind", .str "refused"]], .tup [.str "moves", .tup [.str "now", .str "first"]], .tup [.str "finish", .tup [.str "one", .str "link", .str "cut"]], .tup [.str "counts", .tup [.str "last", .str "first", .str "never"]]])) (dNil))))) (dSeq (dAsg (dOp fIx (dC (.tup [.tup [.str "up", .tup [.str "one", .str "late", .str "blind"]], .tup [.str "down", .tup [.str "one", .str "two"]], .tup [.str "writes", .tup [.str "plain", .str "both", .str "again", .str "behind", .str "refused"]], .tup [.str "moves", .tup [.str "now", .str "first"]], .tup [.str "finish", .tup [.str "one", .str "link", .str "cut"]], .tup [.str "counts", .tup [.str "last", .str "first", .str "never"]]])) (dVar 1)) (gdTup 2 (gdCons (gdName 3) (gdCons (gdName 4) (gdNil))))) (dRet (dIf (dAnd (dB (dOp (fEq false) (dCB fLen (dCons (dVar 2) (dNil))) (dC (.int 2)))) (dAnd (dB (dOp (fEq false) (dOp fIx (dVar 2) (dC (.int 0))) (dVar 3))) (dB (dOp (fIn false) (dOp fIx (dVar 2) (dC (.int 1))) (dVar 4))))) (dSl false (dVar 2) (dPart (dC (.int 1))) (dNoPart)) (dC .non)))) (dNext)) (dSeq (dAsg (dOp fIx (dC (.tup [.tup [.str "bars", .tup [.str "cover", .str "lower", .str "open", .str "others", .str "upper"]], .tup [.str "notes", .tup [.str "again", .str "job", .str "place"]]])) (dOp fSubI (dVar 1) (dCB fLen (dCons (dC (.tup [.tup [.str "up", .tup [.str "one", .str "late", .str "blind"]], .tup [.str "down", .tup [.str "one", .str "two"]], .tup [.str "writes", .tup [.str "plain", .str "both", .str "again", .str "behind", .str "refused"]], .tup [.str "moves", .tup [.str "now", .str "first"]], .tup [.str "finish", .tup [.str "one", .str "link", .str "cut"]], .tup [.str "counts", .tup [.str "last", .str "first", .str "never"]]])) (dNil))))) (gdTup 2 (gdCons (gdName 3) (gdCons (gdName 4) (gdNil))))) (dSeq (dIfS (dOr (dB (dOp (fEq true) (dOp fIx (dVar 2) (dC (.int 0))) (dVar 3))) (dNot (dB (dCB (fAllB false) (dCons (dLc false (dSeqI (dSl false (dVar 2) (dPart (dC (.int 1))) (dNoPart))) (gdName 5) (dYes) (dOp (fIn false) (dVar 5) (dVar 4)) [5]) (dNil)))))) (dRet (dC .non)) (dNext)) (dRet (dIf (dB (dOp (fEq false) (dSl false (dVar 2) (dPart (dC (.int 1))) (dNoPart)) (dUn (fSortSetT false) (dSl false (dVar 2) (dPart (dC (.int 1))) (dNoPart))))) (dSl false (dVar 2) (dPart (dC (.int 1))) (dNoPart)) (dC .non))))))
def F_line_words : FD := bodyF 6 u_line_words
def u_read_book : SD := dSeq (dIfS (dNot (dB (dCB (fIsX xs0 [7] kt0) (dCons (dVar 0) (dCons (dC (.ty "str")) (dNil)))))) (dRaiseX 6 "line" (dCons (dC (.int 0)) (dNil))) (dNext)) (dSeq (dAsg (dCall 1 F_lines_of (dCons (dVar 0) (dNil))) (gdTup 2 (gdCons (gdName 1) (gdCons (gdName 2) (gdNil))))) (dSeq (dAsg (dLst true (dNil)) (gdName 3)) (dSeq (dFor (dEnumT (dCons (dVar 1) (dNil))) (gdTup 2 (gdCons (gdName 4) (gdCons (gdName 5) (gdNil)))) (dSeq (dAsg (dIf (dB (dOp (fB fun i j => decide (i < j)) (dVar 4) (dC (.int 8)))) (dCall 2 F_line_words (dCons (dVar 5) (dCons (dVar 4) (dNil)))) (dC .non)) (gdName 6)) (dSeq (dIfS (dB (dOp (fIsN false) (dVar 6) (dC .non))) (dRaiseX 6 "line" (dCons (dVar 4) (dNil))) (dNext)) (dDrop (dBM "list" fAppend (dVar 3) (dCons (dVar 6) (dNil))))))) (dSeq (dIfS (dOr (dB (dOp (fEq true) (dVar 2) (dC (.str "")))) (dB (dOp (fB fun i j => decide (i < j)) (dCB fLen (dCons (dVar 3) (dNil))) (dC (.int 8))))) (dRaiseX 6 "line" (dCons (dCB fLen (dCons (dVar 3) (dNil))) (dNil))) (dNext)) (dSeq (dAsg (dVar 3) (gdUnl 8 (gdCons (gdName 7) (gdCons (gdName 8) (gdCons (gdName 9) (gdCons (gdName 10) (gdCons (gdName 11) (gdCons (gdName 12) (gdCons (gdName 13) (gdCons (gdName 14) (gdNil))))))))))) (dRet (dMakeN 7 true 1 8 ([.p 0, .k 0, .k 1, .k 2, .k 3, .k 4, .k 5, .k 6, .k 7]) F_Book_init (dNil) (dCons (dOp fIx (dVar 7) (dC (.int 0))) (dCons (dOp fIx (dVar 8) (dC (.int 0))) (dCons (dOp fIx (dVar 9) (dC (.int 0))) (dCons (dOp fIx (dVar 10) (dC (.int 0))) (dCons (dOp fIx (dVar 11) (dC (.int 0))) (dCons (dOp fIx (dVar 12) (dC (.int 0))) (dCons (dVar 13) (dCons (dVar 14) (dNil))))))))))))))))
def F_read_book : FD := bodyF 15 u_read_book
def u__law_refusal (r_ : R D) : SD := dSeq (dAsg (dKr (caughtR xs0 r_)) (gdName 1)) (dSeq (dIfS (dB (dOp (fIsN false) (dVar 1) (dC .non))) (dRet (dTup (dCons (dC (.str "none")) (dCons (dC .non) (dNil))))) (dNext)) (dSeq (dAsg (dLst false (dCons (dCB (fIsX xs0 [7] kt0) (dCons (dVar 1) (dCons (dC (.cls 3)) (dNil)))) (dCons (dCB (fIsX xs0 [7] kt0) (dCons (dVar 1) (dCons (dC (.cls 2)) (dNil)))) (dCons (dCB (fIsX xs0 [7] kt0) (dCons (dVar 1) (dCons (dC (.cls 1)) (dNil)))) (dNil))))) (gdName 2)) (dSeq (dAsg (dOp (fAdd false) (dVar 2) (dLst false (dCons (dCB (fIsX xs0 [7] kt0) (dCons (dVar 1) (dCons (dC (.cls 6)) (dNil)))) (dCons (dCB (fIsX xs0 [7] kt0) (dCons (dVar 1) (dCons (dC (.cls 5)) (dNil)))) (dCons (dCB (fIsX xs0 [7] kt0) (dCons (dVar 1) (dCons (dC (.cls 4)) (dNil)))) (dNil)))))) (gdName 2)) (dSeq (dIfS (dOr (dB (dOp (fEq true) (dBM "list" fCntB (dVar 2) (dCons (dC (.bl true)) (dNil))) (dC (.int 1)))) (dNot (dB (dCB (fIsX xs0 [7] kt0) (dCons (dVar 1) (dCons (dC (.ty "ValueError")) (dNil))))))) (dRet (dTup (dCons (dC (.str "other")) (dCons (dC .non) (dNil))))) (dNext)) (dSeq (dIfS (dB (dOp fIx (dVar 2) (dC (.int 0)))) (dRet (dTup (dCons (dC (.str "book")) (dCons (dUn (fXf [3] "field") (dVar 1)) (dNil))))) (dNext)) (dSeq (dIfS (dB (dOp fIx (dVar 2) (dC (.int 1)))) (dRet (dTup (dCons (dC (.str "number")) (dCons (dUn (fXf [2] "number") (dVar 1)) (dNil))))) (dNext)) (dSeq (dIfS (dB (dOp fIx (dVar 2) (dC (.int 2)))) (dRet (dTup (dCons (dC (.str "deed")) (dCons (dUn (fXf [1] "at") (dVar 1)) (dNil))))) (dNext)) (dRet (dIf (dB (dOp fIx (dVar 2) (dC (.int 3)))) (dTup (dCons (dC (.str "text")) (dCons (dUn (fXf [6] "line") (dVar 1)) (dNil)))) (dTup (dCons (dOp fIx (dLst false (dCons (dC (.str "chain")) (dCons (dC (.str "plan")) (dNil)))) (dCB fInt (dCons (dOp fIx (dVar 2) (dC (.int 5))) (dNil)))) (dCons (dC .non) (dNil)))))))))))))
def F__law_refusal : R D → FD := fun r_ ds h => (u__law_refusal r_ (startL 2 ds) h).res
def u__law_is (r_ : R D) : SD := dRet (dOp (fEq false) (dCB fRepA (dCons (dLamF F__law_refusal r_) (dNil))) (dCB fRepA (dCons (dTup (dCons (dVar 1) (dCons (dVar 2) (dNil)))) (dNil))))
def F__law_is : R D → FD := fun r_ ds h => (u__law_is r_ (startL 2 ds) h).res
def u_Book_eq : SD := dSeq (dIfS (dNot (dB (dCB (fIsX xs0 [7] kt0) (dCons (dVar 1) (dCons (dC (.cls 7)) (dNil)))))) (dRet (dC (.bl false))) (dNext)) (dRet (dAndV (dOp (fEq false) (dUn (fFld [7] "b_words") (dVar 0)) (dUn (fFld [7] "b_words") (dVar 1))) (dAndV (dOp (fEq false) (dUn (fFld [7] "b_bars") (dVar 0)) (dUn (fFld [7] "b_bars") (dVar 1))) (dOp (fEq false) (dUn (fFld [7] "b_notes") (dVar 0)) (dUn (fFld [7] "b_notes") (dVar 1))))))
def F_Book_eq : FD := bodyF 2 u_Book_eq
def u_Book_notes : SD := dRet (dUn (fFld [7] "b_notes") (dVar 0))
def F_Book_notes : FD := bodyF 1 u_Book_notes
def u__law_odd : SD := dSeq (dAsg (dLst false (dCons (dC .non) (dCons (dC (.bl true)) (dCons (dC (.bl false)) (dCons (dUn fNeg (dC (.int 1))) (dCons (dC (.int 0)) (dCons (dC (.int 7)) (dCons (dOp fPow (dC (.int 10)) (dC (.int 30))) (dCons (dC (.str "")) (dCons (dC (.str "up")) (dCons (dC (.str "down")) (dCons (dC (.str "x")) (dCons (dTup (dNil)) (dCons (dTup (dCons (dC (.int 0)) (dNil))) (dCons (dLst false (dNil)) (dCons (dLst false (dCons (dC (.int 0)) (dNil))) (dCons (dDNew false) (dCons (dDisp false [(dC (.int 0), dC (.int 1))]) (dCons (dTup (dCons (dTup (dNil)) (dNil))) (dNil)))))))))))))))))))) (gdName 1)) (dRet (dCall 2 F__law_pick (dCons (dVar 0) (dCons (dOp (fAdd false) (dVar 1) (dLst false (dCons (dTup (dCons (dC (.str "up")) (dCons (dC (.int 0)) (dCons (dC (.int 1)) (dNil))))) (dCons (dTup (dCons (dC (.str "up")) (dNil))) (dCons (dTup (dCons (dC (.str "write")) (dCons (dC (.int 0)) (dCons (dC (.int 0)) (dCons (dC (.int 1)) (dNil)))))) (dCons (dLst false (dCons (dTup (dCons (dC (.int 0)) (dNil))) (dNil))) (dCons (dC (.str "0")) (dCons (dTup (dCons (dC (.bl true)) (dNil))) (dCons (dTup (dCons (dC .non) (dNil))) (dNil)))))))))) (dNil)))))
def F__law_odd : FD := bodyF 2 u__law_odd
def u_need_book : SD := dIfS (dNot (dB (dCB (fIsX xs0 [7] kt0) (dCons (dVar 0) (dCons (dC (.cls 7)) (dNil)))))) (dRaiseX 3 "field" (dCons (dC (.str "book")) (dNil))) (dNext)
def F_need_book : FD := bodyF 1 u_need_book
def u_Book_up : SD := dRet (dOp fIx (dUn (fFld [7] "b_words") (dVar 0)) (dC (.int 0)))
def F_Book_up : FD := bodyF 1 u_Book_up
def u_Book_down : SD := dRet (dOp fIx (dUn (fFld [7] "b_words") (dVar 0)) (dC (.int 1)))
def F_Book_down : FD := bodyF 1 u_Book_down
def u_Book_writes : SD := dRet (dOp fIx (dUn (fFld [7] "b_words") (dVar 0)) (dC (.int 2)))
def F_Book_writes : FD := bodyF 1 u_Book_writes
def u_Book_moves : SD := dRet (dOp fIx (dUn (fFld [7] "b_words") (dVar 0)) (dC (.int 3)))
def F_Book_moves : FD := bodyF 1 u_Book_moves
def u_Book_finish : SD := dRet (dOp fIx (dUn (fFld [7] "b_words") (dVar 0)) (dC (.int 4)))
def F_Book_finish : FD := bodyF 1 u_Book_finish
def u_Book_counts : SD := dRet (dOp fIx (dUn (fFld [7] "b_words") (dVar 0)) (dC (.int 5)))
def F_Book_counts : FD := bodyF 1 u_Book_counts
def u_chosen_words : SD := dRet (dLst false (dCons (dProp 7 F_Book_up (dVar 0)) (dCons (dProp 7 F_Book_down (dVar 0)) (dCons (dProp 7 F_Book_writes (dVar 0)) (dCons (dProp 7 F_Book_moves (dVar 0)) (dCons (dProp 7 F_Book_finish (dVar 0)) (dCons (dProp 7 F_Book_counts (dVar 0)) (dNil))))))))
def F_chosen_words : FD := bodyF 1 u_chosen_words
def u_Book_bars : SD := dRet (dUn (fFld [7] "b_bars") (dVar 0))
def F_Book_bars : FD := bodyF 1 u_Book_bars
def u_book_text : SD := dSeq (dDrop (dCall 1 F_need_book (dCons (dVar 0) (dNil)))) (dSeq (dAsg (dLc true (dZm (dCons (dC (.tup [.tup [.str "up", .tup [.str "one", .str "late", .str "blind"]], .tup [.str "down", .tup [.str "one", .str "two"]], .tup [.str "writes", .tup [.str "plain", .str "both", .str "again", .str "behind", .str "refused"]], .tup [.str "moves", .tup [.str "now", .str "first"]], .tup [.str "finish", .tup [.str "one", .str "link", .str "cut"]], .tup [.str "counts", .tup [.str "last", .str "first", .str "never"]]])) (dCons (dCall 1 F_chosen_words (dCons (dVar 0) (dNil))) (dNil)))) (gdTup 2 (gdCons (gdTup 2 (gdCons (gdName 2) (gdCons (gdName 3) (gdNil)))) (gdCons (gdName 4) (gdNil)))) (dYes) (dLst false (dCons (dVar 2) (dCons (dVar 4) (dNil)))) [4, 2, 3]) (gdName 1)) (dSeq (dDrop (dBM "list" fExtend (dVar 1) (dCons (dLst false (dCons (dLst false (dCons (dC (.str "bars")) (dStar (dProp 7 F_Book_bars (dVar 0)) (dNil)))) (dCons (dLst false (dCons (dC (.str "notes")) (dStar (dProp 7 F_Book_notes (dVar 0)) (dNil)))) (dNil)))) (dNil)))) (dRet (dM1 fJoin (dC (.str "")) (dLc false (dSeqI (dVar 1)) (gdName 5) (dYes) (dOp (fAdd false) (dM1 fJoin (dC (.str " ")) (dVar 5)) (dC (.str "\n"))) [5])))))
def F_book_text : FD := bodyF 6 u_book_text
def u_law : SD := dSeq (dAsg (dCall 1 F__law_begun (dCons (dVar 0) (dNil))) (gdName 1)) (dSeq (dFor (dRng1 (dCons (dOp (fAdd false) (dC (.int 5)) (dCB fMin (dCons (dCB fLen (dCons (dVar 0) (dNil))) (dCons (dC (.int 20)) (dNil))))) (dNil))) (gdName 2) (dSeq (dAsg (dCall 1 F__law_drawn_book (dCons (dVar 1) (dNil))) (gdName 3)) (dSeq (dAsg (dTup (dCons (dCall 2 F__law_made_book (dCons (dVar 1) (dCons (dVar 3) (dNil)))) (dCons (dCall 1 F__law_page (dCons (dVar 3) (dNil))) (dNil)))) (gdTup 2 (gdCons (gdName 4) (gdCons (gdName 5) (gdNil))))) (dSeq (dIfS (dB (dOp (fEq true) (dCB fRepA (dCons (dLst false (dCons (dCall 1 F_book_text (dCons (dVar 4) (dNil))) (dCons (dCallN 0 1 ([.k 0]) F_book_text (dNil) (dCons (dVar 4) (dNil))) (dNil)))) (dNil))) (dCB fRepA (dCons (dLst false (dCons (dVar 5) (dCons (dVar 5) (dNil)))) (dNil))))) (dRet (dC (.bl false))) (dNext)) (dSeq (dAsg (dLst false (dCons (dCall 1 F_read_book (dCons (dVar 5) (dNil))) (dCons (dCallN 0 1 ([.k 0]) F_read_book (dNil) (dCons (dVar 5) (dNil))) (dNil)))) (gdName 6)) (dSeq (dIfS (dB (dOp (fEq true) (dLc false (dSeqI (dVar 6)) (gdName 7) (dOr (dNot (dB (dCB (fIsX xs0 [7] kt0) (dCons (dVar 7) (dCons (dC (.cls 7)) (dNil)))))) (dOr (dB (dOp (fOwn 7 (fun t => decide (t ∈ [.b "NoneType", .b "bool", .b "int", .b "str", .b "list", .b "tuple", .b "dict", .o 0, .o 1, .o 2, .o 3, .o 4, .o 5, .o 6, .o 7])) [7] true F_Book_eq) (dVar 7) (dVar 4))) (dB (dOp (fEq true) (dCall 1 F_book_text (dCons (dVar 7) (dNil))) (dVar 5))))) (dVar 7) [7]) (dLst false (dNil)))) (dRet (dC (.bl false))) (dNext)) (dSeq (dAsg (dCall 2 F__law_pick (dCons (dVar 1) (dCons (dCB (fSrtDS false) (dCons (dVar 3) (dNil))) (dNil)))) (gdName 8)) (dSeq (dAsg (dCB (fDctOf true) (dCons (dVar 3) (dNil))) (gdName 9)) (dSeq (dAsg (dOp fIx (dCall 1 F__law_drawn_book (dCons (dVar 1) (dNil))) (dVar 8)) (gdSub (dVar 9) (dVar 8))) (dSeq (dAsg (dCall 2 F__law_made_book (dCons (dVar 1) (dCons (dVar 9) (dNil)))) (gdName 10)) (dSeq (dIfS (dOr (dB (dOp (fEq true) (dOp (fOwn 7 (fun t => decide (t ∈ [.b "NoneType", .b "bool", .b "int", .b "str", .b "list", .b "tuple", .b "dict", .o 0, .o 1, .o 2, .o 3, .o 4, .o 5, .o 6, .o 7])) [7] false F_Book_eq) (dVar 10) (dVar 4)) (dOp (fEqDP false) (dVar 9) (dVar 3)))) (dB (dOp (fEq true) (dOp (fEq false) (dCall 1 F_book_text (dCons (dVar 10) (dNil))) (dVar 5)) (dOp (fEqDP false) (dVar 9) (dVar 3))))) (dRet (dC (.bl false))) (dNext)) (dSeq (dIfS (dOr (dB (dOp (fEq true) (dLc false (dSeqI (dVar 6)) (gdName 7) (dYes) (dProp 7 F_Book_bars (dVar 7)) [7]) (dLst false (dCons (dProp 7 F_Book_bars (dVar 4)) (dCons (dProp 7 F_Book_bars (dVar 4)) (dNil)))))) (dB (dOp (fEq true) (dProp 7 F_Book_notes (dVar 4)) (dCB fTupOf (dCons (dOp fIx (dVar 3) (dC (.str "notes"))) (dNil)))))) (dRet (dC (.bl false))) (dNext)) (dSeq (dAsg (dCall 2 F__law_pick (dCons (dVar 1) (dCons (dLst false (dCons (dC .non) (dCons (dC (.int 5)) (dCons (dC (.str "")) (dCons (dVar 5) (dCons (dTup (dNil)) (dCons (dLst false (dNil)) (dCons (dVar 3) (dCons (dC (.bl true)) (dCons (dC (.str "book")) (dCons (dCall 1 F__law_odd (dCons (dVar 1) (dNil))) (dNil)))))))))))) (dNil)))) (gdName 11)) (dIfS (dNot (dB (dLamC 2 F__law_is (dCall 1 F_book_text (dCons (dVar 11) (dNil))) (dCons (dC (.str "book")) (dCons (dC (.str "book")) (dNil)))))) (dRet (dC (.bl false))) (dNext))))))))))))))) (dRet (dC (.bl true))))
def F_law : FD := bodyF 12 u_law
section
variable {P : Program} {w : World} {K : PySem.W.Frag} {mg : Str → Option Value} {base : Heap} {CA : CAs} {f : Addr} {fd : FuncData}
theorem sc__law_begun : FnScope ["_law_script", "_law_wide", "_law_cell"] ["_law_script"] (defScope s__law_begun) := ⟨rfl, rfl, rfl, by decide +kernel, rfl, by decide +kernel, by decide +kernel⟩
theorem ok__law_begun  (F : Fun K "_law_begun" "_law_begun" s__law_begun f fd) (T : Txt mg) (Hx : ∀ c ∈ (xs0 : List Nat), PySem.W.exmOne K (.ref (CA c)) (.ref (CA 0)) = some true) (XE : ∀ c ∈ (xs0 : List Nat), ExcOk K (CA c)) (Xf : XFd K CA) (SMb : SM base) (C : Cst K CA mg) (Fl : Fld K CA) (Kt : KtOk K CA [7] kt0)  : FnG P w K mg base false 1 f fd ["_law_script"] (spD K CA 1 (bodyF 3 u__law_begun)) := by
  have nd := (sc__law_begun).nd
  refine okD F sc__law_begun rfl rfl fun cd A outer s H E hg hr tk => ?_
  have Y : WSs (cxD P w K mg base ["_law_script", "_law_wide", "_law_cell"] "_law_begun" s__law_begun f cd A outer s H E) K CA (wxD E) (defBody s__law_begun) _ _ := wss_cons (ws_setLc true (i := 1) rfl nd rfl rfl (own := [("_law_cell", 2)]) (wi_seq (we_var (pv 0))) (blkOk_by (N := ["_law_script", "_law_wide", "_law_cell"]) (sc := defScope s__law_begun) (by decide +kernel)) (fun s_ H_ C_ cl_ fp_ => wg_name (pg_name (i := 2) nd rfl (by first | exact Or.inl rfl | exact Or.inr rfl))) (fun s_ H_ C_ cl_ fp_ => wts_one (wt_cmp op_ge sim_cB (we_cb sim_abs (wa_cons (we_var (pv 2)) (wa_nil)) (fun a => pe_callB call_abs (by rfl) T.z_abs boot_absU a)) (we_op op_pow sim_pow (we_int) (we_int)) (by rfl))) (fun s_ H_ C_ cl_ fp_ => we_op op_sub sim_subI (we_cb sim_abs (wa_cons (we_var (pv 2)) (wa_nil)) (fun a => pe_callB call_abs (by rfl) T.z_abs boot_absU a)) (we_op op_pow sim_pow (we_int) (we_int))) (by decide)) (wss_one (ws_ret (we_disp true (wp_cons (we_str) (we_var (pv 1)) (wp_cons (we_str) (we_lc false rfl nd (own := [("_law_cell", 2)]) (wi_seq (we_var (pv 0))) (blkOk_by (N := ["_law_script", "_law_wide", "_law_cell"]) (sc := defScope s__law_begun) (by decide +kernel)) (fun s_ H_ C_ cl_ fp_ => wg_name (pg_name (i := 2) nd rfl (by first | exact Or.inl rfl | exact Or.inr rfl))) (fun s_ H_ C_ cl_ fp_ => wts_nil) (fun s_ H_ C_ cl_ fp_ => we_op op_mod sim_mod (we_cb sim_int (wa_cons (we_cb sim_abs (wa_cons (we_var (pv 2)) (wa_nil)) (fun a => pe_callB call_abs (by rfl) T.z_abs boot_absU a)) (wa_nil)) (fun a => pe_callTy call_int1 (by rfl) T.z_int boot_intU a)) (we_int)) (by decide)) (wp_cons (we_str) (we_int) (wp_cons (we_str) (we_int) (wp_nil))))) (by rfl) (by rfl) (by decide) (by decide))))
  exact ⟨_, Y⟩
theorem sc__law_mixed : FnScope ["_law_draw", "_law_turn", "_law_found", "_law_prime", "_law_blend", "_law_cell"] ["_law_draw"] (defScope s__law_mixed) := ⟨rfl, rfl, rfl, by decide +kernel, rfl, by decide +kernel, by decide +kernel⟩
theorem ok__law_mixed  (F : Fun K "_law_mixed" "_law_mixed" s__law_mixed f fd) (T : Txt mg) (Hx : ∀ c ∈ (xs0 : List Nat), PySem.W.exmOne K (.ref (CA c)) (.ref (CA 0)) = some true) (XE : ∀ c ∈ (xs0 : List Nat), ExcOk K (CA c)) (Xf : XFd K CA) (SMb : SM base) (C : Cst K CA mg) (Fl : Fld K CA) (Kt : KtOk K CA [7] kt0)  : FnG P w K mg base false 1 f fd ["_law_draw"] (spD K CA 1 (bodyF 6 u__law_mixed)) := by
  have nd := (sc__law_mixed).nd
  refine okD F sc__law_mixed rfl rfl fun cd A outer s H E hg hr tk => ?_
  have Y : WSs (cxD P w K mg base ["_law_draw", "_law_turn", "_law_found", "_law_prime", "_law_blend", "_law_cell"] "_law_mixed" s__law_mixed f cd A outer s H E) K CA (wxD E) (defBody s__law_mixed) _ _ := wss_cons (ws_par (wa_cons (we_op op_addU (sim_add (nm := false)) (we_ix (ixU (hu_of hr)) sim_ix (we_var (pv 0)) (we_str)) (we_int)) (wa_cons (we_int) (wa_nil))) (fun q => ps_par (i := 1) (j := 2) rfl nd rfl rfl (by decide) rfl rfl q (by rfl))) (wss_cons (ws_asg (we_var (pv 1)) (wg_sub (W := wxD E) (hu_of hr) (we_var (pv 0)) (we_str) (fun a b c => pg_sub a b c))) (wss_cons (ws_for (wi_seq (we_lst false (wa_cons (we_int) (wa_cons (we_int) (wa_cons (we_int) (wa_cons (we_int) (wa_nil))))))) (wg_name (pg_name (i := 3) nd rfl (by first | exact Or.inl rfl | exact Or.inr rfl))) (wss_cons (ws_set (we_op op_addU (sim_add (nm := false)) (we_op op_mulU (sim_mul (nm := false)) (we_int) (we_var (pv 1))) (we_op op_fdiv sim_div (we_var (pv 3)) (we_int))) (fun q => ps_set (i := 4) nd rfl (by first | exact Or.inl rfl | exact Or.inr rfl) q)) (wss_cons (ws_for (wi_seq (we_ix (ixU (hu_of hr)) sim_ix (we_var (pv 0)) (we_str))) (wg_name (pg_name (i := 5) nd rfl (by first | exact Or.inl rfl | exact Or.inr rfl))) (wss_one (ws_set (we_op op_mod sim_mod (we_cb sim_int (wa_cons (we_op op_addU (sim_add (nm := false)) (we_op op_addU (sim_add (nm := false)) (we_op op_mulU (sim_mul (nm := false)) (we_var (pv 4)) (we_int)) (we_var (pv 5))) (we_var (pv 1))) (wa_nil)) (fun a => pe_callTy call_int1 (by rfl) T.z_int boot_intU a)) (we_var (pv 3))) (fun q => ps_set (i := 4) nd rfl (by first | exact Or.inl rfl | exact Or.inr rfl) q))) (fun i g b => ps_for (passes_of rfl) rfl i g b)) (wss_one (ws_set (we_op op_addU (sim_add (nm := false)) (we_op op_mulU (sim_mul (nm := false)) (we_var (pv 2)) (we_int)) (we_op op_mod sim_mod (we_cb sim_int (wa_cons (we_op op_pow sim_pow (we_var (pv 4)) (we_int)) (wa_nil)) (fun a => pe_callTy call_int1 (by rfl) T.z_int boot_intU a)) (we_var (pv 3)))) (fun q => ps_set (i := 2) nd rfl (by first | exact Or.inl rfl | exact Or.inr rfl) q))))) (fun i g b => ps_for (passes_of rfl) rfl i g b)) (wss_one (ws_ret (we_var (pv 2))))))
  exact ⟨_, Y⟩
theorem sc__law_take : FnScope ["_law_draw", "_law_size", "_law_found"] ["_law_draw", "_law_size"] (defScope s__law_take) := ⟨rfl, rfl, rfl, by decide +kernel, rfl, by decide +kernel, by decide +kernel⟩
theorem ok__law_take {f__law_mixed : Addr} {fd__law_mixed : FuncData} (F : Fun K "_law_take" "_law_take" s__law_take f fd) (T : Txt mg) (Hx : ∀ c ∈ (xs0 : List Nat), PySem.W.exmOne K (.ref (CA c)) (.ref (CA 0)) = some true) (XE : ∀ c ∈ (xs0 : List Nat), ExcOk K (CA c)) (Xf : XFd K CA) (SMb : SM base) (C : Cst K CA mg) (Fl : Fld K CA) (Kt : KtOk K CA [7] kt0) (B__law_mixed_1 : KwB K CA fd__law_mixed ["_law_draw"] 1 [] (srcP 0 1)) (D__law_mixed : Df P w K mg base CA "_law_mixed" false 1 ["_law_draw"] F__law_mixed f__law_mixed fd__law_mixed) : FnG P w K mg base false 2 f fd ["_law_draw", "_law_size"] (spD K CA 2 (bodyF 3 u__law_take)) := by
  have nd := (sc__law_take).nd
  refine okD F sc__law_take rfl rfl fun cd A outer s H E hg hr tk => ?_
  have Y : WSs (cxD P w K mg base ["_law_draw", "_law_size", "_law_found"] "_law_take" s__law_take f cd A outer s H E) K CA (wxD E) (defBody s__law_take) _ _ := wss_cons (ws_if (wt_cmp (op_eqU hr.units) sim_eq (we_ix (ixU (hu_of hr)) sim_ix (we_var (pv 0)) (we_str)) (we_int) (by rfl)) (wss_one (ws_asg (we_ifExp (wt_cmp (op_neU hr.units) sim_ne (we_ix (ixU (hu_of hr)) sim_ix (we_var (pv 0)) (we_str)) (we_lst false (wa_nil)) (by rfl)) (we_bm (T := "list") (r := rPopAt) sim_popAt (we_ix (ixU (hu_of hr)) sim_ix (we_var (pv 0)) (we_str)) (wa_cons (we_int) (wa_nil)) (fun a b => pe_bm PySem.F.plainAttrs_list PySem.F.slot_list_pop PySem.F.type_list_pop mt_popAt a b)) (we_callP D__law_mixed noG (hr.mono (by decide)) tk (wa_cons (we_var (pv 0)) (wa_nil)) B__law_mixed_1)) (wg_sub (W := wxD E) (hu_of hr) (we_var (pv 0)) (we_str) (fun a b c => pg_sub a b c)))) (wss_nil)) (wss_cons (ws_set (we_op op_mod sim_mod (we_cb sim_int (wa_cons (we_ix (ixU (hu_of hr)) sim_ix (we_var (pv 0)) (we_str)) (wa_nil)) (fun a => pe_callTy call_int1 (by rfl) T.z_int boot_intU a)) (we_var (pv 1))) (fun q => ps_set (i := 2) nd rfl (by first | exact Or.inl rfl | exact Or.inr rfl) q)) (wss_cons (ws_asg (we_op op_fdiv sim_div (we_ix (ixU (hu_of hr)) sim_ix (we_var (pv 0)) (we_str)) (we_var (pv 1))) (wg_sub (W := wxD E) (hu_of hr) (we_var (pv 0)) (we_str) (fun a b c => pg_sub a b c))) (wss_one (ws_ret (we_var (pv 2))))))
  exact ⟨_, Y⟩
theorem sc__law_pick : FnScope ["_law_draw", "_law_some"] ["_law_draw", "_law_some"] (defScope s__law_pick) := ⟨rfl, rfl, rfl, by decide +kernel, rfl, by decide +kernel, by decide +kernel⟩
theorem ok__law_pick {f__law_take : Addr} {fd__law_take : FuncData} (F : Fun K "_law_pick" "_law_pick" s__law_pick f fd) (T : Txt mg) (Hx : ∀ c ∈ (xs0 : List Nat), PySem.W.exmOne K (.ref (CA c)) (.ref (CA 0)) = some true) (XE : ∀ c ∈ (xs0 : List Nat), ExcOk K (CA c)) (Xf : XFd K CA) (SMb : SM base) (C : Cst K CA mg) (Fl : Fld K CA) (Kt : KtOk K CA [7] kt0) (B__law_take_2 : KwB K CA fd__law_take ["_law_draw", "_law_size"] 2 [] (srcP 0 2)) (D__law_take : Df P w K mg base CA "_law_take" false 2 ["_law_draw", "_law_size"] F__law_take f__law_take fd__law_take) : FnG P w K mg base false 3 f fd ["_law_draw", "_law_some"] (spD K CA 2 (bodyF 2 u__law_pick)) := by
  have nd := (sc__law_pick).nd
  refine okD F sc__law_pick rfl rfl fun cd A outer s H E hg hr tk => ?_
  have Y : WSs (cxD P w K mg base ["_law_draw", "_law_some"] "_law_pick" s__law_pick f cd A outer s H E) K CA (wxD E) (defBody s__law_pick) _ _ := wss_one (ws_ret (we_ix (ixU (hu_of hr)) sim_ix (we_var (pv 1)) (we_callP D__law_take noG (hr.mono (by decide)) tk (wa_cons (we_var (pv 0)) (wa_cons (we_cb sim_len (wa_cons (we_var (pv 1)) (wa_nil)) (fun a => pe_callB (call_lenU rfl call_lenRd) (by rfl) T.z_len boot_lenU a)) (wa_nil))) B__law_take_2)))
  exact ⟨_, Y⟩
theorem sc__law_words : FnScope ["_law_field", "_law_some"] ["_law_field"] (defScope s__law_words) := ⟨rfl, rfl, rfl, by decide +kernel, rfl, by decide +kernel, by decide +kernel⟩
theorem ok__law_words  (F : Fun K "_law_words" "_law_words" s__law_words f fd) (T : Txt mg) (Hx : ∀ c ∈ (xs0 : List Nat), PySem.W.exmOne K (.ref (CA c)) (.ref (CA 0)) = some true) (XE : ∀ c ∈ (xs0 : List Nat), ExcOk K (CA c)) (Xf : XFd K CA) (SMb : SM base) (C : Cst K CA mg) (Fl : Fld K CA) (Kt : KtOk K CA [7] kt0)  : FnG P w K mg base false 1 f fd ["_law_field"] (spD K CA 1 (bodyF 2 u__law_words)) := by
  have nd := (sc__law_words).nd
  refine okD F sc__law_words rfl rfl fun cd A outer s H E hg hr tk => ?_
  have Y : WSs (cxD P w K mg base ["_law_field", "_law_some"] "_law_words" s__law_words f cd A outer s H E) K CA (wxD E) (defBody s__law_words) _ _ := wss_cons (ws_set (we_disp true (wp_cons (we_str) (we_lst false (wa_cons (we_str) (wa_cons (we_str) (wa_cons (we_str) (wa_nil))))) (wp_cons (we_str) (we_lst false (wa_cons (we_str) (wa_cons (we_str) (wa_nil)))) (wp_cons (we_str) (we_lst false (wa_cons (we_str) (wa_cons (we_str) (wa_nil)))) (wp_nil)))) (by rfl) (by rfl) (by decide) (by decide)) (fun q => ps_set (i := 1) nd rfl (by first | exact Or.inl rfl | exact Or.inr rfl) q)) (wss_cons (ws_asg (we_lst false (wa_cons (we_str) (wa_cons (we_str) (wa_cons (we_str) (wa_cons (we_str) (wa_cons (we_str) (wa_nil))))))) (wg_sub (W := wxD E) (hu_of hr) (we_var (pv 1)) (we_str) (fun a b c => pg_sub a b c))) (wss_cons (ws_asg (we_lst false (wa_cons (we_str) (wa_cons (we_str) (wa_cons (we_str) (wa_nil))))) (wg_sub (W := wxD E) (hu_of hr) (we_var (pv 1)) (we_str) (fun a b c => pg_sub a b c))) (wss_cons (ws_asg (we_lst false (wa_cons (we_str) (wa_cons (we_str) (wa_cons (we_str) (wa_nil))))) (wg_sub (W := wxD E) (hu_of hr) (we_var (pv 1)) (we_str) (fun a b c => pg_sub a b c))) (wss_cons (ws_asg (we_lst false (wa_cons (we_str) (wa_cons (we_str) (wa_cons (we_str) (wa_cons (we_str) (wa_cons (we_str) (wa_nil))))))) (wg_sub (W := wxD E) (hu_of hr) (we_var (pv 1)) (we_str) (fun a b c => pg_sub a b c))) (wss_cons (ws_asg (we_lst false (wa_cons (we_str) (wa_cons (we_str) (wa_cons (we_str) (wa_nil))))) (wg_sub (W := wxD E) (hu_of hr) (we_var (pv 1)) (we_str) (fun a b c => pg_sub a b c))) (wss_one (ws_ret (we_ix (ixU (hu_of hr)) sim_ix (we_var (pv 1)) (we_var (pv 0))))))))))
  exact ⟨_, Y⟩
theorem sc__law_drawn_book : FnScope ["_law_draw", "_law_found", "_law_field", "_law_odds", "_law_word"] ["_law_draw"] (defScope s__law_drawn_book) := ⟨rfl, rfl, rfl, by decide +kernel, rfl, by decide +kernel, by decide +kernel⟩
theorem ok__law_drawn_book {f__law_pick : Addr} {fd__law_pick : FuncData} {f__law_words : Addr} {fd__law_words : FuncData} {f__law_take : Addr} {fd__law_take : FuncData} (F : Fun K "_law_drawn_book" "_law_drawn_book" s__law_drawn_book f fd) (T : Txt mg) (Hx : ∀ c ∈ (xs0 : List Nat), PySem.W.exmOne K (.ref (CA c)) (.ref (CA 0)) = some true) (XE : ∀ c ∈ (xs0 : List Nat), ExcOk K (CA c)) (Xf : XFd K CA) (SMb : SM base) (C : Cst K CA mg) (Fl : Fld K CA) (Kt : KtOk K CA [7] kt0) (B__law_pick_2 : KwB K CA fd__law_pick ["_law_draw", "_law_some"] 2 [] (srcP 0 2)) (D__law_pick : Df P w K mg base CA "_law_pick" false 3 ["_law_draw", "_law_some"] F__law_pick f__law_pick fd__law_pick) (B__law_words_1 : KwB K CA fd__law_words ["_law_field"] 1 [] (srcP 0 1)) (D__law_words : Df P w K mg base CA "_law_words" false 1 ["_law_field"] F__law_words f__law_words fd__law_words) (B__law_take_2 : KwB K CA fd__law_take ["_law_draw", "_law_size"] 2 [] (srcP 0 2)) (D__law_take : Df P w K mg base CA "_law_take" false 2 ["_law_draw", "_law_size"] F__law_take f__law_take fd__law_take) : FnG P w K mg base false 4 f fd ["_law_draw"] (spD K CA 1 (bodyF 5 u__law_drawn_book)) := by
  have nd := (sc__law_drawn_book).nd
  refine okD F sc__law_drawn_book rfl rfl fun cd A outer s H E hg hr tk => ?_
  have Y : WSs (cxD P w K mg base ["_law_draw", "_law_found", "_law_field", "_law_odds", "_law_word"] "_law_drawn_book" s__law_drawn_book f cd A outer s H E) K CA (wxD E) (defBody s__law_drawn_book) _ _ := wss_cons (ws_set (we_dnew true) (fun q => ps_set (i := 1) nd rfl (by first | exact Or.inl rfl | exact Or.inr rfl) q)) (wss_cons (ws_for (wi_seq (we_lst false (wa_cons (we_str) (wa_cons (we_str) (wa_cons (we_str) (wa_cons (we_str) (wa_cons (we_str) (wa_cons (we_str) (wa_nil))))))))) (wg_name (pg_name (i := 2) nd rfl (by first | exact Or.inl rfl | exact Or.inr rfl))) (wss_one (ws_asg (we_callP D__law_pick noG (hr.mono (by decide)) tk (wa_cons (we_var (pv 0)) (wa_cons (we_callP D__law_words noG (hr.mono (by decide)) tk (wa_cons (we_var (pv 2)) (wa_nil)) B__law_words_1) (wa_nil))) B__law_pick_2) (wg_sub (W := wxD E) (hu_of hr) (we_var (pv 1)) (we_var (pv 2)) (fun a b c => pg_sub a b c)))) (fun i g b => ps_for (passes_of rfl) rfl i g b)) (wss_cons (ws_for (wi_seq (we_lst false (wa_cons (we_str) (wa_cons (we_str) (wa_nil))))) (wg_name (pg_name (i := 2) nd rfl (by first | exact Or.inl rfl | exact Or.inr rfl))) (wss_cons (ws_set (we_callP D__law_pick noG (hr.mono (by decide)) tk (wa_cons (we_var (pv 0)) (wa_cons (we_lst false (wa_cons (we_int) (wa_cons (we_int) (wa_cons (we_int) (wa_cons (we_int) (wa_nil)))))) (wa_nil))) B__law_pick_2) (fun q => ps_set (i := 3) nd rfl (by first | exact Or.inl rfl | exact Or.inr rfl) q)) (wss_one (ws_asg (we_lc false rfl nd (own := [("_law_word", 4)]) (wi_seq (we_callP D__law_words noG (hr.mono (by decide)) tk (wa_cons (we_var (pv 2)) (wa_nil)) B__law_words_1)) (blkOk_by (N := ["_law_draw", "_law_found", "_law_field", "_law_odds", "_law_word"]) (sc := defScope s__law_drawn_book) (by decide +kernel)) (fun s_ H_ C_ cl_ fp_ => wg_name (pg_name (i := 4) nd rfl (by first | exact Or.inl rfl | exact Or.inr rfl))) (fun s_ H_ C_ cl_ fp_ => wts_one (wt_cmp (op_eqU hr.units) sim_eq (we_callP D__law_take noG (hr.mono (by decide)) takes0 (wa_cons (we_var (pv 0)) (wa_cons (we_var (pv 3)) (wa_nil))) B__law_take_2) (we_int) (by rfl))) (fun s_ H_ C_ cl_ fp_ => we_var (pv 4)) (by decide)) (wg_sub (W := wxD E) (hu_of hr) (we_var (pv 1)) (we_var (pv 2)) (fun a b c => pg_sub a b c))))) (fun i g b => ps_for (passes_of rfl) rfl i g b)) (wss_one (ws_ret (we_fzI (we_var (pv 1)))))))
  exact ⟨_, Y⟩
theorem sc_need_word : FnScope ["field", "word", "words"] ["field", "word", "words"] (defScope s_need_word) := ⟨rfl, rfl, rfl, by decide +kernel, rfl, by decide +kernel, by decide +kernel⟩
theorem ok_need_word  (F : Fun K "need_word" "need_word" s_need_word f fd) (T : Txt mg) (Hx : ∀ c ∈ (xs0 : List Nat), PySem.W.exmOne K (.ref (CA c)) (.ref (CA 0)) = some true) (XE : ∀ c ∈ (xs0 : List Nat), ExcOk K (CA c)) (Xf : XFd K CA) (SMb : SM base) (C : Cst K CA mg) (Fl : Fld K CA) (Kt : KtOk K CA [7] kt0) (X_BadBook : Xmd P K mg (CA 3) "BadBook" "field" "field") : FnG P w K mg base false 3 f fd ["field", "word", "words"] (spD K CA 3 (bodyF 3 u_need_word)) := by
  have nd := (sc_need_word).nd
  refine okD F sc_need_word rfl rfl fun cd A outer s H E hg hr tk => ?_
  have Y : WSs (cxD P w K mg base ["field", "word", "words"] "need_word" s_need_word f cd A outer s H E) K CA (wxD E) (defBody s_need_word) _ _ := wss_one (ws_if (CM.WW.wt (ww_or (wt_not (wt_val (we_cb (sim_isX (fun c hc => (XE c hc).toXkC) Kt) (wa_cons (we_var (pv 1)) (wa_cons (we_ty (pe_bltn (by rfl) T.z_str boot_strU rfl)) (wa_nil))) (fun a => pe_callB call_isX (by rfl) T.z_isinstance boot_isinstanceU a)))) (ww_or1 (wt_cmp (op_notInU (hu_of hr)) (sim_in (neg := true)) (we_var (pv 1)) (we_var (pv 2)) (by rfl))))) (wss_one (ws_raiseX X_BadBook (hr.mono (by decide)) tk (wa_cons (we_var (pv 0)) (wa_nil)))) (wss_nil))
  exact ⟨_, Y⟩
theorem sc_need_words : FnScope ["field", "some", "words", "word"] ["field", "some", "words"] (defScope s_need_words) := ⟨rfl, rfl, rfl, by decide +kernel, rfl, by decide +kernel, by decide +kernel⟩
theorem ok_need_words {f_need_word : Addr} {fd_need_word : FuncData} (F : Fun K "need_words" "need_words" s_need_words f fd) (T : Txt mg) (Hx : ∀ c ∈ (xs0 : List Nat), PySem.W.exmOne K (.ref (CA c)) (.ref (CA 0)) = some true) (XE : ∀ c ∈ (xs0 : List Nat), ExcOk K (CA c)) (Xf : XFd K CA) (SMb : SM base) (C : Cst K CA mg) (Fl : Fld K CA) (Kt : KtOk K CA [7] kt0) (X_BadBook : Xmd P K mg (CA 3) "BadBook" "field" "field") (B_need_word_3 : KwB K CA fd_need_word ["field", "word", "words"] 3 [] (srcP 0 3)) (D_need_word : Df P w K mg base CA "need_word" false 3 ["field", "word", "words"] F_need_word f_need_word fd_need_word) : FnG P w K mg base false 4 f fd ["field", "some", "words"] (spD K CA 3 (bodyF 4 u_need_words)) := by
  have nd := (sc_need_words).nd
  refine okD F sc_need_words rfl rfl fun cd A outer s H E hg hr tk => ?_
  have Y : WSs (cxD P w K mg base ["field", "some", "words", "word"] "need_words" s_need_words f cd A outer s H E) K CA (wxD E) (defBody s_need_words) _ _ := wss_cons (ws_if (wt_not (wt_val (we_cb (sim_isT Kt) (wa_cons (we_var (pv 1)) (wa_cons (we_tup (wa_cons (we_ty (pe_bltn (by rfl) T.z_list boot_listU rfl)) (wa_cons (we_ty (pe_bltn (by rfl) T.z_tuple boot_tupleU rfl)) (wa_nil)))) (wa_nil))) (fun a => pe_callB call_isiTU (by rfl) T.z_isinstance boot_isinstanceU a)))) (wss_one (ws_raiseX X_BadBook (hr.mono (by decide)) tk (wa_cons (we_var (pv 0)) (wa_nil)))) (wss_nil)) (wss_cons (ws_for (wi_seq (we_var (pv 1))) (wg_name (pg_name (i := 3) nd rfl (by first | exact Or.inl rfl | exact Or.inr rfl))) (wss_one (ws_expr (we_callP D_need_word noG (hr.mono (by decide)) tk (wa_cons (we_var (pv 0)) (wa_cons (we_var (pv 3)) (wa_cons (we_var (pv 2)) (wa_nil)))) B_need_word_3))) (fun i g b => ps_for (passes_of rfl) rfl i g b)) (wss_one (ws_if (wt_cmp op_lt sim_cB (we_lenS (we_var (pv 1)) T.z_len T.z_set) (we_cb sim_len (wa_cons (we_var (pv 1)) (wa_nil)) (fun a => pe_callB (call_lenU rfl call_lenRd) (by rfl) T.z_len boot_lenU a)) (by rfl)) (wss_one (ws_raiseX X_BadBook (hr.mono (by decide)) tk (wa_cons (we_var (pv 0)) (wa_nil)))) (wss_nil))))
  exact ⟨_, Y⟩
theorem sc_Book_init : FnScope ["self", "up", "down", "writes", "moves", "finish", "counts", "bars", "notes"] ["self", "up", "down", "writes", "moves", "finish", "counts", "bars", "notes"] (defScope s_Book_init) := ⟨rfl, rfl, rfl, by decide +kernel, rfl, by decide +kernel, by decide +kernel⟩
theorem ok_Book_init {f_need_word : Addr} {fd_need_word : FuncData} {f_need_words : Addr} {fd_need_words : FuncData} (F : Fun K "__init__" "Book.__init__" s_Book_init f fd) (T : Txt mg) (Hx : ∀ c ∈ (xs0 : List Nat), PySem.W.exmOne K (.ref (CA c)) (.ref (CA 0)) = some true) (XE : ∀ c ∈ (xs0 : List Nat), ExcOk K (CA c)) (Xf : XFd K CA) (SMb : SM base) (C : Cst K CA mg) (Fl : Fld K CA) (Kt : KtOk K CA [7] kt0) (B_need_word_3 : KwB K CA fd_need_word ["field", "word", "words"] 3 [] (srcP 0 3)) (D_need_word : Df P w K mg base CA "need_word" false 3 ["field", "word", "words"] F_need_word f_need_word fd_need_word) (B_need_words_3 : KwB K CA fd_need_words ["field", "some", "words"] 3 [] (srcP 0 3)) (D_need_words : Df P w K mg base CA "need_words" false 4 ["field", "some", "words"] F_need_words f_need_words fd_need_words) : FnG P w K mg base false 5 f fd ["self", "up", "down", "writes", "moves", "finish", "counts", "bars", "notes"] (spD K CA 9 (bodyF 9 u_Book_init)) := by
  have nd := (sc_Book_init).nd
  refine okD F sc_Book_init rfl rfl fun cd A outer s H E hg hr tk => ?_
  have Y : WSs (cxD P w K mg base ["self", "up", "down", "writes", "moves", "finish", "counts", "bars", "notes"] "Book.__init__" s_Book_init f cd A outer s H E) K CA (wxD E) (defBody s_Book_init) _ _ := wss_cons (ws_expr (we_callP D_need_word noG (hr.mono (by decide)) tk (wa_cons (we_str) (wa_cons (we_var (pv 1)) (wa_cons (we_gv C.g_UPS) (wa_nil)))) B_need_word_3)) (wss_cons (ws_expr (we_callP D_need_word noG (hr.mono (by decide)) tk (wa_cons (we_str) (wa_cons (we_var (pv 2)) (wa_cons (we_gv C.g_DOWNS) (wa_nil)))) B_need_word_3)) (wss_cons (ws_expr (we_callP D_need_word noG (hr.mono (by decide)) tk (wa_cons (we_str) (wa_cons (we_var (pv 3)) (wa_cons (we_gv C.g_WRITES) (wa_nil)))) B_need_word_3)) (wss_cons (ws_expr (we_callP D_need_word noG (hr.mono (by decide)) tk (wa_cons (we_str) (wa_cons (we_var (pv 4)) (wa_cons (we_gv C.g_MOVES) (wa_nil)))) B_need_word_3)) (wss_cons (ws_expr (we_callP D_need_word noG (hr.mono (by decide)) tk (wa_cons (we_str) (wa_cons (we_var (pv 5)) (wa_cons (we_gv C.g_FINISHES) (wa_nil)))) B_need_word_3)) (wss_cons (ws_expr (we_callP D_need_word noG (hr.mono (by decide)) tk (wa_cons (we_str) (wa_cons (we_var (pv 6)) (wa_cons (we_gv C.g_COUNTS) (wa_nil)))) B_need_word_3)) (wss_cons (ws_expr (we_callP D_need_words noG (hr.mono (by decide)) tk (wa_cons (we_str) (wa_cons (we_var (pv 7)) (wa_cons (we_gv C.g_BARS) (wa_nil)))) B_need_words_3)) (wss_cons (ws_expr (we_callP D_need_words noG (hr.mono (by decide)) tk (wa_cons (we_str) (wa_cons (we_var (pv 8)) (wa_cons (we_gv C.g_NOTES) (wa_nil)))) B_need_words_3)) (wss_cons (ws_asg (we_tup (wa_cons (we_var (pv 1)) (wa_cons (we_var (pv 2)) (wa_cons (we_var (pv 3)) (wa_cons (we_var (pv 4)) (wa_cons (we_var (pv 5)) (wa_cons (we_var (pv 6)) (wa_nil)))))))) (wg_fld (W := wxD E) Fl.x_b_words (we_var (pv 0)))) (wss_cons (ws_asg (we_cb sim_tupOf (wa_cons (we_cb (sim_srt (nm := false)) (wa_cons (we_var (pv 7)) (wa_nil)) (fun a => pe_callB call_srt (by rfl) T.z_sorted boot_sortedU a)) (wa_nil)) (fun a => pe_callTy call_tupOf (by rfl) T.z_tuple boot_tupleU a)) (wg_fld (W := wxD E) Fl.x_b_bars (we_var (pv 0)))) (wss_one (ws_asg (we_cb sim_tupOf (wa_cons (we_cb (sim_srt (nm := false)) (wa_cons (we_var (pv 8)) (wa_nil)) (fun a => pe_callB call_srt (by rfl) T.z_sorted boot_sortedU a)) (wa_nil)) (fun a => pe_callTy call_tupOf (by rfl) T.z_tuple boot_tupleU a)) (wg_fld (W := wxD E) Fl.x_b_notes (we_var (pv 0))))))))))))))
  exact ⟨_, Y⟩
theorem sc__law_shuffled : FnScope ["_law_draw", "_law_some", "_law_left", "_law_found"] ["_law_draw", "_law_some"] (defScope s__law_shuffled) := ⟨rfl, rfl, rfl, by decide +kernel, rfl, by decide +kernel, by decide +kernel⟩
theorem ok__law_shuffled {f__law_take : Addr} {fd__law_take : FuncData} (F : Fun K "_law_shuffled" "_law_shuffled" s__law_shuffled f fd) (T : Txt mg) (Hx : ∀ c ∈ (xs0 : List Nat), PySem.W.exmOne K (.ref (CA c)) (.ref (CA 0)) = some true) (XE : ∀ c ∈ (xs0 : List Nat), ExcOk K (CA c)) (Xf : XFd K CA) (SMb : SM base) (C : Cst K CA mg) (Fl : Fld K CA) (Kt : KtOk K CA [7] kt0) (B__law_take_2 : KwB K CA fd__law_take ["_law_draw", "_law_size"] 2 [] (srcP 0 2)) (D__law_take : Df P w K mg base CA "_law_take" false 2 ["_law_draw", "_law_size"] F__law_take f__law_take fd__law_take) : FnG P w K mg base false 3 f fd ["_law_draw", "_law_some"] (spD K CA 2 (bodyF 4 u__law_shuffled)) := by
  have nd := (sc__law_shuffled).nd
  refine okD F sc__law_shuffled rfl rfl fun cd A outer s H E hg hr tk => ?_
  have Y : WSs (cxD P w K mg base ["_law_draw", "_law_some", "_law_left", "_law_found"] "_law_shuffled" s__law_shuffled f cd A outer s H E) K CA (wxD E) (defBody s__law_shuffled) _ _ := wss_cons (ws_par (wa_cons (we_cb (sim_listOf (nm := true)) (wa_cons (we_var (pv 1)) (wa_nil)) (fun a => pe_callTy call_listOf (by rfl) T.z_list boot_listU a)) (wa_cons (we_lst true (wa_nil)) (wa_nil))) (fun q => ps_par (i := 2) (j := 3) rfl nd rfl rfl (by decide) rfl rfl q (by rfl))) (wss_cons (ws_while 1000000 (wt_cmp (op_neU hr.units) sim_ne (we_var (pv 2)) (we_lst false (wa_nil)) (by rfl)) (wss_one (ws_expr (we_bm (T := "list") (r := rAppend) sim_append (we_var (pv 3)) (wa_cons (we_bm (T := "list") (r := rPopAt) sim_popAt (we_var (pv 2)) (wa_cons (we_callP D__law_take noG (hr.mono (by decide)) tk (wa_cons (we_var (pv 0)) (wa_cons (we_cb sim_len (wa_cons (we_var (pv 2)) (wa_nil)) (fun a => pe_callB (call_lenU rfl call_lenRd) (by rfl) T.z_len boot_lenU a)) (wa_nil))) B__law_take_2) (wa_nil)) (fun a b => pe_bm PySem.F.plainAttrs_list PySem.F.slot_list_pop PySem.F.type_list_pop mt_popAt a b)) (wa_nil)) (fun a b => pe_bm PySem.F.plainAttrs_list PySem.F.slot_list_append PySem.F.type_list_append mt_append a b)))) (fun c b => ps_while (passes_of rfl) c b)) (wss_one (ws_ret (we_fzI (we_var (pv 3))))))
  exact ⟨_, Y⟩
theorem sc__law_made_book : FnScope ["_law_draw", "_law_told", "_law_bars_here", "_law_notes_here", "_law_made"] ["_law_draw", "_law_told"] (defScope s__law_made_book) := ⟨rfl, rfl, rfl, by decide +kernel, rfl, by decide +kernel, by decide +kernel⟩
theorem ok__law_made_book {f__law_shuffled : Addr} {fd__law_shuffled : FuncData} {f_Book_init : Addr} {fd_Book_init : FuncData} (F : Fun K "_law_made_book" "_law_made_book" s__law_made_book f fd) (T : Txt mg) (Hx : ∀ c ∈ (xs0 : List Nat), PySem.W.exmOne K (.ref (CA c)) (.ref (CA 0)) = some true) (XE : ∀ c ∈ (xs0 : List Nat), ExcOk K (CA c)) (Xf : XFd K CA) (SMb : SM base) (C : Cst K CA mg) (Fl : Fld K CA) (Kt : KtOk K CA [7] kt0) (B__law_shuffled_2 : KwB K CA fd__law_shuffled ["_law_draw", "_law_some"] 2 [] (srcP 0 2)) (D__law_shuffled : Df P w K mg base CA "_law_shuffled" false 3 ["_law_draw", "_law_some"] F__law_shuffled f__law_shuffled fd__law_shuffled) (B_Book_init_1_up_down_writes_moves_finish_counts_bars_notes : KwB K CA fd_Book_init ["self", "up", "down", "writes", "moves", "finish", "counts", "bars", "notes"] 1 ["up", "down", "writes", "moves", "finish", "counts", "bars", "notes"] ([.p 0, .k 0, .k 1, .k 2, .k 3, .k 4, .k 5, .k 6, .k 7])) (N_Book : Mkd P w K mg base CA 7 "Book" 5 ["self", "up", "down", "writes", "moves", "finish", "counts", "bars", "notes"] F_Book_init f_Book_init fd_Book_init) : FnG P w K mg base false 7 f fd ["_law_draw", "_law_told"] (spD K CA 2 (bodyF 5 u__law_made_book)) := by
  have nd := (sc__law_made_book).nd
  refine okD F sc__law_made_book rfl rfl fun cd A outer s H E hg hr tk => ?_
  have Y : WSs (cxD P w K mg base ["_law_draw", "_law_told", "_law_bars_here", "_law_notes_here", "_law_made"] "_law_made_book" s__law_made_book f cd A outer s H E) K CA (wxD E) (defBody s__law_made_book) _ _ := wss_cons (ws_par (wa_cons (we_callP D__law_shuffled noG (hr.mono (by decide)) tk (wa_cons (we_var (pv 0)) (wa_cons (we_ix (ixU (hu_of hr)) sim_ix (we_var (pv 1)) (we_str)) (wa_nil))) B__law_shuffled_2) (wa_cons (we_callP D__law_shuffled noG (hr.mono (by decide)) tk (wa_cons (we_var (pv 0)) (wa_cons (we_ix (ixU (hu_of hr)) sim_ix (we_var (pv 1)) (we_str)) (wa_nil))) B__law_shuffled_2) (wa_nil))) (fun q => ps_par (i := 2) (j := 3) rfl nd rfl rfl (by decide) rfl rfl q (by rfl))) (wss_cons (ws_set (we_makeK0 true N_Book (hr.mono (by decide)) tk (wk_cons (we_ix (ixU (hu_of hr)) sim_ix (we_var (pv 1)) (we_str)) (wk_cons (we_ix (ixU (hu_of hr)) sim_ix (we_var (pv 1)) (we_str)) (wk_cons (we_ix (ixU (hu_of hr)) sim_ix (we_var (pv 1)) (we_str)) (wk_cons (we_ix (ixU (hu_of hr)) sim_ix (we_var (pv 1)) (we_str)) (wk_cons (we_ix (ixU (hu_of hr)) sim_ix (we_var (pv 1)) (we_str)) (wk_cons (we_ix (ixU (hu_of hr)) sim_ix (we_var (pv 1)) (we_str)) (wk_cons (we_cb sim_tupOf (wa_cons (we_var (pv 2)) (wa_nil)) (fun a => pe_callTy call_tupOf (by rfl) T.z_tuple boot_tupleU a)) (wk_cons (we_var (pv 3)) (wk_nil))))))))) B_Book_init_1_up_down_writes_moves_finish_counts_bars_notes) (fun q => ps_set (i := 4) nd rfl (by first | exact Or.inl rfl | exact Or.inr rfl) q)) (wss_one (ws_ret (we_var (pv 4)))))
  exact ⟨_, Y⟩
theorem sc__law_page : FnScope ["_law_told", "_law_rows", "_law_field", "_law_row"] ["_law_told"] (defScope s__law_page) := ⟨rfl, rfl, rfl, by decide +kernel, rfl, by decide +kernel, by decide +kernel⟩
theorem ok__law_page  (F : Fun K "_law_page" "_law_page" s__law_page f fd) (T : Txt mg) (Hx : ∀ c ∈ (xs0 : List Nat), PySem.W.exmOne K (.ref (CA c)) (.ref (CA 0)) = some true) (XE : ∀ c ∈ (xs0 : List Nat), ExcOk K (CA c)) (Xf : XFd K CA) (SMb : SM base) (C : Cst K CA mg) (Fl : Fld K CA) (Kt : KtOk K CA [7] kt0)  : FnG P w K mg base false 1 f fd ["_law_told"] (spD K CA 1 (bodyF 4 u__law_page)) := by
  have nd := (sc__law_page).nd
  refine okD F sc__law_page rfl rfl fun cd A outer s H E hg hr tk => ?_
  have Y : WSs (cxD P w K mg base ["_law_told", "_law_rows", "_law_field", "_law_row"] "_law_page" s__law_page f cd A outer s H E) K CA (wxD E) (defBody s__law_page) _ _ := wss_cons (ws_setLc false (i := 1) rfl nd rfl rfl (own := [("_law_field", 2)]) (wi_seq (we_lst false (wa_cons (we_str) (wa_cons (we_str) (wa_cons (we_str) (wa_cons (we_str) (wa_cons (we_str) (wa_cons (we_str) (wa_nil))))))))) (blkOk_by (N := ["_law_told", "_law_rows", "_law_field", "_law_row"]) (sc := defScope s__law_page) (by decide +kernel)) (fun s_ H_ C_ cl_ fp_ => wg_name (pg_name (i := 2) nd rfl (by first | exact Or.inl rfl | exact Or.inr rfl))) (fun s_ H_ C_ cl_ fp_ => wts_nil) (fun s_ H_ C_ cl_ fp_ => we_op op_addU (sim_add (nm := false)) (we_op op_addU (sim_add (nm := false)) (we_var (pv 2)) (we_str)) (we_ix (ixU (hu_of hr)) sim_ix (we_var (pv 0)) (we_var (pv 2)))) (by decide)) (wss_cons (ws_set (we_op op_addU (sim_add (nm := false)) (we_var (pv 1)) (we_lc false rfl nd (own := [("_law_field", 2)]) (wi_seq (we_lst false (wa_cons (we_str) (wa_cons (we_str) (wa_nil))))) (blkOk_by (N := ["_law_told", "_law_rows", "_law_field", "_law_row"]) (sc := defScope s__law_page) (by decide +kernel)) (fun s_ H_ C_ cl_ fp_ => wg_name (pg_name (i := 2) nd rfl (by first | exact Or.inl rfl | exact Or.inr rfl))) (fun s_ H_ C_ cl_ fp_ => wts_nil) (fun s_ H_ C_ cl_ fp_ => we_m1 sim_join (we_str) (we_op op_addU (sim_add (nm := false)) (we_lst false (wa_cons (we_var (pv 2)) (wa_nil))) (we_ix (ixU (hu_of hr)) sim_ix (we_var (pv 0)) (we_var (pv 2)))) (fun a b => pe_join a b)) (by decide))) (fun q => ps_set (i := 1) nd rfl (by first | exact Or.inl rfl | exact Or.inr rfl) q)) (wss_one (ws_ret (we_m1 sim_join (we_str) (we_lc false rfl nd (own := [("_law_row", 3)]) (wi_seq (we_var (pv 1))) (blkOk_by (N := ["_law_told", "_law_rows", "_law_field", "_law_row"]) (sc := defScope s__law_page) (by decide +kernel)) (fun s_ H_ C_ cl_ fp_ => wg_name (pg_name (i := 3) nd rfl (by first | exact Or.inl rfl | exact Or.inr rfl))) (fun s_ H_ C_ cl_ fp_ => wts_nil) (fun s_ H_ C_ cl_ fp_ => we_op op_addU (sim_add (nm := false)) (we_var (pv 3)) (we_str)) (by decide)) (fun a b => pe_join a b)))))
  exact ⟨_, Y⟩
theorem sc_lines_of : FnScope ["text", "parts"] ["text"] (defScope s_lines_of) := ⟨rfl, rfl, rfl, by decide +kernel, rfl, by decide +kernel, by decide +kernel⟩
theorem ok_lines_of  (F : Fun K "lines_of" "lines_of" s_lines_of f fd) (T : Txt mg) (Hx : ∀ c ∈ (xs0 : List Nat), PySem.W.exmOne K (.ref (CA c)) (.ref (CA 0)) = some true) (XE : ∀ c ∈ (xs0 : List Nat), ExcOk K (CA c)) (Xf : XFd K CA) (SMb : SM base) (C : Cst K CA mg) (Fl : Fld K CA) (Kt : KtOk K CA [7] kt0)  : FnG P w K mg base false 1 f fd ["text"] (spD K CA 1 (bodyF 2 u_lines_of)) := by
  have nd := (sc_lines_of).nd
  refine okD F sc_lines_of rfl rfl fun cd A outer s H E hg hr tk => ?_
  have Y : WSs (cxD P w K mg base ["text", "parts"] "lines_of" s_lines_of f cd A outer s H E) K CA (wxD E) (defBody s_lines_of) _ _ := wss_cons (ws_set (we_m1 (sim_split (nm := false)) (we_var (pv 0)) (we_str) (fun a b => pe_split a b)) (fun q => ps_set (i := 1) nd rfl (by first | exact Or.inl rfl | exact Or.inr rfl) q)) (wss_one (ws_ret (we_tup (wa_cons (we_slice false (we_var (pv 1)) (wo_none) (wo_some (we_neg (we_int)))) (wa_cons (we_ix (ixU (hu_of hr)) sim_ix (we_var (pv 1)) (we_neg (we_int))) (wa_nil))))))
  exact ⟨_, Y⟩
theorem sc_line_words : FnScope ["line", "at", "words", "name", "known", "word"] ["line", "at"] (defScope s_line_words) := ⟨rfl, rfl, rfl, by decide +kernel, rfl, by decide +kernel, by decide +kernel⟩
theorem ok_line_words  (F : Fun K "line_words" "line_words" s_line_words f fd) (T : Txt mg) (Hx : ∀ c ∈ (xs0 : List Nat), PySem.W.exmOne K (.ref (CA c)) (.ref (CA 0)) = some true) (XE : ∀ c ∈ (xs0 : List Nat), ExcOk K (CA c)) (Xf : XFd K CA) (SMb : SM base) (C : Cst K CA mg) (Fl : Fld K CA) (Kt : KtOk K CA [7] kt0)  : FnG P w K mg base false 1 f fd ["line", "at"] (spD K CA 2 (bodyF 6 u_line_words)) := by
  have nd := (sc_line_words).nd
  refine okD F sc_line_words rfl rfl fun cd A outer s H E hg hr tk => ?_
  have Y : WSs (cxD P w K mg base ["line", "at", "words", "name", "known", "word"] "line_words" s_line_words f cd A outer s H E) K CA (wxD E) (defBody s_line_words) _ _ := wss_cons (ws_set (we_m1 (sim_split (nm := false)) (we_var (pv 0)) (we_str) (fun a b => pe_split a b)) (fun q => ps_set (i := 2) nd rfl (by first | exact Or.inl rfl | exact Or.inr rfl) q)) (wss_cons (ws_if (wt_cmp op_lt sim_cB (we_var (pv 1)) (we_cb sim_len (wa_cons (we_gv C.g_FIELDS) (wa_nil)) (fun a => pe_callB (call_lenU rfl call_lenRd) (by rfl) T.z_len boot_lenU a)) (by rfl)) (wss_cons (ws_asg (we_ix (ixU (hu_of hr)) sim_ix (we_gv C.g_FIELDS) (we_var (pv 1))) (wg_tup (n := 2) rfl (wgs_cons (wg_name (pg_name (i := 3) nd rfl (by first | exact Or.inl rfl | exact Or.inr rfl))) (wgs_cons (wg_name (pg_name (i := 4) nd rfl (by first | exact Or.inl rfl | exact Or.inr rfl))) (wgs_nil))))) (wss_one (ws_ret (we_ifExp (CM.WW.wt (ww_and (wt_cmp (op_eqU hr.units) sim_eq (we_cb sim_len (wa_cons (we_var (pv 2)) (wa_nil)) (fun a => pe_callB (call_lenU rfl call_lenRd) (by rfl) T.z_len boot_lenU a)) (we_int) (by rfl)) (ww_and (wt_cmp (op_eqU hr.units) sim_eq (we_ix (ixU (hu_of hr)) sim_ix (we_var (pv 2)) (we_int)) (we_var (pv 3)) (by rfl)) (ww_and1 (wt_cmp (op_inU (hu_of hr)) (sim_in (neg := false)) (we_ix (ixU (hu_of hr)) sim_ix (we_var (pv 2)) (we_int)) (we_var (pv 4)) (by rfl)))))) (we_slice false (we_var (pv 2)) (wo_some (we_int)) (wo_none)) (we_non))))) (wss_nil)) (wss_cons (ws_asg (we_ix (ixU (hu_of hr)) sim_ix (we_gv C.g_SETS) (we_op op_sub sim_subI (we_var (pv 1)) (we_cb sim_len (wa_cons (we_gv C.g_FIELDS) (wa_nil)) (fun a => pe_callB (call_lenU rfl call_lenRd) (by rfl) T.z_len boot_lenU a)))) (wg_tup (n := 2) rfl (wgs_cons (wg_name (pg_name (i := 3) nd rfl (by first | exact Or.inl rfl | exact Or.inr rfl))) (wgs_cons (wg_name (pg_name (i := 4) nd rfl (by first | exact Or.inl rfl | exact Or.inr rfl))) (wgs_nil))))) (wss_cons (ws_if (CM.WW.wt (ww_or (wt_cmp (op_neU hr.units) sim_ne (we_ix (ixU (hu_of hr)) sim_ix (we_var (pv 2)) (we_int)) (we_var (pv 3)) (by rfl)) (ww_or1 (wt_not (wt_val (we_cb sim_all (wa_cons (we_lc false rfl nd (own := [("word", 5)]) (wi_seq (we_slice false (we_var (pv 2)) (wo_some (we_int)) (wo_none))) (blkOk_by (N := ["line", "at", "words", "name", "known", "word"]) (sc := defScope s_line_words) (by decide +kernel)) (fun s_ H_ C_ cl_ fp_ => wg_name (pg_name (i := 5) nd rfl (by first | exact Or.inl rfl | exact Or.inr rfl))) (fun s_ H_ C_ cl_ fp_ => wts_nil) (fun s_ H_ C_ cl_ fp_ => we_cmp (op_inU (hu_of hr)) (sim_in (neg := false)) (we_var (pv 5)) (we_var (pv 4)) (by rfl)) (by decide)) (wa_nil)) (fun a => pe_callB call_allU (by rfl) T.z_all boot_allU a))))))) (wss_one (ws_ret (we_non))) (wss_nil)) (wss_one (ws_ret (we_ifExp (wt_cmp (op_eqU hr.units) sim_eq (we_slice false (we_var (pv 2)) (wo_some (we_int)) (wo_none)) (we_sortSetT false (we_slice false (we_var (pv 2)) (wo_some (we_int)) (wo_none)) T.z_sorted T.z_set) (by rfl)) (we_slice false (we_var (pv 2)) (wo_some (we_int)) (wo_none)) (we_non)))))))
  exact ⟨_, Y⟩
theorem sc_read_book : FnScope ["text", "lines", "rest", "found", "at", "line", "words", "up", "down", "writes", "moves", "finish", "counts", "bars", "notes"] ["text"] (defScope s_read_book) := ⟨rfl, rfl, rfl, by decide +kernel, rfl, by decide +kernel, by decide +kernel⟩
theorem ok_read_book {f_lines_of : Addr} {fd_lines_of : FuncData} {f_line_words : Addr} {fd_line_words : FuncData} {f_Book_init : Addr} {fd_Book_init : FuncData} (F : Fun K "read_book" "read_book" s_read_book f fd) (T : Txt mg) (Hx : ∀ c ∈ (xs0 : List Nat), PySem.W.exmOne K (.ref (CA c)) (.ref (CA 0)) = some true) (XE : ∀ c ∈ (xs0 : List Nat), ExcOk K (CA c)) (Xf : XFd K CA) (SMb : SM base) (C : Cst K CA mg) (Fl : Fld K CA) (Kt : KtOk K CA [7] kt0) (X_BadText : Xmd P K mg (CA 6) "BadText" "line" "line") (B_lines_of_1 : KwB K CA fd_lines_of ["text"] 1 [] (srcP 0 1)) (D_lines_of : Df P w K mg base CA "lines_of" false 1 ["text"] F_lines_of f_lines_of fd_lines_of) (B_line_words_2 : KwB K CA fd_line_words ["line", "at"] 2 [] (srcP 0 2)) (D_line_words : Df P w K mg base CA "line_words" false 1 ["line", "at"] F_line_words f_line_words fd_line_words) (B_Book_init_1_up_down_writes_moves_finish_counts_bars_notes : KwB K CA fd_Book_init ["self", "up", "down", "writes", "moves", "finish", "counts", "bars", "notes"] 1 ["up", "down", "writes", "moves", "finish", "counts", "bars", "notes"] ([.p 0, .k 0, .k 1, .k 2, .k 3, .k 4, .k 5, .k 6, .k 7])) (N_Book : Mkd P w K mg base CA 7 "Book" 5 ["self", "up", "down", "writes", "moves", "finish", "counts", "bars", "notes"] F_Book_init f_Book_init fd_Book_init) : FnG P w K mg base false 7 f fd ["text"] (spD K CA 1 (bodyF 15 u_read_book)) := by
  have nd := (sc_read_book).nd
  refine okD F sc_read_book rfl rfl fun cd A outer s H E hg hr tk => ?_
  have Y : WSs (cxD P w K mg base ["text", "lines", "rest", "found", "at", "line", "words", "up", "down", "writes", "moves", "finish", "counts", "bars", "notes"] "read_book" s_read_book f cd A outer s H E) K CA (wxD E) (defBody s_read_book) _ _ := wss_cons (ws_if (wt_not (wt_val (we_cb (sim_isX (fun c hc => (XE c hc).toXkC) Kt) (wa_cons (we_var (pv 0)) (wa_cons (we_ty (pe_bltn (by rfl) T.z_str boot_strU rfl)) (wa_nil))) (fun a => pe_callB call_isX (by rfl) T.z_isinstance boot_isinstanceU a)))) (wss_one (ws_raiseX X_BadText (hr.mono (by decide)) tk (wa_cons (we_int) (wa_nil)))) (wss_nil)) (wss_cons (ws_asg (we_callP D_lines_of noG (hr.mono (by decide)) tk (wa_cons (we_var (pv 0)) (wa_nil)) B_lines_of_1) (wg_tup (n := 2) rfl (wgs_cons (wg_name (pg_name (i := 1) nd rfl (by first | exact Or.inl rfl | exact Or.inr rfl))) (wgs_cons (wg_name (pg_name (i := 2) nd rfl (by first | exact Or.inl rfl | exact Or.inr rfl))) (wgs_nil))))) (wss_cons (ws_set (we_lst true (wa_nil)) (fun q => ps_set (i := 3) nd rfl (by first | exact Or.inl rfl | exact Or.inr rfl) q)) (wss_cons (ws_for (wi_enumT (wa_cons (we_var (pv 1)) (wa_nil)) (fun a => pi_enumT (by rfl) T.z_enumerate a)) (wg_tup (n := 2) rfl (wgs_cons (wg_name (pg_name (i := 4) nd rfl (by first | exact Or.inl rfl | exact Or.inr rfl))) (wgs_cons (wg_name (pg_name (i := 5) nd rfl (by first | exact Or.inl rfl | exact Or.inr rfl))) (wgs_nil)))) (wss_cons (ws_set (we_ifExp (wt_cmp op_lt sim_cB (we_var (pv 4)) (we_gv C.g_LINES) (by rfl)) (we_callP D_line_words noG (hr.mono (by decide)) tk (wa_cons (we_var (pv 5)) (wa_cons (we_var (pv 4)) (wa_nil))) B_line_words_2) (we_non)) (fun q => ps_set (i := 6) nd rfl (by first | exact Or.inl rfl | exact Or.inr rfl) q)) (wss_cons (ws_if (wt_cmp op_isN sim_isN (we_var (pv 6)) (we_non) (by rfl)) (wss_one (ws_raiseX X_BadText (hr.mono (by decide)) tk (wa_cons (we_var (pv 4)) (wa_nil)))) (wss_nil)) (wss_one (ws_expr (we_bm (T := "list") (r := rAppend) sim_append (we_var (pv 3)) (wa_cons (we_var (pv 6)) (wa_nil)) (fun a b => pe_bm PySem.F.plainAttrs_list PySem.F.slot_list_append PySem.F.type_list_append mt_append a b)))))) (fun i g b => ps_for (passes_of rfl) rfl i g b)) (wss_cons (ws_if (CM.WW.wt (ww_or (wt_cmp (op_neU hr.units) sim_ne (we_var (pv 2)) (we_str) (by rfl)) (ww_or1 (wt_cmp op_lt sim_cB (we_cb sim_len (wa_cons (we_var (pv 3)) (wa_nil)) (fun a => pe_callB (call_lenU rfl call_lenRd) (by rfl) T.z_len boot_lenU a)) (we_gv C.g_LINES) (by rfl))))) (wss_one (ws_raiseX X_BadText (hr.mono (by decide)) tk (wa_cons (we_cb sim_len (wa_cons (we_var (pv 3)) (wa_nil)) (fun a => pe_callB (call_lenU rfl call_lenRd) (by rfl) T.z_len boot_lenU a)) (wa_nil)))) (wss_nil)) (wss_cons (ws_asg (we_var (pv 3)) (wg_unl (n := 8) rfl (wgs_cons (wg_name (pg_name (i := 7) nd rfl (by first | exact Or.inl rfl | exact Or.inr rfl))) (wgs_cons (wg_name (pg_name (i := 8) nd rfl (by first | exact Or.inl rfl | exact Or.inr rfl))) (wgs_cons (wg_name (pg_name (i := 9) nd rfl (by first | exact Or.inl rfl | exact Or.inr rfl))) (wgs_cons (wg_name (pg_name (i := 10) nd rfl (by first | exact Or.inl rfl | exact Or.inr rfl))) (wgs_cons (wg_name (pg_name (i := 11) nd rfl (by first | exact Or.inl rfl | exact Or.inr rfl))) (wgs_cons (wg_name (pg_name (i := 12) nd rfl (by first | exact Or.inl rfl | exact Or.inr rfl))) (wgs_cons (wg_name (pg_name (i := 13) nd rfl (by first | exact Or.inl rfl | exact Or.inr rfl))) (wgs_cons (wg_name (pg_name (i := 14) nd rfl (by first | exact Or.inl rfl | exact Or.inr rfl))) (wgs_nil))))))))))) (wss_one (ws_ret (we_makeK0 true N_Book (hr.mono (by decide)) tk (wk_cons (we_ix (ixU (hu_of hr)) sim_ix (we_var (pv 7)) (we_int)) (wk_cons (we_ix (ixU (hu_of hr)) sim_ix (we_var (pv 8)) (we_int)) (wk_cons (we_ix (ixU (hu_of hr)) sim_ix (we_var (pv 9)) (we_int)) (wk_cons (we_ix (ixU (hu_of hr)) sim_ix (we_var (pv 10)) (we_int)) (wk_cons (we_ix (ixU (hu_of hr)) sim_ix (we_var (pv 11)) (we_int)) (wk_cons (we_ix (ixU (hu_of hr)) sim_ix (we_var (pv 12)) (we_int)) (wk_cons (we_var (pv 13)) (wk_cons (we_var (pv 14)) (wk_nil))))))))) B_Book_init_1_up_down_writes_moves_finish_counts_bars_notes))))))))
  exact ⟨_, Y⟩
theorem sc__law_refusal : FnScope ["_law_work", "_law_error", "_law_marks"] ["_law_work"] (defScope s__law_refusal) := ⟨rfl, rfl, rfl, by decide +kernel, rfl, by decide +kernel, by decide +kernel⟩
theorem ok__law_refusal  (kb : Nat) (F : Fun K "_law_refusal" "_law_refusal" s__law_refusal f fd) (T : Txt mg) (Hx : ∀ c ∈ (xs0 : List Nat), PySem.W.exmOne K (.ref (CA c)) (.ref (CA 0)) = some true) (XE : ∀ c ∈ (xs0 : List Nat), ExcOk K (CA c)) (Xf : XFd K CA) (SMb : SM base) (C : Cst K CA mg) (Fl : Fld K CA) (Kt : KtOk K CA [7] kt0) (G__law_caught : Cgt K CA mg "_law_caught" 0) : FnL P w K mg base CA false (kb + 3) kb f fd ["_law_work"] 0 F__law_refusal := by
  have nd := (sc__law_refusal).nd
  refine okL (k := kb + 2) F sc__law_refusal rfl rfl fun cd X f_ c_ tl A outer s H e1 e2 e3 e4 e5 hg hr LF hc tk => ?_
  have Y : WSs (cxD P w K mg base ["_law_work", "_law_error", "_law_marks"] "_law_refusal" s__law_refusal f cd A outer s H E00) K CA (wxD E00) ((defBody s__law_refusal).drop 1) _ _ := wss_cons (ws_if (wt_cmp op_isN sim_isN (we_var (pv 1)) (we_non) (by rfl)) (wss_one (ws_ret (we_tup (wa_cons (we_str) (wa_cons (we_non) (wa_nil)))))) (wss_nil)) (wss_cons (ws_set (we_lst false (wa_cons (we_cb (sim_isX (fun c hc => (XE c hc).toXkC) Kt) (wa_cons (we_var (pv 1)) (wa_cons (we_gv C.g_BadBook) (wa_nil))) (fun a => pe_callB call_isX (by rfl) T.z_isinstance boot_isinstanceU a)) (wa_cons (we_cb (sim_isX (fun c hc => (XE c hc).toXkC) Kt) (wa_cons (we_var (pv 1)) (wa_cons (we_gv C.g_BadNumber) (wa_nil))) (fun a => pe_callB call_isX (by rfl) T.z_isinstance boot_isinstanceU a)) (wa_cons (we_cb (sim_isX (fun c hc => (XE c hc).toXkC) Kt) (wa_cons (we_var (pv 1)) (wa_cons (we_gv C.g_BadDeed) (wa_nil))) (fun a => pe_callB call_isX (by rfl) T.z_isinstance boot_isinstanceU a)) (wa_nil))))) (fun q => ps_set (i := 2) nd rfl (by first | exact Or.inl rfl | exact Or.inr rfl) q)) (wss_cons (ws_set (we_op op_addU (sim_add (nm := false)) (we_var (pv 2)) (we_lst false (wa_cons (we_cb (sim_isX (fun c hc => (XE c hc).toXkC) Kt) (wa_cons (we_var (pv 1)) (wa_cons (we_gv C.g_BadText) (wa_nil))) (fun a => pe_callB call_isX (by rfl) T.z_isinstance boot_isinstanceU a)) (wa_cons (we_cb (sim_isX (fun c hc => (XE c hc).toXkC) Kt) (wa_cons (we_var (pv 1)) (wa_cons (we_gv C.g_BadChain) (wa_nil))) (fun a => pe_callB call_isX (by rfl) T.z_isinstance boot_isinstanceU a)) (wa_cons (we_cb (sim_isX (fun c hc => (XE c hc).toXkC) Kt) (wa_cons (we_var (pv 1)) (wa_cons (we_gv C.g_BadPlan) (wa_nil))) (fun a => pe_callB call_isX (by rfl) T.z_isinstance boot_isinstanceU a)) (wa_nil)))))) (fun q => ps_set (i := 2) nd rfl (by first | exact Or.inl rfl | exact Or.inr rfl) q)) (wss_cons (ws_if (CM.WW.wt (ww_or (wt_cmp (op_neU hr.units) sim_ne (we_bm (T := "list") (r := rCntB K) sim_cntB (we_var (pv 2)) (wa_cons (we_bl) (wa_nil)) (fun a b => pe_bm PySem.F.plainAttrs_list PySem.F.slot_list_count PySem.F.type_list_count mt_bcount a b)) (we_int) (by rfl)) (ww_or1 (wt_not (wt_val (we_cb (sim_isX (fun c hc => (XE c hc).toXkC) Kt) (wa_cons (we_var (pv 1)) (wa_cons (we_ty (pe_bltn (by rfl) T.z_ValueError boot_ValueErrorU rfl)) (wa_nil))) (fun a => pe_callB call_isX (by rfl) T.z_isinstance boot_isinstanceU a))))))) (wss_one (ws_ret (we_tup (wa_cons (we_str) (wa_cons (we_non) (wa_nil)))))) (wss_nil)) (wss_cons (ws_if (wt_val (we_ix (ixU (hu_of hr)) sim_ix (we_var (pv 2)) (we_int))) (wss_one (ws_ret (we_tup (wa_cons (we_str) (wa_cons (we_xf Xf.x_field (we_var (pv 1))) (wa_nil)))))) (wss_nil)) (wss_cons (ws_if (wt_val (we_ix (ixU (hu_of hr)) sim_ix (we_var (pv 2)) (we_int))) (wss_one (ws_ret (we_tup (wa_cons (we_str) (wa_cons (we_xf Xf.x_number (we_var (pv 1))) (wa_nil)))))) (wss_nil)) (wss_cons (ws_if (wt_val (we_ix (ixU (hu_of hr)) sim_ix (we_var (pv 2)) (we_int))) (wss_one (ws_ret (we_tup (wa_cons (we_str) (wa_cons (we_xf Xf.x_at (we_var (pv 1))) (wa_nil)))))) (wss_nil)) (wss_one (ws_ret (we_ifExp (wt_val (we_ix (ixU (hu_of hr)) sim_ix (we_var (pv 2)) (we_int))) (we_tup (wa_cons (we_str) (wa_cons (we_xf Xf.x_line (we_var (pv 1))) (wa_nil)))) (we_tup (wa_cons (we_ix (ixU (hu_of hr)) sim_ix (we_lst false (wa_cons (we_str) (wa_cons (we_str) (wa_nil)))) (we_cb sim_int (wa_cons (we_ix (ixU (hu_of hr)) sim_ix (we_var (pv 2)) (we_int)) (wa_nil)) (fun a => pe_callTy call_int1 (by rfl) T.z_int boot_intU a))) (wa_cons (we_non) (wa_nil)))))))))))))
  exact ⟨_, pss_cons (ps_set (i := 1) nd rfl (by first | exact Or.inl rfl | exact Or.inr rfl) (pe_cght LF G__law_caught e1 e2 e3 e4 e5 rfl (hr.mono (by omega)) rfl (.inl rfl))) Y.pe, fun m h r_ hR hsim => simL_seq (simL_asg (simL_caught Hx hsim hc) sim_gName) Y.sim⟩
theorem sc__law_is : FnScope ["_law_work", "_law_word", "_law_kept"] ["_law_work", "_law_word", "_law_kept"] (defScope s__law_is) := ⟨rfl, rfl, rfl, by decide +kernel, rfl, by decide +kernel, by decide +kernel⟩
def cmpE : List Stmt → Expr
  | [.Return (some (.Compare _ _ [e] _)) _] => e
  | _ => .Name "x" ⟨0, 0, 0, 0⟩
theorem ok__law_is  (kb : Nat) (F : Fun K "_law_is" "_law_is" s__law_is f fd) (T : Txt mg) (Hx : ∀ c ∈ (xs0 : List Nat), PySem.W.exmOne K (.ref (CA c)) (.ref (CA 0)) = some true) (XE : ∀ c ∈ (xs0 : List Nat), ExcOk K (CA c)) (Xf : XFd K CA) (SMb : SM base) (C : Cst K CA mg) (Fl : Fld K CA) (Kt : KtOk K CA [7] kt0) (L__law_refusal : ∀ kb : Nat, Dl P w K mg base CA "_law_refusal" false (kb + 3) kb ["_law_work"] 0 F__law_refusal) : FnL P w K mg base CA true (kb + 4) kb f fd ["_law_work", "_law_word", "_law_kept"] 2 F__law_is := by
  have nd := (sc__law_is).nd
  refine okL (k := kb + 3) F sc__law_is rfl rfl fun cd X f_ c_ tl A outer s H e1 e2 e3 e4 e5 hg hr LF hc tk => ?_
  have Y : WE (cxD P w K mg base ["_law_work", "_law_word", "_law_kept"] "_law_is" s__law_is f cd A outer s H E00) K CA (wxD E00) (cmpE (defBody s__law_is)) _ _ := we_cb sim_repA (wa_cons (we_tup (wa_cons (we_var (pv 1)) (wa_cons (we_var (pv 2)) (wa_nil)))) (wa_nil)) (fun a => pe_callB (call_repA SMb (hg rfl) hr.units) (by rfl) T.z_repr boot_reprU a)
  exact ⟨_, pss_one (ps_ret (pe_cmpR (op_eqU hr.units) (pe_callB (call_repA SMb (hg rfl) hr.units) (by rfl) T.z_repr boot_reprU (pa_cons (pe_lamfn LF (L__law_refusal kb) e1 e2 e3 e4 e5 rfl noG (hr.mono (by omega)) rfl (.inl rfl)) pa_nil)) Y.pe rfl)), fun m h r_ hR hsim => simL_ret (simL_op sim_eq (simL_CB sim_repA (simL_cons (simL_fn hsim hc) (wa_nil (X := cxD P w K mg base ["_law_work", "_law_word", "_law_kept"] "_law_is" s__law_is f cd A outer s H E00)).sim)) Y.sim)⟩
theorem sc_Book_eq : FnScope ["self", "other"] ["self", "other"] (defScope s_Book_eq) := ⟨rfl, rfl, rfl, by decide +kernel, rfl, by decide +kernel, by decide +kernel⟩
theorem ok_Book_eq  (F : Fun K "__eq__" "Book.__eq__" s_Book_eq f fd) (T : Txt mg) (Hx : ∀ c ∈ (xs0 : List Nat), PySem.W.exmOne K (.ref (CA c)) (.ref (CA 0)) = some true) (XE : ∀ c ∈ (xs0 : List Nat), ExcOk K (CA c)) (Xf : XFd K CA) (SMb : SM base) (C : Cst K CA mg) (Fl : Fld K CA) (Kt : KtOk K CA [7] kt0)  : FnG P w K mg base false 1 f fd ["self", "other"] (spD K CA 2 (bodyF 2 u_Book_eq)) := by
  have nd := (sc_Book_eq).nd
  refine okD F sc_Book_eq rfl rfl fun cd A outer s H E hg hr tk => ?_
  have Y : WSs (cxD P w K mg base ["self", "other"] "Book.__eq__" s_Book_eq f cd A outer s H E) K CA (wxD E) (defBody s_Book_eq) _ _ := wss_cons (ws_if (wt_not (wt_val (we_cb (sim_isX (fun c hc => (XE c hc).toXkC) Kt) (wa_cons (we_var (pv 1)) (wa_cons (we_gv C.g_Book) (wa_nil))) (fun a => pe_callB call_isX (by rfl) T.z_isinstance boot_isinstanceU a)))) (wss_one (ws_ret (we_bl))) (wss_nil)) (wss_one (ws_ret (we_and (we_cmp (op_eqU hr.units) sim_eq (we_fld Fl.x_b_words (we_var (pv 0))) (we_fld Fl.x_b_words (we_var (pv 1))) (by rfl)) (we_and (we_cmp (op_eqU hr.units) sim_eq (we_fld Fl.x_b_bars (we_var (pv 0))) (we_fld Fl.x_b_bars (we_var (pv 1))) (by rfl)) (we_one (we_cmp (op_eqU hr.units) sim_eq (we_fld Fl.x_b_notes (we_var (pv 0))) (we_fld Fl.x_b_notes (we_var (pv 1))) (by rfl)))))))
  exact ⟨_, Y⟩
theorem sc_Book_notes : FnScope ["self"] ["self"] (defScope s_Book_notes) := ⟨rfl, rfl, rfl, by decide +kernel, rfl, by decide +kernel, by decide +kernel⟩
theorem ok_Book_notes  (F : Fun K "notes" "Book.notes" s_Book_notes f fd) (T : Txt mg) (Hx : ∀ c ∈ (xs0 : List Nat), PySem.W.exmOne K (.ref (CA c)) (.ref (CA 0)) = some true) (XE : ∀ c ∈ (xs0 : List Nat), ExcOk K (CA c)) (Xf : XFd K CA) (SMb : SM base) (C : Cst K CA mg) (Fl : Fld K CA) (Kt : KtOk K CA [7] kt0)  : FnOk P w K mg base L2.CX0 1 f fd ["self"] (spD K CA 1 (noxF (bodyF 1 u_Book_notes))) := by
  have nd := (sc_Book_notes).nd
  refine okP F sc_Book_notes rfl rfl fun cd A outer s H E hr => ?_
  have Y : WSs (cxOf L2.CX0 P w K mg base ["self"] "Book.notes" (defScope s_Book_notes) f cd A outer s H E).nox K CA W0 (defBody s_Book_notes) _ _ := wss_one (ws_ret (we_fld Fl.x_b_notes (we_var (pv 0))))
  exact ⟨_, Y⟩
theorem sc__law_odd : FnScope ["_law_draw", "_law_some"] ["_law_draw"] (defScope s__law_odd) := ⟨rfl, rfl, rfl, by decide +kernel, rfl, by decide +kernel, by decide +kernel⟩
theorem ok__law_odd {f__law_pick : Addr} {fd__law_pick : FuncData} (F : Fun K "_law_odd" "_law_odd" s__law_odd f fd) (T : Txt mg) (Hx : ∀ c ∈ (xs0 : List Nat), PySem.W.exmOne K (.ref (CA c)) (.ref (CA 0)) = some true) (XE : ∀ c ∈ (xs0 : List Nat), ExcOk K (CA c)) (Xf : XFd K CA) (SMb : SM base) (C : Cst K CA mg) (Fl : Fld K CA) (Kt : KtOk K CA [7] kt0) (B__law_pick_2 : KwB K CA fd__law_pick ["_law_draw", "_law_some"] 2 [] (srcP 0 2)) (D__law_pick : Df P w K mg base CA "_law_pick" false 3 ["_law_draw", "_law_some"] F__law_pick f__law_pick fd__law_pick) : FnG P w K mg base false 4 f fd ["_law_draw"] (spD K CA 1 (bodyF 2 u__law_odd)) := by
  have nd := (sc__law_odd).nd
  refine okD F sc__law_odd rfl rfl fun cd A outer s H E hg hr tk => ?_
  have Y : WSs (cxD P w K mg base ["_law_draw", "_law_some"] "_law_odd" s__law_odd f cd A outer s H E) K CA (wxD E) (defBody s__law_odd) _ _ := wss_cons (ws_set (we_lst false (wa_cons (we_non) (wa_cons (we_bl) (wa_cons (we_bl) (wa_cons (we_neg (we_int)) (wa_cons (we_int) (wa_cons (we_int) (wa_cons (we_op op_pow sim_pow (we_int) (we_int)) (wa_cons (we_str) (wa_cons (we_str) (wa_cons (we_str) (wa_cons (we_str) (wa_cons (we_tup (wa_nil)) (wa_cons (we_tup (wa_cons (we_int) (wa_nil))) (wa_cons (we_lst false (wa_nil)) (wa_cons (we_lst false (wa_cons (we_int) (wa_nil))) (wa_cons (we_dnew false) (wa_cons (we_disp false (wp_cons (we_int) (we_int) (wp_nil)) (by rfl) (by rfl) (by decide) (by decide)) (wa_cons (we_tup (wa_cons (we_tup (wa_nil)) (wa_nil))) (wa_nil)))))))))))))))))))) (fun q => ps_set (i := 1) nd rfl (by first | exact Or.inl rfl | exact Or.inr rfl) q)) (wss_one (ws_ret (we_callP D__law_pick noG (hr.mono (by decide)) tk (wa_cons (we_var (pv 0)) (wa_cons (we_op op_addU (sim_add (nm := false)) (we_var (pv 1)) (we_lst false (wa_cons (we_tup (wa_cons (we_str) (wa_cons (we_int) (wa_cons (we_int) (wa_nil))))) (wa_cons (we_tup (wa_cons (we_str) (wa_nil))) (wa_cons (we_tup (wa_cons (we_str) (wa_cons (we_int) (wa_cons (we_int) (wa_cons (we_int) (wa_nil)))))) (wa_cons (we_lst false (wa_cons (we_tup (wa_cons (we_int) (wa_nil))) (wa_nil))) (wa_cons (we_str) (wa_cons (we_tup (wa_cons (we_bl) (wa_nil))) (wa_cons (we_tup (wa_cons (we_non) (wa_nil))) (wa_nil)))))))))) (wa_nil))) B__law_pick_2)))
  exact ⟨_, Y⟩
theorem sc_need_book : FnScope ["book"] ["book"] (defScope s_need_book) := ⟨rfl, rfl, rfl, by decide +kernel, rfl, by decide +kernel, by decide +kernel⟩
theorem ok_need_book  (F : Fun K "need_book" "need_book" s_need_book f fd) (T : Txt mg) (Hx : ∀ c ∈ (xs0 : List Nat), PySem.W.exmOne K (.ref (CA c)) (.ref (CA 0)) = some true) (XE : ∀ c ∈ (xs0 : List Nat), ExcOk K (CA c)) (Xf : XFd K CA) (SMb : SM base) (C : Cst K CA mg) (Fl : Fld K CA) (Kt : KtOk K CA [7] kt0) (X_BadBook : Xmd P K mg (CA 3) "BadBook" "field" "field") : FnG P w K mg base false 3 f fd ["book"] (spD K CA 1 (bodyF 1 u_need_book)) := by
  have nd := (sc_need_book).nd
  refine okD F sc_need_book rfl rfl fun cd A outer s H E hg hr tk => ?_
  have Y : WSs (cxD P w K mg base ["book"] "need_book" s_need_book f cd A outer s H E) K CA (wxD E) (defBody s_need_book) _ _ := wss_one (ws_if (wt_not (wt_val (we_cb (sim_isX (fun c hc => (XE c hc).toXkC) Kt) (wa_cons (we_var (pv 0)) (wa_cons (we_gv C.g_Book) (wa_nil))) (fun a => pe_callB call_isX (by rfl) T.z_isinstance boot_isinstanceU a)))) (wss_one (ws_raiseX X_BadBook (hr.mono (by decide)) tk (wa_cons (we_str) (wa_nil)))) (wss_nil))
  exact ⟨_, Y⟩
theorem sc_Book_up : FnScope ["self"] ["self"] (defScope s_Book_up) := ⟨rfl, rfl, rfl, by decide +kernel, rfl, by decide +kernel, by decide +kernel⟩
theorem ok_Book_up  (F : Fun K "up" "Book.up" s_Book_up f fd) (T : Txt mg) (Hx : ∀ c ∈ (xs0 : List Nat), PySem.W.exmOne K (.ref (CA c)) (.ref (CA 0)) = some true) (XE : ∀ c ∈ (xs0 : List Nat), ExcOk K (CA c)) (Xf : XFd K CA) (SMb : SM base) (C : Cst K CA mg) (Fl : Fld K CA) (Kt : KtOk K CA [7] kt0)  : FnOk P w K mg base L2.CX0 1 f fd ["self"] (spD K CA 1 (noxF (bodyF 1 u_Book_up))) := by
  have nd := (sc_Book_up).nd
  refine okP F sc_Book_up rfl rfl fun cd A outer s H E hr => ?_
  have Y : WSs (cxOf L2.CX0 P w K mg base ["self"] "Book.up" (defScope s_Book_up) f cd A outer s H E).nox K CA W0 (defBody s_Book_up) _ _ := wss_one (ws_ret (we_ix (ixU (hu_of hr)) sim_ix (we_fld Fl.x_b_words (we_var (pv 0))) (we_int)))
  exact ⟨_, Y⟩
theorem sc_Book_down : FnScope ["self"] ["self"] (defScope s_Book_down) := ⟨rfl, rfl, rfl, by decide +kernel, rfl, by decide +kernel, by decide +kernel⟩
theorem ok_Book_down  (F : Fun K "down" "Book.down" s_Book_down f fd) (T : Txt mg) (Hx : ∀ c ∈ (xs0 : List Nat), PySem.W.exmOne K (.ref (CA c)) (.ref (CA 0)) = some true) (XE : ∀ c ∈ (xs0 : List Nat), ExcOk K (CA c)) (Xf : XFd K CA) (SMb : SM base) (C : Cst K CA mg) (Fl : Fld K CA) (Kt : KtOk K CA [7] kt0)  : FnOk P w K mg base L2.CX0 1 f fd ["self"] (spD K CA 1 (noxF (bodyF 1 u_Book_down))) := by
  have nd := (sc_Book_down).nd
  refine okP F sc_Book_down rfl rfl fun cd A outer s H E hr => ?_
  have Y : WSs (cxOf L2.CX0 P w K mg base ["self"] "Book.down" (defScope s_Book_down) f cd A outer s H E).nox K CA W0 (defBody s_Book_down) _ _ := wss_one (ws_ret (we_ix (ixU (hu_of hr)) sim_ix (we_fld Fl.x_b_words (we_var (pv 0))) (we_int)))
  exact ⟨_, Y⟩
theorem sc_Book_writes : FnScope ["self"] ["self"] (defScope s_Book_writes) := ⟨rfl, rfl, rfl, by decide +kernel, rfl, by decide +kernel, by decide +kernel⟩
theorem ok_Book_writes  (F : Fun K "writes" "Book.writes" s_Book_writes f fd) (T : Txt mg) (Hx : ∀ c ∈ (xs0 : List Nat), PySem.W.exmOne K (.ref (CA c)) (.ref (CA 0)) = some true) (XE : ∀ c ∈ (xs0 : List Nat), ExcOk K (CA c)) (Xf : XFd K CA) (SMb : SM base) (C : Cst K CA mg) (Fl : Fld K CA) (Kt : KtOk K CA [7] kt0)  : FnOk P w K mg base L2.CX0 1 f fd ["self"] (spD K CA 1 (noxF (bodyF 1 u_Book_writes))) := by
  have nd := (sc_Book_writes).nd
  refine okP F sc_Book_writes rfl rfl fun cd A outer s H E hr => ?_
  have Y : WSs (cxOf L2.CX0 P w K mg base ["self"] "Book.writes" (defScope s_Book_writes) f cd A outer s H E).nox K CA W0 (defBody s_Book_writes) _ _ := wss_one (ws_ret (we_ix (ixU (hu_of hr)) sim_ix (we_fld Fl.x_b_words (we_var (pv 0))) (we_int)))
  exact ⟨_, Y⟩
theorem sc_Book_moves : FnScope ["self"] ["self"] (defScope s_Book_moves) := ⟨rfl, rfl, rfl, by decide +kernel, rfl, by decide +kernel, by decide +kernel⟩
theorem ok_Book_moves  (F : Fun K "moves" "Book.moves" s_Book_moves f fd) (T : Txt mg) (Hx : ∀ c ∈ (xs0 : List Nat), PySem.W.exmOne K (.ref (CA c)) (.ref (CA 0)) = some true) (XE : ∀ c ∈ (xs0 : List Nat), ExcOk K (CA c)) (Xf : XFd K CA) (SMb : SM base) (C : Cst K CA mg) (Fl : Fld K CA) (Kt : KtOk K CA [7] kt0)  : FnOk P w K mg base L2.CX0 1 f fd ["self"] (spD K CA 1 (noxF (bodyF 1 u_Book_moves))) := by
  have nd := (sc_Book_moves).nd
  refine okP F sc_Book_moves rfl rfl fun cd A outer s H E hr => ?_
  have Y : WSs (cxOf L2.CX0 P w K mg base ["self"] "Book.moves" (defScope s_Book_moves) f cd A outer s H E).nox K CA W0 (defBody s_Book_moves) _ _ := wss_one (ws_ret (we_ix (ixU (hu_of hr)) sim_ix (we_fld Fl.x_b_words (we_var (pv 0))) (we_int)))
  exact ⟨_, Y⟩
theorem sc_Book_finish : FnScope ["self"] ["self"] (defScope s_Book_finish) := ⟨rfl, rfl, rfl, by decide +kernel, rfl, by decide +kernel, by decide +kernel⟩
theorem ok_Book_finish  (F : Fun K "finish" "Book.finish" s_Book_finish f fd) (T : Txt mg) (Hx : ∀ c ∈ (xs0 : List Nat), PySem.W.exmOne K (.ref (CA c)) (.ref (CA 0)) = some true) (XE : ∀ c ∈ (xs0 : List Nat), ExcOk K (CA c)) (Xf : XFd K CA) (SMb : SM base) (C : Cst K CA mg) (Fl : Fld K CA) (Kt : KtOk K CA [7] kt0)  : FnOk P w K mg base L2.CX0 1 f fd ["self"] (spD K CA 1 (noxF (bodyF 1 u_Book_finish))) := by
  have nd := (sc_Book_finish).nd
  refine okP F sc_Book_finish rfl rfl fun cd A outer s H E hr => ?_
  have Y : WSs (cxOf L2.CX0 P w K mg base ["self"] "Book.finish" (defScope s_Book_finish) f cd A outer s H E).nox K CA W0 (defBody s_Book_finish) _ _ := wss_one (ws_ret (we_ix (ixU (hu_of hr)) sim_ix (we_fld Fl.x_b_words (we_var (pv 0))) (we_int)))
  exact ⟨_, Y⟩
theorem sc_Book_counts : FnScope ["self"] ["self"] (defScope s_Book_counts) := ⟨rfl, rfl, rfl, by decide +kernel, rfl, by decide +kernel, by decide +kernel⟩
theorem ok_Book_counts  (F : Fun K "counts" "Book.counts" s_Book_counts f fd) (T : Txt mg) (Hx : ∀ c ∈ (xs0 : List Nat), PySem.W.exmOne K (.ref (CA c)) (.ref (CA 0)) = some true) (XE : ∀ c ∈ (xs0 : List Nat), ExcOk K (CA c)) (Xf : XFd K CA) (SMb : SM base) (C : Cst K CA mg) (Fl : Fld K CA) (Kt : KtOk K CA [7] kt0)  : FnOk P w K mg base L2.CX0 1 f fd ["self"] (spD K CA 1 (noxF (bodyF 1 u_Book_counts))) := by
  have nd := (sc_Book_counts).nd
  refine okP F sc_Book_counts rfl rfl fun cd A outer s H E hr => ?_
  have Y : WSs (cxOf L2.CX0 P w K mg base ["self"] "Book.counts" (defScope s_Book_counts) f cd A outer s H E).nox K CA W0 (defBody s_Book_counts) _ _ := wss_one (ws_ret (we_ix (ixU (hu_of hr)) sim_ix (we_fld Fl.x_b_words (we_var (pv 0))) (we_int)))
  exact ⟨_, Y⟩
theorem sc_chosen_words : FnScope ["book"] ["book"] (defScope s_chosen_words) := ⟨rfl, rfl, rfl, by decide +kernel, rfl, by decide +kernel, by decide +kernel⟩
theorem ok_chosen_words  (F : Fun K "chosen_words" "chosen_words" s_chosen_words f fd) (T : Txt mg) (Hx : ∀ c ∈ (xs0 : List Nat), PySem.W.exmOne K (.ref (CA c)) (.ref (CA 0)) = some true) (XE : ∀ c ∈ (xs0 : List Nat), ExcOk K (CA c)) (Xf : XFd K CA) (SMb : SM base) (C : Cst K CA mg) (Fl : Fld K CA) (Kt : KtOk K CA [7] kt0) (P_Book_counts : Prd P w K mg base CA 7 "counts" 1 ["self"] F_Book_counts) (P_Book_finish : Prd P w K mg base CA 7 "finish" 1 ["self"] F_Book_finish) (P_Book_moves : Prd P w K mg base CA 7 "moves" 1 ["self"] F_Book_moves) (P_Book_writes : Prd P w K mg base CA 7 "writes" 1 ["self"] F_Book_writes) (P_Book_down : Prd P w K mg base CA 7 "down" 1 ["self"] F_Book_down) (P_Book_up : Prd P w K mg base CA 7 "up" 1 ["self"] F_Book_up) : FnG P w K mg base false 3 f fd ["book"] (spD K CA 1 (bodyF 1 u_chosen_words)) := by
  have nd := (sc_chosen_words).nd
  refine okD F sc_chosen_words rfl rfl fun cd A outer s H E hg hr tk => ?_
  have Y : WSs (cxD P w K mg base ["book"] "chosen_words" s_chosen_words f cd A outer s H E) K CA (wxD E) (defBody s_chosen_words) _ _ := wss_one (ws_ret (we_lst false (wa_cons (we_pr P_Book_up (hr.mono (by decide)) (we_var (pv 0))) (wa_cons (we_pr P_Book_down (hr.mono (by decide)) (we_var (pv 0))) (wa_cons (we_pr P_Book_writes (hr.mono (by decide)) (we_var (pv 0))) (wa_cons (we_pr P_Book_moves (hr.mono (by decide)) (we_var (pv 0))) (wa_cons (we_pr P_Book_finish (hr.mono (by decide)) (we_var (pv 0))) (wa_cons (we_pr P_Book_counts (hr.mono (by decide)) (we_var (pv 0))) (wa_nil)))))))))
  exact ⟨_, Y⟩
theorem sc_Book_bars : FnScope ["self"] ["self"] (defScope s_Book_bars) := ⟨rfl, rfl, rfl, by decide +kernel, rfl, by decide +kernel, by decide +kernel⟩
theorem ok_Book_bars  (F : Fun K "bars" "Book.bars" s_Book_bars f fd) (T : Txt mg) (Hx : ∀ c ∈ (xs0 : List Nat), PySem.W.exmOne K (.ref (CA c)) (.ref (CA 0)) = some true) (XE : ∀ c ∈ (xs0 : List Nat), ExcOk K (CA c)) (Xf : XFd K CA) (SMb : SM base) (C : Cst K CA mg) (Fl : Fld K CA) (Kt : KtOk K CA [7] kt0)  : FnOk P w K mg base L2.CX0 1 f fd ["self"] (spD K CA 1 (noxF (bodyF 1 u_Book_bars))) := by
  have nd := (sc_Book_bars).nd
  refine okP F sc_Book_bars rfl rfl fun cd A outer s H E hr => ?_
  have Y : WSs (cxOf L2.CX0 P w K mg base ["self"] "Book.bars" (defScope s_Book_bars) f cd A outer s H E).nox K CA W0 (defBody s_Book_bars) _ _ := wss_one (ws_ret (we_fld Fl.x_b_bars (we_var (pv 0))))
  exact ⟨_, Y⟩
theorem sc_book_text : FnScope ["book", "rows", "name", "words", "word", "row"] ["book"] (defScope s_book_text) := ⟨rfl, rfl, rfl, by decide +kernel, rfl, by decide +kernel, by decide +kernel⟩
theorem ok_book_text {f_need_book : Addr} {fd_need_book : FuncData} {f_chosen_words : Addr} {fd_chosen_words : FuncData} (F : Fun K "book_text" "book_text" s_book_text f fd) (T : Txt mg) (Hx : ∀ c ∈ (xs0 : List Nat), PySem.W.exmOne K (.ref (CA c)) (.ref (CA 0)) = some true) (XE : ∀ c ∈ (xs0 : List Nat), ExcOk K (CA c)) (Xf : XFd K CA) (SMb : SM base) (C : Cst K CA mg) (Fl : Fld K CA) (Kt : KtOk K CA [7] kt0) (B_need_book_1 : KwB K CA fd_need_book ["book"] 1 [] (srcP 0 1)) (D_need_book : Df P w K mg base CA "need_book" false 3 ["book"] F_need_book f_need_book fd_need_book) (B_chosen_words_1 : KwB K CA fd_chosen_words ["book"] 1 [] (srcP 0 1)) (D_chosen_words : Df P w K mg base CA "chosen_words" false 3 ["book"] F_chosen_words f_chosen_words fd_chosen_words) (P_Book_notes : Prd P w K mg base CA 7 "notes" 1 ["self"] F_Book_notes) (P_Book_bars : Prd P w K mg base CA 7 "bars" 1 ["self"] F_Book_bars) : FnG P w K mg base false 4 f fd ["book"] (spD K CA 1 (bodyF 6 u_book_text)) := by
  have nd := (sc_book_text).nd
  refine okD F sc_book_text rfl rfl fun cd A outer s H E hg hr tk => ?_
  have Y : WSs (cxD P w K mg base ["book", "rows", "name", "words", "word", "row"] "book_text" s_book_text f cd A outer s H E) K CA (wxD E) (defBody s_book_text) _ _ := wss_cons (ws_expr (we_callP D_need_book noG (hr.mono (by decide)) tk (wa_cons (we_var (pv 0)) (wa_nil)) B_need_book_1)) (wss_cons (ws_setLc true (i := 1) rfl nd rfl rfl (own := [("word", 4), ("name", 2), ("words", 3)]) (wi_zm (wa_cons (we_gv C.g_FIELDS) (wa_cons (we_callP D_chosen_words noG (hr.mono (by decide)) tk (wa_cons (we_var (pv 0)) (wa_nil)) B_chosen_words_1) (wa_nil))) (fun a => pi_zm (by rfl) T.z_zip a)) (blkOk_by (N := ["book", "rows", "name", "words", "word", "row"]) (sc := defScope s_book_text) (by decide +kernel)) (fun s_ H_ C_ cl_ fp_ => wg_tup (n := 2) rfl (wgs_cons (wg_tup (n := 2) rfl (wgs_cons (wg_name (pg_name (i := 2) nd rfl (by first | exact Or.inl rfl | exact Or.inr rfl))) (wgs_cons (wg_name (pg_name (i := 3) nd rfl (by first | exact Or.inl rfl | exact Or.inr rfl))) (wgs_nil)))) (wgs_cons (wg_name (pg_name (i := 4) nd rfl (by first | exact Or.inl rfl | exact Or.inr rfl))) (wgs_nil)))) (fun s_ H_ C_ cl_ fp_ => wts_nil) (fun s_ H_ C_ cl_ fp_ => we_lst false (wa_cons (we_var (pv 2)) (wa_cons (we_var (pv 4)) (wa_nil)))) (by decide)) (wss_cons (ws_expr (we_bm (T := "list") (r := rExtend) sim_extend (we_var (pv 1)) (wa_cons (we_lst false (wa_cons (we_lst false (wa_cons (we_str) (wa_star (we_pr P_Book_bars (hr.mono (by decide)) (we_var (pv 0))) (wa_nil)))) (wa_cons (we_lst false (wa_cons (we_str) (wa_star (we_pr P_Book_notes (hr.mono (by decide)) (we_var (pv 0))) (wa_nil)))) (wa_nil)))) (wa_nil)) (fun a b => pe_bm PySem.F.plainAttrs_list PySem.F.slot_list_extend PySem.F.type_list_extend mt_extend a b))) (wss_one (ws_ret (we_m1 sim_join (we_str) (we_lc false rfl nd (own := [("row", 5)]) (wi_seq (we_var (pv 1))) (blkOk_by (N := ["book", "rows", "name", "words", "word", "row"]) (sc := defScope s_book_text) (by decide +kernel)) (fun s_ H_ C_ cl_ fp_ => wg_name (pg_name (i := 5) nd rfl (by first | exact Or.inl rfl | exact Or.inr rfl))) (fun s_ H_ C_ cl_ fp_ => wts_nil) (fun s_ H_ C_ cl_ fp_ => we_op op_addU (sim_add (nm := false)) (we_m1 sim_join (we_str) (we_var (pv 5)) (fun a b => pe_join a b)) (we_str)) (by decide)) (fun a b => pe_join a b))))))
  exact ⟨_, Y⟩
theorem sc_law : FnScope ["_law_script", "_law_draw", "_law_turn", "_law_told", "_law_book_here", "_law_page_here", "_law_found", "_law_one", "_law_field", "_law_other", "_law_near", "_law_odd_here"] ["_law_script"] (defScope s_law) := ⟨rfl, rfl, rfl, by decide +kernel, rfl, by decide +kernel, by decide +kernel⟩
theorem ok_law {f__law_begun : Addr} {fd__law_begun : FuncData} {f__law_drawn_book : Addr} {fd__law_drawn_book : FuncData} {f__law_made_book : Addr} {fd__law_made_book : FuncData} {f__law_page : Addr} {fd__law_page : FuncData} {f_book_text : Addr} {fd_book_text : FuncData} {f_read_book : Addr} {fd_read_book : FuncData} {f_Book_eq : Addr} {fd_Book_eq : FuncData} {f__law_pick : Addr} {fd__law_pick : FuncData} {f__law_odd : Addr} {fd__law_odd : FuncData} {c P_ : Addr} (F : FunC K "law" "law" s_law f fd c) (T : Txt mg) (Hx : ∀ c ∈ (xs0 : List Nat), PySem.W.exmOne K (.ref (CA c)) (.ref (CA 0)) = some true) (XE : ∀ c ∈ (xs0 : List Nat), ExcOk K (CA c)) (Xf : XFd K CA) (SMb : SM base) (C : Cst K CA mg) (Fl : Fld K CA) (Kt : KtOk K CA [7] kt0) (TB : LamX.TabB base mg c P_) (hmT : (P_, ("law" : Str) ++ (".<locals>." : Str) ++ ("<lambda>" : Str)) ∈ CA.T) (hu : ∀ p ∈ CA.T, p.1 = P_ → p.2 = ("law" : Str) ++ (".<locals>." : Str) ++ ("<lambda>" : Str)) (B__law_begun_1 : KwB K CA fd__law_begun ["_law_script"] 1 [] (srcP 0 1)) (D__law_begun : Df P w K mg base CA "_law_begun" false 1 ["_law_script"] F__law_begun f__law_begun fd__law_begun) (B__law_drawn_book_1 : KwB K CA fd__law_drawn_book ["_law_draw"] 1 [] (srcP 0 1)) (D__law_drawn_book : Df P w K mg base CA "_law_drawn_book" false 4 ["_law_draw"] F__law_drawn_book f__law_drawn_book fd__law_drawn_book) (B__law_made_book_2 : KwB K CA fd__law_made_book ["_law_draw", "_law_told"] 2 [] (srcP 0 2)) (D__law_made_book : Df P w K mg base CA "_law_made_book" false 7 ["_law_draw", "_law_told"] F__law_made_book f__law_made_book fd__law_made_book) (B__law_page_1 : KwB K CA fd__law_page ["_law_told"] 1 [] (srcP 0 1)) (D__law_page : Df P w K mg base CA "_law_page" false 1 ["_law_told"] F__law_page f__law_page fd__law_page) (B_book_text_0_book : KwB K CA fd_book_text ["book"] 0 ["book"] ([.k 0])) (D_book_text : Df P w K mg base CA "book_text" false 4 ["book"] F_book_text f_book_text fd_book_text) (B_book_text_1 : KwB K CA fd_book_text ["book"] 1 [] (srcP 0 1)) (B_read_book_0_text : KwB K CA fd_read_book ["text"] 0 ["text"] ([.k 0])) (D_read_book : Df P w K mg base CA "read_book" false 7 ["text"] F_read_book f_read_book fd_read_book) (B_read_book_1 : KwB K CA fd_read_book ["text"] 1 [] (srcP 0 1)) (O_Book : OwnE P w K mg base CA 7 (fun t => decide (t ∈ [.b "NoneType", .b "bool", .b "int", .b "str", .b "list", .b "tuple", .b "dict", .o 0, .o 1, .o 2, .o 3, .o 4, .o 5, .o 6, .o 7])) 1 ["self", "other"] F_Book_eq f_Book_eq fd_Book_eq) (B__law_pick_2 : KwB K CA fd__law_pick ["_law_draw", "_law_some"] 2 [] (srcP 0 2)) (D__law_pick : Df P w K mg base CA "_law_pick" false 3 ["_law_draw", "_law_some"] F__law_pick f__law_pick fd__law_pick) (P_Book_bars : Prd P w K mg base CA 7 "bars" 1 ["self"] F_Book_bars) (P_Book_notes : Prd P w K mg base CA 7 "notes" 1 ["self"] F_Book_notes) (B__law_odd_1 : KwB K CA fd__law_odd ["_law_draw"] 1 [] (srcP 0 1)) (D__law_odd : Df P w K mg base CA "_law_odd" false 4 ["_law_draw"] F__law_odd f__law_odd fd__law_odd) (L__law_is : ∀ kb : Nat, Dl P w K mg base CA "_law_is" true (kb + 4) kb ["_law_work", "_law_word", "_law_kept"] 2 F__law_is) : FnG P w K mg base true 11 f fd ["_law_script"] (spD K CA 1 (bodyF 12 u_law)) := by
  have nd := (sc_law).nd
  refine okDL F sc_law rfl rfl fun A outer s H E hg hr tk => ?_
  have Y : WSs (cxD P w K mg base ["_law_script", "_law_draw", "_law_turn", "_law_told", "_law_book_here", "_law_page_here", "_law_found", "_law_one", "_law_field", "_law_other", "_law_near", "_law_odd_here"] "law" s_law f (.ref c) A outer s H E) K CA (wxD E) (defBody s_law) _ _ := wss_cons (ws_set (we_callP D__law_begun noG (hr.mono (by decide)) tk (wa_cons (we_var (pv 0)) (wa_nil)) B__law_begun_1) (fun q => ps_set (i := 1) nd rfl (by first | exact Or.inl rfl | exact Or.inr rfl) q)) (wss_cons (ws_for (wi_rng1 (wa_cons (we_op op_addU (sim_add (nm := false)) (we_int) (we_cb sim_min (wa_cons (we_cb sim_len (wa_cons (we_var (pv 0)) (wa_nil)) (fun a => pe_callB (call_lenU rfl call_lenRd) (by rfl) T.z_len boot_lenU a)) (wa_cons (we_int) (wa_nil))) (fun a => pe_callB call_minU (by rfl) T.z_min boot_minU a))) (wa_nil)) (fun a => pi_range1 (by rfl) T.z_range a)) (wg_name (pg_name (i := 2) nd rfl (by first | exact Or.inl rfl | exact Or.inr rfl))) (wss_cons (ws_set (we_callP D__law_drawn_book noG (hr.mono (by decide)) tk (wa_cons (we_var (pv 1)) (wa_nil)) B__law_drawn_book_1) (fun q => ps_set (i := 3) nd rfl (by first | exact Or.inl rfl | exact Or.inr rfl) q)) (wss_cons (ws_asg (we_tup (wa_cons (we_callP D__law_made_book noG (hr.mono (by decide)) tk (wa_cons (we_var (pv 1)) (wa_cons (we_var (pv 3)) (wa_nil))) B__law_made_book_2) (wa_cons (we_callP D__law_page noG (hr.mono (by decide)) tk (wa_cons (we_var (pv 3)) (wa_nil)) B__law_page_1) (wa_nil)))) (wg_tup (n := 2) rfl (wgs_cons (wg_name (pg_name (i := 4) nd rfl (by first | exact Or.inl rfl | exact Or.inr rfl))) (wgs_cons (wg_name (pg_name (i := 5) nd rfl (by first | exact Or.inl rfl | exact Or.inr rfl))) (wgs_nil))))) (wss_cons (ws_if (wt_cmp (op_neU hr.units) sim_ne (we_cb sim_repA (wa_cons (we_lst false (wa_cons (we_callP D_book_text noG (hr.mono (by decide)) tk (wa_cons (we_var (pv 4)) (wa_nil)) B_book_text_1) (wa_cons (we_callK0 D_book_text noG (hr.mono (by decide)) tk (wk_cons (we_var (pv 4)) (wk_nil)) B_book_text_0_book) (wa_nil)))) (wa_nil)) (fun a => pe_callB (call_repA SMb (hg rfl) hr.units) (by rfl) T.z_repr boot_reprU a)) (we_cb sim_repA (wa_cons (we_lst false (wa_cons (we_var (pv 5)) (wa_cons (we_var (pv 5)) (wa_nil)))) (wa_nil)) (fun a => pe_callB (call_repA SMb (hg rfl) hr.units) (by rfl) T.z_repr boot_reprU a)) (by rfl)) (wss_one (ws_ret (we_bl))) (wss_nil)) (wss_cons (ws_set (we_lst false (wa_cons (we_callP D_read_book noG (hr.mono (by decide)) tk (wa_cons (we_var (pv 5)) (wa_nil)) B_read_book_1) (wa_cons (we_callK0 D_read_book noG (hr.mono (by decide)) tk (wk_cons (we_var (pv 5)) (wk_nil)) B_read_book_0_text) (wa_nil)))) (fun q => ps_set (i := 6) nd rfl (by first | exact Or.inl rfl | exact Or.inr rfl) q)) (wss_cons (ws_if (wt_cmp (op_neU hr.units) sim_ne (we_lc false rfl nd (own := [("_law_one", 7)]) (wi_seq (we_var (pv 6))) (blkOk_by (N := ["_law_script", "_law_draw", "_law_turn", "_law_told", "_law_book_here", "_law_page_here", "_law_found", "_law_one", "_law_field", "_law_other", "_law_near", "_law_odd_here"]) (sc := defScope s_law) (by decide +kernel)) (fun s_ H_ C_ cl_ fp_ => wg_name (pg_name (i := 7) nd rfl (by first | exact Or.inl rfl | exact Or.inr rfl))) (fun s_ H_ C_ cl_ fp_ => wts_one (CM.WW.wt (ww_or (wt_not (wt_val (we_cb (sim_isX (fun c hc => (XE c hc).toXkC) Kt) (wa_cons (we_var (pv 7)) (wa_cons (we_gvM C.g_Book) (wa_nil))) (fun a => pe_callB call_isX (by rfl) T.z_isinstance boot_isinstanceU a)))) (ww_or (wt_cmp (op_ownNe O_Book (hr.mono (by decide)) rfl) (sim_own Kt) (we_var (pv 7)) (we_var (pv 4)) (by rfl)) (ww_or1 (wt_cmp (op_neU hr.units) sim_ne (we_callP D_book_text noG (hr.mono (by decide)) takes0 (wa_cons (we_var (pv 7)) (wa_nil)) B_book_text_1) (we_var (pv 5)) (by rfl))))))) (fun s_ H_ C_ cl_ fp_ => we_var (pv 7)) (by decide)) (we_lst false (wa_nil)) (by rfl)) (wss_one (ws_ret (we_bl))) (wss_nil)) (wss_cons (ws_set (we_callP D__law_pick noG (hr.mono (by decide)) tk (wa_cons (we_var (pv 1)) (wa_cons (we_cb (sim_srtDS (nm := false)) (wa_cons (we_var (pv 3)) (wa_nil)) (fun a => pe_callB call_srtDS (by rfl) T.z_sorted boot_sortedU a)) (wa_nil))) B__law_pick_2) (fun q => ps_set (i := 8) nd rfl (by first | exact Or.inl rfl | exact Or.inr rfl) q)) (wss_cons (ws_set (we_cb (sim_dctOf (nm := true)) (wa_cons (we_var (pv 3)) (wa_nil)) (fun a => pe_callTy call_dictD (by rfl) T.z_dict boot_dictU a)) (fun q => ps_set (i := 9) nd rfl (by first | exact Or.inl rfl | exact Or.inr rfl) q)) (wss_cons (ws_asg (we_ix (ixU (hu_of hr)) sim_ix (we_callP D__law_drawn_book noG (hr.mono (by decide)) tk (wa_cons (we_var (pv 1)) (wa_nil)) B__law_drawn_book_1) (we_var (pv 8))) (wg_sub (W := wxD E) (hu_of hr) (we_var (pv 9)) (we_var (pv 8)) (fun a b c => pg_sub a b c))) (wss_cons (ws_set (we_callP D__law_made_book noG (hr.mono (by decide)) tk (wa_cons (we_var (pv 1)) (wa_cons (we_var (pv 9)) (wa_nil))) B__law_made_book_2) (fun q => ps_set (i := 10) nd rfl (by first | exact Or.inl rfl | exact Or.inr rfl) q)) (wss_cons (ws_if (CM.WW.wt (ww_or (wt_cmp (op_neU hr.units) sim_ne (we_cmp (op_ownEq O_Book (hr.mono (by decide)) rfl) (sim_own Kt) (we_var (pv 10)) (we_var (pv 4)) (by rfl)) (we_cmp (op_eqDP hr.units) (sim_eqDP (neg := false)) (we_var (pv 9)) (we_var (pv 3)) (by rfl)) (by rfl)) (ww_or1 (wt_cmp (op_neU hr.units) sim_ne (we_cmp (op_eqU hr.units) sim_eq (we_callP D_book_text noG (hr.mono (by decide)) tk (wa_cons (we_var (pv 10)) (wa_nil)) B_book_text_1) (we_var (pv 5)) (by rfl)) (we_cmp (op_eqDP hr.units) (sim_eqDP (neg := false)) (we_var (pv 9)) (we_var (pv 3)) (by rfl)) (by rfl))))) (wss_one (ws_ret (we_bl))) (wss_nil)) (wss_cons (ws_if (CM.WW.wt (ww_or (wt_cmp (op_neU hr.units) sim_ne (we_lc false rfl nd (own := [("_law_one", 7)]) (wi_seq (we_var (pv 6))) (blkOk_by (N := ["_law_script", "_law_draw", "_law_turn", "_law_told", "_law_book_here", "_law_page_here", "_law_found", "_law_one", "_law_field", "_law_other", "_law_near", "_law_odd_here"]) (sc := defScope s_law) (by decide +kernel)) (fun s_ H_ C_ cl_ fp_ => wg_name (pg_name (i := 7) nd rfl (by first | exact Or.inl rfl | exact Or.inr rfl))) (fun s_ H_ C_ cl_ fp_ => wts_nil) (fun s_ H_ C_ cl_ fp_ => we_pr P_Book_bars (hr.mono (by decide)) (we_var (pv 7))) (by decide)) (we_lst false (wa_cons (we_pr P_Book_bars (hr.mono (by decide)) (we_var (pv 4))) (wa_cons (we_pr P_Book_bars (hr.mono (by decide)) (we_var (pv 4))) (wa_nil)))) (by rfl)) (ww_or1 (wt_cmp (op_neU hr.units) sim_ne (we_pr P_Book_notes (hr.mono (by decide)) (we_var (pv 4))) (we_cb sim_tupOf (wa_cons (we_ix (ixU (hu_of hr)) sim_ix (we_var (pv 3)) (we_str)) (wa_nil)) (fun a => pe_callTy call_tupOf (by rfl) T.z_tuple boot_tupleU a)) (by rfl))))) (wss_one (ws_ret (we_bl))) (wss_nil)) (wss_cons (ws_set (we_callP D__law_pick noG (hr.mono (by decide)) tk (wa_cons (we_var (pv 1)) (wa_cons (we_lst false (wa_cons (we_non) (wa_cons (we_int) (wa_cons (we_str) (wa_cons (we_var (pv 5)) (wa_cons (we_tup (wa_nil)) (wa_cons (we_lst false (wa_nil)) (wa_cons (we_var (pv 3)) (wa_cons (we_bl) (wa_cons (we_str) (wa_cons (we_callP D__law_odd noG (hr.mono (by decide)) tk (wa_cons (we_var (pv 1)) (wa_nil)) B__law_odd_1) (wa_nil)))))))))))) (wa_nil))) B__law_pick_2) (fun q => ps_set (i := 11) nd rfl (by first | exact Or.inl rfl | exact Or.inr rfl) q)) (wss_one (ws_if (wt_not (wt_val (we_lamC (kb := 6) (L__law_is 6) TB hmT hu hg (hr.mono (by decide)) (hr.mono (by decide)) (by kernel_rfl) (fun A outer s H E f c hr tk => we_callP D_book_text noG (hr.mono (by decide)) tk (wa_cons (we_var (pv 11)) (wa_nil)) B_book_text_1) (wa_cons (we_str) (wa_cons (we_str) (wa_nil)))))) (wss_one (ws_ret (we_bl))) (wss_nil))))))))))))))) (fun i g b => ps_for (passes_of rfl) rfl i g b)) (wss_one (ws_ret (we_bl))))
  exact ⟨_, Y⟩
theorem all_mk {l : PySem.W.OpenLaw} {h : Heap} {fa : Addr} {C0 : Addr} {C1 : Addr} {C2 : Addr} {C3 : Addr} {C4 : Addr} {C5 : Addr} {C6 : Addr} {C7 : Addr} {f0 : Addr} {od0 an0 : Option Addr} {sl0 : Array (Option Value)} {oc0 kV0 dc0 pm0 cd0 ct0 : Value} {f1 : Addr} {od1 an1 : Option Addr} {sl1 : Array (Option Value)} {oc1 kV1 dc1 pm1 cd1 ct1 : Value} {f2 : Addr} {od2 an2 : Option Addr} {sl2 : Array (Option Value)} {oc2 kV2 dc2 pm2 cd2 ct2 : Value} {f3 : Addr} {od3 an3 : Option Addr} {sl3 : Array (Option Value)} {oc3 kV3 dc3 pm3 cd3 ct3 : Value} {f4 : Addr} {od4 an4 : Option Addr} {sl4 : Array (Option Value)} {oc4 kV4 dc4 pm4 cd4 ct4 : Value} {f5 : Addr} {od5 an5 : Option Addr} {sl5 : Array (Option Value)} {oc5 kV5 dc5 pm5 cd5 ct5 : Value} {f6 : Addr} {od6 an6 : Option Addr} {sl6 : Array (Option Value)} {oc6 kV6 dc6 pm6 cd6 ct6 : Value} {f7 : Addr} {od7 an7 : Option Addr} {sl7 : Array (Option Value)} {oc7 kV7 dc7 pm7 cd7 ct7 : Value} {f8 : Addr} {od8 an8 : Option Addr} {sl8 : Array (Option Value)} {oc8 kV8 dc8 pm8 cd8 ct8 : Value} {f9 : Addr} {od9 an9 : Option Addr} {sl9 : Array (Option Value)} {oc9 kV9 dc9 pm9 cd9 ct9 : Value} {f10 : Addr} {od10 an10 : Option Addr} {sl10 : Array (Option Value)} {oc10 kV10 dc10 pm10 cd10 ct10 : Value} {f11 : Addr} {od11 an11 : Option Addr} {sl11 : Array (Option Value)} {oc11 kV11 dc11 pm11 cd11 ct11 : Value} {f12 : Addr} {od12 an12 : Option Addr} {sl12 : Array (Option Value)} {oc12 kV12 dc12 pm12 cd12 ct12 : Value} {f13 : Addr} {od13 an13 : Option Addr} {sl13 : Array (Option Value)} {oc13 kV13 dc13 pm13 cd13 ct13 : Value} {f14 : Addr} {od14 an14 : Option Addr} {sl14 : Array (Option Value)} {oc14 kV14 dc14 pm14 cd14 ct14 : Value} {f15 : Addr} {od15 an15 : Option Addr} {sl15 : Array (Option Value)} {oc15 kV15 dc15 pm15 cd15 ct15 : Value} {f16 : Addr} {od16 an16 : Option Addr} {sl16 : Array (Option Value)} {oc16 kV16 dc16 pm16 cd16 ct16 : Value} {f17 : Addr} {od17 an17 : Option Addr} {sl17 : Array (Option Value)} {oc17 kV17 dc17 pm17 cd17 ct17 : Value} {f18 : Addr} {od18 an18 : Option Addr} {sl18 : Array (Option Value)} {oc18 kV18 dc18 pm18 cd18 ct18 : Value} {p18 : Addr} {rs18 : List Value} {f19 : Addr} {od19 an19 : Option Addr} {sl19 : Array (Option Value)} {oc19 kV19 dc19 pm19 cd19 ct19 : Value} {f20 : Addr} {od20 an20 : Option Addr} {sl20 : Array (Option Value)} {oc20 kV20 dc20 pm20 cd20 ct20 : Value} {f21 : Addr} {od21 an21 : Option Addr} {sl21 : Array (Option Value)} {oc21 kV21 dc21 pm21 cd21 ct21 : Value} {p21 : Addr} {rs21 : List Value} {f22 : Addr} {od22 an22 : Option Addr} {sl22 : Array (Option Value)} {oc22 kV22 dc22 pm22 cd22 ct22 : Value} {p22 : Addr} {rs22 : List Value} {f23 : Addr} {od23 an23 : Option Addr} {sl23 : Array (Option Value)} {oc23 kV23 dc23 pm23 cd23 ct23 : Value} {p23 : Addr} {rs23 : List Value} {f24 : Addr} {od24 an24 : Option Addr} {sl24 : Array (Option Value)} {oc24 kV24 dc24 pm24 cd24 ct24 : Value} {p24 : Addr} {rs24 : List Value} {f25 : Addr} {od25 an25 : Option Addr} {sl25 : Array (Option Value)} {oc25 kV25 dc25 pm25 cd25 ct25 : Value} {p25 : Addr} {rs25 : List Value} {f26 : Addr} {od26 an26 : Option Addr} {sl26 : Array (Option Value)} {oc26 kV26 dc26 pm26 cd26 ct26 : Value} {p26 : Addr} {rs26 : List Value} {f27 : Addr} {od27 an27 : Option Addr} {sl27 : Array (Option Value)} {oc27 kV27 dc27 pm27 cd27 ct27 : Value} {f28 : Addr} {od28 an28 : Option Addr} {sl28 : Array (Option Value)} {oc28 kV28 dc28 pm28 cd28 ct28 : Value} {p28 : Addr} {rs28 : List Value} {f29 : Addr} {od29 an29 : Option Addr} {sl29 : Array (Option Value)} {oc29 kV29 dc29 pm29 cd29 ct29 : Value} {f30 : Addr} {od30 an30 : Option Addr} {sl30 : Array (Option Value)} {oc30 kV30 dc30 pm30 ct30 : Value} {ca30 P30 : Addr} {vs30 : Array Value} {tcl30 : Value} {tod30 : Option Addr} {tsl30 : Array (Option Value)} {t_UPS0 t_UPS1 t_UPS2 : Tok} {p_UPS : Addr} {dd_UPS : Option Addr} {n_UPS : Nat} {sl_UPS : Array (Option Value)} {t_DOWNS0 t_DOWNS1 : Tok} {p_DOWNS : Addr} {dd_DOWNS : Option Addr} {n_DOWNS : Nat} {sl_DOWNS : Array (Option Value)} {t_WRITES0 t_WRITES1 t_WRITES2 t_WRITES3 t_WRITES4 : Tok} {p_WRITES : Addr} {dd_WRITES : Option Addr} {n_WRITES : Nat} {sl_WRITES : Array (Option Value)} {t_MOVES0 t_MOVES1 : Tok} {p_MOVES : Addr} {dd_MOVES : Option Addr} {n_MOVES : Nat} {sl_MOVES : Array (Option Value)} {t_FINISHES0 t_FINISHES1 t_FINISHES2 : Tok} {p_FINISHES : Addr} {dd_FINISHES : Option Addr} {n_FINISHES : Nat} {sl_FINISHES : Array (Option Value)} {t_COUNTS0 t_COUNTS1 t_COUNTS2 : Tok} {p_COUNTS : Addr} {dd_COUNTS : Option Addr} {n_COUNTS : Nat} {sl_COUNTS : Array (Option Value)} {t_BARS0 t_BARS1 t_BARS2 t_BARS3 t_BARS4 : Tok} {p_BARS : Addr} {dd_BARS : Option Addr} {n_BARS : Nat} {sl_BARS : Array (Option Value)} {t_NOTES0 t_NOTES1 t_NOTES2 : Tok} {p_NOTES : Addr} {dd_NOTES : Option Addr} {n_NOTES : Nat} {sl_NOTES : Array (Option Value)} {p_FIELDS : Addr} {dd_FIELDS : Option Addr} {n_FIELDS : Nat} {sl_FIELDS : Array (Option Value)} {t_FIELDS_00 : Tok} {p_FIELDS_0 : Addr} {dd_FIELDS_0 : Option Addr} {n_FIELDS_0 : Nat} {sl_FIELDS_0 : Array (Option Value)} {t_FIELDS_0_10 t_FIELDS_0_11 t_FIELDS_0_12 : Tok} {p_FIELDS_0_1 : Addr} {dd_FIELDS_0_1 : Option Addr} {n_FIELDS_0_1 : Nat} {sl_FIELDS_0_1 : Array (Option Value)} {t_FIELDS_10 : Tok} {p_FIELDS_1 : Addr} {dd_FIELDS_1 : Option Addr} {n_FIELDS_1 : Nat} {sl_FIELDS_1 : Array (Option Value)} {t_FIELDS_1_10 t_FIELDS_1_11 : Tok} {p_FIELDS_1_1 : Addr} {dd_FIELDS_1_1 : Option Addr} {n_FIELDS_1_1 : Nat} {sl_FIELDS_1_1 : Array (Option Value)} {t_FIELDS_20 : Tok} {p_FIELDS_2 : Addr} {dd_FIELDS_2 : Option Addr} {n_FIELDS_2 : Nat} {sl_FIELDS_2 : Array (Option Value)} {t_FIELDS_2_10 t_FIELDS_2_11 t_FIELDS_2_12 t_FIELDS_2_13 t_FIELDS_2_14 : Tok} {p_FIELDS_2_1 : Addr} {dd_FIELDS_2_1 : Option Addr} {n_FIELDS_2_1 : Nat} {sl_FIELDS_2_1 : Array (Option Value)} {t_FIELDS_30 : Tok} {p_FIELDS_3 : Addr} {dd_FIELDS_3 : Option Addr} {n_FIELDS_3 : Nat} {sl_FIELDS_3 : Array (Option Value)} {t_FIELDS_3_10 t_FIELDS_3_11 : Tok} {p_FIELDS_3_1 : Addr} {dd_FIELDS_3_1 : Option Addr} {n_FIELDS_3_1 : Nat} {sl_FIELDS_3_1 : Array (Option Value)} {t_FIELDS_40 : Tok} {p_FIELDS_4 : Addr} {dd_FIELDS_4 : Option Addr} {n_FIELDS_4 : Nat} {sl_FIELDS_4 : Array (Option Value)} {t_FIELDS_4_10 t_FIELDS_4_11 t_FIELDS_4_12 : Tok} {p_FIELDS_4_1 : Addr} {dd_FIELDS_4_1 : Option Addr} {n_FIELDS_4_1 : Nat} {sl_FIELDS_4_1 : Array (Option Value)} {t_FIELDS_50 : Tok} {p_FIELDS_5 : Addr} {dd_FIELDS_5 : Option Addr} {n_FIELDS_5 : Nat} {sl_FIELDS_5 : Array (Option Value)} {t_FIELDS_5_10 t_FIELDS_5_11 t_FIELDS_5_12 : Tok} {p_FIELDS_5_1 : Addr} {dd_FIELDS_5_1 : Option Addr} {n_FIELDS_5_1 : Nat} {sl_FIELDS_5_1 : Array (Option Value)} {p_SETS : Addr} {dd_SETS : Option Addr} {n_SETS : Nat} {sl_SETS : Array (Option Value)} {t_SETS_00 : Tok} {p_SETS_0 : Addr} {dd_SETS_0 : Option Addr} {n_SETS_0 : Nat} {sl_SETS_0 : Array (Option Value)} {t_SETS_0_10 t_SETS_0_11 t_SETS_0_12 t_SETS_0_13 t_SETS_0_14 : Tok} {p_SETS_0_1 : Addr} {dd_SETS_0_1 : Option Addr} {n_SETS_0_1 : Nat} {sl_SETS_0_1 : Array (Option Value)} {t_SETS_10 : Tok} {p_SETS_1 : Addr} {dd_SETS_1 : Option Addr} {n_SETS_1 : Nat} {sl_SETS_1 : Array (Option Value)} {t_SETS_1_10 t_SETS_1_11 t_SETS_1_12 : Tok} {p_SETS_1_1 : Addr} {dd_SETS_1_1 : Option Addr} {n_SETS_1_1 : Nat} {sl_SETS_1_1 : Array (Option Value)} {t_LINES : Tok} {fg0 : Addr} {odg0 ang0 : Option Addr} {slg0 : Array (Option Value)} {ocg0 kVg0 dcg0 pmg0 cdg0 ctg0 : Value} {xf3 xa3 xc3 : Addr} {xkV3 xdoc3 xpm3 xct3 xoc3 xcl3 xcv3 : Value} {xan3 xod3 xcd3 xce3 : Option Addr} {xsl3 xcs3 xct23 : Array (Option Value)} {xvs3 : Array Value} {xfile3 : Str} {xtf3 : Tok} {xf6 xa6 xc6 : Addr} {xkV6 xdoc6 xpm6 xct6 xoc6 xcl6 xcv6 : Value} {xan6 xod6 xcd6 xce6 : Option Addr} {xsl6 xcs6 xct26 : Array (Option Value)} {xvs6 : Array Value} {xfile6 : Str} {xtf6 : Tok} (X : K.In h) (G : h.Ns mainGlobals mg) (hfa : mg "law" = some (.ref fa))
    (ac0 : PySem.W.nsIn K mainGlobals "MergeError" = some (some (.ref C0)))
    (ac1 : PySem.W.nsIn K mainGlobals "BadDeed" = some (some (.ref C1)))
    (ac2 : PySem.W.nsIn K mainGlobals "BadNumber" = some (some (.ref C2)))
    (ac3 : PySem.W.nsIn K mainGlobals "BadBook" = some (some (.ref C3)))
    (ac4 : PySem.W.nsIn K mainGlobals "BadPlan" = some (some (.ref C4)))
    (ac5 : PySem.W.nsIn K mainGlobals "BadChain" = some (some (.ref C5)))
    (ac6 : PySem.W.nsIn K mainGlobals "BadText" = some (some (.ref C6)))
    (ac7 : PySem.W.nsIn K mainGlobals "Book" = some (some (.ref C7)))
    (a0 : PySem.W.nsIn K mainGlobals "_law_begun" = some (some (.ref f0)))
    (l0 : K.lookup f0 = some ⟨oc0, od0, .func (PySem.W.fnOf "_law_begun" "_law_begun" (defArgs s__law_begun) (defBody s__law_begun) (defScope s__law_begun) .none kV0 dc0 pm0 an0 cd0 ct0), sl0⟩)
    (c0 : PySem.W.codeIn K cd0 "_law_begun" = true)
    (k0 : PySem.W.keepIn K (.ref f0) = true)
    (a1 : PySem.W.nsIn K mainGlobals "_law_mixed" = some (some (.ref f1)))
    (l1 : K.lookup f1 = some ⟨oc1, od1, .func (PySem.W.fnOf "_law_mixed" "_law_mixed" (defArgs s__law_mixed) (defBody s__law_mixed) (defScope s__law_mixed) .none kV1 dc1 pm1 an1 cd1 ct1), sl1⟩)
    (c1 : PySem.W.codeIn K cd1 "_law_mixed" = true)
    (k1 : PySem.W.keepIn K (.ref f1) = true)
    (a2 : PySem.W.nsIn K mainGlobals "_law_take" = some (some (.ref f2)))
    (l2 : K.lookup f2 = some ⟨oc2, od2, .func (PySem.W.fnOf "_law_take" "_law_take" (defArgs s__law_take) (defBody s__law_take) (defScope s__law_take) .none kV2 dc2 pm2 an2 cd2 ct2), sl2⟩)
    (c2 : PySem.W.codeIn K cd2 "_law_take" = true)
    (k2 : PySem.W.keepIn K (.ref f2) = true)
    (a3 : PySem.W.nsIn K mainGlobals "_law_pick" = some (some (.ref f3)))
    (l3 : K.lookup f3 = some ⟨oc3, od3, .func (PySem.W.fnOf "_law_pick" "_law_pick" (defArgs s__law_pick) (defBody s__law_pick) (defScope s__law_pick) .none kV3 dc3 pm3 an3 cd3 ct3), sl3⟩)
    (c3 : PySem.W.codeIn K cd3 "_law_pick" = true)
    (k3 : PySem.W.keepIn K (.ref f3) = true)
    (a4 : PySem.W.nsIn K mainGlobals "_law_words" = some (some (.ref f4)))
    (l4 : K.lookup f4 = some ⟨oc4, od4, .func (PySem.W.fnOf "_law_words" "_law_words" (defArgs s__law_words) (defBody s__law_words) (defScope s__law_words) .none kV4 dc4 pm4 an4 cd4 ct4), sl4⟩)
    (c4 : PySem.W.codeIn K cd4 "_law_words" = true)
    (k4 : PySem.W.keepIn K (.ref f4) = true)
    (a5 : PySem.W.nsIn K mainGlobals "_law_drawn_book" = some (some (.ref f5)))
    (l5 : K.lookup f5 = some ⟨oc5, od5, .func (PySem.W.fnOf "_law_drawn_book" "_law_drawn_book" (defArgs s__law_drawn_book) (defBody s__law_drawn_book) (defScope s__law_drawn_book) .none kV5 dc5 pm5 an5 cd5 ct5), sl5⟩)
    (c5 : PySem.W.codeIn K cd5 "_law_drawn_book" = true)
    (k5 : PySem.W.keepIn K (.ref f5) = true)
    (a6 : PySem.W.nsIn K mainGlobals "need_word" = some (some (.ref f6)))
    (l6 : K.lookup f6 = some ⟨oc6, od6, .func (PySem.W.fnOf "need_word" "need_word" (defArgs s_need_word) (defBody s_need_word) (defScope s_need_word) .none kV6 dc6 pm6 an6 cd6 ct6), sl6⟩)
    (c6 : PySem.W.codeIn K cd6 "need_word" = true)
    (k6 : PySem.W.keepIn K (.ref f6) = true)
    (a7 : PySem.W.nsIn K mainGlobals "need_words" = some (some (.ref f7)))
    (l7 : K.lookup f7 = some ⟨oc7, od7, .func (PySem.W.fnOf "need_words" "need_words" (defArgs s_need_words) (defBody s_need_words) (defScope s_need_words) .none kV7 dc7 pm7 an7 cd7 ct7), sl7⟩)
    (c7 : PySem.W.codeIn K cd7 "need_words" = true)
    (k7 : PySem.W.keepIn K (.ref f7) = true)
    (a8 : PySem.W.findIn K (.ref C7) "__init__" = some (some (.ref f8)))
    (fn8 : PySem.W.isFn K (.ref f8) = true)
    (mk8 : PySem.W.makesIn K C7 = true)
    (kc8 : PySem.W.keepIn K (.ref C7) = true)
    (l8 : K.lookup f8 = some ⟨oc8, od8, .func (PySem.W.fnOf "__init__" "Book.__init__" (defArgs s_Book_init) (defBody s_Book_init) (defScope s_Book_init) .none kV8 dc8 pm8 an8 cd8 ct8), sl8⟩)
    (c8 : PySem.W.codeIn K cd8 "Book.__init__" = true)
    (k8 : PySem.W.keepIn K (.ref f8) = true)
    (a9 : PySem.W.nsIn K mainGlobals "_law_shuffled" = some (some (.ref f9)))
    (l9 : K.lookup f9 = some ⟨oc9, od9, .func (PySem.W.fnOf "_law_shuffled" "_law_shuffled" (defArgs s__law_shuffled) (defBody s__law_shuffled) (defScope s__law_shuffled) .none kV9 dc9 pm9 an9 cd9 ct9), sl9⟩)
    (c9 : PySem.W.codeIn K cd9 "_law_shuffled" = true)
    (k9 : PySem.W.keepIn K (.ref f9) = true)
    (a10 : PySem.W.nsIn K mainGlobals "_law_made_book" = some (some (.ref f10)))
    (l10 : K.lookup f10 = some ⟨oc10, od10, .func (PySem.W.fnOf "_law_made_book" "_law_made_book" (defArgs s__law_made_book) (defBody s__law_made_book) (defScope s__law_made_book) .none kV10 dc10 pm10 an10 cd10 ct10), sl10⟩)
    (c10 : PySem.W.codeIn K cd10 "_law_made_book" = true)
    (k10 : PySem.W.keepIn K (.ref f10) = true)
    (a11 : PySem.W.nsIn K mainGlobals "_law_page" = some (some (.ref f11)))
    (l11 : K.lookup f11 = some ⟨oc11, od11, .func (PySem.W.fnOf "_law_page" "_law_page" (defArgs s__law_page) (defBody s__law_page) (defScope s__law_page) .none kV11 dc11 pm11 an11 cd11 ct11), sl11⟩)
    (c11 : PySem.W.codeIn K cd11 "_law_page" = true)
    (k11 : PySem.W.keepIn K (.ref f11) = true)
    (a12 : PySem.W.nsIn K mainGlobals "lines_of" = some (some (.ref f12)))
    (l12 : K.lookup f12 = some ⟨oc12, od12, .func (PySem.W.fnOf "lines_of" "lines_of" (defArgs s_lines_of) (defBody s_lines_of) (defScope s_lines_of) .none kV12 dc12 pm12 an12 cd12 ct12), sl12⟩)
    (c12 : PySem.W.codeIn K cd12 "lines_of" = true)
    (k12 : PySem.W.keepIn K (.ref f12) = true)
    (a13 : PySem.W.nsIn K mainGlobals "line_words" = some (some (.ref f13)))
    (l13 : K.lookup f13 = some ⟨oc13, od13, .func (PySem.W.fnOf "line_words" "line_words" (defArgs s_line_words) (defBody s_line_words) (defScope s_line_words) .none kV13 dc13 pm13 an13 cd13 ct13), sl13⟩)
    (c13 : PySem.W.codeIn K cd13 "line_words" = true)
    (k13 : PySem.W.keepIn K (.ref f13) = true)
    (a14 : PySem.W.nsIn K mainGlobals "read_book" = some (some (.ref f14)))
    (l14 : K.lookup f14 = some ⟨oc14, od14, .func (PySem.W.fnOf "read_book" "read_book" (defArgs s_read_book) (defBody s_read_book) (defScope s_read_book) .none kV14 dc14 pm14 an14 cd14 ct14), sl14⟩)
    (c14 : PySem.W.codeIn K cd14 "read_book" = true)
    (k14 : PySem.W.keepIn K (.ref f14) = true)
    (a15 : PySem.W.nsIn K mainGlobals "_law_refusal" = some (some (.ref f15)))
    (l15 : K.lookup f15 = some ⟨oc15, od15, .func (PySem.W.fnOf "_law_refusal" "_law_refusal" (defArgs s__law_refusal) (defBody s__law_refusal) (defScope s__law_refusal) .none kV15 dc15 pm15 an15 cd15 ct15), sl15⟩)
    (c15 : PySem.W.codeIn K cd15 "_law_refusal" = true)
    (k15 : PySem.W.keepIn K (.ref f15) = true)
    (a16 : PySem.W.nsIn K mainGlobals "_law_is" = some (some (.ref f16)))
    (l16 : K.lookup f16 = some ⟨oc16, od16, .func (PySem.W.fnOf "_law_is" "_law_is" (defArgs s__law_is) (defBody s__law_is) (defScope s__law_is) .none kV16 dc16 pm16 an16 cd16 ct16), sl16⟩)
    (c16 : PySem.W.codeIn K cd16 "_law_is" = true)
    (k16 : PySem.W.keepIn K (.ref f16) = true)
    (a17 : PySem.W.findIn K (.ref C7) "__eq__" = some (some (.ref f17)))
    (fn17 : PySem.W.isFn K (.ref f17) = true)
    (ne17 : PySem.W.findIn K (.ref C7) "__ne__" = some (some (.builtin "object.__ne__")))
    (l17 : K.lookup f17 = some ⟨oc17, od17, .func (PySem.W.fnOf "__eq__" "Book.__eq__" (defArgs s_Book_eq) (defBody s_Book_eq) (defScope s_Book_eq) .none kV17 dc17 pm17 an17 cd17 ct17), sl17⟩)
    (c17 : PySem.W.codeIn K cd17 "Book.__eq__" = true)
    (k17 : PySem.W.keepIn K (.ref f17) = true)
    (a18 : PySem.W.findIn K (.ref C7) "notes" = some (some (.ref p18)))
    (pa18 : PySem.W.specialIn K (.ref p18) "__get__" = some (some (.builtin "property.__get__")))
    (pb18 : PySem.W.takesIn K (.ref p18) = some true)
    (pc18 : PySem.W.recIn K p18 "property" = some (.ref f18 :: rs18))
    (l18 : K.lookup f18 = some ⟨oc18, od18, .func (PySem.W.fnOf "notes" "Book.notes" (defArgs s_Book_notes) (defBody s_Book_notes) (defScope s_Book_notes) .none kV18 dc18 pm18 an18 cd18 ct18), sl18⟩)
    (c18 : PySem.W.codeIn K cd18 "Book.notes" = true)
    (k18 : PySem.W.keepIn K (.ref f18) = true)
    (a19 : PySem.W.nsIn K mainGlobals "_law_odd" = some (some (.ref f19)))
    (l19 : K.lookup f19 = some ⟨oc19, od19, .func (PySem.W.fnOf "_law_odd" "_law_odd" (defArgs s__law_odd) (defBody s__law_odd) (defScope s__law_odd) .none kV19 dc19 pm19 an19 cd19 ct19), sl19⟩)
    (c19 : PySem.W.codeIn K cd19 "_law_odd" = true)
    (k19 : PySem.W.keepIn K (.ref f19) = true)
    (a20 : PySem.W.nsIn K mainGlobals "need_book" = some (some (.ref f20)))
    (l20 : K.lookup f20 = some ⟨oc20, od20, .func (PySem.W.fnOf "need_book" "need_book" (defArgs s_need_book) (defBody s_need_book) (defScope s_need_book) .none kV20 dc20 pm20 an20 cd20 ct20), sl20⟩)
    (c20 : PySem.W.codeIn K cd20 "need_book" = true)
    (k20 : PySem.W.keepIn K (.ref f20) = true)
    (a21 : PySem.W.findIn K (.ref C7) "up" = some (some (.ref p21)))
    (pa21 : PySem.W.specialIn K (.ref p21) "__get__" = some (some (.builtin "property.__get__")))
    (pb21 : PySem.W.takesIn K (.ref p21) = some true)
    (pc21 : PySem.W.recIn K p21 "property" = some (.ref f21 :: rs21))
    (l21 : K.lookup f21 = some ⟨oc21, od21, .func (PySem.W.fnOf "up" "Book.up" (defArgs s_Book_up) (defBody s_Book_up) (defScope s_Book_up) .none kV21 dc21 pm21 an21 cd21 ct21), sl21⟩)
    (c21 : PySem.W.codeIn K cd21 "Book.up" = true)
    (k21 : PySem.W.keepIn K (.ref f21) = true)
    (a22 : PySem.W.findIn K (.ref C7) "down" = some (some (.ref p22)))
    (pa22 : PySem.W.specialIn K (.ref p22) "__get__" = some (some (.builtin "property.__get__")))
    (pb22 : PySem.W.takesIn K (.ref p22) = some true)
    (pc22 : PySem.W.recIn K p22 "property" = some (.ref f22 :: rs22))
    (l22 : K.lookup f22 = some ⟨oc22, od22, .func (PySem.W.fnOf "down" "Book.down" (defArgs s_Book_down) (defBody s_Book_down) (defScope s_Book_down) .none kV22 dc22 pm22 an22 cd22 ct22), sl22⟩)
    (c22 : PySem.W.codeIn K cd22 "Book.down" = true)
    (k22 : PySem.W.keepIn K (.ref f22) = true)
    (a23 : PySem.W.findIn K (.ref C7) "writes" = some (some (.ref p23)))
    (pa23 : PySem.W.specialIn K (.ref p23) "__get__" = some (some (.builtin "property.__get__")))
    (pb23 : PySem.W.takesIn K (.ref p23) = some true)
    (pc23 : PySem.W.recIn K p23 "property" = some (.ref f23 :: rs23))
    (l23 : K.lookup f23 = some ⟨oc23, od23, .func (PySem.W.fnOf "writes" "Book.writes" (defArgs s_Book_writes) (defBody s_Book_writes) (defScope s_Book_writes) .none kV23 dc23 pm23 an23 cd23 ct23), sl23⟩)
    (c23 : PySem.W.codeIn K cd23 "Book.writes" = true)
    (k23 : PySem.W.keepIn K (.ref f23) = true)
    (a24 : PySem.W.findIn K (.ref C7) "moves" = some (some (.ref p24)))
    (pa24 : PySem.W.specialIn K (.ref p24) "__get__" = some (some (.builtin "property.__get__")))
    (pb24 : PySem.W.takesIn K (.ref p24) = some true)
    (pc24 : PySem.W.recIn K p24 "property" = some (.ref f24 :: rs24))
    (l24 : K.lookup f24 = some ⟨oc24, od24, .func (PySem.W.fnOf "moves" "Book.moves" (defArgs s_Book_moves) (defBody s_Book_moves) (defScope s_Book_moves) .none kV24 dc24 pm24 an24 cd24 ct24), sl24⟩)
    (c24 : PySem.W.codeIn K cd24 "Book.moves" = true)
    (k24 : PySem.W.keepIn K (.ref f24) = true)
    (a25 : PySem.W.findIn K (.ref C7) "finish" = some (some (.ref p25)))
    (pa25 : PySem.W.specialIn K (.ref p25) "__get__" = some (some (.builtin "property.__get__")))
    (pb25 : PySem.W.takesIn K (.ref p25) = some true)
    (pc25 : PySem.W.recIn K p25 "property" = some (.ref f25 :: rs25))
    (l25 : K.lookup f25 = some ⟨oc25, od25, .func (PySem.W.fnOf "finish" "Book.finish" (defArgs s_Book_finish) (defBody s_Book_finish) (defScope s_Book_finish) .none kV25 dc25 pm25 an25 cd25 ct25), sl25⟩)
    (c25 : PySem.W.codeIn K cd25 "Book.finish" = true)
    (k25 : PySem.W.keepIn K (.ref f25) = true)
    (a26 : PySem.W.findIn K (.ref C7) "counts" = some (some (.ref p26)))
    (pa26 : PySem.W.specialIn K (.ref p26) "__get__" = some (some (.builtin "property.__get__")))
    (pb26 : PySem.W.takesIn K (.ref p26) = some true)
    (pc26 : PySem.W.recIn K p26 "property" = some (.ref f26 :: rs26))
    (l26 : K.lookup f26 = some ⟨oc26, od26, .func (PySem.W.fnOf "counts" "Book.counts" (defArgs s_Book_counts) (defBody s_Book_counts) (defScope s_Book_counts) .none kV26 dc26 pm26 an26 cd26 ct26), sl26⟩)
    (c26 : PySem.W.codeIn K cd26 "Book.counts" = true)
    (k26 : PySem.W.keepIn K (.ref f26) = true)
    (a27 : PySem.W.nsIn K mainGlobals "chosen_words" = some (some (.ref f27)))
    (l27 : K.lookup f27 = some ⟨oc27, od27, .func (PySem.W.fnOf "chosen_words" "chosen_words" (defArgs s_chosen_words) (defBody s_chosen_words) (defScope s_chosen_words) .none kV27 dc27 pm27 an27 cd27 ct27), sl27⟩)
    (c27 : PySem.W.codeIn K cd27 "chosen_words" = true)
    (k27 : PySem.W.keepIn K (.ref f27) = true)
    (a28 : PySem.W.findIn K (.ref C7) "bars" = some (some (.ref p28)))
    (pa28 : PySem.W.specialIn K (.ref p28) "__get__" = some (some (.builtin "property.__get__")))
    (pb28 : PySem.W.takesIn K (.ref p28) = some true)
    (pc28 : PySem.W.recIn K p28 "property" = some (.ref f28 :: rs28))
    (l28 : K.lookup f28 = some ⟨oc28, od28, .func (PySem.W.fnOf "bars" "Book.bars" (defArgs s_Book_bars) (defBody s_Book_bars) (defScope s_Book_bars) .none kV28 dc28 pm28 an28 cd28 ct28), sl28⟩)
    (c28 : PySem.W.codeIn K cd28 "Book.bars" = true)
    (k28 : PySem.W.keepIn K (.ref f28) = true)
    (a29 : PySem.W.nsIn K mainGlobals "book_text" = some (some (.ref f29)))
    (l29 : K.lookup f29 = some ⟨oc29, od29, .func (PySem.W.fnOf "book_text" "book_text" (defArgs s_book_text) (defBody s_book_text) (defScope s_book_text) .none kV29 dc29 pm29 an29 cd29 ct29), sl29⟩)
    (c29 : PySem.W.codeIn K cd29 "book_text" = true)
    (k29 : PySem.W.keepIn K (.ref f29) = true)
    (a30 : PySem.W.nsIn K mainGlobals "law" = some (some (.ref f30)))
    (l30 : K.lookup f30 = some ⟨oc30, od30, .func (PySem.W.fnOf "law" "law" (defArgs s_law) (defBody s_law) (defScope s_law) .none kV30 dc30 pm30 an30 (.ref ca30) ct30), sl30⟩)
    (c30 : PySem.W.codeIn K (.ref ca30) "law" = true)
    (k30 : PySem.W.keepIn K (.ref f30) = true)
    (tl30 : K.lookup ca30 = some ⟨tcl30, tod30, .fields vs30, tsl30⟩)
    (tv30 : vs30[11]? = some (.ref P30))
    (td30 : PySem.W.codeHdIn K ca30 P30 = true)
    (tn30 : K.lookup P30 = none)
    (tt30 : h.get? P30 = some { cls := .none, data := .fields #[] })
    (g_UPS : PySem.W.nsIn K mainGlobals "UPS" = some (some (.ref p_UPS)))
    (h_UPS : K.lookup p_UPS = some ⟨.type "tuple", dd_UPS, .seq [.str "one" t_UPS0, .str "late" t_UPS1, .str "blind" t_UPS2].toArray n_UPS, sl_UPS⟩)
    (g_DOWNS : PySem.W.nsIn K mainGlobals "DOWNS" = some (some (.ref p_DOWNS)))
    (h_DOWNS : K.lookup p_DOWNS = some ⟨.type "tuple", dd_DOWNS, .seq [.str "one" t_DOWNS0, .str "two" t_DOWNS1].toArray n_DOWNS, sl_DOWNS⟩)
    (g_WRITES : PySem.W.nsIn K mainGlobals "WRITES" = some (some (.ref p_WRITES)))
    (h_WRITES : K.lookup p_WRITES = some ⟨.type "tuple", dd_WRITES, .seq [.str "plain" t_WRITES0, .str "both" t_WRITES1, .str "again" t_WRITES2, .str "behind" t_WRITES3, .str "refused" t_WRITES4].toArray n_WRITES, sl_WRITES⟩)
    (g_MOVES : PySem.W.nsIn K mainGlobals "MOVES" = some (some (.ref p_MOVES)))
    (h_MOVES : K.lookup p_MOVES = some ⟨.type "tuple", dd_MOVES, .seq [.str "now" t_MOVES0, .str "first" t_MOVES1].toArray n_MOVES, sl_MOVES⟩)
    (g_FINISHES : PySem.W.nsIn K mainGlobals "FINISHES" = some (some (.ref p_FINISHES)))
    (h_FINISHES : K.lookup p_FINISHES = some ⟨.type "tuple", dd_FINISHES, .seq [.str "one" t_FINISHES0, .str "link" t_FINISHES1, .str "cut" t_FINISHES2].toArray n_FINISHES, sl_FINISHES⟩)
    (g_COUNTS : PySem.W.nsIn K mainGlobals "COUNTS" = some (some (.ref p_COUNTS)))
    (h_COUNTS : K.lookup p_COUNTS = some ⟨.type "tuple", dd_COUNTS, .seq [.str "last" t_COUNTS0, .str "first" t_COUNTS1, .str "never" t_COUNTS2].toArray n_COUNTS, sl_COUNTS⟩)
    (g_BARS : PySem.W.nsIn K mainGlobals "BARS" = some (some (.ref p_BARS)))
    (h_BARS : K.lookup p_BARS = some ⟨.type "tuple", dd_BARS, .seq [.str "cover" t_BARS0, .str "lower" t_BARS1, .str "open" t_BARS2, .str "others" t_BARS3, .str "upper" t_BARS4].toArray n_BARS, sl_BARS⟩)
    (g_NOTES : PySem.W.nsIn K mainGlobals "NOTES" = some (some (.ref p_NOTES)))
    (h_NOTES : K.lookup p_NOTES = some ⟨.type "tuple", dd_NOTES, .seq [.str "again" t_NOTES0, .str "job" t_NOTES1, .str "place" t_NOTES2].toArray n_NOTES, sl_NOTES⟩)
    (g_FIELDS : PySem.W.nsIn K mainGlobals "FIELDS" = some (some (.ref p_FIELDS)))
    (h_FIELDS_0_1 : K.lookup p_FIELDS_0_1 = some ⟨.type "tuple", dd_FIELDS_0_1, .seq [.str "one" t_FIELDS_0_10, .str "late" t_FIELDS_0_11, .str "blind" t_FIELDS_0_12].toArray n_FIELDS_0_1, sl_FIELDS_0_1⟩)
    (h_FIELDS_0 : K.lookup p_FIELDS_0 = some ⟨.type "tuple", dd_FIELDS_0, .seq [.str "up" t_FIELDS_00, .ref p_FIELDS_0_1].toArray n_FIELDS_0, sl_FIELDS_0⟩)
    (h_FIELDS_1_1 : K.lookup p_FIELDS_1_1 = some ⟨.type "tuple", dd_FIELDS_1_1, .seq [.str "one" t_FIELDS_1_10, .str "two" t_FIELDS_1_11].toArray n_FIELDS_1_1, sl_FIELDS_1_1⟩)
    (h_FIELDS_1 : K.lookup p_FIELDS_1 = some ⟨.type "tuple", dd_FIELDS_1, .seq [.str "down" t_FIELDS_10, .ref p_FIELDS_1_1].toArray n_FIELDS_1, sl_FIELDS_1⟩)
    (h_FIELDS_2_1 : K.lookup p_FIELDS_2_1 = some ⟨.type "tuple", dd_FIELDS_2_1, .seq [.str "plain" t_FIELDS_2_10, .str "both" t_FIELDS_2_11, .str "again" t_FIELDS_2_12, .str "behind" t_FIELDS_2_13, .str "refused" t_FIELDS_2_14].toArray n_FIELDS_2_1, sl_FIELDS_2_1⟩)
    (h_FIELDS_2 : K.lookup p_FIELDS_2 = some ⟨.type "tuple", dd_FIELDS_2, .seq [.str "writes" t_FIELDS_20, .ref p_FIELDS_2_1].toArray n_FIELDS_2, sl_FIELDS_2⟩)
    (h_FIELDS_3_1 : K.lookup p_FIELDS_3_1 = some ⟨.type "tuple", dd_FIELDS_3_1, .seq [.str "now" t_FIELDS_3_10, .str "first" t_FIELDS_3_11].toArray n_FIELDS_3_1, sl_FIELDS_3_1⟩)
    (h_FIELDS_3 : K.lookup p_FIELDS_3 = some ⟨.type "tuple", dd_FIELDS_3, .seq [.str "moves" t_FIELDS_30, .ref p_FIELDS_3_1].toArray n_FIELDS_3, sl_FIELDS_3⟩)
    (h_FIELDS_4_1 : K.lookup p_FIELDS_4_1 = some ⟨.type "tuple", dd_FIELDS_4_1, .seq [.str "one" t_FIELDS_4_10, .str "link" t_FIELDS_4_11, .str "cut" t_FIELDS_4_12].toArray n_FIELDS_4_1, sl_FIELDS_4_1⟩)
    (h_FIELDS_4 : K.lookup p_FIELDS_4 = some ⟨.type "tuple", dd_FIELDS_4, .seq [.str "finish" t_FIELDS_40, .ref p_FIELDS_4_1].toArray n_FIELDS_4, sl_FIELDS_4⟩)
    (h_FIELDS_5_1 : K.lookup p_FIELDS_5_1 = some ⟨.type "tuple", dd_FIELDS_5_1, .seq [.str "last" t_FIELDS_5_10, .str "first" t_FIELDS_5_11, .str "never" t_FIELDS_5_12].toArray n_FIELDS_5_1, sl_FIELDS_5_1⟩)
    (h_FIELDS_5 : K.lookup p_FIELDS_5 = some ⟨.type "tuple", dd_FIELDS_5, .seq [.str "counts" t_FIELDS_50, .ref p_FIELDS_5_1].toArray n_FIELDS_5, sl_FIELDS_5⟩)
    (h_FIELDS : K.lookup p_FIELDS = some ⟨.type "tuple", dd_FIELDS, .seq [.ref p_FIELDS_0, .ref p_FIELDS_1, .ref p_FIELDS_2, .ref p_FIELDS_3, .ref p_FIELDS_4, .ref p_FIELDS_5].toArray n_FIELDS, sl_FIELDS⟩)
    (g_SETS : PySem.W.nsIn K mainGlobals "SETS" = some (some (.ref p_SETS)))
    (h_SETS_0_1 : K.lookup p_SETS_0_1 = some ⟨.type "tuple", dd_SETS_0_1, .seq [.str "cover" t_SETS_0_10, .str "lower" t_SETS_0_11, .str "open" t_SETS_0_12, .str "others" t_SETS_0_13, .str "upper" t_SETS_0_14].toArray n_SETS_0_1, sl_SETS_0_1⟩)
    (h_SETS_0 : K.lookup p_SETS_0 = some ⟨.type "tuple", dd_SETS_0, .seq [.str "bars" t_SETS_00, .ref p_SETS_0_1].toArray n_SETS_0, sl_SETS_0⟩)
    (h_SETS_1_1 : K.lookup p_SETS_1_1 = some ⟨.type "tuple", dd_SETS_1_1, .seq [.str "again" t_SETS_1_10, .str "job" t_SETS_1_11, .str "place" t_SETS_1_12].toArray n_SETS_1_1, sl_SETS_1_1⟩)
    (h_SETS_1 : K.lookup p_SETS_1 = some ⟨.type "tuple", dd_SETS_1, .seq [.str "notes" t_SETS_10, .ref p_SETS_1_1].toArray n_SETS_1, sl_SETS_1⟩)
    (h_SETS : K.lookup p_SETS = some ⟨.type "tuple", dd_SETS, .seq [.ref p_SETS_0, .ref p_SETS_1].toArray n_SETS, sl_SETS⟩)
    (g_LINES : PySem.W.nsIn K mainGlobals "LINES" = some (some (.int 8 t_LINES)))
    (z_super : PySem.W.nsIn K mainGlobals "super" = some none)
    (z_abs : PySem.W.nsIn K mainGlobals "abs" = some none)
    (z_int : PySem.W.nsIn K mainGlobals "int" = some none)
    (z_len : PySem.W.nsIn K mainGlobals "len" = some none)
    (z_isinstance : PySem.W.nsIn K mainGlobals "isinstance" = some none)
    (z_str : PySem.W.nsIn K mainGlobals "str" = some none)
    (z_tuple : PySem.W.nsIn K mainGlobals "tuple" = some none)
    (z_list : PySem.W.nsIn K mainGlobals "list" = some none)
    (z_set : PySem.W.nsIn K mainGlobals "set" = some none)
    (z_sorted : PySem.W.nsIn K mainGlobals "sorted" = some none)
    (z_all : PySem.W.nsIn K mainGlobals "all" = some none)
    (z_enumerate : PySem.W.nsIn K mainGlobals "enumerate" = some none)
    (z_ValueError : PySem.W.nsIn K mainGlobals "ValueError" = some none)
    (z_repr : PySem.W.nsIn K mainGlobals "repr" = some none)
    (z_zip : PySem.W.nsIn K mainGlobals "zip" = some none)
    (z_range : PySem.W.nsIn K mainGlobals "range" = some none)
    (z_min : PySem.W.nsIn K mainGlobals "min" = some none)
    (z_dict : PySem.W.nsIn K mainGlobals "dict" = some none)
    (tu30 : (([(P30, ("law" : Str) ++ (".<locals>." : Str) ++ ("<lambda>" : Str))] : List (Addr × Str)).all fun p => decide (p.1 = P30 → p.2 = ("law" : Str) ++ (".<locals>." : Str) ++ ("<lambda>" : Str))) = true)
    (ag0 : PySem.W.nsIn K mainGlobals "_law_caught" = some (some (.ref fg0)))
    (lg0 : K.lookup fg0 = some ⟨ocg0, odg0, .func (PySem.W.fnOf "_law_caught" "_law_caught" (defArgs s__law_caught) (defBody s__law_caught) (defScope s__law_caught) .none kVg0 dcg0 pmg0 ang0 cdg0 ctg0), slg0⟩)
    (cg0 : PySem.W.codeIn K cdg0 "_law_caught" = true)
    (kg0 : PySem.W.keepIn K (.ref fg0) = true)
    (xm0 : PySem.W.exmOne K (.ref C0) (.ref C0) = some true)
    (xm1 : PySem.W.exmOne K (.ref C1) (.ref C0) = some true)
    (xm2 : PySem.W.exmOne K (.ref C2) (.ref C0) = some true)
    (xm3 : PySem.W.exmOne K (.ref C3) (.ref C0) = some true)
    (xm4 : PySem.W.exmOne K (.ref C4) (.ref C0) = some true)
    (xm5 : PySem.W.exmOne K (.ref C5) (.ref C0) = some true)
    (xm6 : PySem.W.exmOne K (.ref C6) (.ref C0) = some true)
    (be0 : excB K C0 = true)
    (be1 : excB K C1 = true)
    (be2 : excB K C2 = true)
    (be3 : excB K C3 = true)
    (be4 : excB K C4 = true)
    (be5 : excB K C5 = true)
    (be6 : excB K C6 = true)
    (xf_field : ([3].all fun c => decide (PySem.W.findIn K (.ref ((⟨fun n => [C0, C1, C2, C3, C4, C5, C6, C7].getD n 0, [(P30, ("law" : Str) ++ (".<locals>." : Str) ++ ("<lambda>" : Str))]⟩ : CAs) c)) "field" = some none)) = true)
    (xf_number : ([2].all fun c => decide (PySem.W.findIn K (.ref ((⟨fun n => [C0, C1, C2, C3, C4, C5, C6, C7].getD n 0, [(P30, ("law" : Str) ++ (".<locals>." : Str) ++ ("<lambda>" : Str))]⟩ : CAs) c)) "number" = some none)) = true)
    (xf_at : ([1].all fun c => decide (PySem.W.findIn K (.ref ((⟨fun n => [C0, C1, C2, C3, C4, C5, C6, C7].getD n 0, [(P30, ("law" : Str) ++ (".<locals>." : Str) ++ ("<lambda>" : Str))]⟩ : CAs) c)) "at" = some none)) = true)
    (xf_line : ([6].all fun c => decide (PySem.W.findIn K (.ref ((⟨fun n => [C0, C1, C2, C3, C4, C5, C6, C7].getD n 0, [(P30, ("law" : Str) ++ (".<locals>." : Str) ++ ("<lambda>" : Str))]⟩ : CAs) c)) "line" = some none)) = true)
    (tpS : (l.prog.main.scope.names.lookup ("super" : Str)).isSome = false)
    (xb3 : iniB K C3 "field" = true)
    (xi3 : PySem.W.findIn K (.ref C3) "__init__" = some (some (.ref xf3)))
    (xl3 : K.lookup xf3 = some ⟨xoc3, xod3, .func (PySem.W.ksFn "__init__" "BadBook.__init__" (defArgs s_BadBook_init) (defBody s_BadBook_init) (defScope s_BadBook_init) .none xkV3 xdoc3 xpm3 xan3 (.ref xa3) xct3 xc3), xsl3⟩)
    (xt3 : PySem.W.typeIn K (.ref xf3) = some (.type "function"))
    (xk3 : PySem.W.codeIn K (.ref xa3) "BadBook.__init__" = true)
    (xla3 : K.lookup xa3 = some ⟨xcl3, xcd3, .fields xvs3, xcs3⟩)
    (xv3 : xvs3[2]? = some (.str xfile3 xtf3))
    (xh3 : ((l.prog.main.file : Str) == xfile3) = true)
    (xlc3 : K.lookup xc3 = some ⟨xcv3, xce3, .cell (some (.ref C3)), xct23⟩)
    (xb6 : iniB K C6 "line" = true)
    (xi6 : PySem.W.findIn K (.ref C6) "__init__" = some (some (.ref xf6)))
    (xl6 : K.lookup xf6 = some ⟨xoc6, xod6, .func (PySem.W.ksFn "__init__" "BadText.__init__" (defArgs s_BadText_init) (defBody s_BadText_init) (defScope s_BadText_init) .none xkV6 xdoc6 xpm6 xan6 (.ref xa6) xct6 xc6), xsl6⟩)
    (xt6 : PySem.W.typeIn K (.ref xf6) = some (.type "function"))
    (xk6 : PySem.W.codeIn K (.ref xa6) "BadText.__init__" = true)
    (xla6 : K.lookup xa6 = some ⟨xcl6, xcd6, .fields xvs6, xcs6⟩)
    (xv6 : xvs6[2]? = some (.str xfile6 xtf6))
    (xh6 : ((l.prog.main.file : Str) == xfile6) = true)
    (xlc6 : K.lookup xc6 = some ⟨xcv6, xce6, .cell (some (.ref C6)), xct26⟩)
    (bc7 : clsB K C7 = true)
    (bf7 : noB K C7 ["b_words", "b_bars", "b_notes"] = true)
    (bk : ktChk K (⟨fun n => [C0, C1, C2, C3, C4, C5, C6, C7].getD n 0, [(P30, ("law" : Str) ++ (".<locals>." : Str) ++ ("<lambda>" : Str))]⟩ : CAs) [[.o 0, .b "ValueError"], [.o 1, .o 0, .b "ValueError"], [.o 2, .o 0, .b "ValueError"], [.o 3, .o 0, .b "ValueError"], [.o 4, .o 0, .b "ValueError"], [.o 5, .o 0, .b "ValueError"], [.o 6, .o 0, .b "ValueError"], [.o 7]] ("ValueError" :: tys) = true)
    (nb17 : nfB K (⟨fun n => [C0, C1, C2, C3, C4, C5, C6, C7].getD n 0, [(P30, ("law" : Str) ++ (".<locals>." : Str) ++ ("<lambda>" : Str))]⟩ : CAs) 7 [.b "NoneType", .b "bool", .b "int", .b "str", .b "list", .b "tuple", .b "dict", .o 0, .o 1, .o 2, .o 3, .o 4, .o 5, .o 6, .o 7] = true)
    : ∃ (fd : FuncData) (CA : CAs) (cs : List (Addr × Addr)), (∀ p ∈ CA.T, ∃ c, (c, p.1) ∈ cs) ∧ (∀ p ∈ cs, h.get? p.2 = some { cls := .none, data := .fields #[] }) ∧ (∀ p ∈ cs, K.lookup p.2 = none) ∧ (∀ p ∈ cs, PySem.W.CodeHd h p.1 p.2) ∧ (∀ (s : Shared) (v : Value), BindsTo s fd ⟨[v], []⟩ [("_law_script", v)]) ∧ ∀ base : Heap, K.In base → base.Ns mainGlobals mg → SM base → (∀ p ∈ cs, LamX.TabB base mg p.1 p.2) → FnG l.prog w K mg base true 11 fa fd ["_law_script"] (spD K CA 1 F_law) := by
  have e := hfa.symm.trans (PySem.W.mg_of X G a30)
  cases e
  have T : Txt mg := ⟨PySem.W.mg_none_of X G z_super, PySem.W.mg_none_of X G z_abs, PySem.W.mg_none_of X G z_int, PySem.W.mg_none_of X G z_len, PySem.W.mg_none_of X G z_isinstance, PySem.W.mg_none_of X G z_str, PySem.W.mg_none_of X G z_tuple, PySem.W.mg_none_of X G z_list, PySem.W.mg_none_of X G z_set, PySem.W.mg_none_of X G z_sorted, PySem.W.mg_none_of X G z_all, PySem.W.mg_none_of X G z_enumerate, PySem.W.mg_none_of X G z_ValueError, PySem.W.mg_none_of X G z_repr, PySem.W.mg_none_of X G z_zip, PySem.W.mg_none_of X G z_range, PySem.W.mg_none_of X G z_min, PySem.W.mg_none_of X G z_dict⟩
  let CA : CAs := (⟨fun n => [C0, C1, C2, C3, C4, C5, C6, C7].getD n 0, [(P30, ("law" : Str) ++ (".<locals>." : Str) ++ ("<lambda>" : Str))]⟩ : CAs)
  have E0 : ExcOk K (CA 0) := excB_ok be0
  have E1 : ExcOk K (CA 1) := excB_ok be1
  have E2 : ExcOk K (CA 2) := excB_ok be2
  have E3 : ExcOk K (CA 3) := excB_ok be3
  have E4 : ExcOk K (CA 4) := excB_ok be4
  have E5 : ExcOk K (CA 5) := excB_ok be5
  have E6 : ExcOk K (CA 6) := excB_ok be6
  have K7 : ClsOk K (CA 7) := clsB_ok bc7
  have C : Cst K CA mg := ⟨gv_wr (PySem.W.mg_of X G g_UPS) (.tup h_UPS (.cons (.str "one" _) (.cons (.str "late" _) (.cons (.str "blind" _) (.nil)))) (show 3 ≤ sizeLine by decide)), gv_wr (PySem.W.mg_of X G g_DOWNS) (.tup h_DOWNS (.cons (.str "one" _) (.cons (.str "two" _) (.nil))) (show 2 ≤ sizeLine by decide)), gv_wr (PySem.W.mg_of X G g_WRITES) (.tup h_WRITES (.cons (.str "plain" _) (.cons (.str "both" _) (.cons (.str "again" _) (.cons (.str "behind" _) (.cons (.str "refused" _) (.nil)))))) (show 5 ≤ sizeLine by decide)), gv_wr (PySem.W.mg_of X G g_MOVES) (.tup h_MOVES (.cons (.str "now" _) (.cons (.str "first" _) (.nil))) (show 2 ≤ sizeLine by decide)), gv_wr (PySem.W.mg_of X G g_FINISHES) (.tup h_FINISHES (.cons (.str "one" _) (.cons (.str "link" _) (.cons (.str "cut" _) (.nil)))) (show 3 ≤ sizeLine by decide)), gv_wr (PySem.W.mg_of X G g_COUNTS) (.tup h_COUNTS (.cons (.str "last" _) (.cons (.str "first" _) (.cons (.str "never" _) (.nil)))) (show 3 ≤ sizeLine by decide)), gv_wr (PySem.W.mg_of X G g_BARS) (.tup h_BARS (.cons (.str "cover" _) (.cons (.str "lower" _) (.cons (.str "open" _) (.cons (.str "others" _) (.cons (.str "upper" _) (.nil)))))) (show 5 ≤ sizeLine by decide)), gv_wr (PySem.W.mg_of X G g_NOTES) (.tup h_NOTES (.cons (.str "again" _) (.cons (.str "job" _) (.cons (.str "place" _) (.nil)))) (show 3 ≤ sizeLine by decide)), gv_wr (PySem.W.mg_of X G g_FIELDS) (.tup h_FIELDS (.cons (.tup h_FIELDS_0 (.cons (.str "up" _) (.cons (.tup h_FIELDS_0_1 (.cons (.str "one" _) (.cons (.str "late" _) (.cons (.str "blind" _) (.nil)))) (show 3 ≤ sizeLine by decide)) (.nil))) (show 2 ≤ sizeLine by decide)) (.cons (.tup h_FIELDS_1 (.cons (.str "down" _) (.cons (.tup h_FIELDS_1_1 (.cons (.str "one" _) (.cons (.str "two" _) (.nil))) (show 2 ≤ sizeLine by decide)) (.nil))) (show 2 ≤ sizeLine by decide)) (.cons (.tup h_FIELDS_2 (.cons (.str "writes" _) (.cons (.tup h_FIELDS_2_1 (.cons (.str "plain" _) (.cons (.str "both" _) (.cons (.str "again" _) (.cons (.str "behind" _) (.cons (.str "refused" _) (.nil)))))) (show 5 ≤ sizeLine by decide)) (.nil))) (show 2 ≤ sizeLine by decide)) (.cons (.tup h_FIELDS_3 (.cons (.str "moves" _) (.cons (.tup h_FIELDS_3_1 (.cons (.str "now" _) (.cons (.str "first" _) (.nil))) (show 2 ≤ sizeLine by decide)) (.nil))) (show 2 ≤ sizeLine by decide)) (.cons (.tup h_FIELDS_4 (.cons (.str "finish" _) (.cons (.tup h_FIELDS_4_1 (.cons (.str "one" _) (.cons (.str "link" _) (.cons (.str "cut" _) (.nil)))) (show 3 ≤ sizeLine by decide)) (.nil))) (show 2 ≤ sizeLine by decide)) (.cons (.tup h_FIELDS_5 (.cons (.str "counts" _) (.cons (.tup h_FIELDS_5_1 (.cons (.str "last" _) (.cons (.str "first" _) (.cons (.str "never" _) (.nil)))) (show 3 ≤ sizeLine by decide)) (.nil))) (show 2 ≤ sizeLine by decide)) (.nil))))))) (show 6 ≤ sizeLine by decide)), gv_wr (PySem.W.mg_of X G g_SETS) (.tup h_SETS (.cons (.tup h_SETS_0 (.cons (.str "bars" _) (.cons (.tup h_SETS_0_1 (.cons (.str "cover" _) (.cons (.str "lower" _) (.cons (.str "open" _) (.cons (.str "others" _) (.cons (.str "upper" _) (.nil)))))) (show 5 ≤ sizeLine by decide)) (.nil))) (show 2 ≤ sizeLine by decide)) (.cons (.tup h_SETS_1 (.cons (.str "notes" _) (.cons (.tup h_SETS_1_1 (.cons (.str "again" _) (.cons (.str "job" _) (.cons (.str "place" _) (.nil)))) (show 3 ≤ sizeLine by decide)) (.nil))) (show 2 ≤ sizeLine by decide)) (.nil))) (show 2 ≤ sizeLine by decide)), gv_int (PySem.W.mg_of X G g_LINES), gv_cls (PySem.W.mg_of X G ac1) rfl, gv_cls (PySem.W.mg_of X G ac2) rfl, gv_cls (PySem.W.mg_of X G ac3) rfl, gv_cls (PySem.W.mg_of X G ac4) rfl, gv_cls (PySem.W.mg_of X G ac5) rfl, gv_cls (PySem.W.mg_of X G ac6) rfl, gv_cls (PySem.W.mg_of X G ac7) rfl⟩
  have Fl : Fld K CA := ⟨FldOf.one K7.cl (noB_ok bf7 (by decide)), FldOf.one K7.cl (noB_ok bf7 (by decide)), FldOf.one K7.cl (noB_ok bf7 (by decide))⟩
  have XE : ∀ c ∈ (xs0 : List Nat), ExcOk K (CA c) := fun c hc => by
    simp only [xs0, List.mem_cons, List.not_mem_nil, or_false] at hc
    rcases hc with rfl | rfl | rfl | rfl | rfl | rfl | rfl
    all_goals first | exact E0 | exact E1 | exact E2 | exact E3 | exact E4 | exact E5 | exact E6
  have Xf : XFd K CA := ⟨xfOf_by (fun c hc => XE c ((by decide : ∀ c ∈ ([3] : List Nat), c ∈ (xs0 : List Nat)) c hc)) xf_field, xfOf_by (fun c hc => XE c ((by decide : ∀ c ∈ ([2] : List Nat), c ∈ (xs0 : List Nat)) c hc)) xf_number, xfOf_by (fun c hc => XE c ((by decide : ∀ c ∈ ([1] : List Nat), c ∈ (xs0 : List Nat)) c hc)) xf_at, xfOf_by (fun c hc => XE c ((by decide : ∀ c ∈ ([6] : List Nat), c ∈ (xs0 : List Nat)) c hc)) xf_line⟩
  have Hx : ∀ c ∈ (xs0 : List Nat), PySem.W.exmOne K (.ref (CA c)) (.ref (CA 0)) = some true := fun c hc => by
    simp only [xs0, List.mem_cons, List.not_mem_nil, or_false] at hc
    rcases hc with rfl | rfl | rfl | rfl | rfl | rfl | rfl
    all_goals first | exact xm0 | exact xm1 | exact xm2 | exact xm3 | exact xm4 | exact xm5 | exact xm6
  have FG0 := fun_mk (st := s__law_caught) lg0 cg0 kg0
  have G__law_caught : Cgt K CA mg "_law_caught" 0 := cgt_mk (a := "_law_work") (e := "MergeError") (c := "_law_caught_here") (n := "_law_error") lg0 cg0 kg0 (PySem.W.mg_of X G ag0) (PySem.W.mg_of X G ac0) (FG0.binds (fun _ _ _ _ _ _ us hl => match us, hl with | [_], _ => rfl)) ⟨rfl, rfl, rfl, by decide +kernel, rfl, by decide +kernel, by decide +kernel⟩ rfl (by decide) rfl rfl rfl (by decide) (by decide) (by decide) (by decide) (by decide) (by decide)
  have X_BadBook : Xmd l.prog K mg (CA 3) "BadBook" "field" "field" := xmd_of (st := s_BadBook_init) (PySem.W.mg_of X G ac3) E3 xb3 T.z_super tpS xi3 xt3 xl3 xk3 (by decide +kernel) ⟨_, _, _, _, _, _, _, _, _, _, _, _, rfl, fun env => ⟨_, rfl⟩⟩ ⟨_, rfl, rfl⟩ xla3 xv3 xh3 xlc3 (fun s u v => ⟨.of_eq rfl, .of_eq rfl⟩)
  have X_BadText : Xmd l.prog K mg (CA 6) "BadText" "line" "line" := xmd_of (st := s_BadText_init) (PySem.W.mg_of X G ac6) E6 xb6 T.z_super tpS xi6 xt6 xl6 xk6 (by decide +kernel) ⟨_, _, _, _, _, _, _, _, _, _, _, _, rfl, fun env => ⟨_, rfl⟩⟩ ⟨_, rfl, rfl⟩ xla6 xv6 xh6 xlc6 (fun s u v => ⟨.of_eq rfl, .of_eq rfl⟩)
  have Kt : KtOk K CA [7] kt0 := ktT_ok bk (fun c hc => by
    simp only [List.mem_cons, List.not_mem_nil, or_false] at hc
    subst hc
    all_goals first | exact K7)
  refine ⟨PySem.W.fnOf "law" "law" (defArgs s_law) (defBody s_law) (defScope s_law) .none kV30 dc30 pm30 an30 (.ref ca30) ct30, CA, [(ca30, P30)], List.forall_mem_cons.mpr ⟨⟨ca30, by simp⟩, (fun _ h => nomatch h)⟩, List.forall_mem_cons.mpr ⟨tt30, (fun _ h => nomatch h)⟩, List.forall_mem_cons.mpr ⟨tn30, (fun _ h => nomatch h)⟩, List.forall_mem_cons.mpr ⟨PySem.W.codeHd_of_K X td30, (fun _ h => nomatch h)⟩, fun s v => .of_eq rfl, fun base _ _ SMb TBs => ?_⟩
  have F0 := fun_mk (st := s__law_begun) l0 c0 k0
  have D__law_begun : Df l.prog w K mg base CA "_law_begun" false 1 ["_law_script"] F__law_begun _ _ := Df.of F0 (ok__law_begun F0 T Hx XE Xf SMb C Fl Kt ) (PySem.W.mg_of X G a0)
  have F1 := fun_mk (st := s__law_mixed) l1 c1 k1
  have D__law_mixed : Df l.prog w K mg base CA "_law_mixed" false 1 ["_law_draw"] F__law_mixed _ _ := Df.of F1 (ok__law_mixed F1 T Hx XE Xf SMb C Fl Kt ) (PySem.W.mg_of X G a1)
  have F2 := fun_mk (st := s__law_take) l2 c2 k2
  have B__law_mixed_1 : KwB K CA _ ["_law_draw"] 1 [] (srcP 0 1) := KwB.fn F1 rfl (fun _ _ _ _ _ _ us ws h1 h2 => match us, ws, h1, h2 with | [_], [], _, _ => rfl)
  have D__law_take : Df l.prog w K mg base CA "_law_take" false 2 ["_law_draw", "_law_size"] F__law_take _ _ := Df.of F2 (ok__law_take F2 T Hx XE Xf SMb C Fl Kt B__law_mixed_1 D__law_mixed) (PySem.W.mg_of X G a2)
  have F3 := fun_mk (st := s__law_pick) l3 c3 k3
  have B__law_take_2 : KwB K CA _ ["_law_draw", "_law_size"] 2 [] (srcP 0 2) := KwB.fn F2 rfl (fun _ _ _ _ _ _ us ws h1 h2 => match us, ws, h1, h2 with | [_, _], [], _, _ => rfl)
  have D__law_pick : Df l.prog w K mg base CA "_law_pick" false 3 ["_law_draw", "_law_some"] F__law_pick _ _ := Df.of F3 (ok__law_pick F3 T Hx XE Xf SMb C Fl Kt B__law_take_2 D__law_take) (PySem.W.mg_of X G a3)
  have F4 := fun_mk (st := s__law_words) l4 c4 k4
  have D__law_words : Df l.prog w K mg base CA "_law_words" false 1 ["_law_field"] F__law_words _ _ := Df.of F4 (ok__law_words F4 T Hx XE Xf SMb C Fl Kt ) (PySem.W.mg_of X G a4)
  have F5 := fun_mk (st := s__law_drawn_book) l5 c5 k5
  have B__law_pick_2 : KwB K CA _ ["_law_draw", "_law_some"] 2 [] (srcP 0 2) := KwB.fn F3 rfl (fun _ _ _ _ _ _ us ws h1 h2 => match us, ws, h1, h2 with | [_, _], [], _, _ => rfl)
  have B__law_words_1 : KwB K CA _ ["_law_field"] 1 [] (srcP 0 1) := KwB.fn F4 rfl (fun _ _ _ _ _ _ us ws h1 h2 => match us, ws, h1, h2 with | [_], [], _, _ => rfl)
  have D__law_drawn_book : Df l.prog w K mg base CA "_law_drawn_book" false 4 ["_law_draw"] F__law_drawn_book _ _ := Df.of F5 (ok__law_drawn_book F5 T Hx XE Xf SMb C Fl Kt B__law_pick_2 D__law_pick B__law_words_1 D__law_words B__law_take_2 D__law_take) (PySem.W.mg_of X G a5)
  have F6 := fun_mk (st := s_need_word) l6 c6 k6
  have D_need_word : Df l.prog w K mg base CA "need_word" false 3 ["field", "word", "words"] F_need_word _ _ := Df.of F6 (ok_need_word F6 T Hx XE Xf SMb C Fl Kt X_BadBook) (PySem.W.mg_of X G a6)
  have F7 := fun_mk (st := s_need_words) l7 c7 k7
  have B_need_word_3 : KwB K CA _ ["field", "word", "words"] 3 [] (srcP 0 3) := KwB.fn F6 rfl (fun _ _ _ _ _ _ us ws h1 h2 => match us, ws, h1, h2 with | [_, _, _], [], _, _ => rfl)
  have D_need_words : Df l.prog w K mg base CA "need_words" false 4 ["field", "some", "words"] F_need_words _ _ := Df.of F7 (ok_need_words F7 T Hx XE Xf SMb C Fl Kt X_BadBook B_need_word_3 D_need_word) (PySem.W.mg_of X G a7)
  have F8 := fun_mk (st := s_Book_init) l8 c8 k8
  have B_need_words_3 : KwB K CA _ ["field", "some", "words"] 3 [] (srcP 0 3) := KwB.fn F7 rfl (fun _ _ _ _ _ _ us ws h1 h2 => match us, ws, h1, h2 with | [_, _, _], [], _, _ => rfl)
  have N_Book : Mkd l.prog w K mg base CA 7 "Book" 5 ["self", "up", "down", "writes", "moves", "finish", "counts", "bars", "notes"] F_Book_init _ _ := Mkd.of F8 (ok_Book_init F8 T Hx XE Xf SMb C Fl Kt B_need_word_3 D_need_word B_need_words_3 D_need_words) (PySem.W.mg_of X G ac7) a8 fn8 mk8 kc8
  have F9 := fun_mk (st := s__law_shuffled) l9 c9 k9
  have D__law_shuffled : Df l.prog w K mg base CA "_law_shuffled" false 3 ["_law_draw", "_law_some"] F__law_shuffled _ _ := Df.of F9 (ok__law_shuffled F9 T Hx XE Xf SMb C Fl Kt B__law_take_2 D__law_take) (PySem.W.mg_of X G a9)
  have F10 := fun_mk (st := s__law_made_book) l10 c10 k10
  have B__law_shuffled_2 : KwB K CA _ ["_law_draw", "_law_some"] 2 [] (srcP 0 2) := KwB.fn F9 rfl (fun _ _ _ _ _ _ us ws h1 h2 => match us, ws, h1, h2 with | [_, _], [], _, _ => rfl)
  have B_Book_init_1_up_down_writes_moves_finish_counts_bars_notes : KwB K CA _ ["self", "up", "down", "writes", "moves", "finish", "counts", "bars", "notes"] 1 ["up", "down", "writes", "moves", "finish", "counts", "bars", "notes"] ([.p 0, .k 0, .k 1, .k 2, .k 3, .k 4, .k 5, .k 6, .k 7]) := KwB.fn F8 rfl (fun _ _ _ _ _ _ us ws h1 h2 => match us, ws, h1, h2 with | [_], [_, _, _, _, _, _, _, _], _, _ => rfl)
  have D__law_made_book : Df l.prog w K mg base CA "_law_made_book" false 7 ["_law_draw", "_law_told"] F__law_made_book _ _ := Df.of F10 (ok__law_made_book F10 T Hx XE Xf SMb C Fl Kt B__law_shuffled_2 D__law_shuffled B_Book_init_1_up_down_writes_moves_finish_counts_bars_notes N_Book) (PySem.W.mg_of X G a10)
  have F11 := fun_mk (st := s__law_page) l11 c11 k11
  have D__law_page : Df l.prog w K mg base CA "_law_page" false 1 ["_law_told"] F__law_page _ _ := Df.of F11 (ok__law_page F11 T Hx XE Xf SMb C Fl Kt ) (PySem.W.mg_of X G a11)
  have F12 := fun_mk (st := s_lines_of) l12 c12 k12
  have D_lines_of : Df l.prog w K mg base CA "lines_of" false 1 ["text"] F_lines_of _ _ := Df.of F12 (ok_lines_of F12 T Hx XE Xf SMb C Fl Kt ) (PySem.W.mg_of X G a12)
  have F13 := fun_mk (st := s_line_words) l13 c13 k13
  have D_line_words : Df l.prog w K mg base CA "line_words" false 1 ["line", "at"] F_line_words _ _ := Df.of F13 (ok_line_words F13 T Hx XE Xf SMb C Fl Kt ) (PySem.W.mg_of X G a13)
  have F14 := fun_mk (st := s_read_book) l14 c14 k14
  have B_lines_of_1 : KwB K CA _ ["text"] 1 [] (srcP 0 1) := KwB.fn F12 rfl (fun _ _ _ _ _ _ us ws h1 h2 => match us, ws, h1, h2 with | [_], [], _, _ => rfl)
  have B_line_words_2 : KwB K CA _ ["line", "at"] 2 [] (srcP 0 2) := KwB.fn F13 rfl (fun _ _ _ _ _ _ us ws h1 h2 => match us, ws, h1, h2 with | [_, _], [], _, _ => rfl)
  have D_read_book : Df l.prog w K mg base CA "read_book" false 7 ["text"] F_read_book _ _ := Df.of F14 (ok_read_book F14 T Hx XE Xf SMb C Fl Kt X_BadText B_lines_of_1 D_lines_of B_line_words_2 D_line_words B_Book_init_1_up_down_writes_moves_finish_counts_bars_notes N_Book) (PySem.W.mg_of X G a14)
  have F15 := fun_mk (st := s__law_refusal) l15 c15 k15
  have L__law_refusal : ∀ kb : Nat, Dl l.prog w K mg base CA "_law_refusal" false (kb + 3) kb ["_law_work"] 0 F__law_refusal := fun kb => ⟨⟨_, _, ok__law_refusal kb F15 T Hx XE Xf SMb C Fl Kt G__law_caught, PySem.W.mg_of X G a15, k15, F15.binds (fun _ _ _ _ _ _ us hl => match us, hl with | [_], _ => rfl)⟩, rfl⟩
  have F16 := fun_mk (st := s__law_is) l16 c16 k16
  have L__law_is : ∀ kb : Nat, Dl l.prog w K mg base CA "_law_is" true (kb + 4) kb ["_law_work", "_law_word", "_law_kept"] 2 F__law_is := fun kb => ⟨⟨_, _, ok__law_is kb F16 T Hx XE Xf SMb C Fl Kt L__law_refusal, PySem.W.mg_of X G a16, k16, F16.binds (fun _ _ _ _ _ _ us hl => match us, hl with | [_, _, _], _ => rfl)⟩, rfl⟩
  have F17 := fun_mk (st := s_Book_eq) l17 c17 k17
  have O_Book : OwnE l.prog w K mg base CA 7 (fun t => decide (t ∈ [.b "NoneType", .b "bool", .b "int", .b "str", .b "list", .b "tuple", .b "dict", .o 0, .o 1, .o 2, .o 3, .o 4, .o 5, .o 6, .o 7])) 1 ["self", "other"] F_Book_eq _ _ := OwnE.of F17 (ok_Book_eq F17 T Hx XE Xf SMb C Fl Kt ) rfl K7 a17 fn17 ne17 nb17 (fun _ _ _ _ _ _ us hl => match us, hl with | [_, _], _ => rfl)
  have F18 := fun_mk (st := s_Book_notes) l18 c18 k18
  have P_Book_notes : Prd l.prog w K mg base CA 7 "notes" 1 ["self"] F_Book_notes := Prd.of F18 (ok_Book_notes F18 T Hx XE Xf SMb C Fl Kt ) K7 a18 pa18 pb18 pc18 (fun _ _ _ _ _ _ us hl => match us, hl with | [_], _ => rfl)
  have F19 := fun_mk (st := s__law_odd) l19 c19 k19
  have D__law_odd : Df l.prog w K mg base CA "_law_odd" false 4 ["_law_draw"] F__law_odd _ _ := Df.of F19 (ok__law_odd F19 T Hx XE Xf SMb C Fl Kt B__law_pick_2 D__law_pick) (PySem.W.mg_of X G a19)
  have F20 := fun_mk (st := s_need_book) l20 c20 k20
  have D_need_book : Df l.prog w K mg base CA "need_book" false 3 ["book"] F_need_book _ _ := Df.of F20 (ok_need_book F20 T Hx XE Xf SMb C Fl Kt X_BadBook) (PySem.W.mg_of X G a20)
  have F21 := fun_mk (st := s_Book_up) l21 c21 k21
  have P_Book_up : Prd l.prog w K mg base CA 7 "up" 1 ["self"] F_Book_up := Prd.of F21 (ok_Book_up F21 T Hx XE Xf SMb C Fl Kt ) K7 a21 pa21 pb21 pc21 (fun _ _ _ _ _ _ us hl => match us, hl with | [_], _ => rfl)
  have F22 := fun_mk (st := s_Book_down) l22 c22 k22
  have P_Book_down : Prd l.prog w K mg base CA 7 "down" 1 ["self"] F_Book_down := Prd.of F22 (ok_Book_down F22 T Hx XE Xf SMb C Fl Kt ) K7 a22 pa22 pb22 pc22 (fun _ _ _ _ _ _ us hl => match us, hl with | [_], _ => rfl)
  have F23 := fun_mk (st := s_Book_writes) l23 c23 k23
  have P_Book_writes : Prd l.prog w K mg base CA 7 "writes" 1 ["self"] F_Book_writes := Prd.of F23 (ok_Book_writes F23 T Hx XE Xf SMb C Fl Kt ) K7 a23 pa23 pb23 pc23 (fun _ _ _ _ _ _ us hl => match us, hl with | [_], _ => rfl)
  have F24 := fun_mk (st := s_Book_moves) l24 c24 k24
  have P_Book_moves : Prd l.prog w K mg base CA 7 "moves" 1 ["self"] F_Book_moves := Prd.of F24 (ok_Book_moves F24 T Hx XE Xf SMb C Fl Kt ) K7 a24 pa24 pb24 pc24 (fun _ _ _ _ _ _ us hl => match us, hl with | [_], _ => rfl)
  have F25 := fun_mk (st := s_Book_finish) l25 c25 k25
  have P_Book_finish : Prd l.prog w K mg base CA 7 "finish" 1 ["self"] F_Book_finish := Prd.of F25 (ok_Book_finish F25 T Hx XE Xf SMb C Fl Kt ) K7 a25 pa25 pb25 pc25 (fun _ _ _ _ _ _ us hl => match us, hl with | [_], _ => rfl)
  have F26 := fun_mk (st := s_Book_counts) l26 c26 k26
  have P_Book_counts : Prd l.prog w K mg base CA 7 "counts" 1 ["self"] F_Book_counts := Prd.of F26 (ok_Book_counts F26 T Hx XE Xf SMb C Fl Kt ) K7 a26 pa26 pb26 pc26 (fun _ _ _ _ _ _ us hl => match us, hl with | [_], _ => rfl)
  have F27 := fun_mk (st := s_chosen_words) l27 c27 k27
  have D_chosen_words : Df l.prog w K mg base CA "chosen_words" false 3 ["book"] F_chosen_words _ _ := Df.of F27 (ok_chosen_words F27 T Hx XE Xf SMb C Fl Kt P_Book_counts P_Book_finish P_Book_moves P_Book_writes P_Book_down P_Book_up) (PySem.W.mg_of X G a27)
  have F28 := fun_mk (st := s_Book_bars) l28 c28 k28
  have P_Book_bars : Prd l.prog w K mg base CA 7 "bars" 1 ["self"] F_Book_bars := Prd.of F28 (ok_Book_bars F28 T Hx XE Xf SMb C Fl Kt ) K7 a28 pa28 pb28 pc28 (fun _ _ _ _ _ _ us hl => match us, hl with | [_], _ => rfl)
  have F29 := fun_mk (st := s_book_text) l29 c29 k29
  have B_need_book_1 : KwB K CA _ ["book"] 1 [] (srcP 0 1) := KwB.fn F20 rfl (fun _ _ _ _ _ _ us ws h1 h2 => match us, ws, h1, h2 with | [_], [], _, _ => rfl)
  have B_chosen_words_1 : KwB K CA _ ["book"] 1 [] (srcP 0 1) := KwB.fn F27 rfl (fun _ _ _ _ _ _ us ws h1 h2 => match us, ws, h1, h2 with | [_], [], _, _ => rfl)
  have D_book_text : Df l.prog w K mg base CA "book_text" false 4 ["book"] F_book_text _ _ := Df.of F29 (ok_book_text F29 T Hx XE Xf SMb C Fl Kt B_need_book_1 D_need_book B_chosen_words_1 D_chosen_words P_Book_notes P_Book_bars) (PySem.W.mg_of X G a29)
  have F30 := fun_mk (st := s_law) l30 c30 k30
  have B__law_begun_1 : KwB K CA _ ["_law_script"] 1 [] (srcP 0 1) := KwB.fn F0 rfl (fun _ _ _ _ _ _ us ws h1 h2 => match us, ws, h1, h2 with | [_], [], _, _ => rfl)
  have B__law_drawn_book_1 : KwB K CA _ ["_law_draw"] 1 [] (srcP 0 1) := KwB.fn F5 rfl (fun _ _ _ _ _ _ us ws h1 h2 => match us, ws, h1, h2 with | [_], [], _, _ => rfl)
  have B__law_made_book_2 : KwB K CA _ ["_law_draw", "_law_told"] 2 [] (srcP 0 2) := KwB.fn F10 rfl (fun _ _ _ _ _ _ us ws h1 h2 => match us, ws, h1, h2 with | [_, _], [], _, _ => rfl)
  have B__law_page_1 : KwB K CA _ ["_law_told"] 1 [] (srcP 0 1) := KwB.fn F11 rfl (fun _ _ _ _ _ _ us ws h1 h2 => match us, ws, h1, h2 with | [_], [], _, _ => rfl)
  have B_book_text_0_book : KwB K CA _ ["book"] 0 ["book"] ([.k 0]) := KwB.fn F29 rfl (fun _ _ _ _ _ _ us ws h1 h2 => match us, ws, h1, h2 with | [], [_], _, _ => rfl)
  have B_book_text_1 : KwB K CA _ ["book"] 1 [] (srcP 0 1) := KwB.fn F29 rfl (fun _ _ _ _ _ _ us ws h1 h2 => match us, ws, h1, h2 with | [_], [], _, _ => rfl)
  have B_read_book_0_text : KwB K CA _ ["text"] 0 ["text"] ([.k 0]) := KwB.fn F14 rfl (fun _ _ _ _ _ _ us ws h1 h2 => match us, ws, h1, h2 with | [], [_], _, _ => rfl)
  have B_read_book_1 : KwB K CA _ ["text"] 1 [] (srcP 0 1) := KwB.fn F14 rfl (fun _ _ _ _ _ _ us ws h1 h2 => match us, ws, h1, h2 with | [_], [], _, _ => rfl)
  have B__law_odd_1 : KwB K CA _ ["_law_draw"] 1 [] (srcP 0 1) := KwB.fn F19 rfl (fun _ _ _ _ _ _ us ws h1 h2 => match us, ws, h1, h2 with | [_], [], _, _ => rfl)
  exact ok_law (func_mk (st := s_law) l30 c30) T Hx XE Xf SMb C Fl Kt (TBs (ca30, P30) (List.Mem.head _)) (List.Mem.head _) (fun p hp e => of_decide_eq_true (List.all_eq_true.mp tu30 p hp) e) B__law_begun_1 D__law_begun B__law_drawn_book_1 D__law_drawn_book B__law_made_book_2 D__law_made_book B__law_page_1 D__law_page B_book_text_0_book D_book_text B_book_text_1 B_read_book_0_text D_read_book B_read_book_1 O_Book B__law_pick_2 D__law_pick P_Book_bars P_Book_notes B__law_odd_1 D__law_odd L__law_is
end
end W_whilemerged_k75_texts_of_books
namespace W_whilemerged_k75_texts_of_books
open PySem PySem.Spec PyProof.Rows L2 CM
section
variable {ta tb tc : TD} {ts tk : TDs} {t u : TB} {ρ : DE} {h : CH} {d : CM.D} {f f' : F2} {F : FD} {n l c0 : Nat} {nm : Bool} {src : List Src} {s : Str} {cs : List Nat} {tl th : TDo}
@[simp] theorem e_methN {nm : Str} : dMethN c0 nm n l src F ta ts tk ρ h = (ta ρ h).bind fun d h => match objOf h d with
  | some (c, fs) => if c = c0 ∧ (fs.lookup nm).isNone = true then (ts ρ h).bind fun ds h => (tk ρ h).bind fun zs h => if ds.length + 1 = n ∧ zs.length = l then F (pickD (d :: ds) zs src) h else .no else .no
  | none => .no := rfl
@[simp] theorem e_prop : dProp c0 F ta ρ h = (ta ρ h).bind fun d h => match objOf h d with
  | some (c, _) => if c = c0 then noxF F [d] h else .no
  | none => .no := rfl
@[simp] theorem e_nox {ds : List CM.D} : noxF F ds h = (F ds h).calm fun d h => .ok d h := rfl
@[simp] theorem e_raise {c : Nat} : dRaiseX c s ts ρ h = (ts ρ h).toS ρ (rxOf ρ c s) := rfl
@[simp] theorem rx_one {c : Nat} : rxOf ρ c s [d] h = .ex ρ c [(s, d)] h := rfl
@[simp] theorem e_chain : dChain f f' ta tb tc ρ h = (ta ρ h).bind fun x h => (tb ρ h).bind fun y h => (f x y h).bind fun z h => (asB z h).bind fun k h => if k = true then (tc ρ h).bind fun w h => f' y w h else .ok (.bl false) h := rfl
@[simp] theorem e_fB {g : Int → Int → Bool} {i j : Int} : fB g (.int i) (.int j) h = .ok (.bl (g i j)) h := rfl
@[simp] theorem e_start {N : Nat} {ds : List CM.D} : startD N ds = ds.map some ++ List.replicate (N - ds.length) none := rfl
@[simp] theorem e_isN {neg : Bool} : fIsN neg d .non h = .ok (.bl (bneg neg (CM.isNon d))) h := rfl
@[simp] theorem e_non_i {i : Int} : CM.isNon (.int i) = false := rfl
@[simp] theorem e_non_n : CM.isNon .non = true := rfl
@[simp] theorem e_non_t {l : List CM.D} : CM.isNon (.tup l) = false := rfl
@[simp] theorem e_non_r {k : Nat} : CM.isNon (.ref k) = false := rfl
@[simp] theorem b_f {b : Bool} : bneg false b = b := rfl
@[simp] theorem b_t {b : Bool} : bneg true b = !b := rfl
@[simp] theorem eq_ii {neg : Bool} {i j : Int} : fEq neg (.int i) (.int j) h = .ok (.bl (bneg neg (i == j))) h := rfl
@[simp] theorem eq_ni {neg : Bool} {j : Int} : fEq neg .non (.int j) h = .ok (.bl (bneg neg false)) h := rfl
@[simp] theorem eq_in {neg : Bool} {j : Int} : fEq neg (.int j) .non h = .ok (.bl (bneg neg false)) h := rfl
@[simp] theorem eq_nn {neg : Bool} : fEq neg .non .non h = .ok (.bl (bneg neg true)) h := rfl
@[simp] theorem eq_ss {neg : Bool} {a b : Str} : fEq neg (.str a) (.str b) h = .ok (.bl (bneg neg (a == b))) h := rfl
@[simp] theorem eq_bb {neg : Bool} {a b : Bool} : fEq neg (.bl a) (.bl b) h = .ok (.bl (bneg neg (a == b))) h := rfl
@[simp] theorem mkL_f {ds : List CM.D} : mkL false ds h = .ok (.lst ds) h := rfl
@[simp] theorem mkL_t {ds : List CM.D} : mkL true ds h = .ok (.ref h.nx) (h.new (.lst ds)) := rfl
@[simp] theorem mkD_f {ds : List (Key × D)} : mkD false ds h = .ok (.dct ds) h := rfl
@[simp] theorem mkD_t {ds : List (Key × D)} : mkD true ds h = .ok (.ref h.nx) (h.new (.dct ds)) := rfl
@[simp] theorem pk2 {a b : CM.D} : pickD [a, b] [] (srcP 0 2) = [a, b] := rfl
@[simp] theorem pk1 {a : CM.D} : pickD [a] [] (srcP 0 1) = [a] := rfl
@[simp] theorem pk3 {a b c : CM.D} : pickD [a, b, c] [] (srcP 0 3) = [a, b, c] := rfl
@[simp] theorem pk4 {a b c d : CM.D} : pickD [a, b, c, d] [] (srcP 0 4) = [a, b, c, d] := rfl
end
section
variable {h : CH}
theorem atI0 {x : CM.D} {l : List CM.D} : atI (x :: l) 0 = some x := by simp [atI, ixN]
theorem lcL_pure {α : Type} {tg : TGD} {tt : TB} {te : TD} {ρ0 : DE} {enc : α → CM.D} {f : α → Bool} {g : α → CM.D} : ∀ {xs : List α}, (∀ x ∈ xs, ∃ ρ2, tg (enc x) ρ0 h = .ok ρ2 h ∧ tt ρ2 h = .ok (f x) h ∧ (f x = true → te ρ2 h = .ok (g x) h)) → dLcL tg tt te ρ0 (xs.map enc) h = .ok ((xs.filter f).map g) h
  | [], _ => rfl
  | x :: xs, H => by
    obtain ⟨ρ2, e1, e2, e3⟩ := H x (List.mem_cons_self ..)
    have ih := lcL_pure (tg := tg) (tt := tt) (te := te) (ρ0 := ρ0) (enc := enc) (f := f) (g := g) (xs := xs) fun y hy => H y (List.mem_cons_of_mem _ hy)
    show (tg (enc x) ρ0 h).calm _ = _
    rw [e1, calm_ok, e2, calm_ok]
    cases c : f x with
    | true =>
      rw [if_pos rfl, e3 c, calm_ok, ih, bind_ok, List.filter_cons_of_pos c]
      rfl
    | false =>
      rw [if_neg (by simp), ih, List.filter_cons_of_neg (by simp [c])]
theorem lc_seq {α : Type} {ta : TD} {ρ : DE} {tg : TGD} {tt : TB} {te : TD} {vs : List Nat} {xs : List α} {enc : α → CM.D} (f : α → Bool) (g : α → CM.D) (e : ta ρ h = .ok (.lst (xs.map enc)) h) (lz : xs.length ≤ sizeLine)
    (H : ∀ x ∈ xs, ∃ ρ2, tg (enc x) (wipeD ρ vs) h = .ok ρ2 h ∧ tt ρ2 h = .ok (f x) h ∧ (f x = true → te ρ2 h = .ok (g x) h)) : dLc false (dSeqI ta) tg tt te vs ρ h = .ok (.lst ((xs.filter f).map g)) h := by
  have lz' : (xs.map enc).length ≤ sizeLine := by rw [List.length_map]; exact lz
  unfold dLc
  simp only [e_seqI, e, bind_ok, itemsD, if_pos lz']
  rw [lcL_pure H, bind_ok]
  rfl
theorem sz60 {n : Nat} (l : n ≤ 60) : n ≤ sizeLine := Nat.le_trans l (by decide)
theorem sz60' {n : Nat} (l : n ≤ 60) : n < sizeLine := Nat.lt_of_le_of_lt l (by decide)
theorem any_ss {x : Str} : ∀ l : List Str, (stL l).any (fun e => eqF e (.str x)) = l.contains x
  | [] => rfl
  | a :: l => by
    show (eqF (.str a) (.str x) || (stL l).any _) = _
    rw [any_ss l, List.contains_cons]
    have : eqF (.str a) (.str x) = (x == a) := by
      show (a == x) = (x == a)
      exact Bool.eq_iff_iff.mpr ⟨fun z => by rw [eq_of_beq z]; exact beq_self_eq_true _, fun z => by rw [eq_of_beq z]; exact beq_self_eq_true _⟩
    rw [this]
theorem in_strsT {neg : Bool} {l : List Str} {x : Str} : fIn neg (.str x) (.tup (stL l)) h = .ok (.bl (bneg neg (l.contains x))) h := by
  unfold fIn
  simp only [seqOf]
  rw [if_pos ⟨rfl, by simp [flatD]⟩, any_ss]
theorem atI_ge {ds : List CM.D} {i : Int} (h0 : 0 ≤ i) (h1 : i < ds.length) : atI ds i = ds[i.toNat]? := by
  unfold atI ixN
  rw [if_pos h0, if_pos h1]
  rfl
def rgI (n : Nat) : List Int := (List.range n).map Int.ofNat
def inL (l : List Int) : List CM.D := l.map CM.D.int
@[simp] theorem inL_len {l : List Int} : (inL l).length = l.length := by simp [inL]
@[simp] theorem inL_nil : inL [] = [] := rfl
theorem rgD_rgI {n : Nat} : rgD 0 n = (rgI n).map CM.D.int := by
  unfold rgD rgI
  rw [List.map_map]
  exact List.map_congr_left fun x _ => by show CM.D.int (0 + (x : Int)) = CM.D.int (Int.ofNat x); simp
end
section
variable {α : Type}
theorem forL_fold {tg : TGD} {u : SD} {enc : α → CM.D} (I : List α → DE → CH → Prop) (step : ∀ x r ρ h, I (x :: r) ρ h → ∃ ρ1 h1 ρ2 h2, tg (enc x) ρ h = .ok ρ1 h1 ∧ u ρ1 h1 = .nx ρ2 h2 ∧ I r ρ2 h2) : ∀ {xs : List α} {ρ : DE} {h : CH}, I xs ρ h → ∃ ρ' h', dForL tg u (xs.map enc) ρ h = .nx ρ' h' ∧ I [] ρ' h'
  | [], ρ, h, i => ⟨ρ, h, rfl, i⟩
  | x :: xs, ρ, h, i => by
    obtain ⟨ρ1, h1, ρ2, h2, e1, e2, i2⟩ := step x xs ρ h i
    have st : dForL tg u ((x :: xs).map enc) ρ h = dForL tg u (xs.map enc) ρ2 h2 := by
      show (tg (enc x) ρ h).put _ = _
      rw [e1]
      show (match u ρ1 h1 with
        | .nx ρ2 h2 => dForL tg u (xs.map enc) ρ2 h2
        | .ct ρ2 h2 => dForL tg u (xs.map enc) ρ2 h2
        | .bk ρ2 h2 => .nx ρ2 h2
        | x => x) = _
      rw [e2]
    rw [st]
    exact forL_fold I step i2
end
section
variable {r w m n : Nat} {h : CH}
theorem pickE (A : DrawOk r w (n + 1) h) {l : List CM.D} (h0 : l ≠ []) (h1 : l.length ≤ 60) : ∃ d h1, F__law_pick [.ref r, .lst l] h = .ok d h1 ∧ d ∈ l ∧ DrawOk r w n h1 ∧ DrFr r w h h1 := by
  obtain ⟨d, h1, e, md, A1, f⟩ := (pick_sat A (xs := .lst l) (.inl rfl) h0 (by omega)).ex
  exact ⟨d, h1, e, md, A1, f⟩
theorem seqX {u v : SD} {ρ ρ1 : DE} {h1 : CH} (e : u ρ h = .nx ρ1 h1) : dSeq u v ρ h = v ρ1 h1 := by
  rw [s_seq, e]
  rfl
end
section
variable {h : CH}
theorem cut_hi {ds : List CM.D} {i : Int} (h0 : 0 ≤ i) (h1 : i ≤ ds.length) : CM.cutD ds (some i) none = ds.drop i.toNat := by
  obtain ⟨k, rfl⟩ := Int.eq_ofNat_of_zero_le h0
  unfold CM.cutD
  rw [HT.sIx_none, HT.sIx_nat]
  have : min k ds.length = k := by omega
  rw [this]
  rw [List.take_of_length_le (by rw [List.length_drop]; omega)]
  rfl
end
section
structure Fit (w d : Nat) (p : PyData) : Prop where
  sh : p.showable = true
  lf : p.leavesShort 13 = true
  wt : p.weight ≤ w
  dp : p.depth ≤ d
theorem Fit.le {w d w' d' : Nat} {p : PyData} (f : Fit w d p) (hw : w ≤ w') (hd : d ≤ d') : Fit w' d' p := ⟨f.sh, f.lf, Nat.le_trans f.wt hw, Nat.le_trans f.dp hd⟩
theorem Fit.int {i : Int} (h : i.natAbs < 10 ^ 12) : Fit 40 0 (.int i) where
  sh := by
    show decide (i.natAbs.log2 < 1920) = true
    rw [decide_eq_true_eq]
    by_cases z : i.natAbs = 0
    · rw [z]; decide
    · have := (Nat.log2_lt z (k := 40)).mpr (Nat.lt_trans h (by decide))
      omega
  lf := by
    show decide _ = true
    rw [decide_eq_true_eq]
    exact PyData.shown_int_le h
  wt := by
    show (if i == 0 then 0 else i.natAbs.log2 + 1) ≤ 40
    split
    · omega
    · rename_i z
      have z' : i.natAbs ≠ 0 := by simp at z; omega
      have := (Nat.log2_lt z' (k := 40)).mpr (Nat.lt_trans h (by decide))
      omega
  dp := Nat.le_refl _
theorem Fit.none : Fit 0 0 .none := ⟨rfl, rfl, Nat.le_refl _, Nat.le_refl _⟩
theorem Fit.alls {w d : Nat} : ∀ {ps : List PyData}, (∀ p ∈ ps, Fit w d p) → PyData.showableAll ps = true ∧ PyData.leavesShortAll 13 ps = true ∧ PyData.weightAll ps ≤ ps.length * (w + 1) ∧ PyData.depthAll ps ≤ d
  | [], _ => ⟨rfl, rfl, Nat.zero_le _, Nat.zero_le _⟩
  | p :: ps, h => by
    have f := h p (List.mem_cons_self ..)
    obtain ⟨a, b, c, e⟩ := Fit.alls (ps := ps) fun q hq => h q (List.mem_cons_of_mem _ hq)
    refine ⟨?_, ?_, ?_, ?_⟩
    · simp only [PyData.showableAll, f.sh, a, Bool.and_self]
    · simp only [PyData.leavesShortAll, f.lf, b, Bool.and_self]
    · have := f.wt
      simp only [PyData.weightAll, List.length_cons, Nat.add_mul, Nat.one_mul]
      omega
    · have := f.dp
      simp only [PyData.depthAll]
      omega
theorem Fit.list {w d : Nat} {ps : List PyData} (h : ∀ p ∈ ps, Fit w d p) : Fit (ps.length * (w + 1)) (d + 1) (.list ps) := by
  obtain ⟨a, b, c, e⟩ := Fit.alls h
  exact ⟨a, b, c, Nat.succ_le_succ e⟩
theorem Fit.tuple {w d : Nat} {ps : List PyData} (h : ∀ p ∈ ps, Fit w d p) : Fit (ps.length * (w + 1)) (d + 1) (.tuple ps) := by
  obtain ⟨a, b, c, e⟩ := Fit.alls h
  exact ⟨a, b, c, Nat.succ_le_succ e⟩
end
end W_whilemerged_k75_texts_of_books
namespace W_whilemerged_k75_texts_of_books
open PySem PySem.Spec PyProof.Rows L2 CM
open TL (tl joinL numL spl pre)
def Pv : CM.D → Prop
  | .non => True
  | .bl _ => True
  | .int _ => True
  | .str _ => True
  | .lst _ => True
  | .tup _ => True
  | .dct _ => True
  | _ => False
def isS : CM.D → Bool
  | .str _ => true
  | _ => false
section
variable {h : CH} {d : CM.D}
theorem isi_s (p : Pv d) : fIsX xs0 [7] kt0 [d, .ty "str"] h = .ok (.bl (isS d)) h := by
  cases d <;> first | exact p.elim | kernel_rfl
end
theorem tl_sp : tl (" " : Str) = [32] := by decide +kernel
theorem tl_nl : tl ("\n" : Str) = [10] := by decide +kernel
theorem tl_em : tl ("" : Str) = [] := by decide +kernel
section
variable {h : CH} {d p : CM.D} {r : List CM.D} {w : Str} {ρ : DE} {i j : Nat}
theorem sl1 {x : CM.D} {ρ : DE} {t : TD} (e : t ρ h = .ok (.tup (x :: r)) h) : dSl false t (dPart (dC (.int 1))) (dNoPart) ρ h = .ok (.tup r) h := by
  have c : CM.cutD (x :: r) (some 1) none = r := by
    rw [cut_hi (by decide) (by simp; omega)]
    rfl
  unfold dSl
  rw [e]
  show CM.R.ok (CM.D.tup (CM.cutD (x :: r) (some 1) none)) h = _
  rw [c]
theorem all_bls {bs : List Bool} : fAllB false [.lst (bs.map CM.D.bl)] h = .ok (.bl (bs.all id)) h := by
  have e : ∀ bs : List Bool, blsOf (bs.map CM.D.bl) = some bs := fun bs => by
    induction bs with
    | nil => rfl
    | cons b l ih => simp only [List.map_cons, blsOf, ih]
  show (match blsOf (bs.map CM.D.bl) with | some bs => CM.R.ok (CM.D.bl (if false = true then bs.any id else bs.all id)) h | none => .no) = _
  rw [e]
  rfl
@[simp] theorem e_m1 {f : FM} {ta tb : TD} : dM1 f ta tb ρ h = (ta ρ h).bind fun x h => match x with
  | .str _ => (tb ρ h).bind fun y h => f x [y] h
  | _ => .no := rfl
theorem strsOf_map {α : Type} {g : α → Str} : ∀ l : List α, strsOf (l.map fun x => CM.D.str (g x)) = some (l.map g)
  | [] => rfl
  | x :: l => by
    rw [List.map_cons, List.map_cons]
    show (match strsOf (l.map fun x => CM.D.str (g x)) with | some xs => some (g x :: xs) | none => none) = _
    rw [strsOf_map l]
theorem join_fit {a : Str} {ys : List Str} (H : (ys.map (·.length)).sum + ys.length * a.length ≤ 16777216) : fJoin (.str a) [.lst (ys.map CM.D.str)] h = .ok (.str (Txt.join a ys)) h := by
  have e : strsOf (ys.map CM.D.str) = some ys := by
    have := strsOf_map (g := id) ys
    simpa using this
  show (match strsOf (ys.map CM.D.str) with
      | some (ys : List Str) => if ((ys.map Str.length).sum + ys.length * Str.length a ≤ 16777216) then CM.R.ok (CM.D.str (Txt.join a ys)) h else .no
      | none => .no) = _
  rw [e]
  exact if_pos H
end
section
variable {c : Nat}
theorem pre1 {d : Nat} {r : List Nat} : pre [c] (d :: r) = (c == d) := by
  have e : pre [c] (d :: r) = (d == c) := by simp [pre, List.isPrefixOf]
  rw [e, Bool.eq_iff_iff, beq_iff_eq, beq_iff_eq]
  exact eq_comm
theorem spl_ne : ∀ (l acc : List Nat), spl [c] 0 acc l ≠ []
  | [], acc => by rw [TL.spl_nil]; simp
  | d :: r, acc => by
    by_cases e : pre [c] (d :: r) = true
    · rw [TL.spl_hit e]; simp
    · rw [TL.spl_miss (by simpa using e)]
      exact spl_ne r _
theorem spl_back : ∀ (l acc : List Nat), joinL [c] (spl [c] 0 acc l) = acc ++ l
  | [], acc => by rw [TL.spl_nil]; simp [joinL]
  | d :: r, acc => by
    by_cases e : pre [c] (d :: r) = true
    · rw [TL.spl_hit e]
      have ih := spl_back r []
      have ne := spl_ne (c := c) r []
      have ed : c = d := by rw [pre1] at e; simpa using e
      subst ed
      show joinL [c] (acc :: spl [c] 0 [] r) = acc ++ (c :: r)
      cases q : spl [c] 0 [] r with
      | nil => exact absurd q ne
      | cons x l =>
        rw [q] at ih
        show acc ++ ([c] ++ joinL [c] (x :: l)) = _
        rw [ih]
        rfl
    · rw [TL.spl_miss (by simpa using e), spl_back r _]
      simp
theorem spl_free : ∀ (l acc : List Nat), c ∉ acc → ∀ p ∈ spl [c] 0 acc l, c ∉ p
  | [], acc, h, p, hp => by rw [TL.spl_nil] at hp; rw [List.mem_singleton] at hp; rw [hp]; exact h
  | d :: r, acc, h, p, hp => by
    by_cases e : pre [c] (d :: r) = true
    · rw [TL.spl_hit e] at hp
      rcases List.mem_cons.mp hp with rfl | hp
      · exact h
      · exact spl_free r [] (by simp) p hp
    · rw [TL.spl_miss (by simpa using e)] at hp
      refine spl_free r _ ?_ p hp
      rw [List.mem_append, List.mem_singleton]
      rintro (z | z)
      · exact h z
      · rw [pre1] at e; exact e (by simpa using z)
theorem joinL_sum (S : List Nat) : ∀ ps : List (List Nat), ps ≠ [] → (joinL S ps).length = (ps.map List.length).sum + (ps.length - 1) * S.length
  | [], h => absurd rfl h
  | [p], _ => by simp [joinL]
  | p :: q :: l, _ => by
    have ih := joinL_sum S (q :: l) (by simp)
    show (p ++ (S ++ joinL S (q :: l))).length = _
    rw [List.length_append, List.length_append, ih]
    simp only [List.map_cons, List.sum_cons, List.length_cons, Nat.add_sub_cancel]
    rw [Nat.add_mul]
    omega
end
section
variable {x sep : Str} {c : Nat}
theorem split_tl (e : tl sep = [c]) (k : sep.cps.all (· < 256) = true) : (Txt.split x sep).map tl = spl [c] 0 [] (tl x) := by
  have := TL.split_spl x sep (by rw [e]; simp) (TL.kind_ok k)
  rw [e] at this
  exact this
theorem split_ne (e : tl sep = [c]) (k : sep.cps.all (· < 256) = true) : Txt.split x sep ≠ [] := fun q => by
  have := split_tl (x := x) e k
  rw [q] at this
  exact spl_ne _ _ this.symm
theorem split_back (e : tl sep = [c]) (k : sep.cps.all (· < 256) = true) : Txt.join sep (Txt.split x sep) = x := by
  refine TL.ext_tl ?_
  rw [TL.join_eq, TL.tl_join, split_tl e k, e, spl_back]
  rfl
theorem len_map (l : List Str) : (l.map (·.length)) = (l.map tl).map List.length := by
  rw [List.map_map]
  exact List.map_congr_left fun y _ => TL.len_tl y
theorem split_sum (e : tl sep = [c]) (k : sep.cps.all (· < 256) = true) : ((Txt.split x sep).map (·.length)).sum + ((Txt.split x sep).length - 1) = x.length := by
  have b := split_back (x := x) e k
  have ne := split_ne (x := x) e k
  have : (tl (Txt.join sep (Txt.split x sep))).length = (tl x).length := by rw [b]
  rw [TL.join_eq, TL.tl_join, e, joinL_sum _ _ (by simpa using ne)] at this
  rw [len_map, TL.len_tl, ← this]
  simp
theorem split_cnt (e : tl sep = [c]) (k : sep.cps.all (· < 256) = true) : (Txt.split x sep).length ≤ x.length + 1 := by
  have := split_sum (x := x) e k
  omega
theorem mem_sum {l : List Str} {y : Str} (h : y ∈ l) : y.length ≤ (l.map (·.length)).sum := by
  induction l with
  | nil => cases h
  | cons a l ih =>
    rw [List.map_cons, List.sum_cons]
    rcases List.mem_cons.mp h with rfl | h
    · omega
    · have := ih h
      omega
theorem split_len (e : tl sep = [c]) (k : sep.cps.all (· < 256) = true) {y : Str} (h : y ∈ Txt.split x sep) : y.length ≤ x.length := by
  have a := split_sum (x := x) e k
  have b := mem_sum h
  omega
theorem nl_k : ("\n" : Str).cps.all (· < 256) = true := by decide +kernel
theorem sp_k : (" " : Str).cps.all (· < 256) = true := by decide +kernel
end
def tq : Nat → CM.D → Option PyData
  | 0, _ => none
  | n + 1, d => match d with
    | .non => some .none
    | .bl b => some (.bool b)
    | .int i => some (.int i)
    | .str x => some (.str x)
    | .lst xs => (xs.mapM (tq n)).map .list
    | .tup xs => (xs.mapM (tq n)).map .tuple
    | .dct kvs => ((kvs.map (·.2)).mapM (tq n)).map fun ds => .dict ((kvs.map fun p => keyP p.1).zip ds)
    | _ => none
theorem mapM_imp {α β : Type} {f g : α → Option β} (H : ∀ x y, f x = some y → g x = some y) : ∀ (l : List α) (r : List β), l.mapM f = some r → l.mapM g = some r
  | [], r, e => by simpa using e
  | x :: l, r, e => by
    simp only [List.mapM_cons, Option.bind_eq_bind, Option.bind_eq_some_iff, Option.pure_def, Option.some.injEq] at e ⊢
    obtain ⟨y, e1, ys, e2, e3⟩ := e
    exact ⟨y, H x y e1, ys, mapM_imp H l ys e2, e3⟩
theorem tq_toQ {h : CH} : ∀ (n : Nat) (d : CM.D) (p : PyData), tq n d = some p → toQ h n d = some p
  | 0, _, _, e => by cases e
  | n + 1, d, p, e => by
    have ih := tq_toQ (h := h) n
    cases d with
    | lst xs =>
      simp only [tq, toQ, Option.map_eq_some_iff] at e ⊢
      obtain ⟨ys, e1, e2⟩ := e
      exact ⟨ys, mapM_imp ih xs ys e1, e2⟩
    | tup xs =>
      simp only [tq, toQ, Option.map_eq_some_iff] at e ⊢
      obtain ⟨ys, e1, e2⟩ := e
      exact ⟨ys, mapM_imp ih xs ys e1, e2⟩
    | dct kvs =>
      simp only [tq, toQ, Option.map_eq_some_iff] at e ⊢
      obtain ⟨ys, e1, e2⟩ := e
      exact ⟨ys, mapM_imp ih _ ys e1, e2⟩
    | non => exact e
    | bl b => exact e
    | int i => exact e
    | str x => exact e
    | _ => cases e
structure ShD (n w : Nat) (d : CM.D) (p : PyData) : Prop where
  e : tq n d = some p
  sh : p.showable = true
  lf : p.leavesShort 40 = true
  wt : p.weight ≤ w
  dp : p.depth ≤ n
def SW (n w : Nat) (d : CM.D) : Prop := ∃ p, ShD n w d p
theorem SW.le {n w w' : Nat} {d : CM.D} (s : SW n w d) (h : w ≤ w') : SW n w' d := by
  obtain ⟨p, s⟩ := s
  exact ⟨p, s.e, s.sh, s.lf, Nat.le_trans s.wt h, s.dp⟩
theorem SW.alls {n w : Nat} : ∀ {ds : List CM.D}, (∀ d ∈ ds, SW n w d) → ∃ ps, ds.mapM (tq n) = some ps ∧ PyData.showableAll ps = true ∧ PyData.leavesShortAll 40 ps = true ∧ PyData.weightAll ps ≤ ds.length * (w + 1) ∧ PyData.depthAll ps ≤ n
  | [], _ => ⟨[], rfl, rfl, rfl, Nat.zero_le _, Nat.zero_le _⟩
  | d :: ds, H => by
    obtain ⟨p, f⟩ := H d (List.mem_cons_self ..)
    obtain ⟨ps, e, a, b, c, g⟩ := SW.alls (ds := ds) fun q hq => H q (List.mem_cons_of_mem _ hq)
    refine ⟨p :: ps, ?_, ?_, ?_, ?_, ?_⟩
    · simp only [List.mapM_cons, f.e, e]
      rfl
    · simp only [PyData.showableAll, f.sh, a, Bool.and_self]
    · simp only [PyData.leavesShortAll, f.lf, b, Bool.and_self]
    · have := f.wt
      simp only [PyData.weightAll, List.length_cons, Nat.add_mul, Nat.one_mul]
      omega
    · have := f.dp
      simp only [PyData.depthAll]
      omega
theorem SW.tup {n w : Nat} {ds : List CM.D} (H : ∀ d ∈ ds, SW n w d) : SW (n + 1) (ds.length * (w + 1)) (.tup ds) := by
  obtain ⟨ps, e, a, b, c, g⟩ := SW.alls H
  exact ⟨.tuple ps, by simp only [tq, e]; rfl, a, b, c, Nat.succ_le_succ g⟩
theorem SW.lst {n w : Nat} {ds : List CM.D} (H : ∀ d ∈ ds, SW n w d) : SW (n + 1) (ds.length * (w + 1)) (.lst ds) := by
  obtain ⟨ps, e, a, b, c, g⟩ := SW.alls H
  exact ⟨.list ps, by simp only [tq, e]; rfl, a, b, c, Nat.succ_le_succ g⟩
theorem SW.int {n k : Nat} (hk : k ≤ 1000000000) : SW (n + 1) 40 (.int k) := by
  have f := Fit.int (i := (k : Int)) (by show k < 10 ^ 12; exact Nat.lt_of_le_of_lt hk (by decide))
  refine ⟨.int k, rfl, f.sh, ?_, f.wt, Nat.zero_le _⟩
  have := f.lf
  unfold PyData.leavesShort at this ⊢
  rw [decide_eq_true_eq] at this ⊢
  omega
theorem SW.none {n : Nat} : SW (n + 1) 0 .non := ⟨.none, rfl, rfl, rfl, Nat.le_refl _, Nat.zero_le _⟩
theorem SW.str {n k : Nat} {x : Str} (h : ∀ c ∈ tl x, c < 16 ^ 8) (l : (tl x).length ≤ k) : SW (n + 1) k (.str x) :=
  ⟨.str x, rfl, rfl, by show (x.cps.toList.all fun c => decide (c < 16 ^ 8)) = true; rw [List.all_eq_true]; intro c hc; exact decide_eq_true (h c hc), by show x.cps.size ≤ k; rw [← Array.length_toList]; exact l, Nat.zero_le _⟩
def strB (k : Nat) (x : Str) : Bool := (x.cps.toList.all fun c => decide (c < 16 ^ 8)) && decide (x.cps.toList.length ≤ k)
theorem SW.strB {n k : Nat} {x : Str} (h : strB k x = true) : SW (n + 1) k (.str x) := by
  unfold W_whilemerged_k75_texts_of_books.strB at h
  rw [Bool.and_eq_true, List.all_eq_true, decide_eq_true_eq] at h
  exact SW.str (fun c hc => of_decide_eq_true (h.1 c hc)) h.2
section
variable {h : CH} {d p : CM.D} {r : List CM.D} {w : Str} {n k : Nat}
theorem shown_ok {p : PyData} (lf : p.leavesShort 40 = true) (wt : p.weight ≤ 100000) : p.shown.length ≤ sizeLine := by
  have a := PyData.shown_le 40 (by decide) p lf
  have b : (42 * 100000 + 40 : Nat) ≤ sizeLine := by decide
  have c : (40 + 2) * p.weight ≤ 42 * 100000 := Nat.mul_le_mul (by omega) wt
  omega
theorem rep_val {q : PyData} (hd : ∀ i, d ≠ .int i) (h0 : d ≠ .non) (h1 : ∀ b, d ≠ .bl b) (h2 : ∀ x, d ≠ .str x) (e : toQ h 14 d = some q) (bx : boxed h d = true) (sh : q.showable = true) (lf : q.leavesShort 40 = true) (wt : q.weight ≤ 100000) (dp : q.depth ≤ 60) : fRepA [d] h = .ok (.str q.shown) h := by
  have e2 : fRepA [d] h = fRep [d] h := by
    cases d with
    | non => exact absurd rfl h0
    | bl b => exact absurd rfl (h1 b)
    | str x => exact absurd rfl (h2 x)
    | _ => rfl
  have e3 : fRep [d] h = match toQ h 14 d with
    | some p => if boxed h d = true ∧ p.showable = true ∧ p.depth ≤ 60 ∧ p.shown.length ≤ sizeLine then CM.R.ok (.str p.shown) h else .no
    | none => .no := by
    cases d with
    | int i => exact absurd rfl (hd i)
    | _ => rfl
  rw [e2, e3, e]
  exact if_pos ⟨bx, sh, dp, shown_ok lf wt⟩
theorem rep_list {ds : List CM.D} {wt : Nat} (H : ∀ d ∈ ds, SW 13 wt d) (l : ds.length * (wt + 1) ≤ 100000) : ∃ t, ∀ h : CH, fRepA [.lst ds] h = .ok (.str t) h := by
  obtain ⟨q, s⟩ := SW.lst H
  exact ⟨q.shown, fun h => rep_val (fun _ e => nomatch e) (fun e => nomatch e) (fun _ e => nomatch e) (fun _ e => nomatch e) (tq_toQ 14 _ _ s.e) rfl s.sh s.lf (Nat.le_trans s.wt l) (Nat.le_trans s.dp (by decide))⟩
theorem rep_tup {ds : List CM.D} {wt : Nat} (H : ∀ d ∈ ds, SW 13 wt d) (l : ds.length * (wt + 1) ≤ 100000) : ∃ t, ∀ h : CH, fRepA [.tup ds] h = .ok (.str t) h := by
  obtain ⟨q, s⟩ := SW.tup H
  exact ⟨q.shown, fun h => rep_val (fun _ e => nomatch e) (fun e => nomatch e) (fun _ e => nomatch e) (fun _ e => nomatch e) (tq_toQ 14 _ _ s.e) rfl s.sh s.lf (Nat.le_trans s.wt l) (Nat.le_trans s.dp (by decide))⟩
end
section
variable {h : CH} {d p : CM.D} {r : List CM.D} {w : Str} {ρ : DE} {i j n : Nat}
theorem lc_ref {α : Type} {ta : TD} {tg : TGD} {tt : TB} {te : TD} {vs : List Nat} {xs : List α} {enc : α → CM.D} {k : Nat} (f : α → Bool) (g : α → CM.D) (e : ta ρ h = .ok (.ref k) h) (eo : h.ob k = some (.lst (xs.map enc))) (lz : xs.length ≤ sizeLine)
    (H : ∀ x ∈ xs, ∃ ρ2, tg (enc x) (wipeD ρ vs) (h.put k (.lkl (xs.map enc))) = .ok ρ2 (h.put k (.lkl (xs.map enc))) ∧ tt ρ2 (h.put k (.lkl (xs.map enc))) = .ok (f x) (h.put k (.lkl (xs.map enc))) ∧ (f x = true → te ρ2 (h.put k (.lkl (xs.map enc))) = .ok (g x) (h.put k (.lkl (xs.map enc))))) : dLc false (dSeqI ta) tg tt te vs ρ h = .ok (.lst ((xs.filter f).map g)) h := by
  have lz' : (xs.map enc).length ≤ sizeLine := by rw [List.length_map]; exact lz
  have lk : dSeqI ta ρ h = .ok (xs.map enc, some (k, .lst (xs.map enc))) (h.put k (.lkl (xs.map enc))) := by
    rw [e_seqI, e, bind_ok]
    show lockD (.ref k) h = _
    unfold lockD
    simp only [eo]
  unfold dLc
  rw [lk, bind_ok]
  simp only [if_pos lz']
  rw [lcL_pure H, bind_ok, mkL_f]
  show CM.R.ok (CM.D.lst ((xs.filter f).map g)) ((h.put k (.lkl (xs.map enc))).put k (.lst (xs.map enc))) = _
  rw [put_put, put_id eo]
theorem new_ob {o : MO} : (h.new o).ob h.nx = some o := by
  show (if h.nx = h.nx then some o else h.ob h.nx) = _
  rw [if_pos rfl]
theorem Fr.new (o : MO) : Fr [] h (h.new o) := ⟨Nat.le_succ _, fun k l _ => by
  show (if k = h.nx then some o else h.ob k) = h.ob k
  rw [if_neg (by omega)]⟩
end
theorem cut_last {l : List CM.D} {x : CM.D} : CM.cutD (l ++ [x]) none (some (-1)) = l := by
  unfold CM.cutD
  have e : HT.sIx (l ++ [x]).length (l ++ [x]).length (some (-1)) = l.length := by
    rw [List.length_append]
    show HT.sIx (l.length + 1) (l.length + 1) (some (-1)) = l.length
    simp [HT.sIx]
    omega
  rw [HT.sIx_none, e]
  simp
section
variable {h : CH} {n : Nat}
theorem at_last {l : List CM.D} {x : CM.D} : atI (l ++ [x]) (-1) = some x := by
  unfold atI ixN
  have a : ¬ (0 : Int) ≤ -1 := by omega
  rw [if_neg a]
  have e : (-1 + ((l.length : Int) + 1)).toNat = l.length := by omega
  have f : (1 : Int) ≤ (l.length : Int) + 1 := by omega
  simp [e, f]
def tg45 (i j : Nat) : TGD := gdTup 2 (gdCons (gdName i) (gdCons (gdName j) (gdNil)))
theorem app_ok {a : Nat} {pre : List CM.D} {d : CM.D} (eo : h.ob a = some (.lst pre)) (lz : pre.length ≤ 100001) : isTy "list" (.ref a) h = true ∧ fAppend (.ref a) [d] h = .ok .non (h.put a (.lst (pre ++ [d]))) := by
  refine ⟨?_, ?_⟩
  · show (lstOf h (.ref a)).isSome = true
    simp only [lstOf, eo, Option.isSome_some]
  · show (match h.ob a with
      | some (.lst ds) => if ds.length < sizeLine then CM.R.ok CM.D.non (h.put a (.lst (ds ++ [d]))) else .no
      | _ => .no) = _
    rw [eo]
    have z : (100001 : Nat) < sizeLine := by decide
    exact if_pos (by omega)
theorem Fr.put {S : List Nat} {a : Nat} {o : MO} : Fr (a :: S) h (h.put a o) := ⟨Nat.le_refl _, fun k _ n => put_ne fun e => n (by rw [e]; exact List.mem_cons_self ..)⟩
theorem Fr.of_new {o : MO} {h1 : CH} (f : Fr [h.nx] (h.new o) h1) : Fr [] h h1 := ⟨Nat.le_trans (Nat.le_succ _) f.1, fun k l _ => by
  rw [f.2 k (Nat.lt_succ_of_lt l) (by simp; omega)]
  show (if k = h.nx then some o else h.ob k) = h.ob k
  rw [if_neg (by omega)]⟩
structure Sg (x : Str) : Prop where
  c : ∀ c ∈ tl x, c < 128
theorem joinL_lt {m : Nat} (S : List Nat) (hS : ∀ c ∈ S, c < m) : ∀ ps : List (List Nat), (∀ p ∈ ps, ∀ c ∈ p, c < m) → ∀ c ∈ joinL S ps, c < m
  | [], _, c, hc => by simp [joinL] at hc
  | [p], H, c, hc => H p (List.mem_cons_self ..) c hc
  | p :: q :: l, H, c, hc => by
    have ih := joinL_lt S hS (q :: l) fun x hx => H x (List.mem_cons_of_mem _ hx)
    have hc' : c ∈ p ++ (S ++ joinL S (q :: l)) := hc
    rw [List.mem_append, List.mem_append] at hc'
    rcases hc' with z | z | z
    · exact H p (List.mem_cons_self ..) c z
    · exact hS c z
    · exact ih c z
theorem joinL_nl : ∀ ls : List (List Nat), joinL [] (ls.map fun x => x ++ [10]) = joinL [10] (ls ++ [[]])
  | [] => rfl
  | [x] => by
    show x ++ [10] = x ++ ([10] ++ [])
    simp
  | x :: y :: l => by
    have ih := joinL_nl (y :: l)
    show (x ++ [10]) ++ ([] ++ joinL [] ((y :: l).map fun x => x ++ [10])) = x ++ ([10] ++ joinL [10] ((y :: l) ++ [[]]))
    rw [ih]
    simp
theorem split_sp {line : Str} (l : line.length ≤ 100000) (nm : Bool) : fSplit nm (.str line) [.str (Str.ofString " ")] h = mkL nm ((Txt.split line " ").map CM.D.str) h := by
  have z5 : (100002 : Nat) ≤ sizeLine := by decide
  show (if ((Str.ofString " ").length == 0) = false ∧ line.length + 2 ≤ sizeLine then mkL nm ((Txt.split line " ").map CM.D.str) h else .no) = _
  exact if_pos ⟨by decide +kernel, by omega⟩
theorem split_nl {line : Str} (l : line.length ≤ 100000) (nm : Bool) : fSplit nm (.str line) [.str (Str.ofString "\n")] h = mkL nm ((Txt.split line "\n").map CM.D.str) h := by
  have z5 : (100002 : Nat) ≤ sizeLine := by decide
  show (if ((Str.ofString "\n").length == 0) = false ∧ line.length + 2 ≤ sizeLine then mkL nm ((Txt.split line "\n").map CM.D.str) h else .no) = _
  exact if_pos ⟨by decide +kernel, by omega⟩
end
section
variable {h h' : CH} {r w i j n m k : Nat} {ρ : DE}
theorem is_ok2 {rr : CM.R CM.D} {a b : CM.D} (e : F__law_refusal rr [] h = .ok (.tup [a, b]) h') (sa : SW 13 60 a) (sb : SW 13 60 b) : F__law_is rr [a, b] h = .ok (.bl true) h' := by
  obtain ⟨t, rt⟩ := rep_tup (ds := [a, b]) (wt := 60) (fun x hx => by
    simp only [List.mem_cons, List.not_mem_nil, or_false] at hx
    rcases hx with rfl | rfl
    · exact sa
    · exact sb) (by simp)
  show (u__law_is rr [none, some a, some b] h).res = _
  unfold u__law_is
  have e1 : dLamF F__law_refusal rr [none, some a, some b] h = .ok (.tup [a, b]) h' := by
    show noxR (F__law_refusal rr [] h) = _
    rw [e]
    rfl
  have e2 : dTup (dCons (dVar 1) (dCons (dVar 2) (dNil))) [none, some a, some b] h' = .ok (.tup [a, b]) h' := by
    simp [show (2 : Nat) ≤ sizeLine from by decide]
  rw [s_ret, e_op]
  simp only [e_CB, e_cons, e_nil, e1, bind_ok, rt, e2, eq_ss, b_f, beq_self_eq_true]
  rfl
theorem lamC_ok {tb : TD} {ts : TDs} {a b : CM.D} (ets : ts ρ h = .ok [a, b] h) (eis : F__law_is (tb ρ h) [a, b] h = .ok (.bl true) h') : dLamC 2 F__law_is tb ts ρ h = .ok (.bl true) h' := by
  unfold dLamC
  rw [ets, bind_ok, if_pos (by rfl), eis]
  rfl
theorem DrawOk.fr0' {h1 : CH} (A : DrawOk r w n h) (f : Fr [] h h1) : DrawOk r w n h1 := A.keep f.1 fun j hj => f.2 j (by rcases hj with rfl | rfl; exact A.lt.1; exact A.lt.2) (by simp)
end
end W_whilemerged_k75_texts_of_books
namespace W_whilemerged_k75_texts_of_books
open PySem PySem.Spec PyProof.Rows L2 CM
open TL (tl joinL numL spl pre)
/-- blanks -/
def bl (l : List Nat) : Nat := l.count 32
/-- no line has more blanks than M -/
def LB (M : Nat) (l : List Nat) : Prop := ∀ p ∈ spl [10] 0 [] l, bl p ≤ M
theorem bl_app (a b : List Nat) : bl (a ++ b) = bl a + bl b := List.count_append ..
theorem spl_cons (d : Nat) (r acc : List Nat) : spl [10] 0 acc (d :: r) = if d = 10 then acc :: spl [10] 0 [] r else spl [10] 0 (acc ++ [d]) r := by
  by_cases e : d = 10
  · rw [if_pos e]
    have h : pre [10] (d :: r) = true := by rw [pre1, e]; rfl
    rw [TL.spl_hit h]
    rfl
  · rw [if_neg e]
    have h : pre [10] (d :: r) = false := by rw [pre1]; exact beq_eq_false_iff_ne.mpr fun q => e q.symm
    rw [TL.spl_miss h]
theorem LB.mono {a : List Nat} {M N : Nat} (A : LB M a) (h : M ≤ N) : LB N a := fun p hp => Nat.le_trans (A p hp) h
/-- all the blanks bound the blanks of a line -/
theorem spl_tot : ∀ (a acc : List Nat), ∀ p ∈ spl [10] 0 acc a, bl p ≤ bl acc + bl a
  | [], acc, p, hp => by
    rw [TL.spl_nil, List.mem_singleton] at hp
    rw [hp]
    omega
  | d :: r, acc, p, hp => by
    rw [spl_cons] at hp
    have ec : bl (d :: r) = bl [d] + bl r := bl_app [d] r
    by_cases q : d = 10
    · rw [if_pos q] at hp
      rcases List.mem_cons.mp hp with rfl | hp
      · omega
      · have := spl_tot r [] p hp
        have z : bl ([] : List Nat) = 0 := rfl
        omega
    · rw [if_neg q] at hp
      have := spl_tot r (acc ++ [d]) p hp
      rw [bl_app] at this
      omega
theorem LB.all (a : List Nat) : LB (bl a) a := fun p hp => by
  have := spl_tot a [] p hp
  have z : bl ([] : List Nat) = 0 := rfl
  omega
/-- lines put together -/
theorem spl_line : ∀ (a l acc : List Nat), spl [10] 0 acc (a ++ 10 :: l) = spl [10] 0 acc a ++ spl [10] 0 [] l
  | [], l, acc => by
    rw [List.nil_append, spl_cons, if_pos rfl, TL.spl_nil]
    rfl
  | d :: a, l, acc => by
    rw [List.cons_append, spl_cons, spl_cons]
    by_cases q : d = 10
    · rw [if_pos q, if_pos q, spl_line a l []]
      rfl
    · rw [if_neg q, if_neg q, spl_line a l _]
theorem LB.lines {M : Nat} : ∀ ls : List (List Nat), (∀ l ∈ ls, LB M l) → LB M (joinL [10] ls)
  | [], _ => fun p hp => by
    have : p ∈ spl [10] 0 [] ([] : List Nat) := hp
    rw [TL.spl_nil, List.mem_singleton] at this
    rw [this]
    exact Nat.zero_le _
  | [l], H => H l (List.mem_cons_self ..)
  | l :: k :: r, H => fun p hp => by
    have ih := LB.lines (k :: r) fun y hy => H y (List.mem_cons_of_mem _ hy)
    have hp' : p ∈ spl [10] 0 [] (l ++ 10 :: joinL [10] (k :: r)) := hp
    rw [spl_line] at hp'
    rcases List.mem_append.mp hp' with hp' | hp'
    · exact H l (List.mem_cons_self ..) p hp'
    · exact ih p hp'
theorem spl_one : ∀ (a acc : List Nat), 10 ∉ a → spl [10] 0 acc a = [acc ++ a]
  | [], acc, _ => by rw [TL.spl_nil, List.append_nil]
  | d :: r, acc, h => by
    rw [spl_cons, if_neg (fun e => h (by rw [e]; exact List.mem_cons_self ..)), spl_one r (acc ++ [d]) (fun m => h (List.mem_cons_of_mem _ m))]
    simp
theorem LB.row {a : List Nat} (h : 10 ∉ a) {M : Nat} (b : bl a ≤ M) : LB M a := fun p hp => by
  rw [spl_one a [] h, List.mem_singleton] at hp
  rw [hp]
  exact b
/-- pieces' signs -/
theorem spl_mem {s : Nat} : ∀ (l acc : List Nat), ∀ p ∈ spl [s] 0 acc l, ∀ c ∈ p, c ∈ acc ∨ c ∈ l
  | [], acc, p, hp, c, hc => by
    rw [TL.spl_nil, List.mem_singleton] at hp
    rw [hp] at hc
    exact .inl hc
  | d :: r, acc, p, hp, c, hc => by
    by_cases e : pre [s] (d :: r) = true
    · rw [TL.spl_hit e] at hp
      rcases List.mem_cons.mp hp with rfl | hp
      · exact .inl hc
      · rcases spl_mem r [] p hp c hc with q | q
        · cases q
        · exact .inr (List.mem_cons_of_mem _ q)
    · rw [TL.spl_miss (by simpa using e)] at hp
      rcases spl_mem r (acc ++ [d]) p hp c hc with q | q
      · rcases List.mem_append.mp q with q | q
        · exact .inl q
        · rw [List.mem_singleton] at q
          rw [q]
          exact .inr (List.mem_cons_self ..)
      · exact .inr (List.mem_cons_of_mem _ q)
/-- a page of small signs, and few words a line -/
structure Nice (M : Nat) (x : Str) : Prop where
  s : Sg x
  b : LB M (tl x)
section
variable {x y sep : Str} {M N c : Nat}
theorem Nice.mono (A : Nice M x) (h : M ≤ N) : Nice N x := ⟨A.s, A.b.mono h⟩
theorem Sg.split (a : Sg x) (e : tl sep = [c]) (k : sep.cps.all (· < 256) = true) (h : y ∈ Txt.split x sep) : Sg y := ⟨fun d hd => by
  have m : tl y ∈ (Txt.split x sep).map tl := List.mem_map_of_mem h
  rw [split_tl e k] at m
  rcases spl_mem _ _ _ m d hd with q | q
  · cases q
  · exact a.c d q⟩
theorem Sg.join (e : ∀ d ∈ tl sep, d < 128) {l : List Str} (h : ∀ y ∈ l, Sg y) : Sg (Txt.join sep l) := ⟨fun d hd => by
  rw [TL.join_eq, TL.tl_join] at hd
  refine joinL_lt (m := 128) (tl sep) e _ (fun p hp => ?_) d hd
  obtain ⟨y, hy, rfl⟩ := List.mem_map.mp hp
  exact (h y hy).c⟩
/-- the rows of a page -/
theorem Nice.rows (A : Nice M x) (h : y ∈ Txt.split x "\n") : Sg y ∧ 10 ∉ tl y ∧ bl (tl y) ≤ M := by
  have m : tl y ∈ (Txt.split x "\n").map tl := List.mem_map_of_mem h
  rw [split_tl tl_nl nl_k] at m
  exact ⟨A.s.split tl_nl nl_k h, spl_free _ _ (by simp) _ m, A.b _ m⟩
theorem Nice.join {l : List Str} (h : ∀ y ∈ l, Nice M y) : Nice M (Txt.join "\n" l) := by
  refine ⟨Sg.join (by rw [tl_nl]; simp) fun y hy => (h y hy).s, ?_⟩
  rw [TL.join_eq, TL.tl_join, tl_nl]
  refine LB.lines _ fun p hp => ?_
  obtain ⟨y, hy, rfl⟩ := List.mem_map.mp hp
  exact (h y hy).b
theorem bl_join : ∀ l : List (List Nat), l ≠ [] → bl (joinL [32] l) = (l.map bl).sum + (l.length - 1)
  | [], h => absurd rfl h
  | [p], _ => by simp [joinL]
  | p :: q :: l, _ => by
    have ih := bl_join (q :: l) (by simp)
    show bl (p ++ ([32] ++ joinL [32] (q :: l))) = _
    rw [bl_app, bl_app, ih]
    have z : bl [32] = 1 := rfl
    rw [z]
    simp only [List.map_cons, List.sum_cons, List.length_cons, Nat.add_sub_cancel]
    omega
theorem words_bl {l : List Str} (ne : l ≠ []) : bl (tl (Txt.join " " l)) = (l.map fun x => bl (tl x)).sum + (l.length - 1) := by
  rw [TL.join_eq, TL.tl_join, tl_sp, bl_join _ (by simpa using ne), List.map_map, List.length_map]
  rfl
theorem words_cnt (h : 32 ∉ tl y) : bl (tl y) = 0 := List.count_eq_zero.mpr h
/-- how many words a row has -/
theorem row_words {row : Str} : (Txt.split row " ").length = bl (tl row) + 1 := by
  have ne := split_ne (x := row) tl_sp sp_k
  have b := split_back (x := row) tl_sp sp_k
  have w := words_bl ne
  rw [b] at w
  have z : ∀ l : List Str, (∀ y ∈ l, 32 ∉ tl y) → (l.map fun x => bl (tl x)).sum = 0 := fun l => by
    induction l with
    | nil => intro _; rfl
    | cons a l ih =>
      intro H
      rw [List.map_cons, List.sum_cons, ih fun y hy => H y (List.mem_cons_of_mem _ hy), words_cnt (H a (List.mem_cons_self ..))]
  have fr : ∀ y ∈ Txt.split row " ", 32 ∉ tl y := fun y hy => by
    have m : tl y ∈ (Txt.split row " ").map tl := List.mem_map_of_mem hy
    rw [split_tl tl_sp sp_k] at m
    exact spl_free _ _ (by simp) _ m
  rw [z _ fr] at w
  have : 0 < (Txt.split row " ").length := List.length_pos_iff.mpr ne
  omega
end
end W_whilemerged_k75_texts_of_books
namespace W_whilemerged_k75_texts_of_books
open PySem PySem.Spec PyProof.Rows L2 CM
open TL (tl joinL numL spl pre)
def sm (l : List Str) : Nat := (l.map (·.length)).sum
theorem sm_nil : sm [] = 0 := rfl
theorem sm_cons {x : Str} {l : List Str} : sm (x :: l) = x.length + sm l := rfl
theorem sm_app {a b : List Str} : sm (a ++ b) = sm a + sm b := by unfold sm; rw [List.map_append, List.sum_append]
theorem join_len {sep : Str} {c : Nat} (e : tl sep = [c]) (l : List Str) : (Txt.join sep l).length ≤ sm l + (l.length - 1) := by
  rw [TL.len_tl, TL.join_eq, TL.tl_join, e]
  cases l with
  | nil => simp [joinL]
  | cons a r =>
    rw [joinL_sum _ _ (by simp)]
    unfold sm
    rw [len_map]
    simp
section
variable {h : CH} {page : Str} {r w n : Nat} {ρ : DE} {R W : List Str}
theorem DrawOk.putk {k : Nat} {o : MO} (A : DrawOk r w n h) (kr : k ≠ r) (kw : k ≠ w) : DrawOk r w n (h.put k o) := A.keep (Nat.le_refl _) fun j hj => put_ne (by rcases hj with e | e <;> omega)
theorem DrawOk.newk {o : MO} (A : DrawOk r w n h) : DrawOk r w n (h.new o) := A.keep (Nat.le_succ _) fun j hj => (Fr.new _).2 j (by have := A.lt; rcases hj with e | e <;> omega) (by simp)
theorem add_ss {a b : Str} (l : a.length + b.length ≤ 1000000) : fAdd false (.str a) (.str b) h = .ok (.str (a ++ b)) h := by
  have z : (1000000 : Nat) ≤ sizeLine := by decide
  exact if_pos (by omega)
theorem len_app {a b : Str} : (a ++ b : Str).length = a.length + b.length := by rw [TL.len_tl, TL.tl_append, List.length_append, ← TL.len_tl, ← TL.len_tl]
end
end W_whilemerged_k75_texts_of_books
namespace W_whilemerged_k75_texts_of_books
open PySem PySem.Spec PyProof.Rows L2 CM
open TL (tl joinL numL)
theorem new_obY {h : CH} {o : MO} {k : Nat} : (h.new o).ob k = if k = h.nx then some o else h.ob k := rfl
section
variable {h h' : CH} {N N' : Nms} {C C' : Cont} {p q : Part} {o o' : MO} {A B : Nat → Prop}
@[simp] theorem new_at : (h.new o).ob h.nx = some o := by simp [new_obY]
end
section
variable {h h' : CH} {N N' : Nms} {C C' : Cont} {p q : Part} {o o' : MO} {A B : Nat → Prop}
theorem new_lt {j : Nat} (l : j < h.nx) : (h.new o).ob j = h.ob j := by rw [new_obY, if_neg (by omega)]
end
structure Bk where
  up : Str
  down : Str
  writes : Str
  moves : Str
  finish : Str
  counts : Str
  bars : List Str
  notes : List Str
abbrev bkF (B : Bk) : List (Str × CM.D) := [("b_words", .tup (stL [B.up, B.down, B.writes, B.moves, B.finish, B.counts])), ("b_bars", .tup (stL B.bars)), ("b_notes", .tup (stL B.notes))]
def Bk.d (B : Bk) : CM.D := .obj 7 (bkF B)
def Bk.f (B : Bk) : CM.D := .dct [(.inr "up", .str B.up), (.inr "down", .str B.down), (.inr "writes", .str B.writes), (.inr "moves", .str B.moves), (.inr "finish", .str B.finish), (.inr "counts", .str B.counts), (.inr "bars", .lst (stL B.bars)), (.inr "notes", .lst (stL B.notes))]
section
variable {h : CH} {V : Vr} {B : Bk} {N : Nms} {S : YS} {neg : Bool} {i : Int}
theorem ixS_of {kvs : List (Key × CM.D)} {k : Nat} {f : Str} {d : CM.D} (e : dctOf h (.ref k) = some kvs) (s : seqOf h (.ref k) = none) (l : dGet kvs (.inr f) = some d) : fIx (.ref k) (.str f) h = .ok d h := by
  unfold fIx
  simp only [s, e, keyD, l]
end
@[simp] theorem szy0 : 0 ≤ sizeLine := by decide
@[simp] theorem zsy0 : 0 < sizeLine := by decide
@[simp] theorem szy1 : 1 ≤ sizeLine := by decide
@[simp] theorem zsy1 : 1 < sizeLine := by decide
@[simp] theorem szy2 : 2 ≤ sizeLine := by decide
@[simp] theorem zsy2 : 2 < sizeLine := by decide
@[simp] theorem szy3 : 3 ≤ sizeLine := by decide
@[simp] theorem zsy3 : 3 < sizeLine := by decide
@[simp] theorem szy4 : 4 ≤ sizeLine := by decide
@[simp] theorem zsy4 : 4 < sizeLine := by decide
@[simp] theorem szy5 : 5 ≤ sizeLine := by decide
@[simp] theorem zsy5 : 5 < sizeLine := by decide
@[simp] theorem szy6 : 6 ≤ sizeLine := by decide
@[simp] theorem zsy6 : 6 < sizeLine := by decide
@[simp] theorem szy7 : 7 ≤ sizeLine := by decide
@[simp] theorem zsy7 : 7 < sizeLine := by decide
@[simp] theorem szy8 : 8 ≤ sizeLine := by decide
@[simp] theorem zsy8 : 8 < sizeLine := by decide
@[simp] theorem szy9 : 9 ≤ sizeLine := by decide
@[simp] theorem zsy9 : 9 < sizeLine := by decide
section
variable {h h' : CH} {V : Vr} {B : Bk} {N N' : Nms} {S S' : YS} {i k : Int} {d : CM.D} {α : Type}
theorem sub_of {to ti : TD} {ρ : DE} {r : Nat} {key : Key} {kd : CM.D} {kvs : List (Key × CM.D)} (e1 : to ρ h = .ok (.ref r) h) (e2 : ti ρ h = .ok kd h) (ek : keyD kd = some key) (eo : h.ob r = some (.dct kvs)) (lz : kvs.length < sizeLine) : gdSub to ti d ρ h = .ok ρ (h.put r (.dct (dPut kvs key d))) := by
  unfold gdSub
  simp only [e1, calm_ok, e2, refOf, eo, ek]
  rw [if_pos lz]
end
structure Grow (h h' : CH) : Prop where
  nx : h.nx ≤ h'.nx
  ob : ∀ j, j < h.nx → h'.ob j = h.ob j
section
variable {h0 h h1 h' : CH} {k : Nat} {V : Vr} {B : Bk} {N N' : Nms} {S S' : YS} {i m : Int} {d w : CM.D} {α : Type} {n : Nat}
theorem Grow.refl : Grow h h := ⟨Nat.le_refl _, fun _ _ => rfl⟩
end
section
variable {h0 h h1 h' : CH} {k : Nat} {V : Vr} {B : Bk} {N N' : Nms} {S S' : YS} {i m : Int} {d w : CM.D} {α : Type} {n : Nat}
theorem Grow.trans (a : Grow h h1) (b : Grow h1 h') : Grow h h' := ⟨Nat.le_trans a.nx b.nx, fun j l => (b.ob j (Nat.lt_of_lt_of_le l a.nx)).trans (a.ob j l)⟩
end
section
variable {h0 h h1 h' : CH} {k : Nat} {V : Vr} {B : Bk} {N N' : Nms} {S S' : YS} {i m : Int} {d w : CM.D} {α : Type} {n : Nat}
theorem Grow.new {o : MO} : Grow h (h.new o) := ⟨Nat.le_succ _, fun j l => new_lt l⟩
end
section
variable {h0 h h1 h' : CH} {k : Nat} {V : Vr} {B : Bk} {N N' : Nms} {S S' : YS} {i m : Int} {d w : CM.D} {α : Type} {n : Nat}
theorem Grow.put (a : Grow h h1) {o : MO} (l : h.nx ≤ k) : Grow h (h1.put k o) := ⟨a.nx, fun j lj => (put_ne (by omega)).trans (a.ob j lj)⟩
end
section
variable {h0 h h1 h' : CH} {k : Nat} {V : Vr} {B : Bk} {N N' : Nms} {S S' : YS} {i m : Int} {d w : CM.D} {α : Type} {n : Nat}
theorem Grow.del (a : Grow h h1) (l : h.nx ≤ k) : Grow h (h1.del k) := ⟨a.nx, fun j lj => by
  show (if j = k then none else h1.ob j) = _
  rw [if_neg (by omega)]
  exact a.ob j lj⟩
end
theorem del_ne {h : CH} {k j : Nat} (n : j ≠ k) : (h.del k).ob j = h.ob j := by unfold CH.del; simp only [if_neg n]
def wUP : List Str := ["one", "late", "blind"]
def wDOWN : List Str := ["one", "two"]
def wWRITES : List Str := ["plain", "both", "again", "behind", "refused"]
def wMOVES : List Str := ["now", "first"]
def wFINISH : List Str := ["one", "link", "cut"]
def wCOUNTS : List Str := ["last", "first", "never"]
def wBARS : List Str := ["cover", "lower", "open", "others", "upper"]
def wNOTES : List Str := ["again", "job", "place"]
theorem pickSY {r w n : Nat} {h : CH} {l : List Str} (A : DrawOk r w (n + 1) h) (h0 : l ≠ []) (h1 : l.length < 1000) : (F__law_pick [.ref r, .lst (stL l)] h).sat fun d h1 => ∃ a, a ∈ l ∧ d = .str a ∧ DrawOk r w n h1 ∧ DrFr r w h h1 := by
  refine (pick_sat A (.inl rfl) (by simpa using h0) (by rw [List.length_map]; omega)).mono ?_
  rintro d h1 ⟨m, A', f⟩
  obtain ⟨a, ha, rfl⟩ := List.mem_map.mp m
  exact ⟨a, ha, rfl, A', f⟩
structure AW (r w m k : Nat) (kvs : List (Key × CM.D)) (h h' : CH) : Prop where
  ob : h'.ob k = some (.dct kvs)
  dr : DrawOk r w m h'
  le : h.nx ≤ k
  lt : k < h'.nx
  rw_ : r < h.nx ∧ w < h.nx
  fr : ∀ j, j < h.nx → j ≠ r → j ≠ w → h'.ob j = h.ob j
section
variable {r w m k : Nat} {kvs kvs' : List (Key × CM.D)} {h h' h1 : CH} {l : List Str}
theorem AW.draw (A : AW r w m k kvs h h') {n : Nat} (A' : DrawOk r w n h1) (f : DrFr r w h' h1) : AW r w n k kvs h h1 := by
  have := A.rw_
  have := A.le
  exact ⟨(f.2 k (by omega) (by omega)).trans A.ob, A', A.le, by rw [f.1]; exact A.lt, A.rw_, fun j hj n1 n2 => (f.2 j n1 n2).trans (A.fr j hj n1 n2)⟩
end
section
variable {r w m k : Nat} {kvs kvs' : List (Key × CM.D)} {h h' h1 : CH} {l : List Str}
theorem AW.pick (A : AW r w (m + 1) k kvs h h') (h0 : l ≠ []) (h1 : l.length < 1000) : (F__law_pick [.ref r, .lst (stL l)] h').sat fun d h1 => ∃ a, a ∈ l ∧ d = .str a ∧ AW r w m k kvs h h1 := by
  refine (pickSY A.dr h0 h1).mono ?_
  rintro d h1 ⟨a, ha, rfl, A', f⟩
  exact ⟨a, ha, rfl, A.draw A' f⟩
end
section
variable {r w m k : Nat} {kvs kvs' : List (Key × CM.D)} {h h' h1 : CH} {l : List Str}
theorem AW.put (A : AW r w m k kvs h h') : AW r w m k kvs' h (h'.put k (.dct kvs')) := by
  have := A.rw_
  have := A.le
  exact ⟨put_same, A.dr.keep (Nat.le_refl _) fun j hj => put_ne (by rcases hj with rfl | rfl <;> omega), A.le, A.lt, A.rw_, fun j hj n1 n2 => by rw [put_ne (by omega)]; exact A.fr j hj n1 n2⟩
end
abbrev w7Y (a b c d e f x : CM.D) : List (Key × CM.D) := [(.inr "up", a), (.inr "down", b), (.inr "writes", c), (.inr "moves", d), (.inr "finish", e), (.inr "counts", f), (.inr "bars", x)]
structure Wd (a b c d e f : Str) (bs ns : List Str) : Prop where
  a : a ∈ wUP
  b : b ∈ wDOWN
  c : c ∈ wWRITES
  d : d ∈ wMOVES
  e : e ∈ wFINISH
  f : f ∈ wCOUNTS
  bn : bs.Nodup
  bm : ∀ x, x ∈ bs → x ∈ wBARS
  nn : ns.Nodup
  nm : ∀ x, x ∈ ns → x ∈ wNOTES
theorem need_word_sat {h : CH} {f : CM.D} {x : Str} {ws : List Str} (m : x ∈ ws) : (F_need_word [f, .str x, .tup (stL ws)] h).sat fun d h1 => d = .non ∧ h1 = h := by
  unfold F_need_word bodyF
  rw [sat_res]
  show (u_need_word [some f, some (.str x), some (.tup (stL ws))] h).sat _ _
  unfold u_need_word
  have e1 : ∀ hh : CH, fIsX xs0 [7] kt0 [.str x, .ty "str"] hh = .ok (.bl true) hh := fun hh => by rfl
  simp [e1, fIn_ok m, bneg]
theorem need_words_sat {h : CH} {f X : CM.D} {l ws : List Str} (s : SeqS h X l) (nd : l.Nodup) (hl : l.length < 64) (m : ∀ x, x ∈ l → x ∈ ws) : (F_need_words [f, X, .tup (stL ws)] h).sat fun d h1 => d = .non ∧ h1 = h := by
  unfold F_need_words bodyF
  rw [sat_res]
  show (u_need_words [some f, some X, some (.tup (stL ws)), none] h).sat _ _
  unfold u_need_words
  have e1 : fIsT [7] kt0 [X, .tup [.ty "list", .ty "tuple"]] h = .ok (.bl true) h := by
    rcases s with ⟨k, rfl, e⟩ | rfl | rfl
    · unfold fIsT
      simp only [tgOf, e]
      rfl
    · rfl
    · rfl
  rw [s_seq, sat_bindS]
  simp [e1]
  rw [Kont, s_seq, sat_bindS]
  refine sat_walk s rfl (I := fun r ρ => (∀ x, x ∈ r → x ∈ ws) ∧ ∃ o, ρ = [some f, some X, some (.tup (stL ws)), o]) ⟨m, none, rfl⟩ ?_ ?_
  · rintro x r ρ h' ⟨q, o, rfl⟩
    simp
    refine (need_word_sat (q x (List.mem_cons_self ..))).mono ?_
    rintro d h1 ⟨rfl, rfl⟩
    exact ⟨rfl, fun y hy => q y (List.mem_cons_of_mem _ hy)⟩
  · rintro ρ ⟨_, o, rfl⟩
    rw [Kont]
    simp [fLenS_ok s nd (by omega), fLen_ok s, fB]
def bookD (ws bs ns : List Str) : CM.D := .obj 7 [("b_words", .tup (stL ws)), ("b_bars", .tup (stL bs)), ("b_notes", .tup (stL ns))]
theorem pd1 (x y : CM.D) : putD (Str.ofString "b_bars") y [(Str.ofString "b_words", x)] = [(Str.ofString "b_words", x), (Str.ofString "b_bars", y)] := by kernel_rfl
theorem pd2 (x y z : CM.D) : putD (Str.ofString "b_notes") z [(Str.ofString "b_words", x), (Str.ofString "b_bars", y)] = [(Str.ofString "b_words", x), (Str.ofString "b_bars", y), (Str.ofString "b_notes", z)] := by kernel_rfl
theorem init_sat {h : CH} {o : Nat} {X Y : CM.D} {a b c d e f : Str} {bs ns : List Str} (W : Wd a b c d e f bs ns) (sx : SeqS h X bs) (sy : SeqS h Y ns) (eo : h.ob o = some (.obj 7 [])) (nx : X ≠ .ref o) (ny : Y ≠ .ref o) :
    (F_Book_init [.ref o, .str a, .str b, .str c, .str d, .str e, .str f, X, Y] h).sat fun z h1 => z = .non ∧ h1 = h.put o (.obj 7 [("b_words", .tup (stL [a, b, c, d, e, f])), ("b_bars", .tup (stL (sortS bs))), ("b_notes", .tup (stL (sortS ns)))]) := by
  unfold F_Book_init bodyF
  rw [sat_res]
  show (u_Book_init [some (.ref o), some (.str a), some (.str b), some (.str c), some (.str d), some (.str e), some (.str f), some X, some Y] h).sat _ _
  unfold u_Book_init
  rw [s_seq, sat_bindS]
  simp
  refine (need_word_sat (ws := wUP) W.a).mono ?_
  rintro _ h1 ⟨rfl, rfl⟩
  rw [Kont, s_seq, sat_bindS]
  simp
  refine (need_word_sat (ws := wDOWN) W.b).mono ?_
  rintro _ h1 ⟨rfl, rfl⟩
  rw [Kont, s_seq, sat_bindS]
  simp
  refine (need_word_sat (ws := wWRITES) W.c).mono ?_
  rintro _ h1 ⟨rfl, rfl⟩
  rw [Kont, s_seq, sat_bindS]
  simp
  refine (need_word_sat (ws := wMOVES) W.d).mono ?_
  rintro _ h1 ⟨rfl, rfl⟩
  rw [Kont, s_seq, sat_bindS]
  simp
  refine (need_word_sat (ws := wFINISH) W.e).mono ?_
  rintro _ h1 ⟨rfl, rfl⟩
  rw [Kont, s_seq, sat_bindS]
  simp
  refine (need_word_sat (ws := wCOUNTS) W.f).mono ?_
  rintro _ h1 ⟨rfl, rfl⟩
  rw [Kont, s_seq, sat_bindS]
  simp
  have lb : bs.length ≤ 5 := List.Nodup.length_le_of_subset W.bn (fun x hx => W.bm x hx)
  have ln : ns.length ≤ 3 := List.Nodup.length_le_of_subset W.nn (fun x hx => W.nm x hx)
  refine (need_words_sat (ws := wBARS) sx W.bn (by omega) W.bm).mono ?_
  rintro _ h1 ⟨rfl, rfl⟩
  rw [Kont, s_seq, sat_bindS]
  simp
  refine (need_words_sat (ws := wNOTES) sy W.nn (by omega) W.nm).mono ?_
  rintro _ h1 ⟨rfl, rfl⟩
  rw [Kont, s_seq, sat_bindS]
  simp [gdFld, refOf, eo, putD]
  have sx1 : SeqS (h1.put o (.obj 7 [("b_words", .tup [.str a, .str b, .str c, .str d, .str e, .str f])])) X bs := by
    rcases sx with ⟨k, rfl, ek⟩ | rfl | rfl
    · exact .inl ⟨k, rfl, by rw [put_ne (fun z => nx (by rw [z]))]; exact ek⟩
    · exact .inr (.inl rfl)
    · exact .inr (.inr rfl)
  rw [Kont, s_seq, sat_bindS]
  simp [fSrt_ok sx1 (by omega), fTupOf, lstOf, gdFld, refOf, put_same, put_put, pd1]
  have sy1 : SeqS (h1.put o (.obj 7 [("b_words", .tup [.str a, .str b, .str c, .str d, .str e, .str f]), ("b_bars", .tup (stL (sortS bs)))])) Y ns := by
    rcases sy with ⟨k, rfl, ek⟩ | rfl | rfl
    · exact .inl ⟨k, rfl, by rw [put_ne (fun z => ny (by rw [z]))]; exact ek⟩
    · exact .inr (.inl rfl)
    · exact .inr (.inr rfl)
  rw [Kont]
  simp [fSrt_ok sy1 (by omega), fTupOf, lstOf, gdFld, refOf, put_same, put_put, pd2]
structure Kp (h h1 : CH) : Prop where
  nx : h.nx ≤ h1.nx
  ob : ∀ j, j < h.nx → h1.ob j = h.ob j
theorem Kp.refl {h : CH} : Kp h h := ⟨Nat.le_refl _, fun _ _ => rfl⟩
theorem Kp.trans {h h1 h2 : CH} (a : Kp h h1) (b : Kp h1 h2) : Kp h h2 := ⟨Nat.le_trans a.nx b.nx, fun j l => (b.ob j (Nat.lt_of_lt_of_le l a.nx)).trans (a.ob j l)⟩
theorem make_sat {h : CH} {X Y : CM.D} {a b c d e f : Str} {bs ns : List Str} (W : Wd a b c d e f bs ns) (sx : SeqS h X bs) (sy : SeqS h Y ns) (lx : ∀ k, X = .ref k → k < h.nx) (ly : ∀ k, Y = .ref k → k < h.nx) :
    ((F_Book_init [.ref h.nx, .str a, .str b, .str c, .str d, .str e, .str f, X, Y] (h.new (.obj 7 []))).bind fun r h2 => match r with
      | .non => if true = true then fz (.ref h.nx) h2 else .ok (.ref h.nx) h2
      | _ => .no).sat fun z h1 => z = bookD [a, b, c, d, e, f] (sortS bs) (sortS ns) ∧ Kp h h1 := by
  have nw : ∀ j, j < h.nx → (h.new (.obj 7 [])).ob j = h.ob j := fun j hj => by
    show (if j = h.nx then _ else _) = _
    rw [if_neg (by omega)]
  have up : ∀ {X : CM.D} {l : List Str}, SeqS h X l → (∀ k, X = .ref k → k < h.nx) → SeqS (h.new (.obj 7 [])) X l := fun {X l} s lt => by
    rcases s with ⟨k, rfl, ek⟩ | rfl | rfl
    · exact .inl ⟨k, rfl, by rw [nw k (lt k rfl)]; exact ek⟩
    · exact .inr (.inl rfl)
    · exact .inr (.inr rfl)
  rw [sat_bind]
  refine (init_sat W (up sx lx) (up sy ly) (by show (if h.nx = h.nx then _ else _) = _; rw [if_pos rfl]) (fun z => by have := lx _ z; omega) (fun z => by have := ly _ z; omega)).mono ?_
  rintro z h1 ⟨rfl, rfl⟩
  simp only [if_true]
  unfold fz
  simp only [put_same]
  refine ⟨rfl, Nat.le_succ _, fun j hj => ?_⟩
  rw [del_ne (by omega), put_ne (by omega)]
  exact nw j hj
theorem sortS_srt (l : List Str) : (sortS l).Pairwise (fun a b => ltS b a = false) := sortB_sorted (lt := ltS) (fun a b q => ltCps_asym _ _ q) (fun a b c q1 q2 => ltCps_tr _ _ _ q1 q2) l
theorem sortS_same {l l' : List Str} (p : l.Perm l') : sortS l = sortS l' :=
  (((sortS_perm l).trans p).trans (sortS_perm l').symm).eq_of_pairwise (fun a b _ _ h1 h2 => str_cps (ltCps_tot _ _ h2 h1)) (sortS_srt l) (sortS_srt l')
def mkB (a b c d e f : Str) (bs ns : List Str) : Bk := ⟨a, b, c, d, e, f, bs, ns⟩
theorem srt_sub {l ws : List Str} (s : l.Sublist ws) (p : ws.Pairwise fun a b => ltS b a = false) : sortS l = l :=
  ((sortS_perm l)).eq_of_pairwise (fun a b _ _ h1 h2 => str_cps (ltCps_tot _ _ h2 h1)) (sortS_srt l) (p.sublist s)
theorem bars_srt : wBARS.Pairwise fun a b => ltS b a = false := by
  have : wBARS.Pairwise (fun a b => ltS b a = false) ↔ sortS wBARS = wBARS := ⟨fun p => srt_sub (List.Sublist.refl _) p, fun e => by rw [← e]; exact sortS_srt _⟩
  exact this.mpr (by decide +kernel)
theorem notes_srt : wNOTES.Pairwise fun a b => ltS b a = false := by
  have : wNOTES.Pairwise (fun a b => ltS b a = false) ↔ sortS wNOTES = wNOTES := ⟨fun p => srt_sub (List.Sublist.refl _) p, fun e => by rw [← e]; exact sortS_srt _⟩
  exact this.mpr (by decide +kernel)
structure Bk.Wf (B : Bk) : Prop where
  wd : Wd B.up B.down B.writes B.moves B.finish B.counts B.bars B.notes
  sb : B.bars.Sublist wBARS
  sn : B.notes.Sublist wNOTES
def fK (B : Bk) : List (Key × CM.D) := [(.inr "up", .str B.up), (.inr "down", .str B.down), (.inr "writes", .str B.writes), (.inr "moves", .str B.moves), (.inr "finish", .str B.finish), (.inr "counts", .str B.counts), (.inr "bars", .lst (stL B.bars)), (.inr "notes", .lst (stL B.notes))]
theorem AW.free {r w m k : Nat} {B : Bk} {h h1 : CH} (A : AW r w m k (fK B) h h1) : fz (.ref k) h1 = .ok B.f (h1.del k) ∧ DrawOk r w m (h1.del k) ∧ h.nx ≤ (h1.del k).nx ∧ ∀ j, j < h.nx → j ≠ r → j ≠ w → (h1.del k).ob j = h.ob j := by
  have le := A.le
  have lt := A.lt
  have rw_ := A.rw_
  refine ⟨?_, A.dr.keep (Nat.le_refl _) fun j hj => del_ne (by rcases hj with rfl | rfl <;> omega), by show h.nx ≤ h1.nx; omega, fun j hj n1 n2 => ?_⟩
  · unfold fz
    simp only [A.ob]
    rfl
  · rw [del_ne (by omega)]
    exact A.fr j hj n1 n2
section
variable {h h' : CH} {V : Vr} {B : Bk} {N N' : Nms} {S S' : YS} {i k : Int} {d w : CM.D} {α : Type} {n : Nat}
theorem forL1 {tg : TGD} {u : SD} {d : CM.D} {r : List CM.D} {ρ ρ1 ρ2 : DE} {h h1 h2 : CH} (t : tg d ρ h = .ok ρ1 h1) (q : u ρ1 h1 = .nx ρ2 h2) : dForL tg u (d :: r) ρ h = dForL tg u r ρ2 h2 := by
  simp only [dForL, t, put_ok, q]
end
section
variable {h h' : CH} {V : Vr} {B : Bk} {N N' : Nms} {S S' : YS} {i k : Int} {d w : CM.D} {α : Type} {n : Nat}
theorem asg_of {t : TD} {g : TGD} {d : CM.D} {ρ ρ2 : DE} {h h1 h2 : CH} (e : t ρ h = .ok d h1) (q : g d ρ h1 = .ok ρ2 h2) : dAsg t g ρ h = .nx ρ2 h2 := by
  rw [s_asg, e, toS_ok, q, put_ok]
end
section
variable {r w n m k : Nat} {h h1 h' h2 : CH} {kvs kvs' : List (Key × CM.D)}
theorem words_all : ∃ h', Grow h h' ∧ h'.ob h.nx = some (.dct [(.inr (Str.ofString "up"), .lst (stL wUP)), (.inr (Str.ofString "down"), .lst (stL wDOWN)), (.inr (Str.ofString "moves"), .lst (stL wMOVES)), (.inr (Str.ofString "writes"), .lst (stL wWRITES)), (.inr (Str.ofString "finish"), .lst (stL wFINISH)), (.inr (Str.ofString "counts"), .lst (stL wCOUNTS)), (.inr (Str.ofString "bars"), .lst (stL wBARS)), (.inr (Str.ofString "notes"), .lst (stL wNOTES))]) ∧ ∀ (x : Str) (u : SD), (dSeq (dAsg (dDisp true [(dC (.str (Str.ofString "up")), dLst false (dCons (dC (.str (Str.ofString "one"))) (dCons (dC (.str (Str.ofString "late"))) (dCons (dC (.str (Str.ofString "blind"))) (dNil))))), (dC (.str (Str.ofString "down")), dLst false (dCons (dC (.str (Str.ofString "one"))) (dCons (dC (.str (Str.ofString "two"))) (dNil)))), (dC (.str (Str.ofString "moves")), dLst false (dCons (dC (.str (Str.ofString "now"))) (dCons (dC (.str (Str.ofString "first"))) (dNil))))]) (gdName 1)) (dSeq (dAsg (dLst false (dCons (dC (.str (Str.ofString "plain"))) (dCons (dC (.str (Str.ofString "both"))) (dCons (dC (.str (Str.ofString "again"))) (dCons (dC (.str (Str.ofString "behind"))) (dCons (dC (.str (Str.ofString "refused"))) (dNil))))))) (gdSub (dVar 1) (dC (.str (Str.ofString "writes"))))) (dSeq (dAsg (dLst false (dCons (dC (.str (Str.ofString "one"))) (dCons (dC (.str (Str.ofString "link"))) (dCons (dC (.str (Str.ofString "cut"))) (dNil))))) (gdSub (dVar 1) (dC (.str (Str.ofString "finish"))))) (dSeq (dAsg (dLst false (dCons (dC (.str (Str.ofString "last"))) (dCons (dC (.str (Str.ofString "first"))) (dCons (dC (.str (Str.ofString "never"))) (dNil))))) (gdSub (dVar 1) (dC (.str (Str.ofString "counts"))))) (dSeq (dAsg (dLst false (dCons (dC (.str (Str.ofString "cover"))) (dCons (dC (.str (Str.ofString "lower"))) (dCons (dC (.str (Str.ofString "open"))) (dCons (dC (.str (Str.ofString "others"))) (dCons (dC (.str (Str.ofString "upper"))) (dNil))))))) (gdSub (dVar 1) (dC (.str (Str.ofString "bars"))))) (dSeq (dAsg (dLst false (dCons (dC (.str (Str.ofString "again"))) (dCons (dC (.str (Str.ofString "job"))) (dCons (dC (.str (Str.ofString "place"))) (dNil))))) (gdSub (dVar 1) (dC (.str (Str.ofString "notes"))))) (u))))))) [some (.str x), none] h = u [some (.str x), some (.ref h.nx)] h' := by
  have d0 : ∀ x : Str, (dDisp true [(dC (.str (Str.ofString "up")), dLst false (dCons (dC (.str (Str.ofString "one"))) (dCons (dC (.str (Str.ofString "late"))) (dCons (dC (.str (Str.ofString "blind"))) (dNil))))), (dC (.str (Str.ofString "down")), dLst false (dCons (dC (.str (Str.ofString "one"))) (dCons (dC (.str (Str.ofString "two"))) (dNil)))), (dC (.str (Str.ofString "moves")), dLst false (dCons (dC (.str (Str.ofString "now"))) (dCons (dC (.str (Str.ofString "first"))) (dNil))))]) [some (.str x), none] h = .ok (.ref h.nx) (h.new (.dct [(.inr (Str.ofString "up"), .lst (stL wUP)), (.inr (Str.ofString "down"), .lst (stL wDOWN)), (.inr (Str.ofString "moves"), .lst (stL wMOVES))])) := fun x => by
    have q : mergeD [] [(.inr (Str.ofString "up"), .lst (stL wUP)), (.inr (Str.ofString "down"), .lst (stL wDOWN)), (.inr (Str.ofString "moves"), .lst (stL wMOVES))] = [(.inr (Str.ofString "up"), .lst (stL wUP)), (.inr (Str.ofString "down"), .lst (stL wDOWN)), (.inr (Str.ofString "moves"), .lst (stL wMOVES))] := by kernel_rfl
    have ed : ∀ {ts : List (TD × TD)} {ρ : DE} {h : CH}, dDisp true ts ρ h = (dPairs ts ρ h).bind fun ps h => match keysOf ps with
      | some kvs => if kvs.length ≤ 15 then mkD true (mergeD [] kvs) h else .no
      | none => .no := rfl
    have dp : dPairs [(dC (.str (Str.ofString "up")), dLst false (dCons (dC (.str (Str.ofString "one"))) (dCons (dC (.str (Str.ofString "late"))) (dCons (dC (.str (Str.ofString "blind"))) (dNil))))), (dC (.str (Str.ofString "down")), dLst false (dCons (dC (.str (Str.ofString "one"))) (dCons (dC (.str (Str.ofString "two"))) (dNil)))), (dC (.str (Str.ofString "moves")), dLst false (dCons (dC (.str (Str.ofString "now"))) (dCons (dC (.str (Str.ofString "first"))) (dNil))))] [some (.str x), none] h = .ok [(.str (Str.ofString "up"), .lst (stL wUP)), (.str (Str.ofString "down"), .lst (stL wDOWN)), (.str (Str.ofString "moves"), .lst (stL wMOVES))] h := by
      simp [dPairs, mkL]
      refine ⟨?_, ?_, ?_⟩ <;> rfl
    rw [ed, dp, bind_ok]
    simp only [keysOf, keyD]
    rw [q]
    rfl
  generalize eg0 : h.new (.dct [(.inr (Str.ofString "up"), .lst (stL wUP)), (.inr (Str.ofString "down"), .lst (stL wDOWN)), (.inr (Str.ofString "moves"), .lst (stL wMOVES))]) = g0 at d0
  have o0 : g0.ob h.nx = some (.dct [(.inr (Str.ofString "up"), .lst (stL wUP)), (.inr (Str.ofString "down"), .lst (stL wDOWN)), (.inr (Str.ofString "moves"), .lst (stL wMOVES))]) := by rw [← eg0]; exact new_at
  have G0 : Grow h g0 := by rw [← eg0]; exact Grow.new
  have d1 : ∀ x : Str, (dLst false (dCons (dC (.str (Str.ofString "plain"))) (dCons (dC (.str (Str.ofString "both"))) (dCons (dC (.str (Str.ofString "again"))) (dCons (dC (.str (Str.ofString "behind"))) (dCons (dC (.str (Str.ofString "refused"))) (dNil))))))) [some (.str x), some (.ref h.nx)] g0 = .ok (.lst (stL wWRITES)) g0 := fun x => by
    simp [mkL]
    rfl
  have s1 : ∀ x : Str, gdSub (dVar 1) (dC (.str (Str.ofString "writes"))) (.lst (stL wWRITES)) [some (.str x), some (.ref h.nx)] g0 = .ok [some (.str x), some (.ref h.nx)] (g0.put h.nx (.dct [(.inr (Str.ofString "up"), .lst (stL wUP)), (.inr (Str.ofString "down"), .lst (stL wDOWN)), (.inr (Str.ofString "moves"), .lst (stL wMOVES)), (.inr (Str.ofString "writes"), .lst (stL wWRITES))])) := fun x => by
    have := sub_of (h := g0) (d := .lst (stL wWRITES)) (to := dVar 1) (ti := dC (.str (Str.ofString "writes"))) (ρ := [some (.str x), some (.ref h.nx)]) (r := h.nx) (key := .inr (Str.ofString "writes")) (kd := .str (Str.ofString "writes")) rfl rfl rfl o0 (by show 3 < sizeLine; exact sz60' (by decide))
    rw [show dPut [(.inr (Str.ofString "up"), .lst (stL wUP)), (.inr (Str.ofString "down"), .lst (stL wDOWN)), (.inr (Str.ofString "moves"), .lst (stL wMOVES))] (.inr (Str.ofString "writes")) (.lst (stL wWRITES)) = [(.inr (Str.ofString "up"), .lst (stL wUP)), (.inr (Str.ofString "down"), .lst (stL wDOWN)), (.inr (Str.ofString "moves"), .lst (stL wMOVES)), (.inr (Str.ofString "writes"), .lst (stL wWRITES))] from by kernel_rfl] at this
    exact this
  generalize eg1 : g0.put h.nx (.dct [(.inr (Str.ofString "up"), .lst (stL wUP)), (.inr (Str.ofString "down"), .lst (stL wDOWN)), (.inr (Str.ofString "moves"), .lst (stL wMOVES)), (.inr (Str.ofString "writes"), .lst (stL wWRITES))]) = g1 at s1
  have o1 : g1.ob h.nx = some (.dct [(.inr (Str.ofString "up"), .lst (stL wUP)), (.inr (Str.ofString "down"), .lst (stL wDOWN)), (.inr (Str.ofString "moves"), .lst (stL wMOVES)), (.inr (Str.ofString "writes"), .lst (stL wWRITES))]) := by rw [← eg1]; exact put_same
  have G1 : Grow h g1 := by rw [← eg1]; exact Grow.put G0 (Nat.le_refl _)
  have d2 : ∀ x : Str, (dLst false (dCons (dC (.str (Str.ofString "one"))) (dCons (dC (.str (Str.ofString "link"))) (dCons (dC (.str (Str.ofString "cut"))) (dNil))))) [some (.str x), some (.ref h.nx)] g1 = .ok (.lst (stL wFINISH)) g1 := fun x => by
    simp [mkL]
    rfl
  have s2 : ∀ x : Str, gdSub (dVar 1) (dC (.str (Str.ofString "finish"))) (.lst (stL wFINISH)) [some (.str x), some (.ref h.nx)] g1 = .ok [some (.str x), some (.ref h.nx)] (g1.put h.nx (.dct [(.inr (Str.ofString "up"), .lst (stL wUP)), (.inr (Str.ofString "down"), .lst (stL wDOWN)), (.inr (Str.ofString "moves"), .lst (stL wMOVES)), (.inr (Str.ofString "writes"), .lst (stL wWRITES)), (.inr (Str.ofString "finish"), .lst (stL wFINISH))])) := fun x => by
    have := sub_of (h := g1) (d := .lst (stL wFINISH)) (to := dVar 1) (ti := dC (.str (Str.ofString "finish"))) (ρ := [some (.str x), some (.ref h.nx)]) (r := h.nx) (key := .inr (Str.ofString "finish")) (kd := .str (Str.ofString "finish")) rfl rfl rfl o1 (by show 4 < sizeLine; exact sz60' (by decide))
    rw [show dPut [(.inr (Str.ofString "up"), .lst (stL wUP)), (.inr (Str.ofString "down"), .lst (stL wDOWN)), (.inr (Str.ofString "moves"), .lst (stL wMOVES)), (.inr (Str.ofString "writes"), .lst (stL wWRITES))] (.inr (Str.ofString "finish")) (.lst (stL wFINISH)) = [(.inr (Str.ofString "up"), .lst (stL wUP)), (.inr (Str.ofString "down"), .lst (stL wDOWN)), (.inr (Str.ofString "moves"), .lst (stL wMOVES)), (.inr (Str.ofString "writes"), .lst (stL wWRITES)), (.inr (Str.ofString "finish"), .lst (stL wFINISH))] from by kernel_rfl] at this
    exact this
  generalize eg2 : g1.put h.nx (.dct [(.inr (Str.ofString "up"), .lst (stL wUP)), (.inr (Str.ofString "down"), .lst (stL wDOWN)), (.inr (Str.ofString "moves"), .lst (stL wMOVES)), (.inr (Str.ofString "writes"), .lst (stL wWRITES)), (.inr (Str.ofString "finish"), .lst (stL wFINISH))]) = g2 at s2
  have o2 : g2.ob h.nx = some (.dct [(.inr (Str.ofString "up"), .lst (stL wUP)), (.inr (Str.ofString "down"), .lst (stL wDOWN)), (.inr (Str.ofString "moves"), .lst (stL wMOVES)), (.inr (Str.ofString "writes"), .lst (stL wWRITES)), (.inr (Str.ofString "finish"), .lst (stL wFINISH))]) := by rw [← eg2]; exact put_same
  have G2 : Grow h g2 := by rw [← eg2]; exact Grow.put G1 (Nat.le_refl _)
  have d3 : ∀ x : Str, (dLst false (dCons (dC (.str (Str.ofString "last"))) (dCons (dC (.str (Str.ofString "first"))) (dCons (dC (.str (Str.ofString "never"))) (dNil))))) [some (.str x), some (.ref h.nx)] g2 = .ok (.lst (stL wCOUNTS)) g2 := fun x => by
    simp [mkL]
    rfl
  have s3 : ∀ x : Str, gdSub (dVar 1) (dC (.str (Str.ofString "counts"))) (.lst (stL wCOUNTS)) [some (.str x), some (.ref h.nx)] g2 = .ok [some (.str x), some (.ref h.nx)] (g2.put h.nx (.dct [(.inr (Str.ofString "up"), .lst (stL wUP)), (.inr (Str.ofString "down"), .lst (stL wDOWN)), (.inr (Str.ofString "moves"), .lst (stL wMOVES)), (.inr (Str.ofString "writes"), .lst (stL wWRITES)), (.inr (Str.ofString "finish"), .lst (stL wFINISH)), (.inr (Str.ofString "counts"), .lst (stL wCOUNTS))])) := fun x => by
    have := sub_of (h := g2) (d := .lst (stL wCOUNTS)) (to := dVar 1) (ti := dC (.str (Str.ofString "counts"))) (ρ := [some (.str x), some (.ref h.nx)]) (r := h.nx) (key := .inr (Str.ofString "counts")) (kd := .str (Str.ofString "counts")) rfl rfl rfl o2 (by show 5 < sizeLine; exact sz60' (by decide))
    rw [show dPut [(.inr (Str.ofString "up"), .lst (stL wUP)), (.inr (Str.ofString "down"), .lst (stL wDOWN)), (.inr (Str.ofString "moves"), .lst (stL wMOVES)), (.inr (Str.ofString "writes"), .lst (stL wWRITES)), (.inr (Str.ofString "finish"), .lst (stL wFINISH))] (.inr (Str.ofString "counts")) (.lst (stL wCOUNTS)) = [(.inr (Str.ofString "up"), .lst (stL wUP)), (.inr (Str.ofString "down"), .lst (stL wDOWN)), (.inr (Str.ofString "moves"), .lst (stL wMOVES)), (.inr (Str.ofString "writes"), .lst (stL wWRITES)), (.inr (Str.ofString "finish"), .lst (stL wFINISH)), (.inr (Str.ofString "counts"), .lst (stL wCOUNTS))] from by kernel_rfl] at this
    exact this
  generalize eg3 : g2.put h.nx (.dct [(.inr (Str.ofString "up"), .lst (stL wUP)), (.inr (Str.ofString "down"), .lst (stL wDOWN)), (.inr (Str.ofString "moves"), .lst (stL wMOVES)), (.inr (Str.ofString "writes"), .lst (stL wWRITES)), (.inr (Str.ofString "finish"), .lst (stL wFINISH)), (.inr (Str.ofString "counts"), .lst (stL wCOUNTS))]) = g3 at s3
  have o3 : g3.ob h.nx = some (.dct [(.inr (Str.ofString "up"), .lst (stL wUP)), (.inr (Str.ofString "down"), .lst (stL wDOWN)), (.inr (Str.ofString "moves"), .lst (stL wMOVES)), (.inr (Str.ofString "writes"), .lst (stL wWRITES)), (.inr (Str.ofString "finish"), .lst (stL wFINISH)), (.inr (Str.ofString "counts"), .lst (stL wCOUNTS))]) := by rw [← eg3]; exact put_same
  have G3 : Grow h g3 := by rw [← eg3]; exact Grow.put G2 (Nat.le_refl _)
  have d4 : ∀ x : Str, (dLst false (dCons (dC (.str (Str.ofString "cover"))) (dCons (dC (.str (Str.ofString "lower"))) (dCons (dC (.str (Str.ofString "open"))) (dCons (dC (.str (Str.ofString "others"))) (dCons (dC (.str (Str.ofString "upper"))) (dNil))))))) [some (.str x), some (.ref h.nx)] g3 = .ok (.lst (stL wBARS)) g3 := fun x => by
    simp [mkL]
    rfl
  have s4 : ∀ x : Str, gdSub (dVar 1) (dC (.str (Str.ofString "bars"))) (.lst (stL wBARS)) [some (.str x), some (.ref h.nx)] g3 = .ok [some (.str x), some (.ref h.nx)] (g3.put h.nx (.dct [(.inr (Str.ofString "up"), .lst (stL wUP)), (.inr (Str.ofString "down"), .lst (stL wDOWN)), (.inr (Str.ofString "moves"), .lst (stL wMOVES)), (.inr (Str.ofString "writes"), .lst (stL wWRITES)), (.inr (Str.ofString "finish"), .lst (stL wFINISH)), (.inr (Str.ofString "counts"), .lst (stL wCOUNTS)), (.inr (Str.ofString "bars"), .lst (stL wBARS))])) := fun x => by
    have := sub_of (h := g3) (d := .lst (stL wBARS)) (to := dVar 1) (ti := dC (.str (Str.ofString "bars"))) (ρ := [some (.str x), some (.ref h.nx)]) (r := h.nx) (key := .inr (Str.ofString "bars")) (kd := .str (Str.ofString "bars")) rfl rfl rfl o3 (by show 6 < sizeLine; exact sz60' (by decide))
    rw [show dPut [(.inr (Str.ofString "up"), .lst (stL wUP)), (.inr (Str.ofString "down"), .lst (stL wDOWN)), (.inr (Str.ofString "moves"), .lst (stL wMOVES)), (.inr (Str.ofString "writes"), .lst (stL wWRITES)), (.inr (Str.ofString "finish"), .lst (stL wFINISH)), (.inr (Str.ofString "counts"), .lst (stL wCOUNTS))] (.inr (Str.ofString "bars")) (.lst (stL wBARS)) = [(.inr (Str.ofString "up"), .lst (stL wUP)), (.inr (Str.ofString "down"), .lst (stL wDOWN)), (.inr (Str.ofString "moves"), .lst (stL wMOVES)), (.inr (Str.ofString "writes"), .lst (stL wWRITES)), (.inr (Str.ofString "finish"), .lst (stL wFINISH)), (.inr (Str.ofString "counts"), .lst (stL wCOUNTS)), (.inr (Str.ofString "bars"), .lst (stL wBARS))] from by kernel_rfl] at this
    exact this
  generalize eg4 : g3.put h.nx (.dct [(.inr (Str.ofString "up"), .lst (stL wUP)), (.inr (Str.ofString "down"), .lst (stL wDOWN)), (.inr (Str.ofString "moves"), .lst (stL wMOVES)), (.inr (Str.ofString "writes"), .lst (stL wWRITES)), (.inr (Str.ofString "finish"), .lst (stL wFINISH)), (.inr (Str.ofString "counts"), .lst (stL wCOUNTS)), (.inr (Str.ofString "bars"), .lst (stL wBARS))]) = g4 at s4
  have o4 : g4.ob h.nx = some (.dct [(.inr (Str.ofString "up"), .lst (stL wUP)), (.inr (Str.ofString "down"), .lst (stL wDOWN)), (.inr (Str.ofString "moves"), .lst (stL wMOVES)), (.inr (Str.ofString "writes"), .lst (stL wWRITES)), (.inr (Str.ofString "finish"), .lst (stL wFINISH)), (.inr (Str.ofString "counts"), .lst (stL wCOUNTS)), (.inr (Str.ofString "bars"), .lst (stL wBARS))]) := by rw [← eg4]; exact put_same
  have G4 : Grow h g4 := by rw [← eg4]; exact Grow.put G3 (Nat.le_refl _)
  have d5 : ∀ x : Str, (dLst false (dCons (dC (.str (Str.ofString "again"))) (dCons (dC (.str (Str.ofString "job"))) (dCons (dC (.str (Str.ofString "place"))) (dNil))))) [some (.str x), some (.ref h.nx)] g4 = .ok (.lst (stL wNOTES)) g4 := fun x => by
    simp [mkL]
    rfl
  have s5 : ∀ x : Str, gdSub (dVar 1) (dC (.str (Str.ofString "notes"))) (.lst (stL wNOTES)) [some (.str x), some (.ref h.nx)] g4 = .ok [some (.str x), some (.ref h.nx)] (g4.put h.nx (.dct [(.inr (Str.ofString "up"), .lst (stL wUP)), (.inr (Str.ofString "down"), .lst (stL wDOWN)), (.inr (Str.ofString "moves"), .lst (stL wMOVES)), (.inr (Str.ofString "writes"), .lst (stL wWRITES)), (.inr (Str.ofString "finish"), .lst (stL wFINISH)), (.inr (Str.ofString "counts"), .lst (stL wCOUNTS)), (.inr (Str.ofString "bars"), .lst (stL wBARS)), (.inr (Str.ofString "notes"), .lst (stL wNOTES))])) := fun x => by
    have := sub_of (h := g4) (d := .lst (stL wNOTES)) (to := dVar 1) (ti := dC (.str (Str.ofString "notes"))) (ρ := [some (.str x), some (.ref h.nx)]) (r := h.nx) (key := .inr (Str.ofString "notes")) (kd := .str (Str.ofString "notes")) rfl rfl rfl o4 (by show 7 < sizeLine; exact sz60' (by decide))
    rw [show dPut [(.inr (Str.ofString "up"), .lst (stL wUP)), (.inr (Str.ofString "down"), .lst (stL wDOWN)), (.inr (Str.ofString "moves"), .lst (stL wMOVES)), (.inr (Str.ofString "writes"), .lst (stL wWRITES)), (.inr (Str.ofString "finish"), .lst (stL wFINISH)), (.inr (Str.ofString "counts"), .lst (stL wCOUNTS)), (.inr (Str.ofString "bars"), .lst (stL wBARS))] (.inr (Str.ofString "notes")) (.lst (stL wNOTES)) = [(.inr (Str.ofString "up"), .lst (stL wUP)), (.inr (Str.ofString "down"), .lst (stL wDOWN)), (.inr (Str.ofString "moves"), .lst (stL wMOVES)), (.inr (Str.ofString "writes"), .lst (stL wWRITES)), (.inr (Str.ofString "finish"), .lst (stL wFINISH)), (.inr (Str.ofString "counts"), .lst (stL wCOUNTS)), (.inr (Str.ofString "bars"), .lst (stL wBARS)), (.inr (Str.ofString "notes"), .lst (stL wNOTES))] from by kernel_rfl] at this
    exact this
  generalize eg5 : g4.put h.nx (.dct [(.inr (Str.ofString "up"), .lst (stL wUP)), (.inr (Str.ofString "down"), .lst (stL wDOWN)), (.inr (Str.ofString "moves"), .lst (stL wMOVES)), (.inr (Str.ofString "writes"), .lst (stL wWRITES)), (.inr (Str.ofString "finish"), .lst (stL wFINISH)), (.inr (Str.ofString "counts"), .lst (stL wCOUNTS)), (.inr (Str.ofString "bars"), .lst (stL wBARS)), (.inr (Str.ofString "notes"), .lst (stL wNOTES))]) = g5 at s5
  have o5 : g5.ob h.nx = some (.dct [(.inr (Str.ofString "up"), .lst (stL wUP)), (.inr (Str.ofString "down"), .lst (stL wDOWN)), (.inr (Str.ofString "moves"), .lst (stL wMOVES)), (.inr (Str.ofString "writes"), .lst (stL wWRITES)), (.inr (Str.ofString "finish"), .lst (stL wFINISH)), (.inr (Str.ofString "counts"), .lst (stL wCOUNTS)), (.inr (Str.ofString "bars"), .lst (stL wBARS)), (.inr (Str.ofString "notes"), .lst (stL wNOTES))]) := by rw [← eg5]; exact put_same
  have G5 : Grow h g5 := by rw [← eg5]; exact Grow.put G4 (Nat.le_refl _)
  refine ⟨g5, G5, o5, fun x u => ?_⟩
  rw [s_seq, asg_of (d0 x) rfl, sbind_nx]
  simp only [List.set_cons_succ, List.set_cons_zero]
  rw [s_seq, asg_of (d1 x) (s1 x), sbind_nx]
  rw [s_seq, asg_of (d2 x) (s2 x), sbind_nx]
  rw [s_seq, asg_of (d3 x) (s3 x), sbind_nx]
  rw [s_seq, asg_of (d4 x) (s4 x), sbind_nx]
  rw [s_seq, asg_of (d5 x) (s5 x), sbind_nx]
end
section
variable {r w n m k : Nat} {h h1 h' h2 : CH} {kvs kvs' : List (Key × CM.D)}
theorem words_ok {f : Str} {ws : List Str} (e : dGet [(.inr (Str.ofString "up"), .lst (stL wUP)), (.inr (Str.ofString "down"), .lst (stL wDOWN)), (.inr (Str.ofString "moves"), .lst (stL wMOVES)), (.inr (Str.ofString "writes"), .lst (stL wWRITES)), (.inr (Str.ofString "finish"), .lst (stL wFINISH)), (.inr (Str.ofString "counts"), .lst (stL wCOUNTS)), (.inr (Str.ofString "bars"), .lst (stL wBARS)), (.inr (Str.ofString "notes"), .lst (stL wNOTES))] (.inr f) = some (.lst (stL ws))) : ∃ h', F__law_words [.str f] h = .ok (.lst (stL ws)) h' ∧ Grow h h' := by
  obtain ⟨h', G, o, q⟩ := words_all (h := h)
  refine ⟨h', ?_, G⟩
  show (u__law_words [some (.str f), none] h).res = _
  unfold u__law_words
  rw [show (dSeq (dAsg (dDisp true [(dC (.str (Str.ofString "up")), dLst false (dCons (dC (.str (Str.ofString "one"))) (dCons (dC (.str (Str.ofString "late"))) (dCons (dC (.str (Str.ofString "blind"))) (dNil))))), (dC (.str (Str.ofString "down")), dLst false (dCons (dC (.str (Str.ofString "one"))) (dCons (dC (.str (Str.ofString "two"))) (dNil)))), (dC (.str (Str.ofString "moves")), dLst false (dCons (dC (.str (Str.ofString "now"))) (dCons (dC (.str (Str.ofString "first"))) (dNil))))]) (gdName 1)) (dSeq (dAsg (dLst false (dCons (dC (.str (Str.ofString "plain"))) (dCons (dC (.str (Str.ofString "both"))) (dCons (dC (.str (Str.ofString "again"))) (dCons (dC (.str (Str.ofString "behind"))) (dCons (dC (.str (Str.ofString "refused"))) (dNil))))))) (gdSub (dVar 1) (dC (.str (Str.ofString "writes"))))) (dSeq (dAsg (dLst false (dCons (dC (.str (Str.ofString "one"))) (dCons (dC (.str (Str.ofString "link"))) (dCons (dC (.str (Str.ofString "cut"))) (dNil))))) (gdSub (dVar 1) (dC (.str (Str.ofString "finish"))))) (dSeq (dAsg (dLst false (dCons (dC (.str (Str.ofString "last"))) (dCons (dC (.str (Str.ofString "first"))) (dCons (dC (.str (Str.ofString "never"))) (dNil))))) (gdSub (dVar 1) (dC (.str (Str.ofString "counts"))))) (dSeq (dAsg (dLst false (dCons (dC (.str (Str.ofString "cover"))) (dCons (dC (.str (Str.ofString "lower"))) (dCons (dC (.str (Str.ofString "open"))) (dCons (dC (.str (Str.ofString "others"))) (dCons (dC (.str (Str.ofString "upper"))) (dNil))))))) (gdSub (dVar 1) (dC (.str (Str.ofString "bars"))))) (dSeq (dAsg (dLst false (dCons (dC (.str (Str.ofString "again"))) (dCons (dC (.str (Str.ofString "job"))) (dCons (dC (.str (Str.ofString "place"))) (dNil))))) (gdSub (dVar 1) (dC (.str (Str.ofString "notes"))))) (dRet (dOp fIx (dVar 1) (dVar 0))))))))) [some (.str f), none] h = _ from q f _]
  have d : dctOf h' (.ref h.nx) = some [(.inr (Str.ofString "up"), .lst (stL wUP)), (.inr (Str.ofString "down"), .lst (stL wDOWN)), (.inr (Str.ofString "moves"), .lst (stL wMOVES)), (.inr (Str.ofString "writes"), .lst (stL wWRITES)), (.inr (Str.ofString "finish"), .lst (stL wFINISH)), (.inr (Str.ofString "counts"), .lst (stL wCOUNTS)), (.inr (Str.ofString "bars"), .lst (stL wBARS)), (.inr (Str.ofString "notes"), .lst (stL wNOTES))] := by unfold dctOf; simp only [o]
  have s : seqOf h' (.ref h.nx) = none := by unfold seqOf; simp only [o]
  have ix := ixS_of (f := f) d s e
  simp [ix]
end
section
variable {r w n m k : Nat} {h h1 h' h2 : CH} {kvs kvs' : List (Key × CM.D)}
theorem AW.grow (A : AW r w m k kvs h h1) (g : Grow h1 h2) : AW r w m k kvs h h2 := by
  have := A.rw_
  have := A.le
  have := A.lt
  exact ⟨(g.ob _ (by omega)).trans A.ob, A.dr.keep g.nx fun j hj => g.ob j (by rcases hj with rfl | rfl <;> omega), A.le, Nat.lt_of_lt_of_le A.lt g.nx, A.rw_, fun j hj n1 n2 => (g.ob j (by omega)).trans (A.fr j hj n1 n2)⟩
end
section
variable {r w n m k : Nat} {h h1 h' h2 : CH} {kvs kvs' : List (Key × CM.D)}
theorem field_ok {f : Str} {ws : List Str} {x3 x4 : Option CM.D} (A : AW r w (m + 1) k kvs h h1) (e : dGet [(.inr (Str.ofString "up"), .lst (stL wUP)), (.inr (Str.ofString "down"), .lst (stL wDOWN)), (.inr (Str.ofString "moves"), .lst (stL wMOVES)), (.inr (Str.ofString "writes"), .lst (stL wWRITES)), (.inr (Str.ofString "finish"), .lst (stL wFINISH)), (.inr (Str.ofString "counts"), .lst (stL wCOUNTS)), (.inr (Str.ofString "bars"), .lst (stL wBARS)), (.inr (Str.ofString "notes"), .lst (stL wNOTES))] (.inr f) = some (.lst (stL ws))) (n0 : ws ≠ []) (n1 : ws.length < 1000) (lk : kvs.length ≤ 60) : ∃ x h', x ∈ ws ∧ (dAsg (dCall 2 F__law_pick (dCons (dVar 0) (dCons (dCall 1 F__law_words (dCons (dVar 2) (dNil))) (dNil)))) (gdSub (dVar 1) (dVar 2))) [some (.ref r), some (.ref k), some (.str f), x3, x4] h1 = .nx [some (.ref r), some (.ref k), some (.str f), x3, x4] h' ∧ AW r w m k (dPut kvs (.inr f) (.str x)) h h' := by
  obtain ⟨h2, e2, G⟩ := words_ok (h := h1) e
  have A2 := AW.grow A G
  obtain ⟨d, h3, e3, x, hx, rfl, A3⟩ := (A2.pick n0 n1).ex
  have sb := sub_of (h := h3) (d := .str x) (to := dVar 1) (ti := dVar 2) (ρ := [some (.ref r), some (.ref k), some (.str f), x3, x4]) (r := k) (key := .inr f) (kd := .str f) rfl rfl rfl A3.ob (sz60' lk)
  refine ⟨x, _, hx, ?_, A3.put⟩
  have t : (dCall 2 F__law_pick (dCons (dVar 0) (dCons (dCall 1 F__law_words (dCons (dVar 2) (dNil))) (dNil)))) [some (.ref r), some (.ref k), some (.str f), x3, x4] h1 = .ok (.str x) h3 := by
    simp [e2, e3]
  rw [asg_of t sb]
end
section
variable {r w n m k : Nat} {h h1 h' h2 : CH} {kvs kvs' : List (Key × CM.D)}
theorem chosen0 {ti : TD} {o : Int} {ds : List Str} {a1 a2 a4 : Option CM.D} (A : DrawOk r w (n + ds.length) h1) (hl : ds.length < 1000) (l0 : 0 < o) (l1 : o < 1000)
    (et : ti [some (.ref r), a1, a2, some (.int o), a4] h = .ok (.lst (stL ds)) h1) :
    (dLc false (dSeqI ti) (gdName 4) (dB (dOp (fEq false) (dCall 2 F__law_take (dCons (dVar 0) (dCons (dVar 3) (dNil)))) (dC (.int 0)))) (dVar 4) [4] [some (.ref r), a1, a2, some (.int o), a4] h).sat fun d h2 => ∃ zs, d = .lst (stL zs) ∧ zs.Sublist ds ∧ DrawOk r w n h2 ∧ DrFr r w h1 h2 := by
  have ll : ds.length ≤ sizeLine := Nat.le_trans (Nat.le_of_lt hl) (by decide)
  unfold dLc
  simp [et, itemsD, ll, wipeD]
  refine sat_lcl (I := fun rest ys h' => ∃ (l1 l2 zs : List Str), ds = l1 ++ l2 ∧ rest = stL l2 ∧ ys = stL zs ∧ zs.Sublist l1 ∧ DrawOk r w (n + l2.length) h' ∧ DrFr r w h1 h') ?_ (ys := []) ⟨[], ds, [], rfl, rfl, rfl, .slnil, A, .refl⟩ ?_
  · rintro d rest ys h' ⟨l1, l2, zs, e1, e2, rfl, sb, A', f⟩
    cases l2 with
    | nil => cases e2
    | cons x l2 =>
      cases e2
      simp
      refine (take_sat (n := n + l2.length) (by simpa [Nat.add_assoc] using A') l0 (by omega)).mono ?_
      rintro d h1 ⟨v, rfl, v0, v1, A3, f3⟩
      simp
      by_cases c : v = 0
      · simp [c]
        exact ⟨l1 ++ [x], l2, by simp [e1], rfl, zs ++ [x], by simp [stL], sb.append (List.Sublist.refl _), A3, f.trans f3⟩
      · simp [c]
        exact ⟨l1 ++ [x], l2, by simp [e1], rfl, zs, rfl, sb.trans (List.sublist_append_left ..), A3, f.trans f3⟩
  · rintro zs h' ⟨l1, l2, zs', e1, e2, rfl, sb, A', f⟩ l el
    have : l2 = [] := by cases l2 with | nil => rfl | cons => cases e2
    subst this
    simp only [List.nil_append] at el
    subst el
    exact ⟨zs', rfl, by rw [e1]; simpa using sb, A', f⟩
end
section
variable {r w n m k : Nat} {h h1 h' h2 : CH} {kvs kvs' : List (Key × CM.D)}
theorem fields_ok {f : Str} {ws : List Str} {x3 x4 : Option CM.D} (A : AW r w (m + 1 + ws.length) k kvs h h1) (e : dGet [(.inr (Str.ofString "up"), .lst (stL wUP)), (.inr (Str.ofString "down"), .lst (stL wDOWN)), (.inr (Str.ofString "moves"), .lst (stL wMOVES)), (.inr (Str.ofString "writes"), .lst (stL wWRITES)), (.inr (Str.ofString "finish"), .lst (stL wFINISH)), (.inr (Str.ofString "counts"), .lst (stL wCOUNTS)), (.inr (Str.ofString "bars"), .lst (stL wBARS)), (.inr (Str.ofString "notes"), .lst (stL wNOTES))] (.inr f) = some (.lst (stL ws))) (n1 : ws.length < 1000) (lk : kvs.length ≤ 60) : ∃ zs x3' h', zs.Sublist ws ∧ (dSeq (dAsg (dCall 2 F__law_pick (dCons (dVar 0) (dCons (dLst false (dCons (dC (.int 1)) (dCons (dC (.int 2)) (dCons (dC (.int 2)) (dCons (dC (.int 4)) (dNil)))))) (dNil)))) (gdName 3)) (dAsg (dLc false (dSeqI (dCall 1 F__law_words (dCons (dVar 2) (dNil)))) (gdName 4) (dB (dOp (fEq false) (dCall 2 F__law_take (dCons (dVar 0) (dCons (dVar 3) (dNil)))) (dC (.int 0)))) (dVar 4) [4]) (gdSub (dVar 1) (dVar 2)))) [some (.ref r), some (.ref k), some (.str f), x3, x4] h1 = .nx [some (.ref r), some (.ref k), some (.str f), x3', x4] h' ∧ AW r w m k (dPut kvs (.inr f) (.lst (stL zs))) h h' := by
  obtain ⟨o, h2, e2, mo, A2, f2⟩ := (pick_sat (n := m + ws.length) (A.dr.mono (by omega)) (xs := .lst [.int 1, .int 2, .int 2, .int 4]) (ds := [.int 1, .int 2, .int 2, .int 4]) (.inl rfl) (by simp) (by simp)).ex
  have mo' : ∃ v : Int, o = .int v ∧ 0 < v ∧ v < 1000 := by
    simp only [List.mem_cons, List.not_mem_nil, or_false] at mo
    rcases mo with rfl | rfl | rfl | rfl
    · exact ⟨1, rfl, by decide, by decide⟩
    · exact ⟨2, rfl, by decide, by decide⟩
    · exact ⟨2, rfl, by decide, by decide⟩
    · exact ⟨4, rfl, by decide, by decide⟩
  obtain ⟨v, rfl, v0, v1⟩ := mo'
  have AA := A.draw A2 f2
  obtain ⟨h3, e3, G⟩ := words_ok (h := h2) e
  have A3 := AW.grow AA G
  obtain ⟨d, h4, e4, zs, rfl, sz, A4, f4⟩ := (chosen0 (n := m) (ti := dCall 1 F__law_words (dCons (dVar 2) (dNil))) (h := h2) (h1 := h3) (o := v) (ds := ws) (a1 := some (.ref k)) (a2 := some (.str f)) (a4 := x4) A3.dr n1 v0 v1 (by simp [e3])).ex
  have A5 := A3.draw A4 f4
  have sb := sub_of (h := h4) (d := .lst (stL zs)) (to := dVar 1) (ti := dVar 2) (ρ := [some (.ref r), some (.ref k), some (.str f), some (.int v), x4]) (r := k) (key := .inr f) (kd := .str f) rfl rfl rfl A5.ob (sz60' lk)
  refine ⟨zs, some (.int v), _, sz, ?_, A5.put⟩
  have t0 : (dCall 2 F__law_pick (dCons (dVar 0) (dCons (dLst false (dCons (dC (.int 1)) (dCons (dC (.int 2)) (dCons (dC (.int 2)) (dCons (dC (.int 4)) (dNil)))))) (dNil)))) [some (.ref r), some (.ref k), some (.str f), x3, x4] h1 = .ok (.int v) h2 := by
    simp [mkL, e2]
  rw [s_seq, asg_of t0 rfl, sbind_nx]
  simp only [List.set_cons_succ, List.set_cons_zero]
  rw [asg_of e4 sb]
end
section
variable {r w n m k : Nat} {h h1 h' h2 : CH} {kvs kvs' : List (Key × CM.D)}
theorem drawn_book (A : DrawOk r w (n + 20) h) : ∃ (B : Bk) (h1 : CH), F__law_drawn_book [.ref r] h = .ok B.f h1 ∧ B.Wf ∧ DrawOk r w n h1 ∧ h.nx ≤ h1.nx ∧ ∀ j, j < h.nx → j ≠ r → j ≠ w → h1.ob j = h.ob j := by
  show ∃ (B : Bk) (h1 : CH), (u__law_drawn_book [some (.ref r), none, none, none, none] h).res = _ ∧ _
  unfold u__law_drawn_book
  have lt := A.lt
  have A0 : AW r w (n + 20) h.nx [] h (h.new (.dct [])) := ⟨new_at, A.keep (Nat.le_succ _) fun j hj => new_lt (by rcases hj with rfl | rfl <;> omega), Nat.le_refl _, Nat.lt_succ_self _, lt, fun j hj _ _ => new_lt hj⟩
  have d0 : (dAsg (dDNew true) (gdName 1)) [some (.ref r), none, none, none, none] h = .nx [some (.ref r), some (.ref h.nx), none, none, none] (h.new (.dct [])) := by simp [dDNew]
  rw [s_seq, d0, sbind_nx]
  generalize h.new (.dct []) = g0 at A0 ⊢
  generalize hkk : h.nx = k at A0 ⊢
  obtain ⟨a, g1, ha, e1, A1⟩ := field_ok (x3 := none) (x4 := none) (f := Str.ofString "up") (ws := wUP) (m := n + 19) A0 (by kernel_rfl) (by decide) (by decide) (by simp)
  rw [show dPut [] (.inr (Str.ofString "up")) (.str a) = [(.inr (Str.ofString "up"), CM.D.str a)] from by kernel_rfl] at A1
  obtain ⟨b, g2, hb, e2, A2⟩ := field_ok (x3 := none) (x4 := none) (f := Str.ofString "down") (ws := wDOWN) (m := n + 18) A1 (by kernel_rfl) (by decide) (by decide) (by simp)
  rw [show dPut [(.inr (Str.ofString "up"), CM.D.str a)] (.inr (Str.ofString "down")) (.str b) = [(.inr (Str.ofString "up"), CM.D.str a), (.inr (Str.ofString "down"), CM.D.str b)] from by kernel_rfl] at A2
  obtain ⟨c, g3, hc, e3, A3⟩ := field_ok (x3 := none) (x4 := none) (f := Str.ofString "writes") (ws := wWRITES) (m := n + 17) A2 (by kernel_rfl) (by decide) (by decide) (by simp)
  rw [show dPut [(.inr (Str.ofString "up"), CM.D.str a), (.inr (Str.ofString "down"), CM.D.str b)] (.inr (Str.ofString "writes")) (.str c) = [(.inr (Str.ofString "up"), CM.D.str a), (.inr (Str.ofString "down"), CM.D.str b), (.inr (Str.ofString "writes"), CM.D.str c)] from by kernel_rfl] at A3
  obtain ⟨d, g4, hd, e4, A4⟩ := field_ok (x3 := none) (x4 := none) (f := Str.ofString "moves") (ws := wMOVES) (m := n + 16) A3 (by kernel_rfl) (by decide) (by decide) (by simp)
  rw [show dPut [(.inr (Str.ofString "up"), CM.D.str a), (.inr (Str.ofString "down"), CM.D.str b), (.inr (Str.ofString "writes"), CM.D.str c)] (.inr (Str.ofString "moves")) (.str d) = [(.inr (Str.ofString "up"), CM.D.str a), (.inr (Str.ofString "down"), CM.D.str b), (.inr (Str.ofString "writes"), CM.D.str c), (.inr (Str.ofString "moves"), CM.D.str d)] from by kernel_rfl] at A4
  obtain ⟨e, g5, he, e5, A5⟩ := field_ok (x3 := none) (x4 := none) (f := Str.ofString "finish") (ws := wFINISH) (m := n + 15) A4 (by kernel_rfl) (by decide) (by decide) (by simp)
  rw [show dPut [(.inr (Str.ofString "up"), CM.D.str a), (.inr (Str.ofString "down"), CM.D.str b), (.inr (Str.ofString "writes"), CM.D.str c), (.inr (Str.ofString "moves"), CM.D.str d)] (.inr (Str.ofString "finish")) (.str e) = [(.inr (Str.ofString "up"), CM.D.str a), (.inr (Str.ofString "down"), CM.D.str b), (.inr (Str.ofString "writes"), CM.D.str c), (.inr (Str.ofString "moves"), CM.D.str d), (.inr (Str.ofString "finish"), CM.D.str e)] from by kernel_rfl] at A5
  obtain ⟨f, g6, hf, e6, A6⟩ := field_ok (x3 := none) (x4 := none) (f := Str.ofString "counts") (ws := wCOUNTS) (m := n + 14) A5 (by kernel_rfl) (by decide) (by decide) (by simp)
  rw [show dPut [(.inr (Str.ofString "up"), CM.D.str a), (.inr (Str.ofString "down"), CM.D.str b), (.inr (Str.ofString "writes"), CM.D.str c), (.inr (Str.ofString "moves"), CM.D.str d), (.inr (Str.ofString "finish"), CM.D.str e)] (.inr (Str.ofString "counts")) (.str f) = [(.inr (Str.ofString "up"), CM.D.str a), (.inr (Str.ofString "down"), CM.D.str b), (.inr (Str.ofString "writes"), CM.D.str c), (.inr (Str.ofString "moves"), CM.D.str d), (.inr (Str.ofString "finish"), CM.D.str e), (.inr (Str.ofString "counts"), CM.D.str f)] from by kernel_rfl] at A6
  have q1 : (dFor (dSeqI (dLst false (dCons (dC (.str (Str.ofString "up"))) (dCons (dC (.str (Str.ofString "down"))) (dCons (dC (.str (Str.ofString "writes"))) (dCons (dC (.str (Str.ofString "moves"))) (dCons (dC (.str (Str.ofString "finish"))) (dCons (dC (.str (Str.ofString "counts"))) (dNil))))))))) (gdName 2) (dAsg (dCall 2 F__law_pick (dCons (dVar 0) (dCons (dCall 1 F__law_words (dCons (dVar 2) (dNil))) (dNil)))) (gdSub (dVar 1) (dVar 2)))) [some (.ref r), some (.ref k), none, none, none] g0 = .nx [some (.ref r), some (.ref k), some (.str (Str.ofString "counts")), none, none] g6 := by
    have it : dSeqI (dLst false (dCons (dC (.str (Str.ofString "up"))) (dCons (dC (.str (Str.ofString "down"))) (dCons (dC (.str (Str.ofString "writes"))) (dCons (dC (.str (Str.ofString "moves"))) (dCons (dC (.str (Str.ofString "finish"))) (dCons (dC (.str (Str.ofString "counts"))) (dNil)))))))) [some (.ref r), some (.ref k), none, none, none] g0 = .ok ([.str (Str.ofString "up"), .str (Str.ofString "down"), .str (Str.ofString "writes"), .str (Str.ofString "moves"), .str (Str.ofString "finish"), .str (Str.ofString "counts")], none) g0 := by
      simp [mkL, itemsD]
    rw [s_for, it, toS_ok]
    simp only
    rw [forL1 (h1 := g0) rfl e1, forL1 (h1 := g1) rfl e2, forL1 (h1 := g2) rfl e3, forL1 (h1 := g3) rfl e4, forL1 (h1 := g4) rfl e5, forL1 (h1 := g5) rfl e6]
    rfl
  rw [s_seq, q1, sbind_nx]
  obtain ⟨bs, y3, g7, sb, e7, A7⟩ := fields_ok (x3 := none) (x4 := none) (f := Str.ofString "bars") (ws := wBARS) (m := n + 4) (h1 := g6) ⟨A6.ob, A6.dr.mono (by show n + 4 + 1 + 5 ≤ n + 14; omega), A6.le, A6.lt, A6.rw_, A6.fr⟩ (by kernel_rfl) (by decide) (by simp)
  rw [show dPut [(.inr (Str.ofString "up"), CM.D.str a), (.inr (Str.ofString "down"), CM.D.str b), (.inr (Str.ofString "writes"), CM.D.str c), (.inr (Str.ofString "moves"), CM.D.str d), (.inr (Str.ofString "finish"), CM.D.str e), (.inr (Str.ofString "counts"), CM.D.str f)] (.inr (Str.ofString "bars")) (.lst (stL bs)) = w7Y (.str a) (.str b) (.str c) (.str d) (.str e) (.str f) (.lst (stL bs)) from by kernel_rfl] at A7
  obtain ⟨ns, z3, g8, sn, e8, A8⟩ := fields_ok (x3 := y3) (x4 := none) (f := Str.ofString "notes") (ws := wNOTES) (m := n) (h1 := g7) ⟨A7.ob, A7.dr.mono (by show n + 1 + 3 ≤ n + 4; omega), A7.le, A7.lt, A7.rw_, A7.fr⟩ (by kernel_rfl) (by decide) (by simp)
  rw [show dPut (w7Y (.str a) (.str b) (.str c) (.str d) (.str e) (.str f) (.lst (stL bs))) (.inr (Str.ofString "notes")) (.lst (stL ns)) = fK (mkB a b c d e f bs ns) from by kernel_rfl] at A8
  have q2 : (dFor (dSeqI (dLst false (dCons (dC (.str (Str.ofString "bars"))) (dCons (dC (.str (Str.ofString "notes"))) (dNil))))) (gdName 2) (dSeq (dAsg (dCall 2 F__law_pick (dCons (dVar 0) (dCons (dLst false (dCons (dC (.int 1)) (dCons (dC (.int 2)) (dCons (dC (.int 2)) (dCons (dC (.int 4)) (dNil)))))) (dNil)))) (gdName 3)) (dAsg (dLc false (dSeqI (dCall 1 F__law_words (dCons (dVar 2) (dNil)))) (gdName 4) (dB (dOp (fEq false) (dCall 2 F__law_take (dCons (dVar 0) (dCons (dVar 3) (dNil)))) (dC (.int 0)))) (dVar 4) [4]) (gdSub (dVar 1) (dVar 2))))) [some (.ref r), some (.ref k), some (.str (Str.ofString "counts")), none, none] g6 = .nx [some (.ref r), some (.ref k), some (.str (Str.ofString "notes")), z3, none] g8 := by
    have it : dSeqI (dLst false (dCons (dC (.str (Str.ofString "bars"))) (dCons (dC (.str (Str.ofString "notes"))) (dNil)))) [some (.ref r), some (.ref k), some (.str (Str.ofString "counts")), none, none] g6 = .ok ([.str (Str.ofString "bars"), .str (Str.ofString "notes")], none) g6 := by
      simp [mkL, itemsD]
    rw [s_for, it, toS_ok]
    simp only
    rw [forL1 (h1 := g6) rfl e7, forL1 (h1 := g7) rfl e8]
    rfl
  rw [s_seq, q2, sbind_nx]
  obtain ⟨f1, f2, f3, f4⟩ := A8.free
  refine ⟨mkB a b c d e f bs ns, _, ?_, ⟨⟨ha, hb, hc, hd, he, hf, ?_, ?_, ?_, ?_⟩, sb, sn⟩, f2, by rw [← hkk]; exact f3, fun j hj => f4 j (by rw [hkk]; exact hj)⟩
  · have : fzI (.ref k) g8 = .ok (mkB a b c d e f bs ns).f (g8.del k) := f1
    simp [this]
  · exact (by decide +kernel : wBARS.Nodup).sublist sb
  · exact fun x hx => sb.subset hx
  · exact (by decide +kernel : wNOTES.Nodup).sublist sn
  · exact fun x hx => sn.subset hx
end
end W_whilemerged_k75_texts_of_books
namespace W_whilemerged_k75_texts_of_books
open PySem PySem.Spec PyProof.Rows L2 CM
open TL (tl joinL numL spl pre)
/-- a row of words -/
def rowW (ws : List Str) : Str := Txt.join " " ws
def fldsB (B : Bk) : List (List Str) := [[Str.ofString "up", B.up], [Str.ofString "down", B.down], [Str.ofString "writes", B.writes], [Str.ofString "moves", B.moves], [Str.ofString "finish", B.finish], [Str.ofString "counts", B.counts], Str.ofString "bars" :: B.bars, Str.ofString "notes" :: B.notes]
def pageB (B : Bk) : Str := Txt.join "" ((fldsB B).map fun ws => rowW ws ++ "\n")
section
variable {h : CH} {B : Bk} {a b x : Str} {ws : List Str} {ρ : DE}
theorem row2 : rowW [a, b] = a ++ " " ++ b := by
  refine TL.ext_tl ?_
  unfold rowW
  rw [TL.join_eq, TL.tl_join, TL.tl_append, TL.tl_append]
  show tl a ++ (tl " " ++ tl b) = _
  rw [List.append_assoc]
/-- the words of books -/
structure Wo (x : Str) : Prop where
  s : Sg x
  b : 32 ∉ tl x
  n : 10 ∉ tl x
  l : x.length ≤ 7
def woB (x : Str) : Bool := ((tl x).all fun c => decide (c < 128)) && (!(tl x).contains 32 && (!(tl x).contains 10 && decide (x.length ≤ 7)))
theorem wo_of (h : woB x = true) : Wo x := by
  unfold woB at h
  rw [Bool.and_eq_true, Bool.and_eq_true, Bool.and_eq_true, List.all_eq_true, decide_eq_true_eq] at h
  exact ⟨⟨fun c hc => of_decide_eq_true (h.1 c hc)⟩, by simpa using h.2.1, by simpa using h.2.2.1, h.2.2.2⟩
theorem wo_all {l : List Str} (e : l.all woB = true) {x : Str} (m : x ∈ l) : Wo x := wo_of (List.all_eq_true.mp e x m)
theorem fld_wo (W : B.Wf) : ∀ ws ∈ fldsB B, (∀ x ∈ ws, Wo x) ∧ ws ≠ [] ∧ ws.length ≤ 6 := fun ws m => by
  have two : ∀ (f w : Str) (l : List Str), Wo f → w ∈ l → l.all woB = true → (∀ x ∈ [f, w], Wo x) ∧ [f, w] ≠ [] ∧ [f, w].length ≤ 6 := fun f w l hf hw e => ⟨fun x hx => by
    simp only [List.mem_cons, List.not_mem_nil, or_false] at hx
    rcases hx with rfl | rfl
    · exact hf
    · exact wo_all e hw, by simp, by simp⟩
  have many : ∀ (f : Str) (ws l : List Str), Wo f → (∀ x ∈ ws, x ∈ l) → l.all woB = true → ws.length ≤ 5 → (∀ x ∈ f :: ws, Wo x) ∧ f :: ws ≠ [] ∧ (f :: ws).length ≤ 6 := fun f ws l hf hw e ln => ⟨fun x hx => by
    rcases List.mem_cons.mp hx with rfl | hx
    · exact hf
    · exact wo_all e (hw x hx), by simp, by simp; omega⟩
  have lb : B.bars.length ≤ 5 := W.sb.length_le
  have ln : B.notes.length ≤ 3 := W.sn.length_le
  simp only [fldsB, List.mem_cons, List.not_mem_nil, or_false] at m
  rcases m with rfl | rfl | rfl | rfl | rfl | rfl | rfl | rfl
  · exact two _ _ wUP (wo_of (by decide +kernel)) W.wd.a (by decide +kernel)
  · exact two _ _ wDOWN (wo_of (by decide +kernel)) W.wd.b (by decide +kernel)
  · exact two _ _ wWRITES (wo_of (by decide +kernel)) W.wd.c (by decide +kernel)
  · exact two _ _ wMOVES (wo_of (by decide +kernel)) W.wd.d (by decide +kernel)
  · exact two _ _ wFINISH (wo_of (by decide +kernel)) W.wd.e (by decide +kernel)
  · exact two _ _ wCOUNTS (wo_of (by decide +kernel)) W.wd.f (by decide +kernel)
  · exact many _ _ wBARS (wo_of (by decide +kernel)) W.wd.bm (by decide +kernel) lb
  · exact many _ _ wNOTES (wo_of (by decide +kernel)) W.wd.nm (by decide +kernel) (by omega)
theorem sum_bd {k : Nat} : ∀ l : List Str, (∀ x ∈ l, x.length ≤ k) → (l.map (·.length)).sum ≤ l.length * k
  | [], _ => Nat.zero_le _
  | x :: l, H => by
    have := sum_bd l fun y hy => H y (List.mem_cons_of_mem _ hy)
    have := H x (List.mem_cons_self ..)
    simp only [List.map_cons, List.sum_cons, List.length_cons, Nat.add_mul]
    omega
theorem row_nice (H : ∀ x ∈ ws, Wo x) (ne : ws ≠ []) (l6 : ws.length ≤ 6) : Sg (rowW ws) ∧ 10 ∉ tl (rowW ws) ∧ bl (tl (rowW ws)) ≤ 5 ∧ (rowW ws).length ≤ 47 := by
  refine ⟨Sg.join (by rw [tl_sp]; simp) fun y hy => (H y hy).s, ?_, ?_, ?_⟩
  · unfold rowW
    rw [TL.join_eq, TL.tl_join, tl_sp]
    have jm : ∀ ps : List (List Nat), (∀ p ∈ ps, 10 ∉ p) → 10 ∉ joinL [32] ps := fun ps => by
      induction ps with
      | nil => intro _; simp [joinL]
      | cons p l ih =>
        intro K
        cases l with
        | nil => exact K p (List.mem_cons_self ..)
        | cons q l =>
          have := ih fun x hx => K x (List.mem_cons_of_mem _ hx)
          show 10 ∉ p ++ ([32] ++ joinL [32] (q :: l))
          rw [List.mem_append, List.mem_append]
          rintro (z | z | z)
          · exact K p (List.mem_cons_self ..) z
          · simp at z
          · exact this z
    refine jm _ fun p hp => ?_
    obtain ⟨y, hy, rfl⟩ := List.mem_map.mp hp
    exact (H y hy).n
  · unfold rowW
    rw [words_bl ne]
    have z : ∀ l : List Str, (∀ y ∈ l, 32 ∉ tl y) → (l.map fun x => bl (tl x)).sum = 0 := fun l => by
      induction l with
      | nil => intro _; rfl
      | cons a l ih =>
        intro K
        rw [List.map_cons, List.sum_cons, ih fun y hy => K y (List.mem_cons_of_mem _ hy), words_cnt (K a (List.mem_cons_self ..))]
    rw [z ws fun y hy => (H y hy).b]
    omega
  · have a := join_len (sep := " ") tl_sp ws
    have b : sm ws ≤ ws.length * 7 := sum_bd ws fun x hx => (H x hx).l
    unfold rowW
    omega
theorem tl_pageB : tl (pageB B) = joinL [10] ((fldsB B).map (fun ws => tl (rowW ws)) ++ [[]]) := by
  unfold pageB
  rw [TL.join_eq, TL.tl_join, tl_em, List.map_map, ← joinL_nl, List.map_map]
  congr 1
  refine List.map_congr_left fun ws _ => ?_
  show tl (rowW ws ++ "\n") = tl (rowW ws) ++ [10]
  rw [TL.tl_append, tl_nl]
theorem pageB_join : pageB B = Txt.join "\n" ((fldsB B).map rowW ++ [("" : Str)]) := by
  refine TL.ext_tl ?_
  rw [tl_pageB, TL.join_eq, TL.tl_join, tl_nl, List.map_append, List.map_map]
  rfl
theorem pageB_nice (W : B.Wf) : Nice 5 (pageB B) ∧ (pageB B).length ≤ 488 := by
  have R : ∀ ws ∈ fldsB B, Sg (rowW ws) ∧ 10 ∉ tl (rowW ws) ∧ bl (tl (rowW ws)) ≤ 5 ∧ (rowW ws).length ≤ 47 := fun ws m => row_nice (fld_wo W ws m).1 (fld_wo W ws m).2.1 (fld_wo W ws m).2.2
  have E : Sg ("" : Str) := ⟨by decide +kernel⟩
  refine ⟨?_, ?_⟩
  · rw [pageB_join]
    refine Nice.join fun y hy => ?_
    rcases List.mem_append.mp hy with hy | hy
    · obtain ⟨ws, hw, rfl⟩ := List.mem_map.mp hy
      obtain ⟨s1, s2, s3, _⟩ := R ws hw
      exact ⟨s1, LB.row s2 s3⟩
    · rw [List.mem_singleton] at hy
      rw [hy]
      exact ⟨E, LB.row (by rw [tl_em]; simp) (by rw [tl_em]; exact Nat.zero_le _)⟩
  · rw [pageB_join]
    have a := join_len (sep := "\n") tl_nl ((fldsB B).map rowW ++ [("" : Str)])
    have b : sm ((fldsB B).map rowW) ≤ ((fldsB B).map rowW).length * 47 := sum_bd _ fun x hx => by
      obtain ⟨ws, hw, rfl⟩ := List.mem_map.mp hx
      exact (R ws hw).2.2.2
    rw [sm_app, sm_cons, sm_nil] at a
    have c : ("" : Str).length = 0 := rfl
    have d : (fldsB B).length = 8 := rfl
    simp only [List.length_append, List.length_map, List.length_cons, List.length_nil, d] at a b
    omega
/-- pieces of rows put together -/
theorem rows_join {l : List Str} (H : ∀ x ∈ l, x.length ≤ 100) (n : l.length ≤ 100) : fJoin (.str (Str.ofString "")) [.lst (l.map CM.D.str)] h = .ok (.str (Txt.join "" l)) h := by
  refine join_fit ?_
  have := sum_bd l H
  have c : ("" : Str).length = 0 := rfl
  show (l.map (·.length)).sum + l.length * (Str.ofString "").length ≤ 16777216
  have d : (Str.ofString "").length = 0 := rfl
  rw [d]
  omega
theorem ixB {f : Str} {d : CM.D} (e : dGet (fK B) (.inr f) = some d) : fIx B.f (.str f) h = .ok d h := by
  show (match seqOf h B.f, CM.D.str f with
    | some ds, .int i => (match atI ds i with
      | some v => CM.R.ok v h
      | none => .no)
    | _, _ => match dctOf h B.f, keyD (CM.D.str f) with
      | some kvs, some k => (match dGet kvs k with
        | some v => CM.R.ok v h
        | none => .no)
      | _, _ => .no) = _
  show (match dGet (fK B) (.inr f) with
        | some v => CM.R.ok v h
        | none => .no) = _
  rw [e]
def word6 (B : Bk) (f : Str) : Str := if f = Str.ofString "up" then B.up else if f = Str.ofString "down" then B.down else if f = Str.ofString "writes" then B.writes else if f = Str.ofString "moves" then B.moves else if f = Str.ofString "finish" then B.finish else B.counts
theorem law_page_ok (W : B.Wf) : F__law_page [B.f] h = .ok (.str (pageB B)) h := by
  show (u__law_page [some B.f, none, none, none] h).res = _
  have R : ∀ ws ∈ fldsB B, (∀ x ∈ ws, Wo x) ∧ ws ≠ [] ∧ ws.length ≤ 6 := fld_wo W
  have lb : B.bars.length ≤ 5 := W.sb.length_le
  have ln : B.notes.length ≤ 3 := W.sn.length_le
  have c1 : dLc false (dSeqI (dLst false (dCons (dC (.str "up")) (dCons (dC (.str "down")) (dCons (dC (.str "writes")) (dCons (dC (.str "moves")) (dCons (dC (.str "finish")) (dCons (dC (.str "counts")) (dNil))))))))) (gdName 2) (dYes) (dOp (fAdd false) (dOp (fAdd false) (dVar 2) (dC (.str " "))) (dOp fIx (dVar 0) (dVar 2))) [2] [some B.f, none, none, none] h = .ok (.lst ((([Str.ofString "up", Str.ofString "down", Str.ofString "writes", Str.ofString "moves", Str.ofString "finish", Str.ofString "counts"].filter fun _ => true).map fun f => CM.D.str (f ++ " " ++ word6 B f)))) h := by
    refine lc_seq (enc := CM.D.str) (fun _ => true) (fun f => CM.D.str (f ++ " " ++ word6 B f)) (by kernel_rfl) (by decide) fun f hf => ⟨_, rfl, rfl, fun _ => ?_⟩
    have key : ∀ (f w : Str), dGet (fK B) (.inr f) = some (.str w) → Wo f → Wo w → (dOp (fAdd false) (dOp (fAdd false) (dVar 2) (dC (.str " "))) (dOp fIx (dVar 0) (dVar 2))) [some B.f, none, some (.str f), none] h = .ok (.str (f ++ " " ++ w)) h := fun f w e hf hw => by
      have ix := ixB (h := h) e
      have l1 := hf.l
      have l2 := hw.l
      have ls : (Str.ofString " ").length = 1 := rfl
      rw [e_op, e_op]
      simp only [e_var, List.getElem?_cons_succ, List.getElem?_cons_zero, bind_ok, e_C]
      rw [add_ss (by rw [ls]; omega)]
      simp only [bind_ok, e_op, e_var, List.getElem?_cons_succ, List.getElem?_cons_zero, ix]
      rw [add_ss (by rw [len_app, ls]; omega)]
    simp only [List.mem_cons, List.not_mem_nil, or_false] at hf
    rcases hf with rfl | rfl | rfl | rfl | rfl | rfl
    · exact key _ B.up (by kernel_rfl) (wo_of (by decide +kernel)) (wo_all (l := wUP) (by decide +kernel) W.wd.a)
    · exact key _ B.down (by kernel_rfl) (wo_of (by decide +kernel)) (wo_all (l := wDOWN) (by decide +kernel) W.wd.b)
    · exact key _ B.writes (by kernel_rfl) (wo_of (by decide +kernel)) (wo_all (l := wWRITES) (by decide +kernel) W.wd.c)
    · exact key _ B.moves (by kernel_rfl) (wo_of (by decide +kernel)) (wo_all (l := wMOVES) (by decide +kernel) W.wd.d)
    · exact key _ B.finish (by kernel_rfl) (wo_of (by decide +kernel)) (wo_all (l := wFINISH) (by decide +kernel) W.wd.e)
    · exact key _ B.counts (by kernel_rfl) (wo_of (by decide +kernel)) (wo_all (l := wCOUNTS) (by decide +kernel) W.wd.f)
  have w6 : ((([Str.ofString "up", Str.ofString "down", Str.ofString "writes", Str.ofString "moves", Str.ofString "finish", Str.ofString "counts"].filter fun _ => true).map fun f => CM.D.str (f ++ " " ++ word6 B f))) = (((fldsB B).take 6).map rowW).map CM.D.str := by
    rw [List.filter_eq_self.mpr fun _ _ => rfl]
    simp only [fldsB, List.take, List.map_cons, List.map_nil, row2]
    rfl
  rw [w6] at c1
  have c2 : ∀ x1 : Option CM.D, dLc false (dSeqI (dLst false (dCons (dC (.str "bars")) (dCons (dC (.str "notes")) (dNil))))) (gdName 2) (dYes) (dM1 fJoin (dC (.str " ")) (dOp (fAdd false) (dLst false (dCons (dVar 2) (dNil))) (dOp fIx (dVar 0) (dVar 2)))) [2] [some B.f, x1, none, none] h = .ok (.lst ((([Str.ofString "bars", Str.ofString "notes"].filter fun _ => true).map fun f => CM.D.str (rowW (f :: (if f = Str.ofString "bars" then B.bars else B.notes)))))) h := fun x1 => by
    refine lc_seq (enc := CM.D.str) (fun _ => true) (fun f => CM.D.str (rowW (f :: (if f = Str.ofString "bars" then B.bars else B.notes)))) (by kernel_rfl) (by decide) fun f hf => ⟨_, rfl, rfl, fun _ => ?_⟩
    have key : ∀ (f : Str) (l : List Str), dGet (fK B) (.inr f) = some (.lst (stL l)) → f.length ≤ 7 → (∀ x ∈ l, x.length ≤ 7) → l.length ≤ 5 → (dM1 fJoin (dC (.str " ")) (dOp (fAdd false) (dLst false (dCons (dVar 2) (dNil))) (dOp fIx (dVar 0) (dVar 2)))) [some B.f, x1, some (.str f), none] h = .ok (.str (rowW (f :: l))) h := fun f l e hf hl n => by
      have ix := ixB (h := h) e
      have ad : fAdd false (.lst [.str f]) (.lst (stL l)) h = .ok (.lst ((f :: l).map CM.D.str)) h := by
        show (if [CM.D.str f].length + (stL l).length ≤ sizeLine then mkL false ([CM.D.str f] ++ stL l) h else .no) = _
        rw [if_pos (sz60 (by rw [List.length_map]; simp; omega))]
        rfl
      have jf : fJoin (.str (Str.ofString " ")) [.lst ((f :: l).map CM.D.str)] h = .ok (.str (rowW (f :: l))) h := by
        refine join_fit ?_
        have := sum_bd (k := 7) (f :: l) fun x hx => by
          rcases List.mem_cons.mp hx with rfl | hx
          · exact hf
          · exact hl x hx
        have d : (Str.ofString " ").length = 1 := rfl
        rw [d]
        simp only [List.length_cons] at this ⊢
        omega
      have l1 : dLst false (dCons (dVar 2) (dNil)) [some B.f, x1, some (.str f), none] h = .ok (.lst [.str f]) h := rfl
      rw [e_m1, e_C, bind_ok]
      simp only [e_op, l1, e_var, List.getElem?_cons_succ, List.getElem?_cons_zero, bind_ok, ix, ad, jf]
    simp only [List.mem_cons, List.not_mem_nil, or_false] at hf
    rcases hf with rfl | rfl
    · exact key _ B.bars (by kernel_rfl) (by decide +kernel) (fun x hx => (wo_all (l := wBARS) (by decide +kernel) (W.wd.bm x hx)).l) lb
    · exact key _ B.notes (by kernel_rfl) (by decide +kernel) (fun x hx => (wo_all (l := wNOTES) (by decide +kernel) (W.wd.nm x hx)).l) (by omega)
  have w2 : ((([Str.ofString "bars", Str.ofString "notes"].filter fun _ => true).map fun f => CM.D.str (rowW (f :: (if f = Str.ofString "bars" then B.bars else B.notes))))) = (((fldsB B).drop 6).map rowW).map CM.D.str := by
    rw [List.filter_eq_self.mpr fun _ _ => rfl]
    rfl
  have c2' := fun x1 => c2 x1
  simp only [w2] at c2'
  have ad : fAdd false (.lst ((((fldsB B).take 6).map rowW).map CM.D.str)) (.lst ((((fldsB B).drop 6).map rowW).map CM.D.str)) h = .ok (.lst (((fldsB B).map rowW).map CM.D.str)) h := by
    show (if ((((fldsB B).take 6).map rowW).map CM.D.str).length + ((((fldsB B).drop 6).map rowW).map CM.D.str).length ≤ sizeLine then mkL false ((((fldsB B).take 6).map rowW).map CM.D.str ++ (((fldsB B).drop 6).map rowW).map CM.D.str) h else .no) = _
    rw [if_pos (by show 6 + 2 ≤ sizeLine; decide), ← List.map_append, ← List.map_append, List.take_append_drop]
    rfl
  have rl : ∀ x ∈ (fldsB B).map rowW, x.length ≤ 47 := fun x hx => by
    obtain ⟨ws, hw, rfl⟩ := List.mem_map.mp hx
    exact (row_nice (R ws hw).1 (R ws hw).2.1 (R ws hw).2.2).2.2.2
  have c3 : dLc false (dSeqI (dVar 1)) (gdName 3) (dYes) (dOp (fAdd false) (dVar 3) (dC (.str "\n"))) [3] [some B.f, some (.lst (((fldsB B).map rowW).map CM.D.str)), none, none] h = .ok (.lst (((fldsB B).map fun ws => rowW ws ++ "\n").map CM.D.str)) h := by
    rw [lc_seq (enc := CM.D.str) (xs := (fldsB B).map rowW) (fun _ => true) (fun x => CM.D.str (x ++ "\n")) rfl (by show 8 ≤ sizeLine; decide) fun x hx => ⟨_, rfl, rfl, fun _ => ?_⟩]
    · rw [List.filter_eq_self.mpr fun _ _ => rfl, List.map_map, List.map_map]
      rfl
    · have l := rl x hx
      have d : (Str.ofString "\n").length = 1 := rfl
      show (dOp (fAdd false) (dVar 3) (dC (.str "\n"))) [some B.f, some (.lst (((fldsB B).map rowW).map CM.D.str)), none, some (.str x)] h = _
      rw [e_op]
      simp only [e_var, List.getElem?_cons_succ, List.getElem?_cons_zero, bind_ok, e_C]
      rw [add_ss (by rw [d]; omega)]
  have j : fJoin (.str (Str.ofString "")) [.lst (((fldsB B).map fun ws => rowW ws ++ "\n").map CM.D.str)] h = .ok (.str (pageB B)) h := rows_join (fun x hx => by
    obtain ⟨ws, hw, rfl⟩ := List.mem_map.mp hx
    have := rl (rowW ws) (List.mem_map_of_mem hw)
    have d : ("\n" : Str).length = 1 := rfl
    rw [len_app, d]
    omega) (by show 8 ≤ 100; decide)
  unfold u__law_page
  rw [s_seq, s_asg, c1, toS_ok, g_name, put_ok, sbind_nx, s_seq, s_asg, e_op]
  simp only [List.set_cons_succ, List.set_cons_zero, e_var, List.getElem?_cons_succ, List.getElem?_cons_zero, bind_ok, c2', ad, toS_ok, g_name, put_ok, sbind_nx]
  rw [s_ret, e_m1, e_C, bind_ok]
  simp only [c3, bind_ok, j, toS_ok, res_rt]
end
end W_whilemerged_k75_texts_of_books
namespace W_whilemerged_k75_texts_of_books
open PySem PySem.Spec PyProof.Rows L2 CM
open TL (tl joinL numL spl pre)
def nameW : Nat → Str
  | 0 => Str.ofString "up"
  | 1 => Str.ofString "down"
  | 2 => Str.ofString "writes"
  | 3 => Str.ofString "moves"
  | 4 => Str.ofString "finish"
  | 5 => Str.ofString "counts"
  | 6 => Str.ofString "bars"
  | _ => Str.ofString "notes"
def knownW : Nat → List Str
  | 0 => wUP
  | 1 => wDOWN
  | 2 => wWRITES
  | 3 => wMOVES
  | 4 => wFINISH
  | 5 => wCOUNTS
  | 6 => wBARS
  | _ => wNOTES
def inW (k : Nat) (ws : List Str) : List Str := (knownW k).filter fun w => ws.contains w
/-- the words behind the name of field k are in order -/
def okWs (k : Nat) (ws : List Str) : Bool := if k < 6 then (match ws with
  | [w] => (knownW k).contains w
  | _ => false) else decide (ws = inW k ws)
def okRow (k : Nat) (w0 : Str) (ws : List Str) : Bool := (w0 == nameW k) && okWs k ws
def okAt (k : Nat) (row : Str) : Bool := match Txt.split row " " with
  | [] => false
  | w0 :: ws => decide (k < 8) && okRow k w0 ws
def tailW (row : Str) : List Str := (Txt.split row " ").tail
def rowV (k : Nat) (row : Str) : CM.D := if okAt k row = true then .lst (stL (tailW row)) else .non
section
variable {h : CH} {row w0 w : Str} {ws a b : List Str} {k : Nat} {ρ : DE} {neg : Bool}
theorem eqvAll_strs : ∀ a b : List Str, PyData.eqvAll (a.map PyData.str) (b.map PyData.str) = decide (a = b)
  | [], [] => rfl
  | [], _ :: _ => rfl
  | _ :: _, [] => rfl
  | x :: a, y :: b => by
    have e : PyData.eqv (.str x) (.str y) = decide (x = y) := by
      by_cases q : x = y
      · subst q; simp [PyData.eqv]
      · rw [decide_eq_false q]
        simp only [PyData.eqv]
        simpa using q
    simp only [List.map_cons, PyData.eqvAll, e, eqvAll_strs a b]
    by_cases q : x = y
    · subst q; simp
    · simp [q]
theorem eq_lst (oa : Layd a) (ob : Layd b) : fEq neg (.lst (stL a)) (.lst (stL b)) h = .ok (.bl (bneg neg (decide (a = b)))) h := by
  have e1 : ∀ c : List Str, toP h 10 (.lst (stL c)) = some (.list (c.map PyData.str)) := fun c => by
    show ((c.map CM.D.str).mapM (toP h 9)).map PyData.list = _
    rw [toP_strs (h := h) (k := 8) c]
    rfl
  have e5 : scalD (.lst (stL a)) (.lst (stL b)) = false := rfl
  unfold fEq
  rw [e5, e1, e1]
  simp [shaped_strs a oa, shaped_strs b ob, PyData.eqv, eqvAll_strs]
theorem lay_sg (H : ∀ x ∈ ws, Sg x) : Layd ws := fun x m => by
  unfold PyData.strOk
  rw [Array.all_toList.symm, List.all_eq_true]
  intro c hc
  have := (H x m).c c hc
  simp
  omega
theorem strs_mem (e : Txt.split row " " = w0 :: ws) (s : Sg row) : ∀ x ∈ w0 :: ws, Sg x := fun x m => s.split tl_sp sp_k (by rw [e]; exact m)
theorem known_nd (h6 : 6 ≤ k) : (knownW k).Nodup ∧ (knownW k).Pairwise fun a b => ltS b a = false := by
  obtain ⟨j, rfl⟩ : ∃ j, k = j + 6 := ⟨k - 6, by omega⟩
  cases j with
  | zero => exact ⟨by decide +kernel, bars_srt⟩
  | succ j => exact ⟨by show wNOTES.Nodup; decide +kernel, notes_srt⟩
theorem in_order (h6 : 6 ≤ k) (H : ∀ x ∈ ws, x ∈ knownW k) : sortS (ded ws) = inW k ws := by
  have K := known_nd h6
  have p : (ded ws).Perm (inW k ws) := (List.perm_ext_iff_of_nodup (dedT_nodup ws) (K.1.filter _)).mpr fun x => by
    show x ∈ ded ws ↔ x ∈ (knownW k).filter fun w => ws.contains w
    rw [mem_ded, List.mem_filter]
    constructor
    · intro m
      exact ⟨H x m, by simpa using m⟩
    · rintro ⟨_, m⟩
      simpa using m
  rw [sortS_same p]
  exact srt_sub List.filter_sublist K.2
theorem okWs_of (h6 : 6 ≤ k) : okWs k ws = ((ws.all fun x => (knownW k).contains x) && decide (ws = sortS (ded ws))) := by
  unfold okWs
  rw [if_neg (by omega)]
  by_cases q : (ws.all fun x => (knownW k).contains x) = true
  · rw [q, Bool.true_and, in_order h6 fun x m => by simpa using List.all_eq_true.mp q x m]
  · rw [Bool.not_eq_true] at q
    rw [q, Bool.false_and]
    refine decide_eq_false fun e => ?_
    have : (ws.all fun x => (knownW k).contains x) = true := List.all_eq_true.mpr fun x m => by
      rw [e] at m
      have := (List.mem_filter.mp m).1
      simpa using this
    rw [q] at this
    cases this
abbrev cst6 : CM.D := .tup [.tup [.str "up", .tup [.str "one", .str "late", .str "blind"]], .tup [.str "down", .tup [.str "one", .str "two"]], .tup [.str "writes", .tup [.str "plain", .str "both", .str "again", .str "behind", .str "refused"]], .tup [.str "moves", .tup [.str "now", .str "first"]], .tup [.str "finish", .tup [.str "one", .str "link", .str "cut"]], .tup [.str "counts", .tup [.str "last", .str "first", .str "never"]]]
abbrev cst2 : CM.D := .tup [.tup [.str "bars", .tup [.str "cover", .str "lower", .str "open", .str "others", .str "upper"]], .tup [.str "notes", .tup [.str "again", .str "job", .str "place"]]]
theorem ix_6 (hk : k < 6) : fIx cst6 (.int (k : Int)) h = .ok (.tup [.str (nameW k), .tup (stL (knownW k))]) h := by
  rcases k with _ | _ | _ | _ | _ | _ | k
  all_goals first | rfl | (exfalso; omega)
theorem ix_2 (h6 : 6 ≤ k) (hk : k < 8) : fIx cst2 (.int ((k : Int) - 6)) h = .ok (.tup [.str (nameW k), .tup (stL (knownW k))]) h := by
  have : k = 6 ∨ k = 7 := by omega
  rcases this with rfl | rfl
  · rfl
  · rfl
theorem sl_l {t : TD} {x : CM.D} {r : List CM.D} (e : t ρ h = .ok (.lst (x :: r)) h) : dSl false t (dPart (dC (.int 1))) (dNoPart) ρ h = .ok (.lst r) h := by
  have c : CM.cutD (x :: r) (some 1) none = r := by
    rw [cut_hi (by decide) (by simp; omega)]
    rfl
  unfold dSl
  rw [e]
  show CM.R.ok (CM.D.lst (CM.cutD (x :: r) (some 1) none)) h = _
  rw [c]
theorem ix0l {x : CM.D} {r : List CM.D} : fIx (.lst (x :: r)) (.int 0) h = .ok x h := by simp [fIx, seqOf, atI0]
theorem ix1l {x y : CM.D} {r : List CM.D} : fIx (.lst (x :: y :: r)) (.int 1) h = .ok y h := by
  show (match atI (x :: y :: r) 1 with | some v => CM.R.ok v h | none => .no) = _
  rw [atI_ge (by decide) (by simp; omega)]
  rfl
theorem two_len {w0 : Str} : ((((w0 :: ws).map CM.D.str).length : Int) == 2) = decide (ws.length = 1) := by
  rw [List.length_map, List.length_cons]
  by_cases q : ws.length = 1
  · rw [q]; rfl
  · rw [decide_eq_false q]
    refine beq_eq_false_iff_ne.mpr fun e => q ?_
    omega
theorem line_words_ok (hk : k < 8) (s : Sg row) (l : row.length ≤ 100000) (b : bl (tl row) ≤ 60) : F_line_words [.str row, .int (k : Int)] h = .ok (rowV k row) h := by
  show (u_line_words [some (.str row), some (.int (k : Int)), none, none, none, none] h).res = _
  have rw_ := row_words (row := row)
  unfold rowV okAt tailW
  cases e : Txt.split row " " with
  | nil => exact absurd e (split_ne tl_sp sp_k)
  | cons w0 ws =>
    rw [e, List.length_cons] at rw_
    have sg := strs_mem e s
    have lay : Layd ws := lay_sg fun x m => sg x (List.mem_cons_of_mem _ m)
    have lws : ws.length < 64 := by omega
    have sp : ∀ ρ : DE, ρ[0]? = some (some (.str row)) → dM1 (fSplit false) (dVar 0) (dC (.str " ")) ρ h = .ok (.lst (.str w0 :: stL ws)) h := fun ρ e0 => by
      rw [e_m1]
      simp only [e_var, e0, bind_ok, e_C]
      rw [split_sp l, e]
      rfl
    have c6 : fLen [cst6] h = .ok (.int 6) h := rfl
    unfold u_line_words
    rw [s_seq, s_asg, sp _ rfl, toS_ok, g_name, put_ok, sbind_nx, s_seq, s_if]
    simp only [List.set_cons_succ, List.set_cons_zero, e_B, e_op, e_var, List.getElem?_cons_succ, List.getElem?_cons_zero, bind_ok, e_CB, e_cons, e_C, e_nil, c6, e_fB, asB_bl, toS_ok]
    show ((if decide ((k : Int) < 6) = true then _ else _ : RS).bind _).res = CM.R.ok (if (decide (k < 8) && okRow k w0 ws) = true then CM.D.lst (stL ws) else .non) h
    rw [decide_eq_true hk, Bool.true_and]
    have sl : ∀ (g : CH) (ρ : DE), ρ[2]? = some (some (.lst (.str w0 :: stL ws))) → dSl false (dVar 2) (dPart (dC (.int 1))) (dNoPart) ρ g = .ok (.lst (stL ws)) g := fun g ρ e0 => sl_l (by rw [e_var, e0])
    by_cases k6 : k < 6
    · rw [decide_eq_true (show (k : Int) < 6 by omega), if_pos rfl, s_seq, s_asg]
      have g : (gdTup 2 (gdCons (gdName 3) (gdCons (gdName 4) (gdNil)))) (.tup [.str (nameW k), .tup (stL (knownW k))]) [some (.str row), some (.int (k : Int)), some (.lst (.str w0 :: stL ws)), none, none, none] h = .ok [some (.str row), some (.int (k : Int)), some (.lst (.str w0 :: stL ws)), some (.str (nameW k)), some (.tup (stL (knownW k))), none] h := by
        simp [gdTup, gdCons, gdNil, itemsD]
      simp only [e_op, e_C, bind_ok, e_var, List.getElem?_cons_succ, List.getElem?_cons_zero, ix_6 k6, toS_ok, g, put_ok, sbind_nx]
      have sl3 := fun g => sl g [some (.str row), some (.int (k : Int)), some (.lst (.str w0 :: stL ws)), some (.str (nameW k)), some (.tup (stL (knownW k))), none] rfl
      rw [s_ret, e_if]
      simp only [sl3]
      have ln : ∀ g, fLen [.lst (.str w0 :: stL ws)] g = .ok (.int ((w0 :: ws).map CM.D.str).length) g := fun g => rfl
      simp only [e_and, e_B, e_op, e_CB, e_cons, e_nil, e_var, List.getElem?_cons_succ, List.getElem?_cons_zero, bind_ok, e_C, ln, eq_ii, b_f, asB_bl, two_len, ix0l, eq_ss]
      unfold okRow okWs
      rw [if_pos k6]
      cases ws with
      | nil => simp
      | cons x r =>
        cases r with
        | nil =>
          have ix := ix1l (h := h) (x := .str w0) (y := .str x) (r := [])
          simp only [List.map_cons, List.map_nil, ix, bind_ok, in_strsT, b_f, asB_bl]
          cases (w0 == nameW k) <;> cases (knownW k).contains x <;> simp
        | cons y r => simp
    · have h6 : 6 ≤ k := by omega
      rw [decide_eq_false (show ¬ (k : Int) < 6 by omega), if_neg (by simp), s_next, sbind_nx, s_seq, s_asg]
      have g : (gdTup 2 (gdCons (gdName 3) (gdCons (gdName 4) (gdNil)))) (.tup [.str (nameW k), .tup (stL (knownW k))]) [some (.str row), some (.int (k : Int)), some (.lst (.str w0 :: stL ws)), none, none, none] h = .ok [some (.str row), some (.int (k : Int)), some (.lst (.str w0 :: stL ws)), some (.str (nameW k)), some (.tup (stL (knownW k))), none] h := by
        simp [gdTup, gdCons, gdNil, itemsD]
      have sb : fSubI (.int (k : Int)) (.int 6) h = .ok (.int ((k : Int) - 6)) h := rfl
      simp only [e_op, e_CB, e_cons, e_nil, e_C, bind_ok, e_var, List.getElem?_cons_succ, List.getElem?_cons_zero, c6, sb, ix_2 h6 hk, toS_ok, g, put_ok, sbind_nx]
      have lc : dLc false (dSeqI (dSl false (dVar 2) (dPart (dC (.int 1))) (dNoPart))) (gdName 5) (dYes) (dOp (fIn false) (dVar 5) (dVar 4)) [5] [some (.str row), some (.int (k : Int)), some (.lst (.str w0 :: stL ws)), some (.str (nameW k)), some (.tup (stL (knownW k))), none] h = .ok (.lst ((ws.map fun x => (knownW k).contains x).map CM.D.bl)) h := by
        rw [lc_seq (enc := CM.D.str) (xs := ws) (fun _ => true) (fun x => CM.D.bl ((knownW k).contains x)) (sl _ _ rfl) (Nat.le_trans (Nat.le_of_lt lws) (by decide)) fun x hx => ⟨_, rfl, rfl, fun _ => ?_⟩]
        · rw [List.filter_eq_self.mpr fun _ _ => rfl, List.map_map]
          rfl
        · show (dOp (fIn false) (dVar 5) (dVar 4)) [some (.str row), some (.int (k : Int)), some (.lst (.str w0 :: stL ws)), some (.str (nameW k)), some (.tup (stL (knownW k))), some (.str x)] h = _
          simp only [e_op, e_var, List.getElem?_cons_succ, List.getElem?_cons_zero, bind_ok, in_strsT, b_f]
      have al : (ws.map fun x => (knownW k).contains x).all id = ws.all fun x => (knownW k).contains x := by
        rw [List.all_map]
        rfl
      rw [s_seq, s_if]
      simp only [e_or, e_not, e_B, e_op, e_CB, e_cons, e_nil, e_var, List.getElem?_cons_succ, List.getElem?_cons_zero, bind_ok, e_C, ix0l, eq_ss, b_t, asB_bl, lc, all_bls, al]
      unfold okRow
      rw [okWs_of h6]
      cases q0 : (w0 == nameW k) with
      | false => simp
      | true =>
        cases q1 : (ws.all fun x => (knownW k).contains x) with
        | false => simp
        | true =>
          have ss : fSortSetT false (.lst (stL ws)) h = .ok (.lst (stL (sortS (ded ws)))) h := by
            unfold fSortSetT
            have s1 : seqOf h (.lst (stL ws)) = some (stL ws) := rfl
            simp only [s1, strsOf_st]
            rw [if_pos lws]
            rfl
          have lay2 : Layd (sortS (ded ws)) := fun x m => lay x ((mem_ded ws x).mp ((sortS_perm _).mem_iff.mp m))
          have sl3 := fun g => sl g [some (.str row), some (.int (k : Int)), some (.lst (.str w0 :: stL ws)), some (.str (nameW k)), some (.tup (stL (knownW k))), none] rfl
          simp only [Bool.not_true, bind_ok, toS_ok, if_false, Bool.false_eq_true, s_next, sbind_nx, s_ret, e_if, e_B, e_op, e_un, sl3, ss, eq_lst lay lay2, b_f, asB_bl, Bool.true_and]
          by_cases q2 : ws = sortS (ded ws)
          · rw [decide_eq_true q2, if_pos rfl, if_pos rfl]
            rfl
          · rw [decide_eq_false q2]
            simp
end
end W_whilemerged_k75_texts_of_books
namespace W_whilemerged_k75_texts_of_books
open PySem PySem.Spec PyProof.Rows L2 CM
open TL (tl joinL numL spl pre)
def fbl : Nat → List Str → Option Nat
  | _, [] => none
  | k, l :: r => if okAt k l = true then fbl (k + 1) r else some k
def rowsV : Nat → List Str → List CM.D
  | _, [] => []
  | k, l :: r => rowV k l :: rowsV (k + 1) r
structure Rw5 (l : Str) : Prop where
  s : Sg l
  n : l.length ≤ 100000
  b : bl (tl l) ≤ 60
section
variable {h : CH} {line page w0 l : Str} {ws : List Str} {n k : Nat}
theorem non_row : CM.isNon (rowV k l) = !okAt k l := by
  unfold rowV
  cases okAt k l <;> rfl
theorem ok_lt (e : okAt k l = true) : k < 8 := by
  unfold okAt at e
  cases q : Txt.split l " " with
  | nil => rw [q] at e; cases e
  | cons w0 ws =>
    rw [q] at e
    have e' : (decide (k < 8) && okRow k w0 ws) = true := e
    rw [Bool.and_eq_true] at e'
    exact of_decide_eq_true e'.1
theorem Grow.fr {h' : CH} {S : List Nat} (g : Grow h h') : Fr S h h' := ⟨g.nx, fun k l _ => g.ob k l⟩
theorem Kp.fr {h' : CH} {S : List Nat} (g : Kp h h') : Fr S h h' := ⟨g.nx, fun k l _ => g.ob k l⟩
/-- the program's loop -/
def rbb : SD := dSeq (dAsg (dIf (dB (dOp (fB fun i j => decide (i < j)) (dVar 4) (dC (.int 8)))) (dCall 2 F_line_words (dCons (dVar 5) (dCons (dVar 4) (dNil)))) (dC .non)) (gdName 6)) (dSeq (dIfS (dB (dOp (fIsN false) (dVar 6) (dC .non))) (dRaiseX 6 "line" (dCons (dVar 4) (dNil))) (dNext)) (dDrop (dBM "list" fAppend (dVar 3) (dCons (dVar 6) (dNil)))))
theorem rb_loop {a : Nat} {X0 X1 X2 : Option CM.D} {R : DE} : ∀ (ls : List Str) (k : Nat) (pre : List CM.D) (h : CH) (x4 x5 x6 : Option CM.D), (∀ l ∈ ls, Rw5 l) → pre.length + ls.length ≤ 100001 → h.ob a = some (.lst pre) → a < h.nx → match fbl k ls with
    | some i => ∃ ρ' h', dForL (tg45 4 5) rbb (enD k (ls.map CM.D.str)) (X0 :: X1 :: X2 :: some (.ref a) :: x4 :: x5 :: x6 :: R) h = .ex ρ' 6 [(Str.ofString "line", .int (i : Int))] h' ∧ Fr [a] h h'
    | none => ∃ y4 y5 y6 h', dForL (tg45 4 5) rbb (enD k (ls.map CM.D.str)) (X0 :: X1 :: X2 :: some (.ref a) :: x4 :: x5 :: x6 :: R) h = .nx (X0 :: X1 :: X2 :: some (.ref a) :: y4 :: y5 :: y6 :: R) h' ∧ h'.ob a = some (.lst (pre ++ rowsV k ls)) ∧ Fr [a] h h'
  | [], k, pre, h, x4, x5, x6, _, _, eo, _ => ⟨x4, x5, x6, h, rfl, by rw [eo]; simp [rowsV], Fr.refl⟩
  | l :: ls, k, pre, h, x4, x5, x6, H, lz, eo, la => by
    have W := H l (List.mem_cons_self ..)
    simp only [List.length_cons] at lz
    obtain ⟨ty, ap⟩ := app_ok (d := rowV k l) eo (by omega)
    have val : (dIf (dB (dOp (fB fun i j => decide (i < j)) (dVar 4) (dC (.int 8)))) (dCall 2 F_line_words (dCons (dVar 5) (dCons (dVar 4) (dNil)))) (dC .non)) (X0 :: X1 :: X2 :: some (.ref a) :: some (.int (k : Int)) :: some (.str l) :: x6 :: R) h = .ok (rowV k l) h := by
      simp only [e_if, e_B, e_op, e_var, List.getElem?_cons_succ, List.getElem?_cons_zero, bind_ok, e_C, e_fB, asB_bl]
      by_cases hk : k < 8
      · rw [decide_eq_true (show (k : Int) < 8 by omega), if_pos rfl]
        simp only [e_call, e_cons, e_nil, e_var, List.getElem?_cons_succ, List.getElem?_cons_zero, bind_ok, List.length_cons, List.length_nil, if_true, line_words_ok hk W.s W.n W.b]
      · rw [decide_eq_false (show ¬ (k : Int) < 8 by omega), if_neg (by simp)]
        have : okAt k l = false := by
          cases q : okAt k l with
          | false => rfl
          | true => exact absurd (ok_lt q) hk
        unfold rowV
        rw [this]
        rfl
    have st : dForL (tg45 4 5) rbb (enD k ((l :: ls).map CM.D.str)) (X0 :: X1 :: X2 :: some (.ref a) :: x4 :: x5 :: x6 :: R) h = (match rbb (X0 :: X1 :: X2 :: some (.ref a) :: some (.int (k : Int)) :: some (.str l) :: x6 :: R) h with
        | .nx ρ2 h2 => dForL (tg45 4 5) rbb (enD (k + 1) (ls.map CM.D.str)) ρ2 h2
        | .ct ρ2 h2 => dForL (tg45 4 5) rbb (enD (k + 1) (ls.map CM.D.str)) ρ2 h2
        | .bk ρ2 h2 => .nx ρ2 h2
        | x => x) := by
      have g : tg45 4 5 (.tup [.int (k : Int), .str l]) (X0 :: X1 :: X2 :: some (.ref a) :: x4 :: x5 :: x6 :: R) h = .ok (X0 :: X1 :: X2 :: some (.ref a) :: some (.int (k : Int)) :: some (.str l) :: x6 :: R) h := by
        simp [tg45, gdTup, gdCons, gdNil, itemsD]
      show (tg45 4 5 (.tup [.int (k : Int), .str l]) (X0 :: X1 :: X2 :: some (.ref a) :: x4 :: x5 :: x6 :: R) h).put _ = _
      rw [g]
      rfl
    have body : rbb (X0 :: X1 :: X2 :: some (.ref a) :: some (.int (k : Int)) :: some (.str l) :: x6 :: R) h = if okAt k l = true then .nx (X0 :: X1 :: X2 :: some (.ref a) :: some (.int (k : Int)) :: some (.str l) :: some (rowV k l) :: R) (h.put a (.lst (pre ++ [rowV k l]))) else .ex (X0 :: X1 :: X2 :: some (.ref a) :: some (.int (k : Int)) :: some (.str l) :: some (rowV k l) :: R) 6 [(Str.ofString "line", .int (k : Int))] h := by
      unfold rbb
      rw [s_seq, s_asg, val]
      simp only [toS_ok, g_name, put_ok, sbind_nx, List.set_cons_succ, List.set_cons_zero, s_seq, s_if, e_B, e_op, e_var, List.getElem?_cons_succ, List.getElem?_cons_zero, bind_ok, e_C, e_isN, b_f, asB_bl, non_row]
      cases okAt k l with
      | false => simp
      | true => simp [ty, ap]
    unfold fbl
    by_cases q : okAt k l = true
    · rw [if_pos q] at body
      rw [if_pos q, st, body]
      have fp : Fr [a] h (h.put a (.lst (pre ++ [rowV k l]))) := Fr.put
      have ih := rb_loop (a := a) (X0 := X0) (X1 := X1) (X2 := X2) (R := R) ls (k + 1) (pre ++ [rowV k l]) (h.put a (.lst (pre ++ [rowV k l]))) (some (.int (k : Int))) (some (.str l)) (some (rowV k l)) (fun y hy => H y (List.mem_cons_of_mem _ hy)) (by simp; omega) put_same (Nat.lt_of_lt_of_le la fp.1)
      cases e : fbl (k + 1) ls with
      | some i =>
        rw [e] at ih
        obtain ⟨ρ', h', e2, f2⟩ := ih
        exact ⟨ρ', h', e2, fp.trans f2⟩
      | none =>
        rw [e] at ih
        obtain ⟨y4, y5, y6, h', e2, o2, f2⟩ := ih
        exact ⟨y4, y5, y6, h', e2, by rw [o2]; simp [rowsV], fp.trans f2⟩
    · rw [if_neg q] at body
      rw [if_neg q]
      exact ⟨_, h, by rw [st, body], Fr.refl⟩
/-- a page and its rows -/
structure Pg (page : Str) (init : List Str) (last : Str) : Prop where
  e : Txt.split page "\n" = init ++ [last]
  l : page.length ≤ 100000
  ni : Nice 60 page
theorem Pg.of (l : page.length ≤ 100000) (ni : Nice 60 page) : ∃ init last, Pg page init last := by
  have ne := split_ne (x := page) tl_nl nl_k
  exact ⟨_, _, (List.dropLast_concat_getLast ne).symm, l, ni⟩
def badN (init : List Str) (last : Str) : Option Nat := match fbl 0 init with
  | some i => some i
  | none => if last = Str.ofString "" ∧ init.length = 8 then none else some init.length
theorem fbl_len : ∀ (ls : List Str) (k : Nat), fbl k ls = none → k ≤ 8 → k + ls.length ≤ 8
  | [], k, _, h => by simpa using h
  | l :: ls, k, e, h => by
    unfold fbl at e
    by_cases q : okAt k l = true
    · rw [if_pos q] at e
      have := fbl_len ls (k + 1) e (ok_lt q)
      simp only [List.length_cons]
      omega
    · rw [if_neg q] at e; cases e
section
variable {init : List Str} {last : Str} (P : Pg page init last)
include P
theorem Pg.len : init.length ≤ 100000 := by
  have := split_cnt (x := page) tl_nl nl_k
  have l := P.l
  rw [P.e] at this
  simp at this
  omega
theorem Pg.rows : ∀ y ∈ init, Rw5 y := fun y hy => by
  have m : y ∈ Txt.split page "\n" := by rw [P.e]; exact List.mem_append_left _ hy
  obtain ⟨s, _, b⟩ := P.ni.rows m
  exact ⟨s, Nat.le_trans (split_len (x := page) tl_nl nl_k m) P.l, b⟩
theorem Pg.sp {ρ : DE} (e0 : ρ[0]? = some (some (.str page))) : dM1 (fSplit false) (dVar 0) (dC (.str "\n")) ρ h = .ok (.lst (init.map CM.D.str ++ [.str last])) h := by
  rw [e_m1]
  simp only [e_var, e0, bind_ok, e_C]
  rw [split_nl P.l, P.e, List.map_append]
  rfl
theorem last_eq : (last == Str.ofString "") = decide (last = Str.ofString "") := by
  by_cases q : last = Str.ofString ""
  · rw [decide_eq_true q, q]; simp
  · rw [decide_eq_false q]; exact beq_eq_false_iff_ne.mpr q
theorem lines_ok : F_lines_of [.str page] h = .ok (.tup [.lst (init.map CM.D.str), .str last]) h := by
  show (u_lines_of [some (.str page), none] h).res = _
  have sl : dSl false (dVar 1) (dNoPart) (dPart (dUn fNeg (dC (.int 1)))) [some (.str page), some (.lst (init.map CM.D.str ++ [.str last]))] h = .ok (.lst (init.map CM.D.str)) h := by
    show CM.R.ok (CM.D.lst (CM.cutD (init.map CM.D.str ++ [.str last]) none (some (-1)))) h = _
    rw [cut_last]
  have ix : fIx (.lst (init.map CM.D.str ++ [.str last])) (.int (-1)) h = .ok (.str last) h := by
    show (match atI (init.map CM.D.str ++ [.str last]) (-1) with | some v => CM.R.ok v h | none => .no) = _
    rw [at_last]
  unfold u_lines_of
  rw [s_seq, s_asg, P.sp rfl, toS_ok, g_name, put_ok, sbind_nx, s_ret, e_tup, e_cons]
  simp only [List.set_cons_succ, List.set_cons_zero]
  rw [sl, bind_ok, e_cons]
  simp only [e_op, e_un, e_C, bind_ok, e_var, List.getElem?_cons_succ, List.getElem?_cons_zero, fNeg, ix, e_nil]
  rfl
end
end
end W_whilemerged_k75_texts_of_books
namespace W_whilemerged_k75_texts_of_books
open PySem PySem.Spec PyProof.Rows L2 CM
open TL (tl joinL numL spl pre)
def mkE : TD := dMakeN 7 true 1 8 ([.p 0, .k 0, .k 1, .k 2, .k 3, .k 4, .k 5, .k 6, .k 7]) F_Book_init (dNil) (dCons (dOp fIx (dVar 7) (dC (.int 0))) (dCons (dOp fIx (dVar 8) (dC (.int 0))) (dCons (dOp fIx (dVar 9) (dC (.int 0))) (dCons (dOp fIx (dVar 10) (dC (.int 0))) (dCons (dOp fIx (dVar 11) (dC (.int 0))) (dCons (dOp fIx (dVar 12) (dC (.int 0))) (dCons (dVar 13) (dCons (dVar 14) (dNil)))))))))
def rdE : SD := dSeq (dIfS (dOr (dB (dOp (fEq true) (dVar 2) (dC (.str "")))) (dB (dOp (fB fun i j => decide (i < j)) (dCB fLen (dCons (dVar 3) (dNil))) (dC (.int 8))))) (dRaiseX 6 "line" (dCons (dCB fLen (dCons (dVar 3) (dNil))) (dNil))) (dNext)) (dSeq (dAsg (dVar 3) (gdUnl 8 (gdCons (gdName 7) (gdCons (gdName 8) (gdCons (gdName 9) (gdCons (gdName 10) (gdCons (gdName 11) (gdCons (gdName 12) (gdCons (gdName 13) (gdCons (gdName 14) (gdNil))))))))))) (dRet mkE))
theorem e_makeN {c0 n l : Nat} {fr : Bool} {src : List Src} {F : FD} {ts tk : TDs} {ρ : DE} {h : CH} : dMakeN c0 fr n l src F ts tk ρ h = (ts ρ h).bind fun ds h => (tk ρ h).bind fun zs h => if ds.length + 1 = n ∧ zs.length = l then (F (pickD (.ref h.nx :: ds) zs src) (h.new (.obj c0 []))).bind fun r h2 => match r with
  | .non => if fr = true then fz (.ref h.nx) h2 else .ok (.ref h.nx) h2
  | _ => .no
  else .no := rfl
section
variable {h : CH} {line page w0 l : Str} {ws : List Str} {n k : Nat}
theorem ok_split (e : okAt k l = true) : ∃ ws, Txt.split l " " = nameW k :: ws ∧ okWs k ws = true ∧ l = rowW (nameW k :: ws) ∧ rowV k l = .lst (stL ws) := by
  have e0 := e
  unfold okAt at e
  cases q : Txt.split l " " with
  | nil => rw [q] at e; cases e
  | cons w0 ws =>
    rw [q] at e
    have e' : (decide (k < 8) && okRow k w0 ws) = true := e
    unfold okRow at e'
    rw [Bool.and_eq_true, Bool.and_eq_true, beq_iff_eq] at e'
    obtain ⟨_, rfl, o⟩ := e'
    refine ⟨ws, rfl, o, ?_, ?_⟩
    · have b := split_back (x := l) tl_sp sp_k
      rw [q] at b
      exact b.symm
    · unfold rowV tailW
      rw [if_pos e0, q]
      rfl
theorem ok_one (e : okAt k l = true) (k6 : k < 6) : ∃ w, w ∈ knownW k ∧ l = rowW [nameW k, w] ∧ rowV k l = .lst [.str w] := by
  obtain ⟨ws, _, o, a, b⟩ := ok_split e
  unfold okWs at o
  rw [if_pos k6] at o
  cases ws with
  | nil => cases o
  | cons w r =>
    cases r with
    | nil => exact ⟨w, by simpa using o, a, b⟩
    | cons y r => cases o
theorem ok_many (e : okAt k l = true) (k6 : 6 ≤ k) : ∃ ws, ws.Sublist (knownW k) ∧ l = rowW (nameW k :: ws) ∧ rowV k l = .lst (stL ws) := by
  obtain ⟨ws, _, o, a, b⟩ := ok_split e
  unfold okWs at o
  rw [if_neg (by omega)] at o
  have e : ws = inW k ws := of_decide_eq_true o
  exact ⟨ws, by rw [e]; exact List.filter_sublist, a, b⟩
def valsB (B : Bk) : List CM.D := [.lst [.str B.up], .lst [.str B.down], .lst [.str B.writes], .lst [.str B.moves], .lst [.str B.finish], .lst [.str B.counts], .lst (stL B.bars), .lst (stL B.notes)]
theorem rowsV_len : ∀ (ls : List Str) (k : Nat), (rowsV k ls).length = ls.length
  | [], _ => rfl
  | l :: ls, k => by simp [rowsV, rowsV_len ls (k + 1)]
theorem rows_book {init : List Str} (e : fbl 0 init = none) (l8 : init.length = 8) : ∃ B : Bk, B.Wf ∧ init = (fldsB B).map rowW ∧ rowsV 0 init = valsB B := by
  obtain ⟨a, b, c, d, x, f, g, i, rfl⟩ : ∃ a b c d x f g i, init = [a, b, c, d, x, f, g, i] := by
    match init, l8 with
    | [a, b, c, d, x, f, g, i], _ => exact ⟨a, b, c, d, x, f, g, i, rfl⟩
  have st : ∀ (k : Nat) (l : Str) (r : List Str), fbl k (l :: r) = none → okAt k l = true ∧ fbl (k + 1) r = none := fun k l r e => by
    unfold fbl at e
    by_cases q : okAt k l = true
    · rw [if_pos q] at e
      exact ⟨q, e⟩
    · rw [if_neg q] at e; cases e
  obtain ⟨o0, e⟩ := st _ _ _ e
  obtain ⟨o1, e⟩ := st _ _ _ e
  obtain ⟨o2, e⟩ := st _ _ _ e
  obtain ⟨o3, e⟩ := st _ _ _ e
  obtain ⟨o4, e⟩ := st _ _ _ e
  obtain ⟨o5, e⟩ := st _ _ _ e
  obtain ⟨o6, e⟩ := st _ _ _ e
  obtain ⟨o7, e⟩ := st _ _ _ e
  obtain ⟨w0, m0, r0, v0⟩ := ok_one o0 (by omega)
  obtain ⟨w1, m1, r1, v1⟩ := ok_one o1 (by omega)
  obtain ⟨w2, m2, r2, v2⟩ := ok_one o2 (by omega)
  obtain ⟨w3, m3, r3, v3⟩ := ok_one o3 (by omega)
  obtain ⟨w4, m4, r4, v4⟩ := ok_one o4 (by omega)
  obtain ⟨w5, m5, r5, v5⟩ := ok_one o5 (by omega)
  obtain ⟨w6, m6, r6, v6⟩ := ok_many o6 (by omega)
  obtain ⟨w7, m7, r7, v7⟩ := ok_many o7 (by omega)
  have n6 := (known_nd (k := 6) (by omega)).1
  have n7 := (known_nd (k := 7) (by omega)).1
  refine ⟨⟨w0, w1, w2, w3, w4, w5, w6, w7⟩, ⟨⟨m0, m1, m2, m3, m4, m5, n6.sublist m6, fun x hx => m6.subset hx, n7.sublist m7, fun x hx => m7.subset hx⟩, m6, m7⟩, ?_, ?_⟩
  · rw [r0, r1, r2, r3, r4, r5, r6, r7]
    rfl
  · simp only [rowsV, v0, v1, v2, v3, v4, v5, v6, v7, valsB, Nat.zero_add, Nat.reduceAdd]
section
variable {init : List Str} {last : Str} (P : Pg page init last)
include P
theorem Pg.good (b : badN init last = none) : ∃ B : Bk, B.Wf ∧ pageB B = page ∧ rowsV 0 init = valsB B := by
  unfold badN at b
  cases e : fbl 0 init with
  | some i => rw [e] at b; cases b
  | none =>
    rw [e] at b
    have b' : (if last = Str.ofString "" ∧ init.length = 8 then none else some init.length) = none := b
    by_cases q : last = Str.ofString "" ∧ init.length = 8
    · obtain ⟨B, W, r, v⟩ := rows_book e q.2
      refine ⟨B, W, ?_, v⟩
      rw [pageB_join, ← r]
      have e1 := P.e
      rw [q.1] at e1
      have e2 : init ++ [("" : Str)] = Txt.split page "\n" := e1.symm
      rw [e2]
      exact split_back tl_nl nl_k
    · rw [if_neg q] at b'; cases b'
def rdU : SD := dSeq (dIfS (dNot (dB (dCB (fIsX xs0 [7] kt0) (dCons (dVar 0) (dCons (dC (.ty "str")) (dNil)))))) (dRaiseX 6 "line" (dCons (dC (.int 0)) (dNil))) (dNext)) (dSeq (dAsg (dCall 1 F_lines_of (dCons (dVar 0) (dNil))) (gdTup 2 (gdCons (gdName 1) (gdCons (gdName 2) (gdNil))))) (dSeq (dAsg (dLst true (dNil)) (gdName 3)) (dSeq (dFor (dEnumT (dCons (dVar 1) (dNil))) (tg45 4 5) rbb) rdE)))
theorem read_page_ok : ∃ h', Fr [] h h' ∧ match badN init last with
    | some i => F_read_book [.str page] h = .ex 6 [(Str.ofString "line", .int (i : Int))] h'
    | none => ∃ B : Bk, B.Wf ∧ pageB B = page ∧ F_read_book [.str page] h = .ok B.d h' := by
  have u0 : F_read_book [.str page] h = (rdU [some (.str page), none, none, none, none, none, none, none, none, none, none, none, none, none, none] h).res := rfl
  have ln := P.len
  have is := isi_s (h := h) (d := .str page) trivial
  have ls := lines_ok P (h := h)
  have lp := rb_loop (a := h.nx) (X0 := some (.str page)) (X1 := some (.lst (init.map CM.D.str))) (X2 := some (.str last)) (R := [none, none, none, none, none, none, none, none]) init 0 [] (h.new (.lst [])) none none none P.rows (by simp; omega) new_ob (Nat.lt_succ_self _)
  have us : rdU [some (.str page), none, none, none, none, none, none, none, none, none, none, none, none, none, none] h = (dForL (tg45 4 5) rbb (enD 0 (init.map CM.D.str)) [some (.str page), some (.lst (init.map CM.D.str)), some (.str last), some (.ref h.nx), none, none, none, none, none, none, none, none, none, none, none] (h.new (.lst []))).bind rdE := by
    unfold rdU
    have t0 : (dNot (dB (dCB (fIsX xs0 [7] kt0) (dCons (dVar 0) (dCons (dC (.ty "str")) (dNil)))))) [some (.str page), none, none, none, none, none, none, none, none, none, none, none, none, none, none] h = .ok false h := by simp [is, isS]
    have c1 : dCall 1 F_lines_of (dCons (dVar 0) (dNil)) [some (.str page), none, none, none, none, none, none, none, none, none, none, none, none, none, none] h = .ok (.tup [.lst (init.map CM.D.str), .str last]) h := by simp [ls]
    have g : (gdTup 2 (gdCons (gdName 1) (gdCons (gdName 2) (gdNil)))) (.tup [.lst (init.map CM.D.str), .str last]) [some (.str page), none, none, none, none, none, none, none, none, none, none, none, none, none, none] h = .ok [some (.str page), some (.lst (init.map CM.D.str)), some (.str last), none, none, none, none, none, none, none, none, none, none, none, none] h := by
      simp [gdTup, gdCons, gdNil, itemsD]
    have ll : dLst true (dNil) [some (.str page), some (.lst (init.map CM.D.str)), some (.str last), none, none, none, none, none, none, none, none, none, none, none, none] h = .ok (.ref h.nx) (h.new (.lst [])) := rfl
    have en : dEnumT (dCons (dVar 1) (dNil)) [some (.str page), some (.lst (init.map CM.D.str)), some (.str last), some (.ref h.nx), none, none, none, none, none, none, none, none, none, none, none] (h.new (.lst [])) = .ok (enD 0 (init.map CM.D.str), none) (h.new (.lst [])) := rfl
    rw [s_seq, s_if, t0, toS_ok, if_neg (by simp), s_next, sbind_nx, s_seq, s_asg, c1, toS_ok, g, put_ok, sbind_nx, s_seq, s_asg, ll, toS_ok, g_name, put_ok, sbind_nx, s_seq, s_for]
    simp only [List.set_cons_succ, List.set_cons_zero]
    rw [en, toS_ok]
    simp only [unl_none]
  rw [u0, us]
  cases e : fbl 0 init with
  | some i =>
    rw [e] at lp
    obtain ⟨ρ', h', e2, f2⟩ := lp
    refine ⟨h', Fr.of_new f2, ?_⟩
    have b : badN init last = some i := by unfold badN; rw [e]
    rw [b, e2]
    rfl
  | none =>
    rw [e] at lp
    obtain ⟨y4, y5, y6, h', e2, o2, f2⟩ := lp
    rw [List.nil_append] at o2
    have f0 := Fr.of_new f2
    have l8 := fbl_len init 0 e (by omega)
    have lnn : fLen [.ref h.nx] h' = .ok (.int (init.length : Nat)) h' := by
      show (match seqOf h' (.ref h.nx) with
        | some xs => CM.R.ok (CM.D.int xs.length) h'
        | none => _) = _
      simp only [seqOf, o2, rowsV_len]
    have t1 : (dOr (dB (dOp (fEq true) (dVar 2) (dC (.str "")))) (dB (dOp (fB fun i j => decide (i < j)) (dCB fLen (dCons (dVar 3) (dNil))) (dC (.int 8))))) [some (.str page), some (.lst (init.map CM.D.str)), some (.str last), some (.ref h.nx), y4, y5, y6, none, none, none, none, none, none, none, none] h' = .ok (!decide (last = Str.ofString "" ∧ init.length = 8)) h' := by
      simp only [e_or, e_B, e_op, e_CB, e_cons, e_nil, e_var, List.getElem?_cons_succ, List.getElem?_cons_zero, bind_ok, e_C, eq_ss, b_t, asB_bl, lnn, e_fB]
      rw [last_eq P]
      by_cases q : last = Str.ofString ""
      · rw [decide_eq_true q]
        by_cases q8 : init.length = 8
        · rw [decide_eq_false (show ¬ ((init.length : Nat) : Int) < 8 by omega), decide_eq_true (show last = Str.ofString "" ∧ init.length = 8 from ⟨q, q8⟩)]
          rfl
        · rw [decide_eq_true (show ((init.length : Nat) : Int) < 8 by omega), decide_eq_false (show ¬ (last = Str.ofString "" ∧ init.length = 8) from fun z => q8 z.2)]
          rfl
      · rw [decide_eq_false q, decide_eq_false (show ¬ (last = Str.ofString "" ∧ init.length = 8) from fun z => q z.1)]
        rfl
    by_cases q : last = Str.ofString "" ∧ init.length = 8
    · have b : badN init last = none := by
        unfold badN
        rw [e]
        exact if_pos q
      obtain ⟨B, W, pg, v⟩ := P.good b
      rw [v] at o2
      have un : (gdUnl 8 (gdCons (gdName 7) (gdCons (gdName 8) (gdCons (gdName 9) (gdCons (gdName 10) (gdCons (gdName 11) (gdCons (gdName 12) (gdCons (gdName 13) (gdCons (gdName 14) (gdNil)))))))))) (.ref h.nx) [some (.str page), some (.lst (init.map CM.D.str)), some (.str last), some (.ref h.nx), y4, y5, y6, none, none, none, none, none, none, none, none] h' = .ok [some (.str page), some (.lst (init.map CM.D.str)), some (.str last), some (.ref h.nx), y4, y5, y6, some (.lst [.str B.up]), some (.lst [.str B.down]), some (.lst [.str B.writes]), some (.lst [.str B.moves]), some (.lst [.str B.finish]), some (.lst [.str B.counts]), some (.lst (stL B.bars)), some (.lst (stL B.notes))] h' := by
        unfold gdUnl
        simp only [lstOf, o2]
        rfl
      obtain ⟨z, h2, ez, rz, kz⟩ := (make_sat (h := h') (X := .lst (stL B.bars)) (Y := .lst (stL B.notes)) W.wd (.inr (.inl rfl)) (.inr (.inl rfl)) (fun _ e => nomatch e) (fun _ e => nomatch e)).ex
      rw [srt_sub W.sb bars_srt, srt_sub W.sn notes_srt] at rz
      have mk : mkE [some (.str page), some (.lst (init.map CM.D.str)), some (.str last), some (.ref h.nx), y4, y5, y6, some (.lst [.str B.up]), some (.lst [.str B.down]), some (.lst [.str B.writes]), some (.lst [.str B.moves]), some (.lst [.str B.finish]), some (.lst [.str B.counts]), some (.lst (stL B.bars)), some (.lst (stL B.notes))] h' = .ok B.d h2 := by
        unfold mkE
        rw [e_makeN, e_nil, bind_ok]
        simp only [e_cons, e_op, e_C, e_var, List.getElem?_cons_succ, List.getElem?_cons_zero, bind_ok, ix0l, e_nil]
        rw [if_pos ⟨rfl, rfl⟩]
        exact ez.trans (by rw [rz]; rfl)
      refine ⟨h2, f0.trans kz.fr, ?_⟩
      rw [b]
      refine ⟨B, W, pg, ?_⟩
      rw [e2, sbind_nx]
      unfold rdE
      rw [s_seq, s_if, t1, decide_eq_true q, toS_ok, Bool.not_true, if_neg (show ¬ (false = true) by decide), s_next, sbind_nx, s_seq, s_asg]
      simp only [e_var, List.getElem?_cons_succ, List.getElem?_cons_zero, toS_ok]
      rw [un, put_ok, sbind_nx, s_ret, mk]
      rfl
    · have b : badN init last = some init.length := by
        unfold badN
        rw [e]
        exact if_neg q
      refine ⟨h', f0, ?_⟩
      rw [b, e2, sbind_nx]
      unfold rdE
      rw [s_seq, s_if, t1, decide_eq_false q, toS_ok, Bool.not_false, if_pos rfl]
      simp only [e_raise, e_cons, e_CB, e_var, List.getElem?_cons_succ, List.getElem?_cons_zero, bind_ok, e_nil, lnn, toS_ok, rx_one]
      rfl
end
end
end W_whilemerged_k75_texts_of_books
namespace W_whilemerged_k75_texts_of_books
open PySem PySem.Spec PyProof.Rows L2 CM
open TL (tl joinL numL spl pre)
section
variable {h : CH} {B : Bk} {page : Str} {ws : List Str} {n k : Nat}
theorem is_book : fIsX xs0 [7] kt0 [B.d, .cls 7] h = .ok (.bl true) h := by kernel_rfl
theorem need_ok : F_need_book [B.d] h = .ok .non h := by
  show (u_need_book [some B.d] h).res = _
  unfold u_need_book
  rw [s_if]
  simp only [e_not, e_B, e_CB, e_cons, e_nil, e_var, List.getElem?_cons_zero, bind_ok, e_C, is_book, asB_bl, toS_ok]
  rfl
def encW (ws : List Str) : CM.D := .lst (stL ws)
theorem row_lst {f : Str} {F : FD} {l : List Str} {ρ : DE} {g : CH} (e : dProp 7 F (dVar 0) ρ g = .ok (.tup (stL l)) g) (n : l.length ≤ 50) : dLst false (dCons (dC (.str f)) (dStar (dProp 7 F (dVar 0)) (dNil))) ρ g = .ok (encW (f :: l)) g := by
  have st : dStar (dProp 7 F (dVar 0)) (dNil) ρ g = .ok (stL l) g := by
    unfold dStar
    rw [e, bind_ok]
    show ((dNil ρ g).bind fun ys h => CM.R.ok (stL l ++ ys) h) = _
    rw [e_nil, bind_ok, List.append_nil]
  rw [e_lst, e_cons, e_C, bind_ok, st, bind_ok, bind_ok, if_pos (sz60 (by rw [List.length_cons, List.length_map]; omega))]
  rfl
theorem book_text_ok (W : B.Wf) : ∃ h', F_book_text [B.d] h = .ok (.str (pageB B)) h' ∧ Fr [] h h' := by
  suffices q : ∃ h', (u_book_text [some B.d, none, none, none, none, none] h).res = .ok (.str (pageB B)) h' ∧ Fr [] h h' from q
  have R : ∀ ws ∈ fldsB B, (∀ x ∈ ws, Wo x) ∧ ws ≠ [] ∧ ws.length ≤ 6 := fld_wo W
  have lb : B.bars.length ≤ 5 := W.sb.length_le
  have ln : B.notes.length ≤ 3 := W.sn.length_le
  have c1 : dLc true (dZm (dCons (dC cst6) (dCons (dCall 1 F_chosen_words (dCons (dVar 0) (dNil))) (dNil)))) (gdTup 2 (gdCons (gdTup 2 (gdCons (gdName 2) (gdCons (gdName 3) (gdNil)))) (gdCons (gdName 4) (gdNil)))) (dYes) (dLst false (dCons (dVar 2) (dCons (dVar 4) (dNil)))) [4, 2, 3] [some B.d, none, none, none, none, none] h = .ok (.ref h.nx) (h.new (.lst (((fldsB B).take 6).map encW))) := by rfl
  generalize hh1 : h.new (.lst (((fldsB B).take 6).map encW)) = h1 at c1
  have f1 : Fr [] h h1 := by rw [← hh1]; exact Fr.new _
  have o1 : h1.ob h.nx = some (.lst (((fldsB B).take 6).map encW)) := by rw [← hh1]; exact new_ob
  have pb : ∀ ρ : DE, ρ[0]? = some (some B.d) → dProp 7 F_Book_bars (dVar 0) ρ h1 = .ok (.tup (stL B.bars)) h1 := fun ρ e0 => by
    rw [e_prop, e_var, e0]
    rfl
  have pn : ∀ ρ : DE, ρ[0]? = some (some B.d) → dProp 7 F_Book_notes (dVar 0) ρ h1 = .ok (.tup (stL B.notes)) h1 := fun ρ e0 => by
    rw [e_prop, e_var, e0]
    rfl
  have ty : isTy "list" (.ref h.nx) h1 = true := by
    show (lstOf h1 (.ref h.nx)).isSome = true
    simp only [lstOf, o1, Option.isSome_some]
  have ex : fExtend (.ref h.nx) [.lst [encW (Str.ofString "bars" :: B.bars), encW (Str.ofString "notes" :: B.notes)]] h1 = .ok .non (h1.put h.nx (.lst ((fldsB B).map encW))) := by
    show (match h1.ob h.nx, lstOf h1 (.lst [encW (Str.ofString "bars" :: B.bars), encW (Str.ofString "notes" :: B.notes)]) with
      | some (.lst ds), some es => if ds.length + es.length ≤ sizeLine then CM.R.ok CM.D.non (h1.put h.nx (.lst (ds ++ es))) else .no
      | _, _ => .no) = _
    rw [o1]
    show (if (((fldsB B).take 6).map encW).length + [encW (Str.ofString "bars" :: B.bars), encW (Str.ofString "notes" :: B.notes)].length ≤ sizeLine then CM.R.ok CM.D.non (h1.put h.nx (.lst (((fldsB B).take 6).map encW ++ [encW (Str.ofString "bars" :: B.bars), encW (Str.ofString "notes" :: B.notes)]))) else .no) = _
    rw [if_pos (by show 6 + 2 ≤ sizeLine; decide)]
    rfl
  generalize hh2 : h1.put h.nx (.lst ((fldsB B).map encW)) = h2 at ex
  have o2 : h2.ob h.nx = some (.lst ((fldsB B).map encW)) := by rw [← hh2]; exact put_same
  have f2 : Fr [] h h2 := by
    rw [← hh2]
    refine ⟨f1.1, fun j hj _ => ?_⟩
    rw [put_ne (by omega)]
    exact f1.2 j hj (by simp)
  refine ⟨h2, ?_, f2⟩
  have rl : ∀ ws ∈ fldsB B, (rowW ws).length ≤ 47 := fun ws hw => (row_nice (R ws hw).1 (R ws hw).2.1 (R ws hw).2.2).2.2.2
  have c3 : dLc false (dSeqI (dVar 1)) (gdName 5) (dYes) (dOp (fAdd false) (dM1 fJoin (dC (.str " ")) (dVar 5)) (dC (.str "\n"))) [5] [some B.d, some (.ref h.nx), none, none, none, none] h2 = .ok (.lst (((fldsB B).map fun ws => rowW ws ++ "\n").map CM.D.str)) h2 := by
    rw [lc_ref (enc := encW) (xs := fldsB B) (k := h.nx) (fun _ => true) (fun ws => CM.D.str (rowW ws ++ "\n")) rfl o2 (by show 8 ≤ sizeLine; decide) fun ws hw => ⟨_, rfl, rfl, fun _ => ?_⟩]
    · rw [List.filter_eq_self.mpr fun _ _ => rfl, List.map_map]
      rfl
    · have l := rl ws hw
      have d : (Str.ofString "\n").length = 1 := rfl
      have jf : ∀ g, fJoin (.str (Str.ofString " ")) [.lst (ws.map CM.D.str)] g = .ok (.str (rowW ws)) g := fun g => by
        refine join_fit ?_
        have := sum_bd (k := 7) ws fun x hx => ((R ws hw).1 x hx).l
        have d : (Str.ofString " ").length = 1 := rfl
        have := (R ws hw).2.2
        rw [d]
        omega
      have te : ∀ g, (dOp (fAdd false) (dM1 fJoin (dC (.str " ")) (dVar 5)) (dC (.str "\n"))) [some B.d, some (.ref h.nx), none, none, none, some (.lst (ws.map CM.D.str))] g = .ok (.str (rowW ws ++ "\n")) g := fun g => by
        rw [e_op, e_m1]
        simp only [e_var, List.getElem?_cons_succ, List.getElem?_cons_zero, bind_ok, e_C, jf]
        rw [add_ss (by rw [d]; omega)]
      exact te _
  have j : fJoin (.str (Str.ofString "")) [.lst (((fldsB B).map fun ws => rowW ws ++ "\n").map CM.D.str)] h2 = .ok (.str (pageB B)) h2 := rows_join (fun x hx => by
    obtain ⟨ws, hw, rfl⟩ := List.mem_map.mp hx
    have := rl ws hw
    have d : ("\n" : Str).length = 1 := rfl
    rw [len_app, d]
    omega) (by show 8 ≤ 100; decide)
  unfold u_book_text
  rw [s_seq, s_drop, e_call]
  simp only [e_cons, e_nil, e_var, List.getElem?_cons_zero, bind_ok, List.length_cons, List.length_nil, if_true, need_ok, toS_ok, sbind_nx]
  rw [s_seq, s_asg]
  have c1' := c1
  rw [c1', toS_ok, g_name, put_ok, sbind_nx, s_seq, s_drop]
  simp only [List.set_cons_succ, List.set_cons_zero]
  have r1 := row_lst (f := Str.ofString "bars") (pb [some B.d, some (.ref h.nx), none, none, none, none] rfl) (by omega)
  have r2 := row_lst (f := Str.ofString "notes") (pn [some B.d, some (.ref h.nx), none, none, none, none] rfl) (by omega)
  have bm : dBM "list" fExtend (dVar 1) (dCons (dLst false (dCons (dLst false (dCons (dC (.str "bars")) (dStar (dProp 7 F_Book_bars (dVar 0)) (dNil)))) (dCons (dLst false (dCons (dC (.str "notes")) (dStar (dProp 7 F_Book_notes (dVar 0)) (dNil)))) (dNil)))) (dNil)) [some B.d, some (.ref h.nx), none, none, none, none] h1 = .ok .non h2 := by
    rw [e_BM, e_var]
    simp only [List.getElem?_cons_succ, List.getElem?_cons_zero, bind_ok, ty, if_true]
    rw [e_cons, e_lst, e_cons, r1, bind_ok, e_cons, r2, bind_ok, e_nil]
    simp only [bind_ok]
    rw [if_pos (by show 2 ≤ sizeLine; decide)]
    simp only [mkL_f, bind_ok, e_nil, ex]
  rw [bm, toS_ok, sbind_nx, s_ret, e_m1, e_C, bind_ok]
  simp only [c3, bind_ok, j, toS_ok, res_rt]
end
end W_whilemerged_k75_texts_of_books
namespace W_whilemerged_k75_texts_of_books
open PySem PySem.Spec PyProof.Rows L2 CM
open TL (tl joinL numL)
theorem Wd.sets {a b c d e f : Str} {bs ns bs' ns' : List Str} (W : Wd a b c d e f bs ns) (h1 : bs'.Nodup) (h2 : ∀ x, x ∈ bs' → x ∈ wBARS) (h3 : ns'.Nodup) (h4 : ∀ x, x ∈ ns' → x ∈ wNOTES) : Wd a b c d e f bs' ns' := ⟨W.a, W.b, W.c, W.d, W.e, W.f, h1, h2, h3, h4⟩
theorem seqIx {v : Int} {n : Nat} (h0 : 0 ≤ v) (h1 : v < n) : seqIndex? v n = some v.toNat := by
  have e : ¬ v < 0 := by omega
  simp [seqIndex?, e]
  omega
theorem erase_st : ∀ (l : List Str) (i : Nat), (stL l).eraseIdx i = stL (l.eraseIdx i)
  | [], _ => rfl
  | x :: l, 0 => rfl
  | x :: l, i + 1 => by
    show CM.D.str x :: (stL l).eraseIdx i = _
    rw [erase_st l i]
    rfl
theorem popAt_ok {h : CH} {k : Nat} {ds : List CM.D} {v : Int} {j : Nat} {y : CM.D} (e : h.ob k = some (.lst ds)) (l : -(2 ^ 63) ≤ v ∧ v < 2 ^ 63) (si : seqIndex? v ds.length = some j) (a : ds[j]? = some y) : fPopAt (.ref k) [.int v] h = .ok y (h.put k (.lst (ds.eraseIdx j))) := by
  unfold fPopAt
  simp only [e]
  rw [if_pos l]
  simp only [si, a]
theorem append_ok {h : CH} {k : Nat} {ds : List CM.D} {y : CM.D} (e : h.ob k = some (.lst ds)) (l : ds.length < sizeLine) : fAppend (.ref k) [y] h = .ok .non (h.put k (.lst (ds ++ [y]))) := by
  unfold fAppend
  simp only [e]
  rw [if_pos l]
theorem shuffled_sat {r w n : Nat} {h : CH} {ds : List Str} (A : DrawOk r w (n + ds.length) h) (hl : ds.length < 1000) (ok : Layd ds) :
    (F__law_shuffled [.ref r, .lst (stL ds)] h).sat fun d h1 => ∃ zs, d = .lst (stL zs) ∧ zs.Perm ds ∧ DrawOk r w n h1 ∧ Fr [r, w] h h1 := by
  have lt := A.lt
  have ll : ds.length ≤ sizeLine := Nat.le_trans (Nat.le_of_lt hl) (by decide)
  unfold F__law_shuffled bodyF
  rw [sat_res]
  show (u__law_shuffled [some (.ref r), some (.lst (stL ds)), none, none] h).sat _ _
  unfold u__law_shuffled
  rw [s_seq, sat_bindS]
  simp [fListOf, seqOf, mkL]
  unfold Kont
  rw [s_seq, sat_bindS]
  refine sat_while (n := ds.length) (I := fun m ρ h' => ∃ ls fs : List Str, ρ = [some (.ref r), some (.lst (stL ds)), some (.ref h.nx), some (.ref (h.nx + 1))] ∧ h'.ob h.nx = some (.lst (stL ls)) ∧ h'.ob (h.nx + 1) = some (.lst (stL fs)) ∧ (ls ++ fs).Perm ds ∧ ls.length = m ∧ DrawOk r w (n + m) h' ∧ h'.nx = h.nx + 2 ∧ ∀ k, k < h.nx → k ≠ r → k ≠ w → h'.ob k = h.ob k) ?_ (by omega) ?_
  · rintro m ρ h' ⟨ls, fs, rfl, e1, e2, pm, lm, A', nx, fr⟩
    have okl : Layd ls := fun x hx => ok x (pm.mem_iff.mp (List.mem_append_left _ hx))
    simp [mkL, ne_nil_strs okl e1]
    cases ls with
    | nil =>
      simp
      simp only [List.nil_append] at pm
      simp [Kont, fzI, fz, e2]
      refine ⟨fs, rfl, pm, ?_, by show h.nx ≤ h'.nx; omega, fun k hk nk => ?_⟩
      · have A0 : DrawOk r w n h' := by rw [← lm] at A'; exact A'
        exact A0.keep (Nat.le_refl _) fun j hj => del_ne (by rcases hj with rfl | rfl <;> omega)
      · rw [del_ne (by omega)]
        exact fr k hk (fun z => nk (by simp [z])) (fun z => nk (by simp [z]))
    | cons y ls =>
      simp
      refine ⟨ls.length, by simpa using lm.symm, ?_⟩
      have e1' : h'.ob h.nx = some (.lst (CM.D.str y :: stL ls)) := e1
      have e2' : h'.ob (h.nx + 1) = some (.lst (stL fs)) := e2
      simp [isTy, lstOf, e1', e2', fLen, seqOf]
      have lm' : ls.length + 1 = m := lm
      have A2 : DrawOk r w (n + ls.length + 1) h' := by rw [← lm'] at A'; exact A'
      have lsz := pm.length_eq
      simp only [List.length_append, List.length_cons] at lsz
      refine (take_sat A2 (by omega) (by omega)).mono ?_
      rintro d h1 ⟨v, rfl, v0, v1, A3, f3⟩
      have a1 : h1.ob h.nx = some (.lst (stL (y :: ls))) := (f3.2 _ (by omega) (by omega)).trans e1
      have a2 : h1.ob (h.nx + 1) = some (.lst (stL fs)) := (f3.2 _ (by omega) (by omega)).trans e2
      have vn : v.toNat < (y :: ls).length := by simp only [List.length_cons]; omega
      have si : seqIndex? v (ls.length + 1) = some v.toNat := seqIx v0 (by omega)
      have at_ : (stL (y :: ls))[v.toNat]? = some (.str (y :: ls)[v.toNat]) := by
        rw [List.getElem?_map, List.getElem?_eq_getElem vn]
        rfl
      have v63 : -(2 ^ 63) ≤ v ∧ v < 2 ^ 63 := by omega
      have pr : ((y :: ls)[v.toNat] :: (y :: ls).eraseIdx v.toNat).Perm (y :: ls) := erase_perm _ _ _ (List.getElem?_eq_getElem vn)
      rw [popAt_ok a1 v63 (by simpa using si) at_, sat_ok, erase_st]
      have ne1 : h.nx ≠ h.nx + 1 := by omega
      rw [append_ok (ds := stL fs) (by rw [put_ne ne1.symm]; exact a2) (by rw [List.length_map]; exact Nat.lt_of_lt_of_le (by omega) (show 1000 ≤ sizeLine by decide)), sat_ok]
      refine ⟨(y :: ls).eraseIdx v.toNat, by rw [put_ne ne1]; exact put_same, fs ++ [(y :: ls)[v.toNat]], by rw [put_same]; simp [stL], ?_, ?_, ?_, ?_, ?_⟩
      · refine List.Perm.trans ?_ pm
        rw [← List.append_assoc]
        refine (List.perm_append_singleton _ _).trans ?_
        rw [← List.cons_append]
        exact pr.append_right fs
      · have := pr.length_eq
        simp only [List.length_cons] at this
        omega
      · exact A3.keep (Nat.le_refl _) fun j hj => by rw [put_ne (by rcases hj with rfl | rfl <;> omega), put_ne (by rcases hj with rfl | rfl <;> omega)]
      · show h1.nx = h.nx + 2
        rw [f3.1, nx]
      · intro k hk n1 n2
        rw [put_ne (by omega), put_ne (by omega)]
        exact (f3.2 k n1 n2).trans (fr k hk n1 n2)
  · have nw : ∀ k, k < h.nx → ((h.new (.lst (stL ds))).new (.lst [])).ob k = h.ob k := fun k hk => by
      show (if k = h.nx + 1 then _ else if k = h.nx then _ else h.ob k) = _
      rw [if_neg (by omega), if_neg (by omega)]
    refine ⟨ds, [], rfl, ?_, ?_, by simp, rfl, ?_, rfl, fun k hk _ _ => nw k hk⟩
    · show (if h.nx = h.nx + 1 then _ else if h.nx = h.nx then _ else _) = _
      rw [if_neg (by omega), if_pos rfl]
    · show (if h.nx + 1 = h.nx + 1 then _ else _) = _
      rw [if_pos rfl]
      rfl
    · exact A.keep (by show h.nx ≤ h.nx + 2; omega) fun j hj => nw j (by rcases hj with rfl | rfl; exact lt.1; exact lt.2)
section
variable {r w n m k : Nat} {h h1 h' h2 : CH} {kvs kvs' : List (Key × CM.D)}
theorem lay_sub {l ws : List Str} (L : Layd ws) (m : ∀ x, x ∈ l → x ∈ ws) : Layd l := fun x hx => L x (m x hx)
end
end W_whilemerged_k75_texts_of_books
namespace W_whilemerged_k75_texts_of_books
open PySem PySem.Spec PyProof.Rows L2 CM
open TL (tl joinL numL spl pre)
/-- the fields of a book in a dict, named or not -/
def DX (g : CH) (X : CM.D) (B : Bk) : Prop := X = B.f ∨ ∃ k, X = .ref k ∧ g.ob k = some (.dct (fK B))
section
variable {h g : CH} {B B' : Bk} {X : CM.D} {r w n : Nat} {neg : Bool} {page : Str}
theorem DX.ix {f : Str} {d : CM.D} (D : DX g X B) (e : dGet (fK B) (.inr f) = some d) : fIx X (.str f) g = .ok d g := by
  rcases D with rfl | ⟨k, rfl, o⟩
  · exact ixB e
  · exact ixS_of (by simp only [dctOf, o]) (by simp only [seqOf, o]) e
theorem DX.dct (D : DX g X B) : dctOf g X = some (fK B) := by
  rcases D with rfl | ⟨k, rfl, o⟩
  · rfl
  · simp only [dctOf, o]
structure Away (h : CH) (X : CM.D) (r w : Nat) : Prop where
  a : ∀ k, X = .ref k → k < h.nx ∧ k ≠ r ∧ k ≠ w
theorem DX.keep (D : DX h X B) (a : Away h X r w) (f : ∀ j, j < h.nx → j ≠ r → j ≠ w → g.ob j = h.ob j) : DX g X B := by
  rcases D with rfl | ⟨k, rfl, o⟩
  · exact .inl rfl
  · obtain ⟨l, n1, n2⟩ := a.a k rfl
    exact .inr ⟨k, rfl, by rw [f k l n1 n2]; exact o⟩
theorem made_book (W : B.Wf) (D : DX h X B) (aw : Away h X r w) (A : DrawOk r w (n + 8) h) : ∃ h1, F__law_made_book [.ref r, X] h = .ok B.d h1 ∧ DrawOk r w n h1 ∧ h.nx ≤ h1.nx ∧ ∀ j, j < h.nx → j ≠ r → j ≠ w → h1.ob j = h.ob j := by
  have lt := A.lt
  have lb : B.bars.length ≤ 5 := W.sb.length_le
  have ln : B.notes.length ≤ 3 := W.sn.length_le
  have layB : Layd wBARS := by decide +kernel
  have layN : Layd wNOTES := by decide +kernel
  obtain ⟨d1, h1, e1, bs, rfl, pb, A1, f1⟩ := (shuffled_sat (n := n + 3) (ds := B.bars) (h := h) (A.mono (by omega)) (by omega) (lay_sub layB W.wd.bm)).ex
  obtain ⟨d2, h2, e2, ns, rfl, pn, A2, f2⟩ := (shuffled_sat (n := n) (ds := B.notes) (h := h1) (A1.mono (by omega)) (by omega) (lay_sub layN W.wd.nm)).ex
  have Wd' : Wd B.up B.down B.writes B.moves B.finish B.counts bs ns := W.wd.sets (pb.nodup_iff.mpr W.wd.bn) (fun x hx => W.wd.bm x (pb.mem_iff.mp hx)) (pn.nodup_iff.mpr W.wd.nn) fun x hx => W.wd.nm x (pn.mem_iff.mp hx)
  obtain ⟨z, h3, e3, rfl, kp⟩ := (make_sat (h := h2) (X := .tup (stL bs)) (Y := .lst (stL ns)) Wd' (.inr (.inr rfl)) (.inr (.inl rfl)) (fun k z => by cases z) (fun k z => by cases z)).ex
  have eb : sortS bs = B.bars := (sortS_same pb).trans (srt_sub W.sb bars_srt)
  have en : sortS ns = B.notes := (sortS_same pn).trans (srt_sub W.sn notes_srt)
  rw [eb, en] at e3
  have lt2 := A2.lt
  have k1 : ∀ j, j < h.nx → j ≠ r → j ≠ w → h1.ob j = h.ob j := fun j hj n1 n2 => f1.2 j hj (by simp [n1, n2])
  have k2 : ∀ j, j < h.nx → j ≠ r → j ≠ w → h2.ob j = h.ob j := fun j hj n1 n2 => by
    rw [f2.2 j (by have := f1.1; omega) (by simp [n1, n2])]
    exact k1 j hj n1 n2
  have D1 : DX h1 X B := D.keep aw k1
  have D2 : DX h2 X B := D.keep aw k2
  refine ⟨h3, ?_, A2.keep kp.nx fun j hj => kp.ob j (by rcases hj with rfl | rfl <;> omega), by have := f1.1; have := f2.1; have := kp.nx; omega, fun j hj n1 n2 => ?_⟩
  · show (u__law_made_book [some (.ref r), some X, none, none, none] h).res = _
    unfold u__law_made_book
    have x1 : fIx X (.str (Str.ofString "bars")) h = .ok (.lst (stL B.bars)) h := D.ix (by kernel_rfl)
    have x2 : fIx X (.str (Str.ofString "notes")) h1 = .ok (.lst (stL B.notes)) h1 := D1.ix (by kernel_rfl)
    have y1 : fIx X (.str (Str.ofString "up")) h2 = .ok (.str B.up) h2 := D2.ix (by kernel_rfl)
    have y2 : fIx X (.str (Str.ofString "down")) h2 = .ok (.str B.down) h2 := D2.ix (by kernel_rfl)
    have y3 : fIx X (.str (Str.ofString "writes")) h2 = .ok (.str B.writes) h2 := D2.ix (by kernel_rfl)
    have y4 : fIx X (.str (Str.ofString "moves")) h2 = .ok (.str B.moves) h2 := D2.ix (by kernel_rfl)
    have y5 : fIx X (.str (Str.ofString "finish")) h2 = .ok (.str B.finish) h2 := D2.ix (by kernel_rfl)
    have y6 : fIx X (.str (Str.ofString "counts")) h2 = .ok (.str B.counts) h2 := D2.ix (by kernel_rfl)
    have t0 : (dPar 2 3 (dCons (dCall 2 F__law_shuffled (dCons (dVar 0) (dCons (dOp fIx (dVar 1) (dC (.str (Str.ofString "bars")))) (dNil)))) (dCons (dCall 2 F__law_shuffled (dCons (dVar 0) (dCons (dOp fIx (dVar 1) (dC (.str (Str.ofString "notes")))) (dNil)))) (dNil)))) [some (.ref r), some X, none, none, none] h = .nx [some (.ref r), some X, some (.lst (stL bs)), some (.lst (stL ns)), none] h2 := by
      simp [e1, e2, x1, x2]
    rw [s_seq, t0, sbind_nx]
    have t1 : (dMakeN 7 true 1 8 ([.p 0, .k 0, .k 1, .k 2, .k 3, .k 4, .k 5, .k 6, .k 7]) F_Book_init (dNil) (dCons (dOp fIx (dVar 1) (dC (.str (Str.ofString "up")))) (dCons (dOp fIx (dVar 1) (dC (.str (Str.ofString "down")))) (dCons (dOp fIx (dVar 1) (dC (.str (Str.ofString "writes")))) (dCons (dOp fIx (dVar 1) (dC (.str (Str.ofString "moves")))) (dCons (dOp fIx (dVar 1) (dC (.str (Str.ofString "finish")))) (dCons (dOp fIx (dVar 1) (dC (.str (Str.ofString "counts")))) (dCons (dCB fTupOf (dCons (dVar 2) (dNil))) (dCons (dVar 3) (dNil)))))))))) [some (.ref r), some X, some (.lst (stL bs)), some (.lst (stL ns)), none] h2 = .ok B.d h3 := by
      rw [e_makeN, e_nil, bind_ok]
      have tp : fTupOf [.lst (stL bs)] h2 = .ok (.tup (stL bs)) h2 := rfl
      simp only [e_cons, e_op, e_C, e_CB, e_var, List.getElem?_cons_succ, List.getElem?_cons_zero, bind_ok, y1, y2, y3, y4, y5, y6, tp, e_nil]
      rw [if_pos ⟨rfl, rfl⟩]
      exact e3
    rw [s_seq, asg_of t1 rfl, sbind_nx]
    rfl
  · rw [kp.ob j (by have := f1.1; have := f2.1; omega)]
    exact k2 j hj n1 n2
/-- the text tells the book -/
theorem rows_free (W : B.Wf) : ∀ x ∈ (fldsB B).map rowW ++ [("" : Str)], 10 ∉ tl x := fun x hx => by
  rcases List.mem_append.mp hx with hx | hx
  · obtain ⟨ws, hw, rfl⟩ := List.mem_map.mp hx
    have f := fld_wo W ws hw
    exact (row_nice f.1 f.2.1 f.2.2).2.1
  · rw [List.mem_singleton] at hx
    rw [hx, tl_em]
    simp
theorem page_split (W : B.Wf) : Txt.split (pageB B) "\n" = (fldsB B).map rowW ++ [("" : Str)] := by
  rw [pageB_join]
  exact TL.split_join (s := 10) (S := []) tl_nl (by decide +kernel) (by simp) (rows_free W)
theorem row_split (W : B.Wf) : ∀ ws ∈ fldsB B, Txt.split (rowW ws) " " = ws := fun ws hw => by
  have f := fld_wo W ws hw
  exact TL.split_join (s := 32) (S := []) tl_sp (by decide +kernel) f.2.1 fun x hx => (f.1 x hx).b
theorem page_inj (W : B.Wf) (W' : B'.Wf) (e : pageB B = pageB B') : B = B' := by
  have e1 : (fldsB B).map rowW ++ [("" : Str)] = (fldsB B').map rowW ++ [("" : Str)] := by rw [← page_split W, ← page_split W', e]
  have e2 : (fldsB B).map rowW = (fldsB B').map rowW := List.append_cancel_right e1
  have sp : ∀ {C : Bk}, C.Wf → ((fldsB C).map rowW).map (fun x => Txt.split x " ") = fldsB C := fun {C} WC => by
    rw [List.map_map]
    have : (fldsB C).map ((fun x => Txt.split x " ") ∘ rowW) = (fldsB C).map id := List.map_congr_left fun ws hw => row_split WC ws hw
    rw [this, List.map_id]
  have e3 : fldsB B = fldsB B' := by rw [← sp W, ← sp W', e2]
  obtain ⟨a, b, c, d, x, f, g, i⟩ := B
  obtain ⟨a', b', c', d', x', f', g', i'⟩ := B'
  simp only [fldsB, List.cons.injEq, and_true, true_and] at e3
  obtain ⟨rfl, rfl, rfl, rfl, rfl, rfl, rfl, rfl⟩ := e3
  rfl
theorem sub_in {k : Nat} {ws : List Str} (h6 : 6 ≤ k) (s : ws.Sublist (knownW k)) : ws = inW k ws := by
  have K := known_nd h6
  rw [← in_order h6 fun x hx => s.subset hx, ded_nodup (K.1.sublist s), srt_sub s K.2]
theorem own_fbl (W : B.Wf) : fbl 0 ((fldsB B).map rowW) = none := by
  have two : ∀ (k : Nat) (v : Str), k < 6 → v ∈ knownW k → [nameW k, v] ∈ fldsB B → okAt k (rowW [nameW k, v]) = true := fun k v k6 m mem => by
    unfold okAt
    rw [row_split W _ mem]
    show (decide (k < 8) && okRow k (nameW k) [v]) = true
    unfold okRow okWs
    rw [if_pos k6, decide_eq_true (show k < 8 by omega)]
    simp [m]
  have many : ∀ (k : Nat) (ws : List Str), 6 ≤ k → k < 8 → ws.Sublist (knownW k) → (nameW k :: ws) ∈ fldsB B → okAt k (rowW (nameW k :: ws)) = true := fun k ws h6 k8 s mem => by
    unfold okAt
    rw [row_split W _ mem]
    show (decide (k < 8) && okRow k (nameW k) ws) = true
    unfold okRow okWs
    rw [if_neg (by omega), decide_eq_true k8, decide_eq_true (sub_in h6 s)]
    simp
  have o0 := two 0 B.up (by omega) W.wd.a (by simp [fldsB, nameW])
  have o1 := two 1 B.down (by omega) W.wd.b (by simp [fldsB, nameW])
  have o2 := two 2 B.writes (by omega) W.wd.c (by simp [fldsB, nameW])
  have o3 := two 3 B.moves (by omega) W.wd.d (by simp [fldsB, nameW])
  have o4 := two 4 B.finish (by omega) W.wd.e (by simp [fldsB, nameW])
  have o5 := two 5 B.counts (by omega) W.wd.f (by simp [fldsB, nameW])
  have o6 := many 6 B.bars (by omega) (by omega) W.sb (by simp [fldsB, nameW])
  have o7 := many 7 B.notes (by omega) (by omega) W.sn (by simp [fldsB, nameW])
  show fbl 0 [rowW [nameW 0, B.up], rowW [nameW 1, B.down], rowW [nameW 2, B.writes], rowW [nameW 3, B.moves], rowW [nameW 4, B.finish], rowW [nameW 5, B.counts], rowW (nameW 6 :: B.bars), rowW (nameW 7 :: B.notes)] = none
  simp only [fbl, Nat.zero_add, Nat.reduceAdd, o0, o1, o2, o3, o4, o5, o6, o7, if_true]
theorem read_own (W : B.Wf) : ∃ h', Fr [] h h' ∧ F_read_book [.str (pageB B)] h = .ok B.d h' := by
  obtain ⟨np, lp⟩ := pageB_nice W
  have P : Pg (pageB B) ((fldsB B).map rowW) "" := ⟨page_split W, by omega, np.mono (by omega)⟩
  obtain ⟨h', f, q⟩ := read_page_ok P (h := h)
  have b : badN ((fldsB B).map rowW) "" = none := by
    unfold badN
    rw [own_fbl W]
    exact if_pos ⟨rfl, by rw [List.length_map]; rfl⟩
  rw [b] at q
  obtain ⟨B2, W2, pg, q⟩ := q
  have := page_inj W2 W pg
  subst this
  exact ⟨h', f, q⟩
/-- == of books -/
abbrev nf75 : Tg → Bool := fun t => decide (t ∈ [.b "NoneType", .b "bool", .b "int", .b "str", .b "list", .b "tuple", .b "dict", .o 0, .o 1, .o 2, .o 3, .o 4, .o 5, .o 6, .o 7])
theorem eq_tupS2 (ws ws' : List Str) (ok : Layd ws) (ok' : Layd ws') : fEq neg (.tup (stL ws)) (.tup (stL ws')) h = .ok (.bl (bneg neg (decide (ws = ws')))) h := by
  have e1 : ∀ ws : List Str, toP h 10 (.tup (ws.map CM.D.str)) = some (.tuple (ws.map PyData.str)) := fun ws => by
    show ((ws.map CM.D.str).mapM (toP h 9)).map PyData.tuple = _
    rw [toP_strs (h := h) (k := 8) ws]
    rfl
  have e5 : scalD (.tup (ws.map CM.D.str)) (.tup (ws'.map CM.D.str)) = false := rfl
  unfold fEq
  rw [e5, e1, e1]
  simp [shapedT_strs ws ok, shapedT_strs ws' ok', PyData.eqv, eqvAll_strs]
theorem wf_layd (W : B.Wf) : Layd [B.up, B.down, B.writes, B.moves, B.finish, B.counts] ∧ Layd B.bars ∧ Layd B.notes := by
  refine ⟨lay_sg fun x hx => ?_, lay_sub (by decide +kernel : Layd wBARS) W.wd.bm, lay_sub (by decide +kernel : Layd wNOTES) W.wd.nm⟩
  simp only [List.mem_cons, List.not_mem_nil, or_false] at hx
  rcases hx with rfl | rfl | rfl | rfl | rfl | rfl
  · exact (wo_all (l := wUP) (by decide +kernel) W.wd.a).s
  · exact (wo_all (l := wDOWN) (by decide +kernel) W.wd.b).s
  · exact (wo_all (l := wWRITES) (by decide +kernel) W.wd.c).s
  · exact (wo_all (l := wMOVES) (by decide +kernel) W.wd.d).s
  · exact (wo_all (l := wFINISH) (by decide +kernel) W.wd.e).s
  · exact (wo_all (l := wCOUNTS) (by decide +kernel) W.wd.f).s
theorem bk_eq : (B = B') ↔ ([B.up, B.down, B.writes, B.moves, B.finish, B.counts] = [B'.up, B'.down, B'.writes, B'.moves, B'.finish, B'.counts] ∧ B.bars = B'.bars ∧ B.notes = B'.notes) := by
  constructor
  · rintro rfl
    exact ⟨rfl, rfl, rfl⟩
  · obtain ⟨a, b, c, d, x, f, g, i⟩ := B
    obtain ⟨a', b', c', d', x', f', g', i'⟩ := B'
    rintro ⟨e1, rfl, rfl⟩
    simp only [List.cons.injEq, and_true] at e1
    obtain ⟨rfl, rfl, rfl, rfl, rfl, rfl⟩ := e1
    rfl
instance : DecidableEq Bk := fun B B' => decidable_of_iff _ bk_eq.symm
theorem own_gen (W : B.Wf) (W' : B'.Wf) : fOwn 7 nf75 [7] neg F_Book_eq B.d B'.d h = .ok (.bl (decide (B = B') != neg)) h := by
  obtain ⟨y1, y2, y3⟩ := wf_layd W
  obtain ⟨z1, z2, z3⟩ := wf_layd W'
  have e1 : F_Book_eq [B.d, B'.d] h = .ok (.bl (decide (B = B'))) h := by
    have t1 := eq_tupS2 (neg := false) (h := h) _ _ y1 z1
    have t2 := eq_tupS2 (neg := false) (h := h) _ _ y2 z2
    have t3 := eq_tupS2 (neg := false) (h := h) _ _ y3 z3
    have i1 : fIsX xs0 [7] kt0 [B'.d, .cls 7] h = .ok (.bl true) h := is_book
    have f1 : ∀ C : Bk, fFld [7] (Str.ofString "b_words") C.d h = .ok (.tup (stL [C.up, C.down, C.writes, C.moves, C.finish, C.counts])) h := fun C => by kernel_rfl
    have f2 : ∀ C : Bk, fFld [7] (Str.ofString "b_bars") C.d h = .ok (.tup (stL C.bars)) h := fun C => by kernel_rfl
    have f3 : ∀ C : Bk, fFld [7] (Str.ofString "b_notes") C.d h = .ok (.tup (stL C.notes)) h := fun C => by kernel_rfl
    rw [decide_eq_decide.mpr bk_eq]
    unfold F_Book_eq bodyF
    show (u_Book_eq [some B.d, some B'.d] h).res = _
    unfold u_Book_eq
    simp only [s_seq, s_if, e_not, e_B, e_CB, e_cons, e_nil, e_var, e_C, bind_ok, i1, asB_bl, toS_ok, Bool.not_true, Bool.false_eq_true, if_false, s_next, sbind_nx, s_ret, e_andV, e_op, e_un, f1, f2, f3, t1, t2, t3, b_f, List.getElem?_cons_zero, List.getElem?_cons_succ]
    by_cases q1 : [B.up, B.down, B.writes, B.moves, B.finish, B.counts] = [B'.up, B'.down, B'.writes, B'.moves, B'.finish, B'.counts]
    · rw [decide_eq_true q1]
      by_cases q2 : B.bars = B'.bars
      · rw [decide_eq_true q2]
        simp only [if_true, bind_ok, toS_ok, res_rt]
        have q3 : decide ([B.up, B.down, B.writes, B.moves, B.finish, B.counts] = [B'.up, B'.down, B'.writes, B'.moves, B'.finish, B'.counts] ∧ B.bars = B'.bars ∧ B.notes = B'.notes) = decide (B.notes = B'.notes) := decide_eq_decide.mpr ⟨fun z => z.2.2, fun z => ⟨q1, q2, z⟩⟩
        rw [q3]
      · rw [decide_eq_false q2]
        simp only [if_true, bind_ok, if_false, Bool.false_eq_true, toS_ok, res_rt]
        rw [decide_eq_false (show ¬ ([B.up, B.down, B.writes, B.moves, B.finish, B.counts] = [B'.up, B'.down, B'.writes, B'.moves, B'.finish, B'.counts] ∧ B.bars = B'.bars ∧ B.notes = B'.notes) from fun z => q2 z.2.1)]
    · rw [decide_eq_false q1]
      simp only [if_false, Bool.false_eq_true, toS_ok, res_rt]
      rw [decide_eq_false (show ¬ ([B.up, B.down, B.writes, B.moves, B.finish, B.counts] = [B'.up, B'.down, B'.writes, B'.moves, B'.finish, B'.counts] ∧ B.bars = B'.bars ∧ B.notes = B'.notes) from fun z => q1 z.1)]
  unfold fOwn
  have e0 : objOf h B.d = some (7, bkF B) := rfl
  have e2 : tgOf h B'.d = some (.o 7) := rfl
  have e3 : nf75 (.o 7) = true := by decide +kernel
  have e4 : okTg [7] (.o 7) = true := by decide
  simp only [e0, e2]
  rw [if_pos ⟨trivial, e3, e4⟩, e1]
  rfl
end
end W_whilemerged_k75_texts_of_books
namespace W_whilemerged_k75_texts_of_books
open PySem PySem.Spec PyProof.Rows L2 CM
open TL (tl joinL numL spl pre)
def lb_0 : SD := dAsg (dCall 1 F__law_drawn_book (dCons (dVar 1) (dNil))) (gdName 3)
def lb_1 : SD := dAsg (dTup (dCons (dCall 2 F__law_made_book (dCons (dVar 1) (dCons (dVar 3) (dNil)))) (dCons (dCall 1 F__law_page (dCons (dVar 3) (dNil))) (dNil)))) (gdTup 2 (gdCons (gdName 4) (gdCons (gdName 5) (gdNil))))
def lb_2 : SD := dIfS (dB (dOp (fEq true) (dCB fRepA (dCons (dLst false (dCons (dCall 1 F_book_text (dCons (dVar 4) (dNil))) (dCons (dCallN 0 1 ([.k 0]) F_book_text (dNil) (dCons (dVar 4) (dNil))) (dNil)))) (dNil))) (dCB fRepA (dCons (dLst false (dCons (dVar 5) (dCons (dVar 5) (dNil)))) (dNil))))) (dRet (dC (.bl false))) (dNext)
def lb_3 : SD := dAsg (dLst false (dCons (dCall 1 F_read_book (dCons (dVar 5) (dNil))) (dCons (dCallN 0 1 ([.k 0]) F_read_book (dNil) (dCons (dVar 5) (dNil))) (dNil)))) (gdName 6)
def lb_4 : SD := dIfS (dB (dOp (fEq true) (dLc false (dSeqI (dVar 6)) (gdName 7) (dOr (dNot (dB (dCB (fIsX xs0 [7] kt0) (dCons (dVar 7) (dCons (dC (.cls 7)) (dNil)))))) (dOr (dB (dOp (fOwn 7 (fun t => decide (t ∈ [.b "NoneType", .b "bool", .b "int", .b "str", .b "list", .b "tuple", .b "dict", .o 0, .o 1, .o 2, .o 3, .o 4, .o 5, .o 6, .o 7])) [7] true F_Book_eq) (dVar 7) (dVar 4))) (dB (dOp (fEq true) (dCall 1 F_book_text (dCons (dVar 7) (dNil))) (dVar 5))))) (dVar 7) [7]) (dLst false (dNil)))) (dRet (dC (.bl false))) (dNext)
def lb_5 : SD := dAsg (dCall 2 F__law_pick (dCons (dVar 1) (dCons (dCB (fSrtDS false) (dCons (dVar 3) (dNil))) (dNil)))) (gdName 8)
def lb_6 : SD := dAsg (dCB (fDctOf true) (dCons (dVar 3) (dNil))) (gdName 9)
def lb_7 : SD := dAsg (dOp fIx (dCall 1 F__law_drawn_book (dCons (dVar 1) (dNil))) (dVar 8)) (gdSub (dVar 9) (dVar 8))
def lb_8 : SD := dAsg (dCall 2 F__law_made_book (dCons (dVar 1) (dCons (dVar 9) (dNil)))) (gdName 10)
def lb_9 : SD := dIfS (dOr (dB (dOp (fEq true) (dOp (fOwn 7 (fun t => decide (t ∈ [.b "NoneType", .b "bool", .b "int", .b "str", .b "list", .b "tuple", .b "dict", .o 0, .o 1, .o 2, .o 3, .o 4, .o 5, .o 6, .o 7])) [7] false F_Book_eq) (dVar 10) (dVar 4)) (dOp (fEqDP false) (dVar 9) (dVar 3)))) (dB (dOp (fEq true) (dOp (fEq false) (dCall 1 F_book_text (dCons (dVar 10) (dNil))) (dVar 5)) (dOp (fEqDP false) (dVar 9) (dVar 3))))) (dRet (dC (.bl false))) (dNext)
def lb_10 : SD := dIfS (dOr (dB (dOp (fEq true) (dLc false (dSeqI (dVar 6)) (gdName 7) (dYes) (dProp 7 F_Book_bars (dVar 7)) [7]) (dLst false (dCons (dProp 7 F_Book_bars (dVar 4)) (dCons (dProp 7 F_Book_bars (dVar 4)) (dNil)))))) (dB (dOp (fEq true) (dProp 7 F_Book_notes (dVar 4)) (dCB fTupOf (dCons (dOp fIx (dVar 3) (dC (.str "notes"))) (dNil)))))) (dRet (dC (.bl false))) (dNext)
def lb_11 : SD := dAsg (dCall 2 F__law_pick (dCons (dVar 1) (dCons (dLst false (dCons (dC .non) (dCons (dC (.int 5)) (dCons (dC (.str "")) (dCons (dVar 5) (dCons (dTup (dNil)) (dCons (dLst false (dNil)) (dCons (dVar 3) (dCons (dC (.bl true)) (dCons (dC (.str "book")) (dCons (dCall 1 F__law_odd (dCons (dVar 1) (dNil))) (dNil)))))))))))) (dNil)))) (gdName 11)
def lb_12 : SD := dIfS (dNot (dB (dLamC 2 F__law_is (dCall 1 F_book_text (dCons (dVar 11) (dNil))) (dCons (dC (.str "book")) (dCons (dC (.str "book")) (dNil)))))) (dRet (dC (.bl false))) (dNext)
def lb_k12 : SD := lb_12
def lb_k11 : SD := dSeq lb_11 lb_k12
def lb_k10 : SD := dSeq lb_10 lb_k11
def lb_k9 : SD := dSeq lb_9 lb_k10
def lb_k8 : SD := dSeq lb_8 lb_k9
def lb_k7 : SD := dSeq lb_7 lb_k8
def lb_k6 : SD := dSeq lb_6 lb_k7
def lb_k5 : SD := dSeq lb_5 lb_k6
def lb_k4 : SD := dSeq lb_4 lb_k5
def lb_k3 : SD := dSeq lb_3 lb_k4
def lb_k2 : SD := dSeq lb_2 lb_k3
def lb_k1 : SD := dSeq lb_1 lb_k2
def lb_k0 : SD := dSeq lb_0 lb_k1
def lrng : TDw := (dRng1 (dCons (dOp (fAdd false) (dC (.int 5)) (dCB fMin (dCons (dCB fLen (dCons (dVar 0) (dNil))) (dCons (dC (.int 20)) (dNil))))) (dNil)))
def lend : SD := dRet (dC (.bl true))
theorem law_u : u_law = dSeq (dAsg (dCall 1 F__law_begun (dCons (dVar 0) (dNil))) (gdName 1)) (dSeq (dFor lrng (gdName 2) lb_k0) lend) := rfl
section
variable {h h' : CH} {page : Str} {r w i j n m k : Nat} {ds l : List CM.D} {ρ : DE} {B C : Bk} {x0 x2 x3 x4 x5 x6 x7 x8 x9 x10 x11 : Option CM.D}
theorem Bk.f_ne {k : Nat} : B.f ≠ .ref k := fun z => by unfold Bk.f at z; cases z
theorem st0 (A : DrawOk r w (n + 20) h) : ∃ (B : Bk) (h1 : CH), lb_0 [x0, some (.ref r), x2, x3, x4, x5, x6, x7, x8, x9, x10, x11] h = .nx [x0, some (.ref r), x2, some B.f, x4, x5, x6, x7, x8, x9, x10, x11] h1 ∧ B.Wf ∧ DrawOk r w n h1 := by
  obtain ⟨B, h1, e1, W, A1, _⟩ := drawn_book A
  refine ⟨B, h1, ?_, W, A1⟩
  unfold lb_0
  rw [s_asg, e_call]
  simp only [e_cons, e_var, List.getElem?_cons_succ, List.getElem?_cons_zero, bind_ok, e_nil, List.length_cons, List.length_nil]
  rw [if_pos trivial, e1]
  rfl
theorem st1 (W : B.Wf) (A : DrawOk r w (n + 8) h) : ∃ h1, lb_1 [x0, some (.ref r), x2, some B.f, x4, x5, x6, x7, x8, x9, x10, x11] h = .nx [x0, some (.ref r), x2, some B.f, some B.d, some (.str (pageB B)), x6, x7, x8, x9, x10, x11] h1 ∧ DrawOk r w n h1 := by
  obtain ⟨h1, e1, A1, _⟩ := made_book (h := h) W (X := B.f) (.inl rfl) ⟨fun k z => absurd z Bk.f_ne⟩ A
  refine ⟨h1, ?_, A1⟩
  unfold lb_1
  have t : (dTup (dCons (dCall 2 F__law_made_book (dCons (dVar 1) (dCons (dVar 3) (dNil)))) (dCons (dCall 1 F__law_page (dCons (dVar 3) (dNil))) (dNil)))) [x0, some (.ref r), x2, some B.f, x4, x5, x6, x7, x8, x9, x10, x11] h = .ok (.tup [B.d, .str (pageB B)]) h1 := by
    simp only [e_tup, e_call, e_cons, e_var, List.getElem?_cons_succ, List.getElem?_cons_zero, bind_ok, e_nil, List.length_cons, List.length_nil, if_pos, e1, law_page_ok W]
    rfl
  exact asg_of t rfl
theorem rep_two (W : B.Wf) : ∃ t, ∀ g : CH, fRepA [.lst [.str (pageB B), .str (pageB B)]] g = .ok (.str t) g := by
  obtain ⟨np, lp⟩ := pageB_nice W
  refine rep_list (wt := 488) (fun d hd => ?_) (by simp)
  have : d = .str (pageB B) := by simpa using hd
  subst this
  exact SW.str (fun c hc => Nat.lt_trans (np.s.c c hc) (by decide)) (by rw [← TL.len_tl]; exact lp)
theorem st2 (W : B.Wf) : ∃ h1, Fr [] h h1 ∧ lb_2 [x0, some (.ref r), x2, x3, some B.d, some (.str (pageB B)), x6, x7, x8, x9, x10, x11] h = .nx [x0, some (.ref r), x2, x3, some B.d, some (.str (pageB B)), x6, x7, x8, x9, x10, x11] h1 := by
  obtain ⟨h1, e1, f1⟩ := book_text_ok (h := h) W
  obtain ⟨h2, e2, f2⟩ := book_text_ok (h := h1) W
  obtain ⟨t, et⟩ := rep_two W
  refine ⟨h2, Fr.trans f1 f2, ?_⟩
  have c1 : dCallN 0 1 ([.k 0]) F_book_text (dNil) (dCons (dVar 4) (dNil)) [x0, some (.ref r), x2, x3, some B.d, some (.str (pageB B)), x6, x7, x8, x9, x10, x11] h1 = .ok (.str (pageB B)) h2 := by
    rw [← e2]
    rfl
  unfold lb_2
  rw [s_if]
  simp only [e_B, e_op, e_CB, e_lst, e_call, e_cons, e_C, e_var, List.getElem?_cons_succ, List.getElem?_cons_zero, bind_ok, e_nil, List.length_cons, List.length_nil, e1, c1, if_true, if_pos (show 0 + 1 + 1 ≤ sizeLine by decide)]
  simp only [mkL_f, bind_ok, et, eq_ss, b_t, beq_self_eq_true, Bool.not_true, asB_bl, toS_ok, if_neg (show ¬ (false = true) by decide), s_next]
  first | rfl | skip
theorem st3 (W : B.Wf) : ∃ h1, Fr [] h h1 ∧ lb_3 [x0, some (.ref r), x2, x3, x4, some (.str (pageB B)), x6, x7, x8, x9, x10, x11] h = .nx [x0, some (.ref r), x2, x3, x4, some (.str (pageB B)), some (.lst [B.d, B.d]), x7, x8, x9, x10, x11] h1 := by
  obtain ⟨h1, f1, e1⟩ := read_own (h := h) W
  obtain ⟨h2, f2, e2⟩ := read_own (h := h1) W
  refine ⟨h2, Fr.trans f1 f2, ?_⟩
  have c1 : dCallN 0 1 ([.k 0]) F_read_book (dNil) (dCons (dVar 5) (dNil)) [x0, some (.ref r), x2, x3, x4, some (.str (pageB B)), x6, x7, x8, x9, x10, x11] h1 = .ok B.d h2 := by
    rw [← e2]
    rfl
  unfold lb_3
  have t : dLst false (dCons (dCall 1 F_read_book (dCons (dVar 5) (dNil))) (dCons (dCallN 0 1 ([.k 0]) F_read_book (dNil) (dCons (dVar 5) (dNil))) (dNil))) [x0, some (.ref r), x2, x3, x4, some (.str (pageB B)), x6, x7, x8, x9, x10, x11] h = .ok (.lst [B.d, B.d]) h2 := by
    simp only [e_lst, e_call, e_cons, e_var, List.getElem?_cons_succ, List.getElem?_cons_zero, bind_ok, e_nil, List.length_cons, List.length_nil, e1, c1, if_true]
    rfl
  exact asg_of t rfl
theorem lcL_no {tg : TGD} {tt : TB} {te : TD} {ρ0 ρ2 : DE} {d : CM.D} {r : List CM.D} {h h1 : CH} (e1 : tg d ρ0 h = .ok ρ2 h) (e2 : tt ρ2 h = .ok false h1) : dLcL tg tt te ρ0 (d :: r) h = dLcL tg tt te ρ0 r h1 := by
  show ((tg d ρ0 h).calm fun ρ2 h => _) = _
  rw [e1]
  show ((tt ρ2 h).calm fun b h => _) = _
  rw [e2]
  rfl
def tt4 : TB := (dOr (dNot (dB (dCB (fIsX xs0 [7] kt0) (dCons (dVar 7) (dCons (dC (.cls 7)) (dNil)))))) (dOr (dB (dOp (fOwn 7 (fun t => decide (t ∈ [.b "NoneType", .b "bool", .b "int", .b "str", .b "list", .b "tuple", .b "dict", .o 0, .o 1, .o 2, .o 3, .o 4, .o 5, .o 6, .o 7])) [7] true F_Book_eq) (dVar 7) (dVar 4))) (dB (dOp (fEq true) (dCall 1 F_book_text (dCons (dVar 7) (dNil))) (dVar 5)))))
theorem tt4_ok (W : B.Wf) : ∃ h1, Fr [] h h1 ∧ tt4 [x0, some (.ref r), x2, x3, some B.d, some (.str (pageB B)), x6, some B.d, x8, x9, x10, x11] h = .ok false h1 := by
  obtain ⟨h1, e1, f1⟩ := book_text_ok (h := h) W
  refine ⟨h1, f1, ?_⟩
  have ib := is_book (h := h) (B := B)
  have o := own_gen (h := h) (neg := true) W W
  unfold tt4
  simp only [e_or, e_not, e_B, e_op, e_CB, e_call, e_cons, e_C, e_var, List.getElem?_cons_succ, List.getElem?_cons_zero, bind_ok, e_nil, List.length_cons, List.length_nil, if_true, ib, asB_bl, Bool.not_true, if_neg (show ¬ (false = true) by decide)]
  rw [show (fun t => decide (t ∈ [Tg.b "NoneType", .b "bool", .b "int", .b "str", .b "list", .b "tuple", .b "dict", .o 0, .o 1, .o 2, .o 3, .o 4, .o 5, .o 6, .o 7])) = nf75 from rfl, o]
  simp only [decide_true, bind_ok, asB_bl, bne_self_eq_false, if_neg (show ¬ (false = true) by decide), e1, eq_ss, b_t, beq_self_eq_true, Bool.not_true]
theorem st4 (W : B.Wf) : ∃ h1, Fr [] h h1 ∧ lb_4 [x0, some (.ref r), x2, x3, some B.d, some (.str (pageB B)), some (.lst [B.d, B.d]), x7, x8, x9, x10, x11] h = .nx [x0, some (.ref r), x2, x3, some B.d, some (.str (pageB B)), some (.lst [B.d, B.d]), x7, x8, x9, x10, x11] h1 := by
  obtain ⟨h1, f1, e1⟩ := tt4_ok (h := h) (x0 := x0) (x2 := x2) (x3 := x3) (x6 := some (.lst [B.d, B.d])) (x8 := x8) (x9 := x9) (x10 := x10) (x11 := x11) (r := r) W
  obtain ⟨h2, f2, e2⟩ := tt4_ok (h := h1) (x0 := x0) (x2 := x2) (x3 := x3) (x6 := some (.lst [B.d, B.d])) (x8 := x8) (x9 := x9) (x10 := x10) (x11 := x11) (r := r) W
  refine ⟨h2, Fr.trans f1 f2, ?_⟩
  have it : dSeqI (dVar 6) [x0, some (.ref r), x2, x3, some B.d, some (.str (pageB B)), some (.lst [B.d, B.d]), x7, x8, x9, x10, x11] h = .ok ([B.d, B.d], none) h := by rfl
  have lc : dLc false (dSeqI (dVar 6)) (gdName 7) tt4 (dVar 7) [7] [x0, some (.ref r), x2, x3, some B.d, some (.str (pageB B)), some (.lst [B.d, B.d]), x7, x8, x9, x10, x11] h = .ok (.lst []) h2 := by
    unfold dLc
    rw [it, bind_ok]
    have g : ([B.d, B.d], (none : Option (Nat × MO))).1.length ≤ sizeLine := by show 2 ≤ sizeLine; decide
    rw [if_pos g]
    have w0 : wipeD [x0, some (.ref r), x2, x3, some B.d, some (.str (pageB B)), some (.lst [B.d, B.d]), x7, x8, x9, x10, x11] [7] = [x0, some (.ref r), x2, x3, some B.d, some (.str (pageB B)), some (.lst [B.d, B.d]), none, x8, x9, x10, x11] := rfl
    rw [w0, lcL_no (ρ2 := [x0, some (.ref r), x2, x3, some B.d, some (.str (pageB B)), some (.lst [B.d, B.d]), some B.d, x8, x9, x10, x11]) rfl e1, lcL_no (ρ2 := [x0, some (.ref r), x2, x3, some B.d, some (.str (pageB B)), some (.lst [B.d, B.d]), some B.d, x8, x9, x10, x11]) rfl e2]
    rfl
  show dIfS (dB (dOp (fEq true) (dLc false (dSeqI (dVar 6)) (gdName 7) tt4 (dVar 7) [7]) (dLst false (dNil)))) (dRet (dC (.bl false))) (dNext) _ _ = _
  rw [s_if, e_B, e_op, lc, bind_ok]
  kernel_rfl
def keys8 : List Str := [Str.ofString "bars", Str.ofString "counts", Str.ofString "down", Str.ofString "finish", Str.ofString "moves", Str.ofString "notes", Str.ofString "up", Str.ofString "writes"]
theorem st5 (A : DrawOk r w (n + 1) h) : ∃ s h1, lb_5 [x0, some (.ref r), x2, some B.f, x4, x5, x6, x7, x8, x9, x10, x11] h = .nx [x0, some (.ref r), x2, some B.f, x4, x5, x6, x7, some (.str s), x9, x10, x11] h1 ∧ s ∈ keys8 ∧ DrawOk r w n h1 := by
  obtain ⟨d, h1, e1, ⟨s, ms, rfl, A1, f1⟩⟩ := (pickSY (n := n) A (l := keys8) (by decide) (by decide)).ex
  refine ⟨s, h1, ?_, ms, A1⟩
  have t : fSrtDS false [B.f] h = .ok (.lst (stL keys8)) h := by kernel_rfl
  unfold lb_5
  rw [s_asg, e_call]
  simp only [e_cons, e_CB, e_var, List.getElem?_cons_succ, List.getElem?_cons_zero, bind_ok, t, e_nil, List.length_cons, List.length_nil]
  rw [if_pos trivial, e1]
  rfl
theorem st6 : lb_6 [x0, some (.ref r), x2, some B.f, x4, x5, x6, x7, x8, x9, x10, x11] h = .nx [x0, some (.ref r), x2, some B.f, x4, x5, x6, x7, x8, some (.ref h.nx), x10, x11] (h.new (.dct (fK B))) := by
  have t : fDctOf true [B.f] h = .ok (.ref h.nx) (h.new (.dct (fK B))) := by rfl
  unfold lb_6
  rw [s_asg, e_CB]
  simp only [e_cons, e_var, List.getElem?_cons_succ, List.getElem?_cons_zero, bind_ok, e_nil, t]
  rfl
def Bk.set (B C : Bk) (s : Str) : Bk := ⟨if s = Str.ofString "up" then C.up else B.up, if s = Str.ofString "down" then C.down else B.down, if s = Str.ofString "writes" then C.writes else B.writes, if s = Str.ofString "moves" then C.moves else B.moves, if s = Str.ofString "finish" then C.finish else B.finish, if s = Str.ofString "counts" then C.counts else B.counts, if s = Str.ofString "bars" then C.bars else B.bars, if s = Str.ofString "notes" then C.notes else B.notes⟩
theorem set_wf {s : Str} (W : B.Wf) (W' : C.Wf) : (B.set C s).Wf := by
  obtain ⟨⟨a1, a2, a3, a4, a5, a6, a7, a8, a9, a10⟩, b1, b2⟩ := W
  obtain ⟨⟨c1, c2, c3, c4, c5, c6, c7, c8, c9, c10⟩, d1, d2⟩ := W'
  refine ⟨⟨?_, ?_, ?_, ?_, ?_, ?_, ?_, ?_, ?_, ?_⟩, ?_, ?_⟩ <;> (unfold Bk.set; dsimp only; split <;> assumption)
theorem set_put {s : Str} (m : s ∈ keys8) : ∃ d, dGet (fK C) (.inr s) = some d ∧ dPut (fK B) (.inr s) d = fK (B.set C s) := by
  simp only [keys8, List.mem_cons, List.not_mem_nil, or_false] at m
  rcases m with rfl | rfl | rfl | rfl | rfl | rfl | rfl | rfl
  · exact ⟨.lst (stL C.bars), by kernel_rfl, by kernel_rfl⟩
  · exact ⟨.str C.counts, by kernel_rfl, by kernel_rfl⟩
  · exact ⟨.str C.down, by kernel_rfl, by kernel_rfl⟩
  · exact ⟨.str C.finish, by kernel_rfl, by kernel_rfl⟩
  · exact ⟨.str C.moves, by kernel_rfl, by kernel_rfl⟩
  · exact ⟨.lst (stL C.notes), by kernel_rfl, by kernel_rfl⟩
  · exact ⟨.str C.up, by kernel_rfl, by kernel_rfl⟩
  · exact ⟨.str C.writes, by kernel_rfl, by kernel_rfl⟩
theorem st7 {s : Str} (W : B.Wf) (m : s ∈ keys8) (A : DrawOk r w (n + 20) h) (o : h.ob k = some (.dct (fK B))) (kl : k < h.nx) (kr : k ≠ r) (kw : k ≠ w) : ∃ (C : Bk) (h1 : CH), lb_7 [x0, some (.ref r), x2, x3, x4, x5, x6, x7, some (.str s), some (.ref k), x10, x11] h = .nx [x0, some (.ref r), x2, x3, x4, x5, x6, x7, some (.str s), some (.ref k), x10, x11] h1 ∧ C.Wf ∧ h1.ob k = some (.dct (fK C)) ∧ k < h1.nx ∧ DrawOk r w n h1 := by
  obtain ⟨C, h1, e1, W1, A1, n1, k1⟩ := drawn_book A
  obtain ⟨d, g, p⟩ := set_put (B := B) (C := C) m
  have o1 : h1.ob k = some (.dct (fK B)) := by rw [k1 k kl kr kw]; exact o
  refine ⟨B.set C s, h1.put k (.dct (fK (B.set C s))), ?_, set_wf W W1, put_same, Nat.lt_of_lt_of_le kl n1, DrawOk.putk A1 kr kw⟩
  have x : fIx C.f (.str s) h1 = .ok d h1 := ixB g
  unfold lb_7
  have t : dOp fIx (dCall 1 F__law_drawn_book (dCons (dVar 1) (dNil))) (dVar 8) [x0, some (.ref r), x2, x3, x4, x5, x6, x7, some (.str s), some (.ref k), x10, x11] h = .ok d h1 := by
    simp only [e_op, e_call, e_cons, e_var, List.getElem?_cons_succ, List.getElem?_cons_zero, bind_ok, e_nil, List.length_cons, List.length_nil, e1, if_true, x]
  refine asg_of t ?_
  have q : (if (fK B).length < sizeLine then CM.R.ok [x0, some (.ref r), x2, x3, x4, x5, x6, x7, some (.str s), some (.ref k), x10, x11] (h1.put k (.dct (dPut (fK B) (.inr s) d))) else .no) = .ok [x0, some (.ref r), x2, x3, x4, x5, x6, x7, some (.str s), some (.ref k), x10, x11] (h1.put k (.dct (fK (B.set C s)))) := by
    rw [if_pos (by show 8 < sizeLine; decide), p]
  rw [← q]
  unfold gdSub
  simp only [e_var, List.getElem?_cons_succ, List.getElem?_cons_zero, CM.R.calm, refOf, keyD, o1]
theorem st8 (W : C.Wf) (A : DrawOk r w (n + 8) h) (o : h.ob k = some (.dct (fK C))) (kl : k < h.nx) (kr : k ≠ r) (kw : k ≠ w) : ∃ h1, lb_8 [x0, some (.ref r), x2, x3, x4, x5, x6, x7, x8, some (.ref k), x10, x11] h = .nx [x0, some (.ref r), x2, x3, x4, x5, x6, x7, x8, some (.ref k), some C.d, x11] h1 ∧ h1.ob k = some (.dct (fK C)) ∧ k < h1.nx ∧ DrawOk r w n h1 := by
  obtain ⟨h1, e1, A1, n1, k1⟩ := made_book (h := h) W (X := .ref k) (.inr ⟨k, rfl, o⟩) ⟨fun k' z => by cases z; exact ⟨kl, kr, kw⟩⟩ A
  refine ⟨h1, ?_, by rw [k1 k kl kr kw]; exact o, Nat.lt_of_lt_of_le kl n1, A1⟩
  unfold lb_8
  rw [s_asg, e_call]
  simp only [e_cons, e_var, List.getElem?_cons_succ, List.getElem?_cons_zero, bind_ok, e_nil, List.length_cons, List.length_nil]
  rw [if_pos trivial, e1]
  rfl
theorem ok_s {x : Str} (e : PyData.strOk x = true) : okDP h (.str x) = true := by
  show smallP (.str x) = true
  unfold smallP
  simp only [SeqAt.shaped, PyData.canLay0, e, PyData.depth, Bool.true_and]
  rfl
theorem toP_l {ws : List Str} : toP h 9 (.lst (stL ws)) = some (.list (ws.map PyData.str)) := by
  show ((ws.map CM.D.str).mapM (toP h 8)).map PyData.list = _
  rw [toP_strs (h := h) (k := 7) ws]
  rfl
theorem ok_l {ws : List Str} (e : Layd ws) : okDP h (.lst (stL ws)) = true := by
  unfold okDP
  rw [toP_l]
  show smallP _ = true
  unfold smallP
  rw [shaped_strs ws e]
  simp only [PyData.depth, dep_strs, Bool.true_and]
  decide
theorem hit_s {ls : List (Key × CM.D)} {f : Key} {a b : Str} (e : dGet ls f = some (.str b)) : hitP h ls (f, .str a) = decide (a = b) := by
  unfold hitP
  rw [e]
  show PyData.eqv (.str a) (.str b) = _
  by_cases q : a = b
  · subst q; simp [PyData.eqv]
  · rw [decide_eq_false q]
    simp only [PyData.eqv]
    simpa using q
theorem hit_l {ls : List (Key × CM.D)} {f : Key} {a b : List Str} (e : dGet ls f = some (.lst (stL b))) : hitP h ls (f, .lst (stL a)) = decide (a = b) := by
  unfold hitP
  rw [e]
  show (match toP h 9 (.lst (stL a)), toP h 9 (.lst (stL b)) with | some a, some b => PyData.eqv a b | _, _ => false) = _
  rw [toP_l, toP_l]
  simp [PyData.eqv, eqvAll_strs]
theorem ok_dp (W : B.Wf) : ((fK B).all fun p => okDP h p.2) = true := by
  obtain ⟨y1, y2, y3⟩ := wf_layd W
  unfold fK
  simp only [List.all_cons, List.all_nil, Bool.and_true, ok_l y2, ok_l y3, ok_s (y1 B.up (by simp)), ok_s (y1 B.down (by simp)), ok_s (y1 B.writes (by simp)), ok_s (y1 B.moves (by simp)), ok_s (y1 B.finish (by simp)), ok_s (y1 B.counts (by simp)), Bool.and_self]
theorem eq_dct (W : B.Wf) (W' : C.Wf) (o : h.ob k = some (.dct (fK C))) : fEqDP false (.ref k) B.f h = .ok (.bl (decide (C = B))) h := by
  have e1 : dctOf h (.ref k) = some (fK C) := by simp only [dctOf, o]
  have e2 : dctOf h B.f = some (fK B) := rfl
  unfold fEqDP
  rw [e1, e2]
  dsimp only
  rw [if_pos ⟨ok_dp W', ok_dp W⟩]
  have a : (fK C).all (hitP h (fK B)) = decide (C = B) := by
    show (hitP h (fK B) (.inr "up", .str C.up) && (hitP h (fK B) (.inr "down", .str C.down) && (hitP h (fK B) (.inr "writes", .str C.writes) && (hitP h (fK B) (.inr "moves", .str C.moves) && (hitP h (fK B) (.inr "finish", .str C.finish) && (hitP h (fK B) (.inr "counts", .str C.counts) && (hitP h (fK B) (.inr "bars", .lst (stL C.bars)) && (hitP h (fK B) (.inr "notes", .lst (stL C.notes)) && true)))))))) = _
    rw [hit_s (b := B.up) (by kernel_rfl), hit_s (b := B.down) (by kernel_rfl), hit_s (b := B.writes) (by kernel_rfl), hit_s (b := B.moves) (by kernel_rfl), hit_s (b := B.finish) (by kernel_rfl), hit_s (b := B.counts) (by kernel_rfl), hit_l (b := B.bars) (by kernel_rfl), hit_l (b := B.notes) (by kernel_rfl)]
    rw [Bool.eq_iff_iff]
    simp only [Bool.and_eq_true, decide_eq_true_eq, and_true, bk_eq (B := C) (B' := B), List.cons.injEq]
    constructor
    · rintro ⟨a, b, c, d, e, f, g, i⟩; exact ⟨⟨a, b, c, d, e, f⟩, g, i⟩
    · rintro ⟨⟨a, b, c, d, e, f⟩, g, i⟩; exact ⟨a, b, c, d, e, f, g, i⟩
  rw [a]
  rfl
theorem page_eq (W : B.Wf) (W' : C.Wf) : (pageB C == pageB B) = decide (C = B) := by
  by_cases q : C = B
  · rw [q, decide_eq_true rfl, beq_self_eq_true]
  · rw [decide_eq_false q]
    exact beq_eq_false_iff_ne.mpr fun z => q (page_inj W' W z)
theorem st9 (W : B.Wf) (W' : C.Wf) (o : h.ob k = some (.dct (fK C))) (kl : k < h.nx) : ∃ h1, Fr [] h h1 ∧ lb_9 [x0, some (.ref r), x2, some B.f, some B.d, some (.str (pageB B)), x6, x7, x8, some (.ref k), some C.d, x11] h = .nx [x0, some (.ref r), x2, some B.f, some B.d, some (.str (pageB B)), x6, x7, x8, some (.ref k), some C.d, x11] h1 := by
  obtain ⟨h1, e1, f1⟩ := book_text_ok (h := h) W'
  refine ⟨h1, f1, ?_⟩
  have o1 : h1.ob k = some (.dct (fK C)) := by rw [f1.2 k kl (by simp)]; exact o
  have og := own_gen (h := h) (neg := false) W' W
  have d0 := eq_dct (h := h) W W' o
  have d1 := eq_dct (h := h1) W W' o1
  have bb : ∀ (b : Bool) (g : CH), fEq true (.bl b) (.bl b) g = .ok (.bl false) g := fun b g => by cases b <;> rfl
  unfold lb_9
  rw [s_if]
  rw [show (fun t => decide (t ∈ [Tg.b "NoneType", .b "bool", .b "int", .b "str", .b "list", .b "tuple", .b "dict", .o 0, .o 1, .o 2, .o 3, .o 4, .o 5, .o 6, .o 7])) = nf75 from rfl]
  simp only [e_or, e_B, e_op, e_call, e_cons, e_var, List.getElem?_cons_succ, List.getElem?_cons_zero, bind_ok, e_nil, List.length_cons, List.length_nil, if_true, og, d0, Bool.bne_false, bb, asB_bl, if_neg (show ¬ (false = true) by decide), e1, eq_ss, b_f, page_eq W W', d1, toS_ok]
  first | rfl | skip
theorem st10 (W : B.Wf) : lb_10 [x0, some (.ref r), x2, some B.f, some B.d, x5, some (.lst [B.d, B.d]), x7, x8, x9, x10, x11] h = .nx [x0, some (.ref r), x2, some B.f, some B.d, x5, some (.lst [B.d, B.d]), x7, x8, x9, x10, x11] h := by
  obtain ⟨y1, y2, y3⟩ := wf_layd W
  have it : dSeqI (dVar 6) [x0, some (.ref r), x2, some B.f, some B.d, x5, some (.lst [B.d, B.d]), x7, x8, x9, x10, x11] h = .ok ([B.d, B.d], none) h := by rfl
  have lc : dLc false (dSeqI (dVar 6)) (gdName 7) (dYes) (dProp 7 F_Book_bars (dVar 7)) [7] [x0, some (.ref r), x2, some B.f, some B.d, x5, some (.lst [B.d, B.d]), x7, x8, x9, x10, x11] h = .ok (.lst [.tup (stL B.bars), .tup (stL B.bars)]) h := by
    unfold dLc
    rw [it, bind_ok]
    have g : ([B.d, B.d], (none : Option (Nat × MO))).1.length ≤ sizeLine := by show 2 ≤ sizeLine; decide
    rw [if_pos g]
    kernel_rfl
  have ls : dLst false (dCons (dProp 7 F_Book_bars (dVar 4)) (dCons (dProp 7 F_Book_bars (dVar 4)) (dNil))) [x0, some (.ref r), x2, some B.f, some B.d, x5, some (.lst [B.d, B.d]), x7, x8, x9, x10, x11] h = .ok (.lst [.tup (stL B.bars), .tup (stL B.bars)]) h := by kernel_rfl
  have tp : toP h 10 (.lst [.tup (stL B.bars), .tup (stL B.bars)]) = some (.list [.tuple (B.bars.map PyData.str), .tuple (B.bars.map PyData.str)]) := by
    have e : toP h 9 (.tup (stL B.bars)) = some (.tuple (B.bars.map PyData.str)) := by
      show ((B.bars.map CM.D.str).mapM (toP h 8)).map PyData.tuple = _
      rw [toP_strs (h := h) (k := 7) B.bars]
      rfl
    show ([CM.D.tup (stL B.bars), .tup (stL B.bars)].mapM (toP h 9)).map PyData.list = _
    simp only [List.mapM_cons, e, List.mapM_nil]
    rfl
  have sh : SeqAt.shaped (.list [.tuple (B.bars.map PyData.str), .tuple (B.bars.map PyData.str)]) = true := by
    simp only [SeqAt.shaped, PyData.canLay0, PyData.canLayAll0, lay_strs B.bars y2, PyData.depth, PyData.depthAll, dep_strs, Bool.true_and, Bool.and_true]
    decide
  have c1 : fEq true (.lst [.tup (stL B.bars), .tup (stL B.bars)]) (.lst [.tup (stL B.bars), .tup (stL B.bars)]) h = .ok (.bl false) h := by
    have e5 : scalD (.lst [.tup (stL B.bars), .tup (stL B.bars)]) (.lst [.tup (stL B.bars), .tup (stL B.bars)]) = false := rfl
    unfold fEq
    rw [e5, tp]
    simp [sh, PyData.eqv, PyData.eqvAll, eqvAll_strs]
  have c2 : fEq true (.tup (stL B.notes)) (.tup (stL B.notes)) h = .ok (.bl false) h := by rw [eq_tupS2 _ _ y3 y3]; simp
  have p1 : dProp 7 F_Book_notes (dVar 4) [x0, some (.ref r), x2, some B.f, some B.d, x5, some (.lst [B.d, B.d]), x7, x8, x9, x10, x11] h = .ok (.tup (stL B.notes)) h := by kernel_rfl
  have p2 : dCB fTupOf (dCons (dOp fIx (dVar 3) (dC (.str "notes"))) (dNil)) [x0, some (.ref r), x2, some B.f, some B.d, x5, some (.lst [B.d, B.d]), x7, x8, x9, x10, x11] h = .ok (.tup (stL B.notes)) h := by kernel_rfl
  unfold lb_10
  rw [s_if, e_or, e_B, e_op, lc, bind_ok, ls, bind_ok, c1, bind_ok, asB_bl, bind_ok, if_neg (by decide), e_B, e_op, p1, bind_ok, p2, bind_ok, c2, bind_ok, asB_bl, toS_ok, if_neg (by decide), s_next]
def sl10 (p : Str) (f o : CM.D) : List CM.D := [.non, .int 5, .str "", .str p, .tup [], .lst [], f, .bl true, .str "book", o]
def odds : List CM.D := [.non, .bl true, .bl false, .int (-1), .int 0, .int 7, .int (10 ^ 30), .str "", .str "up", .str "down", .str "x", .tup [], .tup [.int 0], .lst [], .lst [.int 0], .dct [], .dct [(.inl 0, .int 1)], .tup [.tup []], .tup [.str "up", .int 0, .int 1], .tup [.str "up"], .tup [.str "write", .int 0, .int 0, .int 1], .lst [.tup [.int 0]], .str "0", .tup [.bl true], .tup [.non]]
theorem odds_pv : ∀ d ∈ odds, Pv d := fun d m => by
  simp only [odds, List.mem_cons, List.not_mem_nil, or_false] at m
  rcases m with rfl | rfl | rfl | rfl | rfl | rfl | rfl | rfl | rfl | rfl | rfl | rfl | rfl | rfl | rfl | rfl | rfl | rfl | rfl | rfl | rfl | rfl | rfl | rfl | rfl <;> trivial
theorem oddl_ok {r0 : CM.D} : ∀ h : CH, ∃ ts1 ts2 : TD, u__law_odd = dSeq (dAsg ts1 (gdName 1)) (dRet (dCall 2 F__law_pick (dCons (dVar 0) (dCons (dOp (fAdd false) (dVar 1) ts2) (dNil))))) ∧ ts1 [some r0, none] h = .ok (.lst (odds.take 18)) h ∧ ts2 [some r0, some (.lst (odds.take 18))] h = .ok (.lst (odds.drop 18)) h := fun h => ⟨_, _, rfl, by kernel_rfl, by kernel_rfl⟩
theorem odd_ok (A : DrawOk r w (n + 1) h) : ∃ d h1, F__law_odd [.ref r] h = .ok d h1 ∧ Pv d ∧ DrawOk r w n h1 ∧ DrFr r w h h1 := by
  obtain ⟨d, h1, e1, m1, A1, f1⟩ := pickE A (l := odds) (by decide) (by decide)
  obtain ⟨ts1, ts2, eu, x1, x2⟩ := oddl_ok (r0 := .ref r) h
  refine ⟨d, h1, ?_, odds_pv d m1, A1, f1⟩
  show (u__law_odd [some (.ref r), none] h).res = _
  rw [eu, s_seq, s_asg, x1, toS_ok, g_name, put_ok, sbind_nx, s_ret, e_call]
  have ad : fAdd false (.lst (odds.take 18)) (.lst (odds.drop 18)) h = .ok (.lst odds) h := by kernel_rfl
  simp only [List.set_cons_succ, List.set_cons_zero, e_cons, e_op, e_var, List.getElem?_cons_zero, List.getElem?_cons_succ, bind_ok, x2, ad, e_nil]
  rw [if_pos (by rfl), e1]
  rfl
theorem st11 (A : DrawOk r w (n + 2) h) : ∃ X h1, lb_11 [x0, some (.ref r), x2, some B.f, x4, some (.str page), x6, x7, x8, x9, x10, x11] h = .nx [x0, some (.ref r), x2, some B.f, x4, some (.str page), x6, x7, x8, x9, x10, some X] h1 ∧ Pv X ∧ DrawOk r w n h1 := by
  obtain ⟨o, h1, e1, po, A1, f1⟩ := odd_ok (n := n + 1) A
  obtain ⟨X, h2, e2, m2, A2, f2⟩ := pickE (n := n) A1 (l := sl10 page B.f o) (by simp [sl10]) (by simp [sl10])
  refine ⟨X, h2, ?_, ?_, A2⟩
  · have od : dCall 1 F__law_odd (dCons (dVar 1) (dNil)) [x0, some (.ref r), x2, some B.f, x4, some (.str page), x6, x7, x8, x9, x10, x11] h = .ok o h1 := by simp [e1]
    have ls : dLst false (dCons (dC .non) (dCons (dC (.int 5)) (dCons (dC (.str "")) (dCons (dVar 5) (dCons (dTup (dNil)) (dCons (dLst false (dNil)) (dCons (dVar 3) (dCons (dC (.bl true)) (dCons (dC (.str "book")) (dCons (dCall 1 F__law_odd (dCons (dVar 1) (dNil))) (dNil))))))))))) [x0, some (.ref r), x2, some B.f, x4, some (.str page), x6, x7, x8, x9, x10, x11] h = .ok (.lst (sl10 page B.f o)) h1 := by
      simp only [e_lst, e_cons, e_C, e_tup, e_var, List.getElem?_cons_succ, List.getElem?_cons_zero, bind_ok, e_nil, List.length_cons, List.length_nil, mkL_f, od, Nat.zero_le, if_true]
      rfl
    unfold lb_11
    rw [s_asg, e_call]
    simp only [e_cons, e_var, List.getElem?_cons_succ, List.getElem?_cons_zero, bind_ok, ls, e_nil, List.length_cons, List.length_nil]
    rw [if_pos trivial, e2]
    rfl
  · simp only [sl10, List.mem_cons, List.not_mem_nil, or_false] at m2
    rcases m2 with rfl | rfl | rfl | rfl | rfl | rfl | rfl | rfl | rfl | rfl <;> first | trivial | exact po
theorem isi_bk {d : CM.D} (p : Pv d) : fIsX xs0 [7] kt0 [d, .cls 7] h = .ok (.bl false) h := by
  cases d <;> first | exact p.elim | kernel_rfl
theorem text_odd {d : CM.D} (p : Pv d) : F_book_text [d] h = .ex 3 [(Str.ofString "field", .str (Str.ofString "book"))] h := by
  have nb : F_need_book [d] h = .ex 3 [(Str.ofString "field", .str (Str.ofString "book"))] h := by
    show (u_need_book [some d] h).res = _
    unfold u_need_book
    rw [s_if]
    simp only [e_not, e_B, e_CB, e_cons, e_nil, e_var, List.getElem?_cons_zero, bind_ok, e_C, isi_bk p, asB_bl, toS_ok]
    rfl
  show (u_book_text [some d, none, none, none, none, none] h).res = _
  unfold u_book_text
  rw [s_seq, s_drop, e_call]
  simp only [e_cons, e_nil, e_var, List.getElem?_cons_zero, bind_ok, List.length_cons, List.length_nil]
  rw [if_pos trivial, nb]
  rfl
theorem refusal_bk : F__law_refusal (.ex 3 [(Str.ofString "field", .str (Str.ofString "book"))] h') [] h = .ok (.tup [.str (Str.ofString "book"), .str (Str.ofString "book")]) h' := by kernel_rfl
theorem st12 {X : CM.D} (pX : Pv X) : lb_12 [x0, some (.ref r), x2, x3, x4, x5, x6, x7, x8, x9, x10, some X] h = .nx [x0, some (.ref r), x2, x3, x4, x5, x6, x7, x8, x9, x10, some X] h := by
  have ts : (dCons (dC (.str "book")) (dCons (dC (.str "book")) (dNil))) [x0, some (.ref r), x2, x3, x4, x5, x6, x7, x8, x9, x10, some X] h = .ok [.str (Str.ofString "book"), .str (Str.ofString "book")] h := by
    simp only [e_cons, e_C, bind_ok, e_nil]
  have tb : dCall 1 F_book_text (dCons (dVar 11) (dNil)) [x0, some (.ref r), x2, x3, x4, x5, x6, x7, x8, x9, x10, some X] h = F_book_text [X] h := rfl
  have l1 := lamC_ok (h := h) (h' := h) (tb := dCall 1 F_book_text (dCons (dVar 11) (dNil))) ts (by rw [tb, text_odd pX]; exact is_ok2 refusal_bk (SW.strB (by decide +kernel)) (SW.strB (by decide +kernel)))
  unfold lb_12
  rw [s_if, e_not, e_B, l1, bind_ok, asB_bl, bind_ok, toS_ok, Bool.not_true, if_neg (by decide), s_next]
theorem turn_ok (A : DrawOk r w (n + 60) h) : ∃ z3 z4 z5 z6 z7 z8 z9 z10 z11 h', lb_k0 [x0, some (.ref r), x2, x3, x4, x5, x6, x7, x8, x9, x10, x11] h = .nx [x0, some (.ref r), x2, z3, z4, z5, z6, z7, z8, z9, z10, z11] h' ∧ DrawOk r w n h' := by
  obtain ⟨B, h0, e0, W, A0⟩ := st0 (n := n + 40) (x0 := x0) (x2 := x2) (x3 := x3) (x4 := x4) (x5 := x5) (x6 := x6) (x7 := x7) (x8 := x8) (x9 := x9) (x10 := x10) (x11 := x11) A
  obtain ⟨h1, e1, A1⟩ := st1 (n := n + 32) (x0 := x0) (x2 := x2) (x4 := x4) (x5 := x5) (x6 := x6) (x7 := x7) (x8 := x8) (x9 := x9) (x10 := x10) (x11 := x11) W A0
  obtain ⟨h2, f2, e2⟩ := st2 (h := h1) (x0 := x0) (r := r) (x2 := x2) (x3 := some B.f) (x6 := x6) (x7 := x7) (x8 := x8) (x9 := x9) (x10 := x10) (x11 := x11) W
  have A2 := DrawOk.fr0' A1 f2
  obtain ⟨h3, f3, e3⟩ := st3 (h := h2) (x0 := x0) (r := r) (x2 := x2) (x3 := some B.f) (x4 := some B.d) (x6 := x6) (x7 := x7) (x8 := x8) (x9 := x9) (x10 := x10) (x11 := x11) W
  have A3 := DrawOk.fr0' A2 f3
  obtain ⟨h4, f4, e4⟩ := st4 (h := h3) (x0 := x0) (r := r) (x2 := x2) (x3 := some B.f) (x7 := x7) (x8 := x8) (x9 := x9) (x10 := x10) (x11 := x11) W
  have A4 := DrawOk.fr0' A3 f4
  obtain ⟨s, h5, e5, ms, A5⟩ := st5 (n := n + 31) (B := B) (x0 := x0) (x2 := x2) (x4 := some B.d) (x5 := some (.str (pageB B))) (x6 := some (.lst [B.d, B.d])) (x7 := x7) (x8 := x8) (x9 := x9) (x10 := x10) (x11 := x11) A4
  have e6 := st6 (h := h5) (B := B) (x0 := x0) (r := r) (x2 := x2) (x4 := some B.d) (x5 := some (.str (pageB B))) (x6 := some (.lst [B.d, B.d])) (x7 := x7) (x8 := some (.str s)) (x9 := x9) (x10 := x10) (x11 := x11)
  have lt5 := A5.lt
  have A6 : DrawOk r w (n + 31) (h5.new (.dct (fK B))) := DrawOk.newk A5
  obtain ⟨C, h7, e7, WC, o7, k7, A7⟩ := st7 (n := n + 11) (k := h5.nx) (h := h5.new (.dct (fK B))) (x0 := x0) (x2 := x2) (x3 := some B.f) (x4 := some B.d) (x5 := some (.str (pageB B))) (x6 := some (.lst [B.d, B.d])) (x7 := x7) (x10 := x10) (x11 := x11) W ms A6 new_ob (Nat.lt_succ_self _) (by omega) (by omega)
  obtain ⟨h8, e8, o8, kl8, A8⟩ := st8 (n := n + 3) (x0 := x0) (x2 := x2) (x3 := some B.f) (x4 := some B.d) (x5 := some (.str (pageB B))) (x6 := some (.lst [B.d, B.d])) (x7 := x7) (x8 := some (.str s)) (x10 := x10) (x11 := x11) WC A7 o7 k7 (by omega) (by omega)
  have k8 : h5.nx < h8.nx := kl8
  obtain ⟨h9, f9, e9⟩ := st9 (h := h8) (k := h5.nx) (B := B) (C := C) (x0 := x0) (r := r) (x2 := x2) (x6 := some (.lst [B.d, B.d])) (x7 := x7) (x8 := some (.str s)) (x11 := x11) W WC o8 k8
  have A9 := DrawOk.fr0' A8 f9
  have e10 := st10 (h := h9) (B := B) (x0 := x0) (r := r) (x2 := x2) (x5 := some (.str (pageB B))) (x7 := x7) (x8 := some (.str s)) (x9 := some (.ref h5.nx)) (x10 := some C.d) (x11 := x11) W
  obtain ⟨X, h11, e11, pX, A11⟩ := st11 (n := n) (B := B) (page := pageB B) (x0 := x0) (x2 := x2) (x4 := some B.d) (x6 := some (.lst [B.d, B.d])) (x7 := x7) (x8 := some (.str s)) (x9 := some (.ref h5.nx)) (x10 := some C.d) (x11 := x11) (A9.mono (by omega))
  have e12 := st12 (h := h11) (x0 := x0) (r := r) (x2 := x2) (x3 := some B.f) (x4 := some B.d) (x5 := some (.str (pageB B))) (x6 := some (.lst [B.d, B.d])) (x7 := x7) (x8 := some (.str s)) (x9 := some (.ref h5.nx)) (x10 := some C.d) pX
  refine ⟨some B.f, some B.d, some (.str (pageB B)), some (.lst [B.d, B.d]), x7, some (.str s), some (.ref h5.nx), some C.d, some X, h11, ?_, A11⟩
  unfold lb_k0 lb_k1 lb_k2 lb_k3 lb_k4 lb_k5 lb_k6 lb_k7 lb_k8 lb_k9 lb_k10 lb_k11 lb_k12
  rw [seqX e0, seqX e1, seqX e2, seqX e3, seqX e4, seqX e5, seqX e6, seqX e7, seqX e8, seqX e9, seqX e10, seqX e11]
  exact e12
theorem law_ok : LawF F_law := by
  intro ns hn
  obtain ⟨h1, e1, A1, n1, _⟩ := begun_ok (h := CH.emp) hn
  have e2 : fLen [.scr ns] h1 = .ok (.int ns.length) h1 := rfl
  have e3 : fMin [.int ns.length, .int 20] h1 = .ok (.int (if (20 : Int) < ns.length then 20 else ns.length)) h1 := rfl
  have bd : (if (20 : Int) < ns.length then 20 else (ns.length : Int)) ≤ 20 ∧ 0 ≤ (if (20 : Int) < ns.length then 20 else (ns.length : Int)) := by split <;> omega
  generalize hM : (if (20 : Int) < ns.length then 20 else (ns.length : Int)) = M at *
  have rg : lrng [some (.scr ns), some (.ref (CH.emp.nx + 1)), none, none, none, none, none, none, none, none, none, none] h1 = .ok ((rgI (5 + M).toNat).map CM.D.int, none) h1 := by
    unfold lrng dRng1
    simp [e2, e3, fAdd]
    rw [if_pos (by omega), rgD_rgI]
  have ly : (rgI (5 + M).toNat).length ≤ 25 := by simp [rgI]; omega
  obtain ⟨ρ', h', L, ⟨y2, y3, y4, y5, y6, y7, y8, y9, y10, y11, eρ, _⟩⟩ := forL_fold (tg := gdName 2) (u := lb_k0) (enc := CM.D.int) (fun rest ρ hh => ∃ y2 y3 y4 y5 y6 y7 y8 y9 y10 y11, ρ = [some (.scr ns), some (.ref (CH.emp.nx + 1)), y2, y3, y4, y5, y6, y7, y8, y9, y10, y11] ∧ DrawOk (CH.emp.nx + 1) CH.emp.nx (60 * rest.length) hh)
    (fun x rest ρ hh ⟨y2, y3, y4, y5, y6, y7, y8, y9, y10, y11, eρ, A⟩ => by
      subst eρ
      simp only [List.length_cons] at A
      obtain ⟨z3, z4, z5, z6, z7, z8, z9, z10, z11, h', e, A'⟩ := turn_ok (n := 60 * rest.length) (x0 := some (.scr ns)) (x2 := some (.int x)) (x3 := y3) (x4 := y4) (x5 := y5) (x6 := y6) (x7 := y7) (x8 := y8) (x9 := y9) (x10 := y10) (x11 := y11) (A.mono (by omega))
      exact ⟨_, hh, _, h', rfl, e, some (.int x), z3, z4, z5, z6, z7, z8, z9, z10, z11, rfl, A'⟩)
    (xs := rgI (5 + M).toNat) (ρ := [some (.scr ns), some (.ref (CH.emp.nx + 1)), none, none, none, none, none, none, none, none, none, none]) (h := h1) ⟨_, _, _, _, _, _, _, _, _, _, rfl, A1.mono (by omega)⟩
  refine ⟨h', ?_⟩
  show (u_law [some (.scr ns), none, none, none, none, none, none, none, none, none, none, none] CH.emp).res = _
  rw [law_u]
  have s0 : ∀ u : SD, (dSeq (dAsg (dCall 1 F__law_begun (dCons (dVar 0) (dNil))) (gdName 1)) u) [some (.scr ns), none, none, none, none, none, none, none, none, none, none, none] CH.emp = u [some (.scr ns), some (.ref (CH.emp.nx + 1)), none, none, none, none, none, none, none, none, none, none] h1 := fun u => by
    simp [e1]
  rw [s0, s_seq, s_for, rg, toS_ok]
  simp only [unl_none]
  rw [L]
  rfl
end
end W_whilemerged_k75_texts_of_books
namespace W_whilemerged_k75_texts_of_books
open PySem PySem.Spec PyProof.Rows L2 CM
set_option maxHeartbeats 0 in
theorem facts {w : World} {h : Heap} {K : PySem.W.Frag} {mg : Str → Option Value} {fa : Addr} (G : h.Ns mainGlobals mg) (hfa : mg "law" = some (.ref fa)) (s : SaysX specA w h K) (t : SaysX specB w h K) :
    ∃ (fd : FuncData) (CA : CAs) (cs : List (Addr × Addr)), (∀ p ∈ CA.T, ∃ c, (c, p.1) ∈ cs) ∧ (∀ p ∈ cs, h.get? p.2 = some { cls := .none, data := .fields #[] }) ∧ (∀ p ∈ cs, K.lookup p.2 = none) ∧ (∀ p ∈ cs, PySem.W.CodeHd h p.1 p.2) ∧ (∀ (s : Shared) (v : Value), BindsTo s fd ⟨[v], []⟩ [("_law_script", v)]) ∧ ∀ base : Heap, K.In base → base.Ns mainGlobals mg → SM base → (∀ p ∈ cs, LamX.TabB base mg p.1 p.2) → FnG PySem.Challenge.rw_whilemerged_k75_texts_of_books.prog w K mg base true 11 fa fd ["_law_script"] (spD K CA 1 F_law) := by
  have hc0 : (ck0 K).all id = true := ckF s.ck 0 rfl
  have hc1 : (ck1 K).all id = true := ckF s.ck 1 rfl
  have hc2 : (ck2 K).all id = true := ckF s.ck 2 rfl
  have hc3 : (ck3 K).all id = true := ckF s.ck 3 rfl
  have hc4 : (ck4 K).all id = true := ckF s.ck 4 rfl
  have hc5 : (ck5 K).all id = true := ckF s.ck 5 rfl
  have hc6 : (ck6 K).all id = true := ckF s.ck 6 rfl
  have hc7 : (ck7 K).all id = true := ckF s.ck 7 rfl
  have hc8 : (ck8 K).all id = true := ckF s.ck 8 rfl
  have hc9 : (ck9 K).all id = true := ckF t.ck 0 rfl
  have hc10 : (ck10 K).all id = true := ckF t.ck 1 rfl
  have hc11 : (ck11 K).all id = true := ckF t.ck 2 rfl
  have hc12 : (ck12 K).all id = true := ckF t.ck 3 rfl
  have hc13 : (ck13 K).all id = true := ckF t.ck 4 rfl
  have hc14 : (ck14 K).all id = true := ckF t.ck 5 rfl
  have hc15 : (ck15 K).all id = true := ckF t.ck 6 rfl
  have hc16 : (ck16 K).all id = true := ckF t.ck 7 rfl
  have hc17 : (ck17 K).all id = true := ckF t.ck 8 rfl
  refine' all_mk (l := PySem.Challenge.rw_whilemerged_k75_texts_of_books) s.kin G hfa ?ac0 ?ac1 ?ac2 ?ac3 ?ac4 ?ac5 ?ac6 ?ac7 ?a0 ?l0 ?c0 ?k0 ?a1 ?l1 ?c1 ?k1 ?a2 ?l2 ?c2 ?k2 ?a3 ?l3 ?c3 ?k3 ?a4 ?l4 ?c4 ?k4 ?a5 ?l5 ?c5 ?k5 ?a6 ?l6 ?c6 ?k6 ?a7 ?l7 ?c7 ?k7 ?a8 ?fn8 ?mk8 ?kc8 ?l8 ?c8 ?k8 ?a9 ?l9 ?c9 ?k9 ?a10 ?l10 ?c10 ?k10 ?a11 ?l11 ?c11 ?k11 ?a12 ?l12 ?c12 ?k12 ?a13 ?l13 ?c13 ?k13 ?a14 ?l14 ?c14 ?k14 ?a15 ?l15 ?c15 ?k15 ?a16 ?l16 ?c16 ?k16 ?a17 ?fn17 ?ne17 ?l17 ?c17 ?k17 ?a18 ?pa18 ?pb18 ?pc18 ?l18 ?c18 ?k18 ?a19 ?l19 ?c19 ?k19 ?a20 ?l20 ?c20 ?k20 ?a21 ?pa21 ?pb21 ?pc21 ?l21 ?c21 ?k21 ?a22 ?pa22 ?pb22 ?pc22 ?l22 ?c22 ?k22 ?a23 ?pa23 ?pb23 ?pc23 ?l23 ?c23 ?k23 ?a24 ?pa24 ?pb24 ?pc24 ?l24 ?c24 ?k24 ?a25 ?pa25 ?pb25 ?pc25 ?l25 ?c25 ?k25 ?a26 ?pa26 ?pb26 ?pc26 ?l26 ?c26 ?k26 ?a27 ?l27 ?c27 ?k27 ?a28 ?pa28 ?pb28 ?pc28 ?l28 ?c28 ?k28 ?a29 ?l29 ?c29 ?k29 ?a30 ?l30 ?c30 ?k30 ?tl30 ?tv30 ?td30 ?tn30 ?tt30 ?g_UPS ?h_UPS ?g_DOWNS ?h_DOWNS ?g_WRITES ?h_WRITES ?g_MOVES ?h_MOVES ?g_FINISHES ?h_FINISHES ?g_COUNTS ?h_COUNTS ?g_BARS ?h_BARS ?g_NOTES ?h_NOTES ?g_FIELDS ?h_FIELDS_0_1 ?h_FIELDS_0 ?h_FIELDS_1_1 ?h_FIELDS_1 ?h_FIELDS_2_1 ?h_FIELDS_2 ?h_FIELDS_3_1 ?h_FIELDS_3 ?h_FIELDS_4_1 ?h_FIELDS_4 ?h_FIELDS_5_1 ?h_FIELDS_5 ?h_FIELDS ?g_SETS ?h_SETS_0_1 ?h_SETS_0 ?h_SETS_1_1 ?h_SETS_1 ?h_SETS ?g_LINES ?z_super ?z_abs ?z_int ?z_len ?z_isinstance ?z_str ?z_tuple ?z_list ?z_set ?z_sorted ?z_all ?z_enumerate ?z_ValueError ?z_repr ?z_zip ?z_range ?z_min ?z_dict ?tu30 ?ag0 ?lg0 ?cg0 ?kg0 ?xm0 ?xm1 ?xm2 ?xm3 ?xm4 ?xm5 ?xm6 ?be0 ?be1 ?be2 ?be3 ?be4 ?be5 ?be6 ?xf_field ?xf_number ?xf_at ?xf_line ?tpS ?xb3 ?xi3 ?xl3 ?xt3 ?xk3 ?xla3 ?xv3 ?xh3 ?xlc3 ?xb6 ?xi6 ?xl6 ?xt6 ?xk6 ?xla6 ?xv6 ?xh6 ?xlc6 ?bc7 ?bf7 ?bk ?nb17
  case ac0 => exact (of_decide_eq_true (ckF hc0 0 (b := decide (PySem.W.nsIn K mainGlobals "MergeError" = some (some (.ref (v_C0 K))))) rfl))
  case ac1 => exact (of_decide_eq_true (ckF hc0 1 (b := decide (PySem.W.nsIn K mainGlobals "BadDeed" = some (some (.ref (v_C1 K))))) rfl))
  case ac2 => exact (of_decide_eq_true (ckF hc0 2 (b := decide (PySem.W.nsIn K mainGlobals "BadNumber" = some (some (.ref (v_C2 K))))) rfl))
  case ac3 => exact (of_decide_eq_true (ckF hc0 3 (b := decide (PySem.W.nsIn K mainGlobals "BadBook" = some (some (.ref (v_C3 K))))) rfl))
  case ac4 => exact (of_decide_eq_true (ckF hc0 4 (b := decide (PySem.W.nsIn K mainGlobals "BadPlan" = some (some (.ref (v_C4 K))))) rfl))
  case ac5 => exact (of_decide_eq_true (ckF hc0 5 (b := decide (PySem.W.nsIn K mainGlobals "BadChain" = some (some (.ref (v_C5 K))))) rfl))
  case ac6 => exact (of_decide_eq_true (ckF hc0 6 (b := decide (PySem.W.nsIn K mainGlobals "BadText" = some (some (.ref (v_C6 K))))) rfl))
  case ac7 => exact (of_decide_eq_true (ckF hc0 7 (b := decide (PySem.W.nsIn K mainGlobals "Book" = some (some (.ref (v_C7 K))))) rfl))
  case a0 => exact (of_decide_eq_true (ckF hc0 8 (b := decide (PySem.W.nsIn K mainGlobals "_law_begun" = some (some (.ref (v_f0 K))))) rfl))
  case l0 => exact (fnO_ok (name := "_law_begun") (qual := "_law_begun") (st := s__law_begun) (fnF s.fn 0 (a := fnO K (v_f0 K)) (b := fnE "_law_begun" "_law_begun" s__law_begun) rfl rfl))
  case c0 => exact (ckF hc0 9 (b := (PySem.W.codeIn K (v_cd0 K) "_law_begun" : Bool)) rfl)
  case k0 => exact (ckF hc0 10 (b := (PySem.W.keepIn K (.ref (v_f0 K)) : Bool)) rfl)
  case a1 => exact (of_decide_eq_true (ckF hc0 11 (b := decide (PySem.W.nsIn K mainGlobals "_law_mixed" = some (some (.ref (v_f1 K))))) rfl))
  case l1 => exact (fnO_ok (name := "_law_mixed") (qual := "_law_mixed") (st := s__law_mixed) (fnF s.fn 1 (a := fnO K (v_f1 K)) (b := fnE "_law_mixed" "_law_mixed" s__law_mixed) rfl rfl))
  case c1 => exact (ckF hc0 12 (b := (PySem.W.codeIn K (v_cd1 K) "_law_mixed" : Bool)) rfl)
  case k1 => exact (ckF hc0 13 (b := (PySem.W.keepIn K (.ref (v_f1 K)) : Bool)) rfl)
  case a2 => exact (of_decide_eq_true (ckF hc0 14 (b := decide (PySem.W.nsIn K mainGlobals "_law_take" = some (some (.ref (v_f2 K))))) rfl))
  case l2 => exact (fnO_ok (name := "_law_take") (qual := "_law_take") (st := s__law_take) (fnF s.fn 2 (a := fnO K (v_f2 K)) (b := fnE "_law_take" "_law_take" s__law_take) rfl rfl))
  case c2 => exact (ckF hc0 15 (b := (PySem.W.codeIn K (v_cd2 K) "_law_take" : Bool)) rfl)
  case k2 => exact (ckF hc1 0 (b := (PySem.W.keepIn K (.ref (v_f2 K)) : Bool)) rfl)
  case a3 => exact (of_decide_eq_true (ckF hc1 1 (b := decide (PySem.W.nsIn K mainGlobals "_law_pick" = some (some (.ref (v_f3 K))))) rfl))
  case l3 => exact (fnO_ok (name := "_law_pick") (qual := "_law_pick") (st := s__law_pick) (fnF s.fn 3 (a := fnO K (v_f3 K)) (b := fnE "_law_pick" "_law_pick" s__law_pick) rfl rfl))
  case c3 => exact (ckF hc1 2 (b := (PySem.W.codeIn K (v_cd3 K) "_law_pick" : Bool)) rfl)
  case k3 => exact (ckF hc1 3 (b := (PySem.W.keepIn K (.ref (v_f3 K)) : Bool)) rfl)
  case a4 => exact (of_decide_eq_true (ckF hc1 4 (b := decide (PySem.W.nsIn K mainGlobals "_law_words" = some (some (.ref (v_f4 K))))) rfl))
  case l4 => exact (fnO_ok (name := "_law_words") (qual := "_law_words") (st := s__law_words) (fnF s.fn 4 (a := fnO K (v_f4 K)) (b := fnE "_law_words" "_law_words" s__law_words) rfl rfl))
  case c4 => exact (ckF hc1 5 (b := (PySem.W.codeIn K (v_cd4 K) "_law_words" : Bool)) rfl)
  case k4 => exact (ckF hc1 6 (b := (PySem.W.keepIn K (.ref (v_f4 K)) : Bool)) rfl)
  case a5 => exact (of_decide_eq_true (ckF hc1 7 (b := decide (PySem.W.nsIn K mainGlobals "_law_drawn_book" = some (some (.ref (v_f5 K))))) rfl))
  case l5 => exact (fnO_ok (name := "_law_drawn_book") (qual := "_law_drawn_book") (st := s__law_drawn_book) (fnF s.fn 5 (a := fnO K (v_f5 K)) (b := fnE "_law_drawn_book" "_law_drawn_book" s__law_drawn_book) rfl rfl))
  case c5 => exact (ckF hc1 8 (b := (PySem.W.codeIn K (v_cd5 K) "_law_drawn_book" : Bool)) rfl)
  case k5 => exact (ckF hc1 9 (b := (PySem.W.keepIn K (.ref (v_f5 K)) : Bool)) rfl)
  case a6 => exact (of_decide_eq_true (ckF hc1 10 (b := decide (PySem.W.nsIn K mainGlobals "need_word" = some (some (.ref (v_f6 K))))) rfl))
  case l6 => exact (fnO_ok (name := "need_word") (qual := "need_word") (st := s_need_word) (fnF s.fn 6 (a := fnO K (v_f6 K)) (b := fnE "need_word" "need_word" s_need_word) rfl rfl))
  case c6 => exact (ckF hc1 11 (b := (PySem.W.codeIn K (v_cd6 K) "need_word" : Bool)) rfl)
  case k6 => exact (ckF hc1 12 (b := (PySem.W.keepIn K (.ref (v_f6 K)) : Bool)) rfl)
  case a7 => exact (of_decide_eq_true (ckF hc1 13 (b := decide (PySem.W.nsIn K mainGlobals "need_words" = some (some (.ref (v_f7 K))))) rfl))
  case l7 => exact (fnO_ok (name := "need_words") (qual := "need_words") (st := s_need_words) (fnF s.fn 7 (a := fnO K (v_f7 K)) (b := fnE "need_words" "need_words" s_need_words) rfl rfl))
  case c7 => exact (ckF hc1 14 (b := (PySem.W.codeIn K (v_cd7 K) "need_words" : Bool)) rfl)
  case k7 => exact (ckF hc1 15 (b := (PySem.W.keepIn K (.ref (v_f7 K)) : Bool)) rfl)
  case a8 => exact (of_decide_eq_true (ckF hc2 0 (b := decide (PySem.W.findIn K (.ref (v_C7 K)) "__init__" = some (some (.ref (v_f8 K))))) rfl))
  case fn8 => exact (ckF hc2 1 (b := (PySem.W.isFn K (.ref (v_f8 K)) : Bool)) rfl)
  case mk8 => exact (ckF hc2 2 (b := (PySem.W.makesIn K (v_C7 K) : Bool)) rfl)
  case kc8 => exact (ckF hc2 3 (b := (PySem.W.keepIn K (.ref (v_C7 K)) : Bool)) rfl)
  case l8 => exact (fnO_ok (name := "__init__") (qual := "Book.__init__") (st := s_Book_init) (fnF s.fn 8 (a := fnO K (v_f8 K)) (b := fnE "__init__" "Book.__init__" s_Book_init) rfl rfl))
  case c8 => exact (ckF hc2 4 (b := (PySem.W.codeIn K (v_cd8 K) "Book.__init__" : Bool)) rfl)
  case k8 => exact (ckF hc2 5 (b := (PySem.W.keepIn K (.ref (v_f8 K)) : Bool)) rfl)
  case a9 => exact (of_decide_eq_true (ckF hc2 6 (b := decide (PySem.W.nsIn K mainGlobals "_law_shuffled" = some (some (.ref (v_f9 K))))) rfl))
  case l9 => exact (fnO_ok (name := "_law_shuffled") (qual := "_law_shuffled") (st := s__law_shuffled) (fnF s.fn 9 (a := fnO K (v_f9 K)) (b := fnE "_law_shuffled" "_law_shuffled" s__law_shuffled) rfl rfl))
  case c9 => exact (ckF hc2 7 (b := (PySem.W.codeIn K (v_cd9 K) "_law_shuffled" : Bool)) rfl)
  case k9 => exact (ckF hc2 8 (b := (PySem.W.keepIn K (.ref (v_f9 K)) : Bool)) rfl)
  case a10 => exact (of_decide_eq_true (ckF hc2 9 (b := decide (PySem.W.nsIn K mainGlobals "_law_made_book" = some (some (.ref (v_f10 K))))) rfl))
  case l10 => exact (fnO_ok (name := "_law_made_book") (qual := "_law_made_book") (st := s__law_made_book) (fnF s.fn 10 (a := fnO K (v_f10 K)) (b := fnE "_law_made_book" "_law_made_book" s__law_made_book) rfl rfl))
  case c10 => exact (ckF hc2 10 (b := (PySem.W.codeIn K (v_cd10 K) "_law_made_book" : Bool)) rfl)
  case k10 => exact (ckF hc2 11 (b := (PySem.W.keepIn K (.ref (v_f10 K)) : Bool)) rfl)
  case a11 => exact (of_decide_eq_true (ckF hc2 12 (b := decide (PySem.W.nsIn K mainGlobals "_law_page" = some (some (.ref (v_f11 K))))) rfl))
  case l11 => exact (fnO_ok (name := "_law_page") (qual := "_law_page") (st := s__law_page) (fnF s.fn 11 (a := fnO K (v_f11 K)) (b := fnE "_law_page" "_law_page" s__law_page) rfl rfl))
  case c11 => exact (ckF hc2 13 (b := (PySem.W.codeIn K (v_cd11 K) "_law_page" : Bool)) rfl)
  case k11 => exact (ckF hc2 14 (b := (PySem.W.keepIn K (.ref (v_f11 K)) : Bool)) rfl)
  case a12 => exact (of_decide_eq_true (ckF hc2 15 (b := decide (PySem.W.nsIn K mainGlobals "lines_of" = some (some (.ref (v_f12 K))))) rfl))
  case l12 => exact (fnO_ok (name := "lines_of") (qual := "lines_of") (st := s_lines_of) (fnF s.fn 12 (a := fnO K (v_f12 K)) (b := fnE "lines_of" "lines_of" s_lines_of) rfl rfl))
  case c12 => exact (ckF hc3 0 (b := (PySem.W.codeIn K (v_cd12 K) "lines_of" : Bool)) rfl)
  case k12 => exact (ckF hc3 1 (b := (PySem.W.keepIn K (.ref (v_f12 K)) : Bool)) rfl)
  case a13 => exact (of_decide_eq_true (ckF hc3 2 (b := decide (PySem.W.nsIn K mainGlobals "line_words" = some (some (.ref (v_f13 K))))) rfl))
  case l13 => exact (fnO_ok (name := "line_words") (qual := "line_words") (st := s_line_words) (fnF s.fn 13 (a := fnO K (v_f13 K)) (b := fnE "line_words" "line_words" s_line_words) rfl rfl))
  case c13 => exact (ckF hc3 3 (b := (PySem.W.codeIn K (v_cd13 K) "line_words" : Bool)) rfl)
  case k13 => exact (ckF hc3 4 (b := (PySem.W.keepIn K (.ref (v_f13 K)) : Bool)) rfl)
  case a14 => exact (of_decide_eq_true (ckF hc3 5 (b := decide (PySem.W.nsIn K mainGlobals "read_book" = some (some (.ref (v_f14 K))))) rfl))
  case l14 => exact (fnO_ok (name := "read_book") (qual := "read_book") (st := s_read_book) (fnF s.fn 14 (a := fnO K (v_f14 K)) (b := fnE "read_book" "read_book" s_read_book) rfl rfl))
  case c14 => exact (ckF hc3 6 (b := (PySem.W.codeIn K (v_cd14 K) "read_book" : Bool)) rfl)
  case k14 => exact (ckF hc3 7 (b := (PySem.W.keepIn K (.ref (v_f14 K)) : Bool)) rfl)
  case a15 => exact (of_decide_eq_true (ckF hc3 8 (b := decide (PySem.W.nsIn K mainGlobals "_law_refusal" = some (some (.ref (v_f15 K))))) rfl))
  case l15 => exact (fnO_ok (name := "_law_refusal") (qual := "_law_refusal") (st := s__law_refusal) (fnF s.fn 15 (a := fnO K (v_f15 K)) (b := fnE "_law_refusal" "_law_refusal" s__law_refusal) rfl rfl))
  case c15 => exact (ckF hc3 9 (b := (PySem.W.codeIn K (v_cd15 K) "_law_refusal" : Bool)) rfl)
  case k15 => exact (ckF hc3 10 (b := (PySem.W.keepIn K (.ref (v_f15 K)) : Bool)) rfl)
  case a16 => exact (of_decide_eq_true (ckF hc3 11 (b := decide (PySem.W.nsIn K mainGlobals "_law_is" = some (some (.ref (v_f16 K))))) rfl))
  case l16 => exact (fnO_ok (name := "_law_is") (qual := "_law_is") (st := s__law_is) (fnF s.fn 16 (a := fnO K (v_f16 K)) (b := fnE "_law_is" "_law_is" s__law_is) rfl rfl))
  case c16 => exact (ckF hc3 12 (b := (PySem.W.codeIn K (v_cd16 K) "_law_is" : Bool)) rfl)
  case k16 => exact (ckF hc3 13 (b := (PySem.W.keepIn K (.ref (v_f16 K)) : Bool)) rfl)
  case a17 => exact (of_decide_eq_true (ckF hc3 14 (b := decide (PySem.W.findIn K (.ref (v_C7 K)) "__eq__" = some (some (.ref (v_f17 K))))) rfl))
  case fn17 => exact (ckF hc3 15 (b := (PySem.W.isFn K (.ref (v_f17 K)) : Bool)) rfl)
  case ne17 => exact (of_decide_eq_true (ckF hc4 0 (b := decide (PySem.W.findIn K (.ref (v_C7 K)) "__ne__" = some (some (.builtin "object.__ne__")))) rfl))
  case l17 => exact (fnO_ok (name := "__eq__") (qual := "Book.__eq__") (st := s_Book_eq) (fnF s.fn 17 (a := fnO K (v_f17 K)) (b := fnE "__eq__" "Book.__eq__" s_Book_eq) rfl rfl))
  case c17 => exact (ckF hc4 1 (b := (PySem.W.codeIn K (v_cd17 K) "Book.__eq__" : Bool)) rfl)
  case k17 => exact (ckF hc4 2 (b := (PySem.W.keepIn K (.ref (v_f17 K)) : Bool)) rfl)
  case a18 => exact (of_decide_eq_true (ckF hc4 3 (b := decide (PySem.W.findIn K (.ref (v_C7 K)) "notes" = some (some (.ref (v_p18 K))))) rfl))
  case pa18 => exact (of_decide_eq_true (ckF hc4 4 (b := decide (PySem.W.specialIn K (.ref (v_p18 K)) "__get__" = some (some (.builtin "property.__get__")))) rfl))
  case pb18 => exact (of_decide_eq_true (ckF hc4 5 (b := decide (PySem.W.takesIn K (.ref (v_p18 K)) = some true)) rfl))
  case pc18 => exact (of_decide_eq_true (ckF hc4 6 (b := decide (PySem.W.recIn K (v_p18 K) "property" = some (.ref (v_f18 K) :: (v_rs18 K)))) rfl))
  case l18 => exact (fnO_ok (name := "notes") (qual := "Book.notes") (st := s_Book_notes) (fnF s.fn 18 (a := fnO K (v_f18 K)) (b := fnE "notes" "Book.notes" s_Book_notes) rfl rfl))
  case c18 => exact (ckF hc4 7 (b := (PySem.W.codeIn K (v_cd18 K) "Book.notes" : Bool)) rfl)
  case k18 => exact (ckF hc4 8 (b := (PySem.W.keepIn K (.ref (v_f18 K)) : Bool)) rfl)
  case a19 => exact (of_decide_eq_true (ckF hc4 9 (b := decide (PySem.W.nsIn K mainGlobals "_law_odd" = some (some (.ref (v_f19 K))))) rfl))
  case l19 => exact (fnO_ok (name := "_law_odd") (qual := "_law_odd") (st := s__law_odd) (fnF s.fn 19 (a := fnO K (v_f19 K)) (b := fnE "_law_odd" "_law_odd" s__law_odd) rfl rfl))
  case c19 => exact (ckF hc4 10 (b := (PySem.W.codeIn K (v_cd19 K) "_law_odd" : Bool)) rfl)
  case k19 => exact (ckF hc4 11 (b := (PySem.W.keepIn K (.ref (v_f19 K)) : Bool)) rfl)
  case a20 => exact (of_decide_eq_true (ckF hc4 12 (b := decide (PySem.W.nsIn K mainGlobals "need_book" = some (some (.ref (v_f20 K))))) rfl))
  case l20 => exact (fnO_ok (name := "need_book") (qual := "need_book") (st := s_need_book) (fnF s.fn 20 (a := fnO K (v_f20 K)) (b := fnE "need_book" "need_book" s_need_book) rfl rfl))
  case c20 => exact (ckF hc4 13 (b := (PySem.W.codeIn K (v_cd20 K) "need_book" : Bool)) rfl)
  case k20 => exact (ckF hc4 14 (b := (PySem.W.keepIn K (.ref (v_f20 K)) : Bool)) rfl)
  case a21 => exact (of_decide_eq_true (ckF hc4 15 (b := decide (PySem.W.findIn K (.ref (v_C7 K)) "up" = some (some (.ref (v_p21 K))))) rfl))
  case pa21 => exact (of_decide_eq_true (ckF hc5 0 (b := decide (PySem.W.specialIn K (.ref (v_p21 K)) "__get__" = some (some (.builtin "property.__get__")))) rfl))
  case pb21 => exact (of_decide_eq_true (ckF hc5 1 (b := decide (PySem.W.takesIn K (.ref (v_p21 K)) = some true)) rfl))
  case pc21 => exact (of_decide_eq_true (ckF hc5 2 (b := decide (PySem.W.recIn K (v_p21 K) "property" = some (.ref (v_f21 K) :: (v_rs21 K)))) rfl))
  case l21 => exact (fnO_ok (name := "up") (qual := "Book.up") (st := s_Book_up) (fnF s.fn 21 (a := fnO K (v_f21 K)) (b := fnE "up" "Book.up" s_Book_up) rfl rfl))
  case c21 => exact (ckF hc5 3 (b := (PySem.W.codeIn K (v_cd21 K) "Book.up" : Bool)) rfl)
  case k21 => exact (ckF hc5 4 (b := (PySem.W.keepIn K (.ref (v_f21 K)) : Bool)) rfl)
  case a22 => exact (of_decide_eq_true (ckF hc5 5 (b := decide (PySem.W.findIn K (.ref (v_C7 K)) "down" = some (some (.ref (v_p22 K))))) rfl))
  case pa22 => exact (of_decide_eq_true (ckF hc5 6 (b := decide (PySem.W.specialIn K (.ref (v_p22 K)) "__get__" = some (some (.builtin "property.__get__")))) rfl))
  case pb22 => exact (of_decide_eq_true (ckF hc5 7 (b := decide (PySem.W.takesIn K (.ref (v_p22 K)) = some true)) rfl))
  case pc22 => exact (of_decide_eq_true (ckF hc5 8 (b := decide (PySem.W.recIn K (v_p22 K) "property" = some (.ref (v_f22 K) :: (v_rs22 K)))) rfl))
  case l22 => exact (fnO_ok (name := "down") (qual := "Book.down") (st := s_Book_down) (fnF s.fn 22 (a := fnO K (v_f22 K)) (b := fnE "down" "Book.down" s_Book_down) rfl rfl))
  case c22 => exact (ckF hc5 9 (b := (PySem.W.codeIn K (v_cd22 K) "Book.down" : Bool)) rfl)
  case k22 => exact (ckF hc5 10 (b := (PySem.W.keepIn K (.ref (v_f22 K)) : Bool)) rfl)
  case a23 => exact (of_decide_eq_true (ckF hc5 11 (b := decide (PySem.W.findIn K (.ref (v_C7 K)) "writes" = some (some (.ref (v_p23 K))))) rfl))
  case pa23 => exact (of_decide_eq_true (ckF hc5 12 (b := decide (PySem.W.specialIn K (.ref (v_p23 K)) "__get__" = some (some (.builtin "property.__get__")))) rfl))
  case pb23 => exact (of_decide_eq_true (ckF hc5 13 (b := decide (PySem.W.takesIn K (.ref (v_p23 K)) = some true)) rfl))
  case pc23 => exact (of_decide_eq_true (ckF hc5 14 (b := decide (PySem.W.recIn K (v_p23 K) "property" = some (.ref (v_f23 K) :: (v_rs23 K)))) rfl))
  case l23 => exact (fnO_ok (name := "writes") (qual := "Book.writes") (st := s_Book_writes) (fnF s.fn 23 (a := fnO K (v_f23 K)) (b := fnE "writes" "Book.writes" s_Book_writes) rfl rfl))
  case c23 => exact (ckF hc5 15 (b := (PySem.W.codeIn K (v_cd23 K) "Book.writes" : Bool)) rfl)
  case k23 => exact (ckF hc6 0 (b := (PySem.W.keepIn K (.ref (v_f23 K)) : Bool)) rfl)
  case a24 => exact (of_decide_eq_true (ckF hc6 1 (b := decide (PySem.W.findIn K (.ref (v_C7 K)) "moves" = some (some (.ref (v_p24 K))))) rfl))
  case pa24 => exact (of_decide_eq_true (ckF hc6 2 (b := decide (PySem.W.specialIn K (.ref (v_p24 K)) "__get__" = some (some (.builtin "property.__get__")))) rfl))
  case pb24 => exact (of_decide_eq_true (ckF hc6 3 (b := decide (PySem.W.takesIn K (.ref (v_p24 K)) = some true)) rfl))
  case pc24 => exact (of_decide_eq_true (ckF hc6 4 (b := decide (PySem.W.recIn K (v_p24 K) "property" = some (.ref (v_f24 K) :: (v_rs24 K)))) rfl))
  case l24 => exact (fnO_ok (name := "moves") (qual := "Book.moves") (st := s_Book_moves) (fnF s.fn 24 (a := fnO K (v_f24 K)) (b := fnE "moves" "Book.moves" s_Book_moves) rfl rfl))
  case c24 => exact (ckF hc6 5 (b := (PySem.W.codeIn K (v_cd24 K) "Book.moves" : Bool)) rfl)
  case k24 => exact (ckF hc6 6 (b := (PySem.W.keepIn K (.ref (v_f24 K)) : Bool)) rfl)
  case a25 => exact (of_decide_eq_true (ckF hc6 7 (b := decide (PySem.W.findIn K (.ref (v_C7 K)) "finish" = some (some (.ref (v_p25 K))))) rfl))
  case pa25 => exact (of_decide_eq_true (ckF hc6 8 (b := decide (PySem.W.specialIn K (.ref (v_p25 K)) "__get__" = some (some (.builtin "property.__get__")))) rfl))
  case pb25 => exact (of_decide_eq_true (ckF hc6 9 (b := decide (PySem.W.takesIn K (.ref (v_p25 K)) = some true)) rfl))
  case pc25 => exact (of_decide_eq_true (ckF hc6 10 (b := decide (PySem.W.recIn K (v_p25 K) "property" = some (.ref (v_f25 K) :: (v_rs25 K)))) rfl))
  case l25 => exact (fnO_ok (name := "finish") (qual := "Book.finish") (st := s_Book_finish) (fnF s.fn 25 (a := fnO K (v_f25 K)) (b := fnE "finish" "Book.finish" s_Book_finish) rfl rfl))
  case c25 => exact (ckF hc6 11 (b := (PySem.W.codeIn K (v_cd25 K) "Book.finish" : Bool)) rfl)
  case k25 => exact (ckF hc6 12 (b := (PySem.W.keepIn K (.ref (v_f25 K)) : Bool)) rfl)
  case a26 => exact (of_decide_eq_true (ckF hc6 13 (b := decide (PySem.W.findIn K (.ref (v_C7 K)) "counts" = some (some (.ref (v_p26 K))))) rfl))
  case pa26 => exact (of_decide_eq_true (ckF hc6 14 (b := decide (PySem.W.specialIn K (.ref (v_p26 K)) "__get__" = some (some (.builtin "property.__get__")))) rfl))
  case pb26 => exact (of_decide_eq_true (ckF hc6 15 (b := decide (PySem.W.takesIn K (.ref (v_p26 K)) = some true)) rfl))
  case pc26 => exact (of_decide_eq_true (ckF hc7 0 (b := decide (PySem.W.recIn K (v_p26 K) "property" = some (.ref (v_f26 K) :: (v_rs26 K)))) rfl))
  case l26 => exact (fnO_ok (name := "counts") (qual := "Book.counts") (st := s_Book_counts) (fnF s.fn 26 (a := fnO K (v_f26 K)) (b := fnE "counts" "Book.counts" s_Book_counts) rfl rfl))
  case c26 => exact (ckF hc7 1 (b := (PySem.W.codeIn K (v_cd26 K) "Book.counts" : Bool)) rfl)
  case k26 => exact (ckF hc7 2 (b := (PySem.W.keepIn K (.ref (v_f26 K)) : Bool)) rfl)
  case a27 => exact (of_decide_eq_true (ckF hc7 3 (b := decide (PySem.W.nsIn K mainGlobals "chosen_words" = some (some (.ref (v_f27 K))))) rfl))
  case l27 => exact (fnO_ok (name := "chosen_words") (qual := "chosen_words") (st := s_chosen_words) (fnF s.fn 27 (a := fnO K (v_f27 K)) (b := fnE "chosen_words" "chosen_words" s_chosen_words) rfl rfl))
  case c27 => exact (ckF hc7 4 (b := (PySem.W.codeIn K (v_cd27 K) "chosen_words" : Bool)) rfl)
  case k27 => exact (ckF hc7 5 (b := (PySem.W.keepIn K (.ref (v_f27 K)) : Bool)) rfl)
  case a28 => exact (of_decide_eq_true (ckF hc7 6 (b := decide (PySem.W.findIn K (.ref (v_C7 K)) "bars" = some (some (.ref (v_p28 K))))) rfl))
  case pa28 => exact (of_decide_eq_true (ckF hc7 7 (b := decide (PySem.W.specialIn K (.ref (v_p28 K)) "__get__" = some (some (.builtin "property.__get__")))) rfl))
  case pb28 => exact (of_decide_eq_true (ckF hc7 8 (b := decide (PySem.W.takesIn K (.ref (v_p28 K)) = some true)) rfl))
  case pc28 => exact (of_decide_eq_true (ckF hc7 9 (b := decide (PySem.W.recIn K (v_p28 K) "property" = some (.ref (v_f28 K) :: (v_rs28 K)))) rfl))
  case l28 => exact (fnO_ok (name := "bars") (qual := "Book.bars") (st := s_Book_bars) (fnF s.fn 28 (a := fnO K (v_f28 K)) (b := fnE "bars" "Book.bars" s_Book_bars) rfl rfl))
  case c28 => exact (ckF hc7 10 (b := (PySem.W.codeIn K (v_cd28 K) "Book.bars" : Bool)) rfl)
  case k28 => exact (ckF hc7 11 (b := (PySem.W.keepIn K (.ref (v_f28 K)) : Bool)) rfl)
  case a29 => exact (of_decide_eq_true (ckF hc7 12 (b := decide (PySem.W.nsIn K mainGlobals "book_text" = some (some (.ref (v_f29 K))))) rfl))
  case l29 => exact (fnO_ok (name := "book_text") (qual := "book_text") (st := s_book_text) (fnF s.fn 29 (a := fnO K (v_f29 K)) (b := fnE "book_text" "book_text" s_book_text) rfl rfl))
  case c29 => exact (ckF hc7 13 (b := (PySem.W.codeIn K (v_cd29 K) "book_text" : Bool)) rfl)
  case k29 => exact (ckF hc7 14 (b := (PySem.W.keepIn K (.ref (v_f29 K)) : Bool)) rfl)
  case a30 => exact (of_decide_eq_true (ckF hc7 15 (b := decide (PySem.W.nsIn K mainGlobals "law" = some (some (.ref (v_f30 K))))) rfl))
  case l30 => exact (by have z := (fnO_ok (name := "law") (qual := "law") (st := s_law) (fnF s.fn 30 (a := fnO K (v_f30 K)) (b := fnE "law" "law" s_law) rfl rfl)); rw [of_decide_eq_true (ckF hc8 0 (b := decide ((fdD K (v_f30 K)).code = .ref (v_ca30 K))) rfl)] at z; exact z)
  case c30 => exact (ckF hc8 1 (b := (PySem.W.codeIn K (.ref (v_ca30 K)) "law" : Bool)) rfl)
  case k30 => exact (ckF hc8 2 (b := (PySem.W.keepIn K (.ref (v_f30 K)) : Bool)) rfl)
  case tl30 => exact (fld_ok (ckF hc8 3 (b := decide (kndD K (v_ca30 K) = 2)) rfl))
  case tv30 => exact (of_decide_eq_true (ckF hc8 4 (b := decide ((v_vs30 K)[11]? = some (.ref (v_P30 K)))) rfl))
  case td30 => exact (ckF hc8 5 (b := (PySem.W.codeHdIn K (v_ca30 K) (v_P30 K) : Bool)) rfl)
  case tn30 => exact (non_ok (ckF hc8 6 (b := (K.lookup (v_P30 K)).isNone) rfl))
  case tt30 => exact (t.tb _ (List.Mem.head _))
  case g_UPS => exact (of_decide_eq_true (ckF hc8 7 (b := decide (PySem.W.nsIn K mainGlobals "UPS" = some (some (.ref (v_p_UPS K))))) rfl))
  case h_UPS => exact (tup_ok (ckF hc8 8 (b := decide (kndD K (v_p_UPS K) = 3)) rfl) (ckF hc8 9 (b := decide ((objD K (v_p_UPS K)).cls = .type "tuple")) rfl) (ckF hc8 10 (b := decide ((seqD K (v_p_UPS K)).toList = [.str "one" (v_t_UPS0 K), .str "late" (v_t_UPS1 K), .str "blind" (v_t_UPS2 K)])) rfl))
  case g_DOWNS => exact (of_decide_eq_true (ckF hc8 11 (b := decide (PySem.W.nsIn K mainGlobals "DOWNS" = some (some (.ref (v_p_DOWNS K))))) rfl))
  case h_DOWNS => exact (tup_ok (ckF hc8 12 (b := decide (kndD K (v_p_DOWNS K) = 3)) rfl) (ckF hc8 13 (b := decide ((objD K (v_p_DOWNS K)).cls = .type "tuple")) rfl) (ckF hc8 14 (b := decide ((seqD K (v_p_DOWNS K)).toList = [.str "one" (v_t_DOWNS0 K), .str "two" (v_t_DOWNS1 K)])) rfl))
  case g_WRITES => exact (of_decide_eq_true (ckF hc8 15 (b := decide (PySem.W.nsIn K mainGlobals "WRITES" = some (some (.ref (v_p_WRITES K))))) rfl))
  case h_WRITES => exact (tup_ok (ckF hc9 0 (b := decide (kndD K (v_p_WRITES K) = 3)) rfl) (ckF hc9 1 (b := decide ((objD K (v_p_WRITES K)).cls = .type "tuple")) rfl) (ckF hc9 2 (b := decide ((seqD K (v_p_WRITES K)).toList = [.str "plain" (v_t_WRITES0 K), .str "both" (v_t_WRITES1 K), .str "again" (v_t_WRITES2 K), .str "behind" (v_t_WRITES3 K), .str "refused" (v_t_WRITES4 K)])) rfl))
  case g_MOVES => exact (of_decide_eq_true (ckF hc9 3 (b := decide (PySem.W.nsIn K mainGlobals "MOVES" = some (some (.ref (v_p_MOVES K))))) rfl))
  case h_MOVES => exact (tup_ok (ckF hc9 4 (b := decide (kndD K (v_p_MOVES K) = 3)) rfl) (ckF hc9 5 (b := decide ((objD K (v_p_MOVES K)).cls = .type "tuple")) rfl) (ckF hc9 6 (b := decide ((seqD K (v_p_MOVES K)).toList = [.str "now" (v_t_MOVES0 K), .str "first" (v_t_MOVES1 K)])) rfl))
  case g_FINISHES => exact (of_decide_eq_true (ckF hc9 7 (b := decide (PySem.W.nsIn K mainGlobals "FINISHES" = some (some (.ref (v_p_FINISHES K))))) rfl))
  case h_FINISHES => exact (tup_ok (ckF hc9 8 (b := decide (kndD K (v_p_FINISHES K) = 3)) rfl) (ckF hc9 9 (b := decide ((objD K (v_p_FINISHES K)).cls = .type "tuple")) rfl) (ckF hc9 10 (b := decide ((seqD K (v_p_FINISHES K)).toList = [.str "one" (v_t_FINISHES0 K), .str "link" (v_t_FINISHES1 K), .str "cut" (v_t_FINISHES2 K)])) rfl))
  case g_COUNTS => exact (of_decide_eq_true (ckF hc9 11 (b := decide (PySem.W.nsIn K mainGlobals "COUNTS" = some (some (.ref (v_p_COUNTS K))))) rfl))
  case h_COUNTS => exact (tup_ok (ckF hc9 12 (b := decide (kndD K (v_p_COUNTS K) = 3)) rfl) (ckF hc9 13 (b := decide ((objD K (v_p_COUNTS K)).cls = .type "tuple")) rfl) (ckF hc9 14 (b := decide ((seqD K (v_p_COUNTS K)).toList = [.str "last" (v_t_COUNTS0 K), .str "first" (v_t_COUNTS1 K), .str "never" (v_t_COUNTS2 K)])) rfl))
  case g_BARS => exact (of_decide_eq_true (ckF hc9 15 (b := decide (PySem.W.nsIn K mainGlobals "BARS" = some (some (.ref (v_p_BARS K))))) rfl))
  case h_BARS => exact (tup_ok (ckF hc10 0 (b := decide (kndD K (v_p_BARS K) = 3)) rfl) (ckF hc10 1 (b := decide ((objD K (v_p_BARS K)).cls = .type "tuple")) rfl) (ckF hc10 2 (b := decide ((seqD K (v_p_BARS K)).toList = [.str "cover" (v_t_BARS0 K), .str "lower" (v_t_BARS1 K), .str "open" (v_t_BARS2 K), .str "others" (v_t_BARS3 K), .str "upper" (v_t_BARS4 K)])) rfl))
  case g_NOTES => exact (of_decide_eq_true (ckF hc10 3 (b := decide (PySem.W.nsIn K mainGlobals "NOTES" = some (some (.ref (v_p_NOTES K))))) rfl))
  case h_NOTES => exact (tup_ok (ckF hc10 4 (b := decide (kndD K (v_p_NOTES K) = 3)) rfl) (ckF hc10 5 (b := decide ((objD K (v_p_NOTES K)).cls = .type "tuple")) rfl) (ckF hc10 6 (b := decide ((seqD K (v_p_NOTES K)).toList = [.str "again" (v_t_NOTES0 K), .str "job" (v_t_NOTES1 K), .str "place" (v_t_NOTES2 K)])) rfl))
  case g_FIELDS => exact (of_decide_eq_true (ckF hc10 7 (b := decide (PySem.W.nsIn K mainGlobals "FIELDS" = some (some (.ref (v_p_FIELDS K))))) rfl))
  case h_FIELDS_0_1 => exact (tup_ok (ckF hc10 8 (b := decide (kndD K (v_p_FIELDS_0_1 K) = 3)) rfl) (ckF hc10 9 (b := decide ((objD K (v_p_FIELDS_0_1 K)).cls = .type "tuple")) rfl) (ckF hc10 10 (b := decide ((seqD K (v_p_FIELDS_0_1 K)).toList = [.str "one" (v_t_FIELDS_0_10 K), .str "late" (v_t_FIELDS_0_11 K), .str "blind" (v_t_FIELDS_0_12 K)])) rfl))
  case h_FIELDS_0 => exact (tup_ok (ckF hc10 11 (b := decide (kndD K (v_p_FIELDS_0 K) = 3)) rfl) (ckF hc10 12 (b := decide ((objD K (v_p_FIELDS_0 K)).cls = .type "tuple")) rfl) (ckF hc10 13 (b := decide ((seqD K (v_p_FIELDS_0 K)).toList = [.str "up" (v_t_FIELDS_00 K), .ref (v_p_FIELDS_0_1 K)])) rfl))
  case h_FIELDS_1_1 => exact (tup_ok (ckF hc10 14 (b := decide (kndD K (v_p_FIELDS_1_1 K) = 3)) rfl) (ckF hc10 15 (b := decide ((objD K (v_p_FIELDS_1_1 K)).cls = .type "tuple")) rfl) (ckF hc11 0 (b := decide ((seqD K (v_p_FIELDS_1_1 K)).toList = [.str "one" (v_t_FIELDS_1_10 K), .str "two" (v_t_FIELDS_1_11 K)])) rfl))
  case h_FIELDS_1 => exact (tup_ok (ckF hc11 1 (b := decide (kndD K (v_p_FIELDS_1 K) = 3)) rfl) (ckF hc11 2 (b := decide ((objD K (v_p_FIELDS_1 K)).cls = .type "tuple")) rfl) (ckF hc11 3 (b := decide ((seqD K (v_p_FIELDS_1 K)).toList = [.str "down" (v_t_FIELDS_10 K), .ref (v_p_FIELDS_1_1 K)])) rfl))
  case h_FIELDS_2_1 => exact (tup_ok (ckF hc11 4 (b := decide (kndD K (v_p_FIELDS_2_1 K) = 3)) rfl) (ckF hc11 5 (b := decide ((objD K (v_p_FIELDS_2_1 K)).cls = .type "tuple")) rfl) (ckF hc11 6 (b := decide ((seqD K (v_p_FIELDS_2_1 K)).toList = [.str "plain" (v_t_FIELDS_2_10 K), .str "both" (v_t_FIELDS_2_11 K), .str "again" (v_t_FIELDS_2_12 K), .str "behind" (v_t_FIELDS_2_13 K), .str "refused" (v_t_FIELDS_2_14 K)])) rfl))
  case h_FIELDS_2 => exact (tup_ok (ckF hc11 7 (b := decide (kndD K (v_p_FIELDS_2 K) = 3)) rfl) (ckF hc11 8 (b := decide ((objD K (v_p_FIELDS_2 K)).cls = .type "tuple")) rfl) (ckF hc11 9 (b := decide ((seqD K (v_p_FIELDS_2 K)).toList = [.str "writes" (v_t_FIELDS_20 K), .ref (v_p_FIELDS_2_1 K)])) rfl))
  case h_FIELDS_3_1 => exact (tup_ok (ckF hc11 10 (b := decide (kndD K (v_p_FIELDS_3_1 K) = 3)) rfl) (ckF hc11 11 (b := decide ((objD K (v_p_FIELDS_3_1 K)).cls = .type "tuple")) rfl) (ckF hc11 12 (b := decide ((seqD K (v_p_FIELDS_3_1 K)).toList = [.str "now" (v_t_FIELDS_3_10 K), .str "first" (v_t_FIELDS_3_11 K)])) rfl))
  case h_FIELDS_3 => exact (tup_ok (ckF hc11 13 (b := decide (kndD K (v_p_FIELDS_3 K) = 3)) rfl) (ckF hc11 14 (b := decide ((objD K (v_p_FIELDS_3 K)).cls = .type "tuple")) rfl) (ckF hc11 15 (b := decide ((seqD K (v_p_FIELDS_3 K)).toList = [.str "moves" (v_t_FIELDS_30 K), .ref (v_p_FIELDS_3_1 K)])) rfl))
  case h_FIELDS_4_1 => exact (tup_ok (ckF hc12 0 (b := decide (kndD K (v_p_FIELDS_4_1 K) = 3)) rfl) (ckF hc12 1 (b := decide ((objD K (v_p_FIELDS_4_1 K)).cls = .type "tuple")) rfl) (ckF hc12 2 (b := decide ((seqD K (v_p_FIELDS_4_1 K)).toList = [.str "one" (v_t_FIELDS_4_10 K), .str "link" (v_t_FIELDS_4_11 K), .str "cut" (v_t_FIELDS_4_12 K)])) rfl))
  case h_FIELDS_4 => exact (tup_ok (ckF hc12 3 (b := decide (kndD K (v_p_FIELDS_4 K) = 3)) rfl) (ckF hc12 4 (b := decide ((objD K (v_p_FIELDS_4 K)).cls = .type "tuple")) rfl) (ckF hc12 5 (b := decide ((seqD K (v_p_FIELDS_4 K)).toList = [.str "finish" (v_t_FIELDS_40 K), .ref (v_p_FIELDS_4_1 K)])) rfl))
  case h_FIELDS_5_1 => exact (tup_ok (ckF hc12 6 (b := decide (kndD K (v_p_FIELDS_5_1 K) = 3)) rfl) (ckF hc12 7 (b := decide ((objD K (v_p_FIELDS_5_1 K)).cls = .type "tuple")) rfl) (ckF hc12 8 (b := decide ((seqD K (v_p_FIELDS_5_1 K)).toList = [.str "last" (v_t_FIELDS_5_10 K), .str "first" (v_t_FIELDS_5_11 K), .str "never" (v_t_FIELDS_5_12 K)])) rfl))
  case h_FIELDS_5 => exact (tup_ok (ckF hc12 9 (b := decide (kndD K (v_p_FIELDS_5 K) = 3)) rfl) (ckF hc12 10 (b := decide ((objD K (v_p_FIELDS_5 K)).cls = .type "tuple")) rfl) (ckF hc12 11 (b := decide ((seqD K (v_p_FIELDS_5 K)).toList = [.str "counts" (v_t_FIELDS_50 K), .ref (v_p_FIELDS_5_1 K)])) rfl))
  case h_FIELDS => exact (tup_ok (ckF hc12 12 (b := decide (kndD K (v_p_FIELDS K) = 3)) rfl) (ckF hc12 13 (b := decide ((objD K (v_p_FIELDS K)).cls = .type "tuple")) rfl) (ckF hc12 14 (b := decide ((seqD K (v_p_FIELDS K)).toList = [.ref (v_p_FIELDS_0 K), .ref (v_p_FIELDS_1 K), .ref (v_p_FIELDS_2 K), .ref (v_p_FIELDS_3 K), .ref (v_p_FIELDS_4 K), .ref (v_p_FIELDS_5 K)])) rfl))
  case g_SETS => exact (of_decide_eq_true (ckF hc12 15 (b := decide (PySem.W.nsIn K mainGlobals "SETS" = some (some (.ref (v_p_SETS K))))) rfl))
  case h_SETS_0_1 => exact (tup_ok (ckF hc13 0 (b := decide (kndD K (v_p_SETS_0_1 K) = 3)) rfl) (ckF hc13 1 (b := decide ((objD K (v_p_SETS_0_1 K)).cls = .type "tuple")) rfl) (ckF hc13 2 (b := decide ((seqD K (v_p_SETS_0_1 K)).toList = [.str "cover" (v_t_SETS_0_10 K), .str "lower" (v_t_SETS_0_11 K), .str "open" (v_t_SETS_0_12 K), .str "others" (v_t_SETS_0_13 K), .str "upper" (v_t_SETS_0_14 K)])) rfl))
  case h_SETS_0 => exact (tup_ok (ckF hc13 3 (b := decide (kndD K (v_p_SETS_0 K) = 3)) rfl) (ckF hc13 4 (b := decide ((objD K (v_p_SETS_0 K)).cls = .type "tuple")) rfl) (ckF hc13 5 (b := decide ((seqD K (v_p_SETS_0 K)).toList = [.str "bars" (v_t_SETS_00 K), .ref (v_p_SETS_0_1 K)])) rfl))
  case h_SETS_1_1 => exact (tup_ok (ckF hc13 6 (b := decide (kndD K (v_p_SETS_1_1 K) = 3)) rfl) (ckF hc13 7 (b := decide ((objD K (v_p_SETS_1_1 K)).cls = .type "tuple")) rfl) (ckF hc13 8 (b := decide ((seqD K (v_p_SETS_1_1 K)).toList = [.str "again" (v_t_SETS_1_10 K), .str "job" (v_t_SETS_1_11 K), .str "place" (v_t_SETS_1_12 K)])) rfl))
  case h_SETS_1 => exact (tup_ok (ckF hc13 9 (b := decide (kndD K (v_p_SETS_1 K) = 3)) rfl) (ckF hc13 10 (b := decide ((objD K (v_p_SETS_1 K)).cls = .type "tuple")) rfl) (ckF hc13 11 (b := decide ((seqD K (v_p_SETS_1 K)).toList = [.str "notes" (v_t_SETS_10 K), .ref (v_p_SETS_1_1 K)])) rfl))
  case h_SETS => exact (tup_ok (ckF hc13 12 (b := decide (kndD K (v_p_SETS K) = 3)) rfl) (ckF hc13 13 (b := decide ((objD K (v_p_SETS K)).cls = .type "tuple")) rfl) (ckF hc13 14 (b := decide ((seqD K (v_p_SETS K)).toList = [.ref (v_p_SETS_0 K), .ref (v_p_SETS_1 K)])) rfl))
  case g_LINES => exact (of_decide_eq_true (ckF hc13 15 (b := decide (PySem.W.nsIn K mainGlobals "LINES" = some (some (.int 8 (v_t_LINES K))))) rfl))
  case z_super => exact (of_decide_eq_true (ckF hc14 0 (b := decide (PySem.W.nsIn K mainGlobals "super" = some none)) rfl))
  case z_abs => exact (of_decide_eq_true (ckF hc14 1 (b := decide (PySem.W.nsIn K mainGlobals "abs" = some none)) rfl))
  case z_int => exact (of_decide_eq_true (ckF hc14 2 (b := decide (PySem.W.nsIn K mainGlobals "int" = some none)) rfl))
  case z_len => exact (of_decide_eq_true (ckF hc14 3 (b := decide (PySem.W.nsIn K mainGlobals "len" = some none)) rfl))
  case z_isinstance => exact (of_decide_eq_true (ckF hc14 4 (b := decide (PySem.W.nsIn K mainGlobals "isinstance" = some none)) rfl))
  case z_str => exact (of_decide_eq_true (ckF hc14 5 (b := decide (PySem.W.nsIn K mainGlobals "str" = some none)) rfl))
  case z_tuple => exact (of_decide_eq_true (ckF hc14 6 (b := decide (PySem.W.nsIn K mainGlobals "tuple" = some none)) rfl))
  case z_list => exact (of_decide_eq_true (ckF hc14 7 (b := decide (PySem.W.nsIn K mainGlobals "list" = some none)) rfl))
  case z_set => exact (of_decide_eq_true (ckF hc14 8 (b := decide (PySem.W.nsIn K mainGlobals "set" = some none)) rfl))
  case z_sorted => exact (of_decide_eq_true (ckF hc14 9 (b := decide (PySem.W.nsIn K mainGlobals "sorted" = some none)) rfl))
  case z_all => exact (of_decide_eq_true (ckF hc14 10 (b := decide (PySem.W.nsIn K mainGlobals "all" = some none)) rfl))
  case z_enumerate => exact (of_decide_eq_true (ckF hc14 11 (b := decide (PySem.W.nsIn K mainGlobals "enumerate" = some none)) rfl))
  case z_ValueError => exact (of_decide_eq_true (ckF hc14 12 (b := decide (PySem.W.nsIn K mainGlobals "ValueError" = some none)) rfl))
  case z_repr => exact (of_decide_eq_true (ckF hc14 13 (b := decide (PySem.W.nsIn K mainGlobals "repr" = some none)) rfl))
  case z_zip => exact (of_decide_eq_true (ckF hc14 14 (b := decide (PySem.W.nsIn K mainGlobals "zip" = some none)) rfl))
  case z_range => exact (of_decide_eq_true (ckF hc14 15 (b := decide (PySem.W.nsIn K mainGlobals "range" = some none)) rfl))
  case z_min => exact (of_decide_eq_true (ckF hc15 0 (b := decide (PySem.W.nsIn K mainGlobals "min" = some none)) rfl))
  case z_dict => exact (of_decide_eq_true (ckF hc15 1 (b := decide (PySem.W.nsIn K mainGlobals "dict" = some none)) rfl))
  case tu30 => exact (ckF hc15 2 (b := ((([((v_P30 K), ("law" : Str) ++ (".<locals>." : Str) ++ ("<lambda>" : Str))] : List (Addr × Str)).all fun p => decide (p.1 = (v_P30 K) → p.2 = ("law" : Str) ++ (".<locals>." : Str) ++ ("<lambda>" : Str))) : Bool)) rfl)
  case ag0 => exact (of_decide_eq_true (ckF hc15 3 (b := decide (PySem.W.nsIn K mainGlobals "_law_caught" = some (some (.ref (v_fg0 K))))) rfl))
  case lg0 => exact (fnO_ok (name := "_law_caught") (qual := "_law_caught") (st := s__law_caught) (fnF s.fn 31 (a := fnO K (v_fg0 K)) (b := fnE "_law_caught" "_law_caught" s__law_caught) rfl rfl))
  case cg0 => exact (ckF hc15 4 (b := (PySem.W.codeIn K (v_cdg0 K) "_law_caught" : Bool)) rfl)
  case kg0 => exact (ckF hc15 5 (b := (PySem.W.keepIn K (.ref (v_fg0 K)) : Bool)) rfl)
  case xm0 => exact (of_decide_eq_true (ckF hc15 6 (b := decide (PySem.W.exmOne K (.ref (v_C0 K)) (.ref (v_C0 K)) = some true)) rfl))
  case xm1 => exact (of_decide_eq_true (ckF hc15 7 (b := decide (PySem.W.exmOne K (.ref (v_C1 K)) (.ref (v_C0 K)) = some true)) rfl))
  case xm2 => exact (of_decide_eq_true (ckF hc15 8 (b := decide (PySem.W.exmOne K (.ref (v_C2 K)) (.ref (v_C0 K)) = some true)) rfl))
  case xm3 => exact (of_decide_eq_true (ckF hc15 9 (b := decide (PySem.W.exmOne K (.ref (v_C3 K)) (.ref (v_C0 K)) = some true)) rfl))
  case xm4 => exact (of_decide_eq_true (ckF hc15 10 (b := decide (PySem.W.exmOne K (.ref (v_C4 K)) (.ref (v_C0 K)) = some true)) rfl))
  case xm5 => exact (of_decide_eq_true (ckF hc15 11 (b := decide (PySem.W.exmOne K (.ref (v_C5 K)) (.ref (v_C0 K)) = some true)) rfl))
  case xm6 => exact (of_decide_eq_true (ckF hc15 12 (b := decide (PySem.W.exmOne K (.ref (v_C6 K)) (.ref (v_C0 K)) = some true)) rfl))
  case be0 => exact (ckF hc15 13 (b := (excB K (v_C0 K) : Bool)) rfl)
  case be1 => exact (ckF hc15 14 (b := (excB K (v_C1 K) : Bool)) rfl)
  case be2 => exact (ckF hc15 15 (b := (excB K (v_C2 K) : Bool)) rfl)
  case be3 => exact (ckF hc16 0 (b := (excB K (v_C3 K) : Bool)) rfl)
  case be4 => exact (ckF hc16 1 (b := (excB K (v_C4 K) : Bool)) rfl)
  case be5 => exact (ckF hc16 2 (b := (excB K (v_C5 K) : Bool)) rfl)
  case be6 => exact (ckF hc16 3 (b := (excB K (v_C6 K) : Bool)) rfl)
  case xf_field => exact (ckF hc16 4 (b := (([3].all fun c => decide (PySem.W.findIn K (.ref ((⟨fun n => [(v_C0 K), (v_C1 K), (v_C2 K), (v_C3 K), (v_C4 K), (v_C5 K), (v_C6 K), (v_C7 K)].getD n 0, [((v_P30 K), ("law" : Str) ++ (".<locals>." : Str) ++ ("<lambda>" : Str))]⟩ : CAs) c)) "field" = some none)) : Bool)) rfl)
  case xf_number => exact (ckF hc16 5 (b := (([2].all fun c => decide (PySem.W.findIn K (.ref ((⟨fun n => [(v_C0 K), (v_C1 K), (v_C2 K), (v_C3 K), (v_C4 K), (v_C5 K), (v_C6 K), (v_C7 K)].getD n 0, [((v_P30 K), ("law" : Str) ++ (".<locals>." : Str) ++ ("<lambda>" : Str))]⟩ : CAs) c)) "number" = some none)) : Bool)) rfl)
  case xf_at => exact (ckF hc16 6 (b := (([1].all fun c => decide (PySem.W.findIn K (.ref ((⟨fun n => [(v_C0 K), (v_C1 K), (v_C2 K), (v_C3 K), (v_C4 K), (v_C5 K), (v_C6 K), (v_C7 K)].getD n 0, [((v_P30 K), ("law" : Str) ++ (".<locals>." : Str) ++ ("<lambda>" : Str))]⟩ : CAs) c)) "at" = some none)) : Bool)) rfl)
  case xf_line => exact (ckF hc16 7 (b := (([6].all fun c => decide (PySem.W.findIn K (.ref ((⟨fun n => [(v_C0 K), (v_C1 K), (v_C2 K), (v_C3 K), (v_C4 K), (v_C5 K), (v_C6 K), (v_C7 K)].getD n 0, [((v_P30 K), ("law" : Str) ++ (".<locals>." : Str) ++ ("<lambda>" : Str))]⟩ : CAs) c)) "line" = some none)) : Bool)) rfl)
  case tpS => exact (by kernel_rfl)
  case xb3 => exact (ckF hc16 8 (b := (iniB K (v_C3 K) "field" : Bool)) rfl)
  case xi3 => exact (of_decide_eq_true (ckF hc16 9 (b := decide (PySem.W.findIn K (.ref (v_C3 K)) "__init__" = some (some (.ref (v_xf3 K))))) rfl))
  case xl3 => exact (by have z := (fnO_ks (name := "__init__") (qual := "BadBook.__init__") (st := s_BadBook_init) (fnF s.fn 32 (a := fnO K (v_xf3 K)) (b := fnX' "__init__" "BadBook.__init__" s_BadBook_init) rfl rfl)); rw [of_decide_eq_true (ckF hc16 10 (b := decide ((fdD K (v_xf3 K)).code = .ref (v_xa3 K))) rfl)] at z; exact z)
  case xt3 => exact (of_decide_eq_true (ckF hc16 11 (b := decide (PySem.W.typeIn K (.ref (v_xf3 K)) = some (.type "function"))) rfl))
  case xk3 => exact (ckF hc16 12 (b := (PySem.W.codeIn K (.ref (v_xa3 K)) "BadBook.__init__" : Bool)) rfl)
  case xla3 => exact (fld_ok (ckF hc16 13 (b := decide (kndD K (v_xa3 K) = 2)) rfl))
  case xv3 => exact (of_decide_eq_true (ckF hc16 14 (b := decide ((v_xvs3 K)[2]? = some (.str (v_xfile3 K) (v_xtf3 K)))) rfl))
  case xh3 => exact (ckF hc16 15 (b := (((PySem.Challenge.rw_whilemerged_k75_texts_of_books.prog.main.file : Str) == (v_xfile3 K)) : Bool)) rfl)
  case xlc3 => exact (cel_ok (ckF hc17 0 (b := decide (kndD K (v_xc3 K) = 5)) rfl) (ckF hc17 1 (b := decide (celD K (v_xc3 K) = some (.ref (v_C3 K)))) rfl))
  case xb6 => exact (ckF hc17 2 (b := (iniB K (v_C6 K) "line" : Bool)) rfl)
  case xi6 => exact (of_decide_eq_true (ckF hc17 3 (b := decide (PySem.W.findIn K (.ref (v_C6 K)) "__init__" = some (some (.ref (v_xf6 K))))) rfl))
  case xl6 => exact (by have z := (fnO_ks (name := "__init__") (qual := "BadText.__init__") (st := s_BadText_init) (fnF s.fn 33 (a := fnO K (v_xf6 K)) (b := fnX' "__init__" "BadText.__init__" s_BadText_init) rfl rfl)); rw [of_decide_eq_true (ckF hc17 4 (b := decide ((fdD K (v_xf6 K)).code = .ref (v_xa6 K))) rfl)] at z; exact z)
  case xt6 => exact (of_decide_eq_true (ckF hc17 5 (b := decide (PySem.W.typeIn K (.ref (v_xf6 K)) = some (.type "function"))) rfl))
  case xk6 => exact (ckF hc17 6 (b := (PySem.W.codeIn K (.ref (v_xa6 K)) "BadText.__init__" : Bool)) rfl)
  case xla6 => exact (fld_ok (ckF hc17 7 (b := decide (kndD K (v_xa6 K) = 2)) rfl))
  case xv6 => exact (of_decide_eq_true (ckF hc17 8 (b := decide ((v_xvs6 K)[2]? = some (.str (v_xfile6 K) (v_xtf6 K)))) rfl))
  case xh6 => exact (ckF hc17 9 (b := (((PySem.Challenge.rw_whilemerged_k75_texts_of_books.prog.main.file : Str) == (v_xfile6 K)) : Bool)) rfl)
  case xlc6 => exact (cel_ok (ckF hc17 10 (b := decide (kndD K (v_xc6 K) = 5)) rfl) (ckF hc17 11 (b := decide (celD K (v_xc6 K) = some (.ref (v_C6 K)))) rfl))
  case bc7 => exact (ckF hc17 12 (b := (clsB K (v_C7 K) : Bool)) rfl)
  case bf7 => exact (ckF hc17 13 (b := (noB K (v_C7 K) ["b_words", "b_bars", "b_notes"] : Bool)) rfl)
  case bk => exact (ckF hc17 14 (b := (ktChk K (⟨fun n => [(v_C0 K), (v_C1 K), (v_C2 K), (v_C3 K), (v_C4 K), (v_C5 K), (v_C6 K), (v_C7 K)].getD n 0, [((v_P30 K), ("law" : Str) ++ (".<locals>." : Str) ++ ("<lambda>" : Str))]⟩ : CAs) [[.o 0, .b "ValueError"], [.o 1, .o 0, .b "ValueError"], [.o 2, .o 0, .b "ValueError"], [.o 3, .o 0, .b "ValueError"], [.o 4, .o 0, .b "ValueError"], [.o 5, .o 0, .b "ValueError"], [.o 6, .o 0, .b "ValueError"], [.o 7]] ("ValueError" :: tys) : Bool)) rfl)
  case nb17 => exact (ckF hc17 15 (b := (nfB K (⟨fun n => [(v_C0 K), (v_C1 K), (v_C2 K), (v_C3 K), (v_C4 K), (v_C5 K), (v_C6 K), (v_C7 K)].getD n 0, [((v_P30 K), ("law" : Str) ++ (".<locals>." : Str) ++ ("<lambda>" : Str))]⟩ : CAs) 7 [.b "NoneType", .b "bool", .b "int", .b "str", .b "list", .b "tuple", .b "dict", .o 0, .o 1, .o 2, .o 3, .o 4, .o 5, .o 6, .o 7] : Bool)) rfl)
end W_whilemerged_k75_texts_of_books
open PySem PySem.W PyProof.Rows in
set_option maxRecDepth 100000 in
set_option maxHeartbeats 0 in
theorem PySem.Challenge.cw_whilemerged_k75_texts_of_books_holds : PySem.Challenge.rw_whilemerged_k75_texts_of_books.Holds := by
  w_on; o_law
  refine HandSHeadRun.head_any (r := OpenLaw.row PySem.Challenge.rw_whilemerged_k75_texts_of_books) (q := W_whilemerged_k75_texts_of_books.qv) (H := W_whilemerged_k75_texts_of_books.hkX) (ob := W_whilemerged_k75_texts_of_books.ob) (M := 20000) (loose := W_whilemerged_k75_texts_of_books.names) (d := HandSHeadRun.topDef (OpenLaw.row PySem.Challenge.rw_whilemerged_k75_texts_of_books).prog 45) (kwd := []) W_whilemerged_k75_texts_of_books.ob_eq
    (by kernel_rfl) (fun s => by kernel_rfl) W_whilemerged_k75_texts_of_books.run (by kernel_rfl) (by kernel_rfl) (by kernel_rfl) (by rfl) (by first | assumption | decide +kernel) (by decide +kernel) ⟨rfl, rfl, rfl, rfl, rfl, by decide +kernel⟩ ?hw ?hc
  case hw => w_witness2
  case hc =>
    refine CM.walkGX (l := PySem.Challenge.rw_whilemerged_k75_texts_of_books) (k := 11) (F := W_whilemerged_k75_texts_of_books.F_law) W_whilemerged_k75_texts_of_books.law_ok (by decide +kernel) rfl (by kernel_rfl) ⟨rfl, by decide, by decide⟩ ?F
    intro w mg fa h Y G hmg0
    obtain ⟨K, s, t⟩ := Y
    have hmg : mg ("law" : PySem.Str) = some (.ref fa) := by
      have e : (HandSHeadRun.topDef (OpenLaw.row PySem.Challenge.rw_whilemerged_k75_texts_of_books).prog 45).name = ("law" : PySem.Str) := by kernel_rfl
      rw [← e]
      exact hmg0
    exact ⟨K, s.kin, W_whilemerged_k75_texts_of_books.facts G hmg s t⟩
#print axioms PySem.Challenge.cw_whilemerged_k75_texts_of_books_holds
