import PyProof.Rows.All
import Wide.All
import OpenK.AllK
import Wide.FinOn
import HandS.ForMost
import HandS.ForExc
import HandS.IsInst
import HandS.WordsExc
import HandS.Ends
import HandS.Style
import HandS.Lambda
import HandS.DictComp
import HandS.Finally
import HandS.TupAny
import HandS.Property
import HandS.MakeKwOnly
import HandS.SortInts
import HandS.WordsDict
import HandS.OwnEq
import PyProof.InstNe
import HandS.Strs
import HandS.SetFor
import HandS.RaiseMore
import KE.KExcSuper
import HandS.ExcInit
import HandS.ExcField
import KE.KExcIs
import HandS.ExcValue
import HandS.EndTab
import HandS.Sort
import HandS.Conv
import KE.KDictList
import KE.SortData
import HandS.Star
import HandS.More
import HandS.DictTup
import KE.KEqDict
import HandS.NoneIn
import PyProof.NeData
import KE.GoesEnum
import HandS.Text
import HandS.Iter
import PyProof.EqKinds
import HandS.Codes
import KE.KStateDown
import HandS.Head0
import HandS.Head1
import HandS.Head2
import HandS.HeadHook1
import PyProof.P3Eq
import KE.IntTextText
import PyProof.ReprLen
import PySem.Challenge.RW_whilemerged_k78_texts_of_histories_spoil
set_option Elab.async false
set_option linter.all false
set_option maxRecDepth 100000
set_option maxHeartbeats 6400000
namespace CM
open PySem PySem.Spec PyProof.Rows L2
inductive D where
  | non | bl (b : Bool) | int (i : Int) | str (s : Str)
  | lst (xs : List D) | tup (xs : List D) | dct (kvs : List (Key × D))
  | obj (c : Nat) (fs : List (Str × D))
  | scr (ns : List Int) | ref (k : Nat) | ty (n : String) | cls (c : Nat)
  | exc (c : Nat) (fs : List (Str × D))
  deriving Inhabited
/-- an object that may change -/
inductive MO where
  | lst (xs : List D) | dct (kvs : List (Key × D)) | lck (kvs : List (Key × D)) | lkl (xs : List D) | obj (c : Nat) (fs : List (Str × D))
  | dctT (kvs : List (List Key × D))
  deriving Inhabited
/-- not walked at the moment -/
def NotLck : MO → Prop
  | .lck _ => False
  | .lkl _ => False
  | _ => True
abbrev Lckd (o : MO) : Prop := NotLck o → False
/-- the objects that may change, by name; nx: the next name -/
structure CH where
  nx : Nat
  ob : Nat → Option MO
def CH.new (h : CH) (o : MO) : CH := ⟨h.nx + 1, fun j => if j = h.nx then some o else h.ob j⟩
def CH.put (h : CH) (k : Nat) (o : MO) : CH := ⟨h.nx, fun j => if j = k then some o else h.ob j⟩
def CH.del (h : CH) (k : Nat) : CH := ⟨h.nx, fun j => if j = k then none else h.ob j⟩
def CH.emp : CH := ⟨0, fun _ => none⟩
/-- how a computation ends -/
inductive R (α : Type) where
  | ok (a : α) (h : CH)
  | ex (c : Nat) (fs : List (Str × D)) (h : CH)
  | no
def R.bind {α β : Type} (r : R α) (f : α → CH → R β) : R β := match r with
  | .ok a h => f a h
  | .ex c fs h => .ex c fs h
  | .no => .no
/-- no exception may leave -/
def R.calm {α β : Type} (r : R α) (f : α → CH → R β) : R β := match r with
  | .ok a h => f a h
  | .ex _ _ _ => .no
  | .no => .no
/-- the classes' addresses, and the tables of code objects -/
structure CAs where
  f : Nat → Addr
  T : List (Addr × Str)
instance : CoeFun CAs (fun _ => Nat → Addr) := ⟨CAs.f⟩
/-- no table and no other thing -/
def NTab : HO → Prop
  | .tbl _ => False
  | .ext _ => False
  | _ => True
/-- an exception of the class at C stands at a -/
def ExV (C a : Addr) (dd : Option Addr) : HO := .ext fun h => ∃ (oe : Obj) (vs : Array Value), h.get? a = some oe ∧ Zc (.ref C) dd oe ∧ oe.data = .fields vs
/-- where the named objects stand; and what is being made -/
structure Mp where
  f : Nat → Addr
  z : List Addr
instance : CoeFun Mp (fun _ => Nat → Addr) := ⟨Mp.f⟩
def Live (m : Mp) (h : CH) (a : Addr) : Prop := (∃ k o, h.ob k = some o ∧ m k = a) ∨ a ∈ m.z
/-- an object that is locked is the object -/
def core : HO → HO
  | .frz _ (.dK kvs) => .dK kvs
  | .frz _ (.dT kvs) => .dT kvs
  | .tbl _ => .tbl #[]
  | o => o
theorem core_ext {o : HO} {φ : Heap → Prop} (h : core o = .ext φ) : o = .ext φ := by
  cases o with
  | frz ob u => cases u <;> simp [core] at h
  | _ => first | exact h | simp [core] at h
theorem core_lst {o : HO} {xs : List V} (h : core o = .lst xs) : o = .lst xs := by
  cases o with
  | frz ob u => cases u <;> simp [core] at h
  | _ => first | exact h | simp [core] at h
theorem core_tup {o : HO} {xs : List V} (h : core o = .tup xs) : o = .tup xs := by
  cases o with
  | frz ob u => cases u <;> simp [core] at h
  | _ => first | exact h | simp [core] at h
theorem core_ins {o : HO} {c d : Addr} {fs : List (Str × V)} (h : core o = .ins c d fs) : o = .ins c d fs := by
  cases o with
  | frz ob u => cases u <;> simp [core] at h
  | _ => first | exact h | simp [core] at h
theorem core_xd {o : HO} {fs : List (Str × V)} (h : core o = .xd fs) : o = .xd fs := by
  cases o with
  | frz ob u => cases u <;> simp [core] at h
  | _ => first | exact h | simp [core] at h
theorem core_dK {o : HO} {kvs : List (Key × V)} (h : core o = .dK kvs) : o = .dK kvs ∨ ∃ ob, o = .frz ob (.dK kvs) := by
  cases o with
  | frz ob u => cases u <;> simp [core] at h <;> (subst h; exact .inr ⟨ob, rfl⟩)
  | dK k => simp [core] at h; exact .inl (by rw [h])
  | _ => simp [core] at h
theorem core_frzL {o : HO} {ob : Obj} {xs : List V} (h : core o = .frz ob (.lst xs)) : o = .frz ob (.lst xs) := by
  cases o with
  | frz ob' u => cases u <;> first | (simp [core] at h; done) | (simp only [core] at h; exact h)
  | _ => first | exact h | simp [core] at h
/-- what stands outside of the named objects is kept, or locked -/
def Lk (o o' : HO) : Prop := o' = o ∨ (∃ ob kvs, o = .dK kvs ∧ o' = .frz ob o) ∨ ∃ ps qs, o = .tbl ps ∧ o' = .tbl qs
theorem Lk.core {o o' : HO} (l : Lk o o') : core o' = core o := by
  rcases l with rfl | ⟨ob, kvs, rfl, rfl⟩ | ⟨ps, qs, rfl, rfl⟩ <;> rfl
def NoTb : HO → Prop
  | .tbl _ => False
  | _ => True
theorem lk_nt {o o' : HO} (l : Lk o o') (n : NoTb o) : NoTb o' := by
  rcases l with rfl | ⟨ob, kvs, rfl, rfl⟩ | ⟨ps, qs, rfl, rfl⟩
  · exact n
  · trivial
  · exact n.elim
theorem core_nt {o : HO} {kvs : List (Key × V)} (h : core o = .dK kvs) : NoTb o := by
  rcases core_dK h with rfl | ⟨ob, rfl⟩ <;> trivial
theorem Lk.trans {o o1 o2 : HO} (a : Lk o o1) (b : Lk o1 o2) : Lk o o2 := by
  rcases a with rfl | ⟨ob, kvs, rfl, rfl⟩ | ⟨ps, qs, rfl, rfl⟩
  · exact b
  · rcases b with rfl | ⟨ob', kvs', e, _⟩ | ⟨ps, qs, e, _⟩
    · exact .inr (.inl ⟨ob, kvs, rfl, rfl⟩)
    · cases e
    · cases e
  · rcases b with rfl | ⟨ob', kvs', e, _⟩ | ⟨ps', qs', e, rfl⟩
    · exact .inr (.inr ⟨ps, _, rfl, rfl⟩)
    · cases e
    · exact .inr (.inr ⟨ps, _, rfl, rfl⟩)
theorem Lk.frz {ob : Obj} {u o' : HO} (l : Lk (.frz ob u) o') : o' = .frz ob u := by
  rcases l with rfl | ⟨_, _, e, _⟩ | ⟨_, _, e, _⟩
  · rfl
  · cases e
  · cases e
section
variable (K : PySem.W.Frag) (CA : CAs) (m : Mp) (h : CH) (H : Hp)
mutual
inductive Rp : V → D → Prop
  | non : Rp .non .non
  | bl (b : Bool) : Rp (.bl b) (.bl b)
  | int (i : Int) : Rp (.int i) (.int i)
  | str (x : Str) : Rp (.str x) (.str x)
  | lst {a : Addr} {xs : List V} {ds : List D} : ¬ Live m h a → H a = some (.lst xs) → RpAll xs ds → Rp (.ref a) (.lst ds)
  | tup {a : Addr} {xs : List V} {ds : List D} : ¬ Live m h a → H a = some (.tup xs) → RpAll xs ds → Rp (.ref a) (.tup ds)
  | ktup {a : Addr} {xs : List V} {ds : List D} : SqT K (fun _ => none) a xs → RpAll xs ds → Rp (.ref a) (.tup ds)
  | dct {a : Addr} {o : HO} {kvs : List (Key × V)} {dks : List (Key × D)} : ¬ Live m h a → H a = some o → core o = .dK kvs → kvs.map (·.1) = dks.map (·.1) → RpAll (kvs.map (·.2)) (dks.map (·.2)) → Rp (.ref a) (.dct dks)
  | obj {a : Addr} {c : Nat} {dx : Addr} {fs : List (Str × V)} {dfs : List (Str × D)} : ¬ Live m h a → H a = some (.ins (CA c) dx fs) → fs.map (·.1) = dfs.map (·.1) → RpAll (fs.map (·.2)) (dfs.map (·.2)) → Rp (.ref a) (.obj c dfs)
  | scr {a : Addr} {ns : List Int} {o : Obj} : ¬ Live m h a → H a = some (.frz o (.lst (ns.map V.int))) → Rp (.ref a) (.scr ns)
  | kscr {a : Addr} {ns : List Int} : SqL K (fun _ => none) a (ns.map V.int) → Rp (.ref a) (.scr ns)
  | ref {k : Nat} : k < h.nx → Rp (.ref (m k)) (.ref k)
  | ty (n : String) : Rp (.ty n) (.ty n)
  | cls (c : Nat) : Rp (.ref (CA c)) (.cls c)
  | exc {a : Addr} {c : Nat} {dd : Option Addr} {fs : List (Str × V)} {dfs : List (Str × D)} : ¬ Live m h a → H a = some (ExV (CA c) a dd) → ((dd = none ∧ fs = []) ∨ ∃ x, dd = some x ∧ ¬ Live m h x ∧ H x = some (.xd fs)) → fs.map (·.1) = dfs.map (·.1) → RpAll (fs.map (·.2)) (dfs.map (·.2)) → Rp (.ref a) (.exc c dfs)
inductive RpAll : List V → List D → Prop
  | nil : RpAll [] []
  | cons {v : V} {vs : List V} {d : D} {ds : List D} : Rp v d → RpAll vs ds → RpAll (v :: vs) (d :: ds)
end
end
/-- a step: names stand, and what stands outside of the named objects stands on -/
structure Mv (m : Mp) (h : CH) (H : Hp) (m' : Mp) (h' : CH) (H' : Hp) : Prop where
  nx : h.nx ≤ h'.nx
  mp : ∀ k, k < h.nx → m' k = m k
  kp : ∀ a o, ¬ Live m h a → H a = some o → NoTb o → ¬ Live m' h' a ∧ ∃ o', H' a = some o' ∧ Lk o o'
structure Sz (m : Mp) (h : CH) (H : Hp) (m' : Mp) (h' : CH) (H' : Hp) : Prop extends Mv m h H m' h' H' where
  lk : ∀ k o, k < h.nx → h.ob k = some o → Lckd o → h'.ob k = some o ∧ H' (m k) = H (m k)
structure Stp (m : Mp) (h : CH) (H : Hp) (m' : Mp) (h' : CH) (H' : Hp) : Prop extends Sz m h H m' h' H' where
  z : m'.z = m.z
  zk : ∀ a, a ∈ m.z → H' a = H a
/-- while a thing is made at p -/
structure Sc (p : Addr) (m : Mp) (h : CH) (H : Hp) (m' : Mp) (h' : CH) (H' : Hp) : Prop extends Sz m h H m' h' H' where
  z : m'.z = m.z
  zk : ∀ a, a ∈ m.z → a ≠ p → H' a = H a
theorem Stp.mk' {m m' : Mp} {h h' : CH} {H H' : Hp} (x : Mv m h H m' h' H') (lk : ∀ k o, k < h.nx → h.ob k = some o → Lckd o → h'.ob k = some o ∧ H' (m k) = H (m k)) (z : m'.z = m.z) (zk : ∀ a, a ∈ m.z → H' a = H a) : Stp m h H m' h' H' := ⟨⟨x, lk⟩, z, zk⟩
theorem Stp.refl {m : Mp} {h : CH} {H : Hp} : Stp m h H m h H := .mk' ⟨Nat.le_refl _, fun _ _ => rfl, fun _ o n e _ => ⟨n, o, e, .inl rfl⟩⟩ (fun _ _ _ e _ => ⟨e, rfl⟩) rfl fun _ _ => rfl
theorem Stp.sc {p : Addr} {m m' : Mp} {h h' : CH} {H H' : Hp} (s : Stp m h H m' h' H') : Sc p m h H m' h' H' := ⟨s.toSz, s.z, fun a l _ => s.zk a l⟩
theorem Sz.trans {m m1 m2 : Mp} {h h1 h2 : CH} {H H1 H2 : Hp} (a : Sz m h H m1 h1 H1) (b : Sz m1 h1 H1 m2 h2 H2) : Sz m h H m2 h2 H2 :=
  ⟨⟨Nat.le_trans a.nx b.nx, fun k l => (b.mp k (Nat.lt_of_lt_of_le l a.nx)).trans (a.mp k l), fun x o n e nt => by
    obtain ⟨n1, o1, e1, c1⟩ := a.kp x o n e nt
    obtain ⟨n2, o2, e2, c2⟩ := b.kp x o1 n1 e1 (lk_nt c1 nt)
    exact ⟨n2, o2, e2, c1.trans c2⟩⟩, fun k kvs l e ld => by
    obtain ⟨e1, q1⟩ := a.lk k kvs l e ld
    obtain ⟨e2, q2⟩ := b.lk k kvs (Nat.lt_of_lt_of_le l a.nx) e1 ld
    rw [a.mp k l] at q2
    exact ⟨e2, q2.trans q1⟩⟩
theorem Stp.trans {m m1 m2 : Mp} {h h1 h2 : CH} {H H1 H2 : Hp} (a : Stp m h H m1 h1 H1) (b : Stp m1 h1 H1 m2 h2 H2) : Stp m h H m2 h2 H2 := ⟨a.toSz.trans b.toSz, b.z.trans a.z, fun x l => (b.zk x (by rw [a.z]; exact l)).trans (a.zk x l)⟩
theorem Sc.trans {p : Addr} {m m1 m2 : Mp} {h h1 h2 : CH} {H H1 H2 : Hp} (a : Sc p m h H m1 h1 H1) (b : Sc p m1 h1 H1 m2 h2 H2) : Sc p m h H m2 h2 H2 := ⟨a.toSz.trans b.toSz, b.z.trans a.z, fun x l n => (b.zk x (by rw [a.z]; exact l) n).trans (a.zk x l n)⟩
section
variable {K : PySem.W.Frag} {CA : CAs} {m m' : Mp} {h h' : CH} {H H' : Hp} {v : V} {d : D} {vs : List V} {ds : List D}
theorem Rp.mv0 (snx : h.nx ≤ h'.nx) (smp : ∀ k, k < h.nx → m' k = m k) (skp : ∀ a o, ¬ Live m h a → H a = some o → NoTb o → ¬ Live m' h' a ∧ ∃ o', H' a = some o' ∧ Lk o o') : ∀ {v d}, Rp K CA m h H v d → Rp K CA m' h' H' v d := fun {v d} r => by
  refine Rp.rec (motive_1 := fun v d _ => Rp K CA m' h' H' v d) (motive_2 := fun vs ds _ => RpAll K CA m' h' H' vs ds) ?_ ?_ ?_ ?_ ?_ ?_ ?_ ?_ ?_ ?_ ?_ ?_ ?_ ?_ ?_ ?_ ?_ r
  · exact .non
  · exact .bl
  · exact .int
  · exact .str
  · intro a xs ds n e _ ih
    obtain ⟨n', o', e', c⟩ := skp a _ n e trivial
    replace c := c.core
    exact .lst n' (by rw [e', core_lst c]) ih
  · intro a xs ds n e _ ih
    obtain ⟨n', o', e', c⟩ := skp a _ n e trivial
    replace c := c.core
    exact .tup n' (by rw [e', core_tup c]) ih
  · intro a xs ds e _ ih
    exact .ktup e ih
  · intro a o kvs dks n e c en _ ih
    obtain ⟨n', o', e', c'⟩ := skp a _ n e (core_nt c)
    replace c' := c'.core
    exact .dct n' e' (c'.trans c) en ih
  · intro a c dx fs dfs n e en _ ih
    obtain ⟨n', o', e', c'⟩ := skp a _ n e trivial
    replace c' := c'.core
    exact .obj n' (by rw [e', core_ins c']) en ih
  · intro a ns o n e
    obtain ⟨n', o', e', c'⟩ := skp a _ n e trivial
    replace c' := c'.core
    exact .scr n' (by rw [e', core_frzL c'])
  · intro a ns e
    exact .kscr e
  · intro k l
    rw [← smp k l]
    exact .ref (Nat.lt_of_lt_of_le l snx)
  · exact .ty
  · exact .cls
  · intro a c dd fs dfs n e hd en _ ih
    obtain ⟨n', o', e', c'⟩ := skp a _ n e trivial
    refine .exc n' (by rw [e', core_ext c'.core]; rfl) ?_ en ih
    rcases hd with q | ⟨x, rfl, nx, ex⟩
    · exact .inl q
    · obtain ⟨nx', ox, ex', cx⟩ := skp x _ nx ex trivial
      exact .inr ⟨x, rfl, nx', by rw [ex', core_xd cx.core]⟩
  · exact .nil
  · intro v vs d ds _ _ ih1 ih2
    exact .cons ih1 ih2
theorem RpAll.mv0 (snx : h.nx ≤ h'.nx) (smp : ∀ k, k < h.nx → m' k = m k) (skp : ∀ a o, ¬ Live m h a → H a = some o → NoTb o → ¬ Live m' h' a ∧ ∃ o', H' a = some o' ∧ Lk o o') : ∀ {vs ds}, RpAll K CA m h H vs ds → RpAll K CA m' h' H' vs ds := fun {vs ds} r => by
  induction vs generalizing ds with
  | nil => cases r; exact .nil
  | cons v vs ih => cases r with
    | cons h1 h2 => exact .cons (h1.mv0 snx smp skp) (ih h2)
theorem Rp.mv (s : Mv m h H m' h' H') {v d} (r : Rp K CA m h H v d) : Rp K CA m' h' H' v d := r.mv0 s.nx s.mp s.kp
theorem RpAll.mv (s : Mv m h H m' h' H') {vs ds} (r : RpAll K CA m h H vs ds) : RpAll K CA m' h' H' vs ds := r.mv0 s.nx s.mp s.kp
theorem Rp.move (s : Stp m h H m' h' H') {v d} (r : Rp K CA m h H v d) : Rp K CA m' h' H' v d := r.mv s.toMv
theorem RpAll.move (s : Stp m h H m' h' H') {vs ds} (r : RpAll K CA m h H vs ds) : RpAll K CA m' h' H' vs ds := r.mv s.toMv
theorem RpAll.length (r : RpAll K CA m h H vs ds) : vs.length = ds.length := by
  induction vs generalizing ds with
  | nil => cases r; rfl
  | cons v vs ih => cases r with
    | cons _ h2 => simp [ih h2]
theorem RpAll.getD (r : RpAll K CA m h H vs ds) {i : Nat} {d : D} (e : ds[i]? = some d) : ∃ v, vs[i]? = some v ∧ Rp K CA m h H v d := by
  induction vs generalizing ds i with
  | nil => cases r; simp at e
  | cons x vs ih => cases r with
    | cons h1 h2 =>
      cases i with
      | zero => simp at e; subst e; exact ⟨_, rfl, h1⟩
      | succ i => simpa using ih h2 (by simpa using e)
theorem RpAll.get (r : RpAll K CA m h H vs ds) {i : Nat} {v : V} (e : vs[i]? = some v) : ∃ d, ds[i]? = some d ∧ Rp K CA m h H v d := by
  induction vs generalizing ds i with
  | nil => simp at e
  | cons x vs ih => cases r with
    | cons h1 h2 =>
      cases i with
      | zero => simp at e; subst e; exact ⟨_, rfl, h1⟩
      | succ i => simpa using ih h2 (by simpa using e)
theorem RpAll.append {vs' : List V} {ds' : List D} (r : RpAll K CA m h H vs ds) (r' : RpAll K CA m h H vs' ds') : RpAll K CA m h H (vs ++ vs') (ds ++ ds') := by
  induction vs generalizing ds with
  | nil => cases r; exact r'
  | cons x vs ih => cases r with
    | cons h1 h2 => exact .cons h1 (ih h2)
theorem RpAll.take (r : RpAll K CA m h H vs ds) (n : Nat) : RpAll K CA m h H (vs.take n) (ds.take n) := by
  induction vs generalizing ds n with
  | nil => cases r; simp; exact .nil
  | cons x vs ih => cases r with
    | cons h1 h2 =>
      cases n with
      | zero => exact .nil
      | succ n => exact .cons h1 (ih h2 n)
theorem RpAll.drop (r : RpAll K CA m h H vs ds) (n : Nat) : RpAll K CA m h H (vs.drop n) (ds.drop n) := by
  induction vs generalizing ds n with
  | nil => cases r; simp; exact .nil
  | cons x vs ih => cases r with
    | cons h1 h2 =>
      cases n with
      | zero => exact .cons h1 h2
      | succ n => exact ih h2 n
theorem RpAll.eraseIdx (r : RpAll K CA m h H vs ds) (n : Nat) : RpAll K CA m h H (vs.eraseIdx n) (ds.eraseIdx n) := by
  induction vs generalizing ds n with
  | nil => cases r; simp; exact .nil
  | cons x vs ih => cases r with
    | cons h1 h2 =>
      cases n with
      | zero => exact h2
      | succ n => exact .cons h1 (ih h2 n)
theorem RpAll.set (r : RpAll K CA m h H vs ds) (n : Nat) (r1 : Rp K CA m h H v d) : RpAll K CA m h H (vs.set n v) (ds.set n d) := by
  induction vs generalizing ds n with
  | nil => cases r; simp; exact .nil
  | cons x vs ih => cases r with
    | cons h1 h2 =>
      cases n with
      | zero => exact .cons r1 h2
      | succ n => exact .cons h1 (ih h2 n)
theorem RpAll.reverse (r : RpAll K CA m h H vs ds) : RpAll K CA m h H vs.reverse ds.reverse := by
  induction vs generalizing ds with
  | nil => cases r; exact .nil
  | cons x vs ih => cases r with
    | cons h1 h2 =>
      simp only [List.reverse_cons]
      exact (ih h2).append (.cons h1 .nil)
end
section
variable (K : PySem.W.Frag) (CA : CAs) (m : Mp) (h : CH) (H : Hp)
/-- the named object o stands at a -/
inductive MOk (a : Addr) : MO → Prop
  | lst {xs : List V} {ds : List D} : H a = some (.lst xs) → RpAll K CA m h H xs ds → MOk a (.lst ds)
  | dct {kvs : List (Key × V)} {dks : List (Key × D)} : H a = some (.dK kvs) → kvs.map (·.1) = dks.map (·.1) → RpAll K CA m h H (kvs.map (·.2)) (dks.map (·.2)) → MOk a (.dct dks)
  | lck {ob : Obj} {kvs : List (Key × V)} {dks : List (Key × D)} : H a = some (.frz ob (.dK kvs)) → kvs.map (·.1) = dks.map (·.1) → RpAll K CA m h H (kvs.map (·.2)) (dks.map (·.2)) → MOk a (.lck dks)
  | lkl {xs : List V} {ds : List D} : H a = some (.lst xs) → RpAll K CA m h H xs ds → MOk a (.lkl ds)
  | obj {c : Nat} {dx : Addr} {fs : List (Str × V)} {dfs : List (Str × D)} : H a = some (.ins (CA c) dx fs) → fs.map (·.1) = dfs.map (·.1) → RpAll K CA m h H (fs.map (·.2)) (dfs.map (·.2)) → MOk a (.obj c dfs)
  | dctT {kvs : List (List Key × V)} {dks : List (List Key × D)} : H a = some (.dT kvs) → kvs.map (·.1) = dks.map (·.1) → RpAll K CA m h H (kvs.map (·.2)) (dks.map (·.2)) → MOk a (.dctT dks)
structure HR : Prop where
  ob : ∀ k o, h.ob k = some o → k < h.nx ∧ MOk K CA m h H (m k) o
  inj : ∀ k j o u, h.ob k = some o → h.ob j = some u → m k = m j → k = j
  zn : ∀ k o, h.ob k = some o → m k ∉ m.z
  zh : ∀ a, a ∈ m.z → ∃ u, H a = some u ∧ NTab u
  tb : LamX.Tabs CA.T H
abbrev DE := List (Option D)
structure SO (σ : L2.St) (ρ : DE) : Prop where
  hr : HR K CA m h H
  len : σ.length = ρ.length
  sl : ∀ (i : Nat) (d : D), ρ[i]? = some (some d) → ∃ v, σ[i]? = some (some v) ∧ Rp K CA m h H v d
/-- an exception, told -/
def XR (cls : Value) (dd : Option Addr) (c : Nat) (fs : List (Str × D)) : Prop :=
  cls = .ref (CA c) ∧ ((dd = none ∧ fs = []) ∨ ∃ (x : Addr) (hf : List (Str × V)), dd = some x ∧ ¬ Live m h x ∧ H x = some (.xd hf) ∧ hf.map (·.1) = fs.map (·.1) ∧ RpAll K CA m h H (hf.map (·.2)) (fs.map (·.2)))
end
section
variable {K : PySem.W.Frag} {CA : CAs} {m m' : Mp} {h h' : CH} {H H' : Hp} {σ : L2.St} {ρ : DE} {v : V} {d : D} {a p : Addr} {o : MO} {k : Nat}
theorem MOk.mv (s : Mv m h H m' h' H') (e : H' a = H a) (x : MOk K CA m h H a o) : MOk K CA m' h' H' a o := by
  cases x with
  | lst q r => exact .lst (e.trans q) (r.mv s)
  | dct q en r => exact .dct (e.trans q) en (r.mv s)
  | lck q en r => exact .lck (e.trans q) en (r.mv s)
  | lkl q r => exact .lkl (e.trans q) (r.mv s)
  | obj q en r => exact .obj (e.trans q) en (r.mv s)
  | dctT q en r => exact .dctT (e.trans q) en (r.mv s)
theorem MOk.move (s : Stp m h H m' h' H') (e : H' a = H a) (x : MOk K CA m h H a o) : MOk K CA m' h' H' a o := x.mv s.toMv e
theorem MOk.some (x : MOk K CA m h H a o) : ∃ u, H a = some u := by
  cases x with
  | lst q r => exact ⟨_, q⟩
  | dct q en r => exact ⟨_, q⟩
  | lck q en r => exact ⟨_, q⟩
  | lkl q r => exact ⟨_, q⟩
  | obj q en r => exact ⟨_, q⟩
  | dctT q en r => exact ⟨_, q⟩
theorem mok_nt (x : MOk K CA m h H a o) : ∃ u, H a = some u ∧ NTab u := by
  cases x with
  | lst q r => exact ⟨_, q, trivial⟩
  | dct q en r => exact ⟨_, q, trivial⟩
  | lck q en r => exact ⟨_, q, trivial⟩
  | lkl q r => exact ⟨_, q, trivial⟩
  | obj q en r => exact ⟨_, q, trivial⟩
  | dctT q en r => exact ⟨_, q, trivial⟩
/-- the tables, where something else is written -/
theorem tabs_upd {T : List (Addr × Str)} {u w : HO} (t : LamX.Tabs T H) (e : H a = some w) (n : NTab w) : LamX.Tabs T (upd H a u) := fun p hp => by
  obtain ⟨ps, h1, h2, h3⟩ := t p hp
  refine ⟨ps, by rw [upd_ne (fun z => by rw [z, e] at h1; cases h1; exact n)]; exact h1, h2, fun pos cv hc => ?_⟩
  obtain ⟨c, e1, e2⟩ := h3 pos cv hc
  refine ⟨c, e1, ?_⟩
  rw [upd_ne (fun z => by
    rw [z, e] at e2
    unfold LamX.CodeO at e2
    cases e2
    exact n)]
  exact e2
theorem tabs_grow {T : List (Addr × Str)} {H1 : Hp} (t : LamX.Tabs T H) (k : ∀ a u, H a = some u → H1 a = some u) : LamX.Tabs T H1 := t.ext k
theorem tabs_laid {T : List (Addr × Str)} {u : HO} (t : LamX.Tabs T H) (n : H p = none) : LamX.Tabs T (upd H p u) := t.ext fun a w e => by rw [upd_ne (ne_of_none e n)]; exact e
theorem HR.live (S : HR K CA m h H) (l : Live m h a) : ∃ u, H a = some u := by
  rcases l with ⟨k, o, e, rfl⟩ | l
  · exact (S.ob k o e).2.some
  · obtain ⟨u, q, _⟩ := S.zh a l
    exact ⟨u, q⟩
theorem HR.fresh (S : HR K CA m h H) (n : H p = none) : ¬ Live m h p := fun l => by
  obtain ⟨u, e⟩ := S.live l
  rw [n] at e; cases e
theorem SO.move (S : SO K CA m h H σ ρ) (s : Stp m h H m' h' H') (r : HR K CA m' h' H') : SO K CA m' h' H' σ ρ :=
  ⟨r, S.len, fun i d e => let ⟨v, e1, q⟩ := S.sl i d e; ⟨v, e1, q.move s⟩⟩
theorem XR.move {cls : Value} {dd : Option Addr} {c : Nat} {fs : List (Str × D)} (x : XR K CA m h H cls dd c fs) (s : Stp m h H m' h' H') : XR K CA m' h' H' cls dd c fs := by
  obtain ⟨x1, x2⟩ := x
  refine ⟨x1, x2.imp id ?_⟩
  rintro ⟨y, hf, e1, e2, e3, e4, e5⟩
  obtain ⟨n', o', e', c'⟩ := s.kp y _ e2 e3 trivial
  replace c' := c'.core
  exact ⟨y, hf, e1, n', by rw [e', core_xd c'], e4, e5.move s⟩
/-- a new object that does not change -/
theorem stp_laid (S : HR K CA m h H) {u : HO} (n : H p = none) : Stp m h H m h (upd H p u) :=
  .mk' ⟨Nat.le_refl _, fun _ _ => rfl, fun b x l e _ => ⟨l, x, by rw [upd_ne (ne_of_none e n)]; exact e, .inl rfl⟩⟩ (fun k kvs _ e _ => ⟨e, by
    obtain ⟨u, q⟩ := (S.ob k _ e).2.some
    exact upd_ne (ne_of_none q n)⟩) rfl fun a l => by
    obtain ⟨u, q, _⟩ := S.zh a l
    exact upd_ne (ne_of_none q n)
/-- things are laid: what stood stands -/
theorem stp_grow {H1 : Hp} (S : HR K CA m h H) (k : ∀ a u, H a = some u → H1 a = some u) : Stp m h H m h H1 :=
  .mk' ⟨Nat.le_refl _, fun _ _ => rfl, fun b x l e _ => ⟨l, x, k b x e, .inl rfl⟩⟩ (fun j kvs _ e _ => ⟨e, by
    obtain ⟨u, q⟩ := (S.ob j _ e).2.some
    rw [q]; exact k _ _ q⟩) rfl fun a l => by
    obtain ⟨u, q, _⟩ := S.zh a l
    rw [q]; exact k _ _ q
theorem HR.grow {H1 : Hp} (S : HR K CA m h H) (k : ∀ a u, H a = some u → H1 a = some u) : HR K CA m h H1 :=
  ⟨fun j o e => ⟨(S.ob j o e).1, (S.ob j o e).2.move (stp_grow S k) (by
    obtain ⟨x, q⟩ := (S.ob j o e).2.some
    rw [q]; exact k _ _ q)⟩, S.inj, S.zn, fun a l => by
    obtain ⟨w, q, nt⟩ := S.zh a l
    exact ⟨w, k a w q, nt⟩, tabs_grow S.tb k⟩
theorem HR.laid (S : HR K CA m h H) {u : HO} (n : H p = none) : HR K CA m h (upd H p u) :=
  ⟨fun k o e => ⟨(S.ob k o e).1, (S.ob k o e).2.move (stp_laid S n) (by
    obtain ⟨x, q⟩ := (S.ob k o e).2.some
    exact upd_ne (ne_of_none q n))⟩, S.inj, S.zn, fun a l => by
    obtain ⟨w, q, nt⟩ := S.zh a l
    exact ⟨w, by rw [upd_ne (ne_of_none q n)]; exact q, nt⟩, tabs_laid S.tb n⟩
/-- the names, with a new one -/
def mpNew (m : Mp) (h : CH) (p : Addr) : Mp := ⟨fun j => if j = h.nx then p else m j, m.z⟩
theorem mpNew_nx : mpNew m h p h.nx = p := if_pos rfl
theorem mpNew_lt (l : k < h.nx) : mpNew m h p k = m k := if_neg (Nat.ne_of_lt l)
theorem live_new (S : HR K CA m h H) {o : MO} (l : Live (mpNew m h p) (h.new o) a) : a = p ∨ Live m h a := by
  rcases l with ⟨k, u, e, rfl⟩ | l
  · unfold CH.new at e
    by_cases q : k = h.nx
    · subst q; exact .inl mpNew_nx
    · simp only [if_neg q] at e
      exact .inr (.inl ⟨k, u, e, (mpNew_lt (S.ob k u e).1).symm⟩)
  · exact .inr (.inr l)
/-- a new object that may change: laid at p (H1 is H with p laid, and perhaps more) -/
theorem stp_new (S : HR K CA m h H) {o : MO} {H1 : Hp} (n : H p = none) (k : ∀ a u, H a = some u → H1 a = some u) : Stp m h H (mpNew m h p) (h.new o) H1 :=
  .mk' ⟨Nat.le_succ _, fun k l => mpNew_lt l, fun b x l e _ => ⟨fun z => by
    rcases live_new S z with rfl | z
    · rw [n] at e; cases e
    · exact l z, x, k b x e, .inl rfl⟩⟩ (fun j kvs l e _ => ⟨by
    unfold CH.new
    simp only [if_neg (Nat.ne_of_lt l)]
    exact e, by
    obtain ⟨u, q⟩ := (S.ob j _ e).2.some
    rw [q]; exact k _ _ q⟩) rfl fun a l => by
    obtain ⟨u, q, _⟩ := S.zh a l
    rw [q]; exact k _ _ q
theorem HR.new (S : HR K CA m h H) {o : MO} {H1 : Hp} (n : H p = none) (k : ∀ a u, H a = some u → H1 a = some u) (x : MOk K CA (mpNew m h p) (h.new o) H1 p o) : HR K CA (mpNew m h p) (h.new o) H1 := by
  have key : ∀ j u, (h.new o).ob j = some u → (j = h.nx ∧ u = o) ∨ (j < h.nx ∧ h.ob j = some u) := fun j u e => by
    unfold CH.new at e
    by_cases q : j = h.nx
    · simp only [if_pos q] at e; cases e; exact .inl ⟨q, rfl⟩
    · simp only [if_neg q] at e
      exact .inr ⟨(S.ob j u e).1, e⟩
  have off : ∀ j u, h.ob j = some u → m j ≠ p := fun j u e z => S.fresh n (.inl ⟨j, u, e, z⟩)
  refine ⟨fun j u e => ?_, fun i j u w e1 e2 e3 => ?_, fun j u e => ?_, fun a l => ?_, tabs_grow S.tb k⟩
  · rcases key j u e with ⟨rfl, rfl⟩ | ⟨l, q⟩
    · exact ⟨Nat.lt_succ_self _, by rw [mpNew_nx]; exact x⟩
    · refine ⟨Nat.lt_succ_of_lt l, ?_⟩
      rw [mpNew_lt l]
      obtain ⟨y, z⟩ := (S.ob j u q).2.some
      exact (S.ob j u q).2.move (stp_new S n k) (by rw [z]; exact k _ _ z)
  · rcases key i u e1 with ⟨rfl, rfl⟩ | ⟨l1, q1⟩
    · rcases key j w e2 with ⟨rfl, rfl⟩ | ⟨l2, q2⟩
      · rfl
      · rw [mpNew_nx, mpNew_lt l2] at e3
        exact absurd e3.symm (off j w q2)
    · rcases key j w e2 with ⟨rfl, rfl⟩ | ⟨l2, q2⟩
      · rw [mpNew_nx, mpNew_lt l1] at e3
        exact absurd e3 (off i u q1)
      · rw [mpNew_lt l1, mpNew_lt l2] at e3
        exact S.inj i j u w q1 q2 e3
  · rcases key j u e with ⟨rfl, rfl⟩ | ⟨l, q⟩
    · rw [mpNew_nx]; exact fun z => S.fresh n (.inr z)
    · rw [mpNew_lt l]; exact S.zn j u q
  · obtain ⟨w, q, nt⟩ := S.zh a l
    exact ⟨w, k a w q, nt⟩
theorem upd_new {u : HO} (n : H p = none) : ∀ a w, H a = some w → upd H p u a = some w := fun a w e => by
  rw [upd_ne (ne_of_none e n)]; exact e
/-- the named object k is written -/
theorem live_put {o' : MO} (e : h.ob k = some o) : Live m (h.put k o') a ↔ Live m h a := by
  constructor
  · rintro (⟨j, u, q, rfl⟩ | q)
    · unfold CH.put at q
      by_cases z : j = k
      · subst z; exact .inl ⟨_, _, e, rfl⟩
      · simp only [if_neg z] at q; exact .inl ⟨_, _, q, rfl⟩
    · exact .inr q
  · rintro (⟨j, u, q, rfl⟩ | q)
    · by_cases z : j = k
      · subst z; exact .inl ⟨j, o', by unfold CH.put; simp, rfl⟩
      · exact .inl ⟨j, u, by unfold CH.put; simp only [if_neg z]; exact q, rfl⟩
    · exact .inr q
theorem mv_put (e : h.ob k = some o) {o' : MO} {u : HO} : Mv m h H m (h.put k o') (upd H (m k) u) :=
  ⟨Nat.le_refl _, fun _ _ => rfl, fun b x l q _ => ⟨fun z => l ((live_put e).mp z), x, by
    rw [upd_ne (fun z => l (.inl ⟨k, o, e, z.symm⟩))]; exact q, .inl rfl⟩⟩
theorem stp_put (S : HR K CA m h H) (e : h.ob k = some o) (nl : NotLck o) {o' : MO} {u : HO} : Stp m h H m (h.put k o') (upd H (m k) u) :=
  .mk' (mv_put e) (fun j kvs l q ld => by
    have nj : j ≠ k := fun z => by subst z; rw [q] at e; cases e; exact ld nl
    exact ⟨by unfold CH.put; simp only [if_neg nj]; exact q, upd_ne fun z => nj (S.inj _ _ _ _ q e z)⟩) rfl fun a l => upd_ne fun z => S.zn k _ e (by rw [← z]; exact l)
theorem HR.put (S : HR K CA m h H) (e : h.ob k = some o) {o' : MO} {u : HO} (x : MOk K CA m (h.put k o') (upd H (m k) u) (m k) o') : HR K CA m (h.put k o') (upd H (m k) u) := by
  have key : ∀ j w, (h.put k o').ob j = some w → (j = k ∧ w = o') ∨ (j ≠ k ∧ h.ob j = some w) := fun j w q => by
    unfold CH.put at q
    by_cases z : j = k
    · simp only [if_pos z] at q; cases q; exact .inl ⟨z, rfl⟩
    · simp only [if_neg z] at q; exact .inr ⟨z, q⟩
  have back : ∀ j w, (h.put k o').ob j = some w → ∃ w', h.ob j = some w' := fun j w q => by
    rcases key j w q with ⟨rfl, _⟩ | ⟨_, q⟩
    · exact ⟨_, e⟩
    · exact ⟨_, q⟩
  obtain ⟨w0, e0, n0⟩ := mok_nt (S.ob k o e).2
  refine ⟨fun j w q => ?_, fun i j w w' e1 e2 e3 => ?_, fun j w q => ?_, fun a l => ?_, tabs_upd S.tb e0 n0⟩
  · rcases key j w q with ⟨rfl, rfl⟩ | ⟨z, q⟩
    · exact ⟨(S.ob _ _ e).1, x⟩
    · exact ⟨(S.ob _ _ q).1, (S.ob _ _ q).2.mv (mv_put e) (upd_ne fun y => z (S.inj _ _ _ _ q e y))⟩
  · obtain ⟨y, q1⟩ := back i w e1
    obtain ⟨y', q2⟩ := back j w' e2
    exact S.inj i j _ _ q1 q2 e3
  · obtain ⟨y, q1⟩ := back j w q
    exact S.zn j _ q1
  · obtain ⟨y, q, nt⟩ := S.zh a l
    exact ⟨y, by rw [upd_ne (fun z => S.zn k o e (by rw [← z]; exact l))]; exact q, nt⟩
theorem put_same {o : MO} : (h.put k o).ob k = some o := by unfold CH.put; simp
theorem put_ne {o : MO} {j : Nat} (n : j ≠ k) : (h.put k o).ob j = h.ob j := by unfold CH.put; simp only [if_neg n]
theorem upd_eq {a : Addr} {u : HO} (e : H a = some u) : upd H a u = H := by
  funext b
  by_cases z : b = a
  · subst z; rw [upd_same, e]
  · rw [upd_ne z]
/-- a list is locked, things happen, it is unlocked -/
theorem lockL_ok {ds : List D} (S : HR K CA m h H) (e : h.ob k = some (.lst ds)) : ∃ xs, H (m k) = some (.lst xs) ∧ RpAll K CA m h H xs ds ∧ Stp m h H m (h.put k (.lkl ds)) H ∧ HR K CA m (h.put k (.lkl ds)) H := by
  have x := (S.ob k _ e).2
  cases x with
  | @lst xs _ q r =>
    have s1 := stp_put (o' := .lkl ds) (u := .lst xs) S e trivial
    have S1 := S.put (o' := .lkl ds) (u := .lst xs) e (.lkl upd_same (r.mv (mv_put e)))
    rw [upd_eq q] at s1 S1
    exact ⟨xs, q, r, s1, S1⟩
theorem unlockL_ok {ds : List D} {m2 : Mp} {h2 : CH} {H2 : Hp} (S : HR K CA m h H) (e : h.ob k = some (.lst ds)) (s : Stp m (h.put k (.lkl ds)) H m2 h2 H2) (S2 : HR K CA m2 h2 H2) :
    h2.ob k = some (.lkl ds) ∧ Stp m h H m2 (h2.put k (.lst ds)) H2 ∧ HR K CA m2 (h2.put k (.lst ds)) H2 := by
  have lt := (S.ob k _ e).1
  obtain ⟨e2, q2⟩ := s.lk k _ lt put_same id
  have x := (S2.ob k _ e2).2
  cases x with
  | @lkl xs _ qh r =>
    have S3 := S2.put (o' := .lst ds) (u := .lst xs) e2 (.lst upd_same (r.mv (mv_put e2)))
    rw [upd_eq qh] at S3
    refine ⟨e2, .mk' ⟨s.nx, s.mp, fun a o l qa nt => ?_⟩ (fun j kv l qj ld => ?_) s.z s.zk, S3⟩
    · obtain ⟨l2, o', q', lk⟩ := s.kp a o (fun z => l ((live_put e).mp z)) qa nt
      exact ⟨fun z => l2 ((live_put e2).mp z), o', q', lk⟩
    · have nj : j ≠ k := fun z => by subst z; rw [qj] at e; cases e; exact ld trivial
      obtain ⟨a1, a2⟩ := s.lk j kv l (by rw [put_ne nj]; exact qj) ld
      exact ⟨by rw [put_ne nj]; exact a1, a2⟩
/-- the named object k is given free: it will not change -/
theorem live_del (S : HR K CA m h H) (e : h.ob k = some o) : Live m (h.del k) a → Live m h a ∧ a ≠ m k := by
  rintro (⟨j, u, q, rfl⟩ | q)
  · unfold CH.del at q
    by_cases z : j = k
    · simp only [if_pos z] at q; cases q
    · simp only [if_neg z] at q
      exact ⟨.inl ⟨j, u, q, rfl⟩, fun y => z (S.inj _ _ _ _ q e y)⟩
  · exact ⟨.inr q, fun z => S.zn k o e (z ▸ q)⟩
theorem stp_del (S : HR K CA m h H) (e : h.ob k = some o) (nl : NotLck o) : Stp m h H m (h.del k) H :=
  .mk' ⟨Nat.le_refl _, fun _ _ => rfl, fun b x l q _ => ⟨fun z => l (live_del S e z).1, x, q, .inl rfl⟩⟩ (fun j kvs l q ld => by
    have nj : j ≠ k := fun z => by subst z; rw [q] at e; cases e; exact ld nl
    exact ⟨by unfold CH.del; simp only [if_neg nj]; exact q, rfl⟩) rfl fun _ _ => rfl
theorem HR.del (S : HR K CA m h H) (e : h.ob k = some o) (nl : NotLck o) : HR K CA m (h.del k) H := by
  have key : ∀ j w, (h.del k).ob j = some w → h.ob j = some w := fun j w q => by
    unfold CH.del at q
    by_cases z : j = k
    · simp only [if_pos z] at q; cases q
    · simp only [if_neg z] at q; exact q
  exact ⟨fun j w q => ⟨(S.ob j w (key j w q)).1, (S.ob j w (key j w q)).2.move (stp_del S e nl) rfl⟩, fun i j w w' e1 e2 => S.inj i j w w' (key i w e1) (key j w' e2), fun j w q => S.zn j w (key j w q), S.zh, S.tb⟩
/-- a thing begins to be made at p -/
def Mp.add (m : Mp) (p : Addr) : Mp := ⟨m.f, p :: m.z⟩
theorem Mp.add_kp {u : HO} (n : H p = none) : ∀ a o, ¬ Live m h a → H a = some o → NoTb o → ¬ Live (m.add p) h a ∧ ∃ o', upd H p u a = some o' ∧ Lk o o' := fun a o l e _ => ⟨fun z => by
    rcases z with ⟨k, w, q, rfl⟩ | z
    · exact l (.inl ⟨k, w, q, rfl⟩)
    · rcases List.mem_cons.mp z with rfl | z
      · rw [n] at e; cases e
      · exact l (.inr z), o, by rw [upd_ne (ne_of_none e n)]; exact e, .inl rfl⟩
theorem Rp.add {u : HO} (n : H p = none) {v : V} {d : D} (r : Rp K CA m h H v d) : Rp K CA (m.add p) h (upd H p u) v d := Rp.mv0 (m := m) (h := h) (H := H) (m' := m.add p) (h' := h) (H' := upd H p u) (Nat.le_refl _) (fun _ _ => rfl) (Mp.add_kp n) r
theorem RpAll.add {u : HO} (n : H p = none) {v : List V} {d : List D} (r : RpAll K CA m h H v d) : RpAll K CA (m.add p) h (upd H p u) v d := RpAll.mv0 (m := m) (h := h) (H := H) (m' := m.add p) (h' := h) (H' := upd H p u) (Nat.le_refl _) (fun _ _ => rfl) (Mp.add_kp n) r
theorem HR.add (S : HR K CA m h H) {u : HO} (n : H p = none) (nu : NTab u := by trivial) : HR K CA (m.add p) h (upd H p u) := by
  have rps : ∀ {vs : List V} {ds : List D}, RpAll K CA m h H vs ds → RpAll K CA (m.add p) h (upd H p u) vs ds := fun r => r.add n
  refine ⟨fun k o e => ⟨(S.ob k o e).1, ?_⟩, S.inj, fun k o e z => ?_, fun a l => ?_, tabs_laid S.tb n⟩
  · have ne : m k ≠ p := fun z => S.fresh n (.inl ⟨k, o, e, z⟩)
    have x := (S.ob k o e).2
    have nq : ∀ {w}, H (m k) = some w → upd H p u ((m.add p) k) = some w := fun {w} q => by
      show upd H p u (m k) = some w
      rw [upd_ne ne]; exact q
    cases x with
    | lst q r => exact .lst (nq q) (rps r)
    | dct q en r => exact .dct (nq q) en (rps r)
    | lck q en r => exact .lck (nq q) en (rps r)
    | lkl q r => exact .lkl (nq q) (rps r)
    | obj q en r => exact .obj (nq q) en (rps r)
    | dctT q en r => exact .dctT (nq q) en (rps r)
  · rcases List.mem_cons.mp z with z | z
    · exact S.fresh n (.inl ⟨k, o, e, z⟩)
    · exact S.zn k o e z
  · rcases List.mem_cons.mp l with rfl | l
    · exact ⟨u, upd_same, nu⟩
    · obtain ⟨w, q, nt⟩ := S.zh a l
      exact ⟨w, by rw [upd_ne (ne_of_none q n)]; exact q, nt⟩
/-- .. it is changed while it is made -/
theorem sc_made (S : HR K CA m h H) (l : p ∈ m.z) {u : HO} : Sc p m h H m h (upd H p u) := by
  refine ⟨⟨⟨Nat.le_refl _, fun _ _ => rfl, fun b x nl q _ => ⟨nl, x, ?_, .inl rfl⟩⟩, fun k kvs _ e _ => ⟨e, upd_ne fun z => S.zn k _ e (by rw [z]; exact l)⟩⟩, rfl, fun a _ n => upd_ne n⟩
  have hb : b ≠ p := fun z => nl (.inr (by rw [z]; exact l))
  rw [upd_ne hb]; exact q
theorem sz_add (S : HR K CA m h H) {u : HO} (n : H p = none) : Sz m h H (m.add p) h (upd H p u) :=
  ⟨⟨Nat.le_refl _, fun _ _ => rfl, Mp.add_kp n⟩, fun k kvs _ e _ => ⟨e, upd_ne fun z => S.fresh n (.inl ⟨k, _, e, z⟩)⟩⟩
theorem HR.made (S : HR K CA m h H) (l : p ∈ m.z) {u : HO} (nu : NTab u := by trivial) : HR K CA m h (upd H p u) :=
  let ⟨_, e0, n0⟩ := S.zh p l
  ⟨fun k o e => ⟨(S.ob k o e).1, (S.ob k o e).2.mv (sc_made S l).toMv (upd_ne fun z => S.zn k _ e (by rw [z]; exact l))⟩, S.inj, S.zn, fun a la => by
    by_cases q : a = p
    · subst q; exact ⟨u, upd_same, nu⟩
    · obtain ⟨w, e, nt⟩ := S.zh a la
      exact ⟨w, by rw [upd_ne q]; exact e, nt⟩, tabs_upd S.tb e0 n0⟩
/-- .. it is made: since (m, h, H), where p was free -/
theorem stp_done {m2 : Mp} {h2 : CH} {H2 : Hp} (S : HR K CA m h H) {u : HO} (n : H p = none) (s : Sc p (m.add p) h (upd H p u) m2 h2 H2) : Stp m h H ⟨m2.f, m.z⟩ h2 H2 := by
  have z2 : m2.z = p :: m.z := s.z
  refine .mk' ⟨s.nx, s.mp, fun a o l e nt => ?_⟩ (fun k kvs l e ld => ?_) rfl fun a l => ?_
  · have ne : a ≠ p := ne_of_none e n
    obtain ⟨l2, o', e', k'⟩ := s.kp a o (fun z => by
      rcases z with ⟨k, w, q, rfl⟩ | z
      · exact l (.inl ⟨k, w, q, rfl⟩)
      · rcases List.mem_cons.mp z with z | z
        · exact ne z
        · exact l (.inr z)) (by rw [upd_ne ne]; exact e) nt
    refine ⟨fun z => l2 ?_, o', e', k'⟩
    rcases z with z | z
    · exact .inl z
    · exact .inr (by rw [z2]; exact List.mem_cons_of_mem _ z)
  · obtain ⟨a1, a2⟩ := s.lk k kvs l e ld
    have ne : m k ≠ p := fun z => S.fresh n (.inl ⟨k, _, e, z⟩)
    exact ⟨a1, a2.trans (upd_ne ne)⟩
  · have ne : a ≠ p := fun z => S.fresh n (.inr (by rw [← z]; exact l))
    exact (s.zk a (List.mem_cons_of_mem _ l) ne).trans (upd_ne ne)
theorem Mp.done_kp {m2 : Mp} {zs : List Addr} {h2 : CH} {H2 : Hp} (z2 : m2.z = p :: zs) : ∀ a o, ¬ Live m2 h2 a → H2 a = some o → NoTb o → ¬ Live ⟨m2.f, zs⟩ h2 a ∧ ∃ o', H2 a = some o' ∧ Lk o o' := fun a o l e _ => ⟨fun z => l (by
    rcases z with z | z
    · exact .inl z
    · exact .inr (by rw [z2]; exact List.mem_cons_of_mem _ z)), o, e, .inl rfl⟩
theorem RpAll.done {m2 : Mp} {zs : List Addr} {h2 : CH} {H2 : Hp} (z2 : m2.z = p :: zs) {vs : List V} {ds : List D} (r : RpAll K CA m2 h2 H2 vs ds) : RpAll K CA ⟨m2.f, zs⟩ h2 H2 vs ds := RpAll.mv0 (m := m2) (h := h2) (H := H2) (m' := ⟨m2.f, zs⟩) (h' := h2) (H' := H2) (Nat.le_refl _) (fun _ _ => rfl) (Mp.done_kp z2) r
theorem HR.done {m2 : Mp} {zs : List Addr} {h2 : CH} {H2 : Hp} (S : HR K CA m2 h2 H2) (z2 : m2.z = p :: zs) : HR K CA ⟨m2.f, zs⟩ h2 H2 := by
  refine ⟨fun k o e => ⟨(S.ob k o e).1, ?_⟩, S.inj, fun k o e z => S.zn k o e (by rw [z2]; exact List.mem_cons_of_mem _ z), fun a l => S.zh a (by rw [z2]; exact List.mem_cons_of_mem _ l), S.tb⟩
  have x := (S.ob k o e).2
  cases x with
  | lst q r => exact .lst q (r.done z2)
  | dct q en r => exact .dct q en (r.done z2)
  | lck q en r => exact .lck q en (r.done z2)
  | lkl q r => exact .lkl q (r.done z2)
  | obj q en r => exact .obj q en (r.done z2)
  | dctT q en r => exact .dctT q en (r.done z2)
theorem set_some {α : Type} {l : List α} {i j : Nat} {x y : α} (h : (l.set i x)[j]? = some y) : (j = i ∧ y = x) ∨ (j ≠ i ∧ l[j]? = some y) := by
  by_cases e : j = i
  · subst e
    left
    refine ⟨rfl, ?_⟩
    rw [List.getElem?_set_self' ] at h
    cases q : l[j]? with
    | none => rw [q] at h; simp at h
    | some z => rw [q] at h; simpa using h.symm
  · right
    rw [List.getElem?_set_ne (Ne.symm e)] at h
    exact ⟨e, h⟩
theorem SO.set (S : SO K CA m h H σ ρ) (i : Nat) (r : Rp K CA m h H v d) : SO K CA m h H (σ.set i (some v)) (ρ.set i (some d)) := by
  refine ⟨S.hr, by simp [S.len], fun j s e => ?_⟩
  rcases set_some e with ⟨rfl, q⟩ | ⟨n, q⟩
  · cases q
    have hj : j < ρ.length := by
      have := (List.getElem?_eq_some_iff.mp e).1
      simpa using this
    exact ⟨v, by rw [List.getElem?_set_self (by rw [S.len]; exact hj)], r⟩
  · obtain ⟨w, e1, h⟩ := S.sl j s q
    exact ⟨w, by rw [List.getElem?_set_ne (Ne.symm n)]; exact e1, h⟩
end
end CM
namespace CM
open PySem PySem.Spec PyProof.Rows L2
abbrev TD := DE → CH → R D
abbrev TDs := DE → CH → R (List D)
abbrev TB := DE → CH → R Bool
/-- how a statement ends -/
inductive RS where
  | nx (ρ : DE) (h : CH) | rt (d : D) (h : CH) | bk (ρ : DE) (h : CH) | ct (ρ : DE) (h : CH)
  | ex (ρ : DE) (c : Nat) (fs : List (Str × D)) (h : CH) | no
abbrev SD := DE → CH → RS
def R.toS {α : Type} (r : R α) (ρ : DE) (f : α → CH → RS) : RS := match r with
  | .ok a h => f a h
  | .ex c fs h => .ex ρ c fs h
  | .no => .no
section
variable (K : PySem.W.Frag) (CA : CAs) (W : WX)
def PostG {α β : Type} (RR : Mp → CH → Hp → β → α → Prop) (m : Mp) (h : CH) (H : Hp) (σ : L2.St) (Q' : β → Hp → Prop) : R α → Prop
  | .ok a h' => ∀ m' b H', Stp m h H m' h' H' → HR K CA m' h' H' → RR m' h' H' b a → Q' b H'
  | .ex c fs h' => ∀ m' cls dd H', Stp m h H m' h' H' → HR K CA m' h' H' → XR K CA m' h' H' cls dd c fs → W cls dd σ H'
  | .no => False
abbrev RB : Mp → CH → Hp → Bool → Bool → Prop := fun _ _ _ b a => b = a
abbrev PostE := PostG K CA W (Rp K CA)
abbrev PostA := PostG K CA W (RpAll K CA)
abbrev PostT := PostG K CA W RB
def SimE (tH : TE) (t : TD) : Prop := ∀ (m : Mp) (h : CH) (H : Hp) (σ : L2.St) (ρ : DE) (Q' : VK), SO K CA m h H σ ρ → PostE K CA W m h H σ Q' (t ρ h) → tH σ H Q'
def SimT (tH : TT) (t : TB) : Prop := ∀ (m : Mp) (h : CH) (H : Hp) (σ : L2.St) (ρ : DE) (Q' : Bool → Hp → Prop), SO K CA m h H σ ρ → PostT K CA W m h H σ Q' (t ρ h) → tH σ H Q'
def SimA (tH : TA) (t : TDs) : Prop := ∀ (m : Mp) (h : CH) (H : Hp) (σ : L2.St) (ρ : DE) (Q' : List V → Hp → Prop), SO K CA m h H σ ρ → PostA K CA W m h H σ Q' (t ρ h) → tH σ H Q'
end
/-- operations by values -/
abbrev F1 := D → CH → R D
abbrev F2 := D → D → CH → R D
abbrev FD := List D → CH → R D
def SimR (K : PySem.W.Frag) (CA : CAs) (r : R2) (f : F2) : Prop := ∀ (W : WX) (σ : L2.St) (m : Mp) (h : CH) (H : Hp) (x y : V) (dx dy : D) (Q' : VK), HR K CA m h H → Rp K CA m h H x dx → Rp K CA m h H y dy → PostE K CA W m h H σ Q' (f dx dy h) → r x y H Q'
def SimC (K : PySem.W.Frag) (CA : CAs) (r : List V → Hp → VK → Prop) (f : FD) : Prop := ∀ (W : WX) (σ : L2.St) (m : Mp) (h : CH) (H : Hp) (xs : List V) (ds : List D) (Q' : VK), HR K CA m h H → RpAll K CA m h H xs ds → PostE K CA W m h H σ Q' (f ds h) → r xs H Q'
section
variable {K : PySem.W.Frag} {CA : CAs} {W : WX} {m m1 : Mp} {h h1 : CH} {H H1 : Hp} {σ : L2.St} {α β γ δ : Type} {RR : Mp → CH → Hp → β → α → Prop} {RR2 : Mp → CH → Hp → δ → γ → Prop} {Q1 : β → Hp → Prop} {Q2 : δ → Hp → Prop} {p : Addr} {u : HO} {d : D} {v : V} {Q' : VK}
theorem PostG.from {r : R α} (q : PostG K CA W RR m h H σ Q1 r) (s : Stp m h H m1 h1 H1) : PostG K CA W RR m1 h1 H1 σ Q1 r := by
  cases r with
  | ok a h2 => exact fun m' b H' s' => q m' b H' (s.trans s')
  | ex c fs h2 => exact fun m' cls dd H' s' => q m' cls dd H' (s.trans s')
  | no => exact q
theorem PostG.bind {r : R α} {k : α → CH → R γ} (q : PostG K CA W RR2 m h H σ Q2 (r.bind k))
    (f : ∀ a h1 m1 b H1, Stp m h H m1 h1 H1 → HR K CA m1 h1 H1 → RR m1 h1 H1 b a → PostG K CA W RR2 m1 h1 H1 σ Q2 (k a h1) → Q1 b H1) : PostG K CA W RR m h H σ Q1 r := by
  cases r with
  | ok a h1 => exact fun m1 b H1 s S rr => f a h1 m1 b H1 s S rr (q.from s)
  | ex c fs h1 => exact q
  | no => exact q
theorem PostG.here {a : α} {b : β} (q : PostG K CA W RR m h H σ Q1 (.ok a h)) (S : HR K CA m h H) (r : RR m h H b a) : Q1 b H := q m b H .refl S r
theorem PostG.laid (q : PostE K CA W m h H σ Q' (.ok d h)) (S : HR K CA m h H) (n : H p = none) (r : Rp K CA m h (upd H p u) (.ref p) d) : Q' (.ref p) (upd H p u) := q m _ _ (stp_laid S n) (S.laid n) r
theorem PostG.new {o : MO} (q : PostE K CA W m h H σ Q' (.ok (.ref h.nx) (h.new o))) (S : HR K CA m h H) (n : H p = none) (x : MOk K CA (mpNew m h p) (h.new o) (upd H p u) p o) : Q' (.ref p) (upd H p u) :=
  q (mpNew m h p) _ _ (stp_new S n (upd_new n)) (S.new n (upd_new n) x) (by
    have := Rp.ref (K := K) (CA := CA) (m := mpNew m h p) (h := h.new o) (H := upd H p u) (k := h.nx) (Nat.lt_succ_self _)
    rw [mpNew_nx] at this
    exact this)
theorem rps_laid {vs : List V} {ds : List D} (S : HR K CA m h H) (n : H p = none) (r : RpAll K CA m h H vs ds) : RpAll K CA m h (upd H p u) vs ds := r.move (stp_laid S n)
theorem rps_new {vs : List V} {ds : List D} {o : MO} (S : HR K CA m h H) (n : H p = none) (r : RpAll K CA m h H vs ds) : RpAll K CA (mpNew m h p) (h.new o) (upd H p u) vs ds := r.move (stp_new S n (upd_new n))
end
/-- a new list, dict: a named object (true), or data -/
def mkL (nm : Bool) (ds : List D) (h : CH) : R D := match nm with
  | true => .ok (.ref h.nx) (h.new (.lst ds))
  | false => .ok (.lst ds) h
def mkD (nm : Bool) (ds : List (Key × D)) (h : CH) : R D := match nm with
  | true => .ok (.ref h.nx) (h.new (.dct ds))
  | false => .ok (.dct ds) h
section
variable {K : PySem.W.Frag} {CA : CAs} {W : WX} {m : Mp} {h : CH} {H : Hp} {σ : L2.St} {p : Addr} {Q' : VK}
theorem mkL_post {nm : Bool} {xs : List V} {ds : List D} (S : HR K CA m h H) (n : H p = none) (r : RpAll K CA m h H xs ds) (t : PostE K CA W m h H σ Q' (mkL nm ds h)) : Q' (.ref p) (upd H p (.lst xs)) := by
  cases nm with
  | true => exact PostG.new (show PostE K CA W m h H σ Q' (.ok (.ref h.nx) (h.new (.lst ds))) from t) S n (.lst upd_same (rps_new S n r))
  | false => exact PostG.laid (show PostE K CA W m h H σ Q' (.ok (.lst ds) h) from t) S n (.lst (S.fresh n) upd_same (rps_laid S n r))
theorem mkD_post {nm : Bool} {kvs : List (Key × V)} {dks : List (Key × D)} (S : HR K CA m h H) (n : H p = none) (en : kvs.map (·.1) = dks.map (·.1)) (r : RpAll K CA m h H (kvs.map (·.2)) (dks.map (·.2))) (t : PostE K CA W m h H σ Q' (mkD nm dks h)) : Q' (.ref p) (upd H p (.dK kvs)) := by
  cases nm with
  | true => exact PostG.new (show PostE K CA W m h H σ Q' (.ok (.ref h.nx) (h.new (.dct dks))) from t) S n (.dct upd_same en (rps_new S n r))
  | false => exact PostG.laid (show PostE K CA W m h H σ Q' (.ok (.dct dks) h) from t) S n (.dct (S.fresh n) upd_same rfl en (rps_laid S n r))
end
section
variable (X : Cx) (K : PySem.W.Frag) (CA : CAs) (W : WX)
structure WE (e : Expr) (tH : TE) (t : TD) : Prop where
  pe : PE X e tH
  sim : SimE K CA W tH t
structure WT (e : Expr) (tH : TT) (t : TB) : Prop where
  pe : PT X e tH
  sim : SimT K CA W tH t
structure WW (e : Expr) (tH : TT) (t : TB) : Prop where
  pe : PW X e tH
  sim : SimT K CA W tH t
structure WA (es : List Expr) (tH : TA) (t : TDs) : Prop where
  pe : PA X es tH
  sim : SimA K CA W tH t
end
def dVar (i : Nat) : TD := fun ρ h => match ρ[i]? with
  | some (some d) => .ok d h
  | _ => .no
def dC (d : D) : TD := fun _ h => .ok d h
def dOp (f : F2) (ta tb : TD) : TD := fun ρ h => (ta ρ h).bind fun x h => (tb ρ h).bind fun y h => f x y h
def dUn (f : F1) (ta : TD) : TD := fun ρ h => (ta ρ h).bind f
def dNil : TDs := fun _ h => .ok [] h
def dCons (ta : TD) (ts : TDs) : TDs := fun ρ h => (ta ρ h).bind fun x h => (ts ρ h).bind fun xs h => .ok (x :: xs) h
def dTup (ts : TDs) : TD := fun ρ h => (ts ρ h).bind fun xs h => if xs.length ≤ sizeLine then .ok (.tup xs) h else .no
def dLst (nm : Bool) (ts : TDs) : TD := fun ρ h => (ts ρ h).bind fun xs h => if xs.length ≤ sizeLine then mkL nm xs h else .no
def asB : D → CH → R Bool
  | .bl b, h => .ok b h
  | _, _ => .no
def dB (t : TD) : TB := fun ρ h => (t ρ h).bind asB
def dAnd (t u : TB) : TB := fun ρ h => (t ρ h).bind fun c h => if c = true then u ρ h else .ok false h
def dOr (t u : TB) : TB := fun ρ h => (t ρ h).bind fun c h => if c = true then .ok true h else u ρ h
def dNot (t : TB) : TB := fun ρ h => (t ρ h).bind fun c h => .ok (!c) h
def dAndV (ta tb : TD) : TD := fun ρ h => (ta ρ h).bind fun x h => (asB x h).bind fun c h => if c = true then tb ρ h else .ok (.bl false) h
def dOrV (ta tb : TD) : TD := fun ρ h => (ta ρ h).bind fun x h => (asB x h).bind fun c h => if c = true then .ok (.bl true) h else tb ρ h
def dNotV (ta : TD) : TD := fun ρ h => (ta ρ h).bind fun x h => (asB x h).bind fun c h => .ok (.bl (!c)) h
def dIf (t : TB) (ta tb : TD) : TD := fun ρ h => (t ρ h).bind fun c h => if c = true then ta ρ h else tb ρ h
def dCB (f : FD) (ts : TDs) : TD := fun ρ h => (ts ρ h).bind f
def dChain (f f' : F2) (ta tb tc : TD) : TD := fun ρ h => (ta ρ h).bind fun x h => (tb ρ h).bind fun y h => (f x y h).bind fun z h => (asB z h).bind fun k h =>
  if k = true then (tc ρ h).bind fun w h => f' y w h else .ok (.bl false) h
section
variable {X : Cx} {K : PySem.W.Frag} {CA : CAs} {W : WX} {e a b c : Expr} {es : List Expr} {pos : Pos} {ha hb hc : TE} {ta tb tc : TD} {hs : TA} {ts : TDs} {hA hB : TT} {tA tB : TB} {rest : List Expr}
theorem we_var {i : Nat} (h : PE X e (L2.tVar i)) : WE X K CA W e (L2.tVar i) (dVar i) := ⟨h, fun m h H σ ρ Q' S t => by
  unfold dVar at t
  split at t
  · rename_i d e1
    obtain ⟨v, e2, r⟩ := S.sl i _ e1
    exact ⟨v, e2, t.here S.hr r⟩
  · exact t.elim⟩
theorem we_int {i j} : WE X K CA W (.Constant (.int i) j pos) (L2.tC (.int i)) (dC (.int i)) := ⟨pe_int, fun m h H σ ρ Q' S t => t.here S.hr (.int i)⟩
theorem we_bl {i j} : WE X K CA W (.Constant (.bool i) j pos) (L2.tC (.bl i)) (dC (.bl i)) := ⟨pe_bl, fun m h H σ ρ Q' S t => t.here S.hr (.bl i)⟩
theorem we_non {j} : WE X K CA W (.Constant .none j pos) (L2.tC .non) (dC .non) := ⟨pe_non, fun m h H σ ρ Q' S t => t.here S.hr .non⟩
theorem we_str {x j} : WE X K CA W (.Constant (.str x) j pos) (L2.tC (.str x)) (dC (.str x)) := ⟨pe_str, fun m h H σ ρ Q' S t => t.here S.hr (.str x)⟩
/-- a built-in type as a value -/
theorem we_ty {n : String} (h : PE X e (L2.tC (.ty n))) : WE X K CA W e (L2.tC (.ty n)) (dC (.ty n)) := ⟨h, fun m h H σ ρ Q' S t => t.here S.hr (.ty n)⟩
theorem sim_op {r : R2} {f : F2} {tH tH' : TE} (hs : SimR K CA r f) (ha : SimE K CA W tH ta) (hb : SimE K CA W tH' tb) : SimE K CA W (L2.tOp r tH tH') (dOp f ta tb) :=
  fun m h H σ ρ Q' S t => ha m h H σ ρ _ S (t.bind fun x h1 m1 v H1 s1 S1 r1 t1 =>
    hb m1 h1 H1 σ ρ _ (S.move s1 S1) (t1.bind fun y h2 m2 w H2 s2 S2 r2 t2 => hs W σ m2 h2 H2 v w x y Q' S2 (r1.move s2) r2 t2))
theorem we_op {op : Operator} {r : R2} {f : F2} (ho : OpR X (binaryOp op) r) (s : SimR K CA r f) (xa : WE X K CA W a ha ta) (xb : WE X K CA W b hb tb) : WE X K CA W (.BinOp a op b pos) (L2.tOp r ha hb) (dOp f ta tb) :=
  ⟨pe_op ho xa.pe xb.pe, sim_op s xa.sim xb.sim⟩
theorem we_cmp {op : CmpOp} {r : R2} {f : F2} (ho : OpR X (compareOp op) r) (s : SimR K CA r f) (xa : WE X K CA W a ha ta) (xb : WE X K CA W b hb tb) (hm : behindInMarks op b = false) : WE X K CA W (.Compare a [op] [b] pos) (L2.tOp r ha hb) (dOp f ta tb) :=
  ⟨pe_cmpR ho xa.pe xb.pe hm, sim_op s xa.sim xb.sim⟩
theorem asB_inv {m : Mp} {h : CH} {H : Hp} {σ : L2.St} {x : D} {v : V} {Q : Bool → Hp → Prop} (r : Rp K CA m h H v x) (S : HR K CA m h H) (t : PostT K CA W m h H σ Q (asB x h)) : ∃ b, x = .bl b ∧ v = .bl b ∧ Q b H := by
  cases r <;> first
    | exact t.elim
    | exact ⟨_, rfl, rfl, t.here S rfl⟩
theorem sim_B {tH : TE} (h : SimE K CA W tH ta) : SimT K CA W (fun σ H Q => tH σ H fun x H' => ∃ k, x = .bl k ∧ Q k H') (dB ta) := fun m hh H σ ρ Q' S t =>
  h m hh H σ ρ _ S (t.bind fun x h1 m1 v H1 s1 S1 r1 t1 => by
    obtain ⟨b, _, e, q⟩ := asB_inv r1 S1 t1
    exact ⟨b, e, q⟩)
theorem wt_cmp {op : CmpOp} {r : R2} {f : F2} (ho : OpR X (compareOp op) r) (s : SimR K CA r f) (xa : WE X K CA W a ha ta) (xb : WE X K CA W b hb tb) (hm : behindInMarks op b = false) : WT X K CA W (.Compare a [op] [b] pos) (tTest (L2.tOp r ha hb)) (dB (dOp f ta tb)) :=
  ⟨pt_cmpR ho xa.pe xb.pe hm, sim_B (sim_op s xa.sim xb.sim)⟩
theorem wt_val (h : WE X K CA W e ha ta) (he : ∀ whole, isTrue e X.env whole = (do let v ← whole; standAt e.pos; holding [v] (truthy v)) := by intro _; rfl) : WT X K CA W e (L2.tB ha) (dB ta) := ⟨pt_val h.pe he, sim_B h.sim⟩
theorem asB_bind {α β : Type} {RR : Mp → CH → Hp → β → α → Prop} {m : Mp} {h : CH} {H : Hp} {σ : L2.St} {x : D} {v : V} {Q : β → Hp → Prop} {k : Bool → CH → R α} (r : Rp K CA m h H v x) (t : PostG K CA W RR m h H σ Q ((asB x h).bind k)) : ∃ b, x = .bl b ∧ v = .bl b ∧ PostG K CA W RR m h H σ Q (k b h) := by
  cases r <;> first
    | exact t.elim
    | exact ⟨_, rfl, rfl, t⟩
theorem sim_chain {r r' : R2} {f f' : F2} {t1 t2 t3 : TE} (hs : SimR K CA r f) (hs' : SimR K CA r' f') (ha : SimE K CA W t1 ta) (hb : SimE K CA W t2 tb) (hc : SimE K CA W t3 tc) :
    SimE K CA W (L2.tChain r r' t1 t2 t3) (dChain f f' ta tb tc) :=
  fun m h H σ ρ Q' S t => ha m h H σ ρ _ S (t.bind fun x h1 m1 v H1 s1 S1 r1 t1 =>
    hb m1 h1 H1 σ ρ _ (S.move s1 S1) (t1.bind fun y h2 m2 w H2 s2 S2 r2 t2 => hs W σ m2 h2 H2 v w x y _ S2 (r1.move s2) r2 (t2.bind fun z h3 m3 u H3 s3 S3 r3 t3 => by
      obtain ⟨k, rfl, e, t4⟩ := asB_bind r3 t3
      refine ⟨k, e, ?_⟩
      cases k with
      | true => exact hc m3 h3 H3 σ ρ _ (((S.move s1 S1).move s2 S2).move s3 S3) (t4.bind fun q h4 m4 q' H4 s4 S4 r4 t5 => hs' W σ m4 h4 H4 w q' y q Q' S4 ((r2.move s3).move s4) r4 t5)
      | false => exact t4.here S3 (.bl false))))
theorem we_chain {op op' : CmpOp} {r r' : R2} {f f' : F2} (s : SimR K CA r f) (s' : SimR K CA r' f') (xa : WE X K CA W a ha ta) (xb : WE X K CA W b hb tb) (xc : WE X K CA W c hc tc)
    (h : PE X a ha → PE X b hb → PE X c hc → PE X (.Compare a [op, op'] [b, c] pos) (L2.tChain r r' ha hb hc)) : WE X K CA W (.Compare a [op, op'] [b, c] pos) (L2.tChain r r' ha hb hc) (dChain f f' ta tb tc) :=
  ⟨h xa.pe xb.pe xc.pe, sim_chain s s' xa.sim xb.sim xc.sim⟩
theorem WW.wt (h : WW X K CA W e hA tA) : WT X K CA W e hA tA := ⟨h.pe.pt, h.sim⟩
theorem ww_and1 (h : WT X K CA W a hA tA) : WW X K CA W (.BoolOp .And [a] pos) hA tA := ⟨pw_and1 h.pe, h.sim⟩
theorem ww_or1 (h : WT X K CA W a hA tA) : WW X K CA W (.BoolOp .Or [a] pos) hA tA := ⟨pw_or1 h.pe, h.sim⟩
theorem ww_and (h : WT X K CA W a hA tA) (h' : WW X K CA W (.BoolOp .And (b :: rest) pos) hB tB) : WW X K CA W (.BoolOp .And (a :: b :: rest) pos) (L2.tAnd hA hB) (dAnd tA tB) := by
  refine ⟨pw_and h.pe h'.pe, fun m hh H σ ρ Q' S t => h.sim m hh H σ ρ _ S (t.bind fun k h1 m1 k' H1 s1 S1 r1 t1 => ?_)⟩
  cases (show k' = k from r1)
  cases k with
  | true => exact h'.sim m1 h1 H1 σ ρ Q' (S.move s1 S1) t1
  | false => exact t1.here S1 rfl
theorem ww_or (h : WT X K CA W a hA tA) (h' : WW X K CA W (.BoolOp .Or (b :: rest) pos) hB tB) : WW X K CA W (.BoolOp .Or (a :: b :: rest) pos) (L2.tOr hA hB) (dOr tA tB) := by
  refine ⟨pw_or h.pe h'.pe, fun m hh H σ ρ Q' S t => h.sim m hh H σ ρ _ S (t.bind fun k h1 m1 k' H1 s1 S1 r1 t1 => ?_)⟩
  cases (show k' = k from r1)
  cases k with
  | false => exact h'.sim m1 h1 H1 σ ρ Q' (S.move s1 S1) t1
  | true => exact t1.here S1 rfl
theorem wt_not (h : WT X K CA W a hA tA) : WT X K CA W (.UnaryOp .Not a pos) (L2.tNot hA) (dNot tA) :=
  ⟨pt_not h.pe, fun m hh H σ ρ Q' S t => h.sim m hh H σ ρ _ S (t.bind fun k h1 m1 k' H1 s1 S1 r1 t1 => by
    cases (show k' = k from r1)
    exact t1.here S1 rfl)⟩
theorem we_one {op} (h : WE X K CA W a ha ta) : WE X K CA W (.BoolOp op [a] pos) ha ta := ⟨pe_one h.pe, h.sim⟩
theorem we_and (h : WE X K CA W a ha ta) (h' : WE X K CA W (.BoolOp .And (b :: rest) pos) hb tb) : WE X K CA W (.BoolOp .And (a :: b :: rest) pos) (L2.tAndV ha hb) (dAndV ta tb) := by
  refine ⟨pe_and h.pe h'.pe, fun m hh H σ ρ Q' S t => h.sim m hh H σ ρ _ S (t.bind fun x h1 m1 v H1 s1 S1 r1 t1 => ?_)⟩
  obtain ⟨k, rfl, e, t2⟩ := asB_bind r1 t1
  refine ⟨k, e, ?_⟩
  cases k with
  | true => exact h'.sim m1 h1 H1 σ ρ Q' (S.move s1 S1) t2
  | false => exact t2.here S1 (.bl false)
theorem we_or (h : WE X K CA W a ha ta) (h' : WE X K CA W (.BoolOp .Or (b :: rest) pos) hb tb) : WE X K CA W (.BoolOp .Or (a :: b :: rest) pos) (L2.tOrV ha hb) (dOrV ta tb) := by
  refine ⟨pe_or h.pe h'.pe, fun m hh H σ ρ Q' S t => h.sim m hh H σ ρ _ S (t.bind fun x h1 m1 v H1 s1 S1 r1 t1 => ?_)⟩
  obtain ⟨k, rfl, e, t2⟩ := asB_bind r1 t1
  refine ⟨k, e, ?_⟩
  cases k with
  | false => exact h'.sim m1 h1 H1 σ ρ Q' (S.move s1 S1) t2
  | true => exact t2.here S1 (.bl true)
theorem we_not (h : WE X K CA W a ha ta) : WE X K CA W (.UnaryOp .Not a pos) (L2.tNotV ha) (dNotV ta) := by
  refine ⟨pe_not h.pe, fun m hh H σ ρ Q' S t => h.sim m hh H σ ρ _ S (t.bind fun x h1 m1 v H1 s1 S1 r1 t1 => ?_)⟩
  obtain ⟨k, rfl, e, t2⟩ := asB_bind r1 t1
  exact ⟨k, e, t2.here S1 (.bl _)⟩
theorem we_ifExp (h0 : WT X K CA W c hA tA) (h : WE X K CA W a ha ta) (h' : WE X K CA W b hb tb) : WE X K CA W (.IfExp c a b pos) (L2.tIf hA ha hb) (dIf tA ta tb) := by
  refine ⟨pe_ifExp h0.pe h.pe h'.pe, fun m hh H σ ρ Q' S t => h0.sim m hh H σ ρ _ S (t.bind fun k h1 m1 k' H1 s1 S1 r1 t1 => ?_)⟩
  cases (show k' = k from r1)
  cases k with
  | true => exact h.sim m1 h1 H1 σ ρ Q' (S.move s1 S1) t1
  | false => exact h'.sim m1 h1 H1 σ ρ Q' (S.move s1 S1) t1
theorem wa_nil : WA X K CA W [] L2.tNil dNil := ⟨pa_nil, fun m h H σ ρ Q' S t => t.here S.hr .nil⟩
theorem sim_cons (h : SimE K CA W ha ta) (h' : SimA K CA W hs ts) : SimA K CA W (L2.tCons ha hs) (dCons ta ts) := fun m hh H σ ρ Q' S t =>
  h m hh H σ ρ _ S (t.bind fun x h1 m1 v H1 s1 S1 r1 t1 => h' m1 h1 H1 σ ρ _ (S.move s1 S1) (t1.bind fun xs h2 m2 vs H2 s2 S2 r2 t2 => t2.here S2 (.cons (r1.move s2) r2)))
theorem wa_cons (h : WE X K CA W e ha ta) (h' : WA X K CA W es hs ts) (hst : starEach (e :: es) X.env = (false, eval e X.env) :: starEach es X.env := by rfl) : WA X K CA W (e :: es) (L2.tCons ha hs) (dCons ta ts) :=
  ⟨pa_cons h.pe h'.pe hst, sim_cons h.sim h'.sim⟩
theorem post_ite {α β : Type} {RR : Mp → CH → Hp → β → α → Prop} {m : Mp} {h : CH} {H : Hp} {σ : L2.St} {Q : β → Hp → Prop} {c : Prop} [Decidable c] {r : R α} (t : PostG K CA W RR m h H σ Q (if c then r else .no)) : c ∧ PostG K CA W RR m h H σ Q r := by
  by_cases q : c
  · rw [if_pos q] at t; exact ⟨q, t⟩
  · rw [if_neg q] at t; exact t.elim
theorem we_tup {x1} (h : WA X K CA W es hs ts) : WE X K CA W (.Tuple es x1 pos) (L2.tTup hs) (dTup ts) := by
  refine ⟨pe_tup h.pe, fun m hh H σ ρ Q' S t => h.sim m hh H σ ρ _ S (t.bind fun xs h1 m1 vs H1 s1 S1 r1 t1 => ?_)⟩
  obtain ⟨l, t1⟩ := post_ite t1
  exact ⟨by rw [r1.length]; exact l, fun p n => t1.laid S1 n (.tup (S1.fresh n) upd_same (rps_laid S1 n r1))⟩
theorem we_lst (nm : Bool) (h : WA X K CA W es hs ts) : WE X K CA W (.List es pos) (L2.tLst hs) (dLst nm ts) := by
  refine ⟨pe_lst h.pe, fun m hh H σ ρ Q' S t => h.sim m hh H σ ρ _ S (t.bind fun xs h1 m1 vs H1 s1 S1 r1 t1 => ?_)⟩
  obtain ⟨l, t1⟩ := post_ite t1
  exact ⟨by rw [r1.length]; exact l, fun p n => mkL_post S1 n r1 t1⟩
theorem sim_CB {r : List V → Hp → VK → Prop} {f : FD} {tH : TA} (hs : SimC K CA r f) (ha : SimA K CA W tH ts) : SimE K CA W (tCB r tH) (dCB f ts) := fun m h H σ ρ Q' S t =>
  ha m h H σ ρ _ S (t.bind fun xs h1 m1 vs H1 s1 S1 r1 t1 => hs W σ m1 h1 H1 vs xs Q' S1 r1 t1)
/-- a built-in's call: its own rule h -/
theorem we_cb {r : List V → Hp → VK → Prop} {f : FD} (s : SimC K CA r f) (x : WA X K CA W es hs ts) (h : PA X es hs → PE X e (tCB r hs)) : WE X K CA W e (tCB r hs) (dCB f ts) := ⟨h x.pe, sim_CB s x.sim⟩
theorem we_ix {r : R2} {f : F2} (hr : IxR X r) (s : SimR K CA r f) (xa : WE X K CA W a ha ta) (xb : WE X K CA W b hb tb) (hp : PlainIx b := by exact fun _ _ => rfl) : WE X K CA W (.Subscript a b pos) (L2.tOp r ha hb) (dOp f ta tb) :=
  ⟨pe_ix hr xa.pe xb.pe hp, sim_op s xa.sim xb.sim⟩
def fz : D → CH → R D
  | .ref k, h => match h.ob k with
    | some (.lst ds) => .ok (.lst ds) (h.del k)
    | some (.dct kvs) => .ok (.dct kvs) (h.del k)
    | some (.obj c fs) => .ok (.obj c fs) (h.del k)
    | _ => .no
  | _, _ => .no
/-- .. if it is one -/
def fzI : D → CH → R D
  | .ref k, h => fz (.ref k) h
  | d, h => .ok d h
theorem fz_post {m : Mp} {h : CH} {H : Hp} {σ : L2.St} {v : V} {x : D} {Q' : VK} (S : HR K CA m h H) (r : Rp K CA m h H v x) (t : PostE K CA W m h H σ Q' (fz x h)) : Q' v H := by
  cases r with
  | @ref k l =>
    unfold fz at t
    simp only at t
    have nl : ∀ o, h.ob k = some o → ¬ Live m (h.del k) (m k) := fun o e z => (live_del S e z).2 rfl
    split at t
    · rename_i ds e
      have x := (S.ob k _ e).2
      cases x with
      | lst q r => exact t m _ H (stp_del S e trivial) (S.del e trivial) (.lst (nl _ e) q (r.move (stp_del S e trivial)))
    · rename_i ds e
      have x := (S.ob k _ e).2
      cases x with
      | dct q en r => exact t m _ H (stp_del S e trivial) (S.del e trivial) (.dct (nl _ e) q rfl en (r.move (stp_del S e trivial)))
    · rename_i c ds e
      have x := (S.ob k _ e).2
      cases x with
      | obj q en r => exact t m _ H (stp_del S e trivial) (S.del e trivial) (.obj (nl _ e) q en (r.move (stp_del S e trivial)))
    · exact t.elim
  | _ => exact t.elim
theorem fzI_post {m : Mp} {h : CH} {H : Hp} {σ : L2.St} {v : V} {x : D} {Q' : VK} (S : HR K CA m h H) (r : Rp K CA m h H v x) (t : PostE K CA W m h H σ Q' (fzI x h)) : Q' v H := by
  cases r with
  | ref l => exact fz_post S (.ref l) t
  | lst n e r => exact t.here S (.lst n e r)
  | tup n e r => exact t.here S (.tup n e r)
  | ktup e r => exact t.here S (.ktup e r)
  | dct n e c en r => exact t.here S (.dct n e c en r)
  | obj n e en r => exact t.here S (.obj n e en r)
  | scr n e => exact t.here S (.scr n e)
  | kscr e => exact t.here S (.kscr e)
  | non => exact t.here S .non
  | bl b => exact t.here S (.bl b)
  | int b => exact t.here S (.int b)
  | str b => exact t.here S (.str b)
  | ty b => exact t.here S (.ty b)
  | cls b => exact t.here S (.cls b)
  | exc n e x en r => exact t.here S (.exc n e x en r)
theorem we_fzI (h : WE X K CA W e ha ta) : WE X K CA W e ha (dUn fzI ta) := ⟨h.pe, fun m hh H σ ρ Q' S t => h.sim m hh H σ ρ Q' S (t.bind fun x h1 m1 v H1 s1 S1 r1 t1 => fzI_post S1 r1 t1)⟩
end
end CM
namespace CM
open PySem PySem.Spec PyProof.Rows L2
def lstOf (h : CH) : D → Option (List D)
  | .lst ds => some ds
  | .ref k => match h.ob k with
    | some (.lst ds) => some ds
    | some (.lkl ds) => some ds
    | _ => none
  | _ => none
def seqOf (h : CH) : D → Option (List D)
  | .lst ds => some ds
  | .tup ds => some ds
  | .ref k => match h.ob k with
    | some (.lst ds) => some ds
    | some (.lkl ds) => some ds
    | _ => none
  | _ => none
def dctOf (h : CH) : D → Option (List (Key × D))
  | .dct kvs => some kvs
  | .ref k => match h.ob k with
    | some (.dct kvs) => some kvs
    | some (.lck kvs) => some kvs
    | _ => none
  | _ => none
def flatD : D → Bool
  | .non | .bl _ | .int _ | .str _ => true
  | _ => false
def eqF : D → D → Bool
  | .non, .non => true
  | .bl a, .bl b => a == b
  | .bl a, .int j => (if a then 1 else 0) == j
  | .int i, .bl b => i == (if b then 1 else 0)
  | .int i, .int j => i == j
  | .str x, .str y => x == y
  | _, _ => false
/-- flat data that == tells apart by kind and value -/
def scalD : D → D → Bool
  | .int _, .bl _ => false
  | .bl _, .int _ => false
  | x, y => flatD x && flatD y
/-- as the library's data -/
def toP (h : CH) : Nat → D → Option PyData
  | 0, _ => none
  | n + 1, d => match d with
    | .non => some .none
    | .bl b => some (.bool b)
    | .int i => some (.int i)
    | .str x => some (.str x)
    | .lst xs => (xs.mapM (toP h n)).map .list
    | .tup xs => (xs.mapM (toP h n)).map .tuple
    | .ref k => match h.ob k with
      | some (.lst xs) => (xs.mapM (toP h n)).map .list
      | _ => none
    | _ => none
def keyD : D → Option Key
  | .int i => some (.inl i)
  | .str x => some (.inr x)
  | _ => none
def dGet (kvs : List (Key × D)) (k : Key) : Option D := (kvs.find? fun kv => decide (kv.1 = k)).map (·.2)
def dPut (ps : List (Key × D)) (k : Key) (d : D) : List (Key × D) :=
  if (ps.any fun p => decide (p.1 = k)) = true then ps.map (fun p => if p.1 = k then (p.1, d) else p)
  else ps ++ [(k, d)]
section
variable {K : PySem.W.Frag} {CA : CAs} {m : Mp} {h : CH} {H : Hp} {v : V} {d : D}
theorem sq_emp {a : Addr} {xs : List V} (h : SqT K (fun _ => none) a xs) : SqT K H a xs := by
  rcases h with h | h
  · rcases h with h | ⟨o, h⟩ <;> cases h
  · exact .inr h
theorem sl_emp {a : Addr} {xs : List V} (h : SqL K (fun _ => none) a xs) : SqL K H a xs := by
  rcases h with h | h
  · rcases h with h | ⟨o, h⟩ <;> cases h
  · exact .inr h
theorem rp_lst (S : HR K CA m h H) {ds : List D} (r : Rp K CA m h H v d) (e : lstOf h d = some ds) : ∃ a xs, v = .ref a ∧ H a = some (.lst xs) ∧ RpAll K CA m h H xs ds := by
  cases r with
  | lst n e1 r => cases e; exact ⟨_, _, rfl, e1, r⟩
  | ref l =>
    simp only [lstOf] at e
    split at e
    · rename_i q
      cases e
      have x := (S.ob _ _ q).2
      cases x with
      | lst e1 r => exact ⟨_, _, rfl, e1, r⟩
    · rename_i q
      cases e
      have x := (S.ob _ _ q).2
      cases x with
      | lkl e1 r => exact ⟨_, _, rfl, e1, r⟩
    · cases e
  | _ => cases e
theorem rp_tup {ds : List D} (r : Rp K CA m h H v (.tup ds)) : ∃ a xs, v = .ref a ∧ SqT K H a xs ∧ RpAll K CA m h H xs ds := by
  cases r with
  | tup n e r => exact ⟨_, _, rfl, .of e, r⟩
  | ktup e r => exact ⟨_, _, rfl, sq_emp e, r⟩
theorem rp_seq (S : HR K CA m h H) {ds : List D} (r : Rp K CA m h H v d) (e : seqOf h d = some ds) : ∃ a xs, v = .ref a ∧ (SqL K H a xs ∨ SqT K H a xs) ∧ RpAll K CA m h H xs ds := by
  cases d with
  | tup es =>
    cases e
    obtain ⟨a, xs, e1, e2, r2⟩ := rp_tup r
    exact ⟨a, xs, e1, .inr e2, r2⟩
  | lst es =>
    obtain ⟨a, xs, e1, e2, r2⟩ := rp_lst S r (show lstOf h (.lst es) = some ds from e)
    exact ⟨a, xs, e1, .inl (.of e2), r2⟩
  | ref k =>
    obtain ⟨a, xs, e1, e2, r2⟩ := rp_lst S r (show lstOf h (.ref k) = some ds from e)
    exact ⟨a, xs, e1, .inl (.of e2), r2⟩
  | _ => cases e
theorem rp_dct (S : HR K CA m h H) {ds : List (Key × D)} (r : Rp K CA m h H v d) (e : dctOf h d = some ds) : ∃ a o kvs, v = .ref a ∧ H a = some o ∧ core o = .dK kvs ∧ kvs.map (·.1) = ds.map (·.1) ∧ RpAll K CA m h H (kvs.map (·.2)) (ds.map (·.2)) := by
  cases r with
  | dct n e1 c en r => cases e; exact ⟨_, _, _, rfl, e1, c, en, r⟩
  | ref l =>
    simp only [dctOf] at e
    split at e
    · rename_i q
      cases e
      have x := (S.ob _ _ q).2
      cases x with
      | dct e1 en r => exact ⟨_, _, _, rfl, e1, rfl, en, r⟩
    · rename_i q
      cases e
      have x := (S.ob _ _ q).2
      cases x with
      | lck e1 en r => exact ⟨_, _, _, rfl, e1, rfl, en, r⟩
    · cases e
  | _ => cases e
theorem dget_core {a : Addr} {o : HO} {kvs : List (Key × V)} {k : Key} (e : H a = some o) (c : core o = .dK kvs) : DGet H a (kV k) (valV kvs k) := by
  rcases core_dK c with rfl | ⟨ob, rfl⟩
  · exact .inl ⟨kvs, k, .inl e, rfl, rfl⟩
  · exact .inl ⟨kvs, k, .inr ⟨ob, e⟩, rfl, rfl⟩
theorem rp_key {y : D} {k : Key} (r : Rp K CA m h H v y) (e : keyD y = some k) : v = kV k := by
  cases r <;> first | (cases e; rfl) | cases e
theorem rp_flat (r : Rp K CA m h H v d) (f : flatD d = true) : flatV v = true := by cases r <;> first | rfl | cases f
theorem rp_flats {vs : List V} {ds : List D} (r : RpAll K CA m h H vs ds) (f : ds.all flatD = true) : vs.all flatV = true := by
  induction vs generalizing ds with
  | nil => rfl
  | cons x vs ih => cases r with
    | cons h1 h2 =>
      rw [List.all_cons, Bool.and_eq_true] at f ⊢
      exact ⟨rp_flat h1 f.1, ih h2 f.2⟩
theorem rp_eqV {y x : V} {e c : D} (r : Rp K CA m h H y e) (r' : Rp K CA m h H x c) (f : flatD e = true) (f' : flatD c = true) : eqV y x = eqF e c := by
  cases r <;> first
    | (cases f; done)
    | (cases r' <;> first | rfl | (cases f'; done))
theorem rp_inV {x : V} {c : D} {vs : List V} {ds : List D} (r : RpAll K CA m h H vs ds) (r' : Rp K CA m h H x c) (f : ds.all flatD = true) (f' : flatD c = true) : inV x vs = ds.any fun e => eqF e c := by
  unfold inV
  induction vs generalizing ds with
  | nil => cases r; rfl
  | cons y vs ih => cases r with
    | cons h1 h2 =>
      rw [List.all_cons, Bool.and_eq_true] at f
      rw [List.any_cons, List.any_cons, ih h2 f.2, rp_eqV h1 r' f.1 f']
theorem rp_scal {y x : V} {e c : D} (r : Rp K CA m h H y e) (r' : Rp K CA m h H x c) (s : scalD e c = true) : scal y x = true ∧ decide (y = x) = eqF e c := by
  cases r <;> first
    | (cases r' <;> first
      | exact ⟨rfl, rfl⟩
      | exact ⟨rfl, dec_int⟩
      | exact ⟨rfl, dec_bl⟩
      | exact ⟨rfl, dec_str⟩
      | cases s)
    | (cases s; done)
    | (cases c <;> cases s; done)
theorem rp_dget {k : Key} : ∀ {kvs : List (Key × V)} {ds : List (Key × D)}, kvs.map (·.1) = ds.map (·.1) → RpAll K CA m h H (kvs.map (·.2)) (ds.map (·.2)) →
    (∃ v d, valV kvs k = some v ∧ dGet ds k = some d ∧ Rp K CA m h H v d) ∨ (valV kvs k = none ∧ dGet ds k = none)
  | [], [], _, _ => .inr ⟨rfl, rfl⟩
  | [], _ :: _, e, _ => by simp at e
  | _ :: _, [], e, _ => by simp at e
  | p :: kvs, q :: ds, e, r => by
    obtain ⟨pk, pv⟩ := p
    obtain ⟨qk, qv⟩ := q
    simp only [List.map_cons, List.cons.injEq] at e
    obtain ⟨e1, e2⟩ := e
    subst e1
    cases r with
    | cons r1 r2 =>
      by_cases h : pk = k
      · subst h
        exact .inl ⟨pv, qv, by simp [valV], by simp [dGet], r1⟩
      · rcases rp_dget (k := k) e2 r2 with ⟨v, d, h1, h2, h3⟩ | ⟨h1, h2⟩
        · exact .inl ⟨v, d, by rw [valV_neg h]; exact h1, by simp only [dGet, List.find?_cons, decide_eq_false h]; exact h2, h3⟩
        · exact .inr ⟨by rw [valV_neg h]; exact h1, by simp only [dGet, List.find?_cons, decide_eq_false h]; exact h2⟩
theorem keys_any {κ α β : Type} {k : κ} [DecidableEq κ] : ∀ {kvs : List (κ × α)} {ds : List (κ × β)}, kvs.map (·.1) = ds.map (·.1) → (kvs.any fun kv => decide (kv.1 = k)) = (ds.any fun kv => decide (kv.1 = k))
  | [], [], _ => rfl
  | [], _ :: _, e => by simp at e
  | _ :: _, [], e => by simp at e
  | p :: kvs, q :: ds, e => by
    simp only [List.map_cons, List.cons.injEq] at e
    rw [List.any_cons, List.any_cons, e.1, keys_any e.2]
theorem rp_dput {k : Key} {kvs : List (Key × V)} {ds : List (Key × D)} (e : kvs.map (·.1) = ds.map (·.1)) (r : RpAll K CA m h H (kvs.map (·.2)) (ds.map (·.2))) (r' : Rp K CA m h H v d) :
    (putK kvs k v).map (·.1) = (dPut ds k d).map (·.1) ∧ RpAll K CA m h H ((putK kvs k v).map (·.2)) ((dPut ds k d).map (·.2)) := by
  unfold putK dPut
  rw [keys_any e]
  by_cases q : (ds.any fun kv => decide (kv.1 = k)) = true
  · rw [if_pos q, if_pos q]
    clear q
    induction kvs generalizing ds with
    | nil => cases ds with
      | nil => exact ⟨rfl, .nil⟩
      | cons => simp at e
    | cons p kvs ih => cases ds with
      | nil => simp at e
      | cons q ds =>
        simp only [List.map_cons, List.cons.injEq] at e
        cases r with
        | cons r1 r2 =>
          obtain ⟨i1, i2⟩ := ih e.2 r2
          simp only [List.map_cons]
          by_cases hk : q.1 = k
          · rw [if_pos (e.1.trans hk), if_pos hk]
            exact ⟨by rw [i1, e.1], .cons r' i2⟩
          · rw [if_neg (fun z => hk (e.1.symm.trans z)), if_neg hk]
            exact ⟨by rw [i1, e.1], .cons r1 i2⟩
  · rw [if_neg q, if_neg q]
    simp only [List.map_append, List.map_cons, List.map_nil]
    exact ⟨by rw [e], r.append (.cons r' .nil)⟩
theorem rp_dps_of {f : D → Option PyData} (ih : ∀ (d : D) (v : V) (p : PyData), Rp K CA m h H v d → f d = some p → Dp K H v p) : ∀ (ds : List D) (vs : List V) (ps : List PyData), RpAll K CA m h H vs ds → ds.mapM f = some ps → DpAll K H vs ps
  | [], _, _, r, e => by cases r; simp at e; subst e; exact .nil
  | d :: ds, _, _, r, e => by
    cases r with
    | cons h1 h2 =>
      simp only [List.mapM_cons, Option.bind_eq_bind, Option.bind_eq_some_iff, Option.pure_def, Option.some.injEq] at e
      obtain ⟨p, e1, ps, e2, rfl⟩ := e
      exact .cons (ih d _ p h1 e1) (rp_dps_of ih ds _ ps h2 e2)
theorem rp_dp (S : HR K CA m h H) : ∀ (n : Nat) (d : D) (v : V) (p : PyData), Rp K CA m h H v d → toP h n d = some p → Dp K H v p
  | 0, d, _, _, _, e => by cases d <;> cases e
  | n + 1, .non, _, _, r, e => by cases r; simp only [toP, Option.some.injEq] at e; subst e; exact .non
  | n + 1, .bl b, _, _, r, e => by cases r; simp only [toP, Option.some.injEq] at e; subst e; exact .bl b
  | n + 1, .int b, _, _, r, e => by cases r; simp only [toP, Option.some.injEq] at e; subst e; exact .int b
  | n + 1, .str b, _, _, r, e => by cases r; simp only [toP, Option.some.injEq] at e; subst e; exact .str b
  | n + 1, .lst ds, _, _, r, e => by
    simp only [toP, Option.map_eq_some_iff] at e
    obtain ⟨ps, e1, rfl⟩ := e
    obtain ⟨a, xs, rfl, e2, r2⟩ := rp_lst S r rfl
    exact .lst (.of e2) (rp_dps_of (rp_dp S n) ds xs ps r2 e1)
  | n + 1, .tup ds, _, _, r, e => by
    simp only [toP, Option.map_eq_some_iff] at e
    obtain ⟨ps, e1, rfl⟩ := e
    obtain ⟨a, xs, rfl, e2, r2⟩ := rp_tup r
    exact .tup e2 (rp_dps_of (rp_dp S n) ds xs ps r2 e1)
  | n + 1, .ref k, _, _, r, e => by
    simp only [toP] at e
    split at e
    · rename_i ds q
      simp only [Option.map_eq_some_iff] at e
      obtain ⟨ps, e1, rfl⟩ := e
      obtain ⟨a, xs, rfl, e2, r2⟩ := rp_lst S r (show lstOf h (.ref k) = some ds by simp only [lstOf, q])
      exact .lst (.of e2) (rp_dps_of (rp_dp S n) ds xs ps r2 e1)
    · cases e
  | n + 1, .dct _, _, _, _, e => by simp [toP] at e
  | n + 1, .obj _ _, _, _, _, e => by simp [toP] at e
  | n + 1, .scr _, _, _, _, e => by simp [toP] at e
  | n + 1, .ty _, _, _, _, e => by simp [toP] at e
  | n + 1, .cls _, _, _, _, e => by simp [toP] at e
  | n + 1, .exc _ _, _, _, _, e => by simp [toP] at e
end
instance {i j : Int} : Decidable (CMul i j) := by unfold CMul; infer_instance
instance {i j : Int} : Decidable (CDiv i j) := by unfold CDiv; infer_instance
instance {i j : Int} : Decidable (CPow i j) := by unfold CPow; infer_instance
/-- + -/
def fAdd (nm : Bool) : F2 := fun x y h => match x, y with
  | .int i, .int j => .ok (.int (i + j)) h
  | .str a, .str b => if a.length + b.length ≤ sizeLine then .ok (.str (a ++ b)) h else .no
  | .tup a, .tup b => if a ≠ [] ∧ a.length + b.length ≤ sizeLine then .ok (.tup (a ++ b)) h else .no
  | x, y => match lstOf h x, lstOf h y with
    | some a, some b => if a.length + b.length ≤ sizeLine then mkL nm (a ++ b) h else .no
    | _, _ => .no
def fSubI : F2 := fun x y h => match x, y with
  | .int i, .int j => .ok (.int (i - j)) h
  | _, _ => .no
def fMul (nm : Bool) : F2 := fun x y h => match x, y with
  | .int i, .int j => if CMul i j then .ok (.int (i * j)) h else .no
  | x, .int k => match lstOf h x with
    | some ds => if -(2 ^ 63) ≤ k ∧ k < 2 ^ 63 ∧ ds.length * k.toNat ≤ sizeLine then mkL nm (List.replicate k.toNat ds).flatten h else .no
    | none => .no
  | _, _ => .no
def fDiv : F2 := fun x y h => match x, y with
  | .int i, .int j => if CDiv i j then .ok (.int (i / j)) h else .no
  | _, _ => .no
def fMod : F2 := fun x y h => match x, y with
  | .int i, .int j => if 0 < j then .ok (.int (i % j)) h else .no
  | _, _ => .no
def fPow : F2 := fun x y h => match x, y with
  | .int i, .int j => if CPow i j then .ok (.int (i ^ j.toNat)) h else .no
  | _, _ => .no
def fB (f : Int → Int → Bool) : F2 := fun x y h => match x, y with
  | .int i, .int j => .ok (.bl (f i j)) h
  | _, _ => .no
def bneg (neg b : Bool) : Bool := if neg then !b else b
def fEq (neg : Bool) : F2 := fun x y h => if scalD x y = true then .ok (.bl (bneg neg (eqF x y))) h else match toP h 10 x, toP h 10 y with
  | some p, some q => if SeqAt.shaped p = true ∧ SeqAt.shaped q = true then .ok (.bl (bneg neg (PyData.eqv p q))) h else .no
  | _, _ => .no
def isNon : D → Bool
  | .non => true
  | _ => false
def fIsN (neg : Bool) : F2 := fun x y h => match y with
  | .non => .ok (.bl (bneg neg (isNon x))) h
  | _ => .no
/-- x in y -/
def fIn (neg : Bool) : F2 := fun x y h => match seqOf h y with
  | some ds => if flatD x = true ∧ ds.all flatD = true then .ok (.bl (bneg neg (ds.any fun e => eqF e x))) h else .no
  | none => match dctOf h y, keyD x with
    | some kvs, some k => .ok (.bl (bneg neg (dGet kvs k).isSome)) h
    | _, _ => .no
/-- x[y] -/
def fIx : F2 := fun x y h => match x, y with
  | .str z, .int i => if z.length ≤ sizeLine then (match atI z.cps.toList i with
    | some c => .ok (.str ⟨#[c]⟩) h
    | none => .no) else .no
  | x, y => match seqOf h x, y with
    | some ds, .int i => (match atI ds i with
      | some v => .ok v h
      | none => .no)
    | _, _ => match dctOf h x, keyD y with
      | some kvs, some k => (match dGet kvs k with
        | some v => .ok v h
        | none => .no)
      | _, _ => .no
section
variable {X : Cx} {K : PySem.W.Frag} {CA : CAs} {W : WX} {m : Mp} {h : CH} {H : Hp} {σ : L2.St}
abbrev rAddU (K : PySem.W.Frag) : R2 := fun x y H Q => (rI0 (fun i j => .int (i + j)) x y H Q) ∨ (rCat x y H Q) ∨ (rCatT K x y H Q) ∨ (∃ i j, x = .str i ∧ y = .str j ∧ i.length + j.length ≤ sizeLine ∧ Q (.str (i ++ j)) H)
theorem add_lst {nm : Bool} {x y : D} {v w : V} {Q' : VK} (S : HR K CA m h H) (rx : Rp K CA m h H v x) (ry : Rp K CA m h H w y)
    (t : PostE K CA W m h H σ Q' (match lstOf h x, lstOf h y with | some a, some b => if a.length + b.length ≤ sizeLine then mkL nm (a ++ b) h else .no | _, _ => .no)) : rCat v w H Q' := by
  split at t
  · rename_i a b e1 e2
    obtain ⟨l, t⟩ := post_ite t
    obtain ⟨a, xs, rfl, e1, r1⟩ := rp_lst S rx e1
    obtain ⟨b, ys, rfl, e2, r2⟩ := rp_lst S ry e2
    exact ⟨a, b, xs, ys, rfl, rfl, e1, e2, by rw [r1.length, r2.length]; exact l, fun p n => mkL_post S n (r1.append r2) t⟩
  · exact t.elim
theorem sim_add {nm : Bool} : SimR K CA (rAddU K) (fAdd nm) := by
  intro W σ m h H x y dx dy Q' S rx ry t
  unfold fAdd at t
  split at t
  · cases rx; cases ry; exact .inl ⟨_, _, rfl, rfl, t.here S (.int _)⟩
  · cases rx; cases ry
    obtain ⟨l, t⟩ := post_ite t
    exact .inr (.inr (.inr ⟨_, _, rfl, rfl, l, t.here S (.str _)⟩))
  · obtain ⟨⟨l1, l2⟩, t⟩ := post_ite t
    obtain ⟨a, xs, rfl, e1, r1⟩ := rp_tup rx
    obtain ⟨b, ys, rfl, e2, r2⟩ := rp_tup ry
    refine .inr (.inr (.inl ⟨a, b, xs, ys, rfl, rfl, e1, e2, fun z => l1 ?_, by rw [r1.length, r2.length]; exact l2, fun z => ?_, fun _ p n => ?_⟩))
    · subst z; cases r1; rfl
    · subst z; cases r2
      rw [List.append_nil] at t
      exact t.here S rx
    · exact t.laid S n (.tup (S.fresh n) upd_same (rps_laid S n (r1.append r2)))
  · exact .inr (.inl (add_lst S rx ry t))
theorem op_addU (hK : X.K = K := by rfl) : OpR X (binaryOp .Add) (rAddU K) := by subst hK; exact op_add.or (op_cat.or (op_catT.or op_add_str))
theorem sim_subI : SimR K CA (rI0 fun i j => .int (i - j)) fSubI := by
  intro W σ m h H x y dx dy Q' S rx ry t
  unfold fSubI at t
  split at t
  · cases rx; cases ry; exact ⟨_, _, rfl, rfl, t.here S (.int _)⟩
  · exact t.elim
theorem op_mulU : OpR X (binaryOp .Mult) (fun x y H Q => rI CMul (fun i j => .int (i * j)) x y H Q ∨ rRep x y H Q) := op_mul.or op_rep
theorem rp_rep {vs : List V} {ds : List D} (r : RpAll K CA m h H vs ds) : ∀ n : Nat, RpAll K CA m h H (List.replicate n vs).flatten (List.replicate n ds).flatten
  | 0 => by simp; exact .nil
  | n + 1 => by
    rw [List.replicate_succ, List.replicate_succ, List.flatten_cons, List.flatten_cons]
    exact r.append (rp_rep r n)
theorem sim_mul {nm : Bool} : SimR K CA (fun x y H Q => rI CMul (fun i j => .int (i * j)) x y H Q ∨ rRep x y H Q) (fMul nm) := by
  intro W σ m h H x y dx dy Q' S rx ry t
  unfold fMul at t
  split at t
  · obtain ⟨c, t⟩ := post_ite t
    cases rx; cases ry; exact .inl ⟨_, _, rfl, rfl, c, t.here S (.int _)⟩
  · split at t
    · rename_i e
      obtain ⟨⟨c1, c2, c3⟩, t⟩ := post_ite t
      obtain ⟨a, xs, rfl, e1, r1⟩ := rp_lst S rx e
      cases ry
      exact .inr ⟨a, _, xs, rfl, rfl, e1, c1, c2, by rw [r1.length]; exact c3, fun p n => mkL_post S n (rp_rep r1 _) t⟩
    · exact t.elim
  · exact t.elim
theorem sim_div : SimR K CA (rI CDiv fun i j => .int (i / j)) fDiv := by
  intro W σ m h H x y dx dy Q' S rx ry t
  unfold fDiv at t
  split at t
  · obtain ⟨c, t⟩ := post_ite t
    cases rx; cases ry; exact ⟨_, _, rfl, rfl, c, t.here S (.int _)⟩
  · exact t.elim
theorem sim_mod : SimR K CA (rI (fun _ j => 0 < j) fun i j => .int (i % j)) fMod := by
  intro W σ m h H x y dx dy Q' S rx ry t
  unfold fMod at t
  split at t
  · obtain ⟨c, t⟩ := post_ite t
    cases rx; cases ry; exact ⟨_, _, rfl, rfl, c, t.here S (.int _)⟩
  · exact t.elim
theorem sim_pow : SimR K CA (rI CPow fun i j => .int (i ^ j.toNat)) fPow := by
  intro W σ m h H x y dx dy Q' S rx ry t
  unfold fPow at t
  split at t
  · obtain ⟨c, t⟩ := post_ite t
    cases rx; cases ry; exact ⟨_, _, rfl, rfl, c, t.here S (.int _)⟩
  · exact t.elim
theorem sim_cB {f : Int → Int → Bool} : SimR K CA (rI0 fun i j => .bl (f i j)) (fB f) := by
  intro W σ m h H x y dx dy Q' S rx ry t
  unfold fB at t
  split at t
  · cases rx; cases ry; exact ⟨_, _, rfl, rfl, t.here S (.bl _)⟩
  · exact t.elim
theorem sim_eq : SimR K CA (fun x y H Q => rEq x y H Q ∨ rEqD K x y H Q) (fEq false) := by
  intro W σ m h H x y dx dy Q' S rx ry t
  unfold fEq at t
  split at t
  · rename_i c
    obtain ⟨s, e⟩ := rp_scal rx ry c
    exact .inl ⟨s, by rw [e]; exact t.here S (.bl _)⟩
  · split at t
    · rename_i p q e1 e2
      obtain ⟨⟨c1, c2⟩, t⟩ := post_ite t
      exact .inr ⟨p, q, rp_dp S _ dx x p rx e1, rp_dp S _ dy y q ry e2, c1, c2, t.here S (.bl _)⟩
    · exact t.elim
theorem op_eqU (hu : X.A.units + 64 < cLine) (hK : X.K = K := by rfl) : OpR X (compareOp .Eq) (fun x y H Q => rEq x y H Q ∨ rEqD K x y H Q) := by subst hK; exact op_eq.or (op_eqD hu)
theorem sim_ne : SimR K CA (fun x y H Q => rNe x y H Q ∨ rNeD K x y H Q) (fEq true) := by
  intro W σ m h H x y dx dy Q' S rx ry t
  unfold fEq at t
  split at t
  · rename_i c
    obtain ⟨s, e⟩ := rp_scal rx ry c
    exact .inl ⟨s, by rw [e]; exact t.here S (.bl _)⟩
  · split at t
    · rename_i p q e1 e2
      obtain ⟨⟨c1, c2⟩, t⟩ := post_ite t
      exact .inr ⟨p, q, rp_dp S _ dx x p rx e1, rp_dp S _ dy y q ry e2, c1, c2, t.here S (.bl _)⟩
    · exact t.elim
theorem op_neU (hu : X.A.units + 64 < cLine) (hK : X.K = K := by rfl) : OpR X (compareOp .NotEq) (fun x y H Q => rNe x y H Q ∨ rNeD K x y H Q) := by subst hK; exact op_ne.or (op_neD hu)
theorem sim_isN : SimR K CA (fun x y H Q => y = .non ∧ Q (.bl (decide (x = .non))) H) (fIsN false) := by
  intro W σ m h H x y dx dy Q' S rx ry t
  unfold fIsN at t
  split at t
  · cases ry
    refine ⟨rfl, ?_⟩
    cases rx <;> exact t.here S (.bl _)
  · exact t.elim
def rDIn (neg : Bool) : R2 := fun y x H Q => ∃ a o, x = .ref a ∧ DGet H a y o ∧ Q (.bl (if neg then !o.isSome else o.isSome)) H
theorem op_inDct (hu : X.A.units + 1 < cLine) : OpR X (compareOp .In) (rDIn false) := by
  intro pins s σ H y x u v Q I ry rx h
  obtain ⟨a, o, rfl, g, q⟩ := h
  cases rx
  exact d_in hu I g ry fun s3 I3 => ⟨.bl o.isSome, H, I3, rfl, q⟩
theorem op_notInDct (hu : X.A.units + 1 < cLine) : OpR X (compareOp .NotIn) (rDIn true) := by
  intro pins s σ H y x u v Q I ry rx h
  obtain ⟨a, o, rfl, g, q⟩ := h
  cases rx
  exact d_notIn hu I g ry fun s3 I3 => ⟨.bl (!o.isSome), H, I3, rfl, q⟩
theorem sim_in {neg : Bool} : SimR K CA (fun x y H Q => rIn K neg x y H Q ∨ rDIn neg x y H Q) (fIn neg) := by
  intro W σ m h H x y dx dy Q' S rx ry t
  unfold fIn at t
  split at t
  · rename_i ds e
    obtain ⟨⟨f, fs⟩, t⟩ := post_ite t
    obtain ⟨a, xs, rfl, e1, r1⟩ := rp_seq S ry e
    refine .inl ⟨a, xs, rfl, e1, rp_flat rx f, rp_flats r1 fs, ?_⟩
    rw [rp_inV r1 rx fs f]
    exact t.here S (.bl _)
  · split at t
    · rename_i kvs k e ek
      obtain ⟨a, o, hk, rfl, e1, c, en, r⟩ := rp_dct S ry e
      have ek := rp_key rx ek
      subst ek
      refine .inr ⟨a, valV hk k, rfl, dget_core e1 c, ?_⟩
      rcases rp_dget (k := k) en r with ⟨v, d, h1, h2, _⟩ | ⟨h1, h2⟩
      · rw [h1]; rw [h2] at t; exact t.here S (.bl _)
      · rw [h1]; rw [h2] at t; exact t.here S (.bl _)
    · exact t.elim
theorem op_inU (hu : X.A.units + 1 < cLine) (hK : X.K = K := by rfl) : OpR X (compareOp .In) (fun x y H Q => rIn K false x y H Q ∨ rDIn false x y H Q) := by subst hK; exact op_in_seq.or (op_inDct hu)
theorem op_notInU (hu : X.A.units + 1 < cLine) (hK : X.K = K := by rfl) : OpR X (compareOp .NotIn) (fun x y H Q => rIn K true x y H Q ∨ rDIn true x y H Q) := by subst hK; exact op_notIn_seq.or (op_notInDct hu)
theorem ix_dct (hu : X.A.units + 1 < cLine) : IxR X (fun x y H Q => ∃ a v, x = .ref a ∧ DGet H a y (some v) ∧ Q v H) := by
  intro value slice pins s σ H x y v u Q I rx ry h hs
  obtain ⟨a, z, rfl, g, q⟩ := h
  cases rx
  exact tail_any (dict_typeIs I g) PySem.F.slot_dict_getitem.lookup (d_getItem hu I g ry fun w' s3 I3 rw' => ⟨z, H, I3, rw', q⟩) hs
abbrev rIxU (K : PySem.W.Frag) : R2 := fun x y H Q => rIx K x y H Q ∨ ∃ a v, x = .ref a ∧ DGet H a y (some v) ∧ Q v H
theorem ixU (hu : X.A.units + 1 < cLine) (hK : X.K = K := by rfl) : IxR X (rIxU K) := by subst hK; exact ix_seq.or (ix_dct hu)
theorem atI_rp {vs : List V} {ds : List D} {i : Int} {d : D} (r : RpAll K CA m h H vs ds) (e : atI ds i = some d) : ∃ v, atI vs i = some v ∧ Rp K CA m h H v d := by
  unfold atI at e ⊢
  rw [r.length]
  cases q : ixN ds.length i with
  | none => rw [q] at e; cases e
  | some j =>
    rw [q] at e
    exact r.getD e
theorem sim_ix : SimR K CA (rIxU K) fIx := by
  intro W σ m h H x y dx dy Q' S rx ry t
  unfold fIx at t
  split at t
  · obtain ⟨l, t⟩ := post_ite t
    split at t
    · rename_i c e
      cases rx; cases ry
      exact .inl (.inr (.inr ⟨_, _, c, rfl, rfl, l, e, t.here S (.str _)⟩))
    · exact t.elim
  · split at t
    · rename_i ds i e _
      split at t
      · rename_i d ea
        obtain ⟨a, xs, rfl, e1, r1⟩ := rp_seq S rx e
        cases ry
        obtain ⟨w, e2, r2⟩ := atI_rp r1 ea
        rcases e1 with e1 | e1
        · exact .inl (.inl ⟨a, xs, _, w, rfl, rfl, e1, e2, t.here S r2⟩)
        · exact .inl (.inr (.inl ⟨a, xs, _, w, rfl, rfl, e1, e2, t.here S r2⟩))
      · exact t.elim
    · split at t
      · rename_i kvs k e ek
        split at t
        · rename_i d eg
          obtain ⟨a, o, hk, rfl, e1, c, en, r⟩ := rp_dct S rx e
          have e2 := rp_key ry ek
          subst e2
          rcases rp_dget (k := k) en r with ⟨w, d, h1, h2, h3⟩ | ⟨_, h2⟩
          · rw [h2] at eg
            cases eg
            refine .inr ⟨a, w, rfl, ?_, t.here S h3⟩
            rw [← h1]
            exact dget_core e1 c
          · rw [h2] at eg; cases eg
        · exact t.elim
      · exact t.elim
end
end CM
namespace CM
open PySem PySem.Spec PyProof.Rows L2
section
variable (K : PySem.W.Frag) (CA : CAs) (W : WX)
def PostS (m : Mp) (h : CH) (H : Hp) (D' : Ends) : RS → Prop
  | .nx ρ' h' => ∀ m' σ' H', Stp m h H m' h' H' → SO K CA m' h' H' σ' ρ' → D'.nx σ' H'
  | .rt d h' => ∀ m' v H', Stp m h H m' h' H' → HR K CA m' h' H' → Rp K CA m' h' H' v d → D'.rt v H'
  | .bk ρ' h' => ∀ m' σ' H', Stp m h H m' h' H' → SO K CA m' h' H' σ' ρ' → D'.bk σ' H'
  | .ct ρ' h' => ∀ m' σ' H', Stp m h H m' h' H' → SO K CA m' h' H' σ' ρ' → D'.ct σ' H'
  | .ex ρ' c fs h' => ∀ m' cls dd σ' H', Stp m h H m' h' H' → SO K CA m' h' H' σ' ρ' → XR K CA m' h' H' cls dd c fs → W cls dd σ' H'
  | .no => False
def SimS (tS : TS) (u : SD) : Prop := ∀ (m : Mp) (h : CH) (H : Hp) (σ : L2.St) (ρ : DE) (D' : Ends), SO K CA m h H σ ρ → PostS K CA W m h H D' (u ρ h) → tS D' σ H
end
section
variable (X : Cx) (K : PySem.W.Frag) (CA : CAs) (W : WX)
structure WS (st : Stmt) (tS : TS) (u : SD) : Prop where
  pe : PS X st tS
  sim : SimS K CA W tS u
structure WSs (st : List Stmt) (tS : TS) (u : SD) : Prop where
  pe : PSs X st tS
  sim : SimS K CA W tS u
end
section
variable {K : PySem.W.Frag} {CA : CAs} {W : WX} {m m1 : Mp} {h h1 : CH} {H H1 : Hp} {σ : L2.St} {ρ : DE} {D' : Ends} {α β : Type} {RR : Mp → CH → Hp → β → α → Prop} {Q1 : β → Hp → Prop}
theorem PostS.from {r : RS} (q : PostS K CA W m h H D' r) (s : Stp m h H m1 h1 H1) : PostS K CA W m1 h1 H1 D' r := by
  cases r with
  | nx ρ' h' => exact fun m' σ' H' s' => q m' σ' H' (s.trans s')
  | rt d h' => exact fun m' v H' s' => q m' v H' (s.trans s')
  | bk ρ' h' => exact fun m' σ' H' s' => q m' σ' H' (s.trans s')
  | ct ρ' h' => exact fun m' σ' H' s' => q m' σ' H' (s.trans s')
  | ex ρ' c fs h' => exact fun m' cls dd σ' H' s' => q m' cls dd σ' H' (s.trans s')
  | no => exact q
theorem PostS.bind {r : R α} {k : α → CH → RS} (S : SO K CA m h H σ ρ) (q : PostS K CA W m h H D' (r.toS ρ k))
    (f : ∀ a h1 m1 b H1, Stp m h H m1 h1 H1 → HR K CA m1 h1 H1 → RR m1 h1 H1 b a → PostS K CA W m1 h1 H1 D' (k a h1) → Q1 b H1) : PostG K CA W RR m h H σ Q1 r := by
  cases r with
  | ok a h1 => exact fun m1 b H1 s S1 rr => f a h1 m1 b H1 s S1 rr (q.from s)
  | ex c fs h1 => exact fun m' cls dd H' s S1 x => q m' cls dd σ H' s (S.move s S1) x
  | no => exact q
end
def dNext : SD := fun ρ h => .nx ρ h
def RS.bind (r : RS) (w : SD) : RS := match r with
  | .nx ρ h => w ρ h
  | r => r
def dSeq (u w : SD) : SD := fun ρ h => (u ρ h).bind w
def dIfS (c : TB) (u w : SD) : SD := fun ρ h => (c ρ h).toS ρ fun b h => if b = true then u ρ h else w ρ h
def dRet (t : TD) : SD := fun ρ h => (t ρ h).toS ρ fun d h => .rt d h
def dDrop (t : TD) : SD := fun ρ h => (t ρ h).toS ρ fun _ h => .nx ρ h
abbrev TGD := D → DE → CH → R DE
abbrev TGDs := List D → DE → CH → R DE
def gdName (i : Nat) : TGD := fun d ρ h => .ok (ρ.set i (some d)) h
def gdNil : TGDs := fun ds ρ h => match ds with
  | [] => .ok ρ h
  | _ => .no
def gdCons (t : TGD) (u : TGDs) : TGDs := fun ds ρ h => match ds with
  | d :: r => (t d ρ h).bind fun ρ h => u r ρ h
  | [] => .no
/-- a tuple's parts -/
def gdTup (n : Nat) (t : TGDs) : TGD := fun d ρ h => match d with
  | .tup ds => if ds.length = n then t ds ρ h else .no
  | _ => .no
/-- a target's storing: no exception may come of it -/
def R.put (r : R DE) (k : SD) : RS := match r with
  | .ok ρ h => k ρ h
  | _ => .no
def dAsg (t : TD) (tg : TGD) : SD := fun ρ h => (t ρ h).toS ρ fun d h => (tg d ρ h).put fun ρ h => .nx ρ h
def dPar (i j : Nat) (ts : TDs) : SD := fun ρ h => (ts ρ h).toS ρ fun ds h => match ds with
  | [x, y] => .nx ((ρ.set i (some x)).set j (some y)) h
  | _ => .no
/-- for, over the items -/
def dForL (tg : TGD) (u : SD) : List D → SD
  | [], ρ, h => .nx ρ h
  | d :: r, ρ, h => (tg d ρ h).put fun ρ1 h1 => match u ρ1 h1 with
    | .nx ρ2 h2 => dForL tg u r ρ2 h2
    | .ct ρ2 h2 => dForL tg u r ρ2 h2
    | .bk ρ2 h2 => .nx ρ2 h2
    | x => x
/-- what is unlocked behind a walk -/
abbrev Unl := Option (Nat × MO)
def unlH : Unl → CH → CH
  | none, h => h
  | some (k, o), h => h.put k o
def RS.unl (u : Unl) : RS → RS
  | .nx ρ h => .nx ρ (unlH u h)
  | .rt d h => .rt d (unlH u h)
  | .bk ρ h => .bk ρ (unlH u h)
  | .ct ρ h => .ct ρ (unlH u h)
  | r => r
def R.unl {α : Type} (u : Unl) : R α → R α
  | .ok a h => .ok a (unlH u h)
  | r => r
abbrev TDw := DE → CH → R (List D × Unl)
def dFor (t : TDw) (tg : TGD) (u : SD) : SD := fun ρ h => (t ρ h).toS ρ fun w h => (dForL tg u w.1 ρ h).unl w.2
section
variable {K : PySem.W.Frag} {CA : CAs} {W : WX} {t t' : TS} {u w : SD} {tH : TE} {tT : TT} {d : TD} {tB : TB}
theorem sim_next : SimS K CA W tNext dNext := fun m h H σ ρ D' S q => q m σ H .refl S
theorem sim_seq (x : SimS K CA W t u) (y : SimS K CA W t' w) : SimS K CA W (tSeq t t') (dSeq u w) := fun m h H σ ρ D' S q =>
  x m h H σ ρ { D' with nx := t' D' } S (by
    unfold dSeq at q
    cases e : u ρ h with
    | nx ρ' h' => rw [e] at q; exact fun m' σ' H' s S' => y m' h' H' σ' ρ' D' S' (PostS.from (show PostS K CA W m h H D' (w ρ' h') from q) s)
    | rt d h' => rw [e] at q; exact q
    | bk d h' => rw [e] at q; exact q
    | ct d h' => rw [e] at q; exact q
    | ex ρ' c fs h' => rw [e] at q; exact q
    | no => rw [e] at q; exact q)
theorem sim_ifS (hc : SimT K CA W tT tB) (x : SimS K CA W t u) (y : SimS K CA W t' w) : SimS K CA W (tIfS tT t t') (dIfS tB u w) := fun m h H σ ρ D' S q =>
  hc m h H σ ρ _ S (PostS.bind S q fun b h1 m1 b' H1 s1 S1 e q1 => by
    cases (show b' = b from e)
    cases b with
    | true => exact x m1 h1 H1 σ ρ D' (S.move s1 S1) q1
    | false => exact y m1 h1 H1 σ ρ D' (S.move s1 S1) q1)
theorem sim_ret (x : SimE K CA W tH d) : SimS K CA W (tRet tH) (dRet d) := fun m h H σ ρ D' S q =>
  x m h H σ ρ _ S (PostS.bind S q fun a h1 m1 v H1 s1 S1 r q1 => q1 m1 v H1 .refl S1 r)
theorem sim_drop (x : SimE K CA W tH d) : SimS K CA W (tDrop tH) (dDrop d) := fun m h H σ ρ D' S q =>
  x m h H σ ρ _ S (PostS.bind S q fun a h1 m1 v H1 s1 S1 r q1 => q1 m1 σ H1 .refl (S.move s1 S1))
end
section
variable (K : PySem.W.Frag) (CA : CAs) (W : WX)
def PostT' (m : Mp) (h : CH) (H : Hp) (σ : L2.St) (sl : List Nat) (Q' : L2.St → Hp → Prop) : R DE → Prop
  | .ok ρ' h' => ∀ m' σ' H', Stp m h H m' h' H' → SO K CA m' h' H' σ' ρ' → σ'.length = σ.length → (∀ j, j ∉ sl → σ'[j]? = σ[j]?) → Q' σ' H'
  | .ex _ _ _ => False
  | .no => False
def SimG (sl : List Nat) (gH : TG) (tg : TGD) : Prop := ∀ (m : Mp) (h : CH) (H : Hp) (σ : L2.St) (ρ : DE) (v : V) (d : D) (Q' : L2.St → Hp → Prop), SO K CA m h H σ ρ → Rp K CA m h H v d → PostT' K CA m h H σ sl Q' (tg d ρ h) → gH v σ H Q'
def SimGs (sl : List Nat) (gH : TGs) (tg : TGDs) : Prop := ∀ (m : Mp) (h : CH) (H : Hp) (σ : L2.St) (ρ : DE) (vs : List V) (ds : List D) (Q' : L2.St → Hp → Prop), SO K CA m h H σ ρ → RpAll K CA m h H vs ds → PostT' K CA m h H σ sl Q' (tg ds ρ h) → gH vs σ H Q'
end
section
variable (X : Cx) (K : PySem.W.Frag) (CA : CAs) (W : WX)
structure WG (e : Expr) (sl : List Nat) (gH : TG) (tg : TGD) : Prop where
  pe : PG X e gH
  sim : SimG K CA sl gH tg
structure WGs (es : List Expr) (sl : List Nat) (gH : TGs) (tg : TGDs) : Prop where
  pe : PGs X es gH
  sim : SimGs K CA sl gH tg
end
section
variable {X : Cx} {K : PySem.W.Frag} {CA : CAs} {W : WX} {e a b c : Expr} {es : List Expr} {gH : TG} {tg : TGD} {gHs : TGs} {tgs : TGDs} {pos : Pos} {st : Stmt} {sts rest x y : List Stmt} {tu tw : TS} {u w : SD} {ha : TE} {ta : TD} {hs : TA} {ts : TDs} {hB : TT} {tB : TB}
theorem PostT'.mono {m m1 : Mp} {h h1 : CH} {H H1 : Hp} {σ σ1 : L2.St} {s1 s2 : List Nat} {Q' : L2.St → Hp → Prop} {r : R DE} (q : PostT' K CA m h H σ s2 Q' r) (s : Stp m h H m1 h1 H1) (l : σ1.length = σ.length) (k : ∀ j, j ∉ s2 → σ1[j]? = σ[j]?) (sub : ∀ j, j ∈ s1 → j ∈ s2) : PostT' K CA m1 h1 H1 σ1 s1 Q' r := by
  cases r with
  | ok ρ' h' => exact fun m' σ' H' s' S' l' k' => q m' σ' H' (s.trans s') S' (l'.trans l) fun j hj => (k' j fun z => hj (sub j z)).trans (k j hj)
  | ex c fs h' => exact q
  | no => exact q
theorem sim_gName {i : Nat} : SimG K CA [i] (gName i) (gdName i) := fun m h H σ ρ v d Q' S r k => k m _ H .refl (S.set i r) (by simp) fun j hj => List.getElem?_set_ne (fun z => hj (by simp [z]))
theorem wg_name {i : Nat} (h : PG X e (gName i)) : WG X K CA e [i] (gName i) (gdName i) := ⟨h, sim_gName⟩
theorem wgs_nil : WGs X K CA [] [] gNil gdNil := ⟨pgs_nil, fun m h H σ ρ vs ds Q' S r k => by
  cases r with
  | nil => exact ⟨rfl, k m σ H .refl S rfl fun _ _ => rfl⟩
  | cons => exact k.elim⟩
theorem wgs_cons {s1 s2 : List Nat} (h : WG X K CA e s1 gH tg) (h' : WGs X K CA es s2 gHs tgs) (hst : (assignEach (e :: es) X.env).map (·.2) = assign e X.env :: (assignEach es X.env).map (·.2) := by rfl) : WGs X K CA (e :: es) (s1 ++ s2) (gCons gH gHs) (gdCons tg tgs) := by
  refine ⟨pgs_cons h.pe h'.pe hst, fun m hh H σ ρ vs ds Q' S r q => ?_⟩
  cases r with
  | nil => exact q.elim
  | @cons v vs d ds r1 r2 =>
    refine ⟨v, vs, rfl, h.sim m hh H σ ρ v d _ S r1 ?_⟩
    simp only [gdCons] at q
    cases e : tg d ρ hh with
    | ok ρ' h1 =>
      rw [e] at q
      exact fun m1 σ1 H1 st1 S1 l1 k1 => h'.sim m1 h1 H1 σ1 ρ' vs ds Q' S1 (r2.move st1) (PostT'.mono (show PostT' K CA m hh H σ (s1 ++ s2) Q' (tgs ds ρ' h1) from q) st1 l1 (fun j hj => k1 j fun z => hj (List.mem_append_left _ z)) fun j hj => List.mem_append_right _ hj)
    | ex c fs h1 => rw [e] at q; exact q
    | no => rw [e] at q; exact q
theorem wg_tup {n k : Nat} {sl : List Nat} (hc : X.calm = true) (h : WGs X K CA es sl gHs tgs) (hn : (assignEach es X.env).length = n := by rfl) (hst : (assignEach es X.env).findIdx? (·.1) = none := by rfl) (hK : X.K = K := by rfl) : WG X K CA (.Tuple es k pos) sl (gTup K n gHs) (gdTup n tgs) := by
  subst hK
  refine ⟨pg_tup hc h.pe hn hst, fun m hh H σ ρ v d Q' S r q => ?_⟩
  cases d with
  | tup ds =>
    simp only [gdTup] at q
    by_cases hl : ds.length = n
    · rw [if_pos hl] at q
      obtain ⟨a, xs, rfl, e1, r1⟩ := rp_tup r
      exact ⟨a, xs, rfl, e1, r1.length.trans hl, h.sim m hh H σ ρ xs ds Q' S r1 q⟩
    · rw [if_neg hl] at q; exact q.elim
  | _ => exact q.elim
theorem wss_nil : WSs X K CA W [] tNext dNext := ⟨pss_nil, sim_next⟩
theorem wss_cons (h : WS X K CA W st tu u) (h' : WSs X K CA W rest tw w) : WSs X K CA W (st :: rest) (tSeq tu tw) (dSeq u w) := ⟨pss_cons h.pe h'.pe, sim_seq h.sim h'.sim⟩
theorem wss_one (h : WS X K CA W st tu u) : WSs X K CA W [st] tu u := ⟨pss_one h.pe, h.sim⟩
theorem ws_expr (h : WE X K CA W e ha ta) (hsw : swapsWith e none pos.line X.env = pure false := by rfl) : WS X K CA W (.Expr e pos) (tDrop ha) (dDrop ta) := ⟨ps_expr h.pe hsw, sim_drop h.sim⟩
theorem ws_ret (h : WE X K CA W e ha ta) : WS X K CA W (.Return (some e) pos) (tRet ha) (dRet ta) := ⟨ps_ret h.pe, sim_ret h.sim⟩
theorem ws_if (h0 : WT X K CA W c hB tB) (h : WSs X K CA W x tu u) (h' : WSs X K CA W y tw w) : WS X K CA W (.If c x y pos) (tIfS hB tu tw) (dIfS tB u w) := ⟨ps_if h0.pe h.pe h'.pe, sim_ifS h0.sim h.sim h'.sim⟩
theorem put_post {sl : List Nat} {m : Mp} {h : CH} {H : Hp} {σ : L2.St} {D' : Ends} {r : R DE} {k : SD} {Q' : L2.St → Hp → Prop} (q : PostS K CA W m h H D' (r.put k)) (f : ∀ ρ' h' m' σ' H', Stp m h H m' h' H' → SO K CA m' h' H' σ' ρ' → PostS K CA W m' h' H' D' (k ρ' h') → Q' σ' H') : PostT' K CA m h H σ sl Q' r := by
  cases r with
  | ok ρ' h2 => exact fun m2 σ2 H2 s2 S2 _ _ => f ρ' h2 m2 σ2 H2 s2 S2 (PostS.from (show PostS K CA W m h H D' (k ρ' h2) from q) s2)
  | ex c fs h2 => exact q
  | no => exact q
theorem sim_asg {sl : List Nat} (h : SimE K CA W ha ta) (hg : SimG K CA sl gH tg) : SimS K CA W (tAsg ha gH) (dAsg ta tg) := fun m hh H σ ρ D' S q =>
  h m hh H σ ρ _ S (PostS.bind S q fun d h1 m1 v H1 s1 S1 r q1 => hg m1 h1 H1 σ ρ v d _ (S.move s1 S1) r (put_post q1 fun ρ' h' m' σ' H' s' S' q' => q' m' σ' H' .refl S'))
theorem ws_asg {sl : List Nat} (h : WE X K CA W e ha ta) (hg : WG X K CA a sl gH tg) (hsw : swapsWithSole [a] e pos.line X.env = pure false := by rfl) (hw : swappedStores [a] e X.env = pure none := by rfl)
    (h1 : (assignEach [a] X.env).map (·.2) = [assign a X.env] := by rfl) : WS X K CA W (.Assign [a] e pos) (tAsg ha gH) (dAsg ta tg) := ⟨ps_asg h.pe hg.pe hsw hw h1, sim_asg h.sim hg.sim⟩
/-- x = e: hp is the rule ps_set .. -/
theorem ws_set {i : Nat} (h : WE X K CA W e ha ta) (hp : PE X e ha → PS X st (tAsg ha (gName i))) : WS X K CA W st (tAsg ha (gName i)) (dAsg ta (gdName i)) :=
  ⟨hp h.pe, sim_asg h.sim sim_gName⟩
theorem ws_par {i j : Nat} (h : WA X K CA W es hs ts) (hp : PA X es hs → PS X st (tPar i j hs)) : WS X K CA W st (tPar i j hs) (dPar i j ts) := by
  refine ⟨hp h.pe, fun m hh H σ ρ D' S q => h.sim m hh H σ ρ _ S (PostS.bind S q fun ds h1 m1 vs H1 s1 S1 r q1 => ?_)⟩
  split at q1
  · cases r with
    | @cons v _ _ _ r1 r2 =>
      cases r2 with
      | @cons v' _ _ _ r2 r3 =>
        cases r3
        exact ⟨v, v', rfl, q1 m1 _ H1 .refl (((S.move s1 S1).set i r1).set j r2)⟩
  · exact q1.elim
end
section
variable (K : PySem.W.Frag) (CA : CAs) (W : WX)
/-- the iterator J gives the items ds, whatever the body does -/
structure Wk (m : Mp) (h : CH) (H : Hp) (J : It) (ds : List D) : Prop where
  go : ∀ (i : Nat) (m' : Mp) (h' : CH) (H' : Hp) (d : D), Sz m h H m' h' H' → HR K CA m' h' H' → ds[i]? = some d → J.go i H' ∧ ∀ x H2, J.yld i H' x H2 → (∀ a u, H' a = some u → H2 a = some u) ∧ Rp K CA m' h' H2 x d
  stop : ∀ (m' : Mp) (h' : CH) (H' : Hp), Sz m h H m' h' H' → HR K CA m' h' H' → J.stop ds.length H'
/-- .. and what was locked for the walk may be unlocked -/
def UnlOk (H0 : Hp) (m : Mp) (h : CH) (H : Hp) (m' : Mp) (h' : CH) (H' : Hp) : Unl → Prop
  | none => True
  | some (k, o) => ∀ m2 h2 H2, Stp m' h' H' m2 h2 H2 → HR K CA m2 h2 H2 → ∃ o' H3, h2.ob k = some o' ∧ (H3 = H2 ∨ ∃ od hk, H2 (m2 k) = some (.frz od (.dK hk)) ∧ (∀ o' u', H0 (m2 k) ≠ some (.frz o' u')) ∧ H3 = upd H2 (m2 k) (.dK hk)) ∧
      Stp m h H m2 (h2.put k o) H3 ∧ HR K CA m2 (h2.put k o) H3
def PostI (H0 : Hp) (m : Mp) (h : CH) (H : Hp) (σ : L2.St) (R' : It → Hp → Prop) : R (List D × Unl) → Prop
  | .ok w h' => ∀ m' J H', Stp m h H m' h' H' → HR K CA m' h' H' → Wk K CA m' h' H' J w.1 → UnlOk K CA H0 m h H m' h' H' w.2 → R' J H'
  | .ex c fs h' => ∀ m' cls dd H', Stp m h H m' h' H' → HR K CA m' h' H' → XR K CA m' h' H' cls dd c fs → W cls dd σ H'
  | .no => False
def SimI (H0 : Hp) (wH : TI) (t : TDw) : Prop := ∀ (m : Mp) (h : CH) (H : Hp) (σ : L2.St) (ρ : DE) (R' : It → Hp → Prop), SO K CA m h H σ ρ → PostI K CA W H0 m h H σ R' (t ρ h) → wH σ H R'
end
section
variable (X : Cx) (K : PySem.W.Frag) (CA : CAs) (W : WX)
structure WI (tg iter : Expr) (wH : TI) (t : TDw) : Prop where
  pe : PI X tg iter wH
  sim : SimI K CA W X.H_0 wH t
end
/-- a state behind which something locked is unlocked -/
def UnlP (X : Cx) (P : Hp → Prop) (H : Hp) : Prop := P H ∨ ∃ d od u, H d = some (.frz od u) ∧ (∀ o' u', X.H_0 d ≠ some (.frz o' u')) ∧ P (upd H d u)
def unlE (X : Cx) (D : Ends) : Ends := ⟨fun σ => UnlP X (D.nx σ), fun v => UnlP X (D.rt v), fun σ => UnlP X (D.bk σ), fun σ => UnlP X (D.ct σ)⟩
theorem unl_inv {X : Cx} {pins : List (Addr × Obj)} {σ : L2.St} {H : Hp} {s : Shared} {P : Hp → Prop} (I : Inv X pins σ H s) (q : UnlP X P H) : ∃ H', Inv X pins σ H' s ∧ P H' := by
  rcases q with q | ⟨d, od, u, e, n, q⟩
  · exact ⟨H, I, q⟩
  · exact ⟨_, I.unlock e n, q⟩
theorem ps_unl {X : Cx} {st : Stmt} {t : TS} (x : PS X st t) : PS X st (fun D σ H => t (unlE X D) σ H) := by
  refine ⟨fun pins s σ H D I hw => thn (x.run pins s σ H _ I hw) fun f s1 q => ?_⟩
  cases f with
  | next => obtain ⟨σ', H', I2, q⟩ := q; obtain ⟨H2, I3, q⟩ := unl_inv I2 q; exact ⟨σ', H2, I3, q⟩
  | brk => obtain ⟨σ', H', I2, q⟩ := q; obtain ⟨H2, I3, q⟩ := unl_inv I2 q; exact ⟨σ', H2, I3, q⟩
  | cont => obtain ⟨σ', H', I2, q⟩ := q; obtain ⟨H2, I3, q⟩ := unl_inv I2 q; exact ⟨σ', H2, I3, q⟩
  | ret v => obtain ⟨y, σ', H', I2, r, q⟩ := q; obtain ⟨H2, I3, q⟩ := unl_inv I2 q; exact ⟨y, σ', H2, I3, r, q⟩
theorem pe_unl {X : Cx} {e : Expr} {t : TE} (x : PE X e t) : PE X e (fun σ H Q => t σ H fun v => UnlP X (Q v)) := by
  refine ⟨fun pins s σ H Q I hw => thn (x.run pins s σ H _ I hw) fun v s1 q => ?_⟩
  obtain ⟨y, H1, I2, r, q⟩ := q
  obtain ⟨H2, I3, q⟩ := unl_inv I2 q
  exact ⟨y, H2, I3, r, q⟩
def itemsD (h : CH) : D → Option (List D)
  | .lst ds => some ds
  | .tup ds => some ds
  | .scr ns => some (ns.map D.int)
  | _ => none
/-- what is walked: the items -/
def lockD (d : D) (h : CH) : R (List D × Unl) := match d with
  | .ref k => match h.ob k with
    | some (.lst ds) => .ok (ds, some (k, .lst ds)) (h.put k (.lkl ds))
    | some (.lkl ds) => .ok (ds, none) h
    | _ => .no
  | _ => .no
def dSeqI (t : TD) : TDw := fun ρ h => (t ρ h).bind fun d h => match itemsD h d with
  | some ds => .ok (ds, none) h
  | none => lockD d h
def rgD (a : Int) (n : Nat) : List D := (List.range n).map fun (i : Nat) => D.int (a + (i : Int))
def dRng1 (ts : TDs) : TDw := fun ρ h => (ts ρ h).bind fun ds h => match ds with
  | [.int n] => if -(2 ^ 62) ≤ n ∧ n < 2 ^ 62 then .ok (rgD 0 n.toNat, none) h else .no
  | _ => .no
def enD : Nat → List D → List D
  | _, [] => []
  | i, d :: r => .tup [.int (i : Int), d] :: enD (i + 1) r
section
variable {X : Cx} {K : PySem.W.Frag} {CA : CAs} {W : WX} {e a b l c tge iter : Expr} {es : List Expr} {gH : TG} {tg : TGD} {pos p : Pos} {st : Stmt} {sts rest body : List Stmt} {tb : TS} {u w : SD} {ha : TE} {ta : TD} {hs : TA} {wH : TI} {ts : TDs} {ti : TDw} {hB : TT} {tB : TB}
theorem sim_forL {sl : List Nat} (s' : SimG K CA sl gH tg) (s'' : SimS K CA W tb u) {m : Mp} {h : CH} {H : Hp} {σ : L2.St} {ρ : DE} {D' : Ends} {J : It} {ds : List D} (S : SO K CA m h H σ ρ) (wk : Wk K CA m h H J ds) (q : PostS K CA W m h H D' (dForL tg u ds ρ h)) :
    ∃ (Wl : Nat → Nat → L2.St → Hp → Prop), (∃ n, Wl 0 n σ H) ∧ ∀ i n σ' H', Wl i n σ' H' → (J.stop i H' ∧ D'.nx σ' H') ∨ (J.go i H' ∧ ∃ Nx : L2.St → Hp → Prop, (∀ σ3 H3, Nx σ3 H3 → ∃ n', n' < n ∧ Wl (i + 1) n' σ3 H3) ∧
      ∀ x H2, J.yld i H' x H2 → gH x σ' H2 fun σ2 H2' => tb { D' with nx := Nx, ct := Nx, bk := D'.nx } σ2 H2') := by
  refine ⟨fun i n σ' H' => n + i = ds.length ∧ ∃ m' h' ρ', Stp m h H m' h' H' ∧ SO K CA m' h' H' σ' ρ' ∧ PostS K CA W m' h' H' D' (dForL tg u (ds.drop i) ρ' h'), ⟨ds.length, rfl, m, h, ρ, .refl, S, q⟩, ?_⟩
  rintro i n σ' H' ⟨hm, m', h', ρ', st', S', q'⟩
  cases hd : ds[i]? with
  | none =>
    have hlen : ds.length ≤ i := List.getElem?_eq_none_iff.mp hd
    obtain rfl : i = ds.length := by omega
    rw [List.drop_length] at q'
    exact .inl ⟨wk.stop m' h' H' st'.toSz S'.hr, q' m' σ' H' .refl S'⟩
  | some d =>
    obtain ⟨hlt, ed⟩ := List.getElem?_eq_some_iff.mp hd
    rw [List.drop_eq_getElem_cons hlt, ed] at q'
    obtain ⟨go, yl⟩ := wk.go i m' h' H' d st'.toSz S'.hr hd
    refine .inr ⟨go, fun σ3 H3 => ∃ m3 h3 ρ3, Stp m h H m3 h3 H3 ∧ SO K CA m3 h3 H3 σ3 ρ3 ∧ PostS K CA W m3 h3 H3 D' (dForL tg u (ds.drop (i + 1)) ρ3 h3), fun σ3 H3 n3 => ⟨n - 1, by omega, by omega, n3⟩, fun x H2 y2 => ?_⟩
    obtain ⟨gr, r2⟩ := yl x H2 y2
    have a2 := stp_grow S'.hr gr
    have w2 := S'.hr.grow gr
    have q2 := q'.from a2
    unfold dForL at q2
    refine s' m' h' H2 σ' ρ' x d _ (S'.move a2 w2) r2 (put_post q2 fun ρ4 h4 m4 σ4 H4 s4 S4 q4 => ?_)
    refine s'' m4 h4 H4 σ4 ρ4 _ S4 ?_
    have stp4 : Stp m h H m4 h4 H4 := (st'.trans a2).trans s4
    cases e : u ρ4 h4 with
    | nx ρ5 h5 => rw [e] at q4; exact fun m5 σ5 H5 s5 S5 => ⟨m5, h5, ρ5, stp4.trans s5, S5, q4.from s5⟩
    | ct ρ5 h5 => rw [e] at q4; exact fun m5 σ5 H5 s5 S5 => ⟨m5, h5, ρ5, stp4.trans s5, S5, q4.from s5⟩
    | bk ρ5 h5 => rw [e] at q4; exact q4
    | rt d5 h5 => rw [e] at q4; exact q4
    | ex ρ5 c fs h5 => rw [e] at q4; exact q4
    | no => rw [e] at q4; exact q4
theorem PostI.bindS {m : Mp} {h : CH} {H : Hp} {σ : L2.St} {ρ : DE} {D' : Ends} {H0 : Hp} {r : R (List D × Unl)} {k : List D × Unl → CH → RS} {R' : It → Hp → Prop} (S : SO K CA m h H σ ρ) (q : PostS K CA W m h H D' (r.toS ρ k))
    (f : ∀ w h1 m1 J H1, Stp m h H m1 h1 H1 → HR K CA m1 h1 H1 → Wk K CA m1 h1 H1 J w.1 → UnlOk K CA H0 m h H m1 h1 H1 w.2 → PostS K CA W m h H D' (k w h1) → R' J H1) : PostI K CA W H0 m h H σ R' r := by
  cases r with
  | ok w h1 => exact fun m1 J H1 s S1 wk uo => f w h1 m1 J H1 s S1 wk uo q
  | ex c fs h1 => exact fun m' cls dd H' s S1 x => q m' cls dd σ H' s (S.move s S1) x
  | no => exact q
/-- the end of a walk -/
theorem unl_at {m m1 m2 : Mp} {h h1 h2 : CH} {H H1 H2 : Hp} {u : Unl} {P : Hp → Prop} (s : Stp m h H m1 h1 H1) (uo : UnlOk K CA X.H_0 m h H m1 h1 H1 u) (s2 : Stp m1 h1 H1 m2 h2 H2) (S2 : HR K CA m2 h2 H2)
    (f : ∀ H3, Stp m h H m2 (unlH u h2) H3 → HR K CA m2 (unlH u h2) H3 → (∀ v d, Rp K CA m2 h2 H2 v d → Rp K CA m2 (unlH u h2) H3 v d) → P H3) : UnlP X P H2 := by
  cases u with
  | none => exact .inl (f H2 (s.trans s2) S2 fun _ _ r => r)
  | some p =>
    obtain ⟨k, kvs⟩ := p
    obtain ⟨o', H3, eo, e, s3, S3⟩ := uo m2 h2 H2 s2 S2
    rcases e with rfl | ⟨od, hk, e, n, rfl⟩
    · refine .inl (f _ s3 S3 fun _ _ r => ?_)
      obtain ⟨u, q⟩ := (S2.ob _ _ eo).2.some
      have := r.mv (mv_put (o' := kvs) (u := u) eo)
      rw [upd_eq q] at this
      exact this
    · exact .inr ⟨m2 k, od, _, e, n, f _ s3 S3 fun _ _ r => r.mv (mv_put eo)⟩
theorem post_unl {m m1 : Mp} {h h1 : CH} {H H1 : Hp} {D' : Ends} {r : RS} {u : Unl} (s : Stp m h H m1 h1 H1) (uo : UnlOk K CA X.H_0 m h H m1 h1 H1 u) (q : PostS K CA W m h H D' (r.unl u)) : PostS K CA W m1 h1 H1 (unlE X D') r := by
  have so : ∀ {m2 : Mp} {h2 : CH} {H2 H3 : Hp} {σ : L2.St} {ρ : DE}, SO K CA m2 h2 H2 σ ρ → HR K CA m2 (unlH u h2) H3 → (∀ v d, Rp K CA m2 h2 H2 v d → Rp K CA m2 (unlH u h2) H3 v d) → SO K CA m2 (unlH u h2) H3 σ ρ := fun S2 S3 k => ⟨S3, S2.len, fun i d e => let ⟨v, e1, q⟩ := S2.sl i d e; ⟨v, e1, k v d q⟩⟩
  cases r with
  | nx ρ' h' => exact fun m2 σ2 H2 s2 S2 => unl_at s uo s2 S2.hr fun H3 s3 S3 k => q m2 σ2 H3 s3 (so S2 S3 k)
  | rt d h' => exact fun m2 v H2 s2 S2 r => unl_at s uo s2 S2 fun H3 s3 S3 k => q m2 v H3 s3 S3 (k v d r)
  | bk ρ' h' => exact fun m2 σ2 H2 s2 S2 => unl_at s uo s2 S2.hr fun H3 s3 S3 k => q m2 σ2 H3 s3 (so S2 S3 k)
  | ct ρ' h' => exact fun m2 σ2 H2 s2 S2 => unl_at s uo s2 S2.hr fun H3 s3 S3 k => q m2 σ2 H3 s3 (so S2 S3 k)
  | ex ρ' c fs h' => exact fun m2 cls dd σ2 H2 s2 S2 x => q m2 cls dd σ2 H2 (s.trans s2) S2 x
  | no => exact q
abbrev tForU (X : Cx) (wH : TI) (gH : TG) (tb : TS) : TS := fun D σ H => tFor wH gH tb (unlE X D) σ H
theorem ws_for {sl : List Nat} (hi : WI X K CA W a iter wH ti) (hg : WG X K CA a sl gH tg) (hb : WSs X K CA W body tb u)
    (hp : PI X a iter wH → PG X a gH → PSs X body tb → PS X st (tFor wH gH tb)) : WS X K CA W st (tForU X wH gH tb) (dFor ti tg u) :=
  ⟨ps_unl (hp hi.pe hg.pe hb.pe), fun m h H σ ρ D' S q => hi.sim m h H σ ρ _ S (PostI.bindS S q fun w h1 m1 J H1 s1 S1 wk uo q1 => by
    obtain ⟨Wl, w0, w1⟩ := sim_forL hg.sim hb.sim (S.move s1 S1) wk (post_unl s1 uo q1)
    refine ⟨Wl, w0, fun i n σ' H' hw => ?_⟩
    rcases w1 i n σ' H' hw with z | ⟨z, Nx, z1, z2⟩
    · exact .inl z
    · exact .inr ⟨z, Nx, z1, z2⟩)⟩
/-- a walk's reading, from what is read first -/
theorem PostI.bind {α β : Type} {RR : Mp → CH → Hp → β → α → Prop} {Q1 : β → Hp → Prop} {m : Mp} {h : CH} {H : Hp} {σ : L2.St} {H0 : Hp} {r : R α} {k : α → CH → R (List D × Unl)} {R' : It → Hp → Prop} (q : PostI K CA W H0 m h H σ R' (r.bind k))
    (f : ∀ a h1 m1 b H1, Stp m h H m1 h1 H1 → HR K CA m1 h1 H1 → RR m1 h1 H1 b a → PostI K CA W H0 m h H σ R' (k a h1) → Q1 b H1) : PostG K CA W RR m h H σ Q1 r := by
  cases r with
  | ok a h1 => exact fun m1 b H1 s S rr => f a h1 m1 b H1 s S rr q
  | ex c fs h1 => exact q
  | no => exact q
theorem postI_ite {m : Mp} {h : CH} {H : Hp} {σ : L2.St} {H0 : Hp} {R' : It → Hp → Prop} {c : Prop} [Decidable c] {r : R (List D × Unl)} (t : PostI K CA W H0 m h H σ R' (if c then r else .no)) : c ∧ PostI K CA W H0 m h H σ R' r := by
  by_cases q : c
  · rw [if_pos q] at t; exact ⟨q, t⟩
  · rw [if_neg q] at t; exact t.elim
theorem PostI.walk {m m1 : Mp} {h h1 : CH} {H H1 : Hp} {σ : L2.St} {H0 : Hp} {ds : List D} {J : It} {R' : It → Hp → Prop} (q : PostI K CA W H0 m h H σ R' (.ok (ds, none) h1)) (s : Stp m h H m1 h1 H1) (S : HR K CA m1 h1 H1) (wk : Wk K CA m1 h1 H1 J ds) : R' J H1 := q m1 J H1 s S wk trivial
/-- a list or a tuple is walked -/
def iSeq (K : PySem.W.Frag) (tl : TE) : TI := fun σ H R => tl σ H fun x H1 => ∃ a, x = .ref a ∧ (((∃ xs, SqL K H1 a xs) ∧ R (Itl K a) H1) ∨ ((∃ xs, SqT K H1 a xs) ∧ R (Itt K a) H1))
theorem pi_seq {tl : TE} (hl : PE X l tl) (hK : X.K = K := by rfl) : PI X tge l (iSeq K tl) := by
  subst hK
  refine ⟨fun pins s σ H R I q => thn (hl.run pins s σ H _ I q) fun v s1 hv => ?_⟩
  obtain ⟨x, H1, I1, r1, a, rfl, hq⟩ := hv
  cases r1
  have new : ∀ o, Inv X pins σ H1 { s1 with heap := s1.heap.push o } := fun o => I1.kept (t' := s1.toks) fun b o e => Heap.get?_push_of_some _ e
  have fp : ∀ b ∈ [s1.heap.objs.size], FpOk X pins H1 b := fun b hb => by
    rw [List.mem_singleton] at hb
    rw [hb]
    exact I1.fpOk (Nat.le_refl _) (I1.hok.fresh (Nat.le_refl _))
  rcases hq with ⟨⟨xs, hx⟩, q⟩ | ⟨⟨xs, hx⟩, q⟩
  · obtain ⟨its, _, pl, _⟩ := I1.list hx
    exact wpAny_pyIter_list pl.isList ⟨_, _, _, _, H1, rfl, new _, turn_list a _, ⟨_, Heap.get?_push_size _ rfl, rfl, rfl⟩, fp, q⟩
  · obtain ⟨its, _, pl, _⟩ := I1.tuple hx
    exact wpAny_pyIter_tuple (show s1.heap.IsTuple a its.toArray from pl) ⟨_, _, _, _, H1, rfl, new _, turn_tuple a _, ⟨_, Heap.get?_push_size _ rfl, rfl, rfl⟩, fp, q⟩
section
variable {m : Mp} {h : CH} {H : Hp} {ds : List D} {xs : List V}
theorem wk_list {a : Addr} (k : ∀ m' h' H', Sz m h H m' h' H' → SqL K H' a xs) (r : RpAll K CA m h H xs ds) : Wk K CA m h H (Itl K a) ds :=
  ⟨fun i m' h' H' d s S hd => by
    obtain ⟨v, hv, rv⟩ := r.getD hd
    have e' := k m' h' H' s
    refine ⟨⟨xs, v, e', hv⟩, fun x H2 y => ?_⟩
    obtain ⟨rfl, hy⟩ := y
    have ex := (hy xs e').symm.trans hv
    cases ex
    exact ⟨fun _ _ q => q, rv.mv s.toMv⟩, fun m' h' H' s S => ⟨xs, k m' h' H' s, by rw [r.length]; exact Nat.le_refl _⟩⟩
theorem wk_tup {a : Addr} (k : ∀ m' h' H', Sz m h H m' h' H' → SqT K H' a xs) (r : RpAll K CA m h H xs ds) : Wk K CA m h H (Itt K a) ds :=
  ⟨fun i m' h' H' d s S hd => by
    obtain ⟨v, hv, rv⟩ := r.getD hd
    have e' := k m' h' H' s
    refine ⟨⟨xs, v, e', hv⟩, fun x H2 y => ?_⟩
    obtain ⟨rfl, hy⟩ := y
    have ex := (hy xs e').symm.trans hv
    cases ex
    exact ⟨fun _ _ q => q, rv.mv s.toMv⟩, fun m' h' H' s S => ⟨xs, k m' h' H' s, by rw [r.length]; exact Nat.le_refl _⟩⟩
theorem keep_lst {a : Addr} (n : ¬ Live m h a) (e : H a = some (.lst xs)) : ∀ m' h' H', Sz m h H m' h' H' → SqL K H' a xs := fun m' h' H' s => by
  obtain ⟨_, o, e', l⟩ := s.kp a _ n e trivial
  exact .of (by rw [e', core_lst l.core])
theorem keep_tup {a : Addr} (n : ¬ Live m h a) (e : H a = some (.tup xs)) : ∀ m' h' H', Sz m h H m' h' H' → SqT K H' a xs := fun m' h' H' s => by
  obtain ⟨_, o, e', l⟩ := s.kp a _ n e trivial
  exact .of (by rw [e', core_tup l.core])
theorem all_ints : ∀ ns : List Int, RpAll K CA m h H (ns.map V.int) (ns.map D.int)
  | [] => .nil
  | n :: ns => .cons (.int n) (all_ints ns)
end
theorem wi_seq (h : WE X K CA W l ha ta) (hK : X.K = K := by rfl) : WI X K CA W tge l (iSeq K ha) (dSeqI ta) := by
  refine ⟨pi_seq h.pe hK, fun m hh H σ ρ R' S t => h.sim m hh H σ ρ _ S (PostI.bind t fun d h1 m1 v H1 s1 S1 r1 t1 => ?_)⟩
  cases r1 with
  | lst n e r => exact ⟨_, rfl, .inl ⟨⟨_, .of e⟩, t1.walk s1 S1 (wk_list (keep_lst n e) r)⟩⟩
  | tup n e r => exact ⟨_, rfl, .inr ⟨⟨_, .of e⟩, t1.walk s1 S1 (wk_tup (keep_tup n e) r)⟩⟩
  | ktup e r => exact ⟨_, rfl, .inr ⟨⟨_, sq_emp e⟩, t1.walk s1 S1 (wk_tup (fun _ _ _ _ => sq_emp e) r)⟩⟩
  | scr n e => exact ⟨_, rfl, .inl ⟨⟨_, .inl (.inr ⟨_, e⟩)⟩, t1.walk s1 S1 (wk_list (fun m' h' H' s => by
      obtain ⟨_, o, e', l⟩ := s.kp _ _ n e trivial
      exact .inl (.inr ⟨_, by rw [e', l.frz]⟩)) (all_ints _))⟩⟩
  | kscr e => exact ⟨_, rfl, .inl ⟨⟨_, sl_emp e⟩, t1.walk s1 S1 (wk_list (fun _ _ _ _ => sl_emp e) (all_ints _))⟩⟩
  | @ref k lt =>
    replace t1 : PostI K CA W X.H_0 m hh H σ R' (lockD (.ref k) h1) := t1
    unfold lockD at t1
    simp only at t1
    split at t1
    · rename_i ds eo
      obtain ⟨xs, eH, r, s2, S2⟩ := lockL_ok S1 eo
      refine ⟨m1 k, rfl, .inl ⟨⟨xs, .of eH⟩, t1 m1 _ H1 (s1.trans s2) S2 (wk_list (fun m' h' H' s => ?_) (r.move s2)) ?_⟩⟩
      · obtain ⟨_, q⟩ := s.lk k _ lt put_same id
        exact .of (q.trans eH)
      · intro m2 h2 H2 s3 S3
        obtain ⟨q1, q2, q3⟩ := unlockL_ok S1 eo s3 S3
        exact ⟨_, H2, q1, .inl rfl, s1.trans q2, q3⟩
    · rename_i ds eo
      have x := (S1.ob k _ eo).2
      cases x with
      | @lkl xs _ eH r =>
        refine ⟨m1 k, rfl, .inl ⟨⟨xs, .of eH⟩, t1.walk s1 S1 (wk_list (fun m' h' H' s => ?_) r)⟩⟩
        obtain ⟨_, q⟩ := s.lk k _ lt eo id
        exact .of (q.trans eH)
    · exact t1.elim
  | _ => exact t1.elim
theorem wk_range {m : Mp} {h : CH} {H : Hp} (lo : Int) (n : Nat) : Wk K CA m h H (Itr lo n) (rgD lo n) :=
  ⟨fun i m' h' H' d s S hd => by
    unfold rgD at hd
    rw [List.getElem?_map] at hd
    cases hr : (List.range n)[i]? with
    | none => rw [hr] at hd; cases hd
    | some j =>
      rw [hr] at hd
      obtain ⟨hlt, ej⟩ := List.getElem?_eq_some_iff.mp hr
      rw [List.getElem_range] at ej
      subst ej
      cases hd
      refine ⟨by show i < n; simpa using hlt, fun x H2 y => ?_⟩
      obtain ⟨rfl, rfl⟩ := y
      exact ⟨fun _ _ q => q, .int _⟩, fun m' h' H' s S => by
    show n ≤ (rgD lo n).length
    unfold rgD
    rw [List.length_map, List.length_range]
    exact Nat.le_refl _⟩
theorem wi_rng1 (h : WA X K CA W es hs ts) (hp : PA X es hs → PI X tge l (iRng1 hs)) : WI X K CA W tge l (iRng1 hs) (dRng1 ts) := by
  refine ⟨hp h.pe, fun m hh H σ ρ R' S t => h.sim m hh H σ ρ _ S (PostI.bind t fun ds h1 m1 vs H1 s1 S1 r1 t1 => ?_)⟩
  split at t1
  · rename_i n
    obtain ⟨⟨c1, c2⟩, t1⟩ := postI_ite t1
    cases r1 with
    | cons r1 r2 =>
      cases r1
      cases r2
      exact ⟨n, rfl, c1, c2, t1.walk s1 S1 (wk_range 0 n.toNat)⟩
  · exact t1.elim
theorem enD_get : ∀ (xs : List D) (k i : Nat) (d : D), (enD k xs)[i]? = some d → ∃ x, xs[i]? = some x ∧ d = .tup [.int ((k + i : Nat) : Int), x]
  | [], k, i, d, h => by simp [enD] at h
  | x :: xs, k, 0, d, h => by simp [enD] at h; exact ⟨x, rfl, by rw [← h]; rfl⟩
  | x :: xs, k, i + 1, d, h => by
    obtain ⟨y, h1, h2⟩ := enD_get xs (k + 1) i d (by simpa [enD] using h)
    exact ⟨y, by simpa using h1, by rw [h2]; congr 4; omega⟩
theorem enD_length : ∀ (xs : List D) (k : Nat), (enD k xs).length = xs.length
  | [], _ => rfl
  | _ :: xs, k => by simp [enD, enD_length xs (k + 1)]
theorem wk_enum {m : Mp} {h : CH} {H : Hp} {a : Addr} {xs : List V} {ds : List D} (n : ¬ Live m h a) (e : H a = some (.lst xs)) (r : RpAll K CA m h H xs ds) : Wk K CA m h H (Ite K a) (enD 0 ds) :=
  ⟨fun i m' h' H' d s S hd => by
    obtain ⟨y, hy, rfl⟩ := enD_get ds 0 i d hd
    obtain ⟨v, hv, rv⟩ := r.getD hy
    have e' := keep_lst (K := K) n e m' h' H' s
    refine ⟨⟨xs, v, e', hv⟩, fun x H2 yl => ?_⟩
    obtain ⟨T, z, rfl, nT, rfl, hz⟩ := yl
    have ex := (hz xs e').symm.trans hv
    cases ex
    have ri : ((0 + i : Nat) : Int) = ((i : Nat) : Int) := by omega
    rw [ri]
    exact ⟨upd_new nT, .tup (S.fresh nT) upd_same (.cons (.int _) (.cons ((rv.mv s.toMv).move (stp_laid S nT)) .nil))⟩, fun m' h' H' s S => ⟨xs, keep_lst n e m' h' H' s, by rw [enD_length, r.length]; exact Nat.le_refl _⟩⟩
end
end CM
namespace CM
open PySem PySem.Spec PyProof.Rows L2
section
variable {X : Cx} {K : PySem.W.Frag} {CA : CAs} {W : WX} {e tge iter : Expr} {ha : TE} {ta : TD} {m : Mp} {h : CH} {H : Hp}
theorem len_of {hk : List (Key × V)} {kvs : List (Key × D)} (en : hk.map (·.1) = kvs.map (·.1)) : hk.length = kvs.length := by simpa using congrArg List.length en
/-- the comprehension's own names are not there yet -/
def wipeD (ρ : DE) : List Nat → DE
  | [] => ρ
  | v :: vs => (wipeD ρ vs).set v none
def dYes : TB := fun _ h => .ok true h
def dLcL (tg : TGD) (tt : TB) (te : TD) (ρ0 : DE) : List D → CH → R (List D)
  | [], h => .ok [] h
  | d :: r, h => (tg d ρ0 h).calm fun ρ2 h => (tt ρ2 h).calm fun b h => if b = true then (te ρ2 h).calm fun y h => (dLcL tg tt te ρ0 r h).bind fun ys h => .ok (y :: ys) h
    else dLcL tg tt te ρ0 r h
def dLc (nm : Bool) (ti : TDw) (tg : TGD) (tt : TB) (te : TD) (vs : List Nat) : TD := fun ρ h => (ti ρ h).bind fun w h => if w.1.length ≤ sizeLine then ((dLcL tg tt te (wipeD ρ vs) w.1 h).bind fun ys h => mkL nm ys h).unl w.2 else .no
section
variable {m m1 m2 : Mp} {h1 h2 : CH} {H1 H2 : Hp} {σ : L2.St} {ρ : DE} {p : Addr} {Q' : VK}
theorem wipe_at {σ : L2.St} {vs : List Nat} {j : Nat} (h : j ∉ vs) : (wipe σ vs)[j]? = σ[j]? := by
  induction vs with
  | nil => rfl
  | cons v vs ih =>
    simp only [List.mem_cons, not_or] at h
    unfold wipe
    rw [List.getElem?_set_ne (Ne.symm h.1)]
    exact ih h.2
theorem wipeD_len (ρ : DE) (vs : List Nat) : (wipeD ρ vs).length = ρ.length := by
  induction vs with
  | nil => rfl
  | cons v vs ih => unfold wipeD; rw [List.length_set, ih]
theorem wipeD_some {ρ : DE} {vs : List Nat} {j : Nat} {s : D} (h : (wipeD ρ vs)[j]? = some (some s)) : j ∉ vs ∧ ρ[j]? = some (some s) := by
  induction vs with
  | nil => exact ⟨by simp, h⟩
  | cons v vs ih =>
    unfold wipeD at h
    rcases set_some h with ⟨_, q⟩ | ⟨n, q⟩
    · cases q
    · obtain ⟨h1, h2⟩ := ih q
      exact ⟨by simp [n, h1], h2⟩
theorem SO.wiped (S : SO K CA m h H σ ρ) (vs : List Nat) : SO K CA m h H (wipe σ vs) (wipeD ρ vs) :=
  ⟨S.hr, by rw [wipe_length, wipeD_len]; exact S.len, fun j s e => by
    obtain ⟨h1, h2⟩ := wipeD_some e
    obtain ⟨v, e1, r⟩ := S.sl j s h2
    exact ⟨v, by rw [wipe_at h1]; exact e1, r⟩⟩
abbrev W0 : WX := fun _ _ _ _ => False
theorem wipe_none {σ : L2.St} {vs : List Nat} {j : Nat} (h : j ∈ vs) : (wipe σ vs)[j]? = none ∨ (wipe σ vs)[j]? = some none := by
  induction vs with
  | nil => cases h
  | cons w ws ih =>
    unfold wipe
    by_cases q : w = j
    · subst q
      by_cases l : w < (wipe σ ws).length
      · exact .inr (List.getElem?_set_self l)
      · exact .inl (by rw [List.getElem?_eq_none_iff, List.length_set]; omega)
    · rw [List.getElem?_set_ne q]
      rcases List.mem_cons.mp h with z | z
      · exact absurd z.symm q
      · exact ih z
theorem wipe_eq {σ σ' : L2.St} {vs : List Nat} (hl : σ'.length = σ.length) (h : ∀ j, j ∉ vs → σ'[j]? = σ[j]?) : wipe σ' vs = wipe σ vs := by
  apply List.ext_getElem?
  intro j
  by_cases hj : j ∈ vs
  · have l1 := wipe_length σ' vs
    have l2 := wipe_length σ vs
    by_cases lt : j < σ.length
    · have k1 := wipe_none (σ := σ') hj
      have k2 := wipe_none (σ := σ) hj
      have n1 : (wipe σ' vs)[j]? ≠ none := fun z => by have := List.getElem?_eq_none_iff.mp z; omega
      have n2 : (wipe σ vs)[j]? ≠ none := fun z => by have := List.getElem?_eq_none_iff.mp z; omega
      rw [k1.resolve_left n1, k2.resolve_left n2]
    · rw [List.getElem?_eq_none_iff.mpr (by omega), List.getElem?_eq_none_iff.mpr (by omega)]
  · rw [wipe_at hj, wipe_at hj]
    exact h j hj
/-- what was made at p gets a name -/
theorem named_kp {zs : List Addr} (S2 : HR K CA m2 h2 H2) (z2 : m2.z = p :: zs) {o : MO} : ∀ a w, ¬ Live m2 h2 a → H2 a = some w → NoTb w → ¬ Live (mpNew ⟨m2.f, zs⟩ h2 p) (h2.new o) a ∧ ∃ o', H2 a = some o' ∧ Lk w o' := fun a w l e _ => ⟨fun z => l (by
    rcases z with ⟨k, u, q, rfl⟩ | z
    · unfold CH.new at q
      by_cases c : k = h2.nx
      · subst c
        have e2 : (mpNew ⟨m2.f, zs⟩ h2 p) h2.nx = p := mpNew_nx
        exact .inr (by rw [z2, e2]; exact List.mem_cons_self ..)
      · simp only [if_neg c] at q
        have e2 : (mpNew ⟨m2.f, zs⟩ h2 p) k = m2 k := mpNew_lt (m := ⟨m2.f, zs⟩) (S2.ob k u q).1
        exact .inl ⟨k, u, q, e2.symm⟩
    · exact .inr (by rw [z2]; exact List.mem_cons_of_mem _ z)), w, e, .inl rfl⟩
theorem RpAll.named {zs : List Addr} (S2 : HR K CA m2 h2 H2) (z2 : m2.z = p :: zs) {o : MO} {vs : List V} {ds : List D} (r : RpAll K CA m2 h2 H2 vs ds) : RpAll K CA (mpNew ⟨m2.f, zs⟩ h2 p) (h2.new o) H2 vs ds :=
  RpAll.mv0 (m := m2) (h := h2) (H := H2) (m' := mpNew ⟨m2.f, zs⟩ h2 p) (h' := h2.new o) (H' := H2) (Nat.le_succ _) (fun k l => mpNew_lt (m := ⟨m2.f, zs⟩) l) (named_kp S2 z2) r
theorem done_named (S : HR K CA m1 h1 H1) (n : H1 p = none) {u : HO} (s : Sc p (m1.add p) h1 (upd H1 p u) m2 h2 H2) (S2 : HR K CA m2 h2 H2) {o : MO} (x : MOk K CA (mpNew ⟨m2.f, m1.z⟩ h2 p) (h2.new o) H2 p o) :
    Stp m1 h1 H1 (mpNew ⟨m2.f, m1.z⟩ h2 p) (h2.new o) H2 ∧ HR K CA (mpNew ⟨m2.f, m1.z⟩ h2 p) (h2.new o) H2 := by
  have z2 : m2.z = p :: m1.z := s.z
  have sd := stp_done S n s
  have key : ∀ j u, (h2.new o).ob j = some u → (j = h2.nx ∧ u = o) ∨ (j < h2.nx ∧ h2.ob j = some u) := fun j u e => by
    unfold CH.new at e
    by_cases q : j = h2.nx
    · simp only [if_pos q] at e; cases e; exact .inl ⟨q, rfl⟩
    · simp only [if_neg q] at e
      exact .inr ⟨(S2.ob j u e).1, e⟩
  have pz : p ∈ m2.z := by rw [z2]; exact List.mem_cons_self ..
  have off : ∀ j u, h2.ob j = some u → m2 j ≠ p := fun j u e z => S2.zn j u e (by rw [z]; exact pz)
  have at0 : (mpNew ⟨m2.f, m1.z⟩ h2 p) h2.nx = p := mpNew_nx
  have at1 : ∀ k, k < h2.nx → (mpNew ⟨m2.f, m1.z⟩ h2 p) k = m2 k := fun k l => mpNew_lt (m := ⟨m2.f, m1.z⟩) l
  refine ⟨.mk' ⟨Nat.le_trans sd.nx (Nat.le_succ _), fun k l => (at1 k (Nat.lt_of_lt_of_le l sd.nx)).trans (sd.mp k l), fun a w l e nt => ?_⟩ (fun k kvs l e ld => ?_) rfl (fun a l => sd.zk a l), ⟨fun j w e => ?_, fun i j u w e1 e2 e3 => ?_, fun j w e => ?_, fun a l => ?_, S2.tb⟩⟩
  · have ne : a ≠ p := ne_of_none e n
    obtain ⟨l2, o', e', lk⟩ := s.kp a w (fun z => by
      rcases z with ⟨k, u, q, rfl⟩ | z
      · exact l (.inl ⟨k, u, q, rfl⟩)
      · rcases List.mem_cons.mp z with z | z
        · exact ne z
        · exact l (.inr z)) (by rw [upd_ne ne]; exact e) nt
    exact ⟨(named_kp S2 z2 a o' l2 e' (lk_nt lk nt)).1, o', e', lk⟩
  · obtain ⟨a1, a2⟩ := sd.lk k kvs l e ld
    refine ⟨?_, a2⟩
    unfold CH.new
    simp only [if_neg (Nat.ne_of_lt (Nat.lt_of_lt_of_le l sd.nx))]
    exact a1
  · rcases key j w e with ⟨rfl, rfl⟩ | ⟨l, q⟩
    · exact ⟨Nat.lt_succ_self _, by rw [at0]; exact x⟩
    · refine ⟨Nat.lt_succ_of_lt l, ?_⟩
      rw [at1 j l]
      exact (S2.ob j w q).2.mv ⟨Nat.le_succ _, at1, named_kp S2 z2⟩ rfl
  · rcases key i u e1 with ⟨rfl, rfl⟩ | ⟨l1, q1⟩
    · rcases key j w e2 with ⟨rfl, rfl⟩ | ⟨l2, q2⟩
      · rfl
      · rw [at0, at1 j l2] at e3
        exact absurd e3.symm (off j w q2)
    · rcases key j w e2 with ⟨rfl, rfl⟩ | ⟨l2, q2⟩
      · rw [at0, at1 i l1] at e3
        exact absurd e3 (off i u q1)
      · rw [at1 i l1, at1 j l2] at e3
        exact S2.inj i j u w q1 q2 e3
  · rcases key j w e with ⟨rfl, rfl⟩ | ⟨l, q⟩
    · rw [at0]; exact fun z => S.fresh n (.inr z)
    · rw [at1 j l]; exact fun z => S2.zn j w q (by rw [z2]; exact List.mem_cons_of_mem _ z)
  · exact S2.zh a (by rw [z2]; exact List.mem_cons_of_mem _ l)
/-- what was made at p is data -/
theorem done_data (S : HR K CA m1 h1 H1) (n : H1 p = none) {u : HO} (s : Sc p (m1.add p) h1 (upd H1 p u) m2 h2 H2) (S2 : HR K CA m2 h2 H2) : ¬ Live ⟨m2.f, m1.z⟩ h2 p := fun z => by
  have z2 : m2.z = p :: m1.z := s.z
  rcases z with ⟨k, o, e, q⟩ | z
  · exact S2.zn k o e (by rw [z2]; have q' : m2 k = p := q; rw [q']; exact List.mem_cons_self ..)
  · exact S.fresh n (.inr z)
theorem doneL {nm : Bool} {acc : List V} {ds : List D} {Q1 : VK} {mb : Mp} {hb : CH} {Hb : Hp} (sb : Stp mb hb Hb m1 h1 H1) (S : HR K CA m1 h1 H1) (n : H1 p = none) {u : HO} (s : Sc p (m1.add p) h1 (upd H1 p u) m2 h2 H2) (S2 : HR K CA m2 h2 H2) (e : H2 p = some (.lst acc)) (r : RpAll K CA m2 h2 H2 acc ds) {un : Unl}
    (uo : UnlOk K CA X.H_0 mb hb Hb m1 h1 H1 un) (t : PostE K CA W mb hb Hb σ Q1 ((mkL nm ds h2).unl un)) : UnlP X (Q1 (.ref p)) H2 := by
  have z2 : m2.z = p :: m1.z := s.z
  cases nm with
  | true =>
    obtain ⟨s3, S3⟩ := done_named (o := .lst ds) S n s S2 (.lst e (r.named S2 z2))
    refine unl_at sb uo s3 S3 fun H3 s4 S4 k => t _ _ H3 s4 S4 (k _ _ ?_)
    have := Rp.ref (K := K) (CA := CA) (m := mpNew ⟨m2.f, m1.z⟩ h2 p) (h := h2.new (.lst ds)) (H := H2) (k := h2.nx) (Nat.lt_succ_self _)
    rw [show (mpNew ⟨m2.f, m1.z⟩ h2 p) h2.nx = p from mpNew_nx] at this
    exact this
  | false => exact unl_at sb uo (stp_done S n s) (S2.done z2) fun H3 s4 S4 k => t _ _ H3 s4 S4 (k _ _ (.lst (done_data S n s S2) e (r.done z2)))
end
/-- a comprehension's walk: PostI from an expression's wish -/
theorem PostI.bindE {α β : Type} {RR : Mp → CH → Hp → β → α → Prop} {m : Mp} {h : CH} {H : Hp} {σ : L2.St} {H0 : Hp} {r : R (List D × Unl)} {k : List D × Unl → CH → R α} {Q2 : β → Hp → Prop} {R' : It → Hp → Prop} (q : PostG K CA W RR m h H σ Q2 (r.bind k))
    (f : ∀ w h1 m1 J H1, Stp m h H m1 h1 H1 → HR K CA m1 h1 H1 → Wk K CA m1 h1 H1 J w.1 → UnlOk K CA H0 m h H m1 h1 H1 w.2 → PostG K CA W RR m h H σ Q2 (k w h1) → R' J H1) : PostI K CA W H0 m h H σ R' r := by
  cases r with
  | ok w h1 => exact fun m1 J H1 s S1 wk uo => f w h1 m1 J H1 s S1 wk uo q
  | ex c fs h1 => exact q
  | no => exact q
abbrev tLcU (X : Cx) (wH : TI) (gH : TG) (hT : TT) (he : TE) (vs : List Nat) : TE := fun σ H Q => tLc wH gH hT he vs σ H fun v => UnlP X (Q v)
theorem sim_lc {nm : Bool} {gH : TG} {tg : TGD} {hT : TT} {tt : TB} {te : TD} {he : TE} {wH : TI} {ti : TDw} {vs sl : List Nat} (hi : SimI K CA W X.H_0 wH ti) (hg : SimG K CA sl gH tg) (ht : SimT K CA W0 hT tt) (hel : SimE K CA W0 he te) (ho : ∀ j, j ∈ sl → j ∈ vs) : SimE K CA W (tLcU X wH gH hT he vs) (dLc nm ti tg tt te vs) := by
  intro m h H σ ρ Q' S t
  refine hi m h H σ ρ _ S (PostI.bindE t fun w h1 m1 J H1 s1 S1 wk uo t1 => ?_)
  obtain ⟨hsz, t1⟩ := post_ite t1
  intro D0 n
  have S2 := S1.add (u := .lst []) n
  have SO2 : SO K CA (m1.add D0) h1 (upd H1 D0 (.lst [])) σ ρ := ⟨S2, S.len, fun i d e => let ⟨v, e1, q⟩ := (S.move s1 S1).sl i d e; ⟨v, e1, q.add n⟩⟩
  refine ⟨fun i k H' => k + i = w.1.length ∧ ∃ acc dacc m' h', Sc D0 (m1.add D0) h1 (upd H1 D0 (.lst [])) m' h' H' ∧ SO K CA m' h' H' σ ρ ∧ H' D0 = some (.lst acc) ∧ dacc.length ≤ i ∧ RpAll K CA m' h' H' acc dacc ∧ PostE K CA W m h H σ Q' (((dLcL tg tt te (wipeD ρ vs) (w.1.drop i) h').bind fun ys h => mkL nm (dacc ++ ys) h).unl w.2),
    ⟨w.1.length, rfl, [], [], m1.add D0, h1, Stp.sc .refl, SO2, upd_same, Nat.le_refl _, .nil, t1⟩, ?_⟩
  rintro i k H' ⟨hk, acc, dacc, m', h', st', S', eD, hl, ra, q'⟩
  have sz0 := sz_add (u := .lst []) S1 n
  cases hd : w.1[i]? with
  | none =>
    have hlen : w.1.length ≤ i := List.getElem?_eq_none_iff.mp hd
    obtain rfl : i = w.1.length := by omega
    rw [List.drop_length] at q'
    refine .inl ⟨wk.stop m' h' H' (sz0.trans st'.toSz) S'.hr, doneL (W := W) (σ := σ) (nm := nm) s1 S1 n st' S'.hr eD ra uo ?_⟩
    have q2 : PostE K CA W m h H σ Q' ((mkL nm (dacc ++ []) h').unl w.2) := q'
    rw [List.append_nil] at q2
    exact q2
  | some d =>
    obtain ⟨hlt, ed⟩ := List.getElem?_eq_some_iff.mp hd
    rw [List.drop_eq_getElem_cons hlt, ed] at q'
    obtain ⟨go, yl⟩ := wk.go i m' h' H' d (sz0.trans st'.toSz) S'.hr hd
    refine .inr ⟨go, fun H3 => ∃ acc dacc m' h', Sc D0 (m1.add D0) h1 (upd H1 D0 (.lst [])) m' h' H3 ∧ SO K CA m' h' H3 σ ρ ∧ H3 D0 = some (.lst acc) ∧ dacc.length ≤ i + 1 ∧ RpAll K CA m' h' H3 acc dacc ∧ PostE K CA W m h H σ Q' (((dLcL tg tt te (wipeD ρ vs) (w.1.drop (i + 1)) h').bind fun ys h => mkL nm (dacc ++ ys) h).unl w.2),
      fun H3 n3 => ⟨k - 1, by omega, by omega, n3⟩, fun x H2 y2 => ?_⟩
    obtain ⟨gr, r2⟩ := yl x H2 y2
    have a2 := stp_grow S'.hr gr
    have S3 := S'.move a2 (S'.hr.grow gr)
    have st3 := st'.trans (a2.sc (p := D0))
    have eD3 := gr _ _ eD
    have ra3 := ra.move a2
    have pz : D0 ∈ m'.z := by rw [st'.z]; exact List.mem_cons_self ..
    have wip : wipe (wipe σ vs) vs = wipe σ vs := wipe_eq (wipe_length _ _) fun j hj => wipe_at hj
    refine hg m' h' H2 (wipe σ vs) (wipeD ρ vs) x d _ (S3.wiped vs) r2 ?_
    unfold dLcL at q'
    cases eg : tg d (wipeD ρ vs) h' with
    | ex c fs h4 => rw [eg] at q'; exact q'.elim
    | no => rw [eg] at q'; exact q'.elim
    | ok ρ2 h4 =>
      rw [eg] at q'
      intro m4 σ4 H4 s4 S4 hl4 hn4
      refine ⟨(wipe_eq hl4 fun j hj => hn4 j fun z => hj (ho j z)).trans wip, ht m4 h4 H4 σ4 ρ2 _ S4 ?_⟩
      have eD4 := (s4.zk D0 pz).trans eD3
      have ra4 := ra3.move s4
      have S4' := S3.move s4 S4.hr
      have pz4 : D0 ∈ m4.z := by rw [s4.z]; exact pz
      replace q' : PostE K CA W m h H σ Q' ((((tt ρ2 h4).calm fun b h => if b = true then (te ρ2 h).calm fun y h => (dLcL tg tt te (wipeD ρ vs) (w.1.drop (i + 1)) h).bind fun ys h => .ok (y :: ys) h else dLcL tg tt te (wipeD ρ vs) (w.1.drop (i + 1)) h).bind fun ys h => mkL nm (dacc ++ ys) h).unl w.2) := q'
      cases et : tt ρ2 h4 with
      | ex c fs h5 => rw [et] at q'; exact q'.elim
      | no => rw [et] at q'; exact q'.elim
      | ok b h5 =>
        rw [et] at q'
        intro m5 b' H5 s5 S5 eb
        cases (show b' = b from eb)
        have eD5 := (s5.zk D0 pz4).trans eD4
        have ra5 := ra4.move s5
        have S5' := S4'.move s5 S5
        have pz5 : D0 ∈ m5.z := by rw [s5.z]; exact pz4
        have st5 := (st3.trans (s4.sc (p := D0))).trans (s5.sc (p := D0))
        cases b with
        | false => exact ⟨acc, dacc, m5, h5, st5, S5', eD5, Nat.le_succ_of_le hl, ra5, q'⟩
        | true =>
          refine hel m5 h5 H5 σ4 ρ2 _ (S4.move s5 S5) ?_
          replace q' : PostE K CA W m h H σ Q' ((((te ρ2 h5).calm fun y h => (dLcL tg tt te (wipeD ρ vs) (w.1.drop (i + 1)) h).bind fun ys h => .ok (y :: ys) h).bind fun ys h => mkL nm (dacc ++ ys) h).unl w.2) := q'
          cases ee : te ρ2 h5 with
          | ex c fs h6 => rw [ee] at q'; exact q'.elim
          | no => rw [ee] at q'; exact q'.elim
          | ok y h6 =>
            rw [ee] at q'
            intro m6 v6 H6 s6 S6 r6
            have eD6 := (s6.zk D0 pz5).trans eD5
            have pz6 : D0 ∈ m6.z := by rw [s6.z]; exact pz5
            have ra6 := (ra5.move s6).append (.cons r6 .nil)
            have S6' := S5'.move s6 S6
            have sm := sc_made (u := .lst (acc ++ [v6])) S6 pz6
            refine ⟨acc, eD6, by rw [ra.length]; omega, acc ++ [v6], dacc ++ [y], m6, h6, (st5.trans (s6.sc (p := D0))).trans sm, ⟨S6.made pz6, S6'.len, fun j dj ej => ?_⟩, upd_same, by simp; exact hl, ra6.mv sm.toMv, ?_⟩
            · obtain ⟨vj, e1, q⟩ := S6'.sl j dj ej
              exact ⟨vj, e1, q.mv sm.toMv⟩
            · have e3 : ∀ r : R (List D), (r.bind fun ys h => R.ok (y :: ys) h).bind (fun ys h => mkL nm (dacc ++ ys) h) = r.bind fun ys h => mkL nm ((dacc ++ [y]) ++ ys) h := fun r => by
                cases r with
                | ok ys h7 => show mkL nm (dacc ++ (y :: ys)) h7 = mkL nm ((dacc ++ [y]) ++ ys) h7; rw [List.append_assoc]; rfl
                | ex c fs h7 => rfl
                | no => rfl
              rw [← e3]
              exact q'
structure WTs (X : Cx) (K : PySem.W.Frag) (CA : CAs) (W : WX) (ifs : List Expr) (tH : TT) (t : TB) : Prop where
  pe : PTs X ifs tH
  sim : SimT K CA W tH t
theorem wts_nil : WTs X K CA W [] L2.tYes dYes := ⟨pts_nil, fun m h H σ ρ Q' S t => t.here S.hr rfl⟩
theorem wts_one {c : Expr} {hB : TT} {tB : TB} (h : WT X K CA W c hB tB) : WTs X K CA W [c] hB tB := ⟨pts_one h.pe, h.sim⟩
section
variable {elt kx vx : Expr} {ifs : List Expr} {pos : Pos} {gH : TG} {tg : TGD} {hT : TT} {tt : TB} {he hk hv : TE} {te tk tv : TD} {wH : TI} {ti : TDw} {st : Stmt}
theorem we_lc (nm : Bool) {scope : Scope} {own : List (Str × Nat)} {sl : List Nat} (hc : X.calm = true) (hN : X.N.Nodup) (hi : WI X K CA W tge iter wH ti) (ok : BlkOk X.N X.env.scope scope own)
    (hg : ∀ (s : Shared) (H : Hp) (C : Addr) (cl : List (Str × Addr)) (fp : List Addr), WG (X.blk s H scope (compEnvC scope cl C X.env) fp) K CA tge sl gH tg)
    (ht : ∀ (s : Shared) (H : Hp) (C : Addr) (cl : List (Str × Addr)) (fp : List Addr), WTs (X.blk s H scope (compEnvC scope cl C X.env) fp) K CA W0 ifs hT tt)
    (hel : ∀ (s : Shared) (H : Hp) (C : Addr) (cl : List (Str × Addr)) (fp : List Addr), WE (X.blk s H scope (compEnvC scope cl C X.env) fp) K CA W0 elt he te)
    (ho : ∀ j, j ∈ sl → j ∈ own.map (·.2)) (hs : ∀ x, foldedSetIterable iter X.env x = pure x := by intro _; rfl) : WE X K CA W (.ListComp elt [⟨tge, iter, ifs, 0⟩] scope pos) (tLcU X wH gH hT he (own.map (·.2))) (dLc nm ti tg tt te (own.map (·.2))) :=
  ⟨pe_unl (pe_lc hc hN hi.pe ok (fun s H C cl fp => (hg s H C cl fp).pe) (fun s H C cl fp => (ht s H C cl fp).pe) (fun s H C cl fp => (hel s H C cl fp).pe) hs), sim_lc hi.sim (hg X.s_0 X.H_0 0 [] []).sim (ht X.s_0 X.H_0 0 [] []).sim (hel X.s_0 X.H_0 0 [] []).sim ho⟩
/-- name = [..] -/
theorem ws_setLc (nm : Bool) {i : Nat} {y : Str} {py spos : Pos} {scope : Scope} {own : List (Str × Nat)} {sl : List Nat} (hc : X.calm = true) (hN : X.N.Nodup) (hy : X.N[i]? = some y) (hyl : X.env.scope.names.lookup y = some .local)
    (hi : WI X K CA W tge iter wH ti) (ok : BlkOk X.N X.env.scope scope own)
    (hg : ∀ (s : Shared) (H : Hp) (C : Addr) (cl : List (Str × Addr)) (fp : List Addr), WG (X.blk s H scope (compEnvC scope cl C X.env) fp) K CA tge sl gH tg)
    (ht : ∀ (s : Shared) (H : Hp) (C : Addr) (cl : List (Str × Addr)) (fp : List Addr), WTs (X.blk s H scope (compEnvC scope cl C X.env) fp) K CA W0 ifs hT tt)
    (hel : ∀ (s : Shared) (H : Hp) (C : Addr) (cl : List (Str × Addr)) (fp : List Addr), WE (X.blk s H scope (compEnvC scope cl C X.env) fp) K CA W0 elt he te)
    (ho : ∀ j, j ∈ sl → j ∈ own.map (·.2)) (hsw : swapsWith (.ListComp elt [⟨tge, iter, ifs, 0⟩] scope pos) (some (.Name y py)) spos.line X.env = pure true := by rfl) (hs : ∀ x, foldedSetIterable iter X.env x = pure x := by intro _; rfl) :
    WS X K CA W (.Assign [.Name y py] (.ListComp elt [⟨tge, iter, ifs, 0⟩] scope pos) spos) (fun D σ H => tAsg (tLc wH gH hT he (own.map (·.2))) (gName i) (unlE X D) σ H) (dAsg (dLc nm ti tg tt te (own.map (·.2))) (gdName i)) :=
  ⟨ps_unl (ps_setLc hc hN hy hyl hsw hi.pe ok (fun s H C cl fp => (hg s H C cl fp).pe) (fun s H C cl fp => (ht s H C cl fp).pe) (fun s H C cl fp => (hel s H C cl fp).pe) hs),
    sim_asg (sim_lc hi.sim (hg X.s_0 X.H_0 0 [] []).sim (ht X.s_0 X.H_0 0 [] []).sim (hel X.s_0 X.H_0 0 [] []).sim ho) sim_gName⟩
end
end
end CM
namespace CM
open PySem PySem.Spec PyProof.Rows L2
section
variable {K : PySem.W.Frag} {CA : CAs} {W : WX} {m : Mp} {h : CH} {H : Hp} {σ : L2.St} {Q' : VK} {k : Nat} {o o' : MO} {u : HO} {d : D} {v : V}
theorem PostG.put (t : PostE K CA W m h H σ Q' (.ok d (h.put k o'))) (S : HR K CA m h H) (e : h.ob k = some o) (nl : NotLck o) (x : MOk K CA m (h.put k o') (upd H (m k) u) (m k) o') (r : Rp K CA m h H v d) : Q' v (upd H (m k) u) :=
  t m v _ (stp_put S e nl) (S.put e x) (r.move (stp_put S e nl))
theorem rp_ref (r : Rp K CA m h H v (.ref k)) : v = .ref (m k) := by cases r; rfl
theorem mo_lst {ds : List D} (S : HR K CA m h H) (e : h.ob k = some (.lst ds)) : ∃ xs, H (m k) = some (.lst xs) ∧ RpAll K CA m h H xs ds := by
  have x := (S.ob k _ e).2
  cases x with
  | lst q r => exact ⟨_, q, r⟩
theorem mo_dct {ds : List (Key × D)} (S : HR K CA m h H) (e : h.ob k = some (.dct ds)) : ∃ xs, H (m k) = some (.dK xs) ∧ xs.map (·.1) = ds.map (·.1) ∧ RpAll K CA m h H (xs.map (·.2)) (ds.map (·.2)) := by
  have x := (S.ob k _ e).2
  cases x with
  | dct q en r => exact ⟨_, q, en, r⟩
theorem mo_obj {c : Nat} {ds : List (Str × D)} (S : HR K CA m h H) (e : h.ob k = some (.obj c ds)) : ∃ dx xs, H (m k) = some (.ins (CA c) dx xs) ∧ xs.map (·.1) = ds.map (·.1) ∧ RpAll K CA m h H (xs.map (·.2)) (ds.map (·.2)) := by
  have x := (S.ob k _ e).2
  cases x with
  | obj q en r => exact ⟨_, _, q, en, r⟩
end
abbrev FM := D → List D → CH → R D
def isTy (T : String) (x : D) (h : CH) : Bool := match T with
  | "list" => (lstOf h x).isSome
  | "dict" => match x with
    | .ref k => match h.ob k with
      | some (.dct _) => true
      | _ => false
    | _ => false
  | "str" => match x with
    | .str _ => true
    | _ => false
  | _ => false
def dBM (T : String) (f : FM) (to : TD) (ts : TDs) : TD := fun ρ h => (to ρ h).bind fun x h => if isTy T x h = true then (ts ρ h).bind fun xs h => f x xs h else .no
def dBM0 (T : String) (f : FM) (to : TD) : TD := fun ρ h => (to ρ h).bind fun x h => if isTy T x h = true then f x [] h else .no
def SimM (K : PySem.W.Frag) (CA : CAs) (r : V → List V → Hp → VK → Prop) (f : FM) : Prop := ∀ (W : WX) (σ : L2.St) (m : Mp) (h : CH) (H : Hp) (x : V) (dx : D) (xs : List V) (ds : List D) (Q' : VK), HR K CA m h H → Rp K CA m h H x dx → RpAll K CA m h H xs ds → PostE K CA W m h H σ Q' (f dx ds h) → r x xs H Q'
section
variable {X : Cx} {K : PySem.W.Frag} {CA : CAs} {W : WX} {m : Mp} {h : CH} {H : Hp} {e o : Expr} {es : List Expr} {T : String} {r : V → List V → Hp → VK → Prop} {f : FM} {ha : TE} {ta : TD} {hs : TA} {ts : TDs}
theorem isTy_ok {x : V} {d : D} (S : HR K CA m h H) (r : Rp K CA m h H x d) (t : isTy T d h = true) : tyV K T x H := by
  unfold isTy at t
  split at t
  · obtain ⟨ds, e⟩ := Option.isSome_iff_exists.mp t
    obtain ⟨a, xs, rfl, e1, _⟩ := rp_lst S r e
    exact .inl ⟨rfl, xs, .of e1⟩
  · split at t
    · split at t
      · rename_i e
        obtain ⟨xs, q, _⟩ := mo_dct S e
        cases r
        exact .inr (.inr (.inl ⟨rfl, .inl ⟨_, q⟩⟩))
      · cases t
    · cases t
  · split at t
    · cases r; rfl
    · cases t
  · cases t
theorem we_bm (s : SimM K CA r f) (x : WE X K CA W o ha ta) (y : WA X K CA W es hs ts) (hp : PE X o ha → PA X es hs → PE X e (tBM K T r ha hs)) : WE X K CA W e (tBM K T r ha hs) (dBM T f ta ts) :=
  ⟨hp x.pe y.pe, fun m h H σ ρ Q' S t => x.sim m h H σ ρ _ S (t.bind fun d h1 m1 v H1 s1 S1 r1 t1 => by
    obtain ⟨c, t1⟩ := post_ite t1
    exact ⟨isTy_ok S1 r1 c, y.sim m1 h1 H1 σ ρ _ (S.move s1 S1) (t1.bind fun ds h2 m2 vs H2 s2 S2 r2 t2 => s W σ m2 h2 H2 v d vs ds Q' S2 (r1.move s2) r2 t2)⟩)⟩
end
def fAppend : FM := fun x xs h => match x, xs with
  | .ref k, [y] => match h.ob k with
    | some (.lst ds) => if ds.length < sizeLine then .ok .non (h.put k (.lst (ds ++ [y]))) else .no
    | _ => .no
  | _, _ => .no
def fPopAt : FM := fun x xs h => match x, xs with
  | .ref k, [.int i] => match h.ob k with
    | some (.lst ds) => if -(2 ^ 63) ≤ i ∧ i < 2 ^ 63 then (match seqIndex? i ds.length with
      | some j => (match ds[j]? with
        | some y => .ok y (h.put k (.lst (ds.eraseIdx j)))
        | none => .no)
      | none => .no) else .no
    | _ => .no
  | _, _ => .no
section
variable {K : PySem.W.Frag} {CA : CAs}
theorem sim_append : SimM K CA rAppend fAppend := by
  intro W σ m h H x dx xs ds Q' S rx rs t
  unfold fAppend at t
  split at t
  · split at t
    · rename_i e
      obtain ⟨l, t⟩ := post_ite t
      obtain ⟨ys, q, r⟩ := mo_lst S e
      cases rs with
      | @cons v _ _ _ r1 r2 =>
        cases r2
        exact ⟨_, ys, v, rp_ref rx, rfl, q, by rw [r.length]; exact l, t.put S e trivial (.lst upd_same ((r.append (.cons r1 .nil)).mv (mv_put e))) .non⟩
    · exact t.elim
  · exact t.elim
theorem sim_popAt : SimM K CA rPopAt fPopAt := by
  intro W σ m h H x dx xs ds Q' S rx rs t
  unfold fPopAt at t
  split at t
  · split at t
    · rename_i e
      obtain ⟨⟨l1, l2⟩, t⟩ := post_ite t
      obtain ⟨ys, q, r⟩ := mo_lst S e
      cases rs with
      | cons r1 r2 =>
        cases r2
        cases r1
        split at t
        · rename_i j ej
          split at t
          · rename_i ey
            obtain ⟨v, ev, rv⟩ := r.getD ey
            exact ⟨_, ys, _, j, v, rp_ref rx, rfl, q, l1, l2, by rw [r.length]; exact ej, ev, t.put S e trivial (.lst upd_same ((r.eraseIdx _).mv (mv_put e))) rv⟩
          · exact t.elim
        · exact t.elim
    · exact t.elim
  · exact t.elim
end
def dGet2 (td tk tx : TD) : TD := fun ρ h => (td ρ h).bind fun x h => if (dctOf h x).isSome = true then (tk ρ h).bind fun y h => (tx ρ h).bind fun z h => match dctOf h x, keyD y with
  | some kvs, some k => .ok ((dGet kvs k).getD z) h
  | _, _ => .no
  else .no
def refOf : D → Option Nat
  | .ref r => some r
  | _ => none
theorem refOf_eq {d : D} {r : Nat} (e : refOf d = some r) : d = .ref r := by cases d <;> first | (cases e; rfl) | cases e
section
variable {X : Cx} {K : PySem.W.Frag} {CA : CAs} {W : WX} {m : Mp} {h : CH} {H : Hp} {e o : Expr} {ha hk hx : TE} {ta tk tx : TD} {st : Stmt} {a b : Expr}
theorem isD_of {x : V} {d : D} (S : HR K CA m h H) (r : Rp K CA m h H x d) (c : (dctOf h d).isSome = true) : ∃ a, x = .ref a ∧ IsD H a := by
  obtain ⟨kvs, e⟩ := Option.isSome_iff_exists.mp c
  obtain ⟨a, o, hk, rfl, e1, c, en, r⟩ := rp_dct S r e
  refine ⟨a, rfl, .inl ⟨hk, ?_⟩⟩
  rcases core_dK c with rfl | ⟨ob, rfl⟩
  · exact .inl e1
  · exact .inr ⟨ob, e1⟩
theorem get_rel {x y : V} {d e : D} {kvs : List (Key × D)} {k : Key} (S : HR K CA m h H) (rx : Rp K CA m h H x d) (ry : Rp K CA m h H y e) (ed : dctOf h d = some kvs) (ek : keyD e = some k) : ∃ a o, x = .ref a ∧ DGet H a y o ∧ ((∃ v z, o = some v ∧ dGet kvs k = some z ∧ Rp K CA m h H v z) ∨ (o = none ∧ dGet kvs k = none)) := by
  obtain ⟨a, o, hk, rfl, e1, c, en, r⟩ := rp_dct S rx ed
  have ey := rp_key ry ek
  subst ey
  refine ⟨a, valV hk k, rfl, dget_core e1 c, ?_⟩
  rcases rp_dget (k := k) en r with ⟨v, z, h1, h2, h3⟩ | ⟨h1, h2⟩
  · exact .inl ⟨v, z, h1, h2, h3⟩
  · exact .inr ⟨h1, h2⟩
theorem we_get2 (x : WE X K CA W o ha ta) (y : WE X K CA W a hk tk) (z : WE X K CA W b hx tx) (hp : PE X o ha → PE X a hk → PE X b hx → PE X e (tDGet2 ha hk hx)) : WE X K CA W e (tDGet2 ha hk hx) (dGet2 ta tk tx) :=
  ⟨hp x.pe y.pe z.pe, fun m h H σ ρ Q' S t => x.sim m h H σ ρ _ S (t.bind fun d h1 m1 v H1 s1 S1 r1 t1 => by
    obtain ⟨c, t1⟩ := post_ite t1
    obtain ⟨a0, rfl, isd⟩ := isD_of S1 r1 c
    refine ⟨a0, rfl, isd, y.sim m1 h1 H1 σ ρ _ (S.move s1 S1) (t1.bind fun e2 h2 m2 w H2 s2 S2 r2 t2 => ?_)⟩
    refine z.sim m2 h2 H2 σ ρ _ ((S.move s1 S1).move s2 S2) (t2.bind fun e3 h3 m3 w3 H3 s3 S3 r3 t3 => ?_)
    split at t3
    · rename_i kvs k ed ek
      obtain ⟨a', o', q1, q2, q3⟩ := get_rel S3 ((r1.move s2).move s3) (r2.move s3) ed ek
      cases q1
      refine ⟨o', q2, ?_⟩
      rcases q3 with ⟨v, z, rfl, ez, rv⟩ | ⟨rfl, ez⟩
      · rw [ez] at t3; exact t3.here S3 rv
      · rw [ez] at t3; exact t3.here S3 r3
    · exact t3.elim)⟩
end
def dPairs : List (TD × TD) → DE → CH → R (List (D × D))
  | [], _, h => .ok [] h
  | (tk, tv) :: r, ρ, h => (tk ρ h).bind fun x h => (tv ρ h).bind fun y h => (dPairs r ρ h).bind fun ps h => .ok ((x, y) :: ps) h
def keysOf : List (D × D) → Option (List (Key × D))
  | [] => some []
  | (x, y) :: r => match keyD x, keysOf r with
    | some k, some ks => some ((k, y) :: ks)
    | _, _ => none
def mergeD (kvs more : List (Key × D)) : List (Key × D) := more.foldl (fun acc kv => dPut acc kv.1 kv.2) kvs
def dDisp (nm : Bool) (ts : List (TD × TD)) : TD := fun ρ h => (dPairs ts ρ h).bind fun ps h => match keysOf ps with
  | some kvs => if kvs.length ≤ 15 then mkD nm (mergeD [] kvs) h else .no
  | none => .no
def dDNew (nm : Bool) : TD := fun _ h => mkD nm [] h
def RPs (K : PySem.W.Frag) (CA : CAs) : Mp → CH → Hp → List (V × V) → List (D × D) → Prop := fun m h H ps qs => RpAll K CA m h H (ps.map (·.1)) (qs.map (·.1)) ∧ RpAll K CA m h H (ps.map (·.2)) (qs.map (·.2))
def SimP (K : PySem.W.Frag) (CA : CAs) (W : WX) (trs : List (TE × TE)) (ts : List (TD × TD)) : Prop := ∀ (m : Mp) (h : CH) (H : Hp) (σ : L2.St) (ρ : DE) (Q' : List (V × V) → Hp → Prop), SO K CA m h H σ ρ → PostG K CA W (RPs K CA) m h H σ Q' (dPairs ts ρ h) → tPairs trs σ H Q'
structure WP (X : Cx) (K : PySem.W.Frag) (CA : CAs) (W : WX) (pos : Pos) (keys : List (Option Expr)) (values : List Expr) (trs : List (TE × TE)) (ts : List (TD × TD)) : Prop where
  pe : PPs X pos keys values trs
  sim : SimP K CA W trs ts
section
variable {X : Cx} {K : PySem.W.Frag} {CA : CAs} {W : WX} {m : Mp} {h : CH} {H : Hp} {a b : Expr} {hk hv : TE} {tk tv : TD} {pos : Pos}
theorem wp_nil : WP X K CA W pos [] [] [] [] := ⟨pps_nil, fun m h H σ ρ Q' S t => t.here S.hr ⟨.nil, .nil⟩⟩
theorem wp_cons {ks : List (Option Expr)} {vs : List Expr} {trs : List (TE × TE)} {ts : List (TD × TD)} (x : WE X K CA W a hk tk) (y : WE X K CA W b hv tv) (z : WP X K CA W pos ks vs trs ts) : WP X K CA W pos (some a :: ks) (b :: vs) ((hk, hv) :: trs) ((tk, tv) :: ts) :=
  ⟨pps_cons x.pe y.pe z.pe, fun m h H σ ρ Q' S t => x.sim m h H σ ρ _ S (t.bind fun d1 h1 m1 v1 H1 s1 S1 r1 t1 => y.sim m1 h1 H1 σ ρ _ (S.move s1 S1) (t1.bind fun d2 h2 m2 v2 H2 s2 S2 r2 t2 =>
    z.sim m2 h2 H2 σ ρ _ ((S.move s1 S1).move s2 S2) (t2.bind fun qs h3 m3 ps H3 s3 S3 r3 t3 => t3.here S3 ⟨.cons ((r1.move s2).move s3) r3.1, .cons (r2.move s3) r3.2⟩)))⟩
theorem keys_rel : ∀ (ps : List (V × V)) (qs : List (D × D)) (ks : List (Key × D)), RpAll K CA m h H (ps.map (·.1)) (qs.map (·.1)) → RpAll K CA m h H (ps.map (·.2)) (qs.map (·.2)) → keysOf qs = some ks →
    ∃ kvs : List (Key × V), ps = kvs.map (fun kv => (kV kv.1, kv.2)) ∧ kvs.map (·.1) = ks.map (·.1) ∧ RpAll K CA m h H (kvs.map (·.2)) (ks.map (·.2))
  | [], [], ks, _, _, h => by cases h; exact ⟨[], rfl, rfl, .nil⟩
  | [], _ :: _, _, h, _, _ => by cases h
  | _ :: _, [], _, h, _, _ => by cases h
  | (x, y) :: ps, (d1, d2) :: qs, ks, h1, h2, h => by
    cases h1 with
    | cons a1 b1 =>
      cases h2 with
      | cons a2 b2 =>
        simp only [keysOf] at h
        cases hk : keyD d1 with
        | none => rw [hk] at h; cases h
        | some k =>
          cases hr : keysOf qs with
          | none => rw [hk, hr] at h; cases h
          | some r =>
            rw [hk, hr] at h
            cases h
            obtain ⟨kvs, e1, e2, e3⟩ := keys_rel ps qs r b1 b2 hr
            exact ⟨(k, y) :: kvs, by rw [List.map_cons, ← e1]; have ek : x = kV k := rp_key a1 hk; rw [ek], by rw [List.map_cons, List.map_cons, e2], .cons a2 e3⟩
theorem merge_rel : ∀ (more : List (Key × V)) (dmore : List (Key × D)) (kvs : List (Key × V)) (ds : List (Key × D)), more.map (·.1) = dmore.map (·.1) → RpAll K CA m h H (more.map (·.2)) (dmore.map (·.2)) → kvs.map (·.1) = ds.map (·.1) → RpAll K CA m h H (kvs.map (·.2)) (ds.map (·.2)) →
    (mergeK kvs more).map (·.1) = (mergeD ds dmore).map (·.1) ∧ RpAll K CA m h H ((mergeK kvs more).map (·.2)) ((mergeD ds dmore).map (·.2))
  | [], [], kvs, ds, _, _, e, r => ⟨e, r⟩
  | [], _ :: _, _, _, h, _, _, _ => by simp at h
  | _ :: _, [], _, _, h, _, _, _ => by simp at h
  | (k, y) :: more, (k', d) :: dmore, kvs, ds, h, h', e, r => by
    simp only [List.map_cons, List.cons.injEq] at h
    obtain ⟨rfl, h⟩ := h
    cases h' with
    | cons a b =>
      obtain ⟨e2, r2⟩ := rp_dput (k := k) e r a
      exact merge_rel more dmore _ _ h b e2 r2
theorem doneD0 {σ : L2.St} {m1 m2 : Mp} {h1 h2 : CH} {H1 H2 : Hp} {p : Addr} {nm : Bool} {acc : List (Key × V)} {ds : List (Key × D)} {Q1 : VK} {mb : Mp} {hb : CH} {Hb : Hp} (sb : Stp mb hb Hb m1 h1 H1) (S : HR K CA m1 h1 H1) (n : H1 p = none) {u : HO} (s : Sc p (m1.add p) h1 (upd H1 p u) m2 h2 H2) (S2 : HR K CA m2 h2 H2) (e : H2 p = some (.dK acc)) (en : acc.map (·.1) = ds.map (·.1)) (r : RpAll K CA m2 h2 H2 (acc.map (·.2)) (ds.map (·.2)))
    (t : PostE K CA W mb hb Hb σ Q1 (mkD nm ds h2)) : Q1 (.ref p) H2 := by
  have z2 : m2.z = p :: m1.z := s.z
  cases nm with
  | true =>
    obtain ⟨s3, S3⟩ := done_named (o := .dct ds) S n s S2 (.dct e en (r.named S2 z2))
    refine t _ _ H2 (sb.trans s3) S3 ?_
    have := Rp.ref (K := K) (CA := CA) (m := mpNew ⟨m2.f, m1.z⟩ h2 p) (h := h2.new (.dct ds)) (H := H2) (k := h2.nx) (Nat.lt_succ_self _)
    rw [show (mpNew ⟨m2.f, m1.z⟩ h2 p) h2.nx = p from mpNew_nx] at this
    exact this
  | false => exact t _ _ H2 (sb.trans (stp_done S n s)) (S2.done z2) (.dct (done_data S n s S2) e rfl en (r.done z2))
theorem we_dnew (nm : Bool) : WE X K CA W (.Dict [] [] pos) tDNewK (dDNew nm) := ⟨pe_dnewK, fun m h H σ ρ Q' S t p n => mkD_post S.hr n rfl .nil t⟩
/-- the dict p is made meanwhile -/
theorem we_disp (nm : Bool) {ks : List (Option Expr)} {vs : List Expr} {trs : List (TE × TE)} {ts : List (TD × TD)} (x : WP X K CA W pos ks vs trs ts) (hall : ks.all (·.isSome) = true) (hl : ks.length = vs.length) (h0 : ks ≠ []) (h15 : ks.length ≤ 15) : WE X K CA W (.Dict ks vs pos) (tDisp trs) (dDisp nm ts) := by
  refine ⟨pe_disp x.pe hall hl h0 h15, fun m hh H σ ρ Q' S t p n => ?_⟩
  have S2 := S.hr.add (u := .dK []) n
  have SO2 : SO K CA (m.add p) hh (upd H p (.dK [])) σ ρ := ⟨S2, S.len, fun i d e => let ⟨v, e1, q⟩ := S.sl i d e; ⟨v, e1, q.add n⟩⟩
  have pz : p ∈ (m.add p).z := List.mem_cons_self ..
  refine x.sim (m.add p) hh _ σ ρ _ SO2 ?_
  unfold dDisp at t
  cases ep : dPairs ts ρ hh with
  | no => rw [ep] at t; exact t.elim
  | ex c fs h1 =>
    rw [ep] at t
    intro m1 cls dd H1 s1 S1 xr
    have z2 : m1.z = p :: m.z := s1.z
    refine t ⟨m1.f, m.z⟩ cls dd H1 (stp_done S.hr n s1.sc) (S1.done z2) ?_
    obtain ⟨x1, x2⟩ := xr
    refine ⟨x1, x2.imp id ?_⟩
    rintro ⟨y, hf, e1, e2, e3, e4, e5⟩
    exact ⟨y, hf, e1, (Mp.done_kp z2 y _ e2 e3 trivial).1, e3, e4, e5.done z2⟩
  | ok qs h1 =>
    rw [ep] at t
    intro m1 ps H1 s1 S1 rr
    replace t : PostE K CA W m hh H σ Q' (match keysOf qs with
      | some kvs => if kvs.length ≤ 15 then mkD nm (mergeD [] kvs) h1 else .no
      | none => .no) := t
    cases ek : keysOf qs with
    | none => rw [ek] at t; exact t.elim
    | some kvs =>
      rw [ek] at t
      obtain ⟨l, t⟩ := post_ite t
      obtain ⟨hkv, e1, e2, e3⟩ := keys_rel ps qs kvs rr.1 rr.2 ek
      have pz1 : p ∈ m1.z := by rw [s1.z]; exact pz
      obtain ⟨m3, m4⟩ := merge_rel hkv kvs [] [] e2 e3 rfl .nil
      refine ⟨(s1.zk p pz).trans upd_same, hkv, e1, by rw [len_of e2]; exact l, ?_⟩
      have sm := sc_made (u := .dK (mergeK [] hkv)) S1 pz1
      exact doneD0 .refl S.hr n (s1.sc.trans sm) (S1.made pz1) upd_same m3 (m4.mv sm.toMv) t
end
end CM
namespace CM
open PySem PySem.Spec PyProof.Rows L2
/-- an object's class and fields -/
def objOf (h : CH) : D → Option (Nat × List (Str × D))
  | .obj c fs => some (c, fs)
  | .ref k => match h.ob k with
    | some (.obj c fs) => some (c, fs)
    | _ => none
  | _ => none
/-- classes whose instances' attribute f is a field -/
def FldOf (K : PySem.W.Frag) (CA : CAs) (cs : List Nat) (f : Str) : Prop := ∀ c, c ∈ cs → Cls K (CA c) ∧ NoAttr K (CA c) f
theorem FldOf.one {K : PySem.W.Frag} {CA : CAs} {c : Nat} {f : Str} (h1 : Cls K (CA c)) (h2 : NoAttr K (CA c) f) : FldOf K CA [c] f := fun x hx => by
  rw [List.mem_singleton] at hx
  subst hx
  exact ⟨h1, h2⟩
theorem FldOf.cons {K : PySem.W.Frag} {CA : CAs} {c : Nat} {cs : List Nat} {f : Str} (h1 : Cls K (CA c)) (h2 : NoAttr K (CA c) f) (h3 : FldOf K CA cs f) : FldOf K CA (c :: cs) f := fun x hx => by
  rcases List.mem_cons.mp hx with rfl | hx
  · exact ⟨h1, h2⟩
  · exact h3 x hx
section
variable {X : Cx} {K : PySem.W.Frag} {CA : CAs} {W : WX} {m : Mp} {h : CH} {H : Hp} {e o i : Expr} {ha hi : TE} {ta ti : TD} {pos : Pos} {f : Str} {cs : List Nat}
theorem rp_look {d : D} : ∀ {fs : List (Str × V)} {dfs : List (Str × D)}, fs.map (·.1) = dfs.map (·.1) → RpAll K CA m h H (fs.map (·.2)) (dfs.map (·.2)) → dfs.lookup f = some d → ∃ v, fs.lookup f = some v ∧ Rp K CA m h H v d
  | [], [], _, _, h => by cases h
  | [], _ :: _, e, _, _ => by simp at e
  | _ :: _, [], e, _, _ => by simp at e
  | (g, v) :: fs, (g', d') :: dfs, e, r, h => by
    simp only [List.map_cons, List.cons.injEq] at e
    obtain ⟨rfl, e⟩ := e
    cases r with
    | cons r1 r2 =>
      rw [List.lookup_cons] at h ⊢
      cases q : f == g with
      | true => rw [q] at h; simp only [Option.some.injEq] at h; subst h; exact ⟨v, rfl, r1⟩
      | false => rw [q] at h; exact rp_look e r2 h
theorem PostT'.calm {α β : Type} {RR : Mp → CH → Hp → β → α → Prop} {Q1 : β → Hp → Prop} {σ : L2.St} {sl : List Nat} {Q' : L2.St → Hp → Prop} {r : R α} {k : α → CH → R DE} (q : PostT' K CA m h H σ sl Q' (r.calm k))
    (g : ∀ a h1 m1 b H1, Stp m h H m1 h1 H1 → HR K CA m1 h1 H1 → RR m1 h1 H1 b a → PostT' K CA m1 h1 H1 σ sl Q' (k a h1) → Q1 b H1) : PostG K CA W RR m h H σ Q1 r := by
  cases r with
  | ok a h1 => exact fun m1 b H1 s S rr => g a h1 m1 b H1 s S rr (PostT'.mono (show PostT' K CA m h H σ sl Q' (k a h1) from q) s rfl (fun _ _ => rfl) fun _ z => z)
  | ex c fs h1 => exact q.elim
  | no => exact q.elim
/-- o[i] = v: a list, a dict -/
def rSetU : V → V → V → Hp → (Hp → Prop) → Prop := fun o i v H Q => rSetL o i v H Q ∨ ∃ a H', o = .ref a ∧ DPut H a i v H' ∧ Q H'
theorem set_U (hu : X.A.units + 1 < cLine) : PSet X rSetU := by
  intro pins s σ H o i v ov iv u Q I ro ri rv hq
  rcases hq with hq | ⟨a, H', rfl, dp, q⟩
  · exact set_list pins s σ H o i v ov iv u Q I ro ri rv hq
  · obtain rfl : ov = Value.ref a := ro
    exact d_setItem hu I dp ri rv fun s4 I4 => ⟨H', I4, q⟩
def gdSub (to ti : TD) : TGD := fun d ρ h => (to ρ h).calm fun x h => (ti ρ h).calm fun y h => match refOf x with
  | some k => match h.ob k with
    | some (.lst ds) => (match y with
      | .int i => (match ixN ds.length i with
        | some j => .ok ρ (h.put k (.lst (ds.set j d)))
        | none => .no)
      | _ => .no)
    | some (.dct kvs) => (match keyD y with
      | some key => if kvs.length < sizeLine then .ok ρ (h.put k (.dct (dPut kvs key d))) else .no
      | none => .no)
    | _ => .no
  | none => .no
theorem wg_sub (hu : X.A.units + 1 < cLine) (x : WE X K CA W o ha ta) (y : WE X K CA W i hi ti) (hp : PE X o ha → PE X i hi → PSet X rSetU → PG X e (gSub ha hi rSetU)) : WG X K CA e [] (gSub ha hi rSetU) (gdSub ta ti) := by
  refine ⟨hp x.pe y.pe (set_U hu), fun m hh H σ ρ v d Q' S r q => x.sim m hh H σ ρ _ S (PostT'.calm q fun a h1 m1 w H1 s1 S1 r1 q1 => y.sim m1 h1 H1 σ ρ _ (S.move s1 S1) (PostT'.calm q1 fun b h2 m2 w2 H2 s2 S2 r2 q2 => ?_))⟩
  split at q2
  · rename_i k er
    have er := refOf_eq er
    subst er
    have ew := rp_ref (r1.move s2)
    have rv := (r.move s1).move s2
    have SS := (S.move s1 S1).move s2 S2
    split at q2
    · rename_i ds eo
      split at q2
      · split at q2
        · rename_i j ej
          obtain ⟨ys, e1, rr⟩ := mo_lst S2 eo
          cases r2
          have sp := stp_put (o' := .lst (ds.set j d)) (u := .lst (ys.set j v)) S2 eo trivial
          exact .inl ⟨_, ys, _, j, ew, rfl, e1, by rw [rr.length]; exact ej, q2 m2 σ _ sp (SS.move sp (S2.put eo (.lst upd_same ((rr.set j rv).mv (mv_put eo))))) rfl fun _ _ => rfl⟩
        · exact q2.elim
      · exact q2.elim
    · rename_i kvs eo
      split at q2
      · rename_i key ek
        by_cases hz : kvs.length < sizeLine
        · rw [if_pos hz] at q2
          obtain ⟨hkv, e1, en, rr⟩ := mo_dct S2 eo
          have ey := rp_key r2 ek
          subst ey
          obtain ⟨i1, i2⟩ := rp_dput (k := key) en rr rv
          have sp := stp_put (o' := .dct (dPut kvs key d)) (u := .dK (putK hkv key v)) S2 eo trivial
          exact .inr ⟨_, _, ew, DPut.k e1 (by rw [len_of en]; exact hz), q2 m2 σ _ sp (SS.move sp (S2.put eo (.dct upd_same i1 (i2.mv (mv_put eo))))) rfl fun _ _ => rfl⟩
        · rw [if_neg hz] at q2; exact q2.elim
      · exact q2.elim
    · exact q2.elim
  · exact q2.elim
end
def cutD (xs : List D) (lo hi : Option Int) : List D := (xs.drop (HT.sIx xs.length 0 lo)).take (HT.sIx xs.length xs.length hi - HT.sIx xs.length 0 lo)
theorem rp_cut {K : PySem.W.Frag} {CA : CAs} {m : Mp} {h : CH} {H : Hp} {vs : List V} {ds : List D} {lo hi : Option Int} (r : RpAll K CA m h H vs ds) : RpAll K CA m h H (cutV vs lo hi) (cutD ds lo hi) := by
  unfold cutV cutD
  rw [r.length]
  exact (r.drop _).take _
abbrev TDo := DE → CH → R (Option Int)
def dNoPart : TDo := fun _ h => .ok none h
def dPart (t : TD) : TDo := fun ρ h => (t ρ h).bind fun d h => match d with
  | .int i => .ok (some i) h
  | _ => .no
def dSl (nm : Bool) (ta : TD) (tl th : TDo) : TD := fun ρ h => (ta ρ h).bind fun x h => (tl ρ h).bind fun l h => (th ρ h).bind fun u h => match x with
  | .tup ds => .ok (.tup (cutD ds l u)) h
  | x => match lstOf h x with
    | some ds => mkL nm (cutD ds l u) h
    | none => .no
def RO : Mp → CH → Hp → Option Int → Option Int → Prop := fun _ _ _ b a => b = a
def SimO (K : PySem.W.Frag) (CA : CAs) (W : WX) (tH : TO) (t : TDo) : Prop := ∀ (m : Mp) (h : CH) (H : Hp) (σ : L2.St) (ρ : DE) (Q' : Option Int → Hp → Prop), SO K CA m h H σ ρ → PostG K CA W RO m h H σ Q' (t ρ h) → tH σ H Q'
structure WO (X : Cx) (K : PySem.W.Frag) (CA : CAs) (W : WX) (e : Option Expr) (tH : TO) (t : TDo) : Prop where
  pe : PO X e tH
  sim : SimO K CA W tH t
section
variable {X : Cx} {K : PySem.W.Frag} {CA : CAs} {W : WX} {e a : Expr} {lo hi : Option Expr} {ha : TE} {ta : TD} {hl hh : TO} {tl th : TDo} {pos p2 : Pos}
theorem wo_none : WO X K CA W none tNoPart dNoPart := ⟨po_none, fun m h H σ ρ Q' S t => t.here S.hr rfl⟩
theorem wo_some (x : WE X K CA W e ha ta) : WO X K CA W (some e) (tPart ha) (dPart ta) := ⟨po_some x.pe, fun m h H σ ρ Q' S t => x.sim m h H σ ρ _ S (t.bind fun d h1 m1 v H1 s1 S1 r1 t1 => by
  split at t1
  · cases r1; exact ⟨_, rfl, t1.here S1 rfl⟩
  · exact t1.elim)⟩
abbrev rSlU (K : PySem.W.Frag) : V → Option Int → Option Int → Hp → VK → Prop := fun x lo hi H Q => rSlL K x lo hi H Q ∨ rSlA K x lo hi H Q
theorem cut_whole {xs : List D} {lo hi : Option Int} (h1 : HT.sIx xs.length 0 lo = 0) (h2 : HT.sIx xs.length xs.length hi = xs.length) : cutD xs lo hi = xs := by
  unfold cutD
  rw [h1, h2]
  simp
theorem we_slice (nm : Bool) (x : WE X K CA W a ha ta) (y : WO X K CA W lo hl tl) (z : WO X K CA W hi hh th) (hK : X.K = K := by rfl) : WE X K CA W (.Subscript a (.Slice lo hi none p2) pos) (tSl (rSlU K) ha hl hh) (dSl nm ta tl th) := by
  subst hK
  refine ⟨pe_slice (sl_list.or sl_tupA) x.pe y.pe z.pe, fun m h H σ ρ Q' S t => x.sim m h H σ ρ _ S (t.bind fun d h1 m1 v H1 s1 S1 r1 t1 => ?_)⟩
  refine y.sim m1 h1 H1 σ ρ _ (S.move s1 S1) (t1.bind fun l h2 m2 l' H2 s2 S2 e2 t2 => ?_)
  cases (show l' = l from e2)
  refine z.sim m2 h2 H2 σ ρ _ ((S.move s1 S1).move s2 S2) (t2.bind fun u h3 m3 u' H3 s3 S3 e3 t3 => ?_)
  cases (show u' = u from e3)
  have r3 := (r1.move s2).move s3
  split at t3
  · obtain ⟨b, xs, rfl, e1, r2⟩ := rp_tup r3
    refine .inr ⟨b, xs, rfl, e1, fun z => ?_, fun _ p n => t3.laid S3 n (.tup (S3.fresh n) upd_same (rps_laid S3 n (rp_cut r2)))⟩
    rename_i ds
    have e : cutD ds l u = ds := cut_whole (by rw [← r2.length]; exact z.1) (by rw [← r2.length]; exact z.2)
    rw [e] at t3
    exact t3.here S3 r3
  · split at t3
    · rename_i ds ed
      obtain ⟨b, xs, rfl, e1, r2⟩ := rp_lst S3 r3 ed
      exact .inl ⟨b, xs, rfl, .of e1, fun p n => mkL_post S3 n (rp_cut r2) t3⟩
    · exact t3.elim
end
end CM
namespace CM
open PySem PySem.Spec PyProof.Rows L2
/-- what a def promises; g: it may show objects, so no guard may be under way -/
structure FnG (P : Program) (w : World) (K : PySem.W.Frag) (mg : Str → Option Value) (base : Heap) (g : Bool) (k : Nat) (f : Addr) (fd : FuncData) (ps : List Str) (sp : Sp) : Prop where
  ln : ∀ vs H Q E, sp vs H Q E → vs.length = ps.length
  go : ∀ (A : Around) (outer : List Env) (s : Shared) (H : Hp) (args : Args) (us : List Value) (vs : List V) (Q : VK) (E : XK), (g = true → A.guards = some []) → Room k A → Env0 P w K mg base A outer s H → BindsTo s fd args (ps.zip us) → Vals vs us →
    sp vs H Q E → codeAny (model P w) A (.call (.ref f) args) (CR (L2.CX P w) outer P w H s Q E) s
theorem FnG.mono {P : Program} {w : World} {K : PySem.W.Frag} {mg : Str → Option Value} {base : Heap} {g : Bool} {j k : Nat} {f : Addr} {fd : FuncData} {ps : List Str} {sp : Sp} (F : FnG P w K mg base g j f fd ps sp) (h : j ≤ k) : FnG P w K mg base g k f fd ps sp :=
  ⟨F.ln, fun A o s H a us vs Q E hg hr => F.go A o s H a us vs Q E hg (hr.mono h)⟩
abbrev cxD (P : Program) (w : World) (K : PySem.W.Frag) (mg : Str → Option Value) (base : Heap) (N : List Str) (qual : Str) (st : Stmt) (f : Addr) (cd : Value) (A : Around) (outer : List Env) (s : Shared) (H : Hp) (E : XK) : Cx :=
  cxOf (L2.CX P w) P w K mg base N qual (defScope st) f cd A outer s H E
abbrev wxD (E : XK) : WX := fun cls d _ H => E cls d H
section
variable {P : Program} {w : World} {K : PySem.W.Frag} {mg : Str → Option Value} {base : Heap} {CA : CAs} {g : Bool}
theorem FnG.mk' {nm qual : Str} {st : Stmt} {f : Addr} {fd : FuncData} {N ps : List Str} {k : Nat} {sp : Sp} (F : Fun K nm qual st f fd) (S : FnScope N ps (defScope st)) (ln : ∀ vs H Q E, sp vs H Q E → vs.length = ps.length)
    (body : ∀ (cd : Value) (A : Around) (outer : List Env) (s : Shared) (H : Hp) (vs : List V) (Q : VK) (E : XK), (g = true → A.guards = some []) → Room k (A.deeper (envOfC qual (defScope st) s.heap.objs.size f cd)) → sp vs H Q E →
      ∃ t, PSs (cxD P w K mg base N qual st f cd A outer s H E) (defBody st) t ∧ t { nx := fun _ H2 => Q .non H2, rt := Q } (start N vs) H) : FnG P w K mg base g (k + 1) f fd ps sp := by
  obtain ⟨x1, x2, x3, x4, x5, x6, cd, x8, x9, rfl, look, code⟩ := F.ex
  refine ⟨ln, fun A outer s H args us vs Q E hg room e0 bd rv hs => ?_⟩
  have len1 := ln _ _ _ _ hs
  have kin : K.In s.heap := e0.mod.kin.keeps fun b o e => (e0.bs b o e).1
  have nl : s.heap.NoLimit := e0.mod.nolimit.keeps fun b o e => (e0.bs b o e).1
  have kinds : ∀ y, y ∈ ps.zip us → (defScope st).names.lookup y.1 = some .local ∨ ((defScope st).names.lookup y.1 = some .cell ∧ ((cellsFrom (s.heap.objs.size + 1) (defScope st).names []).lookup y.1).isSome = true) := by
    rintro ⟨a, b⟩ hm
    exact (S.par a (List.of_mem_zip hm).1).imp id fun q => ⟨q, PySem.W.cellsFrom_some _ _ _ (.inl q)⟩
  refine codeAny_call_function room.depth (kin _ _ look) rfl S.co S.gen rfl (PySem.W.codeRec_of kin code) (bd _ _ _ _ (wpAny_newFunctionEnv_cells S.kind kinds fun env ee s1 hc => ?_))
  cases ee
  refine ⟨nl.keeps hc.toInCall.keep, codeAny_func ?_⟩
  obtain ⟨t, ht, hq⟩ := body cd A outer s H vs Q E hg (room.deeper _) hs
  have inv : Inv (cxD P w K mg base N qual st f cd A outer s H E) [] (start N vs) H s1 := inv_start S room.hd e0 len1 rv hc
  have back : ∀ {σ' : L2.St} {H2 : Hp} {v : V} {u : Value} {s2 : Shared}, Inv (cxD P w K mg base N qual st f cd A outer s H E) [] σ' H2 s2 → RelV v u → Q v H2 → CE outer P w H s Q u s2 := fun {_ H2 v _ _} J r q => ⟨v, H2, J.os, J.bare, J.base, J.hok, r, q⟩
  refine wpAny_mono (ht.run [] s1 (start N vs) H _ inv hq) (fun fl s2 h2 => ?_) fun _ _ z => z
  rcases fl with _ | _ | _ | u
  · obtain ⟨_, _, J, q⟩ := h2
    exact back (v := V.non) (u := Value.none) J rfl q
  · obtain ⟨_, _, _, q⟩ := h2; exact False.elim q
  · obtain ⟨_, _, _, q⟩ := h2; exact False.elim q
  · obtain ⟨_, _, _, J, r, q⟩ := h2
    exact back J r q
theorem FnG.ok {k : Nat} {f : Addr} {fd : FuncData} {ps : List Str} {sp : Sp} (F : FnG P w K mg base false k f fd ps sp) : FnOk P w K mg base (L2.CX P w) k f fd ps sp := ⟨F.ln, fun A o s H a us vs Q E hr => F.go A o s H a us vs Q E (fun z => nomatch z) hr⟩
def spD (K : PySem.W.Frag) (CA : CAs) (n : Nat) (F : FD) : Sp := fun vs H Q E => vs.length = n ∧ ∃ (m : Mp) (h : CH) (ds : List D), HR K CA m h H ∧ RpAll K CA m h H vs ds ∧ PostE K CA (wxD E) m h H [] Q (F ds h)
/-- the slots at a def's entry -/
def startD (N : Nat) (ds : List D) : DE := ds.map some ++ List.replicate (N - ds.length) none
def RS.res : RS → R D
  | .nx _ h => .ok .non h
  | .rt d h => .ok d h
  | .ex _ c fs h => .ex c fs h
  | _ => .no
def bodyF (N : Nat) (u : SD) : FD := fun ds h => (u (startD N ds) h).res
theorem so_start {m : Mp} {h : CH} {H : Hp} {vs : List V} {ds : List D} (N : List Str) (hl : vs.length ≤ N.length) (S : HR K CA m h H) (r : RpAll K CA m h H vs ds) : SO K CA m h H (start N vs) (startD N.length ds) := by
  have hds := r.length
  refine ⟨S, by simp [L2.start, startD, hds], fun i s e => ?_⟩
  unfold startD at e
  by_cases hi : i < ds.length
  · rw [List.getElem?_append_left (by simpa using hi), List.getElem?_map] at e
    cases q : ds[i]? with
    | none => rw [q] at e; cases e
    | some d =>
      rw [q] at e; cases e
      obtain ⟨v, e2, rv⟩ := r.getD q
      refine ⟨v, ?_, rv⟩
      unfold L2.start
      have hi := (List.getElem?_eq_some_iff.mp e2).1
      rw [List.getElem?_append_left (by simpa using hi), List.getElem?_map, e2]
      rfl
  · rw [List.getElem?_append_right (by simpa using hi), List.getElem?_replicate] at e
    split at e <;> cases e
theorem res_post {E : XK} {m : Mp} {h : CH} {H : Hp} {Q : VK} {r : RS} {σ : L2.St} (t : PostE K CA (wxD E) m h H σ Q r.res) : PostS K CA (wxD E) m h H { nx := fun _ H2 => Q .non H2, rt := Q } r := by
  cases r with
  | nx ρ' h' => exact fun m' σ' H' s S => t m' .non H' s S.hr .non
  | rt d h' => exact t
  | bk ρ' h' => exact t.elim
  | ct ρ' h' => exact t.elim
  | ex ρ' c fs h' => exact fun m' cls dd σ' H' s S x => t m' cls dd H' s S.hr x
  | no => exact t
def noxF (F : FD) : FD := fun ds h => (F ds h).calm fun d h => .ok d h
/-- a def, by the reading of its body -/
theorem okD {nm qual : Str} {st : Stmt} {f : Addr} {fd : FuncData} {N ps : List Str} {k n l : Nat} {u : SD} (F : Fun K nm qual st f fd) (S : FnScope N ps (defScope st)) (hm : ps.length = l) (hn : N.length = n)
    (hb : ∀ (cd : Value) (A : Around) (outer : List Env) (s : Shared) (H : Hp) (E : XK), (g = true → A.guards = some []) → Room k (A.deeper (envOfC qual (defScope st) s.heap.objs.size f cd)) →
      Takes (cxD P w K mg base N qual st f cd A outer s H E) (wxD E) → ∃ tS, WSs (cxD P w K mg base N qual st f cd A outer s H E) K CA (wxD E) (defBody st) tS u) : FnG P w K mg base g (k + 1) f fd ps (spD K CA l (bodyF n u)) := by
  subst hm hn
  refine FnG.mk' F S (fun vs H Q E h => h.1) fun cd A outer s H vs Q E hg hr h => ?_
  obtain ⟨hl, m, ch, ds, hR, r, q⟩ := h
  obtain ⟨t, ws⟩ := hb cd A outer s H E hg hr (takes_of rfl rfl rfl rfl)
  have hle : vs.length ≤ N.length := by
    have := congrArg List.length S.pre
    rw [List.length_take] at this
    omega
  exact ⟨t, ws.pe, ws.sim m ch H _ _ _ (so_start N hle hR r) (res_post q)⟩
/-- a def of the module -/
structure Df (P : Program) (w : World) (K : PySem.W.Frag) (mg : Str → Option Value) (base : Heap) (CA : CAs) (nm : Str) (g : Bool) (k : Nat) (ps : List Str) (F : FD) (f : Addr) (fd : FuncData) : Prop where
  G : FnG P w K mg base g k f fd ps (spD K CA ps.length F)
  hm : mg nm = some (.ref f)
  hk : PySem.W.keepIn K (.ref f) = true
/-- the ground of a recursion -/
theorem FnG.none {k : Nat} {f : Addr} {fd : FuncData} {ps : List Str} {l : Nat} : FnG P w K mg base g k f fd ps (spD K CA l fun _ _ => .no) :=
  ⟨fun _ _ _ _ h => by obtain ⟨_, _, _, _, _, _, z⟩ := h; exact z.elim, fun _ _ _ _ _ _ _ _ _ _ _ _ _ _ h => by obtain ⟨_, _, _, _, _, _, z⟩ := h; exact z.elim⟩
theorem Df.none {nm : Str} {k : Nat} {ps : List Str} {F : FD} {f : Addr} {fd : FuncData} {k' : Nat} {F' : FD} (d : Df P w K mg base CA nm g k' ps F' f fd) : Df P w K mg base CA nm g k ps (fun _ _ => .no) f fd := ⟨.none, d.hm, d.hk⟩
end
/-- the i-th positional argument, the i-th keyword's, a default -/
inductive Src where
  | p (i : Nat) | k (i : Nat) | c (d : D)
def pickD (ds zs : List D) : List Src → List D
  | [] => []
  | .p i :: r => ds.getD i .non :: pickD ds zs r
  | .k i :: r => zs.getD i .non :: pickD ds zs r
  | .c d :: r => d :: pickD ds zs r
def pickL (us ws : List Value) : List Src → List Value → List Value
  | [], _ => []
  | .p i :: r, cs => us.getD i .none :: pickL us ws r cs
  | .k i :: r, cs => ws.getD i .none :: pickL us ws r cs
  | .c _ :: r, c :: cs => c :: pickL us ws r cs
  | .c _ :: r, [] => .none :: pickL us ws r []
def consts : List Src → List D
  | [] => []
  | .p _ :: r => consts r
  | .k _ :: r => consts r
  | .c d :: r => d :: consts r
/-- the value stands for the data, whatever happens -/
def Ever (K : PySem.W.Frag) (CA : CAs) (u : Value) (d : D) : Prop := ∃ v, RelV v u ∧ ∀ m h H, Rp K CA m h H v d
/-- how the arguments bind -/
structure KwB (K : PySem.W.Frag) (CA : CAs) (fd : FuncData) (ps : List Str) (n : Nat) (ks : List Str) (src : List Src) : Prop where
  ex : ∃ cs : List Value, Paired (Ever K CA) cs (consts src) ∧ ∀ (s : Shared) (us ws : List Value), K.In s.heap → us.length = n → ws.length = ks.length → BindsTo s fd ⟨us, ks.zip ws⟩ (ps.zip (pickL us ws src cs))
section
variable {K : PySem.W.Frag} {CA : CAs} {m : Mp} {h : CH} {H : Hp}
theorem getP_rel {vs : List V} {us : List Value} {ds : List D} (r : Vals vs us) (rd : RpAll K CA m h H vs ds) (i : Nat) : ∃ v, RelV v (us.getD i .none) ∧ Rp K CA m h H v (ds.getD i .non) := by
  induction r generalizing ds i with
  | nil => cases rd; exact ⟨.non, rfl, .non⟩
  | cons a _ ih =>
    cases rd with
    | cons b rd =>
      cases i with
      | zero => exact ⟨_, a, b⟩
      | succ i => exact ih rd i
theorem pick_rel {vs zs : List V} {us ws : List Value} {ds es : List D} (r : Vals vs us) (rd : RpAll K CA m h H vs ds) (rz : Vals zs ws) (re : RpAll K CA m h H zs es) : ∀ {src : List Src} {cs : List Value}, Paired (Ever K CA) cs (consts src) →
    ∃ xs, Vals xs (pickL us ws src cs) ∧ RpAll K CA m h H xs (pickD ds es src)
  | [], _, _ => ⟨[], .nil, .nil⟩
  | .p i :: src, cs, q => by
    obtain ⟨xs, h1, h2⟩ := pick_rel r rd rz re (src := src) (cs := cs) q
    obtain ⟨v, h3, h4⟩ := getP_rel r rd i
    exact ⟨v :: xs, .cons h3 h1, .cons h4 h2⟩
  | .k i :: src, cs, q => by
    obtain ⟨xs, h1, h2⟩ := pick_rel r rd rz re (src := src) (cs := cs) q
    obtain ⟨v, h3, h4⟩ := getP_rel rz re i
    exact ⟨v :: xs, .cons h3 h1, .cons h4 h2⟩
  | .c d :: src, cs, q => by
    cases q with
    | cons a q =>
      obtain ⟨xs, h1, h2⟩ := pick_rel r rd rz re (src := src) q
      obtain ⟨v, h3, h4⟩ := a
      exact ⟨v :: xs, .cons h3 h1, .cons (h4 m h H) h2⟩
theorem KwB.of {fd : FuncData} {ps : List Str} {n : Nat} {ks : List Str} {src : List Src} (hc : consts src = []) (b : ∀ (us ws : List Value), us.length = n → ws.length = ks.length → bindArgs fd ⟨us, ks.zip ws⟩ = pure (ps.zip (pickL us ws src []))) : KwB K CA fd ps n ks src :=
  ⟨[], by rw [hc]; exact .nil, fun s us ws _ h1 h2 => .of_eq (b us ws h1 h2)⟩
end
/-- a def's reading, at the arguments picked -/
def dCallN (n l : Nat) (src : List Src) (F : FD) (ts tk : TDs) : TD := fun ρ h => (ts ρ h).bind fun ds h => (tk ρ h).bind fun zs h => if ds.length = n ∧ zs.length = l then F (pickD ds zs src) h else .no
def dCall (n : Nat) (F : FD) (ts : TDs) : TD := fun ρ h => (ts ρ h).bind fun ds h => if ds.length = n then F ds h else .no
def tCallN (K : PySem.W.Frag) (CA : CAs) (W : WX) (n l : Nat) (G : List D → List D → CH → R D) (t tk : TA) : TE := fun σ H Q => t σ H fun vs H1 => tk σ H1 fun zs H2 => vs.length = n ∧ zs.length = l ∧ ∃ (m : Mp) (h : CH) (ds es : List D), HR K CA m h H2 ∧ RpAll K CA m h H2 vs ds ∧ RpAll K CA m h H2 zs es ∧ PostE K CA W m h H2 σ Q (G ds es h)
section
variable {X : Cx} {K : PySem.W.Frag} {CA : CAs} {W : WX} {o e : Expr} {es : List Expr} {kws : List Keyword} {pos apos p : Pos} {ha : TE} {ta : TD} {hs hk : TA} {ts tk : TDs} {x nm : Str} {g : Bool} {k n l c0 : Nat} {ps ks : List Str} {src : List Src} {F : FD} {f : Addr} {fd : FuncData}
theorem run_fnG {sp : Sp} {Ex : L2.St → XK} {pins : List (Addr × Obj)} {σ : L2.St} {H : Hp} {s : Shared} {Q : VK} {args : Args} {us : List Value} {vs : List V} (G : FnG X.prog X.w X.K X.mg X.base g k f fd ps sp) (hG : g = true → X.A.guards = some []) (hr : Room k X.A)
    (hb : us.length = ps.length → BindsTo s fd args (ps.zip us)) (hx : PassesAt (L2.CX X.prog X.w) X σ (Ex σ)) (I : Inv X pins σ H s) (r : Vals vs us) (h : sp vs H Q (Ex σ)) : codeAny (model X.prog X.w) X.A (.call (.ref f) args) (fun r s' => match r with | .ok (.ret u) => EP X pins σ Q u s' | .ok _ => False | .error e => X.xe e s') s := by
  refine codeAny_mono (G.go X.A X.stack s H args us vs Q (Ex σ) hG hr I.env0 (hb (by rw [← r.length]; exact G.ln _ _ _ _ h)) r h) fun r s' hq => ?_
  rcases r with e | fl
  · exact hx pins H s e s' I hq
  · rcases fl with _ | _ | _ | u
    · exact hq.elim
    · exact hq.elim
    · exact hq.elim
    · exact I.after hq
/-- the wish at the slots -/
theorem post_at {m : Mp} {h : CH} {H : Hp} {σ : L2.St} {Q : VK} {r : R D} (t : PostE K CA W m h H σ Q r) : PostE K CA (wxD (L2.WE W σ)) m h H [] Q r := by
  cases r with
  | ok d h' => exact t
  | ex c fs h' => exact t
  | no => exact t
theorem end_call {A : Around} {σ : L2.St} {pins : List (Addr × Obj)} {Q : VK} {u : Value} {args : List Value} {kw : List (Str × Value)} {s : Shared} (h : codeAny (model X.prog X.w) A (.call u ⟨args, kw⟩) (fun r s' => match r with | .ok (.ret u) => EP X pins σ Q u s' | .ok _ => False | .error e => X.xe e s') s) :
    wpAny (model X.prog X.w) A (call u args kw) (EP X pins σ Q) X.xe s := by
  refine wpAny_call (codeAny_mono h fun r s' hq => ?_)
  rcases r with e | fl
  · exact hq
  · rcases fl with _ | _ | _ | u <;> exact hq
theorem run_callN {pins : List (Addr × Obj)} {σ : L2.St} {H : Hp} {s : Shared} {Q : VK} {us ws : List Value} {vs zs : List V} {m : Mp} {h : CH} {ds es : List D} (G : FnG X.prog X.w X.K X.mg X.base g k f fd ps (spD X.K CA ps.length F)) (hG : g = true → X.A.guards = some []) (hr : Room k X.A) (B : KwB X.K CA fd ps n ks src) (tk : Takes X W)
    (I : Inv X pins σ H s) (r : Vals vs us) (rz : Vals zs ws) (l1 : vs.length = n) (l2 : zs.length = ks.length) (hR : HR X.K CA m h H) (rd : RpAll X.K CA m h H vs ds) (re : RpAll X.K CA m h H zs es) (hl : src.length = ps.length) (q : PostE X.K CA W m h H σ Q (F (pickD ds es src) h)) :
    wpAny (model X.prog X.w) X.A (call (.ref f) us (ks.zip ws)) (EP X pins σ Q) X.xe s := by
  obtain ⟨cs, hc, hb⟩ := B.ex
  obtain ⟨xs, h1, h2⟩ := pick_rel r rd rz re hc
  have hlen : ∀ {src : List Src}, (pickD ds es src).length = src.length := fun {src} => by
    induction src with
    | nil => rfl
    | cons a src ih => cases a <;> simp [pickD, ih]
  exact end_call (run_fnG G hG hr (fun _ => hb s us ws I.kIn (r.length.symm.trans l1) (rz.length.symm.trans l2)) (passAt tk σ) I h1 ⟨by rw [h2.length, hlen]; exact hl, m, h, _, hR, h2, post_at q⟩)
theorem sim_callN (s : SimA K CA W hs ts) (s' : SimA K CA W hk tk) : SimE K CA W (tCallN K CA W n l (fun ds es => F (pickD ds es src)) hs hk) (dCallN n l src F ts tk) := fun m h H σ ρ Q' S t =>
  s m h H σ ρ _ S (t.bind fun ds h1 m1 vs H1 s1 S1 r1 t1 => s' m1 h1 H1 σ ρ _ (S.move s1 S1) (t1.bind fun es h2 m2 zs H2 s2 S2 r2 t2 => by
    obtain ⟨⟨c1, c2⟩, t2⟩ := post_ite t2
    exact ⟨r1.length.trans c1, r2.length.trans c2, m2, h2, ds, es, S2, r1.move s2, r2, t2⟩))
theorem sim_call (s : SimA K CA W hs ts) : SimE K CA W (tCallN K CA W n 0 (fun ds _ => F ds) hs L2.tNil) (dCall n F ts) := fun m h H σ ρ Q' S t =>
  s m h H σ ρ _ S (t.bind fun ds h1 m1 vs H1 s1 S1 r1 t1 => by
    obtain ⟨c1, t1⟩ := post_ite t1
    exact ⟨r1.length.trans c1, rfl, m1, h1, ds, [], S1, r1, .nil, t1⟩)
/-- named arguments -/
structure WK (X : Cx) (K : PySem.W.Frag) (CA : CAs) (W : WX) (kws : List Keyword) (hs : TA) (ts : TDs) : Prop where
  pe : PK X kws hs
  sim : SimA K CA W hs ts
theorem wk_nil : WK X K CA W [] L2.tNil dNil := ⟨pk_nil, fun m h H σ ρ Q' S t => t.here S.hr .nil⟩
theorem wk_cons {nm : Option Str} {kpos : Pos} (h : WE X K CA W e ha ta) (h' : WK X K CA W kws hs ts) : WK X K CA W (⟨nm, e, kpos⟩ :: kws) (L2.tCons ha hs) (dCons ta ts) :=
  ⟨pk_cons h.pe h'.pe, sim_cons h.sim h'.sim⟩
/-- the positional ones alone, as they come -/
def srcP : Nat → Nat → List Src
  | _, 0 => []
  | i, n + 1 => .p i :: srcP (i + 1) n
/-- f(k = e, ..) -/
theorem we_callK0 (D : Df X.prog X.w X.K X.mg X.base CA x g k ps F f fd) (hG : g = true → X.A.guards = some []) (hr : Room k X.A) (tk' : Takes X W) (h' : WK X K CA W kws hk tk) (B : KwB K CA fd ps 0 ks src) (hl : src.length = ps.length := by rfl) (hg : Gl X x := by rfl) (hK : X.K = K := by rfl)
    (hall : (backToKw pos (keywordEach kws X.env)).all (·.1.isSome) = true := by rfl) (hks : (backToKw pos (keywordEach kws X.env)).filterMap (·.1) = ks := by rfl) (hdb : (x == ("__debug__" : Str)) = false := by decide)
    (hpl : ((backTo pos (starEach [] X.env)).any (·.1) || (backToKw pos (keywordEach kws X.env)).any (·.1.isNone)) = false := by rfl) :
    WE X K CA W (.Call (.Name x p) [] kws pos) (tCallN K CA W 0 ks.length (fun ds es => F (pickD ds es src)) L2.tNil hk) (dCallN 0 ks.length src F dNil tk) := by
  subst hK
  refine ⟨⟨fun pins s σ H Q I hq => wpAny_Call_Name_kw (ld_glob I hg D.hm ?_ hdb)⟩, sim_callN (fun m h H σ ρ Q' S t => t.here S.hr .nil) h'.sim⟩
  refine PySem.W.callWith_KW0 (h₀ := X.base) I.ok.mod.kin D.hk hall (thn (h'.pe.run pos pins s σ H _ I hq) fun ws s1 ⟨zs, H1, I1, rz, l1, l2, m, h, ds, es, hR, rd, re, q⟩ => ⟨I1.kIn, ?_⟩) hpl
  rw [hks]
  exact run_callN (us := []) (vs := []) D.G hG hr B tk' I1 .nil rz l1 l2 hR rd re hl q
end
/-- nm is a method of the class c0 -/
structure Mtd (P : Program) (w : World) (K : PySem.W.Frag) (mg : Str → Option Value) (base : Heap) (CA : CAs) (c0 : Nat) (nm : Str) (g : Bool) (k : Nat) (ps : List Str) (F : FD) (f : Addr) (fd : FuncData) : Prop where
  G : FnG P w K mg base g k f fd ps (spD K CA ps.length F)
  cl : Cls K (CA c0)
  mt : Meth K (CA c0) nm f
def dMethN (c0 : Nat) (nm : Str) (n l : Nat) (src : List Src) (F : FD) (ta : TD) (ts tk : TDs) : TD := fun ρ h => (ta ρ h).bind fun d h => match objOf h d with
  | some (c, fs) => if c = c0 ∧ (fs.lookup nm).isNone = true then (ts ρ h).bind fun ds h => (tk ρ h).bind fun zs h => if ds.length + 1 = n ∧ zs.length = l then F (pickD (d :: ds) zs src) h else .no else .no
  | none => .no
def dProp (c0 : Nat) (F : FD) (ta : TD) : TD := fun ρ h => (ta ρ h).bind fun d h => match objOf h d with
  | some (c, _) => if c = c0 then noxF F [d] h else .no
  | none => .no
/-- nm is a property of the class c0 -/
structure Prd (P : Program) (w : World) (K : PySem.W.Frag) (mg : Str → Option Value) (base : Heap) (CA : CAs) (c0 : Nat) (nm : Str) (k : Nat) (ps : List Str) (F : FD) : Prop where
  ex : ∃ (p g : Addr) (fd : FuncData), FnOk P w K mg base L2.CX0 k g fd ps (spD K CA 1 (noxF F)) ∧ PropOf K (CA c0) nm p g ∧ Binds K fd ps []
  cl : Cls K (CA c0)
/-- the class c0, called nm, is made by its __init__ -/
structure Mkd (P : Program) (w : World) (K : PySem.W.Frag) (mg : Str → Option Value) (base : Heap) (CA : CAs) (c0 : Nat) (nm : Str) (k : Nat) (ps : List Str) (F : FD) (f : Addr) (fd : FuncData) : Prop where
  G : FnG P w K mg base false k f fd ps (spD K CA ps.length F)
  hm : mg nm = some (.ref (CA c0))
  mkd : Mk K (CA c0) f
/-- the module's name x stands for the data d, whatever happens -/
def GV (K : PySem.W.Frag) (CA : CAs) (mg : Str → Option Value) (x : Str) (d : D) : Prop := ∃ v u, mg x = some u ∧ RelV v u ∧ ∀ m h H, Rp K CA m h H v d
noncomputable def GV.v {K : PySem.W.Frag} {CA : CAs} {mg : Str → Option Value} {x : Str} {d : D} (G : GV K CA mg x d) : V := Classical.choose G
section
variable {X : Cx} {K : PySem.W.Frag} {CA : CAs} {W : WX} {x : Str} {d : D} {p : Pos} {mg : Str → Option Value}
theorem we_gv (G : GV K CA X.mg x d) (hg : Gl X x := by rfl) (hd : (x == ("__debug__" : Str)) = false := by decide) : WE X K CA W (.Name x p) (L2.tC G.v) (dC d) := by
  have h : ∃ u, X.mg x = some u ∧ RelV G.v u ∧ ∀ m h H, Rp K CA m h H G.v d := Classical.choose_spec G
  obtain ⟨u, h1, h2, h3⟩ := h
  exact ⟨pe_glob hg h1 h2 hd, fun m h H σ ρ Q' S t => t.here S.hr (h3 m h H)⟩
theorem gv_int {i : Int} {t : Tok} (h : mg x = some (.int i t)) : GV K CA mg x (.int i) := ⟨.int i, _, h, ⟨t, rfl⟩, fun _ _ _ => .int i⟩
theorem gv_cls {a : Addr} {c : Nat} (h : mg x = some (.ref a)) (e : CA c = a) : GV K CA mg x (.cls c) := ⟨.ref a, _, h, rfl, fun _ _ _ => by rw [← e]; exact .cls c⟩
/-- written values -/
inductive WrV (K : PySem.W.Frag) : Value → D → Prop
  | str (x : Str) (t : Tok) : WrV K (.str x t) (.str x)
  | int (i : Int) (t : Tok) : WrV K (.int i t) (.int i)
  | bl (b : Bool) : WrV K (.bool b) (.bl b)
  | non : WrV K .none .non
  | tup {a : Addr} {dd : Option Addr} {us : List Value} {n : Nat} {sl : Array (Option Value)} {ds : List D} : K.lookup a = some ⟨.type "tuple", dd, .seq us.toArray n, sl⟩ → Paired (WrV K) us ds → us.length ≤ sizeLine → WrV K (.ref a) (.tup ds)
end
end CM
namespace CM
open PySem PySem.Spec PyProof.Rows L2
def fLen : FD := fun ds h => match ds with
  | [.str z] => if z.length ≤ sizeLine then .ok (.int z.length) h else .no
  | [.scr ns] => .ok (.int ns.length) h
  | [d] => match seqOf h d with
    | some xs => .ok (.int xs.length) h
    | none => match dctOf h d with
      | some kvs => .ok (.int kvs.length) h
      | none => .no
  | _ => .no
def rLenU (K : PySem.W.Frag) : List V → Hp → VK → Prop := fun xs H Q => (∃ p ys, xs = [V.ref p] ∧ (SqL K H p ys ∨ SqT K H p ys) ∧ Q (.int ys.length) H) ∨ ((∃ z, xs = [V.str z] ∧ z.length ≤ sizeLine ∧ Q (.int z.length) H) ∨ ∃ a kvs, xs = [V.ref a] ∧ Rd H a (.dK kvs) ∧ Q (.int kvs.length) H)
section
variable {X : Cx} {K : PySem.W.Frag} {CA : CAs} {W : WX}
theorem call_lenU (hK : X.K = K := by rfl) (hl : CallR X (.builtin "len") (fun xs H Q => ∃ a kvs, xs = [V.ref a] ∧ Rd H a (.dK kvs) ∧ Q (.int kvs.length) H)) : CallR X (.builtin "len") (rLenU K) := by subst hK; exact call_len_seq.or (call_len_str.or hl)
theorem sim_len : SimC K CA (rLenU K) fLen := by
  intro W σ m h H xs ds Q' S r t
  unfold fLen at t
  split at t
  · obtain ⟨l, t⟩ := post_ite t
    cases r with
    | cons r1 r2 => cases r1; cases r2; exact .inr (.inl ⟨_, rfl, l, t.here S (.int _)⟩)
  · cases r with
    | cons r1 r2 =>
      cases r2
      cases r1 with
      | scr n e => exact .inl ⟨_, _, rfl, .inl (.inl (.inr ⟨_, e⟩)), by rw [List.length_map]; exact t.here S (.int _)⟩
      | kscr e => exact .inl ⟨_, _, rfl, .inl (sl_emp e), by rw [List.length_map]; exact t.here S (.int _)⟩
  · cases r with
    | cons r1 r2 =>
      cases r2
      split at t
      · rename_i xs e
        obtain ⟨a, ys, rfl, e1, rr⟩ := rp_seq S r1 e
        exact .inl ⟨a, ys, rfl, e1, by rw [rr.length]; exact t.here S (.int _)⟩
      · split at t
        · rename_i kvs e
          obtain ⟨a, o, hk, rfl, e1, c, en, rr⟩ := rp_dct S r1 e
          refine .inr (.inr ⟨a, hk, rfl, ?_, by rw [len_of en]; exact t.here S (.int _)⟩)
          rcases core_dK c with rfl | ⟨ob, rfl⟩
          · exact .inl e1
          · exact .inr ⟨ob, e1⟩
        · exact t.elim
  · exact t.elim
end
inductive Tg where
  | b (n : String) | o (c : Nat)
  deriving DecidableEq
def tgOf (h : CH) : D → Option Tg
  | .non => some (.b "NoneType") | .bl _ => some (.b "bool") | .int _ => some (.b "int") | .str _ => some (.b "str") | .lst _ => some (.b "list") | .tup _ => some (.b "tuple") | .dct _ => some (.b "dict")
  | .obj c _ => some (.o c)
  | .scr _ => some (.b "list")
  | .ref k => match h.ob k with
    | some (.lst _) => some (.b "list")
    | some (.dct _) => some (.b "dict")
    | some (.lck _) => some (.b "dict")
    | some (.lkl _) => some (.b "list")
    | some (.obj c _) => some (.o c)
    | _ => none
  | _ => none
def clsOf : D → Option Tg
  | .ty n => some (.b n)
  | .cls c => some (.o c)
  | _ => none
def clssOf : List D → Option (List Tg)
  | [] => some []
  | d :: ds => match clsOf d, clssOf ds with
    | some t, some ts => some (t :: ts)
    | _, _ => none
def Tg.v (CA : CAs) : Tg → Value
  | .b n => .type n
  | .o c => .ref (CA c)
abbrev KT := Tg → Tg → Option Bool
/-- what the table says is so; and the own classes are plain ones -/
structure KtOk (K : PySem.W.Frag) (CA : CAs) (own : List Nat) (kt : KT) : Prop where
  one : ∀ a b r, kt a b = some r → PySem.W.kitOne K (a.v CA) (b.v CA) = some r
  ins : ∀ c, c ∈ own → Cls K (CA c) ∧ PySem.W.findIn K (.ref (CA c)) "__class__" = some (some (.builtin "object.__class__")) ∧ PySem.W.specialIn K (.builtin "object.__class__") "__get__" = some (some (.builtin "getset_descriptor.__get__")) ∧ PySem.W.takesIn K (.builtin "object.__class__") = some true ∧ PySem.W.mroIn K (CA c) (.type "object") = some true
def okTg (own : List Nat) : Tg → Bool
  | .b _ => true
  | .o c => decide (c ∈ own)
def fIsi (own : List Nat) (kt : KT) : FD := fun ds h => match ds with
  | [d, t] => match tgOf h d, clsOf t with
    | some a, some b => if okTg own a = true then (match kt a b with
      | some r => .ok (.bl r) h
      | none => .no) else .no
    | _, _ => .no
  | _ => .no
def ktAny (kt : KT) (a : Tg) : List Tg → Option Bool
  | [] => some false
  | b :: bs => match kt a b with
    | some true => some true
    | some false => ktAny kt a bs
    | none => none
def fIsT (own : List Nat) (kt : KT) : FD := fun ds h => match ds with
  | [d, .tup ts] => match tgOf h d, clssOf ts with
    | some a, some bs => if okTg own a = true then (match ktAny kt a bs with
      | some r => .ok (.bl r) h
      | none => .no) else .no
    | _, _ => .no
  | _ => .no
section
variable {X : Cx} {K : PySem.W.Frag} {CA : CAs} {W : WX} {m : Mp} {h : CH} {H : Hp} {own : List Nat} {kt : KT}
theorem rp_tg {v : V} {d : D} {a : Tg} (kk : KtOk K CA own kt) (S : HR K CA m h H) (r : Rp K CA m h H v d) (e : tgOf h d = some a) (ok : okTg own a = true) : TyX K H v (a.v CA) := by
  have io : ∀ {c : Nat} {p dx : Addr} {fs : List (Str × V)}, H p = some (.ins (CA c) dx fs) → okTg own (.o c) = true → TyX K H (.ref p) ((Tg.o c).v CA) := fun {c p dx fs} e ok => by
    obtain ⟨h1, h2, h3, h4, h5⟩ := kk.ins c (by simpa [okTg] using ok)
    exact .base (.ins e h1 h2 h3 h4 h5)
  cases r with
  | non => cases e; exact .base .non
  | bl b => cases e; exact .base (.bl b)
  | int b => cases e; exact .base (.int b)
  | str b => cases e; exact .base (.str b)
  | lst _ q _ => cases e; exact .base (.lst q)
  | tup _ q _ => cases e; exact .base (.tup q)
  | ktup q _ =>
    cases e
    rcases q with q | ⟨o, its, n, hk, hc, _⟩
    · rcases q with q | ⟨o, q⟩ <;> cases q
    · exact .kTuple hk hc
  | dct _ q c _ _ =>
    cases e
    rcases core_dK c with rfl | ⟨ob, rfl⟩
    · exact .base (.dK q)
    · exact .fDict q
  | obj _ q _ _ => cases e; exact io q ok
  | scr _ q => cases e; exact .base (.frz q)
  | kscr q =>
    cases e
    rcases q with q | ⟨o, its, n, hk, hc, _⟩
    · rcases q with q | ⟨o, q⟩ <;> cases q
    · exact .kList hk hc
  | ref l =>
    simp only [tgOf] at e
    split at e
    · rename_i q
      obtain ⟨xs, q1, _⟩ := mo_lst S q
      cases e; exact .base (.lst q1)
    · rename_i q
      obtain ⟨xs, q1, _⟩ := mo_dct S q
      cases e; exact .base (.dK q1)
    · rename_i q
      have x := (S.ob _ _ q).2
      cases x with
      | lck q1 en r => cases e; exact .fDict q1
    · rename_i q
      have x := (S.ob _ _ q).2
      cases x with
      | lkl q1 r => cases e; exact .base (.lst q1)
    · rename_i q
      obtain ⟨dx, xs, q1, _⟩ := mo_obj S q
      cases e; exact io q1 ok
    · cases e
  | ty => cases e
  | cls => cases e
  | exc => cases e
theorem rp_cls {v : V} {d : D} {b : Tg} (r : Rp K CA m h H v d) (e : clsOf d = some b) : ClsV v (b.v CA) := by
  cases r with
  | ty n => cases e; exact .ty n
  | cls c => cases e; exact .own _
  | _ => cases e
theorem rp_clss {vs : List V} {ds : List D} {bs : List Tg} (r : RpAll K CA m h H vs ds) (e : clssOf ds = some bs) : Paired ClsV vs (bs.map (Tg.v CA)) := by
  induction vs generalizing ds bs with
  | nil => cases r; cases e; exact .nil
  | cons v vs ih =>
    cases r with
    | cons r1 r2 =>
      simp only [clssOf] at e
      split at e
      · rename_i t ts e1 e2
        cases e
        exact .cons (rp_cls r1 e1) (ih r2 e2)
      · cases e
theorem kt_any {a : Tg} (kk : KtOk K CA own kt) : ∀ {bs : List Tg} {r : Bool}, ktAny kt a bs = some r → PySem.W.kitAny K (a.v CA) (bs.map (Tg.v CA)) = some r
  | [], r, e => by cases e; rfl
  | b :: bs, r, e => by
    simp only [ktAny] at e
    simp only [List.map_cons, PySem.W.kitAny]
    split at e
    · rename_i q
      rw [kk.one a b _ q]
      exact e
    · rename_i q
      rw [kk.one a b _ q]
      exact kt_any kk e
    · cases e
theorem sim_isi (kk : KtOk K CA own kt) : SimC K CA (rIsi K) (fIsi own kt) := by
  intro W σ m h H xs ds Q' S r t
  unfold fIsi at t
  split at t
  · split at t
    · rename_i a b ea eb
      obtain ⟨ok, t⟩ := post_ite t
      split at t
      · rename_i r' ek
        cases r with
        | cons r1 r2 => cases r2 with
          | cons r2 r3 => cases r3; exact ⟨_, _, _, _, _, rfl, rp_cls r2 eb, rp_tg kk S r1 ea ok, kk.one _ _ _ ek, t.here S (.bl _)⟩
      · exact t.elim
    · exact t.elim
  · exact t.elim
def rIsiU (K : PySem.W.Frag) : List V → Hp → VK → Prop := fun xs H Q => rIsiT K xs H Q ∨ rIsiK K xs H Q
theorem call_isiTU (hK : X.K = K := by rfl) : CallR X (.builtin "isinstance") (rIsiU K) := by subst hK; exact call_isiT.or call_isiK
theorem sim_isT (kk : KtOk K CA own kt) : SimC K CA (rIsiU K) (fIsT own kt) := by
  intro W σ m h H xs ds Q' S r t
  unfold fIsT at t
  split at t
  · split at t
    · rename_i a bs ea eb
      obtain ⟨ok, t⟩ := post_ite t
      split at t
      · rename_i r' ek
        cases r with
        | cons r1 r2 => cases r2 with
          | cons r2 r3 =>
            cases r3
            cases r2 with
            | tup n2 e2 ra => exact .inl ⟨_, _, _, _, _, _, rfl, e2, rp_clss ra eb, rp_tg kk S r1 ea ok, kt_any kk ek, t.here S (.bl _)⟩
            | ktup hk ra =>
              have hp := rp_clss ra eb
              have ha := kt_any kk ek
              rcases hk with hk | ⟨ob, its, m2, h1, h2, h3, h4, h5⟩
              · rcases hk with hk | ⟨_, hk⟩ <;> cases hk
              · have e3 := ClsV.all hp h5
                obtain ⟨oc, od, dt, sl⟩ := ob
                simp only at h2 h3
                subst h2 h3
                refine .inr ⟨_, _, od, _, m2, sl, _, _, rfl, ?_, rp_tg kk S r1 ea ok, ha, t.here S (.bl _)⟩
                rw [h1, ← e3]
      · exact t.elim
    · exact t.elim
  · exact t.elim
end
section
variable {X : Cx} {K : PySem.W.Frag} {CA : CAs} {W : WX} {m : Mp} {h : CH} {H : Hp}
def fListOf (nm : Bool) : FD := fun ds h => match ds with
  | [d] => match seqOf h d with
    | some xs => mkL nm xs h
    | none => .no
  | _ => .no
def fTupOf : FD := fun ds h => match ds with
  | [.tup xs] => .ok (.tup xs) h
  | [d] => match lstOf h d with
    | some xs => .ok (.tup xs) h
    | none => .no
  | _ => .no
def rListOf (K : PySem.W.Frag) : List V → Hp → VK → Prop := fun xs H Q => ∃ p ys, xs = [V.ref p] ∧ (SqL K H p ys ∨ SqT K H p ys) ∧ ∀ l, H l = none → Q (.ref l) (upd H l (.lst ys))
def rTupOf (K : PySem.W.Frag) : List V → Hp → VK → Prop := fun xs H Q => ∃ p ys, xs = [V.ref p] ∧ ((SqL K H p ys ∧ ∀ l, H l = none → Q (.ref l) (upd H l (.tup ys))) ∨ (SqT K H p ys ∧ Q (.ref p) H))
theorem call_listOf (hK : X.K = K := by rfl) : CallR X (.type "list") (rListOf K) := by subst hK; exact call_list_of
theorem call_tupOf (hK : X.K = K := by rfl) : CallR X (.type "tuple") (rTupOf K) := by subst hK; exact call_tuple_of
theorem sim_listOf {nm : Bool} : SimC K CA (rListOf K) (fListOf nm) := by
  intro W σ m h H xs ds Q' S r t
  unfold fListOf at t
  split at t
  · split at t
    · rename_i xs e
      cases r with
      | cons r1 r2 =>
        cases r2
        obtain ⟨a, ys, rfl, e1, rr⟩ := rp_seq S r1 e
        exact ⟨a, ys, rfl, e1, fun l n => mkL_post S n rr t⟩
    · exact t.elim
  · exact t.elim
theorem sim_tupOf : SimC K CA (rTupOf K) fTupOf := by
  intro W σ m h H xs ds Q' S r t
  unfold fTupOf at t
  split at t
  · cases r with
    | cons r1 r2 =>
      cases r2
      obtain ⟨a, ys, rfl, e1, rr⟩ := rp_tup r1
      exact ⟨a, ys, rfl, .inr ⟨e1, t.here S r1⟩⟩
  · split at t
    · rename_i xs e
      cases r with
      | cons r1 r2 =>
        cases r2
        obtain ⟨a, ys, rfl, e1, rr⟩ := rp_lst S r1 e
        exact ⟨a, ys, rfl, .inl ⟨.of e1, fun l n => t.laid S n (.tup (S.fresh n) upd_same (rps_laid S n rr))⟩⟩
    · exact t.elim
  · exact t.elim
def fMin : FD := fun ds h => match ds with
  | [.int i, .int j] => .ok (.int (if j < i then j else i)) h
  | _ => .no
def fAbs : FD := fun ds h => match ds with
  | [.int i] => .ok (.int (if i < 0 then -i else i)) h
  | _ => .no
def fInt : FD := fun ds h => match ds with
  | [.int i] => .ok (.int i) h
  | [.bl k] => .ok (.int (if k then 1 else 0)) h
  | _ => .no
def fNeg : F1 := fun d h => match d with
  | .int i => .ok (.int (-i)) h
  | _ => .no
def rMin : List V → Hp → VK → Prop := fun xs H Q => ∃ i j, xs = [V.int i, V.int j] ∧ Q (.int (if j < i then j else i)) H
def rAbs : List V → Hp → VK → Prop := fun xs H Q => ∃ i, xs = [V.int i] ∧ Q (.int (if i < 0 then -i else i)) H
def rInt : List V → Hp → VK → Prop := fun xs H Q => (∃ i, xs = [V.int i] ∧ Q (.int i) H) ∨ ∃ k, xs = [V.bl k] ∧ Q (.int (if k then 1 else 0)) H
theorem call_minU (hc : X.calm = true := by rfl) : CallR X (.builtin "min") rMin := call_min2 hc
theorem sim_min : SimC K CA rMin fMin := by
  intro W σ m h H xs ds Q' S r t
  unfold fMin at t
  split at t
  · cases r with
    | cons r1 r2 => cases r2 with
      | cons r2 r3 => cases r1; cases r2; cases r3; exact ⟨_, _, rfl, t.here S (.int _)⟩
  · exact t.elim
theorem sim_abs : SimC K CA rAbs fAbs := by
  intro W σ m h H xs ds Q' S r t
  unfold fAbs at t
  split at t
  · cases r with
    | cons r1 r2 => cases r1; cases r2; exact ⟨_, rfl, t.here S (.int _)⟩
  · exact t.elim
theorem sim_int : SimC K CA rInt fInt := by
  intro W σ m h H xs ds Q' S r t
  unfold fInt at t
  split at t
  · cases r with
    | cons r1 r2 => cases r1; cases r2; exact .inl ⟨_, rfl, t.here S (.int _)⟩
  · cases r with
    | cons r1 r2 => cases r1; cases r2; exact .inr ⟨_, rfl, t.here S (.int _)⟩
  · exact t.elim
end
end CM
namespace CM
open PySem PySem.Spec PyProof.Rows L2
def strsOf : List D → Option (List Str)
  | [] => some []
  | .str i :: r => match strsOf r with
    | some is => some (i :: is)
    | none => none
  | _ => none
def blsOf : List D → Option (List Bool)
  | [] => some []
  | .bl i :: r => match blsOf r with
    | some is => some (i :: is)
    | none => none
  | _ => none
def fAllB (neg : Bool) : FD := fun ds h => match ds with
  | [d] => match lstOf h d with
    | some xs => match blsOf xs with
      | some bs => .ok (.bl (if neg then bs.any id else bs.all id)) h
      | none => .no
    | none => .no
  | _ => .no
section
variable {X : Cx} {K : PySem.W.Frag} {CA : CAs} {W : WX} {m : Mp} {h : CH} {H : Hp} {e : Expr} {pos : Pos} {ha : TE} {ta : TD}
theorem rp_bls : ∀ {ds : List D} {is : List Bool} {vs : List V}, RpAll K CA m h H vs ds → blsOf ds = some is → vs = is.map V.bl ∧ ds = is.map D.bl
  | [], is, vs, r, e => by cases r; cases e; exact ⟨rfl, rfl⟩
  | d :: ds, is, vs, r, e => by
    cases r with
    | cons r1 r2 =>
      cases r1 with
      | bl i =>
        simp only [blsOf] at e
        split at e
        · rename_i is' e'
          cases e
          obtain ⟨e1, e2⟩ := rp_bls r2 e'
          exact ⟨by rw [e1]; rfl, by rw [e2]; rfl⟩
        · cases e
      | _ => simp [blsOf] at e
theorem all_strs : ∀ ns : List Str, RpAll K CA m h H (ns.map V.str) (ns.map D.str)
  | [] => .nil
  | n :: ns => .cons (.str n) (all_strs ns)
theorem call_allU (hc : X.calm = true := by rfl) (hK : X.K = K := by rfl) : CallR X (.builtin "all") (rAll K) := by subst hK; exact cr_all hc
theorem sim_all : SimC K CA (rAll K) (fAllB false) := by
  intro W σ m h H xs ds Q' S r t
  unfold fAllB at t
  split at t
  · split at t
    · rename_i xs e
      split at t
      · rename_i bs eb
        cases r with
        | cons r1 r2 =>
          cases r2
          obtain ⟨a, ys, rfl, e1, rr⟩ := rp_lst S r1 e
          obtain ⟨q1, q2⟩ := rp_bls rr eb
          subst q1
          exact ⟨a, bs, rfl, .of e1, t.here S (.bl _)⟩
      · exact t.elim
    · exact t.elim
  · exact t.elim
theorem we_neg (x : WE X K CA W e ha ta) : WE X K CA W (.UnaryOp .USub e pos) (tUn (rU fun i => .int (-i)) ha) (dUn fNeg ta) :=
  ⟨pe_un un_neg x.pe, fun m h H σ ρ Q' S t => x.sim m h H σ ρ _ S (t.bind fun d h1 m1 v H1 s1 S1 r1 t1 => by
    unfold fNeg at t1
    split at t1
    · cases r1; exact ⟨_, rfl, t1.here S1 (.int _)⟩
    · exact t1.elim)⟩
end
/-- where the modules' dict stands, no list stands -/
def SM (base : Heap) : Prop := ∃ o es ep, base.get? sysModules = some o ∧ o.data = .dict es ep
def LawF (F : FD) : Prop := ∀ ns : List Int, ns.length ≤ 63 → ∃ h, F [.scr ns] CH.emp = .ok (.bl true) h
end CM
namespace CM
open PySem PySem.Spec PyProof.Rows L2
theorem boot_lenU : bootBuiltins "len" = some (.builtin "len") := by rfl
theorem boot_isinstanceU : bootBuiltins "isinstance" = some (.builtin "isinstance") := by rfl
theorem boot_minU : bootBuiltins "min" = some (.builtin "min") := by rfl
theorem boot_absU : bootBuiltins "abs" = some (.builtin "abs") := by rfl
theorem boot_reprU : bootBuiltins "repr" = some (.builtin "repr") := by rfl
theorem boot_allU : bootBuiltins "all" = some (.builtin "all") := by rfl
theorem boot_intU : bootBuiltins "int" = some (.type "int") := by rfl
theorem boot_boolU : bootBuiltins "bool" = some (.type "bool") := by rfl
theorem boot_strU : bootBuiltins "str" = some (.type "str") := by rfl
theorem boot_tupleU : bootBuiltins "tuple" = some (.type "tuple") := by rfl
theorem boot_listU : bootBuiltins "list" = some (.type "list") := by rfl
theorem call_lenRd {X : Cx} : CallR X (.builtin "len") (fun xs H Q => ∃ a kvs, xs = [V.ref a] ∧ Rd H a (.dK kvs) ∧ Q (.int kvs.length) H) := by
  rintro pins s σ H xs us Q I r ⟨a, kvs, rfl, rd, q⟩
  obtain ⟨u, rfl, ru⟩ := vals1 r
  cases ru
  exact d_len I rd fun t s2 I2 => ⟨V.int kvs.length, H, I2, ⟨t, rfl⟩, q⟩
section
variable {P : Program} {w : World} {K : PySem.W.Frag} {mg : Str → Option Value} {base : Heap} {CA : CAs}
/-- how a def without positional defaults binds, at the function's data -/
theorem KwB.fn {nm qual : Str} {st : Stmt} {f : Addr} {fd : FuncData} {ps : List Str} {n : Nat} {ks : List Str} {src : List Src} (T : Fun K nm qual st f fd) (hc : consts src = [])
    (h : ∀ (kV doc pm : Value) (an : Option Addr) (cdv ct : Value) (us ws : List Value), us.length = n → ws.length = ks.length → bindArgs (PySem.W.fnOf nm qual (defArgs st) (defBody st) (defScope st) .none kV doc pm an cdv ct) ⟨us, ks.zip ws⟩ = pure (ps.zip (pickL us ws src []))) : KwB K CA fd ps n ks src := by
  obtain ⟨c1, o1, k1, d1, p1, a1, v1, t1, s1, rfl, _, _⟩ := T.ex
  exact .of hc fun us ws h1 h2 => h _ _ _ _ _ _ us ws h1 h2
/-- written values, as data -/
theorem WrV.rel : ∀ {u : Value} {d : D}, WrV K u d → ∃ v, RelV v u ∧ ∀ m h H, Rp K CA m h H v d := fun {u d} w => by
  refine WrV.rec (motive_1 := fun u d _ => ∃ v, RelV v u ∧ ∀ m h H, Rp K CA m h H v d) (motive_2 := fun us ds _ => ∃ vs, Vals vs us ∧ ∀ m h H, RpAll K CA m h H vs ds) ?_ ?_ ?_ ?_ ?_ ?_ ?_ w
  · exact fun x t => ⟨.str x, ⟨t, rfl⟩, fun _ _ _ => .str x⟩
  · exact fun x t => ⟨.int x, ⟨t, rfl⟩, fun _ _ _ => .int x⟩
  · exact fun b => ⟨.bl b, rfl, fun _ _ _ => .bl b⟩
  · exact ⟨.non, rfl, fun _ _ _ => .non⟩
  · intro a dd us n sl ds hk _ hl ⟨vs, h1, h2⟩
    exact ⟨.ref a, rfl, fun m h H => .ktup (.inr ⟨_, us.toArray, n, hk, rfl, rfl, by rw [List.size_toArray]; exact hl, by simpa using h1⟩) (h2 m h H)⟩
  · exact ⟨[], .nil, fun _ _ _ => .nil⟩
  · intro u d us ds _ _ ⟨v, h1, h2⟩ ⟨vs, h3, h4⟩
    exact ⟨v :: vs, .cons h1 h3, fun m h H => .cons (h2 m h H) (h4 m h H)⟩
theorem gv_wr {x : Str} {u : Value} {d : D} (h : mg x = some u) (w : WrV K u d) : GV K CA mg x d := by
  obtain ⟨v, h1, h2⟩ := w.rel (CA := CA)
  exact ⟨v, u, h, h1, h2⟩
end
def tys : List String := ["NoneType", "bool", "int", "str", "list", "tuple", "dict"]
def ktB : KT := fun a b => match a, b with
  | .b a, .b b => if a ∈ tys ∧ b ∈ tys then some (a == b || (a == "bool" && b == "int")) else none
  | _, _ => none
theorem kitB_tys : ∀ a, a ∈ tys → ∀ b, b ∈ tys → kitB a b = some (a == b || (a == "bool" && b == "int")) := by decide +kernel
theorem ktB_ok {K : PySem.W.Frag} {CA : CAs} : KtOk K CA [] ktB := by
  refine ⟨fun a b r e => ?_, fun c hc => (nomatch hc)⟩
  cases a with
  | b a => cases b with
    | b b =>
      simp only [ktB] at e
      by_cases c : a ∈ tys ∧ b ∈ tys
      · rw [if_pos c] at e
        rw [← e]
        exact kit_ty (kitB_tys a c.1 b c.2)
      · rw [if_neg c] at e; cases e
    | o c => cases e
  | o c => cases e
end CM
namespace CM
open PySem PySem.Spec PyProof.Rows L2
/-- what stands in the written part -/
structure OwnE (P : Program) (w : World) (K : PySem.W.Frag) (mg : Str → Option Value) (base : Heap) (CA : CAs) (c0 : Nat) (nf : Tg → Bool) (k : Nat) (ps : List Str) (F : FD) (f : Addr) (fd : FuncData) : Prop where
  G : FnG P w K mg base false k f fd ps (spD K CA 2 F)
  at_ : PySem.W.findIn K (.ref (CA c0)) "__eq__" = some (some (.ref f))
  ne : PySem.W.findIn K (.ref (CA c0)) "__ne__" = some (some (.builtin "object.__ne__"))
  fn : PySem.W.isFn K (.ref f) = true
  ob : PySem.W.mroIn K (CA c0) (.type "object") = some true
  nf : ∀ t, nf t = true → PySem.W.notFirst K (CA c0) (t.v CA) = true
  bd : Binds K fd ps []
end CM
namespace CM
open PySem PySem.Spec PyProof.Rows L2
end CM
namespace CM
open PySem PySem.Spec PyProof.Rows L2
end CM
namespace CM
open PySem PySem.Spec PyProof.Rows L2
theorem noG {p : Prop} : (false = true) → p := fun z => nomatch z
theorem pick_cons (d : D) (ds zs : List D) : ∀ (n i : Nat), pickD (d :: ds) zs (srcP (i + 1) n) = pickD ds zs (srcP i n)
  | 0, _ => rfl
  | n + 1, i => by
    show (d :: ds).getD (i + 1) .non :: pickD (d :: ds) zs (srcP (i + 1 + 1) n) = ds.getD i .non :: pickD ds zs (srcP (i + 1) n)
    rw [pick_cons d ds zs n (i + 1)]
    rfl
theorem pick_srcP (zs : List D) : ∀ ds : List D, pickD ds zs (srcP 0 ds.length) = ds
  | [] => rfl
  | d :: ds => by
    show (d :: ds).getD 0 .non :: pickD (d :: ds) zs (srcP 1 ds.length) = d :: ds
    rw [pick_cons, pick_srcP zs ds]
    rfl
theorem srcP_length : ∀ (n i : Nat), (srcP i n).length = n
  | 0, _ => rfl
  | n + 1, i => by rw [srcP, List.length_cons, srcP_length n]
section
variable {X : Cx} {K : PySem.W.Frag} {CA : CAs} {W : WX} {e : Expr} {es : List Expr} {pos p : Pos} {hs : TA} {ts : TDs} {x : Str} {g : Bool} {k : Nat} {ps : List Str} {F : FD} {f : Addr} {fd : FuncData}
/-- f(e, ..), all that there are -/
theorem we_callP (D : Df X.prog X.w X.K X.mg X.base CA x g k ps F f fd) (hG : g = true → X.A.guards = some []) (hr : Room k X.A) (tk' : Takes X W) (h : WA X K CA W (e :: es) hs ts) (B : KwB K CA fd ps ps.length [] (srcP 0 ps.length)) (hg : Gl X x := by rfl) (hK : X.K = K := by rfl)
    (hdb : (x == ("__debug__" : Str)) = false := by decide) (he : starEach (e :: es) X.env = (false, eval e X.env) :: starEach es X.env := by rfl) (hpl : (backTo pos (starEach es X.env)).any (·.1) = false := by rfl) :
    WE X K CA W (.Call (.Name x p) (e :: es) [] pos) (tCallN K CA W ps.length 0 (fun ds _ => F ds) hs L2.tNil) (dCall ps.length F ts) := by
  subst hK
  refine ⟨⟨fun pins s σ H Q I hq => wpAny_Call_Name_kw (ld_glob I hg D.hm ?_ hdb)⟩, sim_call h.sim⟩
  refine PySem.W.callWith_K (h₀ := X.base) I.ok.mod.kin D.hk (thn (h.pe.run pos pins s σ H _ I hq) fun us s1 ⟨vs, H1, I1, r, l1, l2, m, h, ds, es, hR, rd, re, q⟩ => ⟨I1.kIn, ?_⟩) he hpl
  refine run_callN (ws := []) D.G hG hr B tk' I1 r .nil l1 l2 hR rd re (srcP_length _ _) ?_
  have e : pickD ds es (srcP 0 ps.length) = ds := by rw [← l1, rd.length]; exact pick_srcP es ds
  rw [e]
  exact q
end
structure ClsOk (K : PySem.W.Frag) (C : Addr) : Prop where
  cl : Cls K C
  i1 : PySem.W.findIn K (.ref C) "__class__" = some (some (.builtin "object.__class__"))
  i2 : PySem.W.specialIn K (.builtin "object.__class__") "__get__" = some (some (.builtin "getset_descriptor.__get__"))
  i3 : PySem.W.takesIn K (.builtin "object.__class__") = some true
  i4 : PySem.W.mroIn K C (.type "object") = some true
def ktT (sup : List (List Tg)) (bs : List String) : KT := fun a b => match a, b with
  | .b x, .b y => ktB (.b x) (.b y)
  | .b x, .o d => if x ∈ tys ∧ d < sup.length then some false else none
  | .o c, b => match sup[c]? with
    | some l => if (match b with | .b y => decide (y ∈ bs) | .o d => decide (d < sup.length)) = true then some (decide (b ∈ l)) else none
    | none => none
def ktChk (K : PySem.W.Frag) (CA : CAs) (sup : List (List Tg)) (bs : List String) : Bool :=
  (List.range sup.length).all fun c => (tys.all fun x => decide (PySem.W.kitOne K (.type x) (.ref (CA c)) = some false)) && ((bs.all fun y => decide (PySem.W.kitOne K (.ref (CA c)) (.type y) = some (decide (Tg.b y ∈ sup.getD c [])))) &&
    (List.range sup.length).all fun d => decide (PySem.W.kitOne K (.ref (CA c)) (.ref (CA d)) = some (decide (Tg.o d ∈ sup.getD c []))))
theorem ktT_ok {K : PySem.W.Frag} {CA : CAs} {sup : List (List Tg)} {bs : List String} {own : List Nat} (h : ktChk K CA sup bs = true) (hc : ∀ c, c ∈ own → ClsOk K (CA c)) : KtOk K CA own (ktT sup bs) := by
  have look : ∀ c, c < sup.length → (tys.all fun x => decide (PySem.W.kitOne K (.type x) (.ref (CA c)) = some false)) = true ∧ (bs.all fun y => decide (PySem.W.kitOne K (.ref (CA c)) (.type y) = some (decide (Tg.b y ∈ sup.getD c [])))) = true ∧
      (List.range sup.length).all (fun d => decide (PySem.W.kitOne K (.ref (CA c)) (.ref (CA d)) = some (decide (Tg.o d ∈ sup.getD c [])))) = true := fun c lt => by
    have := List.all_eq_true.mp h c (List.mem_range.mpr lt)
    rw [Bool.and_eq_true, Bool.and_eq_true] at this
    exact ⟨this.1, this.2.1, this.2.2⟩
  refine ⟨fun a b r e => ?_, fun c hm => ⟨(hc c hm).cl, (hc c hm).i1, (hc c hm).i2, (hc c hm).i3, (hc c hm).i4⟩⟩
  cases a with
  | b x =>
    cases b with
    | b y => exact (ktB_ok (K := K) (CA := CA)).one _ _ r e
    | o d =>
      simp only [ktT] at e
      by_cases q : x ∈ tys ∧ d < sup.length
      · rw [if_pos q] at e
        cases e
        exact of_decide_eq_true (List.all_eq_true.mp (look d q.2).1 x q.1)
      · rw [if_neg q] at e; cases e
  | o c =>
    simp only [ktT] at e
    split at e
    · rename_i l el
      have lt : c < sup.length := (List.getElem?_eq_some_iff.mp el).1
      have gl : sup.getD c [] = l := by rw [List.getD_eq_getElem?_getD, el]; rfl
      have lk := look c lt
      rw [gl] at lk
      cases b with
      | b y =>
        by_cases q : y ∈ bs
        · simp only [q, decide_true, if_true] at e
          cases e
          exact of_decide_eq_true (List.all_eq_true.mp lk.2.1 y q)
        · simp [q] at e
      | o d =>
        by_cases q : d < sup.length
        · simp only [q, decide_true, if_true] at e
          cases e
          exact of_decide_eq_true (List.all_eq_true.mp lk.2.2 d (List.mem_range.mpr q))
        · simp [q] at e
    · cases e
section
variable {P : Program} {w : World} {K : PySem.W.Frag} {mg : Str → Option Value} {base : Heap} {CA : CAs} {c0 k : Nat} {ps : List Str} {F : FD} {f p : Addr} {fd : FuncData} {nm nmf qual : Str} {st : Stmt}
theorem Df.of {g : Bool} (T : Fun K nmf qual st f fd) (G : FnG P w K mg base g k f fd ps (spD K CA ps.length F)) (hm : mg nm = some (.ref f)) : Df P w K mg base CA nm g k ps F f fd := ⟨G, hm, T.kp⟩
theorem Mtd.of {g : Bool} (T : Fun K nmf qual st f fd) (G : FnG P w K mg base g k f fd ps (spD K CA ps.length F)) (cl : ClsOk K (CA c0)) (hm : PySem.W.findIn K (.ref (CA c0)) nm = some (some (.ref f))) (hf : PySem.W.isFn K (.ref f) = true) : Mtd P w K mg base CA c0 nm g k ps F f fd :=
  ⟨G, cl.cl, ⟨hm, hf, T.kp⟩⟩
theorem Mkd.of (T : Fun K nmf qual st f fd) (G : FnG P w K mg base false k f fd ps (spD K CA ps.length F)) (hm : mg nm = some (.ref (CA c0))) (hi : PySem.W.findIn K (.ref (CA c0)) "__init__" = some (some (.ref f))) (hf : PySem.W.isFn K (.ref f) = true) (mk : PySem.W.makesIn K (CA c0) = true) (kp : PySem.W.keepIn K (.ref (CA c0)) = true) :
    Mkd P w K mg base CA c0 nm k ps F f fd := ⟨G, hm, ⟨mk, hi, hf, kp⟩⟩
theorem Prd.of {rest : List Value} (T : Fun K nmf qual st f fd) (G : FnOk P w K mg base L2.CX0 k f fd ps (spD K CA 1 (noxF F))) (cl : ClsOk K (CA c0)) (h1 : PySem.W.findIn K (.ref (CA c0)) nm = some (some (.ref p))) (h2 : PySem.W.specialIn K (.ref p) "__get__" = some (some (.builtin "property.__get__"))) (h3 : PySem.W.takesIn K (.ref p) = some true)
    (h4 : PySem.W.recIn K p "property" = some (.ref f :: rest)) (b : ∀ (kV doc pm : Value) (an : Option Addr) (cdv ct : Value) (us : List Value), us.length = ps.length → bindArgs (PySem.W.fnOf nmf qual (defArgs st) (defBody st) (defScope st) .none kV doc pm an cdv ct) ⟨us, []⟩ = pure (ps.zip us)) :
    Prd P w K mg base CA c0 nm k ps F := ⟨⟨p, f, fd, G, ⟨h1, h2, h3, rest, h4⟩, T.binds b⟩, cl.cl⟩
def nfB (K : PySem.W.Frag) (CA : CAs) (c0 : Nat) (ts : List Tg) : Bool := ts.all fun t => PySem.W.notFirst K (CA c0) (t.v CA)
theorem OwnE.of {ts : List Tg} (T : Fun K nmf qual st f fd) (G : FnG P w K mg base false k f fd ps (spD K CA ps.length F)) (hl : ps.length = 2) (cl : ClsOk K (CA c0)) (hm : PySem.W.findIn K (.ref (CA c0)) "__eq__" = some (some (.ref f))) (hf : PySem.W.isFn K (.ref f) = true)
    (hn : PySem.W.findIn K (.ref (CA c0)) "__ne__" = some (some (.builtin "object.__ne__"))) (hc : nfB K CA c0 ts = true) (b : ∀ (kV doc pm : Value) (an : Option Addr) (cdv ct : Value) (us : List Value), us.length = ps.length → bindArgs (PySem.W.fnOf nmf qual (defArgs st) (defBody st) (defScope st) .none kV doc pm an cdv ct) ⟨us, []⟩ = pure (ps.zip us)) :
    OwnE P w K mg base CA c0 (fun t => decide (t ∈ ts)) k ps F f fd :=
  ⟨by rw [← hl]; exact G, hm, hn, hf, cl.i4, fun t ht => List.all_eq_true.mp hc t (of_decide_eq_true ht), T.binds b⟩
end
end CM
namespace CM
open PySem PySem.Spec PyProof.Rows L2
end CM
namespace CM
open PySem PySem.Spec PyProof.Rows L2
mutual
inductive DpD (K : PySem.W.Frag) (H : Hp) : V → PyData → Prop
  | non : DpD K H .non .none
  | bl (b : Bool) : DpD K H (.bl b) (.bool b)
  | int (i : Int) : DpD K H (.int i) (.int i)
  | str (x : Str) : DpD K H (.str x) (.str x)
  | lst {a : Addr} {xs : List V} {ds : List PyData} : SqL K H a xs → DpDs K H xs ds → DpD K H (.ref a) (.list ds)
  | tup {a : Addr} {xs : List V} {ds : List PyData} : SqT K H a xs → DpDs K H xs ds → DpD K H (.ref a) (.tuple ds)
  | dct {a : Addr} {kvs : List (Key × V)} {ks ds : List PyData} : Rd H a (.dK kvs) → ks = kvs.map (fun p => match p.1 with | .inl i => PyData.int i | .inr x => PyData.str x) → DpDs K H (kvs.map (·.2)) ds → DpD K H (.ref a) (.dict (ks.zip ds))
inductive DpDs (K : PySem.W.Frag) (H : Hp) : List V → List PyData → Prop
  | nil : DpDs K H [] []
  | cons {v : V} {vs : List V} {d : PyData} {ds : List PyData} : DpD K H v d → DpDs K H vs ds → DpDs K H (v :: vs) (d :: ds)
end
def keyP : Key → PyData
  | .inl i => .int i
  | .inr x => .str x
section
variable {X : Cx} {pins : List (Addr × Obj)} {σ : L2.St} {H : Hp} {s : Shared}
theorem DpDs.length {K : PySem.W.Frag} {vs : List V} {ds : List PyData} (r : DpDs K H vs ds) : vs.length = ds.length := by
  induction vs generalizing ds with
  | nil => cases r; rfl
  | cons v vs ih => cases r with
    | cons _ h => simp [ih h]
theorem keys_reads {P : Program} {w : World} {h : Heap} : ∀ {kvs : List (Key × Value)} {es : List DictEntry}, Pairs (mixKind P w) es kvs → ReadsAll h (es.map (·.key)) (kvs.map fun p => keyP p.1) []
  | [], _, r => by cases r; exact .nil
  | (k, v) :: kvs, _, r => by
    cases r with
    | @cons e _ es _ h1 h2 h3 =>
      have ih := keys_reads (h := h) h3
      have hk : Reads h e.key (keyP k) [] := by
        have h1' : keyIs k e.key = true := h1
        rcases keyIs_shape h1' with ⟨i, t, rfl, q⟩ | ⟨x, t, rfl, q⟩
        · rw [q]; exact .int i t
        · rw [q]; exact .str x t
      exact ReadsAll.cons (as := []) (bs := []) hk ih
theorem vals_pairs {P : Program} {w : World} : ∀ {kvs : List (Key × V)} {vs : List (Key × Value)} {es : List DictEntry}, KV kvs vs → Pairs (mixKind P w) es vs → Vals (kvs.map (·.2)) (es.map (·.val)) ∧ kvs.map (·.1) = vs.map (·.1)
  | [], _, _, r, p => by cases r; cases p; exact ⟨.nil, rfl⟩
  | kv :: kvs, _, _, r, p => by
    cases r with
    | cons a r =>
      cases p with
      | cons h1 h2 h3 =>
        obtain ⟨q1, q2⟩ := vals_pairs r h3
        have hv : L2.RelV kv.2 _ := a.2
        rw [← h2] at hv
        exact ⟨.cons hv q1, by simp only [List.map_cons, q2, a.1]⟩
/-- where a list or a tuple stands, the modules' dict does not -/
theorem sm_ne (I : Inv X pins σ H s) (sm : SM X.base) {a : Addr} {o : Obj} {vs : Array Value} {n : Nat} (e : s.heap.get? a = some o) (d : o.data = .seq vs n) : a ≠ sysModules := fun z => by
  obtain ⟨o', es, ep, e', d'⟩ := sm
  have e2 := I.bk _ _ e'
  rw [← z, e] at e2
  cases e2
  rw [d] at d'
  cases d'
mutual
theorem DpD.reads (I : Inv X pins σ H s) (sm : SM X.base) : ∀ (d : PyData) (v : V) (u : Value), DpD X.K H v d → RelV v u → ∃ as, Reads s.heap u d as ∧ sysModules ∉ as
  | .none, _, _, h, r => by cases h; cases r; exact ⟨_, Reads.none, by simp⟩
  | .bool b, _, _, h, r => by cases h; cases r; exact ⟨_, Reads.bool b, by simp⟩
  | .int i, _, _, h, r => by cases h; obtain ⟨t, rfl⟩ := r; exact ⟨_, Reads.int i t, by simp⟩
  | .str x, _, _, h, r => by cases h; obtain ⟨t, rfl⟩ := r; exact ⟨_, Reads.str x t, by simp⟩
  | .list ds, _, _, h, r => by
    cases h with
    | lst hs ha =>
      cases r
      obtain ⟨its, rv, ⟨o, n, ho, hc, _, hd⟩, _⟩ := I.list hs
      obtain ⟨as, hr, na⟩ := DpDs.reads I sm ds _ its ha rv
      refine ⟨_, Reads.list ho hc hd hr, fun z => ?_⟩
      rcases List.mem_cons.mp z with z | z
      · exact sm_ne I sm ho hd z.symm
      · exact na z
  | .tuple ds, _, _, h, r => by
    cases h with
    | tup hs ha =>
      cases r
      obtain ⟨its, rv, ⟨o, ho, hc, n, hd⟩, _⟩ := I.tuple hs
      obtain ⟨as, hr, na⟩ := DpDs.reads I sm ds _ its ha rv
      exact ⟨_, Reads.tuple ho hc hd hr, na⟩
  | .dict kvs0, _, _, h, r => by
    cases h with
    | @dct a kvs ks ds hr ek ha =>
      cases r
      obtain ⟨z, lo, vs, rel, o, es, ep, ho, hx, hd, _, pr, _⟩ := dk_rd I.hok hr
      obtain ⟨q1, q2⟩ := vals_pairs rel pr
      have kr := keys_reads (h := s.heap) pr
      have ll := ha.length
      have ek2 : ks = vs.map fun p => keyP p.1 := by
        rw [ek]
        have : (fun p : Key × V => (match p.1 with | .inl i => PyData.int i | .inr x => PyData.str x)) = fun p => keyP p.1 := by
          funext p
          obtain ⟨k, v⟩ := p
          cases k <;> rfl
        rw [this]
        have e3 : (kvs.map (·.1)).map keyP = (vs.map (·.1)).map keyP := by rw [q2]
        rw [List.map_map, List.map_map] at e3
        exact e3
      have lk : ks.length = ds.length := by rw [ek, List.length_map, ← ll, List.length_map]
      have m1 : (ks.zip ds).map (·.1) = ks := by rw [List.map_fst_zip]; omega
      have m2 : (ks.zip ds).map (·.2) = ds := by rw [List.map_snd_zip]; omega
      have sz : ∀ p ∈ ks.zip ds, p.2 ∈ ds := fun p hp => (List.of_mem_zip hp).2
      obtain ⟨as, hr2, na⟩ := DpDs.readsZ I sm (ks.zip ds) ds _ _ m2 ha q1
      refine ⟨_, Reads.dict ho hx.1 hd (by rw [m1, ek2]; exact kr) (by rw [m2]; exact hr2), fun z => ?_⟩
      simp only [List.append_nil, List.cons_append, List.mem_cons, List.nil_append] at z
      rcases z with z | z
      · rw [z] at lo; simp at lo
      · exact na z
theorem DpDs.reads (I : Inv X pins σ H s) (sm : SM X.base) : ∀ (ds : List PyData) (vs : List V) (us : List Value), DpDs X.K H vs ds → Vals vs us → ∃ as, ReadsAll s.heap us ds as ∧ sysModules ∉ as
  | [], _, _, h, r => by cases h; cases r; exact ⟨_, ReadsAll.nil, by simp⟩
  | d :: ds, _, _, h, r => by
    cases h with
    | cons h1 h2 =>
      cases r with
      | cons r1 r2 =>
        obtain ⟨as, q1, n1⟩ := DpD.reads I sm d _ _ h1 r1
        obtain ⟨bs, q2, n2⟩ := DpDs.reads I sm ds _ _ h2 r2
        exact ⟨_, ReadsAll.cons q1 q2, by simp [n1, n2]⟩
theorem DpDs.readsZ (I : Inv X pins σ H s) (sm : SM X.base) : ∀ (zs : List (PyData × PyData)) (ds : List PyData) (vs : List V) (us : List Value), zs.map (·.2) = ds → DpDs X.K H vs ds → Vals vs us → ∃ as, ReadsAll s.heap us ds as ∧ sysModules ∉ as
  | [], _, _, _, e, h, r => by subst e; cases h; cases r; exact ⟨_, ReadsAll.nil, by simp⟩
  | (k, d) :: zs, _, _, _, e, h, r => by
    subst e
    cases h with
    | cons h1 h2 =>
      cases r with
      | cons r1 r2 =>
        obtain ⟨as, q1, n1⟩ := DpD.reads I sm d _ _ h1 r1
        obtain ⟨bs, q2, n2⟩ := DpDs.readsZ I sm zs _ _ _ rfl h2 r2
        exact ⟨_, ReadsAll.cons q1 q2, by simp [n1, n2]⟩
end
end
/-- as the library's data, dicts too -/
def toQ (h : CH) : Nat → D → Option PyData
  | 0, _ => none
  | n + 1, d => match d with
    | .non => some .none
    | .bl b => some (.bool b)
    | .int i => some (.int i)
    | .str x => some (.str x)
    | .lst xs => (xs.mapM (toQ h n)).map .list
    | .tup xs => (xs.mapM (toQ h n)).map .tuple
    | .dct kvs => ((kvs.map (·.2)).mapM (toQ h n)).map fun ds => .dict ((kvs.map fun p => keyP p.1).zip ds)
    | .ref k => match h.ob k with
      | some (.lst xs) => (xs.mapM (toQ h n)).map .list
      | some (.dct kvs) => ((kvs.map (·.2)).mapM (toQ h n)).map fun ds => .dict ((kvs.map fun p => keyP p.1).zip ds)
      | _ => none
    | _ => none
section
variable {X : Cx} {K : PySem.W.Frag} {CA : CAs} {W : WX} {m : Mp} {h : CH} {H : Hp}
theorem rp_dpq_of {f : D → Option PyData} (ih : ∀ (d : D) (v : V) (p : PyData), Rp K CA m h H v d → f d = some p → DpD K H v p) : ∀ (ds : List D) (vs : List V) (ps : List PyData), RpAll K CA m h H vs ds → ds.mapM f = some ps → DpDs K H vs ps
  | [], _, _, r, e => by cases r; simp at e; subst e; exact .nil
  | d :: ds, _, _, r, e => by
    cases r with
    | cons h1 h2 =>
      simp only [List.mapM_cons, Option.bind_eq_bind, Option.bind_eq_some_iff, Option.pure_def, Option.some.injEq] at e
      obtain ⟨p, e1, ps, e2, rfl⟩ := e
      exact .cons (ih d _ p h1 e1) (rp_dpq_of ih ds _ ps h2 e2)
theorem dct_dpq {n : Nat} {v : V} {d : D} {kvs : List (Key × D)} {p : PyData} (S : HR K CA m h H) (ih : ∀ (d : D) (v : V) (p : PyData), Rp K CA m h H v d → toQ h n d = some p → DpD K H v p) (r : Rp K CA m h H v d) (ed : dctOf h d = some kvs)
    (e : ((kvs.map (·.2)).mapM (toQ h n)).map (fun ds => PyData.dict ((kvs.map fun p => keyP p.1).zip ds)) = some p) : DpD K H v p := by
  simp only [Option.map_eq_some_iff] at e
  obtain ⟨ps, e1, rfl⟩ := e
  obtain ⟨a, o, hk, rfl, ea, ec, en, r2⟩ := rp_dct S r ed
  have hrd : Rd H a (.dK hk) := by
    rcases core_dK ec with rfl | ⟨ob, rfl⟩
    · exact .inl ea
    · exact .inr ⟨ob, ea⟩
  refine .dct hrd ?_ (rp_dpq_of ih _ _ ps r2 e1)
  have e3 : (kvs.map (·.1)).map keyP = (hk.map (·.1)).map keyP := by rw [en]
  have this : (fun p : Key × V => (match p.1 with | .inl i => PyData.int i | .inr x => PyData.str x)) = fun p => keyP p.1 := by
    funext p
    obtain ⟨k, v⟩ := p
    cases k <;> rfl
  rw [this]
  rw [List.map_map, List.map_map] at e3
  exact e3
theorem rp_dpq (S : HR K CA m h H) : ∀ (n : Nat) (d : D) (v : V) (p : PyData), Rp K CA m h H v d → toQ h n d = some p → DpD K H v p
  | 0, d, _, _, _, e => by cases d <;> cases e
  | n + 1, .non, _, _, r, e => by cases r; simp only [toQ, Option.some.injEq] at e; subst e; exact .non
  | n + 1, .bl b, _, _, r, e => by cases r; simp only [toQ, Option.some.injEq] at e; subst e; exact .bl b
  | n + 1, .int b, _, _, r, e => by cases r; simp only [toQ, Option.some.injEq] at e; subst e; exact .int b
  | n + 1, .str b, _, _, r, e => by cases r; simp only [toQ, Option.some.injEq] at e; subst e; exact .str b
  | n + 1, .lst ds, _, _, r, e => by
    simp only [toQ, Option.map_eq_some_iff] at e
    obtain ⟨ps, e1, rfl⟩ := e
    obtain ⟨a, xs, rfl, e2, r2⟩ := rp_lst S r rfl
    exact .lst (.of e2) (rp_dpq_of (rp_dpq S n) ds xs ps r2 e1)
  | n + 1, .tup ds, _, _, r, e => by
    simp only [toQ, Option.map_eq_some_iff] at e
    obtain ⟨ps, e1, rfl⟩ := e
    obtain ⟨a, xs, rfl, e2, r2⟩ := rp_tup r
    exact .tup e2 (rp_dpq_of (rp_dpq S n) ds xs ps r2 e1)
  | n + 1, .dct kvs, v, p, r, e => dct_dpq S (rp_dpq S n) r rfl (by simpa only [toQ] using e)
  | n + 1, .ref k, v, p, r, e => by
    simp only [toQ] at e
    split at e
    · rename_i ds q
      simp only [Option.map_eq_some_iff] at e
      obtain ⟨ps, e1, rfl⟩ := e
      obtain ⟨a, xs, rfl, e2, r2⟩ := rp_lst S r (show lstOf h (.ref k) = some ds by simp only [lstOf, q])
      exact .lst (.of e2) (rp_dpq_of (rp_dpq S n) ds xs ps r2 e1)
    · rename_i kvs q
      exact dct_dpq S (rp_dpq S n) r (show dctOf h (.ref k) = some kvs by simp only [dctOf, q]) e
    · cases e
  | n + 1, .obj _ _, _, _, _, e => by simp [toQ] at e
  | n + 1, .scr _, _, _, _, e => by simp [toQ] at e
  | n + 1, .ty _, _, _, _, e => by simp [toQ] at e
  | n + 1, .cls _, _, _, _, e => by simp [toQ] at e
  | n + 1, .exc _ _, _, _, _, e => by simp [toQ] at e
def boxed (h : CH) (d : D) : Bool := (seqOf h d).isSome || (dctOf h d).isSome
def fRep : FD := fun ds h => match ds with
  | [.int i] => if i.natAbs.log2 < 1920 then .ok (.str (toString i)) h else .no
  | [d] => match toQ h 14 d with
    | some p => if boxed h d = true ∧ p.showable = true ∧ p.depth ≤ 60 ∧ p.shown.length ≤ sizeLine then .ok (.str p.shown) h else .no
    | none => .no
  | _ => .no
def rRep (K : PySem.W.Frag) : List V → Hp → VK → Prop := fun xs H Q => (∃ i, xs = [.int i] ∧ i.natAbs.log2 < 1920 ∧ Q (.str (toString i)) H) ∨
  ∃ a p, xs = [V.ref a] ∧ DpD K H (V.ref a) p ∧ p.showable = true ∧ p.depth ≤ 60 ∧ p.shown.length ≤ sizeLine ∧ Q (.str p.shown) H
theorem call_rep (sm : SM X.base) (hG : X.A.guards = some []) (hu : X.A.units + 64 < cLine) (hK : X.K = K := by rfl) : CallR X (.builtin "repr") (rRep K) := by
  subst hK
  rintro pins s σ H xs us Q I r (⟨i, rfl, l, q⟩ | ⟨a, p, rfl, dp, sh, dep, sz, q⟩)
  · exact SkE.call_repr_int pins s σ H _ us Q I r ⟨i, rfl, l, q⟩
  · obtain ⟨u, rfl, rx⟩ := vals1 r
    cases (show u = Value.ref a from rx)
    obtain ⟨as, rd, na⟩ := DpD.reads I sm p (V.ref a) _ dp rfl
    exact repr_of_reads' rd sh (fun _ => na) hG (by omega) (fun _ _ e => e) (fun h' u tk hk => ⟨.str p.shown, H, I.kept hk, ⟨u, rfl⟩, q⟩) sz
theorem sim_rep : SimC K CA (rRep K) fRep := by
  intro W σ m h H xs ds Q' S r t
  unfold fRep at t
  split at t
  · cases r with
    | cons r1 r2 =>
      cases r1
      cases r2
      obtain ⟨c, t⟩ := post_ite t
      exact .inl ⟨_, rfl, c, t.here S (.str _)⟩
  · rename_i d _
    split at t
    · rename_i p e2
      obtain ⟨⟨c0, c1, c2, c3⟩, t⟩ := post_ite t
      cases r with
      | cons r1 r2 =>
        cases r2
        unfold boxed at c0
        cases e1 : seqOf h d with
        | some ys =>
          obtain ⟨a, zs, rfl, _, _⟩ := rp_seq S r1 e1
          exact .inr ⟨a, p, rfl, rp_dpq S _ _ _ p r1 e2, c1, c2, c3, t.here S (.str _)⟩
        | none =>
          rw [e1] at c0
          cases e3 : dctOf h d with
          | none => rw [e3] at c0; simp at c0
          | some kvs =>
            obtain ⟨a, o, hk, rfl, _⟩ := rp_dct S r1 e3
            exact .inr ⟨a, p, rfl, rp_dpq S _ _ _ p r1 e2, c1, c2, c3, t.here S (.str _)⟩
    · exact t.elim
  · exact t.elim
end
end CM
namespace CM
open PySem PySem.Spec PySem.Calls PyProof.Rows L2
/-- an exception's __init__, as it is written -/
abbrev iniBody (txt fl arg : Str) (j : Nat) (p0 p1 p2 p3 p4 p5 q0 q1 q2 q3 : Pos) : List Stmt :=
  [.Expr (.Call (.Attribute (.Call (.Name "super" p0) [] [] p1) "__init__" p2) [.Constant (.str txt) j p3] [] p4) p5, .Assign [.Attribute (.Name "self" q0) fl q1] (.Name arg q2) q3]
/-- super().__init__(txt) is carried out as a method's call -/
def IniEv (txt : Str) (j : Nat) (p0 p1 p2 p3 p4 : Pos) (env : Env) (pl : Sem Bool) : Prop :=
  eval (.Call (.Attribute (.Call (.Name "super" p0) [] [] p1) "__init__" p2) [.Constant (.str txt) j p3] [] p4) env = (do
      let ov ← attributeBase (.Call (.Name "super" p0) [] [] p1) "__init__" env (eval (.Call (.Name "super" p0) [] [] p1) env)
      standAt p2.atName
      let (f, first) ← holding [ov] (getMethod ov "__init__" pl)
      callWith p4 f first (backTo p4 (starEach [.Constant (.str txt) j p3] env)) [])
/-- what its names are -/
def iniScB (arg : Str) (sc : Scope) : Bool :=
  decide (sc.kind = .function) && (!sc.isCoroutine && (!sc.isGenerator && (decide (sc.names.lookup ("super" : Str) = some .globalImplicit) && (decide (sc.names.lookup ("__class__" : Str) = some .free) &&
  (decide (sc.names.lookup ("self" : Str) = some .local) && (decide (sc.names.lookup arg = some .local) && (decide (("self" : Str) ≠ arg) && (decide (arg ≠ ("__debug__" : Str)) && (!(arg == ("__classdict__" : Str)) && sc.names.all fun y => !decide (y.2 = .cell) && (!decide (y.2 = .free) || decide (y.1 = ("__class__" : Str))))))))))))
structure IniSc (arg : Str) (sc : Scope) : Prop where
  kind : sc.kind = .function
  co : sc.isCoroutine = false
  gen : sc.isGenerator = false
  su : sc.names.lookup ("super" : Str) = some .globalImplicit
  cl : sc.names.lookup ("__class__" : Str) = some .free
  se : sc.names.lookup ("self" : Str) = some .local
  ar : sc.names.lookup arg = some .local
  ne : ("self" : Str) ≠ arg
  db : arg ≠ ("__debug__" : Str)
  dcd : (arg == ("__classdict__" : Str)) = false
  nc : ∀ y ∈ sc.names, y.2 ≠ .cell
  fr : ∀ y ∈ sc.names, y.2 = .free → y.1 = ("__class__" : Str)
theorem iniSc_by {arg : Str} {sc : Scope} (h : iniScB arg sc = true) : IniSc arg sc := by
  unfold iniScB at h
  simp only [Bool.and_eq_true, Bool.or_eq_true, Bool.not_eq_true', decide_eq_true_eq, decide_eq_false_iff_not, List.all_eq_true] at h
  obtain ⟨h1, h2, h3, h4, h5, h6, h7, h8, h9, h9b, h10⟩ := h
  exact ⟨h1, h2, h3, h4, h5, h6, h7, h8, h9, h9b, fun y hy => (h10 y hy).1, fun y hy e => (h10 y hy).2.resolve_left fun z => z e⟩
/-- what the written part says of the class at C and its __init__ at f -/
structure IniOk (P : Program) (K : PySem.W.Frag) (mg : Str → Option Value) (C f : Addr) (fl arg : Str) (fd : FuncData) : Prop where
  ox : OexC K C
  sup : PySem.W.ks_superIn K C C "__init__" = some (some (.builtin "ValueError.__init__"))
  ve : PySem.W.subIn K (.ref C) (.type "ValueError") = some true
  sc : PySem.W.mroIn K C (.ref C) = some true
  op : PySem.W.nsIn K cStatics "thirdparty.any" = some none
  no : PySem.W.findIn K (.ref C) fl = some none
  su : mg "super" = none
  tp : (P.main.scope.names.lookup ("super" : Str)).isSome = false
  bd : ∀ (s : Shared) (u v : Value), BindsTo s fd ⟨[u, v], []⟩ [("self", u), (arg, v)] ∧ BindsTo s fd ⟨[u], [(arg, v)]⟩ [("self", u), (arg, v)]
  fn : ∃ (qual txt : Str) (j : Nat) (p0 p1 p2 p3 p4 p5 q0 q1 q2 q3 : Pos) (params : Arguments) (scope : Scope) (dV kV doc pm ct oc : Value) (an od : Option Addr) (osl : Array (Option Value)) (cda cc : Addr),
    fd = PySem.W.ksFn "__init__" qual params (iniBody txt fl arg j p0 p1 p2 p3 p4 p5 q0 q1 q2 q3) scope dV kV doc pm an (.ref cda) ct cc ∧ K.lookup f = some ⟨oc, od, .func fd, osl⟩ ∧ PySem.W.codeIn K (.ref cda) qual = true ∧ IniSc arg scope ∧
    (∃ ar, (params.posonlyargs ++ params.args).head? = some ar ∧ ar.arg = ("self" : Str)) ∧ (∃ ccl cdd cvs ccs file tf, K.lookup cda = some ⟨ccl, cdd, .fields cvs, ccs⟩ ∧ cvs[2]? = some (.str file tf) ∧ ((P.main.file : Str) == file) = true) ∧
    (∃ cl cld csl, K.lookup cc = some ⟨cl, cld, .cell (some (.ref C)), csl⟩) ∧ (∀ env : Env, ∃ pl : Sem Bool, IniEv txt j p0 p1 p2 p3 p4 env pl)
def iniCx (P : Program) (w : World) (K : PySem.W.Frag) (mg : Str → Option Value) (base : Heap) (arg qual : Str) (scope : Scope) (f : Addr) (cdv : Value) (cc : Addr) (A : Around) (outer : List Env) (s : Shared) (H : Hp) : Cx where
  prog := P
  w := w
  K := K
  mg := mg
  base := base
  A := A.deeper (PySem.W.ksEnv qual scope s.heap.objs.size f cdv cc)
  N := ["self", arg]
  s_0 := s
  H_0 := H
  env := PySem.W.ksEnv qual scope s.heap.objs.size f cdv cc
  outer := outer
  stack := PySem.W.ksEnv qual scope s.heap.objs.size f cdv cc :: outer
  ex := []
  fn := fun _ => false
  calm := true
  pn := []
  xe := fun _ _ => False
section
variable {P : Program} {w : World} {K : PySem.W.Frag} {mg : Str → Option Value} {base : Heap} {arg qual : Str} {scope : Scope} {f cc C a : Addr} {cdv : Value} {A : Around} {outer : List Env} {s : Shared} {H : Hp} {v : V} {u : Value} {h₁ : Heap} {tk : Nat}
theorem ini_inv (S : IniSc arg scope) (hd : A.handled = none) (e0 : Env0 P w K mg base A outer s H) (hns : h₁.Ns s.heap.objs.size fun y => ([("self", Value.ref a), (arg, u)] : List (Str × Value)).reverse.lookup y) (kp : ∀ b o, s.heap.get? b = some o → h₁.get? b = some o) (rv : RelV v u)
    (lc : ∃ cl cld csl, K.lookup cc = some ⟨cl, cld, .cell (some (.ref C)), csl⟩) : Inv (iniCx P w K mg base arg qual scope f cdv cc A outer s H) [] [some (.ref a), some v] H { s with heap := h₁, toks := tk } := by
  obtain ⟨cl, cld, csl, lc⟩ := lc
  have noA : ∀ b : Addr, b ∉ (iniCx P w K mg base arg qual scope f cdv cc A outer s H).ex := fun b z => absurd (show b ∈ ([] : List Addr) from z) (by simp)
  have lkC : ∀ {y : Str} {c : Addr}, ([("__class__", cc)] : List (Str × Addr)).lookup y = some c → y = "__class__" ∧ c = cc := fun {y c} e => by
    simp only [List.lookup] at e
    split at e
    · rename_i q
      exact ⟨by simpa using q, by cases e; rfl⟩
    · cases e
  have cb := e0.bs _ _ (e0.mod.kin _ _ lc)
  refine ⟨⟨e0.mod, S.kind, rfl, rfl, Nat.le_refl _, fun y z c e1 e2 => ?_, fun y hy => ?_, fun y c z _ => (nomatch (show false = true from z)), fun _ => hd, Around.frames_deeper e0.frames, .inr ⟨rfl, rfl⟩, fun b z => absurd z (noA b), e0.bs, e0.bsz, fun b _ _ => noA b,
      fun b z => absurd z (noA b), e0.funs, e0.frf⟩,
    rfl, e0.bare, Un.kept kp, ⟨_, hns, fun i y x e1 e2 e3 => ?_⟩, fun y c e => ?_, e0.hok.fresh (Nat.le_refl _), fun y c e => ?_, fun q hq => absurd (show q ∈ ([] : List (Addr × Obj)) ++ [] from hq) (by simp), e0.hok.kept kp, rfl⟩
  · exact (lkC e1).1.trans (lkC e2).1.symm
  · have hy : scope.names.lookup y = some .cell ∨ scope.names.lookup y = some .free := hy
    rcases hy with hy | hy
    · exact absurd rfl (S.nc _ (PySem.mem_of_lookup hy))
    · have := S.fr _ (PySem.mem_of_lookup hy) rfl
      subst this
      exact ⟨cc, by simp [PySem.W.ksEnv, iniCx]⟩
  · match i, e1, e2 with
    | 0, e1, e2 =>
      cases e1
      cases e2
      refine ⟨.ref a, rfl, .inl ⟨S.se, ?_⟩⟩
      have nb : (("self" : Str) == arg) = false := by simpa using S.ne
      simp [List.lookup, nb]
    | 1, e1, e2 =>
      cases e1
      cases e2
      refine ⟨u, rv, .inl ⟨S.ar, ?_⟩⟩
      simp [List.lookup]
    | (i + 2), e1, e2 => exact absurd (show (([] : List (Option V))[i]? = some (some x)) from e2) (by simp)
  · obtain ⟨_, rfl⟩ := lkC e
    exact ⟨_, _, kp _ _ cb.1, rfl⟩
  · obtain ⟨_, rfl⟩ := lkC e
    exact cb.2
end
def spIni (C : Addr) (fl : Str) : Sp := fun vs H Q _ => ∃ a v, vs = [.ref a, v] ∧ H a = some (exo a C none) ∧ ∀ dx, H dx = none → dx ≠ a → Q .non (upd (upd H dx (exd dx [(fl, v)])) a (exo a C (some dx)))
section
variable {P : Program} {w : World} {K : PySem.W.Frag} {mg : Str → Option Value} {base : Heap} {C f : Addr} {fl arg : Str} {fd : FuncData} {CX : CXT}
set_option maxHeartbeats 8000000 in
theorem ini_ok (IO : IniOk P K mg C f fl arg fd) : FnOk P w K mg base CX 1 f fd ["self", arg] (spIni C fl) := by
  obtain ⟨ox, sup, ve, sc, op, no, su, tp, bd, qual, txt, j, p0, p1, p2, p3, p4, p5, q0, q1, q2, q3, params, scope, dV, kV, doc, pm, ct, oc, an, od, osl, cda, cc, rfl, lk, hcd, S, ⟨ar, har, hself⟩, ⟨ccl, cdd, cvs, ccs, file, tf, lkc, cv2, hfile⟩, lc, hev⟩ := IO
  refine ⟨fun vs H Q E ⟨a, v, e, _⟩ => by rw [e]; rfl, fun A outer s H args us vs Q E hr e0 hb r hsp => ?_⟩
  obtain ⟨a, v, rfl, ha, q⟩ := hsp
  cases r with
  | @cons _ u0 _ ur ra r1 =>
  obtain rfl : u0 = Value.ref a := ra
  cases r1 with
  | @cons _ u _ ur2 rv r2 =>
  cases r2
  have KX : K.In s.heap := e0.mod.kin.keeps fun b o e => (e0.bs b o e).1
  have lim : s.heap.NoLimit := e0.mod.nolimit.keeps fun b o e => (e0.bs b o e).1
  refine ks_codeAny_call_defAt (fd := PySem.W.ksFn "__init__" qual params (iniBody txt fl arg j p0 p1 p2 p3 p4 p5 q0 q1 q2 q3) scope dV kV doc pm an (.ref cda) ct cc) (binds := [("self", .ref a), (arg, u)]) hr.depth (KX _ _ lk) rfl lim (PySem.W.codeRec_of KX hcd) rfl hb
    S.nc (fun x hx => ?_) (fun h₁ hns hk => ?_) S.co S.gen S.kind
  · rcases List.mem_cons.mp hx with rfl | hx
    · exact S.se
    · rcases List.mem_cons.mp hx with rfl | hx
      · exact S.ar
      · exact absurd hx (by simp)
  have I : Inv (iniCx P w K mg base arg qual scope f (.ref cda) cc A outer s H) [] [some (.ref a), some v] H { s with heap := h₁, toks := s.toks + 2 } := ini_inv S hr.hd e0 hns hk rv lc
  have hsm : (fun y => ([("self", Value.ref a), (arg, u)] : List (Str × Value)).reverse.lookup y) ar.arg = some (.ref a) := by
    have nb : (("self" : Str) == arg) = false := by simpa using S.ne
    rw [hself]
    simp [List.lookup, nb]
  obtain ⟨cl, cld, csl, lc⟩ := lc
  obtain ⟨nm, qq, N, bs, bm, sn, sub, ab, col, dd, k0, k1, k2, k3, k5, hC, hbm⟩ := id ox.cls
  have hcl : PySem.W.clsIn K C = some { name := nm, bases := bs, mro := .ref C :: bm, ns := N, qualname := qq, hasDict := true, slotNames := sn, subclasses := sub, abstract := ab, collection := col, hasDel := false } := by unfold PySem.W.clsIn; rw [hC] <;> rfl
  unfold PySem.W.ks_superIn at sup
  rw [hcl] at sup
  have KI := I.kIn
  have GL : h₁.Ns mainGlobals mg := I.mod.glob.keeps I.bk
  obtain ⟨mb, hb1, hb2⟩ := I.mod.blt
  have BL : h₁.Ns builtinsNs mb := hb1.keeps I.bk
  obtain ⟨t1, hoa⟩ := exo_at I.hok ha
  refine ks_wpAt_mono (Q := fun fw s' => fw = .next ∧ CE outer P w H s Q .none s') (E := fun _ _ => False) ?_ (fun fw s' ⟨e, h⟩ => by subst e; exact h) (fun _ _ z => z.elim)
  obtain ⟨pl, hev⟩ := hev (PySem.W.ksEnv qual scope s.heap.objs.size f (.ref cda) cc)
  refine ks_wpAt_execs_cons (ks_wpAt_Expr_any (ks_wpAt_MethodCall ?_ hev) (by show (scope.kind == .module && _) = false; rw [S.kind]; rfl))
  refine ks_wpAt_super_base S.su S.cl (by decide) rfl (KI _ _ lk) rfl har rfl (KI _ _ lkc) rfl cv2 hfile tp ?_
  refine PySem.W.ks_loadName_global S.kind S.su (Calls.loadGlobal_builtin GL su BL ((hb2 _ (by decide)).trans PyProof.Rows.Boot.«super») ⟨rfl, ?_⟩)
  refine wpAny_loadName_free S.kind S.cl rfl ⟨_, KI _ _ lc, rfl⟩ ?_
  refine wpAny_loadName_local S.kind (hself ▸ S.se) hns hsm ?_
  refine ks_wpAny_isType_cls (KI _ _ hC) rfl ⟨rfl, ?_⟩
  refine ks_wpAny_call_super (KI _ _ hC) rfl hoa rfl (fun c e => by cases e) (PySem.W.looks_mroIn KI sc) (fun h2 so k => ?_)
  have I2 : Inv (iniCx P w K mg base arg qual scope f (.ref cda) cc A outer s H) [] [some (.ref a), some v] H { s with heap := h2, toks := s.toks + 2 } := I.un (Un.kept k) (I.hok.kept k)
  have KI2 := I2.kIn
  have IA : PySem.W.InstAt h2 a { cls := .ref C, dict := none, data := .fields #[.ref t1, .none, .none, .none, .bool false, .none] } C none := ⟨k _ _ hoa, rfl, rfl, trivial⟩
  refine PySem.W.kxs_getMethod PySem.W.kxs_ValueError so (PySem.W.looks_opaque KI2 op) (l₀ := .ref C :: bm) (fun A Q E s k q => wpAny_bind ((PySem.W.looks_clsIn KI2 hcl) A _ E s k (wpAny_pure q))) rfl KI2 sup (IA.type.andThen (PySem.W.looks_subIn KI2 ve)) (PySem.W.ks_ne KI2 IA hcl) (by decide) ?_
  have I3 : Inv (iniCx P w K mg base arg qual scope f (.ref cda) cc A outer s H) [(h2.objs.size, PySem.W.kxs_mw "ValueError.__init__" a)] [some (.ref a), some v] H { s with heap := h2.push (PySem.W.kxs_mw "ValueError.__init__" a), toks := s.toks + 3 } :=
    Inv.pins_of (pins := []) (I2.un (Un.kept fun b o e => Heap.get?_push_of_some _ e) (I2.hok.kept fun b o e => Heap.get?_push_of_some _ e)) fun p hp => by
      obtain rfl : p = _ := by simpa using hp
      exact ⟨Heap.get?_push_at rfl rfl, I2.hok.fresh (Nat.le_refl _), fun z => absurd I2.lt (by show ¬ _ < h2.objs.size; rw [show h2.objs.size = _ from z]; exact Nat.lt_irrefl _), I2.nofs (Nat.le_refl _), fun v z => by cases z⟩
  have ha3 : PA (iniCx P w K mg base arg qual scope f (.ref cda) cc A outer s H) [.Constant (.str txt) j p3] (tCons (tC (.str txt)) tNil) := pa_cons pe_str pa_nil
  refine PySem.W.kxs_callWith (i := "ValueError.__init__") (x := a) (by rfl) (evalArgs_plain (thn (ha3.run p4 [(h2.objs.size, PySem.W.kxs_mw "ValueError.__init__" a)] _ _ H (fun vs H1 => vs.length = 1 ∧ H1 = H) I3 ⟨rfl, rfl⟩) fun vs s1 hh => ?_))
  obtain ⟨vs1, H1, I4, r4, hl1, eH⟩ := hh
  subst eH
  have hl4 : vs.length ≤ sizeLine := by
    rw [← Paired.length r4, hl1, sizeLine_eq]
    omega
  obtain ⟨hu, _⟩ := I4.pin (h2.objs.size, PySem.W.kxs_mw "ValueError.__init__" a) (List.mem_append_right _ (List.mem_cons_self ..))
  obtain ⟨t4, ho4⟩ := exo_at I4.hok ha
  refine ⟨hu, ?_⟩
  obtain ⟨hp4, g4, d4, tk4, os4⟩ := s1
  refine wpAny_call (codeAny_of_tree ?_)
  show wpAny _ (Around.in1 _) (callAny (.ref h2.objs.size) ⟨[] ++ vs, []⟩) _ _ _
  simp only [callAny]
  refine wpAny_bind (wpAny_load hu ?_)
  simp only [PySem.W.kxs_mw, show (Value.type "method-wrapper" == Value.type "method" || Value.type "method-wrapper" == Value.type "builtin_function_or_method" || Value.type "method-wrapper" == Value.type "method-wrapper") = true by decide, if_true]
  refine PySem.W.KFB.if_so (by decide) ?_
  refine wpAny_bind (PySem.W.check_bound_init F.excBase_ValueError.toExcCallFacts (I4.kIn _ _ hC) ho4 rfl ?_)
  refine wpAny_bind (wpAny_pure (wpAny_pure ?_))
  refine ⟨plainId_quiet F.excBase_ValueError.init.plain _, codeAny_builtin F.excBase_ValueError.initEntry ?_⟩
  refine PySem.W.exc_init_tree (cls := .ref C) (t0 := t4) (dv := none) (c2 := .none) (c3 := .none) (b4 := .bool false) ho4 hl4 fun h' kk hx _ => ?_
  have J := I4.write (t' := tk4) (x := a) (e := a) (o := exo a C none) (by rw [ha]; exact True.intro) (.inl rfl) kk ⟨_, hx⟩ (exo_ok hx)
  have eu : upd H1 a (exo a C none) = H1 := by
    funext b
    by_cases hb : b = a
    · rw [hb, upd_same, ha]
    · rw [upd_ne hb]
  rw [eu] at J
  have J2 : Inv (iniCx P w K mg base arg qual scope f (.ref cda) cc A outer s H1) [] [some (.ref a), some v] H1 ⟨h', g4, d4, tk4, os4⟩ := J.pins_of (pins' := []) fun p z => absurd z (by simp)
  refine ks_wpAt_execs_cons (ks_wpAt_Assign_Attr (wpAt_of_wpAny (thn ((pe_var (i := 1) (x := arg) rfl (.inl S.ar) (by simpa using S.db) S.dcd).run [] _ _ H1 (fun y H2 => y = v ∧ H2 = H1) J2 ⟨v, rfl, rfl, rfl⟩) fun u5 s5 h5 => ?_)) (by rfl))
  obtain ⟨y5, H5, J5, r5, rfl, rfl⟩ := h5
  refine thn ((pe_var (i := 0) (x := "self") rfl (.inl S.se)).run [] _ _ H5 (fun y H2 => y = V.ref a ∧ H2 = H5) J5 ⟨.ref a, rfl, rfl, rfl⟩) fun u6 s6 h6 => ?_
  obtain ⟨y6, H6, J6, r6, rfl, rfl⟩ := h6
  obtain rfl : u6 = Value.ref a := r6
  refine ost_new ox J6 ha no r5 fun dx s' n ne J7 => ?_
  exact wpAt_of_wpAny (wpAny_execs_nil ⟨rfl, .non, _, J7.os, J7.bare, J7.base, J7.hok, rfl, q dx n ne⟩)
end
end CM
namespace CM
open PySem PySem.Spec PySem.Calls PyProof.Rows L2 PySem.HandSPX
end CM
namespace CM
open PySem PySem.Spec PySem.Calls PyProof.Rows L2
section
variable {X : Cx} {pins : List (Addr × Obj)} {σ : L2.St} {H : Hp} {s : Shared} {a C d f : Addr} {fs : List (Str × V)} {fl arg : Str} {fd : FuncData}
/-- the class at C, called x, is made by its __init__ at f -/
structure Xmd (P : Program) (K : PySem.W.Frag) (mg : Str → Option Value) (C : Addr) (x fl arg : Str) : Prop where
  hm : mg x = some (.ref C)
  ini : ∃ (f : Addr) (fd : FuncData), IniOk P K mg C f fl arg fd ∧ PySem.W.findIn K (.ref C) "__init__" = some (some (.ref f)) ∧ PySem.W.typeIn K (.ref f) = some (.type "function")
end
end CM
namespace CM
open PySem PySem.Spec PySem.Calls PyProof.Rows L2
/-- err.n may be read -/
def XfOf (K : PySem.W.Frag) (CA : CAs) (cs : List Nat) (n : Str) : Prop := ∀ c ∈ cs, XfC K (CA c) ∧ PySem.W.findIn K (.ref (CA c)) n = some none
def fXf (cs : List Nat) (n : Str) : F1 := fun d h => match d with
  | .exc c fs => if c ∈ cs then (match fs.lookup n with
    | some v => .ok v h
    | none => .no) else .no
  | _ => .no
def tXfv (K : PySem.W.Frag) (n : Str) (te : TE) : TE := fun σ H Q => te σ H fun x H1 => ∃ a C dd fs v, x = .ref a ∧ H1 a = some (ExV C a (some dd)) ∧ H1 dd = some (.xd fs) ∧ XfC K C ∧ PySem.W.findIn K (.ref C) n = some none ∧ fs.lookup n = some v ∧ Q v H1
section
variable {X : Cx} {K : PySem.W.Frag} {CA : CAs} {W : WX} {e : Expr} {pos : Pos} {te : TE} {ta : TD} {n : Str} {cs : List Nat} {s : Shared} {σ : L2.St} {H : Hp} {pins : List (Addr × Obj)}
theorem exv_inst {C a : Addr} {dd : Option Addr} (I : Inv X pins σ H s) (e : H a = some (ExV C a dd)) (hd : dd = none ∨ ∃ x fs, dd = some x ∧ H x = some (.xd fs)) : ∃ oe od, PySem.W.InstAt s.heap a oe C od ∧
    ∀ x fs, dd = some x → H x = some (.xd fs) → ∃ (mA : Str → Option Value) (ob : Obj), od = some ob ∧ (∀ y, RelO (fs.lookup y) (mA y)) ∧ ∀ n, PySem.W.lookIn n ob = some (mA n) := by
  obtain ⟨⟨oe, vs, ho, hz, hdt⟩, _, _⟩ := I.hok a _ e
  have nc : PySem.W.notCls oe = true := by unfold PySem.W.notCls; rw [hdt] <;> rfl
  rcases hd with rfl | ⟨x, fs, rfl, ex⟩
  · exact ⟨oe, none, ⟨ho, hz.1, nc, by rw [hz.2]; trivial⟩, fun x fs e => by cases e⟩
  · obtain ⟨mA, hns, hr⟩ := (show ObjOk X.prog X.w H s.heap x (.xd fs) from I.hok x _ ex)
    obtain ⟨od, hod, hl⟩ := lookIn_ns hns
    refine ⟨oe, some od, ⟨ho, hz.1, nc, by rw [hz.2]; exact hod⟩, fun x' fs' e1 e2 => ?_⟩
    cases e1
    rw [ex] at e2
    cases e2
    exact ⟨mA, od, rfl, hr, hl⟩
theorem we_xf (hf : XfOf K CA cs n) (x : WE X K CA W e te ta) (hb : attributeBase e n X.env (eval e X.env) = eval e X.env := by rfl) (hK : X.K = K := by rfl) : WE X K CA W (.Attribute e n pos) (tXfv K n te) (dUn (fXf cs n) ta) := by
  subst hK
  refine ⟨⟨fun pins s σ H Q I h => ?_⟩, fun m h H σ ρ Q' S t => x.sim m h H σ ρ _ S (t.bind fun d h1 m1 v H1 s1 S1 r1 t1 => ?_)⟩
  · refine attr_of hb (thn (x.pe.run pins s σ H _ I h) fun u s1 hh => ?_)
    obtain ⟨x, H1, I1, rx, a, C, dd, fs, v, ex, ea, ed, T, hno, l, q⟩ := hh
    subst ex
    obtain rfl : u = Value.ref a := rx
    obtain ⟨oe, od, J, g⟩ := exv_inst I1 ea (.inr ⟨dd, fs, rfl, ed⟩)
    obtain ⟨mA, ob, rfl, hr, hl⟩ := g _ _ rfl ed
    obtain ⟨u, hu, ru⟩ := RelO.some_of (v := v) (o := mA n) (by rw [← l]; exact hr n)
    exact HandSPX.exc_get I1.kIn J T.ga T.gg T.exC (PySem.W.findObj_own T.hdC hno rfl (by rw [hl, hu])) (handed_of ru) ⟨v, H1, I1.tok _, ru, q⟩
  · unfold fXf at t1
    split at t1
    · rename_i c fs
      by_cases hc : c ∈ cs
      · rw [if_pos hc] at t1
        split at t1
        · rename_i y el
          cases r1 with
          | exc na ea hd en ra =>
            obtain ⟨v, hv, rv⟩ := rp_look en ra el
            rcases hd with ⟨rfl, rfl⟩ | ⟨x, rfl, nx, ex⟩
            · cases hv
            · exact ⟨_, _, _, _, v, rfl, ea, ex, (hf c hc).1, (hf c hc).2, hv, t1.here S1 rv⟩
        · exact t1.elim
      · rw [if_neg hc] at t1; exact t1.elim
    · exact t1.elim
end
structure XkC (K : PySem.W.Frag) (C : Addr) : Prop where
  cl : (PySem.W.clsIn K C).isSome = true
  ga : PySem.W.findIn K (.ref C) "__getattribute__" = some (some (.builtin "BaseException.__getattribute__"))
  gg : PySem.W.findIn K (.ref C) "__getattr__" = some none
  ex : PySem.W.subIn K (.ref C) (.type "BaseException") = some true
  ca : PySem.W.findIn K (.ref C) "__class__" = some (some (.builtin "object.__class__"))
  sp : PySem.W.specialIn K (.builtin "object.__class__") "__get__" = some (some (.builtin "getset_descriptor.__get__"))
  tk : PySem.W.takesIn K (.builtin "object.__class__") = some true
  ob : PySem.W.mroIn K C (.type "object") = some true
def fIsX (xs own : List Nat) (kt : KT) : FD := fun ds h => match ds with
  | [.exc c fs, t] => match clsOf t with
    | some b => if c ∈ xs then (match kt (.o c) b with
      | some r => .ok (.bl r) h
      | none => .no) else .no
    | none => .no
  | _ => fIsi own kt ds h
def rIsX (K : PySem.W.Frag) : List V → Hp → VK → Prop := fun xs H Q => ∃ (a C : Addr) (c : V) (u : Value) (dd : Option Addr) (b : Bool), xs = [.ref a, c] ∧ ClsV c u ∧ H a = some (ExV C a dd) ∧ (dd = none ∨ ∃ x fs, dd = some x ∧ H x = some (.xd fs)) ∧ XkC K C ∧ PySem.W.kitOne K (.ref C) u = some b ∧ Q (.bl b) H
section
variable {X : Cx} {K : PySem.W.Frag} {CA : CAs} {xs own : List Nat} {kt : KT}
theorem call_isX0 : CallR X (.builtin "isinstance") (rIsX X.K) := by
  intro pins s σ H xs us Q I r h
  obtain ⟨a, C, c, u, dd, b, rfl, k, ea, hd, T, e, q⟩ := h
  obtain ⟨u1, u2, rfl, r1, r2⟩ := vals2 r
  have e2 := k.eq r2
  subst e2
  obtain rfl : u1 = Value.ref a := r1
  obtain ⟨oe, od, J, _⟩ := exv_inst I ea hd
  exact PySem.W.kia_one (PySem.W.kitx_exc (ox := oe) (od := od) T.cl T.ga T.gg T.ex T.ca T.sp T.tk T.ob) I.kIn J e (fun z => by cases z) fun tk => ⟨.bl b, H, I.tok tk, rfl, q⟩
def rIsXU (K : PySem.W.Frag) : List V → Hp → VK → Prop := fun xs H Q => rIsX K xs H Q ∨ rIsi K xs H Q
theorem call_isX (hK : X.K = K := by rfl) : CallR X (.builtin "isinstance") (rIsXU K) := by subst hK; exact call_isX0.or call_isi
theorem sim_isX (hx : ∀ c ∈ xs, XkC K (CA c)) (kk : KtOk K CA own kt) : SimC K CA (rIsXU K) (fIsX xs own kt) := by
  intro W σ m h H ys ds Q' S r t
  unfold fIsX at t
  split at t
  · split at t
    · rename_i b eb
      obtain ⟨ok, t⟩ := post_ite t
      split at t
      · rename_i r' ek
        cases r with
        | cons r1 r2 => cases r2 with
          | cons r2 r3 =>
            cases r3
            cases r1 with
            | exc na ea hd en ra =>
              refine .inl ⟨_, _, _, _, _, _, rfl, rp_cls r2 eb, ea, ?_, hx _ ok, kk.one _ _ _ ek, t.here S (.bl _)⟩
              rcases hd with ⟨rfl, _⟩ | ⟨x, rfl, _, ex⟩
              · exact .inl rfl
              · exact .inr ⟨x, _, rfl, ex⟩
      · exact t.elim
    · exact t.elim
  · exact .inr (sim_isi kk W σ m h H ys ds Q' S r t)
end
end CM
namespace CM
open PySem PySem.Spec PySem.Calls PyProof.Rows L2
def excB (K : PySem.W.Frag) (C : Addr) : Bool :=
  (PySem.W.clsIn K C).isSome && (decide (PySem.W.findIn K (.ref C) "__getattribute__" = some (some (.builtin "BaseException.__getattribute__"))) && (decide (PySem.W.findIn K (.ref C) "__getattr__" = some none) && (decide (PySem.W.subIn K (.ref C) (.type "BaseException") = some true) &&
  (decide (PySem.W.findIn K (.ref C) "__class__" = some (some (.builtin "object.__class__"))) && (decide (PySem.W.specialIn K (.builtin "object.__class__") "__get__" = some (some (.builtin "getset_descriptor.__get__"))) && (decide (PySem.W.takesIn K (.builtin "object.__class__") = some true) &&
  (decide (PySem.W.mroIn K C (.type "object") = some true) && (PySem.W.hasDictIn K C && (decide (PySem.W.typeIn K (.ref C) = some (.type "type")) && PySem.W.keepIn K (.ref C))))))))))
structure ExcOk (K : PySem.W.Frag) (C : Addr) : Prop extends XkC K C where
  hd : PySem.W.hasDictIn K C = true
  ty : PySem.W.typeIn K (.ref C) = some (.type "type")
  kp : PySem.W.keepIn K (.ref C) = true
theorem excB_ok {K : PySem.W.Frag} {C : Addr} (h : excB K C = true) : ExcOk K C := by
  unfold excB at h
  simp only [Bool.and_eq_true, decide_eq_true_eq] at h
  obtain ⟨h1, h2, h3, h4, h5, h6, h7, h8, h9, h10, h11⟩ := h
  exact ⟨⟨h1, h2, h3, h4, h5, h6, h7, h8⟩, h9, h10, h11⟩
theorem ExcOk.xf {K : PySem.W.Frag} {C : Addr} (h : ExcOk K C) : XfC K C := ⟨h.ga, h.gg, h.ex, h.hd⟩
theorem xfOf_by {K : PySem.W.Frag} {CA : CAs} {cs : List Nat} {n : Str} (h : ∀ c ∈ cs, ExcOk K (CA c)) (h2 : (cs.all fun c => decide (PySem.W.findIn K (.ref (CA c)) n = some none)) = true) : XfOf K CA cs n := fun c hc => ⟨(h c hc).xf, of_decide_eq_true (List.all_eq_true.mp h2 c hc)⟩
/-- the class object of an own exception -/
def oexClsB (K : PySem.W.Frag) (C : Addr) : Bool := match K.lookup C with
  | some ⟨.type "type", _, .cls cd, sl⟩ => (match cd.mro, sl.toList with
    | .ref C' :: bm, [_, _, _, _, some (.builtin n), _] => C' == C && (n == "ValueError.__new__" && (!cd.hasDel && (cd.hasDict && PySem.HandSPX.refsVE bm)))
    | _, _ => false)
  | _ => false
theorem oexClsB_ok {K : PySem.W.Frag} {C : Addr} (q : oexClsB K C = true) : ∃ nm q N bs bm sn sub ab col dd k0 k1 k2 k3 k5, K.lookup C = some (excClassObj nm q C N bs bm true sn sub ab col dd k0 k1 k2 k3 k5 "ValueError.__new__") ∧ PySem.HandSPX.refsVE bm = true := by
  unfold oexClsB at q
  split at q
  · rename_i dd cd sl ho
    split at q
    · rename_i C' bm k0 k1 k2 k3 n k5 hm hs
      simp only [Bool.and_eq_true, beq_iff_eq, Bool.not_eq_true'] at q
      obtain ⟨rfl, rfl, hdel, hd, hv⟩ := q
      obtain ⟨nm, bs, mro, ns, qn, hd', sn, sub, ab, col, del⟩ := cd
      dsimp only at hm hdel hd
      subst hm
      subst hdel
      subst hd
      refine ⟨nm, qn, ns, bs, bm, sn, sub, ab, col, dd, k0, k1, k2, k3, k5, ?_, hv⟩
      rw [ho]
      have : sl = #[k0, k1, k2, k3, some (.builtin "ValueError.__new__"), k5] := by
        apply Array.ext'
        rw [hs]
      rw [this]
    · cases q
  · cases q
def iniB (K : PySem.W.Frag) (C : Addr) (fl : Str) : Bool :=
  oexClsB K C && (decide (PySem.W.findIn K (.ref C) "__setattr__" = some (some (.builtin "object.__setattr__"))) && (decide (PySem.W.ks_superIn K C C "__init__" = some (some (.builtin "ValueError.__init__"))) && (decide (PySem.W.subIn K (.ref C) (.type "ValueError") = some true) &&
  (decide (PySem.W.mroIn K C (.ref C) = some true) && (decide (PySem.W.nsIn K cStatics "thirdparty.any" = some none) && decide (PySem.W.findIn K (.ref C) fl = some none))))))
/-- the text of an exception's __init__ -/
def IniSh (st : Stmt) (fl arg : Str) : Prop := ∃ (txt : Str) (j : Nat) (p0 p1 p2 p3 p4 p5 q0 q1 q2 q3 : Pos), defBody st = iniBody txt fl arg j p0 p1 p2 p3 p4 p5 q0 q1 q2 q3 ∧ ∀ env : Env, ∃ pl : Sem Bool, IniEv txt j p0 p1 p2 p3 p4 env pl
theorem xmd_of {P : Program} {K : PySem.W.Frag} {mg : Str → Option Value} {C f cda cc : Addr} {x fl arg qual : Str} {st : Stmt} {dV kV doc pm ct oc ccl cl : Value} {an od cdd cld : Option Addr} {osl ccs csl : Array (Option Value)} {cvs : Array Value} {file : Str} {tf : Tok}
    (hm : mg x = some (.ref C)) (E : ExcOk K C) (ib : iniB K C fl = true) (su : mg "super" = none) (tp : (P.main.scope.names.lookup ("super" : Str)).isSome = false) (iC : PySem.W.findIn K (.ref C) "__init__" = some (some (.ref f))) (tI : PySem.W.typeIn K (.ref f) = some (.type "function"))
    (l : K.lookup f = some ⟨oc, od, .func (PySem.W.ksFn "__init__" qual (defArgs st) (defBody st) (defScope st) dV kV doc pm an (.ref cda) ct cc), osl⟩) (hcd : PySem.W.codeIn K (.ref cda) qual = true) (S : iniScB arg (defScope st) = true) (sh : IniSh st fl arg)
    (har : ∃ ar, ((defArgs st).posonlyargs ++ (defArgs st).args).head? = some ar ∧ ar.arg = ("self" : Str)) (lkc : K.lookup cda = some ⟨ccl, cdd, .fields cvs, ccs⟩) (cv2 : cvs[2]? = some (.str file tf)) (hfile : ((P.main.file : Str) == file) = true)
    (lc : K.lookup cc = some ⟨cl, cld, .cell (some (.ref C)), csl⟩)
    (bd : ∀ (s : Shared) (u v : Value), BindsTo s (PySem.W.ksFn "__init__" qual (defArgs st) (defBody st) (defScope st) dV kV doc pm an (.ref cda) ct cc) ⟨[u, v], []⟩ [("self", u), (arg, v)] ∧ BindsTo s (PySem.W.ksFn "__init__" qual (defArgs st) (defBody st) (defScope st) dV kV doc pm an (.ref cda) ct cc) ⟨[u], [(arg, v)]⟩ [("self", u), (arg, v)]) :
    Xmd P K mg C x fl arg := by
  unfold iniB at ib
  simp only [Bool.and_eq_true, decide_eq_true_eq] at ib
  obtain ⟨i1, i2, i3, i4, i5, i6, i7⟩ := ib
  obtain ⟨txt, j, p0, p1, p2, p3, p4, p5, q0, q1, q2, q3, hbd, hev⟩ := sh
  refine ⟨hm, f, _, ⟨⟨oexClsB_ok i1, i2, E.ex, E.ty, E.kp⟩, i3, i4, i5, i6, i7, su, tp, bd, qual, txt, j, p0, p1, p2, p3, p4, p5, q0, q1, q2, q3, _, _, dV, kV, doc, pm, ct, oc, an, od, osl, cda, cc, ?_, l, hcd, iniSc_by S, har, ⟨ccl, cdd, cvs, ccs, file, tf, lkc, cv2, hfile⟩, ⟨cl, cld, csl, lc⟩, hev⟩, iC, tI⟩
  rw [hbd]
theorem boot_ValueErrorU : bootBuiltins "ValueError" = some (.type "ValueError") := Boot.«ValueError»
/-- raise C(e) -/
def rxOf (ρ : DE) (c0 : Nat) (fl : Str) (ds : List CM.D) (h : CH) : RS := match ds with
  | [d] => .ex ρ c0 [(fl, d)] h
  | _ => .no
def dRaiseX (c0 : Nat) (fl : Str) (ts : TDs) : SD := fun ρ h => (ts ρ h).toS ρ (rxOf ρ c0 fl)
section
variable {X : Cx} {K : PySem.W.Frag} {CA : CAs} {W : WX} {e : Expr} {pos p pos' : Pos} {hs : TA} {ts : TDs} {x fl arg : Str} {c0 j : Nat} {m : Str}
def tRaiseX (W : WX) (C : Addr) (fl : Str) (ta : TA) : TS := fun _ σ H => tMkO C (spIni C fl) [] ta σ H (fun cls d H' => W cls d σ H')
theorem sim_raiseX (s : SimA K CA W hs ts) : SimS K CA W (tRaiseX W (CA c0) fl hs) (dRaiseX c0 fl ts) := fun m h H σ ρ D' S t => by
  refine s m h H σ ρ _ S ?_
  unfold dRaiseX at t
  cases er : ts ρ h with
  | no => rw [er] at t; exact t.elim
  | ex c fs h' =>
    rw [er] at t
    exact fun m' cls dd H' s' S' x => t m' cls dd σ H' s' (S.move s' S') x
  | ok ds h' =>
    rw [er] at t
    intro m1 vs H1 s1 S1 r1
    have t2 : PostS K CA W m h H D' (rxOf ρ c0 fl ds h') := t
    clear t
    unfold rxOf at t2
    split at t2
    · rename_i d
      cases r1 with
      | @cons v _ _ _ r1 r2 =>
        cases r2
        refine ⟨by simp, fun a na => ?_⟩
        refine ⟨a, v, rfl, upd_same, fun dx nd ne => ⟨rfl, dx, [(fl, v)], upd_same, by rw [upd_ne ne, upd_same], by rw [upd_ne ne] at nd; exact nd, ?_⟩⟩
        rw [upd_ne ne] at nd
        have eq : upd (del (upd (upd (upd H1 a (exo a (CA c0) none)) dx (exd dx [(fl, v)])) a (exo a (CA c0) (some dx))) a) dx (.xd [(fl, v)]) = upd H1 dx (.xd [(fl, v)]) := by
          funext b
          by_cases hd : b = dx
          · rw [hd, upd_same, upd_same]
          · rw [upd_ne hd, upd_ne hd]
            by_cases hb : b = a
            · rw [hb, del_same, na]
            · rw [del_ne hb, upd_ne hb, upd_ne hd, upd_ne hb]
        rw [eq]
        have sA := stp_laid (u := .xd [(fl, v)]) S1 nd
        have SA := S1.laid (u := .xd [(fl, v)]) nd
        exact t2 m1 _ _ _ _ (s1.trans sA) (S.move (s1.trans sA) SA) ⟨rfl, .inr ⟨dx, [(fl, v)], rfl, S1.fresh nd, upd_same, rfl, .cons (r1.move sA) .nil⟩⟩
    · exact t2.elim
theorem ws_raiseX (D : Xmd X.prog X.K X.mg (CA c0) x fl arg) (hr : Room 2 X.A) (tk' : Takes X W) (h : WA X K CA W [e] hs ts) (hc : X.calm = true := by rfl) (hg : Gl X x := by rfl) (hK : X.K = K := by rfl)
    (hdb : (x == ("__debug__" : Str)) = false := by decide) (he : starEach [e] X.env = (false, eval e X.env) :: starEach [] X.env := by rfl) (hpl : (backTo pos (starEach [] X.env)).any (·.1) = false := by rfl) :
    WS X K CA W (.Raise (some (.Call (.Name x p) [e] [] pos)) none pos') (tRaiseX W (CA c0) fl hs) (dRaiseX c0 fl ts) := by
  subst hK
  obtain ⟨f, fd, IO, iC, tI⟩ := D.ini
  refine ⟨?_, sim_raiseX h.sim⟩
  have F1 : FnOk X.prog X.w X.K X.mg X.base (fun _ _ _ _ _ _ => False) 1 f fd ["self", arg] (spIni (CA c0) fl) := ini_ok IO
  have bb : Binds X.K fd ["self", arg] [] := fun s us _ hl => by
    rw [List.append_nil] at hl ⊢
    match us, hl with
    | [u, v], _ => exact (IO.bd s u v).1
  exact ps_raise hc tk' (pmk_oex IO.ox iC tI F1 hr bb .nil (fun _ _ _ _ _ _ _ z => z.elim) hg D.hm h.pe hdb he hpl)
end
end CM
namespace CM
open PySem PySem.Spec PySem.Calls PyProof.Rows L2
/-- an exception of the class cls stands at a -/
def ExW (cls : Value) (a : Addr) (dd : Option Addr) : HO := .ext fun h => ∃ (oe : Obj) (vs : Array Value), h.get? a = some oe ∧ Zc cls dd oe ∧ oe.data = .fields vs
section
variable {X : Cx} {pins : List (Addr × Obj)} {σ : L2.St} {H : Hp} {s : Shared} {a : Addr} {cls : Value} {d : Option Addr} {oe : Obj}
theorem inv_track (I : Inv X pins σ H s) (ha : s.heap.get? a = some oe) (hz : Zc cls d oe) (hd : ∃ vs, oe.data = .fields vs) (na : H a = none) (n0 : X.s_0.heap.get? a = none) (nL : a ≠ X.env.locals) (np : ∀ p ∈ X.pn ++ pins, p.1 ≠ a) : Inv X pins σ (upd H a (ExW cls a d)) s := by
  obtain ⟨vs, hd⟩ := hd
  have ne0 : ∀ b o, X.s_0.heap.get? b = some o → b ≠ a := fun b o e z => by
    rw [z, n0] at e
    cases e
  refine ⟨I.ok, I.os, I.bare, ⟨I.base.keep, I.base.slot, fun b o e n hx => by rw [upd_ne (ne0 b o e)]; exact I.base.free b o e n hx, I.base.there, fun b xs e => ?_, fun b o u e => ?_, fun b ps e => ?_⟩, I.loc, I.cell, by rw [upd_ne (Ne.symm nL)]; exact I.free, fun x c e => ?_, fun p hp => ?_, fun b u e => ?_, I.len⟩
  · have q := I.base.tups b xs e
    rw [upd_ne (ne_of_none q na)]
    exact q
  · have q := I.base.frzs b o u e
    rw [upd_ne (ne_of_none q na)]
    exact q
  · obtain ⟨m, q⟩ := I.base.tbls b ps e
    exact ⟨m, by rw [upd_ne (ne_of_none q na)]; exact q⟩
  · have nc : c ≠ a := fun z => by
      obtain ⟨v, o, ho, hv⟩ := I.cell x c e
      rw [z, ha] at ho
      cases ho
      rw [hd] at hv
      cases hv
    rw [upd_ne nc]
    exact I.freeC x c e
  · obtain ⟨e, n, ne, nf, dd⟩ := I.pin p hp
    exact ⟨e, by rw [upd_ne (np p hp)]; exact n, ne, nf, dd⟩
  · by_cases hb : b = a
    · subst hb
      rw [upd_same] at e
      cases e
      exact ⟨⟨oe, vs, ha, hz, hd⟩, ⟨oe, ha⟩, fun _ _ ⟨o, v, q, r⟩ k => ⟨o, v, k o q, r⟩⟩
    · rw [upd_ne hb] at e
      exact (I.hok b u e).stay (fun _ _ _ k => k) (fun c hc => by rw [upd_ne (ne_of_none hc na)]; exact hc) fun c xs hc => by rw [upd_ne (ne_of_none hc na)]; exact hc
end
/-- what the clause 'except x as n: suite' wishes, the exception being tracked behind the suite -/
def wAsV (K : PySem.W.Frag) (c : Value) (i nl : Nat) (ts : Addr → Value → Option Addr → TS) (Wout : WX) (D : Ends) : WX := fun cls d σ H =>
  ∃ b, PySem.W.exmOne K cls c = some b ∧ (b = true → σ.length = nl → ∀ a, H a = none → ts a cls d { nx := fun σ' H' => D.nx (σ'.set i none) (upd H' a (ExW cls a d)), rt := fun _ _ => False, bk := fun _ _ => False, ct := fun _ _ => False } (σ.set i (some (.ref a))) H) ∧
    (b = false → Wout cls d σ H)
section
variable {X : Cx} {x n : Str} {c : Value} {i : Nat} {body suite : List Stmt} {b₀ : Stmt} {np pos pos' : Pos} {tb : WX → TS} {ts : Addr → Value → Option Addr → TS} {Wout : WX}
theorem ps_try_asV (hex : X.ex = []) (hs : X.stack = X.env :: X.outer) (hf : X.env.frame = some X.env.locals) (hN : X.N.Nodup) (hi : X.N[i]? = some n) (hln : X.env.kindOf n = some .local) (hc : Names X x c) (tk : Takes X Wout)
    (hb : ∀ (W : WX) (pn : List (Addr × Obj)) (xe : Value → Shared → Prop), Takes (X.tr pn xe) W → PassesOwn (model X.prog X.w) X.A X.env xe → PSs (X.tr pn xe) body (tb W))
    (hsu : ∀ (a : Addr) (oe : Obj) (cls : Value) (d : Option Addr) (pn : List (Addr × Obj)), Zc cls d oe → (∃ vs, oe.data = .fields vs) → PSs (X.suite a ((a, oe) :: pn)) (b₀ :: suite) (ts a cls d)) :
    PS X (.Try body [.ExceptHandler (some (.Name x np)) (some n) (b₀ :: suite) pos'] [] [] pos) (fun D σ H => tb (wAsV X.K c i X.N.length ts Wout D) D σ H) := by
  refine ⟨fun pins s σ H D I h => ?_⟩
  have ok := I.ok
  have hfr : X.A.frames = some (X.env :: X.outer) := by rw [ok.frames, hs]
  have hloc : Loc X.env.scope n := .inl hln
  refine wpAny_Try_except ?_
  refine wpAny_mono ((hb (wAsV X.K c i X.N.length ts Wout D) (X.pn ++ pins) (fun e s₁ => wpAny (model X.prog X.w) X.A (noteFrame e X.env) (fun _ s₂ => wpAny (model X.prog X.w) X.A (setFlight e none) (fun _ s₃ =>
    wpAny (model X.prog X.w) X.A (handleBy e X.env [.ExceptHandler (some (.Name x np)) (some n) (b₀ :: suite) pos']) (SP X pins D) X.xe s₃) X.xe s₂) X.xe s₁) (fun u s' xx => ?_) PassesOwn.looking).run [] s σ H D (I.toTry _) h) (fun f s1 hsp => ?_) (fun e s1 he => he)
  · -- the catch
    obtain ⟨a, B, sI, pins', σ', H', cls, d, rfl, J', nb, up, sky, na, os, ag, b, hb1, hyes, hno⟩ := xx
    have J : Inv X pins σ' H' sI := J'.ofTry ok
    have sky' : Sky B (X.env :: X.outer) a (Zc cls d) X.env.locals s'.heap := by rw [← hs]; exact sky
    show wpAny (model X.prog X.w) X.A (noteFrame (.ref a) X.env) _ _ _
    refine Sky.land Zc.steady hfr hf sky' fun h3 fl3 up3 => ?_
    have J3 : Inv X pins σ' H' { s' with heap := h3 } := J.landed nb fl3.1 (up.trans up3) os ag
    obtain ⟨oe3, vs3, he3, hz3, hd3⟩ := fl3.there
    have notFr : ∀ {h : Heap} {o : Obj} {vs : Array Value}, h.FunFrames B (X.env :: X.outer) → h.get? a = some o → o.data = .fields vs → a ∉ frs (X.env :: X.outer) := fun {h o vs} ff e dd hm => by
      obtain ⟨_, o', e', hnf⟩ := ff.mem hm
      rw [e] at e'; cases e'
      exact hnf _ dd
    have nfr := notFr fl3.2.2.1 he3 hd3
    have nL : a ≠ X.env.locals := fun z => nfr (List.mem_filterMap.mpr ⟨X.env, List.mem_cons_self, by rw [hf, z]⟩)
    have nF : a ∉ X.fs := fun hm => by
      obtain ⟨e, he, q⟩ := List.mem_filterMap.mp hm
      exact nfr (List.mem_filterMap.mpr ⟨e, List.mem_cons_of_mem _ he, q⟩)
    have nB : B.get? a = none := fl3.2.1
    have nI : sI.heap.get? a = none := by
      cases q : sI.heap.get? a with
      | none => rfl
      | some o =>
        have z := nb a o q (by rw [hs]; exact nfr)
        rw [nB] at z
        cases z
    have n0 : X.s_0.heap.get? a = none := by
      cases q : X.s_0.heap.get? a with
      | none => rfl
      | some o =>
        obtain ⟨o', z⟩ := J.base.there a o q (fun hx => by rw [hex] at hx; cases hx)
        rw [nI] at z
        cases z
    have nP : ∀ p ∈ X.pn ++ pins, p.1 ≠ a := fun p hp z => by
      obtain ⟨e, _⟩ := J.pin p hp
      rw [z, nI] at e
      cases e
    have S3 := J3.suite he3 hd3 na nL nF
    refine wpAny_handleBy_cons (codeAny_handlers_test ?_) (by intro q; cases q)
    have LT : PySem.W.Looks (model X.prog X.w) h3 (typeOf (.ref a)) cls := fun A Q E s k q => wpAny_typeOf_ref (k _ _ he3) (by rw [hz3.1]; exact q)
    have LM := PySem.W.exm_one (M := model X.prog X.w) (J3.kIn) LT hb1
    have test : ∀ {Q : Value → Shared → Prop} {E : Value → Shared → Prop}, Q c { s' with heap := h3 } → wpAny (model X.prog X.w) (X.A.mark (some (.ref a))) (eval (.Name x np) X.env) Q E { s' with heap := h3 } := fun {Q E} q => by
      obtain ⟨hg, hdbg, hm | ⟨hm, hv, hnn⟩⟩ := hc
      · exact ld_glob (X := X.suite a ((a, oe3) :: (X.pn ++ pins))) S3 hg hm q hdbg
      · exact ld_blt (X := X.suite a ((a, oe3) :: (X.pn ++ pins))) S3 hg hm hv q hnn hdbg
    refine test (LM.here ?_)
    cases b with
    | true =>
      refine codeAny_handlers_suite_as ?_
      refine HandSPX.lands_againZ fl3 fun h4 fl4 up4 => ?_
      have J4 : Inv X pins σ' H' { s' with heap := h4 } := J.landed nb fl4.1 ((up.trans up3).trans up4) os ag
      obtain ⟨oe4, vs4, he4, hz4, hd4⟩ := fl4.there
      have S4 := J4.suite he4 hd4 na nL nF
      refine store_ok (X := X.suite a ((a, oe4) :: (X.pn ++ pins))) (v := .ref a) S4 hN hi hloc rfl (fun s5 S5 => ?_) (.inr hln)
      refine wpAny_mono ((hsu a oe4 cls d (X.pn ++ pins) hz4 ⟨_, hd4⟩).run [] s5 _ H' _ S5 (hyes rfl J.len a na)) (fun f s6 hsp => ?_) (fun _ _ z => False.elim z)
      cases f with
      | next =>
        obtain ⟨σ6, H6, S6, q6⟩ := hsp
        obtain ⟨e6, n6, _⟩ := S6.pin (a, oe4) (List.mem_append_left _ List.mem_cons_self)
        have T6 := inv_track (S6.unsuite ok) e6 hz4 ⟨_, hd4⟩ n6 n0 nL nP
        exact gone_ok T6 hN hi hln fun s7 J7 => ⟨_, _, J7, q6⟩
      | brk =>
        obtain ⟨σ6, H6, S6, q6⟩ := hsp
        exact q6.elim
      | cont =>
        obtain ⟨σ6, H6, S6, q6⟩ := hsp
        exact q6.elim
      | ret u =>
        obtain ⟨v6, σ6, H6, S6, r6, q6⟩ := hsp
        exact q6.elim
    | false =>
      show wpAny _ X.A (handleBy (.ref a) X.env []) _ _ _
      refine wpAny_handleBy_nil ?_
      obtain ⟨k1, k2, k3, oe, vs, T, oT, ts', he, hz, hd, h1, hr⟩ := id fl3
      unfold PySem.passOn
      refine wpAny_bind (wpAny_field he hd h1 ?_)
      rw [if_neg (show ¬ ((Value.ref T == Value.none) = true) from by simp)]
      have fin : wpAny (model X.prog X.w) X.A (setFlight (.ref a) X.env.frame) (fun _ s4 => wpAny (model X.prog X.w) X.A (throw (.ref a) : Sem Flow) (SP X pins D) X.xe s4) X.xe { s' with heap := h3 } := by
        rw [hf]
        refine HandSPX.setFlight_upZ fl3 fun h4 hh4 up4 => wpAny_throw (tk _ _ ?_)
        exact ⟨a, B, sI, pins, σ', H', cls, d, rfl, J, nb, (up.trans up3).trans up4, .inr (.inr (by rw [hs]; exact hh4)), na, os, ag, hno rfl⟩
      first
        | exact wpAny_bind (wpAny_pure (wpAny_bind fin))
        | exact wpAny_bind fin
  · cases f with
    | next =>
      obtain ⟨σ', H', J', q⟩ := hsp
      exact wpAny_execs_nil ⟨σ', H', J'.ofTry ok, q⟩
    | brk =>
      obtain ⟨σ', H', J', q⟩ := hsp
      exact ⟨σ', H', J'.ofTry ok, q⟩
    | cont =>
      obtain ⟨σ', H', J', q⟩ := hsp
      exact ⟨σ', H', J'.ofTry ok, q⟩
    | ret u =>
      obtain ⟨v, σ', H', J', r, q⟩ := hsp
      exact ⟨v, σ', H', J'.ofTry ok, r, q⟩
end
/-- c = None; try: a() / except e as n: c = n / return c -/
def TCaught (K : PySem.W.Frag) (CS : Addr) : (XK → Hp → VK → Prop) → Hp → VK → Prop := fun tl H Q =>
  tl (fun cls d H' => ∃ b, PySem.W.exmOne K cls (.ref CS) = some b ∧ (b = true → ∀ a, H' a = none → Q (.ref a) (upd H' a (ExW cls a d))) ∧ (b = false → False)) H (fun _ H' => ∃ v : V, (some (some V.non) : Option (Option V)) = some (some v) ∧ Q v H')
theorem caught_gives {X : Cx} {x a e q c n : Str} {sg : Scope} {g CS : Addr} {cdg : Value} {j1 : Nat} {p1 p2 p3 p4 p7 p8 q2 q3 q4 q5 q6 q7 q8 q9 : Pos} (hge : sg.names.lookup e = some .globalImplicit) (hme : X.mg e = some (.ref CS)) (hde : (e == ("__debug__" : Str)) = false)
    (S : FnScope [a, c, n] [a] sg) (hc : sg.names.lookup c = some .local) (hn : sg.names.lookup n = some .local) (hd1 : (c == ("__debug__" : Str)) = false) (hd2 : (n == ("__debug__" : Str)) = false) (hd3 : (c == ("__classdict__" : Str)) = false) (hd4 : (n == ("__classdict__" : Str)) = false) :
    LamX.GivesTo X [a, c, n] x sg g cdg [.Assign [.Name c q2] (.Constant .none j1 q3) q4, .Try [.Expr (.Call (.Name a p1) [] [] p2) p3] [.ExceptHandler (some (.Name e p4)) (some n) [.Assign [.Name c q5] (.Name n q6) q7] p7] [] [] p8, .Return (some (.Name c q8)) q9] a q (TCaught X.K CS) := by
  intro f c' s H Q tl act hcc h
  have hgl : Gl (cxOf C8.CX0 X.prog X.w X.K X.mg X.base [a, c, n] x sg g cdg X.A X.stack s H C8.E0).nox e := hge
  have nd := S.nd
  refine ⟨_, pss_cons (ps_set (i := 1) nd rfl (.inl hc) pe_non) (pss_cons (ps_try_asV (X := (cxOf C8.CX0 X.prog X.w X.K X.mg X.base [a, c, n] x sg g cdg X.A X.stack s H C8.E0).nox) (c := .ref CS) (i := 2)
      (tb := fun W D σ H => ∃ Ech : XK, (∀ cls d σ' H', Ech cls d H' → W cls d σ' H') ∧ σ[0]? = some (some (.ref f)) ∧ H c' = some (LamX.CodeO c' q) ∧ tl Ech H fun _ H' => D.nx σ H')
      rfl rfl rfl nd rfl hn ⟨hgl, hde, .inl hme⟩ LamX.takes0 (fun W pn xe tk _ => ?_) (fun a oe cls d pn _ _ => pss_one (ps_set (i := 1) nd rfl (.inl hc) (pe_var (i := 2) rfl (.inl hn) hd2 hd4)))) (pss_one (ps_ret (pe_var (i := 1) rfl (.inl hc) hd1 hd3)))), ?_⟩
  · refine ⟨fun pins s' σ H' D I h' => ?_⟩
    obtain ⟨Ech, hW, h1, h2, h3⟩ := h'
    have hp := act W pn xe Ech p1 p2 tk hW
    have hq := pss_one (ps_expr (pos := p3) hp)
    exact hq.run pins s' σ H' D I ⟨h1, h2, h3⟩
  · refine ⟨fun cls d H' => ∃ b, PySem.W.exmOne X.K cls (.ref CS) = some b ∧ (b = true → ∀ a, H' a = none → Q (.ref a) (upd H' a (ExW cls a d))) ∧ (b = false → False), fun cls d σ' H' ⟨b, e1, e2, e3⟩ => ⟨b, e1, fun hb hl a na => ?_, fun hb => e3 hb⟩, rfl, hcc, ?_⟩
    · have l1 : 1 < σ'.length := by rw [hl]; exact (by decide : 1 < 3)
      have l2 : 2 < σ'.length := by rw [hl]; exact (by decide : 2 < 3)
      refine ⟨.ref a, by simp [l2], .ref a, by simp [l1, l2], e2 hb a na⟩
    · exact h
theorem stp_ext {K : PySem.W.Frag} {CA : CAs} {m : Mp} {h : CH} {H H1 : Hp} (S : HR K CA m h H) (e : LamX.ExtN H H1) (T : LamX.Tabs CA.T H1) : Stp m h H m h H1 ∧ HR K CA m h H1 := by
  have nt : ∀ {u : HO}, NoTb u → ∀ ps, u ≠ .tbl ps := fun {u} n ps z => by rw [z] at n; exact n
  have ntb : ∀ {u : HO}, NTab u → ∀ ps, u ≠ .tbl ps := fun {u} n ps z => by rw [z] at n; exact n
  have s : Stp m h H m h H1 := .mk' ⟨Nat.le_refl _, fun _ _ => rfl, fun b o l q n => ⟨l, o, e b o q (nt n), .inl rfl⟩⟩ (fun k o _ q _ => ⟨q, by
    obtain ⟨u, q1, n⟩ := mok_nt (S.ob k o q).2
    rw [q1, e _ _ q1 (ntb n)]⟩) rfl fun a l => by
    obtain ⟨u, q, n⟩ := S.zh a l
    rw [q, e _ _ q (ntb n)]
  refine ⟨s, fun k o q => ⟨(S.ob k o q).1, (S.ob k o q).2.move s ?_⟩, S.inj, S.zn, fun a l => ?_, T⟩
  · obtain ⟨u, q1, n⟩ := mok_nt (S.ob k o q).2
    rw [q1, e _ _ q1 (ntb n)]
  · obtain ⟨u, q, n⟩ := S.zh a l
    exact ⟨u, e _ _ q (ntb n), n⟩
end CM
namespace CM
open PySem PySem.Spec PySem.Calls PyProof.Rows L2
section
variable {P : Program} {w : World} {K : PySem.W.Frag} {CA : CAs} {mg mb : Str → Option Value} {k : Nat} {fa a : Addr} {fd : FuncData} {sh : Shared} {vs : List Value} {ns : List Int} {F : FD} {cs : List (Addr × Addr)}
theorem law_endT (kin : K.In sh.heap) (gl : sh.heap.Ns mainGlobals mg) (bl : sh.heap.Ns builtinsNs mb)
    (blt : ∀ x : Str, x ≠ "__name__" → mb x = bootBuiltins x) (nl : sh.heap.NoLimit) (gens : sh.gens = #[]) (ha : sh.heap.get? a = some { cls := .type "list", data := .seq vs.toArray }) (hi : IntsAre vs ns) (hl : ns.length ≤ 63) (hr : Room k callerA) (hF : LawF F) (sm : SM sh.heap)
    (hT : ∀ p ∈ cs, sh.heap.get? p.2 = some { cls := .none, data := .fields #[] }) (nT : ∀ p ∈ cs, K.lookup p.2 = none) (hC : ∀ p ∈ cs, PySem.W.CodeHd sh.heap p.1 p.2)
    (hbm : ∃ (bm : Addr) (ob : Obj), mg "__builtins__" = some (.ref bm) ∧ bm ≠ builtinsNs ∧ sh.heap.get? bm = some ob ∧ ob.cls = .type "module" ∧ ob.dict = some builtinsNs ∧ ob.data = .plain) (T0 : ∀ p ∈ CA.T, ∃ c, (c, p.1) ∈ cs)
    (G : ∀ base : Heap, K.In base → base.Ns mainGlobals mg → SM base → (∀ p ∈ cs, LamX.TabB base mg p.1 p.2) → FnG P w K mg base true k fa fd ["_law_script"] (spD K CA 1 F)) (bind : ∀ (s : Shared) (u : Value), BindsTo s fd ⟨[u], []⟩ [("_law_script", u)]) :
    codeAny (model P w) callerA (.call (.ref fa) ⟨[.ref a], []⟩) (fun r s' => r = .ok (.ret (.bool true)) ∧ OldK sh.heap s'.heap ∧ s'.os = sh.os ∧ AllBare s'.gens) sh := by
  have rv := vals_ints hi
  have hv := hi.length
  have isT : ∀ b : Addr, b ∈ cs.map (·.2) → sh.heap.get? b = some { cls := .none, data := .fields #[] } := fun b hb => by
    obtain ⟨p, hp, e⟩ := List.mem_map.mp hb
    rw [← e]
    exact hT p hp
  have memT : ∀ p ∈ cs, p.2 ∈ cs.map (·.2) := fun p hp => List.mem_map.mpr ⟨p, hp, rfl⟩
  have aT : a ∉ cs.map (·.2) := fun z => by
    have q := isT a z
    rw [ha] at q
    have z' : Data.seq vs.toArray _ = Data.fields #[] := congrArg Obj.data (Option.some.inj q)
    cases z'
  suffices main : ∀ H : Hp, (∀ b, H b = none ∨ (b = a ∧ ∃ o xs, H b = some (.frz o (.lst xs))) ∨ (b ∈ cs.map (·.2) ∧ H b = some (.tbl #[]))) → (∀ p ∈ cs, H p.2 = some (.tbl #[])) → Rp K CA ⟨fun _ => 0, []⟩ CH.emp H (.ref a) (.scr ns) → HOk P w H sh.heap → (H a ≠ none → K.lookup a = none) →
      codeAny (model P w) callerA (.call (.ref fa) ⟨[.ref a], []⟩) (fun r s' => r = .ok (.ret (.bool true)) ∧ OldK sh.heap s'.heap ∧ s'.os = sh.os ∧ AllBare s'.gens) sh by
    have nlive : ∀ b, ¬ Live ⟨fun _ => 0, []⟩ CH.emp b := fun b z => by
      rcases z with ⟨k, o, e, _⟩ | z
      · cases e
      · cases z
    cases hk : K.lookup a with
    | some o =>
      have e := kin a o hk
      rw [ha] at e
      cases e
      refine main (fun b => if b ∈ cs.map (·.2) then some (.tbl #[]) else none) (fun b => ?_) (fun p hp => if_pos (memT p hp)) (.kscr (.inr ⟨_, vs.toArray, _, hk, rfl, rfl, rfl, ?_, by simpa using rv⟩)) (fun b u z => ?_) fun z => absurd (if_neg aT) z
      · by_cases h : b ∈ cs.map (·.2)
        · exact .inr (.inr ⟨h, if_pos h⟩)
        · exact .inl (if_neg h)
      · rw [List.size_toArray, hv]
        exact Nat.le_trans hl (by decide)
      · by_cases h : b ∈ cs.map (·.2)
        · have z' := (if_pos h).symm.trans z
          cases z'
          exact isT b h
        · have z' := (if_neg h).symm.trans z
          cases z'
    | none =>
      refine main (fun b => if b = a then some (.frz { cls := .type "list", data := .seq vs.toArray } (.lst (ns.map V.int))) else if b ∈ cs.map (·.2) then some (.tbl #[]) else none) (fun b => ?_) (fun p hp => (if_neg (show ¬ p.2 = a from fun z => aT (by rw [← z]; exact memT p hp))).trans (if_pos (memT p hp)))
        (.scr (nlive a) (if_pos rfl)) (fun b u z => ?_) fun _ => hk
      · by_cases h : b = a
        · exact .inr (.inl ⟨h, _, _, if_pos h⟩)
        · by_cases h2 : b ∈ cs.map (·.2)
          · exact .inr (.inr ⟨h2, (if_neg h).trans (if_pos h2)⟩)
          · exact .inl ((if_neg h).trans (if_neg h2))
      · by_cases h : b = a
        · cases (if_pos h).symm.trans z
          subst h
          exact ⟨ha, by rw [List.length_map]; exact Nat.le_trans hl (by decide), vs, _, rv, ha⟩
        · have z1 := (if_neg h).symm.trans z
          by_cases h2 : b ∈ cs.map (·.2)
          · have z' := (if_pos h2).symm.trans z1
            cases z'
            exact isT b h2
          · have z' := (if_neg h2).symm.trans z1
            cases z'
  intro H only hH rp hok hK
  have noD : ∀ {b : Addr} {o : Obj}, sh.heap.get? b = some o → (∀ vs n, o.data ≠ .seq vs n) → o.data ≠ .fields #[] → H b = none := fun {b o} e h1 h2 => by
    rcases only b with q | ⟨q, _⟩ | ⟨q, _⟩
    · exact q
    · rw [q, ha] at e
      cases e
      exact (h1 _ _ rfl).elim
    · rw [isT b q] at e
      cases e
      exact (h2 rfl).elim
  have offA : ∀ {b : Addr} {o : Obj}, sh.heap.get? b = some o → H b = none → (hidT sh.heap H).get? b = some o := fun {b o} e n => hidT_get e n
  have noDict : ∀ {b : Addr} {o : Obj} {es : Array DictEntry} {ep : Nat}, sh.heap.get? b = some o → o.data = .dict es ep → H b = none := fun {b o es ep} e d => by
    refine noD e (fun vs n z => ?_) fun z => ?_
    · rw [d] at z
      cases z
    · rw [d] at z
      cases z
  have ns' : ∀ {b : Addr} {m : Str → Option Value}, sh.heap.Ns b m → (hidT sh.heap H).Ns b m := fun {b m} ⟨o, es, ep, e, d, r⟩ => ⟨o, es, ep, offA e (noDict e d), d, r⟩
  have kb : K.In (hidT sh.heap H) := fun b o e => offA (kin b o e) (by
    rcases only b with q | ⟨q, _⟩ | ⟨q, _⟩
    · exact q
    · by_cases h : H b = none
      · exact h
      · rw [q] at h e
        rw [hK h] at e
        cases e
    · obtain ⟨p, hp, ep⟩ := List.mem_map.mp q
      rw [← ep, nT p hp] at e
      cases e)
  have TB : ∀ p ∈ cs, LamX.TabB (hidT sh.heap H) mg p.1 p.2 := fun p hp => by
    have hTp := hT p hp
    refine ⟨?_, ?_, fun z => ?_⟩
    · obtain ⟨o, us, file, tf, flags, tg, inF, text, tt, e1, r1, r2, r3, rest⟩ := hC p hp
      refine ⟨o, us, file, tf, flags, tg, inF, text, tt, offA e1 (noD e1 (fun vs n z => ?_) fun z => ?_), r1, r2, r3, rest⟩
      · rw [r2] at z
        cases z
      · rw [r2] at z
        cases z
        simp at r3
    · obtain ⟨bm, ob, b1, b2, b3, b4, b5, b6⟩ := hbm
      have nG : bm ≠ mainGlobals := fun q => by
        obtain ⟨o, es, ep, e, hd, _⟩ := gl
        rw [q, e] at b3
        cases b3
        rw [hd] at b6
        cases b6
      have nP : bm ≠ p.2 := fun q => by
        rw [q, hTp] at b3
        cases b3
        cases b6
      refine ⟨bm, ob, b1, b2, nG, nP, offA b3 (noD b3 (fun vs n z => ?_) fun z => ?_), b4, b5, b6⟩
      · rw [b6] at z
        cases z
      · rw [b6] at z
        cases z
    · obtain ⟨o, es, ep, e, hd, _⟩ := gl
      rw [z, hTp] at e
      cases e
      cases hd
  have env : Env0 P w K mg (hidT sh.heap H) callerA [] sh H := ⟨rfl, ⟨kb, ns' gl, ⟨mb, ns' bl, blt⟩, nl.imp fun mc h => ⟨ns' h.1, h.2⟩⟩, fun b o e => of_hidT e, Nat.le_of_eq (hidT_size _ _), trivial, fun b hb => absurd hb List.not_mem_nil, hok, .of_eq gens⟩
  have hR : HR K CA ⟨fun _ => 0, []⟩ CH.emp H := ⟨fun k o e => (nomatch e), fun k j o u e => (nomatch e), fun k o e => (nomatch e), fun a l => (nomatch l), fun p hp => by
    obtain ⟨c, hc⟩ := T0 p hp
    exact LamX.TabS.nil (hH _ hc)⟩
  have smB : SM (hidT sh.heap H) := by
    obtain ⟨o, es, ep, e, d⟩ := sm
    exact ⟨o, es, ep, offA e (noDict e d), d⟩
  obtain ⟨hf, eF⟩ := hF ns hl
  refine codeAny_mono ((G _ kb (ns' gl) smB TB).go callerA [] sh H ⟨[.ref a], []⟩ [.ref a] [.ref a] (fun v _ => v = .bl true) (fun _ _ _ => False) (fun _ => rfl) hr env (bind sh (.ref a)) (.cons rfl .nil) ⟨rfl, ⟨fun _ => 0, []⟩, CH.emp, [.scr ns], hR, .cons rp .nil, by
    rw [eF]
    intro m' v H' s S r
    cases r
    rfl⟩) fun r s' h => ?_
  rcases r with e | fl
  · obtain ⟨_, _, _, _, _, _, _, _, _, _, _, _, z⟩ := h
    exact z.elim
  · rcases fl with _ | _ | _ | u
    · exact False.elim h
    · exact False.elim h
    · exact False.elim h
    · obtain ⟨v, H2, os, bare, un, hok2, r2, q⟩ := h
      obtain rfl : v = .bl true := q
      obtain rfl : u = Value.bool true := r2
      have key : ∀ b o, b ∉ cs.map (·.2) → sh.heap.get? b = some o → s'.heap.get? b = some o := fun b o nb e => by
        rcases only b with z | ⟨_, ob, xs, z⟩ | ⟨z, _⟩
        · exact un.keep b o e z (fun y => absurd y List.not_mem_nil) (by simp)
        · obtain ⟨e1, _⟩ := hok b _ z
          obtain ⟨e2, _⟩ := hok2 b _ (un.frzs b ob _ z)
          rw [e] at e1
          cases e1
          exact e2
        · exact absurd z nb
      have grown : ∀ p ∈ cs, ∃ more : Array Value, s'.heap.get? p.2 = some { cls := .none, data := .fields more } := fun p hp => by
        obtain ⟨more, z⟩ := un.tbls p.2 #[] (hH p hp)
        exact ⟨_, hok2 p.2 _ z⟩
      refine ⟨rfl, ⟨fun b o e => ?_, fun b o e => ?_⟩, os, bare⟩
      · by_cases hb : b ∈ cs.map (·.2)
        · obtain ⟨p, hp, ep⟩ := List.mem_map.mp hb
          obtain ⟨more, hm⟩ := grown p hp
          rw [← ep] at e ⊢
          rw [hT p hp] at e
          cases e
          exact .inr (.inl ⟨((hC p hp).tab (hT p hp)).isCodeTable, rfl, #[], more, rfl, by rw [Array.empty_append]; exact hm⟩)
        · exact .inl (key b o hb e)
      · by_cases hb : b ∈ cs.map (·.2)
        · obtain ⟨p, hp, ep⟩ := List.mem_map.mp hb
          obtain ⟨more, hm⟩ := grown p hp
          rw [← ep]
          exact ⟨_, hm⟩
        · exact ⟨o, key b o hb e⟩
end
end CM
namespace CM
open PySem PySem.Spec PySem.Calls PyProof.Rows L2
/-- a def of the text; its code object stands at c -/
structure FunC (K : PySem.W.Frag) (nm qual : Str) (st : Stmt) (f : Addr) (fd : FuncData) (c : Addr) : Prop where
  ex : ∃ (oc : Value) (od : Option Addr) (kV doc pm : Value) (an : Option Addr) (ct : Value) (osl : Array (Option Value)),
    fd = PySem.W.fnOf nm qual (defArgs st) (defBody st) (defScope st) .none kV doc pm an (.ref c) ct ∧ K.lookup f = some ⟨oc, od, .func fd, osl⟩ ∧ PySem.W.codeIn K (.ref c) qual = true
section
variable {P : Program} {w : World} {K : PySem.W.Frag} {mg : Str → Option Value} {base : Heap} {CA : CAs} {g : Bool}
theorem func_mk {nm qual : Str} {st : Stmt} {f c : Addr} {oc : Value} {od an : Option Addr} {osl : Array (Option Value)} {kV doc pm ct : Value} (l : K.lookup f = some ⟨oc, od, .func (PySem.W.fnOf nm qual (defArgs st) (defBody st) (defScope st) .none kV doc pm an (.ref c) ct), osl⟩) (h : PySem.W.codeIn K (.ref c) qual = true) :
    FunC K nm qual st f (PySem.W.fnOf nm qual (defArgs st) (defBody st) (defScope st) .none kV doc pm an (.ref c) ct) c := ⟨_, _, _, _, _, _, _, _, rfl, l, h⟩
theorem FnG.mkL {nm qual : Str} {st : Stmt} {f c : Addr} {fd : FuncData} {N ps : List Str} {k : Nat} {sp : Sp} (F : FunC K nm qual st f fd c) (S : FnScope N ps (defScope st)) (ln : ∀ vs H Q E, sp vs H Q E → vs.length = ps.length)
    (body : ∀ (A : Around) (outer : List Env) (s : Shared) (H : Hp) (vs : List V) (Q : VK) (E : XK), (g = true → A.guards = some []) → Room k (A.deeper (envOfC qual (defScope st) s.heap.objs.size f (.ref c))) → sp vs H Q E →
      ∃ t, PSs (cxD P w K mg base N qual st f (.ref c) A outer s H E) (defBody st) t ∧ t { nx := fun _ H2 => Q .non H2, rt := Q } (start N vs) H) : FnG P w K mg base g (k + 1) f fd ps sp := by
  obtain ⟨x1, x2, x4, x5, x6, x7, x8, x9, rfl, look, code⟩ := F.ex
  refine ⟨ln, fun A outer s H args us vs Q E hg room e0 bd rv hs => ?_⟩
  have len1 := ln _ _ _ _ hs
  have kin : K.In s.heap := e0.mod.kin.keeps fun b o e => (e0.bs b o e).1
  have nl : s.heap.NoLimit := e0.mod.nolimit.keeps fun b o e => (e0.bs b o e).1
  have kinds : ∀ y, y ∈ ps.zip us → (defScope st).names.lookup y.1 = some .local ∨ ((defScope st).names.lookup y.1 = some .cell ∧ ((cellsFrom (s.heap.objs.size + 1) (defScope st).names []).lookup y.1).isSome = true) := by
    rintro ⟨a, b⟩ hm
    exact (S.par a (List.of_mem_zip hm).1).imp id fun q => ⟨q, PySem.W.cellsFrom_some _ _ _ (.inl q)⟩
  refine codeAny_call_function room.depth (kin _ _ look) rfl S.co S.gen rfl (PySem.W.codeRec_of kin code) (bd _ _ _ _ (wpAny_newFunctionEnv_cells S.kind kinds fun env ee s1 hc => ?_))
  cases ee
  refine ⟨nl.keeps hc.toInCall.keep, codeAny_func ?_⟩
  obtain ⟨t, ht, hq⟩ := body A outer s H vs Q E hg (room.deeper _) hs
  have inv : Inv (cxD P w K mg base N qual st f (.ref c) A outer s H E) [] (start N vs) H s1 := inv_start S room.hd e0 len1 rv hc
  have back : ∀ {σ' : L2.St} {H2 : Hp} {v : V} {u : Value} {s2 : Shared}, Inv (cxD P w K mg base N qual st f (.ref c) A outer s H E) [] σ' H2 s2 → RelV v u → Q v H2 → CE outer P w H s Q u s2 := fun {_ H2 v _ _} J r q => ⟨v, H2, J.os, J.bare, J.base, J.hok, r, q⟩
  refine wpAny_mono (ht.run [] s1 (start N vs) H _ inv hq) (fun fl s2 h2 => ?_) fun _ _ z => z
  rcases fl with _ | _ | _ | u
  · obtain ⟨_, _, J, q⟩ := h2
    exact back (v := V.non) (u := Value.none) J rfl q
  · obtain ⟨_, _, _, q⟩ := h2; exact False.elim q
  · obtain ⟨_, _, _, q⟩ := h2; exact False.elim q
  · obtain ⟨_, _, _, J, r, q⟩ := h2
    exact back J r q
/-- a def that makes lambdas, by the reading of its body -/
theorem okDL {nm qual : Str} {st : Stmt} {f c : Addr} {fd : FuncData} {N ps : List Str} {k n l : Nat} {u : SD} (F : FunC K nm qual st f fd c) (S : FnScope N ps (defScope st)) (hm : ps.length = l) (hn : N.length = n)
    (hb : ∀ (A : Around) (outer : List Env) (s : Shared) (H : Hp) (E : XK), (g = true → A.guards = some []) → Room k (A.deeper (envOfC qual (defScope st) s.heap.objs.size f (.ref c))) →
      Takes (cxD P w K mg base N qual st f (.ref c) A outer s H E) (wxD E) → ∃ tS, WSs (cxD P w K mg base N qual st f (.ref c) A outer s H E) K CA (wxD E) (defBody st) tS u) : FnG P w K mg base g (k + 1) f fd ps (spD K CA l (bodyF n u)) := by
  subst hm hn
  refine FnG.mkL F S (fun vs H Q E h => h.1) fun A outer s H vs Q E hg hr h => ?_
  obtain ⟨hl, m, ch, ds, hR, r, q⟩ := h
  obtain ⟨t, ws⟩ := hb A outer s H E hg hr (takes_of rfl rfl rfl rfl)
  have hle : vs.length ≤ N.length := by
    have := congrArg List.length S.pre
    rw [List.length_take] at this
    omega
  exact ⟨t, ws.pe, ws.sim m ch H _ _ _ (so_start N hle hR r) (res_post q)⟩
/-- x is the def that calls what it gets and tells the exception of the class cs, or None -/
structure Cgt (K : PySem.W.Frag) (CA : CAs) (mg : Str → Option Value) (x : Str) (cs : Nat) : Prop where
  ex : ∃ (g : Addr) (a : Str) (pg : Arguments) (bg : List Stmt) (sg : Scope) (kV doc pm cdv ct oc : Value) (an od : Option Addr) (osl : Array (Option Value)) (Ng : List Str),
    mg x = some (.ref g) ∧ PySem.W.keepIn K (.ref g) = true ∧ K.lookup g = some ⟨oc, od, .func (PySem.W.fnOf x x pg bg sg .none kV doc pm an cdv ct), osl⟩ ∧ PySem.W.codeIn K cdv x = true ∧
    L2.Binds K (PySem.W.fnOf x x pg bg sg .none kV doc pm an cdv ct) [a] [] ∧ FnScope Ng [a] sg ∧ Ng[0]? = some a ∧ Vis sg a ∧ (a == ("__debug__" : Str)) = false ∧ (a == ("__classdict__" : Str)) = false ∧
    ∀ (X : Cx) (q : Str), X.K = K → X.mg = mg → LamX.GivesTo X Ng x sg g cdv bg a q (TCaught K (CA cs))
theorem cgt_mk {x a e c n : Str} {sg : Scope} {g : Addr} {cs : Nat} {pg : Arguments} {kV doc' pm cdv ct oc : Value} {an od : Option Addr} {osl : Array (Option Value)} {j1 : Nat} {p1 p2 p3 p4 p7 p8 q2 q3 q4 q5 q6 q7 q8 q9 : Pos}
    (lk : K.lookup g = some ⟨oc, od, .func (PySem.W.fnOf x x pg [.Assign [.Name c q2] (.Constant .none j1 q3) q4, .Try [.Expr (.Call (.Name a p1) [] [] p2) p3] [.ExceptHandler (some (.Name e p4)) (some n) [.Assign [.Name c q5] (.Name n q6) q7] p7] [] [] p8, .Return (some (.Name c q8)) q9] sg .none kV doc' pm an cdv ct), osl⟩)
    (hc0 : PySem.W.codeIn K cdv x = true) (hk : PySem.W.keepIn K (.ref g) = true) (hm : mg x = some (.ref g)) (hme : mg e = some (.ref (CA cs))) (hb : L2.Binds K (PySem.W.fnOf x x pg [.Assign [.Name c q2] (.Constant .none j1 q3) q4, .Try [.Expr (.Call (.Name a p1) [] [] p2) p3] [.ExceptHandler (some (.Name e p4)) (some n) [.Assign [.Name c q5] (.Name n q6) q7] p7] [] [] p8, .Return (some (.Name c q8)) q9] sg .none kV doc' pm an cdv ct) [a] [])
    (S : FnScope [a, c, n] [a] sg) (hge : sg.names.lookup e = some .globalImplicit) (hde : (e == ("__debug__" : Str)) = false) (ha : sg.names.lookup a = some .local) (hc : sg.names.lookup c = some .local) (hn : sg.names.lookup n = some .local)
    (da : (a == ("__debug__" : Str)) = false) (da2 : (a == ("__classdict__" : Str)) = false) (hd1 : (c == ("__debug__" : Str)) = false) (hd2 : (n == ("__debug__" : Str)) = false) (hd3 : (c == ("__classdict__" : Str)) = false) (hd4 : (n == ("__classdict__" : Str)) = false) : Cgt K CA mg x cs :=
  ⟨g, a, pg, _, sg, kV, doc', pm, cdv, ct, oc, an, od, osl, [a, c, n], hm, hk, lk, hc0, hb, S, rfl, .inl ha, da, da2, fun X q hK hmg => by
    subst hK hmg
    exact caught_gives hge hme hde S hc hn hd1 hd2 hd3 hd4⟩
end
end CM
namespace CM
open PySem PySem.Spec PyProof.Rows L2
def fRepA : FD := fun ds h => match ds with
  | [.non] => .ok (.str "None") h
  | [.bl b] => .ok (.str (if b then "True" else "False")) h
  | [.str x] => if (reprText x).length ≤ sizeLine then .ok (.str (reprText x)) h else .no
  | _ => fRep ds h
def rRepA (K : PySem.W.Frag) : List V → Hp → VK → Prop := fun xs H Q => (xs = [.non] ∧ Q (.str "None") H) ∨ (∃ b, xs = [.bl b] ∧ Q (.str (if b then "True" else "False")) H) ∨
  (∃ x, xs = [.str x] ∧ (reprText x).length ≤ sizeLine ∧ Q (.str (reprText x)) H) ∨ rRep K xs H Q
section
variable {X : Cx} {K : PySem.W.Frag} {CA : CAs}
theorem call_repA (sm : SM X.base) (hG : X.A.guards = some []) (hu : X.A.units + 64 < cLine) (hK : X.K = K := by rfl) : CallR X (.builtin "repr") (rRepA K) := by
  rintro pins s σ H xs us Q I r (⟨rfl, q⟩ | ⟨b, rfl, q⟩ | ⟨x, rfl, l, q⟩ | q)
  · obtain ⟨u, rfl, rfl⟩ := vals1 r
    exact PySem.P.repr_of_none ⟨.str _, H, I.tok _, ⟨_, rfl⟩, q⟩
  · obtain ⟨u, rfl, rfl⟩ := vals1 r
    exact PySem.P.repr_of_bool ⟨.str _, H, I.tok _, ⟨_, rfl⟩, q⟩
  · obtain ⟨u, rfl, t, rfl⟩ := vals1 r
    exact PySem.call_repr_gives (typeIs_str s x t) F.slot_str_repr F.entry_str_repr (F.args_str_repr_1 _) (gives_str_repr x t) (show EP X pins σ Q _ _ from ⟨.str _, H, I.tok _, ⟨_, rfl⟩, q⟩) (hx := l)
  · exact call_rep sm hG hu hK pins s σ H xs us Q I r q
theorem sim_repA : SimC K CA (rRepA K) fRepA := by
  intro W σ m h H xs ds Q' S r t
  unfold fRepA at t
  split at t
  · cases r with
    | cons r1 r2 => cases r1; cases r2; exact .inl ⟨rfl, t.here S (.str _)⟩
  · cases r with
    | cons r1 r2 => cases r1; cases r2; exact .inr (.inl ⟨_, rfl, t.here S (.str _)⟩)
  · cases r with
    | cons r1 r2 =>
      cases r1; cases r2
      obtain ⟨c, t⟩ := post_ite t
      exact .inr (.inr (.inl ⟨_, rfl, c, t.here S (.str _)⟩))
  · exact .inr (.inr (.inr (sim_rep W σ m h H xs ds Q' S r t)))
end
end CM
namespace CM
open PySem PySem.Spec PyProof.Rows L2
end CM
namespace CM
open PySem PySem.Spec PyProof.Rows L2
def dStar (ta : TD) (ts : TDs) : TDs := fun ρ h => (ta ρ h).bind fun d h => match seqOf h d with
  | some xs => (ts ρ h).bind fun ys h => .ok (xs ++ ys) h
  | none => .no
section
variable {X : Cx} {K : PySem.W.Frag} {CA : CAs} {W : WX} {e : Expr} {es : List Expr} {pos p sp_ : Pos} {ha : TE} {ta : TD} {hs : TA} {ts : TDs}
theorem rps_app {m : Mp} {h : CH} {H : Hp} : ∀ {xs ys : List V} {ds es : List D}, RpAll K CA m h H xs ds → RpAll K CA m h H ys es → RpAll K CA m h H (xs ++ ys) (ds ++ es)
  | [], _, _, _, a, b => by cases a; exact b
  | x :: xs, _, _, _, a, b => by
    cases a with
    | cons a1 a2 => exact .cons a1 (rps_app a2 b)
/-- *e among the arguments -/
theorem wa_star (x : WE X K CA W e ha ta) (y : WA X K CA W es hs ts) (hK : X.K = K := by rfl) (hst : starEach (.Starred e sp_ :: es) X.env = (true, eval e X.env) :: starEach es X.env := by rfl) : WA X K CA W (.Starred e sp_ :: es) (StX.tStar K ha hs) (dStar ta ts) := by
  subst hK
  refine ⟨StX.pa_star x.pe y.pe hst, fun m h H σ ρ Q' S t => x.sim m h H σ ρ _ S (t.bind fun d h1 m1 v H1 s1 S1 r1 t1 => ?_)⟩
  split at t1
  · rename_i xs e1
    obtain ⟨a, zs, rfl, q, rr⟩ := rp_seq S1 r1 e1
    refine ⟨a, zs, rfl, q.symm, y.sim m1 h1 H1 σ ρ _ (S.move s1 S1) (t1.bind fun ys h2 m2 ws H2 s2 S2 r2 t2 => ?_)⟩
    exact t2.here S2 (rps_app (rr.move s2) r2)
  · exact t1.elim
end
end CM
namespace CM
open PySem PySem.Spec PyProof.Rows L2
end CM
namespace CM
open PySem PySem.Spec PyProof.Rows L2
end CM
namespace CM
open PySem PySem.Spec PyProof.Rows L2
def dGL {α : Type} (tg : TGD) (tt : TB) (body : α → DE → CH → R α) (ρ0 : DE) : α → List D → CH → R α
  | acc, [], h => .ok acc h
  | acc, d :: r, h => (tg d ρ0 h).calm fun ρ2 h => (tt ρ2 h).calm fun b h => if b = true then (body acc ρ2 h).calm fun acc h => dGL tg tt body ρ0 acc r h else dGL tg tt body ρ0 acc r h
section
variable {K : PySem.W.Frag} {CA : CAs} {α : Type}
/-- what a reading with an account ends with, the object at a being its own -/
def PB (K : PySem.W.Frag) (CA : CAs) (a : Addr) (m : Mp) (h : CH) (H : Hp) (P : α → Mp → CH → Hp → Prop) : R α → Prop
  | .ok x h' => ∀ m' H', Sc a m h H m' h' H' → HR K CA m' h' H' → P x m' h' H'
  | _ => False
theorem PB.base {a : Addr} {m m2 : Mp} {h h2 : CH} {H H2 : Hp} {P : α → Mp → CH → Hp → Prop} {r : R α} (s : Sc a m h H m2 h2 H2) (q : PB K CA a m h H P r) : PB K CA a m2 h2 H2 P r := by
  cases r with
  | ok x h' => exact fun m' H' s' S' => q m' H' (s.trans s') S'
  | ex => exact q
  | no => exact q
theorem PB.calm {β : Type} {a : Addr} {m : Mp} {h : CH} {H : Hp} {P : α → Mp → CH → Hp → Prop} {r : R β} {k : β → CH → R α} (q : PB K CA a m h H P (r.calm k)) : ∃ b h', r = .ok b h' ∧ PB K CA a m h H P (k b h') := by
  cases r with
  | ok b h' => exact ⟨b, h', rfl, q⟩
  | ex => exact q.elim
  | no => exact q.elim
variable {RA : Addr → α → Mp → CH → Hp → Prop} {tb : Addr → L2.St → Hp → (Hp → Prop) → Prop} {body : α → DE → CH → R α} {gH : TG} {tg : TGD} {hT : TT} {tt : TB} {vs sl : List Nat} {J : It} {ds : List D} {m0 m1 : Mp} {h0 h1 : CH} {H0 H1 : Hp} {σ : L2.St} {ρ : DE} {a : Addr} {x : α} {Done : Hp → Prop}
end
end CM
namespace CM
open PySem PySem.Spec PyProof.Rows L2
section
variable {K : PySem.W.Frag} {CA : CAs}
def bK (tk tv : TD) : List (Key × D) → DE → CH → R (List (Key × D)) := fun acc ρ h => (tk ρ h).calm fun y h => (tv ρ h).calm fun z h => match keyD y with
  | some k => if acc.length < sizeLine then .ok (dPut acc k z) h else .no
  | none => .no
def tbK (hk hv : TE) : Addr → L2.St → Hp → (Hp → Prop) → Prop := fun a σ H Nx => hk σ H fun y H4 => hv σ H4 fun z H5 => ∃ kvs k, y = kV k ∧ H5 a = some (.dK kvs) ∧ kvs.length < sizeLine ∧ Nx (upd H5 a (.dK (putK kvs k z)))
variable {hk hv : TE} {tk tv : TD} {hs : TA} {ts : TDs}
end
end CM
namespace CM
open PySem PySem.Spec PyProof.Rows L2
end CM
namespace CM
open PySem PySem.Spec PyProof.Rows L2
/-- the wish of a second clause -/
def tb2 (wi : TI) (g : TG) (tt : TT) (hk hv : TE) (vs1 : List Nat) : Addr → L2.St → Hp → (Hp → Prop) → Prop := fun a σ H Nx => wi σ H fun J H4 => ∃ W : Nat → Nat → Hp → Prop, (∃ m, W 0 m H4) ∧ ∀ j k H, W j k H →
  (J.stop j H ∧ Nx H) ∨ (J.go j H ∧ ∃ Nx1 : Hp → Prop, (∀ H', Nx1 H' → ∃ k', k' < k ∧ W (j + 1) k' H') ∧ ∀ x H', J.yld j H x H' → g x (wipe σ vs1) H' fun σ3 H5 => wipe σ3 vs1 = wipe σ vs1 ∧ tt σ3 H5 fun b H6 => if b = true then tbK hk hv a σ3 H6 Nx1 else Nx1 H6)
def b2 (ti : TDw) (tg : TGD) (tt : TB) (tk tv : TD) (vs1 : List Nat) : List (Key × D) → DE → CH → R (List (Key × D)) := fun acc ρ h => (ti ρ h).calm fun w h => match w.2 with
  | none => dGL tg tt (bK tk tv) (wipeD ρ vs1) acc w.1 h
  | some _ => .no
end CM
namespace CM
open PySem PySem.Spec PyProof.Rows L2
end CM
namespace CM
open PySem PySem.Spec PyProof.Rows L2
end CM
namespace CM
open PySem PySem.Spec PyProof.Rows L2
end CM
namespace CM
open PySem PySem.Spec PyProof.Rows L2
/-- the entries as written -/
def KdI (P : Params) : List DictEntry → List (Str × Int) → Prop
  | [], [] => True
  | e :: r, (x, i) :: q => (∃ t t', e.key = .str x t ∧ e.hash = PyData.keyHash P x ∧ e.val = .int i t') ∧ KdI P r q
  | _, _ => False
theorem kdI_lit {P : Params} : ∀ {es : List DictEntry} {q : List (Str × Int)}, KdI P es q → PySem.W.KeysLit P es
  | [], _, _ => trivial
  | e :: r, [], h => h.elim
  | e :: r, (x, i) :: q, h => ⟨let ⟨t, _, a, b, _⟩ := h.1; ⟨x, t, a, b⟩, kdI_lit h.2⟩
def lkI (q : List (Str × Int)) (z : Str) : Option Int := match q with
  | [] => none
  | (x, i) :: r => if x == z then some i else lkI r z
theorem kdI_find {P : Params} {z : Str} : ∀ {es : List DictEntry} {q : List (Str × Int)}, KdI P es q → (es.any (·.refKey) = false) ∧ (match lkI q z with
    | some i => ∃ e t, es.find? (·.key.isStr z) = some e ∧ e.val = .int i t
    | none => es.find? (·.key.isStr z) = none)
  | [], [], _ => ⟨rfl, rfl⟩
  | [], _ :: _, h => h.elim
  | e :: r, [], h => h.elim
  | e :: r, (x, i) :: q, h => by
    obtain ⟨⟨t, t', ek, eh, ev⟩, hr⟩ := h
    obtain ⟨i1, i2⟩ := kdI_find (z := z) hr
    have hs : e.key.isStr z = (x == z) := by rw [ek]; rfl
    constructor
    · rw [List.any_cons, i1]
      have : e.refKey = false := by unfold DictEntry.refKey; rw [ek]
      rw [this]; rfl
    · unfold lkI
      by_cases c : (x == z) = true
      · rw [if_pos c, List.find?_cons, hs, c]
        exact ⟨e, t', rfl, ev⟩
      · rw [if_neg c, List.find?_cons, hs]
        rw [Bool.not_eq_true] at c
        rw [c]
        exact i2
theorem kdI_ns {K : PySem.W.Frag} {P : Params} {d : Addr} {es : Array DictEntry} {n : Nat} {q : List (Str × Int)} (hl : K.lookup d = some ⟨.type "dict", none, .dict es n, #[]⟩) (h : KdI P es.toList q) (z : Str) :
    match lkI q z with
    | some i => ∃ t, PySem.W.nsIn K d z = some (some (.int i t))
    | none => PySem.W.nsIn K d z = some none := by
  obtain ⟨h1, h2⟩ := kdI_find (z := z) h
  cases e : lkI q z with
  | some i =>
    rw [e] at h2
    obtain ⟨en, t, q1, q2⟩ := h2
    refine ⟨t, ?_⟩
    unfold PySem.W.nsIn
    rw [hl]
    simp only [q1, q2]
  | none =>
    rw [e] at h2
    show PySem.W.nsIn K d z = some none
    unfold PySem.W.nsIn
    rw [hl]
    simp only [h2]
    rw [h1]
    rfl
structure KGet (K : PySem.W.Frag) (w : World) (mg : Str → Option Value) (x : Str) (d : Addr) (q : List (Str × Int)) : Prop where
  g : mg x = some (.ref d)
  k : ∃ es n, KDict K w d es n ∧ KdI w.params es.toList q
theorem kget_mk {K : PySem.W.Frag} {w : World} {mg : Str → Option Value} {x : Str} {d : Addr} {q : List (Str × Int)} {es : Array DictEntry} {n : Nat} (g : mg x = some (.ref d)) (hl : K.lookup d = some ⟨.type "dict", none, .dict es n, #[]⟩) (h : KdI w.params es.toList q) (low : (d == sysModules) = false) : KGet K w mg x d q :=
  ⟨g, es, n, ⟨hl, kdI_lit h, low⟩, h⟩
def tKGet2 (d : Addr) (q : List (Str × Int)) (ty tx : TE) : TE := fun σ H Q => ty σ H fun y H2 => tx σ H2 fun z H3 => ∃ k : Str, y = .str k ∧ Q (match lkI q k with
  | some i => .int i
  | none => z) H3
def dKGet2 (q : List (Str × Int)) (tk tx : TD) : TD := fun ρ h => (tk ρ h).bind fun y h => (tx ρ h).bind fun z h => match y with
  | .str k => match lkI q k with
    | some i => .ok (.int i) h
    | none => .ok z h
  | _ => .no
section
variable {X : Cx} {K : PySem.W.Frag} {CA : CAs} {W : WX} {x : Str} {d : Addr} {q : List (Str × Int)} {e f : Expr} {p apos cpos : Pos} {ty tx : TE} {ta tb : TD}
theorem pe_kget2 (G : KGet X.K X.w X.mg x d q) (hg : Gl X x) (hd : (x == ("__debug__" : Str)) = false) (he : PE X e ty) (hf : PE X f tx) (m : M2 X (.Name x p) "get" apos e f cpos) : PE X (.Call (.Attribute (.Name x p) "get" apos) [e, f] [] cpos) (tKGet2 d q ty tx) := by
  obtain ⟨g, es, n, D, hI⟩ := G
  refine ⟨fun pins s σ H Q I h => ?_⟩
  have ho : PE X (.Name x p) (tC (.ref d)) := pe_glob hg g rfl hd
  refine wpAny_Call_method m.base m.few m.line PySem.F.plainAttrs_dict PySem.F.slot_dict_get PySem.F.type_dict_get (thn (ho.run pins s σ H _ I (show tC (.ref d) σ H (fun y H1 => y = V.ref d ∧ tKGet2 d q ty tx σ H1 Q) from ⟨rfl, h⟩)) fun u s1 ⟨v, H1, I1, rx, e1, q1⟩ => ?_)
  subst e1
  obtain rfl : u = Value.ref d := rx
  have at1 : s1.heap.get? d = some ⟨.type "dict", none, .dict es n, #[]⟩ := I1.kIn _ _ D.at_
  refine ⟨kd_type D I1, fun b z => ?_, ?_⟩
  · cases z; exact ⟨_, at1, rfl⟩
  rw [m.trees]
  refine Calls.callWith_builtin rfl (Calls.evalArgs_plain (Calls.spliced_cons (thn (he.run pins s1 σ _ _ I1 q1) fun iv s2 ⟨y, H2, I2, ry, q2⟩ =>
    Calls.spliced_cons (thn (hf.run pins s2 σ H2 _ I2 q2) fun fv s3 ⟨z, H3, I3, rz, k, ek, q3⟩ => Calls.spliced_nil ?_))))
  subst ek
  obtain ⟨t, rfl⟩ := ry
  have M := PySem.W.mapOf_K (prog := X.prog) (w := X.w) I3.kIn D.at_ D.lit
  refine call_meetsIn PySem.F.slot_dict_get (kd_type D I3) PySem.F.entry_dict_get (PySem.F.args_dict_get_3 _ _ _) (meets_dict_get_default (PySem.strKind X.prog X.w) d (PySem.strKind_is X.prog X.w k t) D.low fv) ⟨_, M, ?_⟩
  have hn := kdI_ns D.at_ hI k
  cases el : lkI q k with
  | some i =>
    rw [el] at hn q3
    obtain ⟨t', hn⟩ := hn
    rw [PySem.W.find_K D.at_ hn]
    exact ⟨.int i, H3, I3.tok _, ⟨t', rfl⟩, q3⟩
  | none =>
    rw [el] at hn q3
    rw [PySem.W.find_K D.at_ hn]
    exact ⟨z, H3, I3.tok _, rz, q3⟩
theorem we_kget2 (G : KGet X.K X.w X.mg x d q) (y : WE X K CA W e ty ta) (z : WE X K CA W f tx tb) (m : M2 X (.Name x p) "get" apos e f cpos) (hg : Gl X x := by rfl) (hd : (x == ("__debug__" : Str)) = false := by decide) :
    WE X K CA W (.Call (.Attribute (.Name x p) "get" apos) [e, f] [] cpos) (tKGet2 d q ty tx) (dKGet2 q ta tb) :=
  ⟨pe_kget2 G hg hd y.pe z.pe m, fun m h H σ ρ Q' S t => y.sim m h H σ ρ _ S (t.bind fun d1 h1 m1 v1 H1 s1 S1 r1 t1 =>
    z.sim m1 h1 H1 σ ρ _ (S.move s1 S1) (t1.bind fun d2 h2 m2 v2 H2 s2 S2 r2 t2 => by
      split at t2
      · rename_i k
        have r1' := r1.move s2
        cases r1'
        refine ⟨k, rfl, ?_⟩
        split at t2
        · exact t2.here S2 (.int _)
        · exact t2.here S2 r2
      · exact t2.elim))⟩
end
end CM
namespace CM
open PySem PySem.Spec PyProof.Rows L2
end CM
namespace CM
open PySem PySem.Spec PyProof.Rows L2
end CM
namespace CM
open PySem PySem.Spec PyProof.Rows L2
def fEqE : F2 := fun x y h => match x, y with
  | .tup xs, .tup [] => .ok (.bl xs.isEmpty) h
  | x, y => fEq false x y h
section
variable {X : Cx} {K : PySem.W.Frag} {CA : CAs} {W : WX} {m : Mp} {h : CH} {H : Hp} {σ : L2.St}
def rEqE (K : PySem.W.Frag) : R2 := fun x y H Q => ∃ a b xs, x = .ref a ∧ y = .ref b ∧ SqT K H a xs ∧ SqT K H b [] ∧ Q (.bl xs.isEmpty) H
theorem op_eqE1 (hu : X.A.units + 64 < cLine) : OpR X (compareOp .Eq) (rEqE X.K) := by
  intro pins s σ H x y v u Q I rx ry h
  obtain ⟨a, b, xs, rfl, rfl, ha, hb, q⟩ := h
  cases rx
  cases ry
  obtain ⟨its, r1, p1, _⟩ := I.tuple ha
  obtain ⟨its2, r2, p2, _⟩ := I.tuple hb
  cases r2
  refine SeqAt.eq_tupleAt (e := fun _ => true) p1 p2 (by omega) (fun j h1 h2 => absurd h2 (by simp)) ?_
  refine ⟨.bl xs.isEmpty, H, I, ?_, q⟩
  have : ((List.range (min its.toArray.size ([] : List Value).toArray.size)).all (fun _ => true) && its.toArray.size == ([] : List Value).toArray.size) = xs.isEmpty := by
    have := r1.length
    cases xs with
    | nil => cases r1; rfl
    | cons x r => cases r1; simp
  rw [this]
  rfl
theorem op_eqE (hu : X.A.units + 64 < cLine) (hK : X.K = K := by rfl) : OpR X (compareOp .Eq) (fun x y H Q => (rEq x y H Q ∨ rEqD K x y H Q) ∨ rEqE K x y H Q) := by subst hK; exact (op_eqU hu rfl).or (op_eqE1 hu)
theorem sim_eqE : SimR K CA (fun x y H Q => (rEq x y H Q ∨ rEqD K x y H Q) ∨ rEqE K x y H Q) fEqE := by
  intro W σ m h H x y dx dy Q' S rx ry t
  unfold fEqE at t
  split at t
  · rename_i ds
    obtain ⟨a, xs, rfl, e1, r1⟩ := rp_tup rx
    obtain ⟨b, ys, rfl, e2, r2⟩ := rp_tup ry
    cases r2
    refine .inr ⟨a, b, xs, rfl, rfl, e1, e2, ?_⟩
    have : xs.isEmpty = ds.isEmpty := by
      cases r1 with
      | nil => exact rfl
      | cons _ _ => exact rfl
    rw [this]
    exact t.here S (.bl _)
  · exact .inl (sim_eq W σ m h H x y _ _ Q' S rx ry t)
end
end CM
namespace CM
open PySem PySem.Spec PyProof.Rows L2
end CM
namespace CM
open PySem PySem.Spec PyProof.Rows L2
end CM
namespace CM
open PySem PySem.Spec PyProof.Rows L2
end CM
namespace CM
open PySem PySem.Spec PyProof.Rows L2
end CM
namespace CM
open PySem PySem.Spec PyProof.Rows L2
end CM
namespace CM
open PySem PySem.Spec PySem.Calls PyProof.Rows L2
section
variable {X : Cx} {pins : List (Addr × Obj)} {σ : L2.St} {H : Hp} {s : Shared}
/-- the function object of a lambda -/
abbrev lamO (X : Cx) (params : Arguments) (body : Expr) (scope : Scope) (pm : Value) (c' : Addr) (ctv : Value) : Obj := PySem.W.kla_obj "<lambda>" (X.env.qual ++ "<lambda>") params body scope (cloFrom X.env.cells scope.names []) pm c' ctv
theorem unpinV {p : Addr × Obj} (I : Inv X (p :: pins) σ H s) : Inv X pins σ H s := I.pins_of fun r hr => I.pin r (List.mem_append_right _ (List.mem_cons_of_mem _ hr))
end
end CM
namespace CM
open PySem PySem.Spec PyProof.Rows L2
def keyS (e : Int × Value) : Str := match e.2 with | .str x _ => x | _ => ⟨#[]⟩
def GoodS (P : Program) (w : World) (e : Int × Value) : Prop := ∃ x u, e.2 = Value.str x u ∧ e.1 = (PySem.strKind P w).hash x
section
variable {P : Program} {w : World} {A : Around} {E : Value → Shared → Prop} {s : Shared} {a : Addr} {ss : List Str}
theorem isS {e : Int × Value} (g : GoodS P w e) (x : Str) : (PySem.strKind P w).is x e.2 = true ↔ keyS e = x := by
  obtain ⟨y, u, q, _⟩ := g
  unfold keyS
  rw [q]
  show ((y == x) = true) ↔ y = x
  exact beq_iff_eq
end
end CM
namespace CM
open PySem PySem.Spec PySem.Calls PyProof.Rows L2
/-- a def that is called through the value that the class number c stands for -/
def Dv (X : Cx) (CA : CAs) (n c : Nat) (F : FD) : Prop := ∃ (g : Bool) (k : Nat) (f : Addr) (fd : FuncData) (ps : List Str), CA c = f ∧ ps.length = n ∧ FnG X.prog X.w X.K X.mg X.base g k f fd ps (spD X.K CA ps.length F) ∧ PySem.W.keepIn X.K (.ref f) = true ∧ (g = true → X.A.guards = some []) ∧ Room k X.A ∧ KwB X.K CA fd ps ps.length [] (srcP 0 ps.length)
inductive Dvs (X : Cx) (CA : CAs) (n : Nat) : List (Nat × FD) → Prop where
  | nil : Dvs X CA n []
  | cons {c : Nat} {F : FD} {l : List (Nat × FD)} : Dv X CA n c F → Dvs X CA n l → Dvs X CA n ((c, F) :: l)
theorem Dv.of {X : Cx} {CA : CAs} {n c : Nat} {F : FD} {x : Str} {g : Bool} {k : Nat} {f : Addr} {fd : FuncData} {ps : List Str} (D : Df X.prog X.w X.K X.mg X.base CA x g k ps F f fd) (hc : CA c = f) (hG : g = true → X.A.guards = some []) (hr : Room k X.A) (B : KwB X.K CA fd ps ps.length [] (srcP 0 ps.length)) (hn : ps.length = n := by rfl) : Dv X CA n c F :=
  ⟨g, k, f, fd, ps, hc, hn, D.G, D.hk, hG, hr, B⟩
theorem Dvs.get {X : Cx} {CA : CAs} {n c : Nat} {F : FD} : ∀ {l : List (Nat × FD)}, Dvs X CA n l → l.lookup c = some F → Dv X CA n c F
  | _, .nil, e => by cases e
  | (c', F') :: l, .cons d ds, e => by
    rw [List.lookup_cons] at e
    by_cases z : c = c'
    · subst z
      simp at e
      subst e
      exact d
    · rw [show (c == c') = false from by simpa using z] at e
      exact ds.get e
end CM
namespace CM
open PySem PySem.Spec PySem.Calls PyProof.Rows L2
def fEqL (neg : Bool) : F2 := fun x y h => match lstOf h x, lstOf h y with
  | some xs, some [] => .ok (.bl (bneg neg xs.isEmpty)) h
  | _, _ => fEq neg x y h
def rEqL (K : PySem.W.Frag) (neg : Bool) : R2 := fun x y H Q => ∃ a b xs, x = .ref a ∧ y = .ref b ∧ SqL K H a xs ∧ SqL K H b [] ∧ Q (.bl (bneg neg xs.isEmpty)) H
section
variable {X : Cx} {K : PySem.W.Frag} {CA : CAs}
theorem op_eqL1 (hu : X.A.units + 64 < cLine) : OpR X (compareOp .Eq) (rEqL X.K false) := by
  intro pins s σ H x y v u Q I rx ry h
  obtain ⟨a, b, xs, rfl, rfl, ha, hb, q⟩ := h
  cases rx
  cases ry
  obtain ⟨its, r1, ⟨o1, m1, p1, c1, d1, n1⟩, _⟩ := I.list ha
  obtain ⟨its2, r2, ⟨o2, m2, p2, c2, d2, n2⟩, _⟩ := I.list hb
  cases r2
  cases r1 with
  | nil => exact SeqAt.eq_listAt (e := fun _ => true) ⟨o1, p1, c1, m1, n1⟩ ⟨o2, p2, c2, m2, n2⟩ rfl (by omega) (fun j h1 h2 => absurd h2 (by simp)) ⟨.bl true, H, I, rfl, q⟩
  | cons _ _ => exact SeqAt.eq_list_lengthsAt ⟨o1, p1, c1, m1, n1⟩ ⟨o2, p2, c2, m2, n2⟩ (by simp) (by omega) ⟨.bl false, H, I, rfl, q⟩
theorem op_neL1 (hu : X.A.units + 64 < cLine) : OpR X (compareOp .NotEq) (rEqL X.K true) := by
  intro pins s σ H x y v u Q I rx ry h
  obtain ⟨a, b, xs, rfl, rfl, ha, hb, q⟩ := h
  cases rx
  cases ry
  obtain ⟨its, r1, ⟨o1, m1, p1, c1, d1, n1⟩, _⟩ := I.list ha
  obtain ⟨its2, r2, ⟨o2, m2, p2, c2, d2, n2⟩, _⟩ := I.list hb
  cases r2
  cases r1 with
  | nil => exact SeqAt.RcNeAt.lists (e := fun _ => true) ⟨o1, p1, c1, m1, n1⟩ ⟨o2, p2, c2, m2, n2⟩ rfl (by omega) (fun j h1 h2 => absurd h2 (by simp)) _ _ _ _ ⟨.bl false, H, I, rfl, q⟩
  | cons _ _ => exact SeqAt.RcNeAt.lists_lengths ⟨o1, p1, c1, m1, n1⟩ ⟨o2, p2, c2, m2, n2⟩ (by simp) (by omega) _ _ _ _ ⟨.bl true, H, I, rfl, q⟩
theorem op_eqL (hu : X.A.units + 64 < cLine) (hK : X.K = K := by rfl) : OpR X (compareOp .Eq) (fun x y H Q => (rEq x y H Q ∨ rEqD K x y H Q) ∨ rEqL K false x y H Q) := by subst hK; exact (op_eqU hu rfl).or (op_eqL1 hu)
theorem op_neL (hu : X.A.units + 64 < cLine) (hK : X.K = K := by rfl) : OpR X (compareOp .NotEq) (fun x y H Q => (rNe x y H Q ∨ rNeD K x y H Q) ∨ rEqL K true x y H Q) := by subst hK; exact (op_neU hu rfl).or (op_neL1 hu)
theorem rel_L {W : WX} {m : Mp} {h : CH} {H : Hp} {neg : Bool} {x y : V} {dx dy : D} {xs : List D} {Q : VK} (S : HR K CA m h H) (rx : Rp K CA m h H x dx) (ry : Rp K CA m h H y dy) (e1 : lstOf h dx = some xs) (e2 : lstOf h dy = some []) (q : Q (.bl (bneg neg xs.isEmpty)) H) : rEqL K neg x y H Q := by
  obtain ⟨a, vs, rfl, h1, r1⟩ := rp_lst S rx e1
  obtain ⟨b, ws, rfl, h2, r2⟩ := rp_lst S ry e2
  cases r2
  refine ⟨a, b, vs, rfl, rfl, .inl (.inl h1), .inl (.inl h2), ?_⟩
  have : vs.isEmpty = xs.isEmpty := by cases r1 <;> rfl
  rw [this]; exact q
theorem sim_eqL : SimR K CA (fun x y H Q => (rEq x y H Q ∨ rEqD K x y H Q) ∨ rEqL K false x y H Q) (fEqL false) := by
  intro W σ m h H x y dx dy Q' S rx ry t
  unfold fEqL at t
  split at t
  · rename_i e1 e2
    exact .inr (rel_L (W := W) S rx ry e1 e2 (t.here S (.bl _)))
  · exact .inl (sim_eq W σ m h H x y _ _ Q' S rx ry t)
theorem sim_neL : SimR K CA (fun x y H Q => (rNe x y H Q ∨ rNeD K x y H Q) ∨ rEqL K true x y H Q) (fEqL true) := by
  intro W σ m h H x y dx dy Q' S rx ry t
  unfold fEqL at t
  split at t
  · rename_i e1 e2
    exact .inr (rel_L (W := W) S rx ry e1 e2 (t.here S (.bl _)))
  · exact .inl (sim_ne W σ m h H x y _ _ Q' S rx ry t)
end
end CM
namespace PySem
open Sem (wp)
theorem cm_meets_enum {v : Value} {o : Obj} {H : Heap → Prop} (B : Begins v o H) :
    Meets (Builtin.«enumerate.__new__» ⟨[.type "enumerate", v], []⟩) (fun _ R s => H s.heap ∧
      R (.ok (.ret (.ref (s.heap.push o).objs.size))) { s with heap := (s.heap.push o).push { cls := .type "enumerate", data := .fields #[.none, .bool false, .ref s.heap.objs.size, rawInt 0, .none, .none] } }) :=
  .of_wp fun prog w A R s h => by
    obtain ⟨hp, g, d, tk, os⟩ := s; obtain ⟨h1, h⟩ := h
    have hsub := sub_enumerate
    have q1 : ∀ {A' : Around} {E : Value → Shared → Prop} {Q : Value → Shared → Prop}, Q (.ref hp.objs.size) ⟨hp.push o, g, d, tk, os⟩ → wpAny (model prog w) A' (pyIter v) Q E ⟨hp, g, d, tk, os⟩ :=
      fun q => B.iter prog w _ _ ⟨hp, g, d, tk, os⟩ _ h1 q
    wp_walk using q1
    refine wpAny_stack_any fun st => wpAny_pure ?_
    split
    · rename_i c _ _ _ _ _
      cases (c == Value.type "enumerate")
      · wp_walk using q1
        exact ⟨_, rfl, h⟩
      · wp_walk using q1
        exact ⟨_, rfl, h⟩
    · wp_walk using q1
      exact ⟨_, rfl, h⟩
section
variable {prog : Program} {w : World} {A : Around} {E : Value → Shared → Prop} {s : Shared}
theorem cm_enum_begins {v : Value} {o : Obj} {H : Heap → Prop} {Q : Value → Shared → Prop} (B : Begins v o H) (h1 : H s.heap)
    (h : ∀ h', IsEnum h' (s.heap.objs.size + 1) s.heap.objs.size 0 .none → h'.get? s.heap.objs.size = some o → h'.objs.size = s.heap.objs.size + 2 →
      (∀ b o, s.heap.get? b = some o → h'.get? b = some o) → Q (.ref (s.heap.objs.size + 1)) { s with heap := h' }) :
    wpAny (model prog w) A (call (.type "enumerate") [v]) Q E s := by
  refine callType_new F.called_enumerate (by decide) (F.typeCall_enumerate_1 _) (F.newCall_enumerate_1 _) (fun obj => F.args_object_init_2 obj _) F.entry_enumerate_new
    (cm_meets_enum B) ⟨h1, ?_⟩
  have hz : (s.heap.push o).objs.size = s.heap.objs.size + 1 := Heap.size_push ..
  show _ ∧ _
  rw [hz]
  have he : IsEnum ((s.heap.push o).push { cls := .type "enumerate", data := .fields #[.none, .bool false, .ref s.heap.objs.size, rawInt 0, .none, .none] }) (s.heap.objs.size + 1) s.heap.objs.size 0 .none := by
    have := Heap.get?_push_size (s.heap.push o) (o := { cls := .type "enumerate", data := .fields #[.none, .bool false, .ref s.heap.objs.size, rawInt 0, .none, .none] }) rfl
    rw [hz] at this; exact this
  refine ⟨⟨_, he, rfl⟩, h _ he (Heap.get?_push_of_some _ (Heap.get?_push_size _ B.free)) (by rw [Heap.size_push, hz]) fun b o x => Heap.get?_push_of_some _ (Heap.get?_push_of_some _ x)⟩
theorem cm_enum_end {e it t : Addr} {n : Nat} {items : Array Value} {i : Int} {old : Value} {Q : Option Value → Shared → Prop} (hh : A.handled = none)
    (he : IsEnum s.heap e it i old) (hit : s.heap.IsTupleIter it t n) (ht : s.heap.IsTuple t items) (hx : items[n]? = none)
    (hQ : ∀ h', Heap.ExtBut it s.heap h' → Q none { s with heap := h' }) : wpAny (model prog w) A (pyNext (.ref e)) Q E s := by
  have hT : s.TypeIs (.ref e) "enumerate" := ⟨_, he, rfl⟩
  unfold pyNext
  refine wpAny_bind (wpAny_attempt (wpAny_callSpecial?_slot (name := Str.ofString "__next__") hT F.slot_enumerate_next
    (wpAny_call_entry F.slot_enumerate_next hT F.entry_enumerate_next ?_ (F.args_enumerate_next_1 _))))
  show wpAny _ _ (field (.ref e) 2 >>= _) _ _ _
  refine wpAny_bind (wpAny_field he rfl (x := .ref it) rfl ?_)
  refine wpAny_bind (wpAny_nextOf_tuple_end (A := A.in1) hh hit ht hx fun h' x he' hx' => ?_)
  obtain ⟨o, ho, hc⟩ := hx'
  refine wpAny_bind (wpAny_isInstance (T := "StopIteration") (b := true) ⟨o, ho, hc⟩ isSubtype_stop ?_)
  exact wpAny_pure (hQ _ he')
end
end PySem
namespace L2
open PySem PySem.Spec PyProof.Rows
/-- the tuple at a, each item in a new pair -/
def Itet (K : PySem.W.Frag) (a : Addr) : It :=
  ⟨fun i H => ∃ (xs : List V) (x : V), SqT K H a xs ∧ xs[i]? = some x, fun i H v H' => ∃ T x, v = .ref T ∧ H T = none ∧ H' = upd H T (.tup [.int (i : Nat), x]) ∧ ∀ xs, SqT K H a xs → xs[i]? = some x, fun i H => ∃ xs : List V, SqT K H a xs ∧ xs.length ≤ i⟩
theorem turn_enumT {P : Program} {w : World} {K : PySem.W.Frag} {elts : List Expr} {kk : Nat} {tpos : Pos} (a e it : Addr) :
    Turn P w K (.Tuple elts kk tpos) (Itet K a) [e, it] e (fun i h => (∃ old, IsEnum h e it ((i : Nat) : Int) old) ∧ h.IsTupleIter it a i ∧ e ≠ it) where
  mem := by simp
  obj := fun i h st b hb => by
    obtain ⟨⟨old, he⟩, ⟨o, ho, hc, hd⟩, _⟩ := st
    have e' : b = e ∨ b = it := by simpa using hb
    rcases e' with z | z
    · rw [z]; exact ⟨_, he, fun v q => nomatch q⟩
    · rw [z]; exact ⟨o, ho, fun v q => by rw [hd] at q; cases q⟩
  keep := fun i h h' st k => let ⟨⟨old, he⟩, hi, hne⟩ := st; ⟨⟨old, k e (by simp) _ he⟩, hi.at fun o q => k it (by simp) o q, hne⟩
  item := by
    intro X hP hw hK hc i pins s σ H E I hf st hg
    subst hP hw hK
    obtain ⟨⟨old, he⟩, hit, hne⟩ := st
    obtain ⟨xs, x, hq, hx⟩ := hg
    obtain ⟨its, rv, p, hz⟩ := I.tuple hq
    obtain ⟨u, hu, ru⟩ := rv.get hx
    have pt : s.heap.IsTuple a its.toArray := p
    obtain ⟨ot, hot, hct, _⟩ := id pt
    obtain ⟨oi, hoi, hci, _⟩ := id hit
    have ha1 : a ≠ it := fun z => by
      subst z
      rw [hoi] at hot
      cases hot
      rw [hci] at hct
      exact absurd hct (by decide)
    have ha2 : e ≠ a := fun z => by
      subst z
      have he' := he
      unfold IsEnum at he'
      rw [hot] at he'
      cases he'
      exact absurd hct (by simp)
    have hel : e < s.heap.objs.size := Heap.lt_size he
    have hil : it < s.heap.objs.size := Heap.lt_size hoi
    have hl : i < its.toArray.size := by
      have := (List.getElem?_eq_some_iff.mp hu).1
      simpa using this
    have D := Draws.tuple (prog := X.prog) (w := X.w) (A := X.A.in1) (I.ok.hd hc) it a ha1 its.toArray
    refine wpAny_pyNext_enum_itemD D he ⟨hit, pt⟩ hl hne (by simp [hne, ha2]) fun x' h' tk hPx ho hst' hT hsz hk => ?_
    have ex : x' = u := by
      have h1 : its.toArray[i]? = some x' := hPx
      have h2 : its.toArray[i]? = some u := by simpa using hu
      rw [h1] at h2
      exact Option.some.inj h2
    subst ex
    refine ⟨_, rfl, wpAny_letOwnedTupleGo_enum (s := { s with heap := h', toks := tk + 1 }) ho fun h'' he' sb => ?_⟩
    have hT2 : h''.get? s.heap.objs.size = some { cls := .type "tuple", data := .seq #[.int i tk, x'] } := (sb.2 _ (Nat.ne_of_gt hel)).trans hT
    have new : ObjOk X.prog X.w (upd H s.heap.objs.size (.tup [.int (i : Nat), x])) h'' s.heap.objs.size (.tup [.int (i : Nat), x]) :=
      ⟨by show 2 ≤ sizeLine; decide, [.int i tk, x'], .cons ⟨_, rfl⟩ (.cons ru .nil), ⟨_, hT2, rfl, _, rfl⟩⟩
    have I1 : Inv X pins σ (upd H s.heap.objs.size (.tup [.int (i : Nat), x])) { s with heap := h'', toks := tk + 1 } :=
      I.turnedNew (ch := [e, it]) (fun b ob hb q => (sb.2 b (fun z => hb (by simp [z]))).trans (hk b ob (fun z => hb (by simp [z])) (fun z => hb (by simp [z])) q)) hf (Nat.le_refl _) new
    refine ⟨.ref s.heap.objs.size, _, I1, rfl, ⟨_, x, rfl, I.hok.fresh (Nat.le_refl _), rfl, fun ys hy => by rw [I.tuple_inj hy hq]; exact hx⟩, ⟨⟨x', ?_⟩, hst'.1.at fun o q => (sb.2 it (Ne.symm hne)).trans q, hne⟩, fun b hb => ?_⟩
    · have e1 : ((i + 1 : Nat) : Int) = (i : Int) + 1 := by omega
      rw [e1]; exact he'
    · have hb' : b < s.heap.objs.size := by
        have e' : b = e ∨ b = it := by simpa using hb
        rcases e' with z | z
        · rw [z]; exact hel
        · rw [z]; exact hil
      rw [upd_ne (Nat.ne_of_lt hb')]
      exact (hf b hb).1
  done := by
    intro X hP hw hK hc i pins s σ H E I hf st hg
    subst hP hw hK
    obtain ⟨⟨old, he⟩, hit, hne⟩ := st
    obtain ⟨xs, hq, hx⟩ := hg
    obtain ⟨its, rv, p, hz⟩ := I.tuple hq
    obtain ⟨f0, f1, f2, f3, f4, f5⟩ := hf it (by simp)
    have hl := rv.length
    have pt : s.heap.IsTuple a its.toArray := p
    exact cm_enum_end (I.ok.hd hc) he hit pt (by simp; omega) fun h' eb => ⟨rfl, I.turned (t' := s.toks) (fun b o hb q => eb b o hb q) f0 f1 f3 f4 f5⟩
  self := fun A i s Q E st h => let ⟨⟨_, he⟩, _⟩ := st; wpAny_pyIter_enum he h
def iEnumT (K : PySem.W.Frag) (ta : TA) : TI := fun σ H R => ta σ H fun vs H1 => (∃ a xs, vs = [.ref a] ∧ SqL K H1 a xs ∧ R (Ite K a) H1) ∨ ∃ a xs, vs = [.ref a] ∧ SqT K H1 a xs ∧ R (Itet K a) H1
theorem pi_enumT {X : Cx} {e : Expr} {ta : TA} {p pos tpos : Pos} {elts : List Expr} {kk : Nat} (hg : Gl X "enumerate") (hm : X.mg "enumerate" = none) (ha : PA X [e] ta) (hs : starEach [e] X.env = [(false, eval e X.env)] := by rfl) :
    PI X (.Tuple elts kk tpos) (.Call (.Name "enumerate" p) [e] [] pos) (iEnumT X.K ta) := by
  refine ⟨fun pins s σ H R I h => ?_⟩
  refine Call_ (ld_blt I hg hm boot_enumerate (PyProof.Rows.callWith_type1 (thn (ha.run pos pins s σ H _ I h) fun us s1 ⟨vs, H1, I1, r1, q1⟩ => ?_) hs rfl))
  rcases q1 with ⟨a, xs, ex, hq, q⟩ | ⟨a, xs, ex, hq, q⟩
  · subst ex
    cases r1 with
    | cons r rr =>
      cases rr
      cases r
      obtain ⟨its, rv, p', hz⟩ := I1.list hq
      refine call_enumerate_list p'.isList fun h' he hit hsz hk => wpAny_pyIter_enum he ?_
      have I2 : Inv X pins σ H1 { s1 with heap := h' } := I1.kept (t' := s1.toks) hk
      refine ⟨s1.heap.objs.size + 1, [s1.heap.objs.size + 1, s1.heap.objs.size], _, _, H1, rfl, I2, turn_enum a (s1.heap.objs.size + 1) s1.heap.objs.size, ⟨⟨.none, he⟩, hit, Nat.succ_ne_self _⟩, fun b hb => ?_, q⟩
      have e' : b = s1.heap.objs.size + 1 ∨ b = s1.heap.objs.size := by simpa using hb
      have hle : s1.heap.objs.size ≤ b := by
        rcases e' with z | z
        · rw [z]; exact Nat.le_add_right _ _
        · rw [z]; exact Nat.le_refl _
      exact I1.fpOk hle (I1.hok.fresh hle)
  · subst ex
    cases r1 with
    | cons r rr =>
      cases rr
      cases r
      obtain ⟨its, rv, p', hz⟩ := I1.tuple hq
      refine cm_enum_begins (begins_tuple a its.toArray) p' fun h' he hit hsz hk => wpAny_pyIter_enum he ?_
      have I2 : Inv X pins σ H1 { s1 with heap := h' } := I1.kept (t' := s1.toks) hk
      refine ⟨s1.heap.objs.size + 1, [s1.heap.objs.size + 1, s1.heap.objs.size], _, _, H1, rfl, I2, turn_enumT a (s1.heap.objs.size + 1) s1.heap.objs.size, ⟨⟨.none, he⟩, ⟨_, hit, rfl, rfl⟩, Nat.succ_ne_self _⟩, fun b hb => ?_, q⟩
      have e' : b = s1.heap.objs.size + 1 ∨ b = s1.heap.objs.size := by simpa using hb
      have hle : s1.heap.objs.size ≤ b := by
        rcases e' with z | z
        · rw [z]; exact Nat.le_add_right _ _
        · rw [z]; exact Nat.le_refl _
      exact I1.fpOk hle (I1.hok.fresh hle)
end L2
namespace CM
open PySem PySem.Spec PySem.Calls PyProof.Rows L2
def dEnumT (ts : TDs) : TDw := fun ρ h => (ts ρ h).bind fun ds h => match ds with
  | [.lst xs] => .ok (enD 0 xs, none) h
  | [.tup xs] => .ok (enD 0 xs, none) h
  | _ => .no
section
variable {X : Cx} {K : PySem.W.Frag} {CA : CAs} {W : WX} {es : List Expr} {tge l : Expr} {hs : TA} {ts : TDs}
theorem wk_enumT {m : Mp} {h : CH} {H : Hp} {a : Addr} {xs : List V} {ds : List D} (k : ∀ m' h' H', Sz m h H m' h' H' → SqT K H' a xs) (r : RpAll K CA m h H xs ds) : Wk K CA m h H (Itet K a) (enD 0 ds) :=
  ⟨fun i m' h' H' d s S hd => by
    obtain ⟨y, hy, rfl⟩ := enD_get ds 0 i d hd
    obtain ⟨v, hv, rv⟩ := r.getD hy
    have e' := k m' h' H' s
    refine ⟨⟨xs, v, e', hv⟩, fun x H2 yl => ?_⟩
    obtain ⟨T, z, rfl, nT, rfl, hz⟩ := yl
    have ex := (hz xs e').symm.trans hv
    cases ex
    have ri : ((0 + i : Nat) : Int) = ((i : Nat) : Int) := by omega
    rw [ri]
    exact ⟨upd_new nT, .tup (S.fresh nT) upd_same (.cons (.int _) (.cons ((rv.mv s.toMv).move (stp_laid S nT)) .nil))⟩, fun m' h' H' s S => ⟨xs, k m' h' H' s, by rw [enD_length, r.length]; exact Nat.le_refl _⟩⟩
theorem wi_enumT (h : WA X K CA W es hs ts) (hp : PA X es hs → PI X tge l (iEnumT K hs)) : WI X K CA W tge l (iEnumT K hs) (dEnumT ts) := by
  refine ⟨hp h.pe, fun m hh H σ ρ R' S t => h.sim m hh H σ ρ _ S (PostI.bind t fun ds h1 m1 vs H1 s1 S1 r1 t1 => ?_)⟩
  split at t1
  · cases r1 with
    | cons r1 r2 =>
      cases r1 with
      | lst n e r =>
        cases r2
        exact .inl ⟨_, _, rfl, .of e, t1.walk s1 S1 (wk_enum n e r)⟩
  · cases r1 with
    | cons r1 r2 =>
      cases r2
      cases r1 with
      | tup n e r => exact .inr ⟨_, _, rfl, .of e, t1.walk s1 S1 (wk_enumT (keep_tup n e) r)⟩
      | ktup e r => exact .inr ⟨_, _, rfl, sq_emp e, t1.walk s1 S1 (wk_enumT (fun _ _ _ _ => sq_emp e) r)⟩
  · exact t1.elim
end
end CM
namespace CM
open PySem PySem.Spec PyProof.Rows L2
end CM
namespace CM
open PySem PySem.Spec PySem.Calls PyProof.Rows L2
section
variable {X : Cx} {pins : List (Addr × Obj)} {σ : L2.St} {H : Hp} {s : Shared}
/-- x(), in any def further in: what the frames between have changed is none of the maker's -/
theorem pe_actG {CXg : CXT} {Eg : XK} {Ng : List Str} {qg : Str} {sg : Scope} {g f c' : Addr} {cdg pm ctv : Value} {params : Arguments} {body : Expr} {scope : Scope} {k i : Nat} {a : Str} {pn : List (Addr × Obj)} {xe : Value → Shared → Prop} {W : WX} {E : XK} {tb : TE} {p1 p2 : Pos} {A0 : Around} {st0 : List Env} {s0 : Shared} {H0 : Hp}
    (I : Inv X pins σ H s) (L : LamX.LamS X.env.scope scope) (hf : s.heap.get? f = some (PySem.W.kla_obj "<lambda>" (X.env.qual ++ "<lambda>") params body scope (cloFrom X.env.cells scope.names []) pm c' ctv)) (hfn : H f = none) (hfr : f ∉ frs X.stack)
    (hbind : bindArgs (PySem.W.kla_fn "<lambda>" (X.env.qual ++ "<lambda>") params body scope (cloFrom X.env.cells scope.names []) pm (.ref c') ctv) ⟨[], []⟩ = pure [])
    (tk : Takes ((cxOf CXg X.prog X.w X.K X.mg X.base Ng qg sg g cdg A0 st0 s0 H0 Eg).tr pn xe) W) (hW : ∀ cls d σ' H', E cls d H' → W cls d σ' H') (hr : Room (k + 1) (A0.deeper (envOfC qg sg s0.heap.objs.size g cdg)))
    (hun : ∀ (HZ : Hp) (s1 : Shared), s1.os = s0.os → AllBare s1.gens → HOk X.prog X.w HZ s1.heap → Un (frs st0) [] H0 HZ s0.heap s1.heap → Un (frs X.stack) [] H HZ s.heap s1.heap)
    (hbody : ∀ (A : Around) (outer : List Env) (s : Shared) (H : Hp), Room k (A.deeper (LamX.lamEnv X scope s.heap.objs.size f c')) → PE (LamX.lamCx X A outer s H E scope f c') body tb)
    (hN : Ng[i]? = some a) (hv : Vis sg a) (hd : (a == ("__debug__" : Str)) = false) (hcd : (a == ("__classdict__" : Str)) = false) :
    PE ((cxOf CXg X.prog X.w X.K X.mg X.base Ng qg sg g cdg A0 st0 s0 H0 Eg).tr pn xe) (.Call (.Name a p1) [] [] p2)
      (fun σZ HZ Q => σZ[i]? = some (some (.ref f)) ∧ HZ c' = some (LamX.CodeO c' (X.env.qual ++ "<lambda>")) ∧ tb σ HZ Q) := by
  refine ⟨fun pinsZ sZ σZ HZ Q IZ h => ?_⟩
  obtain ⟨hs, hc, ht⟩ := h
  refine wpAny_Call_Name_kw (thn ((pe_var (pos := p1) (i := i) hN hv hd hcd).run pinsZ sZ σZ HZ (fun v H1 => v = .ref f ∧ H1 = HZ) IZ ⟨.ref f, hs, rfl, rfl⟩) fun u s1 ⟨v, H1, I1, r1, q1⟩ => ?_)
  obtain ⟨ev, eH⟩ := q1
  subst ev
  rw [eH] at I1
  obtain rfl : u = Value.ref f := r1
  have un : Un (frs X.stack) [] H HZ s.heap s1.heap := hun HZ s1 I1.os I1.bare I1.hok I1.base
  have of1 : s1.heap.get? f = some (PySem.W.kla_obj "<lambda>" (X.env.qual ++ "<lambda>") params body scope (cloFrom X.env.cells scope.names []) pm c' ctv) := un.keep f _ hf hfn hfr (fun z => nomatch (show f ∈ ([] : List Addr) from z))
  refine PySem.W.callWith_F0 ⟨_, _, _, _, of1⟩ ?_
  obtain ⟨⟨oc, vs, t, hoc, hdc, hvc⟩, _, _⟩ := I1.hok c' _ hc
  have rc : codeAny (model X.prog X.w) (A0.deeper (envOfC qg sg s0.heap.objs.size g cdg)) (.call (.ref f) ⟨[], []⟩) (CR (L2.CX X.prog X.w) (envOfC qg sg s0.heap.objs.size g cdg :: st0) X.prog X.w HZ s1 Q E) s1 := by
    refine PySem.W.kla_callFunE hr.depth of1 rfl L.co L.gen rfl ⟨c', oc, vs, t, rfl, hoc, hdc, hvc⟩ ?_
    rw [hbind]
    refine wpAny_pure (wpAny_newFunctionEnv (fun y hy => (L.own y hy).2) (fun y hy => absurd hy (by simp)) (fun h₁ hns hsb => ⟨I1.nolimit.fresh _ hsb, ?_⟩) L.kind)
    show codeAny _ _ (.expr body (LamX.lamEnv X scope s1.heap.objs.size f c')) _ _
    have kp : ∀ b o, s1.heap.get? b = some o → h₁.get? b = some o := fun b o e => hsb.extBut b o (Nat.ne_of_lt (Heap.lt_size e)) (Heap.get?_push_of_some _ e)
    have J : Inv (LamX.lamCx X (A0.deeper (envOfC qg sg s0.heap.objs.size g cdg)) (envOfC qg sg s0.heap.objs.size g cdg :: st0) s1 HZ E scope f c') [] σ HZ { s1 with heap := h₁, toks := s1.toks + ([] : List (Str × Value)).length } :=
      LamX.lam_start2 I L I1.env0 hr.hd un hns kp
    refine PySem.W.kla_codeExpr (wpAny_mono ((hbody _ _ s1 HZ (hr.deeper _)).run [] _ _ HZ Q J ht) (fun v s' hq => ?_) fun e s' hq => hq)
    obtain ⟨w', H', J', rv, q⟩ := hq
    exact ⟨w', H', J'.os, J'.bare, J'.base, J'.hok, rv, q⟩
  have hx : Passes (L2.CX X.prog X.w) ((cxOf CXg X.prog X.w X.K X.mg X.base Ng qg sg g cdg A0 st0 s0 H0 Eg).tr pn xe) E := passes_call tk hW
  refine wpAny_call (codeAny_mono rc fun r s' hq => ?_)
  cases r with
  | error e => exact hx pinsZ σZ HZ s1 e s' I1 hq
  | ok fl =>
    cases fl with
    | ret u => exact I1.after hq
    | next => exact False.elim hq
    | brk => exact False.elim hq
    | cont => exact False.elim hq
end
/-- what is known of a lambda of X, object f, at the entry of a def further in -/
structure LamF (X : Cx) (f c' : Addr) (k : Nat) (tl : XK → Hp → VK → Prop) (st0 : List Env) (s0 : Shared) (H0 : Hp) : Prop where
  ex : ∃ (pins : List (Addr × Obj)) (σ : L2.St) (H : Hp) (s : Shared) (params : Arguments) (body : Expr) (scope : Scope) (pm ctv : Value) (t : XK → TE), Inv X pins σ H s ∧ LamX.LamS X.env.scope scope ∧
    s.heap.get? f = some (PySem.W.kla_obj "<lambda>" (X.env.qual ++ "<lambda>") params body scope (cloFrom X.env.cells scope.names []) pm c' ctv) ∧ H f = none ∧ f ∉ frs X.stack ∧
    bindArgs (PySem.W.kla_fn "<lambda>" (X.env.qual ++ "<lambda>") params body scope (cloFrom X.env.cells scope.names []) pm (.ref c') ctv) ⟨[], []⟩ = pure [] ∧
    (∀ (A : Around) (outer : List Env) (s : Shared) (H : Hp) (E : XK), Room k (A.deeper (LamX.lamEnv X scope s.heap.objs.size f c')) → PE (LamX.lamCx X A outer s H E scope f c') body (t E)) ∧
    (tl = fun E HZ Q => t E σ HZ Q) ∧
    (∀ (HZ : Hp) (s1 : Shared), s1.os = s0.os → AllBare s1.gens → HOk X.prog X.w HZ s1.heap → Un (frs st0) [] H0 HZ s0.heap s1.heap → Un (frs X.stack) [] H HZ s.heap s1.heap)
section
variable {X : Cx} {f c' : Addr} {k : Nat} {tl : XK → Hp → VK → Prop} {st0 : List Env} {s0 : Shared} {H0 : Hp}
theorem LamF.act (F : LamF X f c' k tl st0 s0 H0) {CXg : CXT} {Eg : XK} {Ng : List Str} {qg : Str} {sg : Scope} {g : Addr} {cdg : Value} {i : Nat} {a : Str} {pn : List (Addr × Obj)} {xe : Value → Shared → Prop} {W : WX} {E : XK} {p1 p2 : Pos} {A0 : Around}
    (tk : Takes ((cxOf CXg X.prog X.w X.K X.mg X.base Ng qg sg g cdg A0 st0 s0 H0 Eg).tr pn xe) W) (hW : ∀ cls d σ' H', E cls d H' → W cls d σ' H') (hr : Room (k + 1) (A0.deeper (envOfC qg sg s0.heap.objs.size g cdg)))
    (hN : Ng[i]? = some a) (hv : Vis sg a) (hd : (a == ("__debug__" : Str)) = false) (hcd : (a == ("__classdict__" : Str)) = false) :
    PE ((cxOf CXg X.prog X.w X.K X.mg X.base Ng qg sg g cdg A0 st0 s0 H0 Eg).tr pn xe) (.Call (.Name a p1) [] [] p2)
      (fun σZ HZ Q => σZ[i]? = some (some (.ref f)) ∧ HZ c' = some (LamX.CodeO c' (X.env.qual ++ "<lambda>")) ∧ tl E HZ Q) := by
  obtain ⟨pins, σ, H, s, params, body, scope, pm, ctv, t, I, L, hf, hfn, hfr, hbind, hbody, rfl, hun⟩ := F.ex
  exact pe_actG I L hf hfn hfr hbind tk hW hr hun (fun A outer s H hr2 => hbody A outer s H E hr2) hN hv hd hcd
theorem LamF.deeper (F : LamF X f c' k tl st0 s0 H0) {CX1 : CXT} {E1 : XK} {N1 : List Str} {q1 : Str} {sg1 : Scope} {g1 : Addr} {cd1 : Value} {A0 : Around} {pins1 : List (Addr × Obj)} {σ1 : L2.St} {H1 : Hp} {s1 : Shared}
    (I1 : Inv (cxOf CX1 X.prog X.w X.K X.mg X.base N1 q1 sg1 g1 cd1 A0 st0 s0 H0 E1) pins1 σ1 H1 s1) : LamF X f c' k tl (envOfC q1 sg1 s0.heap.objs.size g1 cd1 :: st0) s1 H1 := by
  obtain ⟨pins, σ, H, s, params, body, scope, pm, ctv, t, I, L, hf, hfn, hfr, hbind, hbody, e, hun⟩ := F.ex
  refine ⟨pins, σ, H, s, params, body, scope, pm, ctv, t, I, L, hf, hfn, hfr, hbind, hbody, e, fun HZ s3 os bare hok un => ?_⟩
  have J := I1.call' os un hok bare (fun b hb => absurd hb (by simp))
  exact hun HZ s3 J.os bare hok J.base
/-- x(y), y the lambda that this def got, x the def that calls it -/
theorem pe_lamarg (F : LamF X f c' k tl st0 s0 H0) {TT : (XK → Hp → VK → Prop) → Hp → VK → Prop} {CX1 : CXT} {E1 : XK} {N1 : List Str} {q1 : Str} {sg1 : Scope} {g1 : Addr} {cd1 : Value} {A0 : Around} {x a y : Str} {g : Addr} {iy : Nat} {pg : Arguments} {bg : List Stmt} {sg : Scope} {dV kV doc pm0 cdv ct oc : Value} {an od : Option Addr} {osl : Array (Option Value)} {Ng : List Str} {p p3 pos : Pos}
    (hg : Gl (cxOf CX1 X.prog X.w X.K X.mg X.base N1 q1 sg1 g1 cd1 A0 st0 s0 H0 E1) x) (hm : X.mg x = some (.ref g)) (hk : PySem.W.keepIn X.K (.ref g) = true)
    (lk : X.K.lookup g = some ⟨oc, od, .func (PySem.W.fnOf x x pg bg sg dV kV doc pm0 an cdv ct), osl⟩) (hcg : PySem.W.codeIn X.K cdv x = true) (hb : L2.Binds X.K (PySem.W.fnOf x x pg bg sg dV kV doc pm0 an cdv ct) [a] []) (Sg : FnScope Ng [a] sg) (hNg : Ng[0]? = some a) (hva : Vis sg a)
    (hG : LamX.GivesTo (cxOf CX1 X.prog X.w X.K X.mg X.base N1 q1 sg1 g1 cd1 A0 st0 s0 H0 E1) Ng x sg g cdv bg a (X.env.qual ++ "<lambda>") TT) (hr : Room (k + 2) (A0.deeper (envOfC q1 sg1 s0.heap.objs.size g1 cd1)))
    (hyN : N1[iy]? = some y) (hyv : Vis sg1 y)
    (hdb : (x == ("__debug__" : Str)) = false) (hd : (a == ("__debug__" : Str)) = false) (hcd : (a == ("__classdict__" : Str)) = false)
    (hyd : (y == ("__debug__" : Str)) = false) (hyc : (y == ("__classdict__" : Str)) = false) :
    PE (cxOf CX1 X.prog X.w X.K X.mg X.base N1 q1 sg1 g1 cd1 A0 st0 s0 H0 E1) (.Call (.Name x p) [.Name y p3] [] pos)
      (fun σ H Q => σ[iy]? = some (some (.ref f)) ∧ H c' = some (LamX.CodeO c' (X.env.qual ++ "<lambda>")) ∧ TT tl H Q) := by
  refine ⟨fun pins s σ H Q I h => ?_⟩
  obtain ⟨hσ, hco, ht⟩ := h
  refine wpAny_Call_Name_kw (ld_glob I hg hm ?_ hdb)
  refine PySem.W.callWith_K (h₀ := X.base) I.ok.mod.kin hk ?_ (by rfl) (by rfl)
  show wpAny _ _ (spliced ((false, eval (.Name y p3) (envOfC q1 sg1 s0.heap.objs.size g1 cd1)) :: backTo pos (starEach [] (envOfC q1 sg1 s0.heap.objs.size g1 cd1)))) _ _ s
  refine Calls.spliced_cons (thn ((pe_var (X := cxOf CX1 X.prog X.w X.K X.mg X.base N1 q1 sg1 g1 cd1 A0 st0 s0 H0 E1) (pos := p3) (i := iy) hyN hyv hyd hyc).run _ s σ H (fun v H1 => v = .ref f ∧ H1 = H) I ⟨.ref f, hσ, rfl, rfl⟩) fun u s1 ⟨v, H1, I1, r1, q1⟩ => ?_)
  obtain ⟨ev, eH⟩ := q1
  subst ev
  rw [eH] at I1
  obtain rfl : u = Value.ref f := r1
  refine Calls.spliced_nil ⟨I1.kIn, ?_⟩
  have rc : codeAny (model X.prog X.w) (A0.deeper (envOfC q1 sg1 s0.heap.objs.size g1 cd1)) (.call (.ref g) ⟨[.ref f], []⟩) (CR C8.CX0 (envOfC q1 sg1 s0.heap.objs.size g1 cd1 :: st0) X.prog X.w H s1 Q C8.E0) s1 := by
    refine LamX.run_ofS (N := Ng) (ps := [a]) (us := [.ref f]) (vs := [.ref f]) lk hcg Sg hr I1.env0 (hb s1 [.ref f] I1.kIn rfl) (.cons rfl .nil) rfl fun hr' => ?_
    obtain ⟨t', ht', hq'⟩ := hG f c' s1 H Q tl (fun W pn xe E p1 p2 tk hW => (F.deeper I1).act (i := 0) tk hW hr' hNg hva hd hcd) hco ht
    exact ⟨t', ht'.nox, hq'⟩
  refine wpAny_call (codeAny_mono rc fun r s2 hq => ?_)
  cases r with
  | error e => exact (show False from hq).elim
  | ok fl =>
    cases fl with
    | ret u => exact I1.after hq
    | next => exact False.elim hq
    | brk => exact False.elim hq
    | cont => exact False.elim hq
end
end CM
namespace CM
open PySem PySem.Spec PySem.Calls PyProof.Rows L2
/-- what is caught of a lambda's end -/
def caughtR (xs : List Nat) : R D → R D
  | .ok _ h => .ok .non h
  | .ex c fs h => if c ∈ xs then .ok (.exc c fs) h else .no
  | .no => .no
def dKr (r : R D) : TD := fun _ _ => r
def noxR (r : R D) : R D := r.calm fun d h => .ok d h
def E00 : XK := fun _ _ _ => False
/-- the lambda's reading and its data reading, at this very moment -/
def LamSim (K : PySem.W.Frag) (CA : CAs) (m : Mp) (h : CH) (H : Hp) (tl : XK → Hp → VK → Prop) (r : R D) : Prop := ∀ (E : XK) (σ : L2.St) (Q' : VK), PostE K CA (wxD E) m h H σ Q' r → tl E H Q'
section
variable {K : PySem.W.Frag} {CA : CAs} {W : WX} {f c' : Addr} {m m' : Mp} {h h' : CH} {H H' : Hp} {σ σ' : L2.St} {Q : VK} {r : R D} {q : Str}
theorem post_sig {E : XK} (t : PostE K CA (wxD E) m h H σ Q r) : PostE K CA (wxD E) m h H σ' Q r := by cases r <;> exact t
theorem postN {W' : WX} (t : PostE K CA W m h H σ Q (noxR r)) : PostE K CA W' m h H σ' Q r := by
  cases r with
  | ok d h => exact t
  | ex c fs h => exact t.elim
  | no => exact t
theorem post_w0 {W' : WX} (t : PostE K CA W' m h H σ Q (noxR r)) : PostE K CA W0 m h H σ' Q (noxR r) := by
  cases r with
  | ok d h => exact t
  | ex c fs h => exact t.elim
  | no => exact t
/-- a code object stays -/
theorem stp_code (S : HR K CA m h H) (s : Stp m h H m' h' H') (e : H c' = some (LamX.CodeO c' q)) : H' c' = some (LamX.CodeO c' q) := by
  by_cases z : c' ∈ m.z
  · rw [s.zk c' z]; exact e
  · have nl : ¬ Live m h c' := fun l => by
      rcases l with ⟨k, o, ek, em⟩ | l
      · have x := (S.ob k o ek).2
        rw [em] at x
        unfold LamX.CodeO at e
        cases x with
        | lst e1 _ => rw [e] at e1; cases e1
        | dct e1 _ _ => rw [e] at e1; cases e1
        | lck e1 _ _ => rw [e] at e1; cases e1
        | lkl e1 _ => rw [e] at e1; cases e1
        | obj e1 _ _ => rw [e] at e1; cases e1
        | dctT e1 _ _ => rw [e] at e1; cases e1
      · exact z l
    obtain ⟨_, o', e', l⟩ := s.kp c' _ nl e trivial
    rcases l with rfl | ⟨ob, kvs, q1, _⟩ | ⟨ps, qs, q1, _⟩
    · exact e'
    · unfold LamX.CodeO at q1; cases q1
    · unfold LamX.CodeO at q1; cases q1
def SimL (K : PySem.W.Frag) (CA : CAs) (W : WX) (f : Addr) (m : Mp) (h : CH) (H : Hp) (te : TE) (td : TD) : Prop := ∀ (σ : L2.St) (ρ : DE) (Q' : VK), SO K CA m h H σ ρ → σ[0]? = some (some (.ref f)) → PostE K CA W m h H σ Q' (td ρ h) → te σ H Q'
def SimLA (K : PySem.W.Frag) (CA : CAs) (W : WX) (f : Addr) (m : Mp) (h : CH) (H : Hp) (te : TA) (td : TDs) : Prop := ∀ (σ : L2.St) (ρ : DE) (Q' : List V → Hp → Prop), SO K CA m h H σ ρ → σ[0]? = some (some (.ref f)) → PostA K CA W m h H σ Q' (td ρ h) → te σ H Q'
def SimLS (K : PySem.W.Frag) (CA : CAs) (W : WX) (f : Addr) (m : Mp) (h : CH) (H : Hp) (tS : TS) (u : SD) : Prop := ∀ (σ : L2.St) (ρ : DE) (D' : Ends), SO K CA m h H σ ρ → σ[0]? = some (some (.ref f)) → PostS K CA W m h H D' (u ρ h) → tS D' σ H
theorem simL_cons {ha : TE} {ta : TD} {hs : TA} {ts : TDs} (x : SimL K CA W f m h H ha ta) (y : SimA K CA W hs ts) : SimLA K CA W f m h H (L2.tCons ha hs) (dCons ta ts) := fun σ ρ Q' S e0 t =>
  x σ ρ _ S e0 (t.bind fun x h1 m1 v H1 s1 S1 r1 t1 => y m1 h1 H1 σ ρ _ (S.move s1 S1) (t1.bind fun xs h2 m2 vs H2 s2 S2 r2 t2 => t2.here S2 (.cons (r1.move s2) r2)))
theorem simL_CB {r : List V → Hp → VK → Prop} {f' : FD} {tH : TA} {ts : TDs} (hs : SimC K CA r f') (ha : SimLA K CA W f m h H tH ts) : SimL K CA W f m h H (tCB r tH) (dCB f' ts) := fun σ ρ Q' S e0 t =>
  ha σ ρ _ S e0 (t.bind fun xs h1 m1 vs H1 s1 S1 r1 t1 => hs W σ m1 h1 H1 vs xs Q' S1 r1 t1)
theorem simL_op {r : R2} {f' : F2} {tH tH' : TE} {ta tb : TD} (hs : SimR K CA r f') (ha : SimL K CA W f m h H tH ta) (hb : SimE K CA W tH' tb) : SimL K CA W f m h H (L2.tOp r tH tH') (dOp f' ta tb) := fun σ ρ Q' S e0 t =>
  ha σ ρ _ S e0 (t.bind fun x h1 m1 v H1 s1 S1 r1 t1 => hb m1 h1 H1 σ ρ _ (S.move s1 S1) (t1.bind fun y h2 m2 w H2 s2 S2 r2 t2 => hs W σ m2 h2 H2 v w x y Q' S2 (r1.move s2) r2 t2))
theorem simL_ret {tH : TE} {d : TD} (x : SimL K CA W f m h H tH d) : SimLS K CA W f m h H (tRet tH) (dRet d) := fun σ ρ D' S e0 q =>
  x σ ρ _ S e0 (PostS.bind S q fun a h1 m1 v H1 s1 S1 r q1 => q1 m1 v H1 .refl S1 r)
theorem simL_asg {sl : List Nat} {ha : TE} {ta : TD} {gH : TG} {tg : TGD} (x : SimL K CA W f m h H ha ta) (hg : SimG K CA sl gH tg) : SimLS K CA W f m h H (tAsg ha gH) (dAsg ta tg) := fun σ ρ D' S e0 q =>
  x σ ρ _ S e0 (PostS.bind S q fun d h1 m1 v H1 s1 S1 r q1 => hg m1 h1 H1 σ ρ v d _ (S.move s1 S1) r (put_post q1 fun ρ' h' m' σ' H' s' S' q' => q' m' σ' H' .refl S'))
theorem simL_seq {t t' : TS} {u w : SD} (x : SimLS K CA W f m h H t u) (y : SimS K CA W t' w) : SimLS K CA W f m h H (tSeq t t') (dSeq u w) := fun σ ρ D' S e0 q =>
  x σ ρ { D' with nx := t' D' } S e0 (by
    unfold dSeq at q
    cases e : u ρ h with
    | nx ρ' h' => rw [e] at q; exact fun m' σ' H' s S' => y m' h' H' σ' ρ' D' S' (PostS.from (show PostS K CA W m h H D' (w ρ' h') from q) s)
    | rt d h' => rw [e] at q; exact q
    | bk d h' => rw [e] at q; exact q
    | ct d h' => rw [e] at q; exact q
    | ex ρ' c fs h' => rw [e] at q; exact q
    | no => rw [e] at q; exact q)
/-- what is caught of the lambda -/
def tCght (f c' : Addr) (q : Str) (K : PySem.W.Frag) (CS : Addr) (tl : XK → Hp → VK → Prop) : TE := fun σ H Q => σ[0]? = some (some (.ref f)) ∧ H c' = some (LamX.CodeO c' q) ∧ TCaught K CS tl H Q
theorem simL_caught {xs : List Nat} {cs : Nat} {tl : XK → Hp → VK → Prop} (hx : ∀ c ∈ xs, PySem.W.exmOne K (.ref (CA c)) (.ref (CA cs)) = some true) (s : LamSim K CA m h H tl r) (hc : H c' = some (LamX.CodeO c' q)) : SimL K CA W f m h H (tCght f c' q K (CA cs) tl) (dKr (caughtR xs r)) := fun σ ρ Q' S e0 t => by
  refine ⟨e0, hc, s _ σ _ ?_⟩
  unfold dKr at t
  cases r with
  | no => exact t.elim
  | ok d h' => exact fun m' v H' s' S' r => ⟨.non, rfl, t m' .non H' s' S' .non⟩
  | ex c fs h' =>
    obtain ⟨hc, t⟩ := post_ite t
    intro m' cls dd H' s' S' xr
    obtain ⟨rfl, hd⟩ := xr
    refine ⟨true, hx c hc, fun _ a na => ?_, fun z => nomatch z⟩
    have sA := stp_laid (u := ExV (CA c) a dd) S' na
    refine t m' _ _ (s'.trans sA) (S'.laid na) ?_
    rcases hd with ⟨rfl, rfl⟩ | ⟨x, hf, rfl, nx, ex, en, ra⟩
    · exact .exc (fs := []) (S'.fresh na) upd_same (.inl ⟨rfl, rfl⟩) rfl .nil
    · have ne : x ≠ a := ne_of_none ex na
      exact .exc (fs := hf) (S'.fresh na) upd_same (.inr ⟨x, rfl, nx, by rw [upd_ne ne]; exact ex⟩) en (ra.move sA)
end
structure FnL (P : Program) (w : World) (K : PySem.W.Frag) (mg : Str → Option Value) (base : Heap) (CA : CAs) (g : Bool) (k kb : Nat) (fa : Addr) (fd : FuncData) (ps : List Str) (n : Nat) (F : R D → FD) : Prop where
  go : ∀ (X : Cx) (f c' : Addr) (tl : XK → Hp → VK → Prop) (A : Around) (outer : List Env) (s : Shared) (H : Hp) (args : Args) (us : List Value) (vs : List V) (Q : VK) (m : Mp) (h : CH) (ds : List D) (r : R D),
    X.prog = P → X.w = w → X.K = K → X.mg = mg → X.base = base → (g = true → A.guards = some []) → Room k A → Env0 P w K mg base A outer s H → BindsTo s fd args (ps.zip (.ref f :: us)) → Vals vs us → vs.length = n →
    LamF X f c' kb tl outer s H → H c' = some (LamX.CodeO c' (X.env.qual ++ "<lambda>")) → LamSim K CA m h H tl r → HR K CA m h H → RpAll K CA m h H vs ds → PostE K CA W0 m h H [] Q (noxR (F r ds h)) →
    codeAny (model P w) A (.call (.ref fa) args) (CR (L2.CX P w) outer P w H s Q E00) s
def startL (N : Nat) (ds : List D) : DE := none :: startD N ds
section
variable {P : Program} {w : World} {K : PySem.W.Frag} {mg : Str → Option Value} {base : Heap} {CA : CAs} {g : Bool}
theorem cx_00 {outer : List Env} {H : Hp} {s s' : Shared} {e : Value} (z : L2.CX P w outer H s E00 e s') : False := by
  obtain ⟨_, _, _, _, _, _, _, _, _, _, _, _, _, _, _, _, z⟩ := z
theorem okL {nm qual : Str} {st : Stmt} {fa : Addr} {fd : FuncData} {N ps : List Str} {k kb n nn : Nat} {u : R D → SD} (F : Fun K nm qual st fa fd) (S : FnScope N ps (defScope st)) (hm : ps.length = n + 1) (hn : N.length = nn + 1)
    (hb : ∀ (cd : Value) (X : Cx) (f c' : Addr) (tl : XK → Hp → VK → Prop) (A : Around) (outer : List Env) (s : Shared) (H : Hp), X.prog = P → X.w = w → X.K = K → X.mg = mg → X.base = base → (g = true → A.guards = some []) → Room k (A.deeper (envOfC qual (defScope st) s.heap.objs.size fa cd)) →
      LamF X f c' kb tl outer s H → H c' = some (LamX.CodeO c' (X.env.qual ++ "<lambda>")) → Takes (cxD P w K mg base N qual st fa cd A outer s H E00) (wxD E00) →
      ∃ tS, PSs (cxD P w K mg base N qual st fa cd A outer s H E00) (defBody st) tS ∧ ∀ (m : Mp) (h : CH) (r : R D), HR K CA m h H → LamSim K CA m h H tl r → SimLS K CA (wxD E00) f m h H tS (u r)) :
    FnL P w K mg base CA g (k + 1) kb fa fd ps n (fun r ds h => (u r (startL nn ds) h).res) := by
  obtain ⟨x1, x2, x3, x4, x5, x6, cd, x8, x9, rfl, look, code⟩ := F.ex
  refine ⟨fun X f c' tl A outer s H args us vs Q m h ds r p1 p2 p3 p4 p5 hg room e0 bd rv hl LF hc hsim hR rp hq => ?_⟩
  have len1 : (V.ref f :: vs).length = ps.length := by rw [hm]; simp [hl]
  have kin : K.In s.heap := e0.mod.kin.keeps fun b o e => (e0.bs b o e).1
  have nl : s.heap.NoLimit := e0.mod.nolimit.keeps fun b o e => (e0.bs b o e).1
  have kinds : ∀ y, y ∈ ps.zip (.ref f :: us) → (defScope st).names.lookup y.1 = some .local ∨ ((defScope st).names.lookup y.1 = some .cell ∧ ((cellsFrom (s.heap.objs.size + 1) (defScope st).names []).lookup y.1).isSome = true) := by
    rintro ⟨a, b⟩ hm
    exact (S.par a (List.of_mem_zip hm).1).imp id fun q => ⟨q, PySem.W.cellsFrom_some _ _ _ (.inl q)⟩
  refine codeAny_call_function room.depth (kin _ _ look) rfl S.co S.gen rfl (PySem.W.codeRec_of kin code) (bd _ _ _ _ (wpAny_newFunctionEnv_cells S.kind kinds fun env ee s1 hc => ?_))
  cases ee
  refine ⟨nl.keeps hc.toInCall.keep, codeAny_func ?_⟩
  obtain ⟨t, ht, hS⟩ := hb cd X f c' tl A outer s H p1 p2 p3 p4 p5 hg (room.deeper _) LF ‹_› (takes_of rfl rfl rfl rfl)
  have inv : Inv (cxD P w K mg base N qual st fa cd A outer s H E00) [] (start N (.ref f :: vs)) H s1 := inv_start S room.hd e0 len1 (.cons rfl rv) hc
  have back : ∀ {σ' : L2.St} {H2 : Hp} {v : V} {u : Value} {s2 : Shared}, Inv (cxD P w K mg base N qual st fa cd A outer s H E00) [] σ' H2 s2 → RelV v u → Q v H2 → CE outer P w H s Q u s2 := fun {_ H2 v _ _} J r q => ⟨v, H2, J.os, J.bare, J.base, J.hok, r, q⟩
  have hle : (V.ref f :: vs).length ≤ N.length := by
    have := congrArg List.length S.pre
    rw [List.length_take] at this
    rw [len1]
    omega
  have so : SO K CA m h H (start N (.ref f :: vs)) (startL nn ds) := by
    have dl := rp.length
    refine ⟨hR, ?_, fun i d e => ?_⟩
    · simp only [L2.start, startL, startD, List.length_append, List.length_map, List.length_replicate, List.length_cons] at hle ⊢
      omega
    · cases i with
      | zero => cases e
      | succ i =>
        have e' : (startD nn ds)[i]? = some (some d) := e
        obtain ⟨v, e1, e2⟩ := (so_start (K := K) (CA := CA) (N.drop 1) (vs := vs) (by rw [List.length_drop]; simp at hle; omega) hR rp).sl i d (by rw [List.length_drop, hn]; exact e')
        refine ⟨v, ?_, e2⟩
        have : (L2.start N (.ref f :: vs))[i + 1]? = (L2.start (N.drop 1) vs)[i]? := by
          simp only [L2.start, List.map_cons, List.cons_append, List.getElem?_cons_succ, List.length_drop, List.length_cons]
          congr 3
          omega
        rw [this]
        exact e1
  have s0 : (start N (.ref f :: vs))[0]? = some (some (.ref f)) := rfl
  have hq' := hS m h r hR hsim _ _ { nx := fun _ H2 => Q .non H2, rt := Q } so s0 (res_post (σ := []) (postN hq))
  refine wpAny_mono (ht.run [] s1 (start N (.ref f :: vs)) H _ inv hq') (fun fl s2 h2 => ?_) fun _ _ z => z
  rcases fl with _ | _ | _ | u
  · obtain ⟨_, _, J, q⟩ := h2
    exact back (v := V.non) (u := Value.none) J rfl q
  · obtain ⟨_, _, _, q⟩ := h2; exact False.elim q
  · obtain ⟨_, _, _, q⟩ := h2; exact False.elim q
  · obtain ⟨_, _, _, J, r, q⟩ := h2
    exact back J r q
end
end CM
namespace CM
open PySem PySem.Spec PySem.Calls PyProof.Rows L2
/-- x is a def that gets a lambda, then n values -/
structure Dl (P : Program) (w : World) (K : PySem.W.Frag) (mg : Str → Option Value) (base : Heap) (CA : CAs) (x : Str) (g : Bool) (k kb : Nat) (ps : List Str) (n : Nat) (F : R D → FD) : Prop where
  ex : ∃ (fx : Addr) (fd : FuncData), FnL P w K mg base CA g k kb fx fd ps n F ∧ mg x = some (.ref fx) ∧ PySem.W.keepIn K (.ref fx) = true ∧ L2.Binds K fd ps []
  ln : ps.length = n + 1
def tLamFn (f c' : Addr) (q : Str) (K : PySem.W.Frag) (CA : CAs) (tl : XK → Hp → VK → Prop) (Fr : R D → FD) : TE := fun σ H Q => σ[0]? = some (some (.ref f)) ∧ H c' = some (LamX.CodeO c' q) ∧ ∃ (m : Mp) (h : CH) (r : R D), HR K CA m h H ∧ LamSim K CA m h H tl r ∧ PostE K CA W0 m h H [] Q (noxR (Fr r [] h))
def dLamF (Fr : R D → FD) (r : R D) : TD := fun _ h => noxR (Fr r [] h)
section
variable {X : Cx} {f c' : Addr} {k kb : Nat} {tl : XK → Hp → VK → Prop} {st0 : List Env} {s0 : Shared} {H0 : Hp} {P : Program} {w : World} {K : PySem.W.Frag} {mg : Str → Option Value} {base : Heap} {CA : CAs} {g : Bool}
/-- x(y), x the law's _law_caught -/
theorem pe_cght (F : LamF X f c' kb tl st0 s0 H0) {x y : Str} {cs : Nat} {E1 : XK} {N1 : List Str} {q1 : Str} {st1 : Stmt} {g1 : Addr} {cd1 : Value} {A0 : Around} {p p3 pos : Pos} (G : Cgt K CA mg x cs) (e1 : X.prog = P) (e2 : X.w = w) (e3 : X.K = K) (e4 : X.mg = mg) (e5 : X.base = base)
    (hg : Gl (cxD P w K mg base N1 q1 st1 g1 cd1 A0 st0 s0 H0 E1) x) (hr : Room (kb + 2) (A0.deeper (envOfC q1 (defScope st1) s0.heap.objs.size g1 cd1))) (hyN : N1[0]? = some y) (hyv : Vis (defScope st1) y)
    (hdb : (x == ("__debug__" : Str)) = false := by decide) (hyd : (y == ("__debug__" : Str)) = false := by decide) (hyc : (y == ("__classdict__" : Str)) = false := by decide) :
    PE (cxD P w K mg base N1 q1 st1 g1 cd1 A0 st0 s0 H0 E1) (.Call (.Name x p) [.Name y p3] [] pos) (tCght f c' (X.env.qual ++ "<lambda>") K (CA cs) tl) := by
  subst e1 e2 e3 e4 e5
  obtain ⟨g, a, pg, bg, sg, kV, doc, pm, cdv, ct, oc, an, od, osl, Ng, h1, h2, h3, h4, h5, h6, h7, h8, h9, h10, h11⟩ := G.ex
  exact pe_lamarg F hg h1 h2 h3 h4 h5 h6 h7 h8 (h11 _ _ rfl rfl) hr hyN hyv hdb h9 h10 hyd hyc
/-- x(y), x another def that gets a lambda -/
theorem pe_lamfn (F : LamF X f c' kb tl st0 s0 H0) {x y : Str} {ps : List Str} {Fr : R D → FD} {E1 : XK} {N1 : List Str} {q1 : Str} {st1 : Stmt} {g1 : Addr} {cd1 : Value} {A0 : Around} {p p3 pos : Pos} (G : Dl P w K mg base CA x g k kb ps 0 Fr) (e1 : X.prog = P) (e2 : X.w = w) (e3 : X.K = K) (e4 : X.mg = mg) (e5 : X.base = base)
    (hg : Gl (cxD P w K mg base N1 q1 st1 g1 cd1 A0 st0 s0 H0 E1) x) (hG : g = true → (A0.deeper (envOfC q1 (defScope st1) s0.heap.objs.size g1 cd1)).guards = some []) (hr : Room k (A0.deeper (envOfC q1 (defScope st1) s0.heap.objs.size g1 cd1))) (hyN : N1[0]? = some y) (hyv : Vis (defScope st1) y)
    (hdb : (x == ("__debug__" : Str)) = false := by decide) (hyd : (y == ("__debug__" : Str)) = false := by decide) (hyc : (y == ("__classdict__" : Str)) = false := by decide) :
    PE (cxD P w K mg base N1 q1 st1 g1 cd1 A0 st0 s0 H0 E1) (.Call (.Name x p) [.Name y p3] [] pos) (tLamFn f c' (X.env.qual ++ "<lambda>") K CA tl Fr) := by
  subst e1 e2 e3 e4 e5
  obtain ⟨fx, fd, FL, hm, hk, hb⟩ := G.ex
  have ln := G.ln
  refine ⟨fun pins s σ H Q I h => ?_⟩
  obtain ⟨hσ, hco, m, ch, r, hR, hsim, hq⟩ := h
  refine wpAny_Call_Name_kw (ld_glob I hg hm ?_ hdb)
  refine PySem.W.callWith_K (h₀ := X.base) I.ok.mod.kin hk ?_ (by rfl) (by rfl)
  show wpAny _ _ (spliced ((false, eval (.Name y p3) (envOfC q1 (defScope st1) s0.heap.objs.size g1 cd1)) :: backTo pos (starEach [] (envOfC q1 (defScope st1) s0.heap.objs.size g1 cd1)))) _ _ s
  refine Calls.spliced_cons (thn ((pe_var (X := cxD X.prog X.w X.K X.mg X.base N1 q1 st1 g1 cd1 A0 st0 s0 H0 E1) (pos := p3) (i := 0) hyN hyv hyd hyc).run _ s σ H (fun v H1 => v = .ref f ∧ H1 = H) I ⟨.ref f, hσ, rfl, rfl⟩) fun u s1 ⟨v, H1, I1, r1, q1⟩ => ?_)
  obtain ⟨ev, eH⟩ := q1
  subst ev
  rw [eH] at I1
  obtain rfl : u = Value.ref f := r1
  refine Calls.spliced_nil ⟨I1.kIn, ?_⟩
  have bt := hb s1 [.ref f] I1.kIn (by simp [ln])
  rw [List.append_nil] at bt
  have rc := FL.go X f c' tl _ _ s1 H ⟨[.ref f], []⟩ [] [] Q m ch [] r rfl rfl rfl rfl rfl hG hr I1.env0 bt .nil rfl (F.deeper I1) hco hsim hR .nil hq
  refine wpAny_call (codeAny_mono rc fun r s2 hq => ?_)
  cases r with
  | error e => exact (cx_00 hq).elim
  | ok fl =>
    cases fl with
    | ret u => exact I1.after hq
    | next => exact False.elim hq
    | brk => exact False.elim hq
    | cont => exact False.elim hq
theorem simL_fn {W : WX} {m : Mp} {h : CH} {H : Hp} {r : R D} {q : Str} {Fr : R D → FD} (s : LamSim K CA m h H tl r) (hc : H c' = some (LamX.CodeO c' q)) : SimL K CA W f m h H (tLamFn f c' q K CA tl Fr) (dLamF Fr r) := fun σ ρ Q' S e0 t =>
  ⟨e0, hc, m, h, r, S.hr, s, post_w0 t⟩
end
def tLamC (n : Nat) (q : Str) (K : PySem.W.Frag) (CA : CAs) (Fr : R D → FD) (t : XK → TE) (hs : TA) : TE := fun σ H Q => LamX.Tabs CA.T H ∧ ∀ (c' : Addr) (H1 : Hp), LamX.ExtN H H1 → LamX.Tabs CA.T H1 → H1 c' = some (LamX.CodeO c' q) →
  hs σ H1 fun vs H2 => H2 c' = some (LamX.CodeO c' q) ∧ vs.length = n ∧ ∃ (m : Mp) (h : CH) (ds : List D) (r : R D), HR K CA m h H2 ∧ RpAll K CA m h H2 vs ds ∧ LamSim K CA m h H2 (fun E H' Q' => t E σ H' Q') r ∧ PostE K CA W0 m h H2 [] Q (noxR (Fr r ds h))
def dLamC (n : Nat) (Fr : R D → FD) (tb : TD) (ts : TDs) : TD := fun ρ h => (ts ρ h).bind fun ds h1 => if ds.length = n then noxR (Fr (tb ρ h1) ds h1) else .no
section
variable {X : Cx} {K : PySem.W.Frag} {CA : CAs} {W : WX} {t : XK → TE} {tb : TD} {x : Str} {c P : Addr} {k kb n : Nat} {g : Bool} {params : Arguments} {body : Expr} {scope : Scope} {es : List Expr} {p lpos pos : Pos} {ps : List Str} {Fr : R D → FD} {hs : TA} {ts : TDs}
theorem sim_lamC (s : ∀ E : XK, SimE K CA (wxD E) (t E) tb) (ha : SimA K CA W hs ts) {q : Str} : SimE K CA W (tLamC n q K CA Fr t hs) (dLamC n Fr tb ts) := fun m h H σ ρ Q' S tt => by
  refine ⟨S.hr.tb, fun c' H1 ex T1 hco => ?_⟩
  obtain ⟨s1, S1⟩ := stp_ext S.hr ex T1
  have SO1 := S.move s1 S1
  refine ha m h H1 σ ρ _ SO1 ((PostG.from tt s1).bind fun ds h2 m2 vs H2 s2 S2 rr t2 => ?_)
  obtain ⟨l2, t3⟩ := post_ite t2
  refine ⟨stp_code S1 s2 hco, by rw [rr.length]; exact l2, m2, h2, ds, tb ρ h2, S2, rr, fun E σ' Q'' q => s E m2 h2 H2 σ ρ Q'' (SO1.move s2 S2) (post_sig q), post_w0 t3⟩
theorem we_lamC (G : Dl X.prog X.w X.K X.mg X.base CA x g k kb ps n Fr) (TB : LamX.TabB X.base X.mg c P) (hmT : (P, X.env.qual ++ "<lambda>") ∈ CA.T) (hu : ∀ p ∈ CA.T, p.1 = P → p.2 = X.env.qual ++ "<lambda>") (hG : g = true → X.A.guards = some []) (hr : Room k X.A) (hrb : Room (kb + 1) X.A)
    (L : LamX.lamSB X.env.scope scope = true)
    (hbody : ∀ (A : Around) (outer : List Env) (s : Shared) (H : Hp) (E : XK) (f c' : Addr), Room kb (A.deeper (LamX.lamEnv X scope s.heap.objs.size f c')) → Takes (LamX.lamCx X A outer s H E scope f c') (wxD E) → WE (LamX.lamCx X A outer s H E scope f c') K CA (wxD E) body (t E) tb)
    (ha : WA X K CA W es hs ts) (hcode : X.env.code = .ref c := by rfl) (hg : Gl X x := by rfl) (hK : X.K = K := by rfl) (hdef : defaultsOf params X.env = ([], []) := by rfl)
    (hbind : ∀ (q : Str) (cl : List (Str × Addr)) (pm cv ctv : Value), bindArgs (PySem.W.kla_fn "<lambda>" q params body scope cl pm cv ctv) ⟨[], []⟩ = pure [] := by intros; rfl) (hdb : (x == ("__debug__" : Str)) = false := by decide)
    (hst : X.stack = X.env :: X.outer := by rfl) (hfm : X.env.frame = some X.env.locals := by rfl)
    (he : starEach (.Lambda params body scope lpos :: es) X.env = (false, eval (.Lambda params body scope lpos) X.env) :: starEach es X.env := by rfl) (hpl : (backTo pos (starEach es X.env)).any (·.1) = false := by rfl) :
    WE X K CA W (.Call (.Name x p) (.Lambda params body scope lpos :: es) [] pos) (tLamC n (X.env.qual ++ "<lambda>") K CA Fr t hs) (dLamC n Fr tb ts) := by
  subst hK
  obtain ⟨fx, fd, FL, hm, hk, hb⟩ := G.ex
  have ln := G.ln
  refine ⟨⟨fun pins s σ H Q I h => ?_⟩, sim_lamC (fun E => (hbody X.A X.outer X.s_0 X.H_0 E 0 0 (hrb.deeper _) (takes_of rfl rfl rfl rfl)).sim) ha.sim⟩
  obtain ⟨hT, h⟩ := h
  refine wpAny_Call_Name_kw (ld_glob I hg hm ?_ hdb)
  refine PySem.W.callWith_K (h₀ := X.base) I.ok.mod.kin hk ?_ he hpl
  rw [he]
  show wpAny _ _ (spliced ((false, eval (.Lambda params body scope lpos) X.env) :: backTo pos (starEach es X.env))) _ _ s
  refine Calls.spliced_cons (LamX.lam_make2 I TB hcode hmT hu hT hdef ((LamX.lamS_by L).has I.ok) fun f c' pm' ctv H1 s' I1 eN T1 hf hfn hfr hco => ?_)
  have I2 : Inv X ((f, lamO X params body scope pm' c' ctv) :: pins) σ H1 s' := I1.pins_of fun p hp => by
    have fe : frs X.stack = X.env.locals :: X.fs := by
      rw [hst]
      unfold frs
      rw [List.filterMap_cons, hfm]
      rfl
    rw [fe] at hfr
    rcases List.mem_cons.mp hp with rfl | z
    · exact ⟨hf, hfn, fun e => hfr (List.mem_cons.mpr (.inl e)), fun e => hfr (List.mem_cons_of_mem _ e), fun v e => by cases e⟩
    · exact I1.pin p (List.mem_append_right _ z)
  refine thn (ha.pe.run pos ((f, lamO X params body scope pm' c' ctv) :: pins) s' σ H1 _ I2 (h c' H1 eN T1 hco)) fun us s2 ⟨vs, H2, I3, rv, hco2, hl, m, ch, ds, r, hR, rp, hsim, hq⟩ => ⟨I3.kIn, ?_⟩
  obtain ⟨pf, pn, pl, pfs, _⟩ := I3.pin (f, lamO X params body scope pm' c' ctv) (List.mem_append_right _ List.mem_cons_self)
  have hfr2 : f ∉ frs X.stack := fun z => by
    have fe : frs X.stack = X.env.locals :: X.fs := by
      rw [hst]
      unfold frs
      rw [List.filterMap_cons, hfm]
      rfl
    rw [fe] at z
    rcases List.mem_cons.mp z with e | e
    · exact pl e
    · exact pfs e
  have LF : LamF X f c' kb (fun E H' Q' => t E σ H' Q') X.stack s2 H2 := ⟨_, σ, H2, s2, params, body, scope, pm', ctv, t, I3, LamX.lamS_by L, pf, pn, hfr2, hbind _ _ _ _ _, fun A outer s H E hr2 => (hbody A outer s H E f c' hr2 (takes_of rfl rfl rfl rfl)).pe, rfl, fun _ _ _ _ _ un => un⟩
  have bt := hb s2 (.ref f :: us) I3.kIn (by have := rv.length; simp [ln]; omega)
  rw [List.append_nil] at bt
  have rc := FL.go X f c' _ _ _ s2 H2 ⟨.ref f :: us, []⟩ us vs Q m ch ds r rfl rfl rfl rfl rfl hG hr I3.env0 bt rv hl LF hco2 hsim hR rp hq
  have I4 := unpinV I3
  refine wpAny_call (codeAny_mono rc fun r s3 hq => ?_)
  cases r with
  | error e => exact (cx_00 hq).elim
  | ok fl =>
    cases fl with
    | ret u => exact I4.after hq
    | next => exact False.elim hq
    | brk => exact False.elim hq
    | cont => exact False.elim hq
end
end CM
namespace CM
open PySem PySem.Spec PySem.Calls PyProof.Rows L2
def dM1 (f : FM) (ta tb : TD) : TD := fun ρ h => (ta ρ h).bind fun x h => match x with
  | .str _ => (tb ρ h).bind fun y h => f x [y] h
  | _ => .no
def fSplit (nm : Bool) : FM := fun x xs h => match x, xs with
  | .str a, [.str b] => if (b.length == 0) = false ∧ a.length + 2 ≤ sizeLine then mkL nm ((Txt.split a b).map D.str) h else .no
  | _, _ => .no
def fJoin : FM := fun x xs h => match x, xs with
  | .str a, [y] => match seqOf h y with
    | some ds => match strsOf ds with
      | some ys => if (ys.map (·.length)).sum + ys.length * a.length ≤ 16777216 then .ok (.str (Txt.join a ys)) h else .no
      | none => .no
    | none => .no
  | _, _ => .no
def fStrT : FD := fun ds h => match ds with
  | [.int i] => if i.natAbs.log2 < 1920 then .ok (.str (Str.ofString (toString i))) h else .no
  | [.str a] => .ok (.str a) h
  | _ => .no
def fIntT : FD := fun ds h => match ds with
  | [.str a] => match PySem.intText? a with
    | some n => if a.length ≤ 640 then .ok (.int n) h else .no
    | none => .no
  | _ => .no
/-- a sign in a text -/
def fInC : F2 := fun x y h => match x, y with
  | .str c, .str z => match c.cps.toList with
    | [k] => .ok (.bl (decide (k ∈ z.cps.toList))) h
    | _ => .no
  | _, _ => .no
def signs (x : Str) : List D := x.cps.toList.map fun c => D.str ⟨#[c]⟩
def dStrI (t : TD) : TDw := fun ρ h => (t ρ h).bind fun d h => match d with
  | .str x => .ok (signs x, none) h
  | _ => .no
section
variable {X : Cx} {K : PySem.W.Frag} {CA : CAs} {W : WX} {o e l tge call : Expr} {ha hb : TE} {ta tb : TD} {r : V → List V → Hp → VK → Prop} {f : FM}
theorem we_m1 (s : SimM K CA r f) (x : WE X K CA W o ha ta) (y : WE X K CA W e hb tb) (hp : PE X o ha → PE X e hb → PE X call (tM1 r ha hb)) : WE X K CA W call (tM1 r ha hb) (dM1 f ta tb) :=
  ⟨hp x.pe y.pe, fun m h H σ ρ Q' S t => x.sim m h H σ ρ _ S (t.bind fun d h1 m1 v H1 s1 S1 r1 t1 => by
    split at t1
    · rename_i a
      have ev : ∃ a, v = V.str a := by cases r1; exact ⟨_, rfl⟩
      exact ⟨ev, y.sim m1 h1 H1 σ ρ _ (S.move s1 S1) (t1.bind fun d2 h2 m2 w H2 s2 S2 r2 t2 => s W σ m2 h2 H2 v _ [w] [d2] Q' S2 (r1.move s2) (.cons r2 .nil) t2)⟩
    · exact t1.elim)⟩
theorem sim_split {nm : Bool} : SimM K CA (fun x xs H Q => ∃ a b, x = .str a ∧ xs = [.str b] ∧ (b.length == 0) = false ∧ a.length + 2 ≤ sizeLine ∧ rNewStrs (Txt.split a b) H Q) (fSplit nm) := by
  intro W σ m h H x dx xs ds Q' S rx rs t
  unfold fSplit at t
  split at t
  · obtain ⟨⟨c1, c2⟩, t⟩ := post_ite t
    cases rx
    cases rs with
    | cons r1 r2 =>
      cases r1; cases r2
      exact ⟨_, _, rfl, rfl, c1, c2, fun p n => mkL_post S n (all_strs _) t⟩
  · exact t.elim
theorem strs_rel {m : Mp} {h : CH} {H : Hp} : ∀ {vs : List V} {ds : List D} {ys : List Str}, RpAll K CA m h H vs ds → strsOf ds = some ys → vs = ys.map V.str
  | _, [], ys, r, e => by
    cases r
    cases e
    rfl
  | _, d :: ds, ys, r, e => by
    cases r with
    | cons r1 r2 =>
      cases d with
      | str x =>
        cases r1
        simp only [strsOf] at e
        cases q : strsOf ds with
        | none => rw [q] at e; cases e
        | some zs =>
          rw [q] at e
          cases e
          rw [strs_rel r2 q]
          rfl
      | _ => cases e
theorem sim_join : SimM K CA (fun x xs H Q => ∃ a p, ∃ ys : List Str, x = .str a ∧ xs = [.ref p] ∧ (SqL K H p (ys.map V.str) ∨ SqT K H p (ys.map V.str)) ∧ (ys.map (·.length)).sum + ys.length * a.length ≤ 16777216 ∧ Q (.str (Txt.join a ys)) H) fJoin := by
  intro W σ m h H x dx xs ds Q' S rx rs t
  unfold fJoin at t
  split at t
  · split at t
    · rename_i es e1
      split at t
      · rename_i ys e2
        obtain ⟨c, t⟩ := post_ite t
        cases rx
        cases rs with
        | cons r1 r2 =>
          cases r2
          obtain ⟨a, vs, rfl, q, rr⟩ := rp_seq S r1 e1
          rw [strs_rel rr e2] at q
          exact ⟨_, a, ys, rfl, rfl, q, c, t.here S (.str _)⟩
      · exact t.elim
    · exact t.elim
  · exact t.elim
abbrev rStrT : List V → Hp → VK → Prop := fun xs H Q => (∃ i, xs = [.int i] ∧ i.natAbs.log2 < 1920 ∧ Q (.str (toString i)) H) ∨ (∃ a, xs = [.str a] ∧ Q (.str a) H)
theorem call_strT : CallR X (.type "str") rStrT := by
  intro pins s σ H xs us Q I r h
  rcases h with h | h
  · exact call_str_int pins s σ H xs us Q I r h
  · exact SkE.call_str_str pins s σ H xs us Q I r h
theorem sim_strT : SimC K CA rStrT fStrT := by
  intro W σ m h H xs ds Q' S r t
  unfold fStrT at t
  split at t
  · obtain ⟨c, t⟩ := post_ite t
    cases r with
    | cons r1 r2 =>
      cases r1; cases r2
      exact .inl ⟨_, rfl, c, t.here S (.str _)⟩
  · cases r with
    | cons r1 r2 =>
      cases r1; cases r2
      exact .inr ⟨_, rfl, t.here S (.str _)⟩
  · exact t.elim
theorem sim_intT : SimC K CA (fun xs H Q => ∃ a n, xs = [.str a] ∧ PySem.intText? a = some n ∧ a.length ≤ 640 ∧ Q (.int n) H) fIntT := by
  intro W σ m h H xs ds Q' S r t
  unfold fIntT at t
  split at t
  · split at t
    · rename_i n e
      obtain ⟨c, t⟩ := post_ite t
      cases r with
      | cons r1 r2 =>
        cases r1; cases r2
        exact ⟨_, n, rfl, e, c, t.here S (.int _)⟩
    · exact t.elim
  · exact t.elim
theorem sim_inC : SimR K CA (fun x y H Q => ∃ (c : Nat) (z : Str), x = .str ⟨#[c]⟩ ∧ y = .str z ∧ Q (.bl (decide (c ∈ z.cps.toList))) H) fInC := by
  intro W σ m h H x y dx dy Q' S rx ry t
  unfold fInC at t
  split at t
  · rename_i c z
    split at t
    · rename_i k e
      cases rx
      cases ry
      have ec : c = ⟨#[k]⟩ := by
        obtain ⟨a⟩ := c
        obtain ⟨b⟩ := a
        simp only at e
        subst e
        rfl
      subst ec
      exact ⟨k, z, rfl, rfl, t.here S (.bl _)⟩
    · exact t.elim
  · exact t.elim
theorem wk_str {m : Mp} {h : CH} {H : Hp} (x : Str) : Wk K CA m h H (Its x) (signs x) :=
  ⟨fun i m' h' H' d s S hd => by
    unfold signs at hd
    rw [List.getElem?_map] at hd
    cases hr : x.cps.toList[i]? with
    | none => rw [hr] at hd; cases hd
    | some c =>
      rw [hr] at hd
      cases hd
      obtain ⟨hlt, ej⟩ := List.getElem?_eq_some_iff.mp hr
      refine ⟨by show i < x.cps.size; simpa using hlt, fun v H2 y => ?_⟩
      obtain ⟨rfl, c', ec, rfl⟩ := y
      have : c' = c := by
        rw [Array.getElem?_toList] at hr
        rw [hr] at ec
        exact (Option.some.inj ec).symm
      subst this
      exact ⟨fun _ _ q => q, .str _⟩, fun m' h' H' s S => by
    show x.cps.size ≤ (signs x).length
    unfold signs
    rw [List.length_map]
    simp⟩
theorem wi_str (h : WE X K CA W l ha ta) : WI X K CA W tge l (iStr ha) (dStrI ta) := by
  refine ⟨pi_str h.pe, fun m hh H σ ρ R' S t => h.sim m hh H σ ρ _ S (PostI.bind t fun d h1 m1 v H1 s1 S1 r1 t1 => ?_)⟩
  split at t1
  · rename_i x
    cases r1
    exact ⟨x, rfl, t1.walk s1 S1 (wk_str x)⟩
  · exact t1.elim
end
end CM
namespace CM
open PySem PySem.Spec PySem.Calls PyProof.Rows L2
def eqB (k : Bool) (v : Value) : Bool := match v with
  | .bool b => b == k
  | _ => false
theorem vals_bls : ∀ {bs : List Bool} {us : List Value}, Vals (bs.map V.bl) us → us = bs.map Value.bool
  | [], _, r => by cases r; rfl
  | b :: bs, _, r => by
    cases r with
    | cons r1 r2 =>
      rw [vals_bls r2]
      have : _ = Value.bool b := r1
      rw [this]
      rfl
theorem eqB_count {k : Bool} : ∀ bs : List Bool, (bs.map Value.bool).countP (eqB k) = bs.count k
  | [] => rfl
  | b :: bs => by
    rw [List.map_cons, List.countP_cons, List.count_cons, eqB_count bs]
    rfl
def rCntB (K : PySem.W.Frag) : V → List V → Hp → VK → Prop := fun x xs H Q => ∃ (p : Addr) (bs : List Bool) (k : Bool), x = .ref p ∧ xs = [.bl k] ∧ SqL K H p (bs.map V.bl) ∧ Q (.int (bs.count k : Nat)) H
theorem mt_bcount {X : Cx} : MtR X "list.count" (rCntB X.K) := by
  intro pins s σ H x xs v us Q I rx rxs h
  obtain ⟨p, bs, k, rfl, rfl, hs, q⟩ := h
  cases rx
  obtain ⟨u, rfl, ru⟩ := rxs.one
  obtain rfl : u = Value.bool k := ru
  obtain ⟨its, rv, ⟨⟨cls, dd, data, sl⟩, n, ho, hc, hdn, hd⟩, hlen⟩ := I.list hs
  simp only at hc hd
  subst hc hd
  have hi := vals_bls rv
  refine call_meets PySem.F.slot_list_count ⟨_, ho, rfl⟩ PySem.F.entry_list_count (PySem.F.args_list_count_2 _ _)
    (SeqAt.list_countAt p its.toArray n dd sl (.bool k) (eqB k)) ⟨ho, fun y hy => ?_, ?_⟩
  · have hy' : y ∈ bs.map Value.bool := by rw [← hi]; simpa using hy
    obtain ⟨b, _, rfl⟩ := List.mem_map.mp hy'
    exact SeqAt.EqAt.bool_bool b k
  have ec : its.toArray.toList.countP (eqB k) = bs.count k := by
    rw [List.toList_toArray, hi]
    exact eqB_count bs
  refine ⟨.int (bs.count k : Nat), H, I.tok _, ⟨s.toks, ?_⟩, q⟩
  show Value.int ((its.toArray.toList.countP (eqB k) : Nat) : Int) s.toks = Value.int ((bs.count k : Nat) : Int) s.toks
  rw [ec]
def fCntB : FM := fun x xs h => match xs with
  | [.bl k] => match lstOf h x with
    | some ds => match blsOf ds with
      | some bs => .ok (.int (bs.count k : Nat)) h
      | none => .no
    | none => .no
  | _ => .no
section
variable {K : PySem.W.Frag} {CA : CAs}
theorem bls_rel {m : Mp} {h : CH} {H : Hp} : ∀ {vs : List V} {ds : List D} {ys : List Bool}, RpAll K CA m h H vs ds → blsOf ds = some ys → vs = ys.map V.bl
  | _, [], ys, r, e => by
    cases r
    cases e
    rfl
  | _, d :: ds, ys, r, e => by
    cases r with
    | cons r1 r2 =>
      cases d with
      | bl x =>
        cases r1
        simp only [blsOf] at e
        cases q : blsOf ds with
        | none => rw [q] at e; cases e
        | some zs =>
          rw [q] at e
          cases e
          rw [bls_rel r2 q]
          rfl
      | _ => cases e
theorem sim_cntB : SimM K CA (rCntB K) fCntB := by
  intro W σ m h H x dx xs ds Q' S rx rs t
  unfold fCntB at t
  split at t
  · split at t
    · rename_i es e1
      split at t
      · rename_i ys e2
        cases rs with
        | cons r1 r2 =>
          cases r1; cases r2
          obtain ⟨a, vs, rfl, q, rr⟩ := rp_lst S rx e1
          rw [bls_rel rr e2] at q
          exact ⟨a, ys, _, rfl, rfl, .of q, t.here S (.int _)⟩
      · exact t.elim
    · exact t.elim
  · exact t.elim
end
end CM
namespace CM
open PySem PySem.Spec PySem.Calls PyProof.Rows L2
def dSeqP (t : TD) : TDw := fun ρ h => (t ρ h).bind fun d h => match itemsD h d with
  | some ds => .ok (ds, none) h
  | none => .no
section
variable {X : Cx} {K : PySem.W.Frag} {CA : CAs} {W : WX} {ha : TE} {ta : TD}
theorem sim_seqP {H0 : Hp} (s : SimE K CA W ha ta) : SimI K CA W H0 (iSeq K ha) (dSeqP ta) := fun m hh H σ ρ R' S t => s m hh H σ ρ _ S (PostI.bind t fun d h1 m1 v H1 s1 S1 r1 t1 => by
  cases r1 with
  | lst n e r => exact ⟨_, rfl, .inl ⟨⟨_, .of e⟩, t1.walk s1 S1 (wk_list (keep_lst n e) r)⟩⟩
  | tup n e r => exact ⟨_, rfl, .inr ⟨⟨_, .of e⟩, t1.walk s1 S1 (wk_tup (keep_tup n e) r)⟩⟩
  | ktup e r => exact ⟨_, rfl, .inr ⟨⟨_, sq_emp e⟩, t1.walk s1 S1 (wk_tup (fun _ _ _ _ => sq_emp e) r)⟩⟩
  | scr n e => exact ⟨_, rfl, .inl ⟨⟨_, .inl (.inr ⟨_, e⟩)⟩, t1.walk s1 S1 (wk_list (fun m' h' H' s => by
      obtain ⟨_, o, e', l⟩ := s.kp _ _ n e trivial
      exact .inl (.inr ⟨_, by rw [e', l.frz]⟩)) (all_ints _))⟩⟩
  | kscr e => exact ⟨_, rfl, .inl ⟨⟨_, sl_emp e⟩, t1.walk s1 S1 (wk_list (fun _ _ _ _ => sl_emp e) (all_ints _))⟩⟩
  | _ => exact t1.elim)
end
section
variable {X : Cx} {K : PySem.W.Frag} {CA : CAs} {W : WX} {elt iter tge : Expr} {ifs : List Expr} {pos : Pos} {gH : TG} {tg : TGD} {hT : TT} {tt : TB} {he ha : TE} {te ta : TD}
theorem unl_frz {o : Obj} {P : Hp → Prop} (e : X.H_0 = fun _ => some (.frz o (.lst []))) : UnlP X P = P := by
  funext H
  refine propext ⟨fun q => ?_, .inl⟩
  rcases q with q | ⟨d, _, _, _, n, _⟩
  · exact q
  · rw [e] at n
    exact absurd rfl (n _ _)
theorem sim_lcP (X : Cx) {nm : Bool} {vs sl : List Nat} (s : SimE K CA W ha ta) (hg : SimG K CA sl gH tg) (ht : SimT K CA W0 hT tt) (hel : SimE K CA W0 he te) (ho : ∀ j, j ∈ sl → j ∈ vs) : SimE K CA W (tLc (iSeq K ha) gH hT he vs) (dLc nm (dSeqP ta) tg tt te vs) := by
  have h := sim_lc (X := { X with H_0 := fun _ => some (.frz default (.lst [])) }) (W := W) (nm := nm) (sim_seqP s) hg ht hel ho
  have e : tLcU { X with H_0 := fun _ => some (.frz default (.lst [])) } (iSeq K ha) gH hT he vs = tLc (iSeq K ha) gH hT he vs := by
    funext σ H Q
    show tLc (iSeq K ha) gH hT he vs σ H (fun v => UnlP { X with H_0 := fun _ => some (.frz default (.lst [])) } (Q v)) = _
    congr 1
    funext v
    exact unl_frz rfl
  rw [e] at h
  exact h
theorem we_lcP {scope : Scope} {own : List (Str × Nat)} {sl : List Nat} (hc : X.calm = true) (hN : X.N.Nodup) (hi : WE X K CA W iter ha ta) (hK : X.K = K) (ok : BlkOk X.N X.env.scope scope own)
    (hg : ∀ (s : Shared) (H : Hp) (C : Addr) (cl : List (Str × Addr)) (fp : List Addr), WG (X.blk s H scope (compEnvC scope cl C X.env) fp) K CA tge sl gH tg)
    (ht : ∀ (s : Shared) (H : Hp) (C : Addr) (cl : List (Str × Addr)) (fp : List Addr), WTs (X.blk s H scope (compEnvC scope cl C X.env) fp) K CA W0 ifs hT tt)
    (hel : ∀ (s : Shared) (H : Hp) (C : Addr) (cl : List (Str × Addr)) (fp : List Addr), WE (X.blk s H scope (compEnvC scope cl C X.env) fp) K CA W0 elt he te)
    (ho : ∀ j, j ∈ sl → j ∈ own.map (·.2)) (hs : ∀ x, foldedSetIterable iter X.env x = pure x := by intro _; rfl) : WE X K CA W (.ListComp elt [⟨tge, iter, ifs, 0⟩] scope pos) (tLc (iSeq K ha) gH hT he (own.map (·.2))) (dLc false (dSeqP ta) tg tt te (own.map (·.2))) :=
  ⟨pe_lc hc hN (pi_seq hi.pe hK) ok (fun s H C cl fp => (hg s H C cl fp).pe) (fun s H C cl fp => (ht s H C cl fp).pe) (fun s H C cl fp => (hel s H C cl fp).pe) hs, sim_lcP X hi.sim (hg X.s_0 X.H_0 0 [] []).sim (ht X.s_0 X.H_0 0 [] []).sim (hel X.s_0 X.H_0 0 [] []).sim ho⟩
end
end CM
namespace CM
open PySem PySem.Spec PySem.Calls PyProof.Rows L2
def dSlT (ta : TD) (tl th : TDo) : TD := fun ρ h => (ta ρ h).bind fun x h => (tl ρ h).bind fun l h => (th ρ h).bind fun u h => match x with
  | .str z => if z.length ≤ sizeLine then .ok (.str (cutS z l u)) h else .no
  | _ => .no
def fMulS : F2 := fun x y h => match x, y with
  | .str a, .int k => if 2 ≤ k ∧ k ≤ 1000 ∧ a.length ≤ 1000 then .ok (.str (PySem.Txt.mul a k)) h else .no
  | _, _ => .no
def fNInC : F2 := fun x y h => match x, y with
  | .str c, .str z => match c.cps.toList with
    | [k] => .ok (.bl (!decide (k ∈ z.cps.toList))) h
    | _ => .no
  | _, _ => .no
section
variable {X : Cx} {K : PySem.W.Frag} {CA : CAs} {W : WX} {e a : Expr} {lo hi : Option Expr} {ha : TE} {ta : TD} {hl hh : TO} {tl th : TDo} {pos p2 : Pos}
def rSlT : V → Option Int → Option Int → Hp → VK → Prop := fun x lo hi H Q => ∃ z, x = .str z ∧ z.length ≤ sizeLine ∧ Q (.str (cutS z lo hi)) H
theorem sl_T : SlR X rSlT := by
  intro pins s σ H x v vl vu lo hi sl Q I rx hs pl pu h
  exact sl_str pins s σ H x v vl vu lo hi sl Q I rx hs pl pu h
theorem we_sliceT (x : WE X K CA W a ha ta) (y : WO X K CA W lo hl tl) (z : WO X K CA W hi hh th) : WE X K CA W (.Subscript a (.Slice lo hi none p2) pos) (tSl rSlT ha hl hh) (dSlT ta tl th) := by
  refine ⟨pe_slice sl_T x.pe y.pe z.pe, fun m h H σ ρ Q' S t => x.sim m h H σ ρ _ S (t.bind fun d h1 m1 v H1 s1 S1 r1 t1 => ?_)⟩
  refine y.sim m1 h1 H1 σ ρ _ (S.move s1 S1) (t1.bind fun l h2 m2 l' H2 s2 S2 e2 t2 => ?_)
  cases (show l' = l from e2)
  refine z.sim m2 h2 H2 σ ρ _ ((S.move s1 S1).move s2 S2) (t2.bind fun u h3 m3 u' H3 s3 S3 e3 t3 => ?_)
  cases (show u' = u from e3)
  have r3 := (r1.move s2).move s3
  split at t3
  · obtain ⟨c, t3⟩ := post_ite t3
    cases r3
    exact ⟨_, rfl, c, t3.here S3 (.str _)⟩
  · exact t3.elim
theorem op_mulS : OpR X (binaryOp .Mult) (fun x y H Q => ∃ (a : Str) (k : Int), x = .str a ∧ y = .int k ∧ 2 ≤ k ∧ k ≤ 1000 ∧ a.length ≤ 1000 ∧ Q (.str (PySem.Txt.mul a k)) H) := by
  intro pins s σ H x y v u Q I rx ry h
  obtain ⟨a, k, rfl, rfl, h1, h2, h3, q⟩ := h
  obtain ⟨t, rfl⟩ := rx
  obtain ⟨t', rfl⟩ := ry
  have m1 : a.length * k.toNat ≤ 1000 * 1000 := Nat.mul_le_mul h3 (by omega)
  refine PySem.SB.mul ⟨?_, fun _ _ => ?_, fun _ _ => ?_⟩ fun t' kk => ⟨.str _, H, I.tok _, ⟨_, rfl⟩, q⟩
  · rw [Bool.or_eq_false_iff]
    exact ⟨decide_eq_false (by omega), decide_eq_false (by omega)⟩
  · have : (1000 : Int) ≤ (2 ^ 63 - 1) / k := by
      rw [Int.le_ediv_iff_mul_le (by omega)]
      omega
    omega
  · show decide (a.length * k.toNat > sizeLine) = false
    have z : (1000 * 1000 : Nat) ≤ sizeLine := by decide
    exact decide_eq_false (by omega)
theorem sim_mulS : SimR K CA (fun x y H Q => ∃ (a : Str) (k : Int), x = .str a ∧ y = .int k ∧ 2 ≤ k ∧ k ≤ 1000 ∧ a.length ≤ 1000 ∧ Q (.str (PySem.Txt.mul a k)) H) fMulS := by
  intro W σ m h H x y dx dy Q' S rx ry t
  unfold fMulS at t
  split at t
  · obtain ⟨c, t⟩ := post_ite t
    cases rx
    cases ry
    exact ⟨_, _, rfl, rfl, c.1, c.2.1, c.2.2, t.here S (.str _)⟩
  · exact t.elim
theorem sim_nInC : SimR K CA (fun x y H Q => ∃ (c : Nat) (z : Str), x = .str ⟨#[c]⟩ ∧ y = .str z ∧ Q (.bl (!decide (c ∈ z.cps.toList))) H) fNInC := by
  intro W σ m h H x y dx dy Q' S rx ry t
  unfold fNInC at t
  split at t
  · rename_i c z
    split at t
    · rename_i k e
      cases rx
      cases ry
      have ec : c = ⟨#[k]⟩ := by
        obtain ⟨a⟩ := c
        obtain ⟨b⟩ := a
        simp only at e
        subst e
        rfl
      subst ec
      exact ⟨k, z, rfl, rfl, t.here S (.bl _)⟩
    · exact t.elim
  · exact t.elim
end
end CM
namespace CM
open PySem PySem.Spec PyProof.Rows L2
section
variable (K : PySem.W.Frag) (a : Addr)
def objD : Obj := (K.lookup a).getD default
def fdD : FuncData := match (objD K a).data with
  | .func fd => fd
  | _ => default
def fldD : Array Value := match (objD K a).data with
  | .fields vs => vs
  | _ => #[]
def seqD : Array Value := match (objD K a).data with
  | .seq vs _ => vs
  | _ => #[]
def seqN : Nat := match (objD K a).data with
  | .seq _ n => n
  | _ => 0
def dicD : Array DictEntry := match (objD K a).data with
  | .dict es _ => es
  | _ => #[]
def dicN : Nat := match (objD K a).data with
  | .dict _ n => n
  | _ => 0
def celD : Option Value := match (objD K a).data with
  | .cell v => v
  | _ => none
/-- which kind stands there: 1 a function, 2 fields, 3 a row of items, 4 a dict, 5 a cell -/
def kndD : Nat := match K.lookup a with
  | some o => (match o.data with
    | .func _ => 1
    | .fields _ => 2
    | .seq _ _ => 3
    | .dict _ _ => 4
    | .cell _ => 5
    | _ => 0)
  | none => 0
end
def refA : Value → Addr
  | .ref a => a
  | _ => 0
def tkV : Value → Tok
  | .int _ t => t
  | .str _ t => t
  | _ => default
def strV : Value → Str
  | .str x _ => x
  | _ => Str.empty
def nsV (K : PySem.W.Frag) (ns : Addr) (x : Str) : Value := match PySem.W.nsIn K ns x with
  | some (some v) => v
  | _ => .none
def ga (K : PySem.W.Frag) (x : Str) : Addr := refA (nsV K mainGlobals x)
def ma (K : PySem.W.Frag) (C : Addr) (m : Str) : Addr := match PySem.W.findIn K (.ref C) m with
  | some (some (.ref a)) => a
  | _ => 0
abbrev FnV : Type := Option (Str × Str × Arguments × FuncBody × Scope × Addr × List Str × Value × Addr)
def fnO (K : PySem.W.Frag) (a : Addr) : FnV := match K.lookup a with
  | some ⟨_, _, .func fd, _⟩ => some (fd.name, fd.qualname, fd.params, fd.body, fd.scope, fd.globals, fd.closure.map (·.1), fd.defaults, fd.builtins)
  | _ => none
abbrev fnE (name qual : Str) (st : Stmt) : FnV := some (name, qual, defArgs st, .stmts (defBody st), defScope st, mainGlobals, [], .none, builtinsNs)
abbrev fnX' (name qual : Str) (st : Stmt) : FnV := some (name, qual, defArgs st, .stmts (defBody st), defScope st, mainGlobals, ["__class__"], .none, builtinsNs)
section
variable {K : PySem.W.Frag} {a : Addr} {name qual : Str} {st : Stmt}
theorem fnO_ok (e : fnO K a = fnE name qual st) : K.lookup a = some ⟨(objD K a).cls, (objD K a).dict, .func (PySem.W.fnOf name qual (defArgs st) (defBody st) (defScope st) .none (fdD K a).kwdefaults (fdD K a).doc (fdD K a).pyModule (fdD K a).annotations (fdD K a).code (fdD K a).closureTuple), (objD K a).slots⟩ := by
  unfold fnO at e
  cases q : K.lookup a with
  | none => rw [q] at e; cases e
  | some o =>
    obtain ⟨oc, od, dt, osl⟩ := o
    have eo : objD K a = ⟨oc, od, dt, osl⟩ := by unfold objD; rw [q]; rfl
    rw [q] at e
    cases dt with
    | func fd =>
      have ef : fdD K a = fd := by unfold fdD; rw [eo]
      rw [eo, ef]
      obtain ⟨n1, n2, n3, n4, n5, n6, n7, n8, n9, n10, n11, n12, n13, n14, n15⟩ := fd
      simp only [fnE, Option.some.injEq, Prod.mk.injEq, List.map_eq_nil_iff] at e
      obtain ⟨h1, h2, h3, h4, h5, h6, h7, h8, h9⟩ := e
      subst h1 h2 h3 h4 h5 h6 h7 h8 h9
      rfl
    | _ => cases e
theorem fnO_ks (e : fnO K a = fnX' name qual st) : K.lookup a = some ⟨(objD K a).cls, (objD K a).dict, .func (PySem.W.ksFn name qual (defArgs st) (defBody st) (defScope st) .none (fdD K a).kwdefaults (fdD K a).doc (fdD K a).pyModule (fdD K a).annotations (fdD K a).code (fdD K a).closureTuple ((fdD K a).closure.headD ("", 0)).2), (objD K a).slots⟩ := by
  unfold fnO at e
  cases q : K.lookup a with
  | none => rw [q] at e; cases e
  | some o =>
    obtain ⟨oc, od, dt, osl⟩ := o
    have eo : objD K a = ⟨oc, od, dt, osl⟩ := by unfold objD; rw [q]; rfl
    rw [q] at e
    cases dt with
    | func fd =>
      have ef : fdD K a = fd := by unfold fdD; rw [eo]
      rw [eo, ef]
      obtain ⟨n1, n2, n3, n4, n5, n6, n7, n8, n9, n10, n11, n12, n13, n14, n15⟩ := fd
      simp only [fnX', Option.some.injEq, Prod.mk.injEq] at e
      obtain ⟨h1, h2, h3, h4, h5, h6, h7, h8, h9⟩ := e
      cases n7 with
      | nil => exact absurd (congrArg List.length h7) (by simp)
      | cons z r =>
        cases r with
        | cons _ _ => exact absurd (congrArg List.length h7) (by simp)
        | nil =>
          obtain ⟨z1, z2⟩ := z
          simp only [List.map_cons, List.map_nil, List.cons.injEq, and_true] at h7
          subst h1 h2 h3 h4 h5 h6 h7 h8 h9
          rfl
    | _ => cases e
theorem knd_ex {n : Nat} (e : decide (kndD K a = n) = true) (n0 : n ≠ 0) : ∃ o, K.lookup a = some o ∧ objD K a = o ∧ (match o.data with
    | .func _ => 1
    | .fields _ => 2
    | .seq _ _ => 3
    | .dict _ _ => 4
    | .cell _ => 5
    | _ => 0) = n := by
  have e := of_decide_eq_true e
  unfold kndD at e
  cases q : K.lookup a with
  | none => rw [q] at e; exact absurd e.symm n0
  | some o => rw [q] at e; exact ⟨o, rfl, by unfold objD; rw [q]; rfl, e⟩
theorem fld_ok (e : decide (kndD K a = 2) = true) : K.lookup a = some ⟨(objD K a).cls, (objD K a).dict, .fields (fldD K a), (objD K a).slots⟩ := by
  obtain ⟨⟨c, d, dt, sl⟩, h1, h2, h3⟩ := knd_ex e (by decide)
  unfold fldD
  rw [h1, h2]
  cases dt <;> first | rfl | (simp at h3)
theorem seq_ok (e : decide (kndD K a = 3) = true) : K.lookup a = some ⟨(objD K a).cls, (objD K a).dict, .seq (seqD K a) (seqN K a), (objD K a).slots⟩ := by
  obtain ⟨⟨c, d, dt, sl⟩, h1, h2, h3⟩ := knd_ex e (by decide)
  unfold seqD seqN
  rw [h1, h2]
  cases dt <;> first | rfl | (simp at h3)
theorem tup_ok {vs : List Value} (e : decide (kndD K a = 3) = true) (c : decide ((objD K a).cls = .type "tuple") = true) (v : decide ((seqD K a).toList = vs) = true) : K.lookup a = some ⟨.type "tuple", (objD K a).dict, .seq vs.toArray (seqN K a), (objD K a).slots⟩ := by
  rw [seq_ok e, of_decide_eq_true c]
  have : seqD K a = vs.toArray := by rw [← of_decide_eq_true v]
  rw [this]
theorem dic_ok (e : decide (kndD K a = 4) = true) (c : decide ((objD K a).cls = .type "dict") = true) (d : decide ((objD K a).dict = none) = true) (s : decide ((objD K a).slots.size = 0) = true) : K.lookup a = some ⟨.type "dict", none, .dict (dicD K a) (dicN K a), #[]⟩ := by
  obtain ⟨⟨c', d', dt, sl⟩, h1, h2, h3⟩ := knd_ex e (by decide)
  have c := of_decide_eq_true c
  have d := of_decide_eq_true d
  have s := of_decide_eq_true s
  rw [h2] at c d s
  have s' : sl = #[] := Array.eq_empty_of_size_eq_zero s
  cases c; cases d; subst s'
  unfold dicD dicN
  rw [h1, h2]
  cases dt <;> first | rfl | (simp at h3)
theorem cel_ok {v : Value} (e : decide (kndD K a = 5) = true) (c : decide (celD K a = some v) = true) : K.lookup a = some ⟨(objD K a).cls, (objD K a).dict, .cell (some v), (objD K a).slots⟩ := by
  obtain ⟨⟨c', d', dt, sl⟩, h1, h2, h3⟩ := knd_ex e (by decide)
  have c := of_decide_eq_true c
  unfold celD at c
  rw [h2] at c
  rw [h1, h2]
  cases dt <;> first | (simp at h3; done) | (simp only at c; rw [c])
theorem non_ok (e : (K.lookup a).isNone = true) : K.lookup a = none := Option.isNone_iff_eq_none.mp e
end
/-- the entries of a dict: hash, text, int -/
def entV (e : DictEntry) : Int × Str × Int := (e.hash, strV e.key, match e.val with
  | .int i _ => i
  | _ => 0)
def entB (e : DictEntry) : Bool := (match e.key with
  | .str _ _ => true
  | _ => false) && (match e.val with
  | .int _ _ => true
  | _ => false)
def entE (P : Params) (q : List (Str × Int)) : List (Int × Str × Int) := q.map fun p => (PyData.keyHash P p.1, p.1, p.2)
theorem kdI_of {P : Params} : ∀ {es : List DictEntry} {q : List (Str × Int)}, es.all entB = true → es.map entV = entE P q → KdI P es q
  | [], [], _, _ => trivial
  | [], _ :: _, _, e => by cases e
  | _ :: _, [], _, e => by cases e
  | ⟨hs, k, v⟩ :: es, (x, i) :: q, b, e => by
    rw [List.all_cons, Bool.and_eq_true] at b
    have e' := List.cons.inj (show entV ⟨hs, k, v⟩ :: es.map entV = (PyData.keyHash P x, x, i) :: entE P q from e)
    refine ⟨?_, kdI_of b.2 e'.2⟩
    have b1 := b.1
    unfold entB at b1
    rw [Bool.and_eq_true] at b1
    have e1 := e'.1
    unfold entV at e1
    simp only [Prod.mk.injEq] at e1
    obtain ⟨q1, q2, q3⟩ := e1
    obtain ⟨b2, b3⟩ := b1
    cases k with
    | str y t =>
      cases v with
      | int j t' =>
        simp only [strV] at q2 q3
        subst q2 q3
        exact ⟨t, t', rfl, q1, rfl⟩
      | _ => cases b3
    | _ => cases b2
def refsX (o : Obj) : List Addr := He.refV o.cls ++ match o.data with
  | .seq its _ => its.toList.flatMap He.refV
  | .dict es _ => es.toList.flatMap fun e => He.refV e.val
  | .func fd => He.refV fd.code ++ (He.refV fd.defaults ++ (He.refV fd.kwdefaults ++ fd.closure.map (·.2)))
  | .cls cd => cd.ns :: cd.mro.flatMap He.refV
  | .fields vs => vs.toList.flatMap He.refV
  | .cell (some v) => He.refV v
  | _ => []
def newX (old : List Addr) : List Addr → List Addr
  | [] => []
  | a :: r => if old.contains a then newX old r else a :: newX (a :: old) r
def asX (g : Addr → Option Obj) : Nat → List Addr → List Addr → List Addr
  | 0, old, _ => old
  | n + 1, old, fr => match newX old (fr.flatMap fun a => match g a with
    | some o => refsX o
    | none => []) with
    | [] => old
    | x :: l => asX g n (x :: l ++ old) (x :: l)
def isTab (o : Option Obj) : Bool := match o with
  | some ⟨.none, none, .fields vs, sl⟩ => decide (vs.size = 0) && decide (sl.size = 0)
  | _ => false
theorem isTab_ok {o : Option Obj} (e : isTab o = true) : o = some { cls := .none, data := .fields #[] } := by
  unfold isTab at e
  split at e
  · rename_i vs sl
    rw [Bool.and_eq_true] at e
    have h1 := Array.eq_empty_of_size_eq_zero (of_decide_eq_true e.1)
    have h2 := Array.eq_empty_of_size_eq_zero (of_decide_eq_true e.2)
    subst h1 h2
    rfl
  · cases e
def fragX (g : Addr → Option Obj) (n : Nat) : PySem.W.Frag := He.frG g ((asX g n [mainGlobals] [mainGlobals]).filter fun a => !isTab (g a))
abbrev AlX : Type := Bool × (List FnV × List (Int × Str × Int))
/-- what the end leans on: checks, defs, entries, tables -/
structure SpecX where
  ck : PySem.W.Frag → Bool
  fn : PySem.W.Frag → List FnV
  fe : List FnV
  en : PySem.W.Frag → List (Int × Str × Int)
  ee : Params → List (Int × Str × Int)
  tb : PySem.W.Frag → List Addr
def SpecX.obs (X : SpecX) (n : Nat) (g : Addr → Option Obj) : AlX := (X.ck (fragX g n) && (X.tb (fragX g n)).all fun a => isTab (g a), X.fn (fragX g n), X.en (fragX g n))
def SpecX.val (X : SpecX) (P : Params) : AlX := (true, X.fe, X.ee P)
structure SaysX (X : SpecX) (w : World) (h : Heap) (K : PySem.W.Frag) : Prop where
  kin : K.In h
  ck : X.ck K = true
  fn : X.fn K = X.fe
  en : X.en K = X.ee w.params
  tb : ∀ a ∈ X.tb K, h.get? a = some { cls := .none, data := .fields #[] }
theorem ckF {l : List Bool} (h : l.all id = true) (i : Nat) {b : Bool} (e : l[i]? = some b) : b = true := List.all_eq_true.mp h b (List.mem_of_getElem? e)
theorem fnF {X : SpecX} {K : PySem.W.Frag} (e : X.fn K = X.fe) (i : Nat) {a b : FnV} (ea : (X.fn K)[i]? = some a) (eb : X.fe[i]? = some b) : a = b := by
  rw [e, eb] at ea
  exact (Option.some.inj ea).symm
/-- the law, over such a head -/
theorem walkGX {l : PySem.W.OpenLaw} {k : Nat} {q : Program} {loose : List Str} {XP : (Str → Option Value) → Heap → Prop} {YP : World → Heap → Prop} {d : DefRec} {F : FD} (hF : LawF F) (hi : importsNone q = true) (hn : l.most = some 63) (hdf : d.params.defaults = []) (hr : Room k callerA)
    (G0 : ∀ (w : World) (mg : Str → Option Value) (fa : Addr) (h : Heap), YP w h → h.Ns mainGlobals mg → mg d.name = some (.ref fa) → ∃ K : PySem.W.Frag, K.In h ∧ ∃ (fd : FuncData) (CA : CAs) (cs : List (Addr × Addr)), (∀ p ∈ CA.T, ∃ c, (c, p.1) ∈ cs) ∧ (∀ p ∈ cs, h.get? p.2 = some { cls := .none, data := .fields #[] }) ∧ (∀ p ∈ cs, K.lookup p.2 = none) ∧ (∀ p ∈ cs, PySem.W.CodeHd h p.1 p.2) ∧
      (∀ (s : Shared) (u : Value), BindsTo s fd ⟨[u], []⟩ [("_law_script", u)]) ∧
      ∀ base : Heap, K.In base → base.Ns mainGlobals mg → SM base → (∀ p ∈ cs, LamX.TabB base mg p.1 p.2) → FnG l.prog w K mg base true k fa fd ["_law_script"] (spD K CA 1 F)) : PySem.W.WalkO q loose XP YP l.row.toRowW d [] (fun f vs => PySem.call f vs) := by
  refine Att.attach_callB hn hdf fun w s0 s1 mg mb fa o pm cd doc a vs ns G Y _ _ _ hm ha his hl _ gens => ?_
  obtain ⟨mm, hm2, _⟩ := (G.T.seer hi).mods
  have sm : SM s1.heap := by
    obtain ⟨o, es, ep, e, d, _⟩ := hm2
    exact ⟨o, es, ep, e, d⟩
  obtain ⟨K, KX, fd, CA, cs, T0, hT, nT, hC, bd, G1⟩ := G0 w mg fa _ Y G.T.g hm
  exact law_endT KX G.T.g G.T.b G.T.builtins G.T.nolimit gens ha his hl hr hF sm hT nT hC G.T.bmain T0 G1 bd
end CM
namespace CM
open PySem PySem.Spec PyProof.Rows L2
def bitB (m a : Nat) : Bool := Nat.beq (Nat.land (Nat.shiftRight m a) 1) 1
def frO {α : Type} (o : Obj) (k : Obj → α) : α := match o with
  | ⟨c, d, x, sl⟩ => (match x with
    | .fields vs => k ⟨c, d, .fields vs, sl⟩
    | .seq vs n => k ⟨c, d, .seq vs n, sl⟩
    | x => k ⟨c, d, x, sl⟩)
theorem frO_eq {α : Type} (o : Obj) (k : Obj → α) : frO o k = k o := by
  obtain ⟨c, d, x, sl⟩ := o
  unfold frO
  cases x <;> rfl
/-- what is looked up often: defs, classes, dicts -/
def isHot (o : Obj) : Bool := match o.data with
  | .func _ => true
  | .cls _ => true
  | .dict _ _ => true
  | _ => false
def revB {α : Type} : PySem.W.Frag → PySem.W.Frag → (PySem.W.Frag → α) → α
  | [], L, k => k L
  | p :: r, L, k => revB r (p :: L) k
def reachB {α : Type} (g : Addr → Option Obj) : Nat → Nat → List Addr → PySem.W.Frag → PySem.W.Frag → (PySem.W.Frag → α) → α
  | 0, _, _, K, L, k => revB K L k
  | _ + 1, _, [], K, L, k => revB K L k
  | n + 1, m, a :: r, K, L, k => HandSHeadRun.frNat a fun a => match bitB m a with
    | true => reachB g n m r K L k
    | false => HandSHeadRun.frNat (Nat.lor m (Nat.shiftLeft 1 a)) fun m => match g a with
      | none => reachB g n m r K L k
      | some o => frO o fun o => match isTab (some o) with
        | true => reachB g n m r K L k
        | false => match isHot o with
          | true => reachB g n m (refsX o ++ r) ((a, o) :: K) L k
          | false => reachB g n m (refsX o ++ r) K ((a, o) :: L) k
def Sound (g : Addr → Option Obj) (K : PySem.W.Frag) : Prop := ∀ p ∈ K, g p.1 = some p.2
theorem Sound.cons {g : Addr → Option Obj} {K : PySem.W.Frag} {a : Addr} {o : Obj} (e : g a = some o) (h : Sound g K) : Sound g ((a, o) :: K) := fun p hp => by
  rcases List.mem_cons.mp hp with rfl | hp
  · exact e
  · exact h p hp
theorem revB_ok {α : Type} {g : Addr → Option Obj} : ∀ (K L : PySem.W.Frag), Sound g K → Sound g L → ∃ K', Sound g K' ∧ ∀ {β : Type} (k : PySem.W.Frag → β), revB K L k = k K'
  | [], L, _, hL => ⟨L, hL, fun k => rfl⟩
  | p :: r, L, hK, hL => revB_ok (α := α) r (p :: L) (fun q hq => hK q (List.mem_cons_of_mem _ hq)) (Sound.cons (hK p (List.mem_cons_self ..)) hL)
theorem reachB_ok {g : Addr → Option Obj} : ∀ (n m : Nat) (t : List Addr) (K L : PySem.W.Frag), Sound g K → Sound g L → ∃ K', Sound g K' ∧ ∀ {β : Type} (k : PySem.W.Frag → β), reachB g n m t K L k = k K'
  | 0, _, _, K, L, hK, hL => revB_ok (α := Nat) K L hK hL
  | _ + 1, _, [], K, L, hK, hL => revB_ok (α := Nat) K L hK hL
  | n + 1, m, a :: r, K, L, hK, hL => by
    cases eb : bitB m a with
    | true =>
      obtain ⟨K', h, e⟩ := reachB_ok n m r K L hK hL
      refine ⟨K', h, fun k => ?_⟩
      rw [reachB, HandSHeadRun.frNat_eq, eb]
      exact e k
    | false =>
      cases e : g a with
      | none =>
        obtain ⟨K', h, e2⟩ := reachB_ok n (Nat.lor m (Nat.shiftLeft 1 a)) r K L hK hL
        refine ⟨K', h, fun k => ?_⟩
        rw [reachB, HandSHeadRun.frNat_eq, eb]
        dsimp only
        rw [HandSHeadRun.frNat_eq, e]
        exact e2 k
      | some o =>
        cases it : isTab (some o) with
        | true =>
          obtain ⟨K', h, e2⟩ := reachB_ok n (Nat.lor m (Nat.shiftLeft 1 a)) r K L hK hL
          refine ⟨K', h, fun k => ?_⟩
          rw [reachB, HandSHeadRun.frNat_eq, eb]
          dsimp only
          rw [HandSHeadRun.frNat_eq, e]
          dsimp only
          rw [frO_eq, it]
          exact e2 k
        | false =>
          cases ih : isHot o with
          | true =>
            obtain ⟨K', h, e2⟩ := reachB_ok n (Nat.lor m (Nat.shiftLeft 1 a)) (refsX o ++ r) ((a, o) :: K) L (hK.cons e) hL
            refine ⟨K', h, fun k => ?_⟩
            rw [reachB, HandSHeadRun.frNat_eq, eb]
            dsimp only
            rw [HandSHeadRun.frNat_eq, e]
            dsimp only
            rw [frO_eq, it]
            dsimp only
            rw [ih]
            exact e2 k
          | false =>
            obtain ⟨K', h, e2⟩ := reachB_ok n (Nat.lor m (Nat.shiftLeft 1 a)) (refsX o ++ r) K ((a, o) :: L) hK (hL.cons e)
            refine ⟨K', h, fun k => ?_⟩
            rw [reachB, HandSHeadRun.frNat_eq, eb]
            dsimp only
            rw [HandSHeadRun.frNat_eq, e]
            dsimp only
            rw [frO_eq, it]
            dsimp only
            rw [ih]
            exact e2 k
theorem inB {h : Heap} : ∀ {K : PySem.W.Frag}, (∀ p ∈ K, h.get? p.1 = some p.2) → K.In h
  | [], _ => fun a o e => nomatch (show (none : Option Obj) = some o from e)
  | (b, ob) :: r, hK => fun a o e => by
    have e2 : (match a == b with | true => some ob | false => List.lookup a r) = some o := e
    cases q : (a == b) with
    | true =>
      rw [q] at e2
      rw [beq_iff_eq.mp q, ← Option.some.inj e2]
      exact hK (b, ob) List.mem_cons_self
    | false =>
      rw [q] at e2
      exact inB (fun p hp => hK p (List.mem_cons_of_mem _ hp)) a o e2
def SpecX.bod (X : SpecX) (g : Addr → Option Obj) (K : PySem.W.Frag) : AlX := (X.ck K && (X.tb K).all fun a => isTab (g a), X.fn K, X.en K)
def SpecX.obsB (X : SpecX) (n : Nat) (g : Addr → Option Obj) : AlX := reachB g n 0 [mainGlobals, cStatics] [] [] (X.bod g)
theorem bod_says {X : SpecX} {w : World} {s : Shared} {K : PySem.W.Frag} (hK : Sound s.heap.get? K) (e : X.bod s.heap.get? K = ((true, X.fe, X.ee w.params) : AlX)) : SaysX X w s.heap K := by
  unfold SpecX.bod at e
  simp only [Prod.mk.injEq, Bool.and_eq_true] at e
  obtain ⟨⟨e1, e2⟩, e3, e4⟩ := e
  exact ⟨inB hK, e1, e3, e4, fun a ha => isTab_ok (List.all_eq_true.mp e2 a ha)⟩
theorem sound_nil {g : Addr → Option Obj} : Sound g [] := fun _ h => nomatch h
theorem SaysX.keeps {X : SpecX} {w : World} {h h' : Heap} {K : PySem.W.Frag} (s : SaysX X w h K) (k : ∀ a o, h.get? a = some o → h'.get? a = some o) : SaysX X w h' K := ⟨PySem.W.Frag.In.keeps s.kin k, s.ck, s.fn, s.en, fun a ha => k _ _ (s.tb a ha)⟩
def hookB (X : SpecX) (n : Nat) : PySem.W.Hook where
  α := AlX
  obs := fun s => X.obsB n s.heap.get?
  val := fun w => X.val w.params
  says := fun w h => ∃ K : PySem.W.Frag, SaysX X w h K
  of := fun w s e => by
    obtain ⟨K, hK, ek⟩ := reachB_ok (g := s.heap.get?) n 0 [mainGlobals, cStatics] [] [] sound_nil sound_nil
    have e' : reachB s.heap.get? n 0 [mainGlobals, cStatics] [] [] (X.bod s.heap.get?) = ((true, X.fe, X.ee w.params) : AlX) := e
    rw [ek] at e'
    exact ⟨K, bod_says hK e'⟩
  keeps := fun _ _ _ ⟨K, s⟩ k => ⟨K, s.keeps k⟩
/-- two parts of the checks, each looked at by a run of its own -/
def hook2 (X Y : SpecX) (n : Nat) : PySem.W.Hook where
  α := AlX × AlX
  obs := fun s => (X.obsB n s.heap.get?, Y.obsB n s.heap.get?)
  val := fun w => (X.val w.params, Y.val w.params)
  says := fun w h => ∃ K : PySem.W.Frag, SaysX X w h K ∧ SaysX Y w h K
  of := fun w s e => by
    obtain ⟨K, hK, ek⟩ := reachB_ok (g := s.heap.get?) n 0 [mainGlobals, cStatics] [] [] sound_nil sound_nil
    have e' : ((reachB s.heap.get? n 0 [mainGlobals, cStatics] [] [] (X.bod s.heap.get?), reachB s.heap.get? n 0 [mainGlobals, cStatics] [] [] (Y.bod s.heap.get?)) : AlX × AlX) = ((true, X.fe, X.ee w.params), (true, Y.fe, Y.ee w.params)) := e
    rw [ek, ek] at e'
    have e1 := congrArg Prod.fst e'
    have e2 := congrArg Prod.snd e'
    exact ⟨K, bod_says hK e1, bod_says hK e2⟩
  keeps := fun _ _ _ ⟨K, s, t⟩ k => ⟨K, s.keeps k, t.keeps k⟩
theorem obs2_eq {X Y : SpecX} {n : Nat} {g : Addr → Option Obj} {s : Shared} (h : ∀ a, g a = s.heap.get? a) : ((X.obsB n g, Y.obsB n g) : AlX × AlX) = (hook2 X Y n).obs s := by
  have e : g = s.heap.get? := funext h
  rw [e] <;> rfl
theorem run2 {r : PySem.W.OpenRow} {q : Program} {X Y : SpecX} {n M : Nat} {ob1 ob2 : PySem.W.SharedT → AlX} {loose : List Str} {w : World} (h1 : HandSHeadRun.RunEq r q (hookB X n) ob1 M loose w) (h2 : HandSHeadRun.RunEq r q (hookB Y n) ob2 M loose w) :
    HandSHeadRun.RunEq r q (hook2 X Y n) (fun s => (ob1 s, ob2 s)) M loose w := fun os => by
  have a := h1 os
  have b := h2 os
  generalize HandSHeadRun.endF (HandSHeadRun.stepQ (HandSHeadRun.denQ HandSHeadRun.tabQ) r.prog w) M r.prog w os = e at a b ⊢
  cases e with
  | none => cases a
  | some s =>
    have a := Option.some.inj a
    have b := Option.some.inj b
    have a1 := congrArg Prod.fst a
    have a2 := congrArg (fun z => z.2.1) a
    have a3 := congrArg (fun z => z.2.2) a
    have b3 := congrArg (fun z => z.2.2) b
    exact congrArg some (Prod.ext a1 (Prod.ext a2 (Prod.ext a3 b3)))
end CM
namespace W_whilemerged_k78_texts_of_histories_spoil
open PySem PySem.Spec PyProof.Rows L2 CM
def top (i : Nat) : Stmt := PySem.Challenge.pw_whilemerged_k78_texts_of_histories_spoil.main.body.getD i (.Pass ⟨0, 0, 0, 0⟩)
abbrev s__law_begun : Stmt := top 24
abbrev s__law_is_cell : Stmt := top 28
abbrev s__law_is_text_deed : Stmt := top 34
abbrev s__law_part : Stmt := top 37
abbrev s__law_read_line : Stmt := top 38
abbrev s__law_read : Stmt := top 39
abbrev s__law_mixed : Stmt := top 25
abbrev s__law_take : Stmt := top 26
abbrev s__law_pick : Stmt := top 27
abbrev s__law_text_number : Stmt := top 32
abbrev s__law_text_deed : Stmt := top 33
abbrev s__law_bent_text : Stmt := top 36
abbrev s__law_refusal : Stmt := top 30
abbrev s__law_is : Stmt := top 31
abbrev s__law_deed_line : Stmt := top 35
abbrev s_is_deed : Stmt := top 13
abbrev s_is_kind : Stmt := top 10
abbrev s_kinds_right : Stmt := top 18
abbrev s_is_plain : Stmt := top 17
abbrev s_history_text : Stmt := top 19
abbrev s_lines_of : Stmt := top 16
abbrev s_part_of : Stmt := top 20
abbrev s_deed_of : Stmt := top 21
abbrev s_read_history : Stmt := top 22
abbrev s_law : Stmt := top 40
abbrev s__law_caught : Stmt := top 29
abbrev s_BadDeed_init : Stmt := inClass (top 3) 0
abbrev s_BadText_init : Stmt := inClass (top 7) 0
def v_C0 (K : PySem.W.Frag) : Addr := ga K "MergeError"
def v_C1 (K : PySem.W.Frag) : Addr := ga K "BadDeed"
def v_C2 (K : PySem.W.Frag) : Addr := ga K "BadNumber"
def v_C3 (K : PySem.W.Frag) : Addr := ga K "BadBook"
def v_C4 (K : PySem.W.Frag) : Addr := ga K "BadPlan"
def v_C5 (K : PySem.W.Frag) : Addr := ga K "BadChain"
def v_C6 (K : PySem.W.Frag) : Addr := ga K "BadText"
def v_f0 (K : PySem.W.Frag) : Addr := ga K "_law_begun"
def v_cd0 (K : PySem.W.Frag) : Value := (fdD K (v_f0 K)).code
def v_f1 (K : PySem.W.Frag) : Addr := ga K "_law_is_cell"
def v_cd1 (K : PySem.W.Frag) : Value := (fdD K (v_f1 K)).code
def v_f2 (K : PySem.W.Frag) : Addr := ga K "_law_is_text_deed"
def v_cd2 (K : PySem.W.Frag) : Value := (fdD K (v_f2 K)).code
def v_f3 (K : PySem.W.Frag) : Addr := ga K "_law_part"
def v_cd3 (K : PySem.W.Frag) : Value := (fdD K (v_f3 K)).code
def v_f4 (K : PySem.W.Frag) : Addr := ga K "_law_read_line"
def v_cd4 (K : PySem.W.Frag) : Value := (fdD K (v_f4 K)).code
def v_f5 (K : PySem.W.Frag) : Addr := ga K "_law_read"
def v_cd5 (K : PySem.W.Frag) : Value := (fdD K (v_f5 K)).code
def v_f6 (K : PySem.W.Frag) : Addr := ga K "_law_mixed"
def v_cd6 (K : PySem.W.Frag) : Value := (fdD K (v_f6 K)).code
def v_f7 (K : PySem.W.Frag) : Addr := ga K "_law_take"
def v_cd7 (K : PySem.W.Frag) : Value := (fdD K (v_f7 K)).code
def v_f8 (K : PySem.W.Frag) : Addr := ga K "_law_pick"
def v_cd8 (K : PySem.W.Frag) : Value := (fdD K (v_f8 K)).code
def v_f9 (K : PySem.W.Frag) : Addr := ga K "_law_text_number"
def v_cd9 (K : PySem.W.Frag) : Value := (fdD K (v_f9 K)).code
def v_f10 (K : PySem.W.Frag) : Addr := ga K "_law_text_deed"
def v_cd10 (K : PySem.W.Frag) : Value := (fdD K (v_f10 K)).code
def v_f11 (K : PySem.W.Frag) : Addr := ga K "_law_bent_text"
def v_cd11 (K : PySem.W.Frag) : Value := (fdD K (v_f11 K)).code
def v_f12 (K : PySem.W.Frag) : Addr := ga K "_law_refusal"
def v_cd12 (K : PySem.W.Frag) : Value := (fdD K (v_f12 K)).code
def v_f13 (K : PySem.W.Frag) : Addr := ga K "_law_is"
def v_cd13 (K : PySem.W.Frag) : Value := (fdD K (v_f13 K)).code
def v_f14 (K : PySem.W.Frag) : Addr := ga K "_law_deed_line"
def v_cd14 (K : PySem.W.Frag) : Value := (fdD K (v_f14 K)).code
def v_f15 (K : PySem.W.Frag) : Addr := ga K "is_deed"
def v_cd15 (K : PySem.W.Frag) : Value := (fdD K (v_f15 K)).code
def v_f16 (K : PySem.W.Frag) : Addr := ga K "is_kind"
def v_cd16 (K : PySem.W.Frag) : Value := (fdD K (v_f16 K)).code
def v_f17 (K : PySem.W.Frag) : Addr := ga K "kinds_right"
def v_cd17 (K : PySem.W.Frag) : Value := (fdD K (v_f17 K)).code
def v_f18 (K : PySem.W.Frag) : Addr := ga K "is_plain"
def v_cd18 (K : PySem.W.Frag) : Value := (fdD K (v_f18 K)).code
def v_f19 (K : PySem.W.Frag) : Addr := ga K "history_text"
def v_cd19 (K : PySem.W.Frag) : Value := (fdD K (v_f19 K)).code
def v_f20 (K : PySem.W.Frag) : Addr := ga K "lines_of"
def v_cd20 (K : PySem.W.Frag) : Value := (fdD K (v_f20 K)).code
def v_f21 (K : PySem.W.Frag) : Addr := ga K "part_of"
def v_cd21 (K : PySem.W.Frag) : Value := (fdD K (v_f21 K)).code
def v_f22 (K : PySem.W.Frag) : Addr := ga K "deed_of"
def v_cd22 (K : PySem.W.Frag) : Value := (fdD K (v_f22 K)).code
def v_f23 (K : PySem.W.Frag) : Addr := ga K "read_history"
def v_cd23 (K : PySem.W.Frag) : Value := (fdD K (v_f23 K)).code
def v_f24 (K : PySem.W.Frag) : Addr := ga K "law"
def v_ca24 (K : PySem.W.Frag) : Addr := refA (fdD K (v_f24 K)).code
def v_vs24 (K : PySem.W.Frag) : Array Value := fldD K (v_ca24 K)
def v_P24 (K : PySem.W.Frag) : Addr := refA ((fldD K (v_ca24 K)).getD 11 .none)
def v_p_KINDS (K : PySem.W.Frag) : Addr := ga K "KINDS"
def v_t_KINDS0 (K : PySem.W.Frag) : Tok := tkV ((seqD K (v_p_KINDS K)).getD 0 .none)
def v_t_KINDS1 (K : PySem.W.Frag) : Tok := tkV ((seqD K (v_p_KINDS K)).getD 1 .none)
def v_t_MOST (K : PySem.W.Frag) : Tok := tkV (nsV K mainGlobals "MOST")
def v_kp_PARTS (K : PySem.W.Frag) : Addr := ga K "PARTS"
def v_fg0 (K : PySem.W.Frag) : Addr := ga K "_law_caught"
def v_cdg0 (K : PySem.W.Frag) : Value := (fdD K (v_fg0 K)).code
def v_xf1 (K : PySem.W.Frag) : Addr := ma K (v_C1 K) "__init__"
def v_xa1 (K : PySem.W.Frag) : Addr := refA (fdD K (v_xf1 K)).code
def v_xc1 (K : PySem.W.Frag) : Addr := ((fdD K (v_xf1 K)).closure.headD ("", 0)).2
def v_xvs1 (K : PySem.W.Frag) : Array Value := fldD K (v_xa1 K)
def v_xfile1 (K : PySem.W.Frag) : Str := strV ((fldD K (v_xa1 K)).getD 2 .none)
def v_xtf1 (K : PySem.W.Frag) : Tok := tkV ((fldD K (v_xa1 K)).getD 2 .none)
def v_xf6 (K : PySem.W.Frag) : Addr := ma K (v_C6 K) "__init__"
def v_xa6 (K : PySem.W.Frag) : Addr := refA (fdD K (v_xf6 K)).code
def v_xc6 (K : PySem.W.Frag) : Addr := ((fdD K (v_xf6 K)).closure.headD ("", 0)).2
def v_xvs6 (K : PySem.W.Frag) : Array Value := fldD K (v_xa6 K)
def v_xfile6 (K : PySem.W.Frag) : Str := strV ((fldD K (v_xa6 K)).getD 2 .none)
def v_xtf6 (K : PySem.W.Frag) : Tok := tkV ((fldD K (v_xa6 K)).getD 2 .none)
def ck0 (K : PySem.W.Frag) : List Bool := [decide (PySem.W.nsIn K mainGlobals "MergeError" = some (some (.ref (v_C0 K)))), decide (PySem.W.nsIn K mainGlobals "BadDeed" = some (some (.ref (v_C1 K)))), decide (PySem.W.nsIn K mainGlobals "BadNumber" = some (some (.ref (v_C2 K)))), decide (PySem.W.nsIn K mainGlobals "BadBook" = some (some (.ref (v_C3 K)))), decide (PySem.W.nsIn K mainGlobals "BadPlan" = some (some (.ref (v_C4 K)))), decide (PySem.W.nsIn K mainGlobals "BadChain" = some (some (.ref (v_C5 K)))), decide (PySem.W.nsIn K mainGlobals "BadText" = some (some (.ref (v_C6 K)))), decide (PySem.W.nsIn K mainGlobals "_law_begun" = some (some (.ref (v_f0 K)))), (PySem.W.codeIn K (v_cd0 K) "_law_begun" : Bool), (PySem.W.keepIn K (.ref (v_f0 K)) : Bool), decide (PySem.W.nsIn K mainGlobals "_law_is_cell" = some (some (.ref (v_f1 K)))), (PySem.W.codeIn K (v_cd1 K) "_law_is_cell" : Bool), (PySem.W.keepIn K (.ref (v_f1 K)) : Bool), decide (PySem.W.nsIn K mainGlobals "_law_is_text_deed" = some (some (.ref (v_f2 K)))), (PySem.W.codeIn K (v_cd2 K) "_law_is_text_deed" : Bool), (PySem.W.keepIn K (.ref (v_f2 K)) : Bool)]
def ck1 (K : PySem.W.Frag) : List Bool := [decide (PySem.W.nsIn K mainGlobals "_law_part" = some (some (.ref (v_f3 K)))), (PySem.W.codeIn K (v_cd3 K) "_law_part" : Bool), (PySem.W.keepIn K (.ref (v_f3 K)) : Bool), decide (PySem.W.nsIn K mainGlobals "_law_read_line" = some (some (.ref (v_f4 K)))), (PySem.W.codeIn K (v_cd4 K) "_law_read_line" : Bool), (PySem.W.keepIn K (.ref (v_f4 K)) : Bool), decide (PySem.W.nsIn K mainGlobals "_law_read" = some (some (.ref (v_f5 K)))), (PySem.W.codeIn K (v_cd5 K) "_law_read" : Bool), (PySem.W.keepIn K (.ref (v_f5 K)) : Bool), decide (PySem.W.nsIn K mainGlobals "_law_mixed" = some (some (.ref (v_f6 K)))), (PySem.W.codeIn K (v_cd6 K) "_law_mixed" : Bool), (PySem.W.keepIn K (.ref (v_f6 K)) : Bool), decide (PySem.W.nsIn K mainGlobals "_law_take" = some (some (.ref (v_f7 K)))), (PySem.W.codeIn K (v_cd7 K) "_law_take" : Bool), (PySem.W.keepIn K (.ref (v_f7 K)) : Bool), decide (PySem.W.nsIn K mainGlobals "_law_pick" = some (some (.ref (v_f8 K))))]
def ck2 (K : PySem.W.Frag) : List Bool := [(PySem.W.codeIn K (v_cd8 K) "_law_pick" : Bool), (PySem.W.keepIn K (.ref (v_f8 K)) : Bool), decide (PySem.W.nsIn K mainGlobals "_law_text_number" = some (some (.ref (v_f9 K)))), (PySem.W.codeIn K (v_cd9 K) "_law_text_number" : Bool), (PySem.W.keepIn K (.ref (v_f9 K)) : Bool), decide (PySem.W.nsIn K mainGlobals "_law_text_deed" = some (some (.ref (v_f10 K)))), (PySem.W.codeIn K (v_cd10 K) "_law_text_deed" : Bool), (PySem.W.keepIn K (.ref (v_f10 K)) : Bool), decide (PySem.W.nsIn K mainGlobals "_law_bent_text" = some (some (.ref (v_f11 K)))), (PySem.W.codeIn K (v_cd11 K) "_law_bent_text" : Bool), (PySem.W.keepIn K (.ref (v_f11 K)) : Bool), decide (PySem.W.nsIn K mainGlobals "_law_refusal" = some (some (.ref (v_f12 K)))), (PySem.W.codeIn K (v_cd12 K) "_law_refusal" : Bool), (PySem.W.keepIn K (.ref (v_f12 K)) : Bool), decide (PySem.W.nsIn K mainGlobals "_law_is" = some (some (.ref (v_f13 K)))), (PySem.W.codeIn K (v_cd13 K) "_law_is" : Bool)]
def ck3 (K : PySem.W.Frag) : List Bool := [(PySem.W.keepIn K (.ref (v_f13 K)) : Bool), decide (PySem.W.nsIn K mainGlobals "_law_deed_line" = some (some (.ref (v_f14 K)))), (PySem.W.codeIn K (v_cd14 K) "_law_deed_line" : Bool), (PySem.W.keepIn K (.ref (v_f14 K)) : Bool), decide (PySem.W.nsIn K mainGlobals "is_deed" = some (some (.ref (v_f15 K)))), (PySem.W.codeIn K (v_cd15 K) "is_deed" : Bool), (PySem.W.keepIn K (.ref (v_f15 K)) : Bool), decide (PySem.W.nsIn K mainGlobals "is_kind" = some (some (.ref (v_f16 K)))), (PySem.W.codeIn K (v_cd16 K) "is_kind" : Bool), (PySem.W.keepIn K (.ref (v_f16 K)) : Bool), decide (PySem.W.nsIn K mainGlobals "kinds_right" = some (some (.ref (v_f17 K)))), (PySem.W.codeIn K (v_cd17 K) "kinds_right" : Bool), (PySem.W.keepIn K (.ref (v_f17 K)) : Bool), decide (PySem.W.nsIn K mainGlobals "is_plain" = some (some (.ref (v_f18 K)))), (PySem.W.codeIn K (v_cd18 K) "is_plain" : Bool), (PySem.W.keepIn K (.ref (v_f18 K)) : Bool)]
def ck4 (K : PySem.W.Frag) : List Bool := [decide (PySem.W.nsIn K mainGlobals "history_text" = some (some (.ref (v_f19 K)))), (PySem.W.codeIn K (v_cd19 K) "history_text" : Bool), (PySem.W.keepIn K (.ref (v_f19 K)) : Bool), decide (PySem.W.nsIn K mainGlobals "lines_of" = some (some (.ref (v_f20 K)))), (PySem.W.codeIn K (v_cd20 K) "lines_of" : Bool), (PySem.W.keepIn K (.ref (v_f20 K)) : Bool), decide (PySem.W.nsIn K mainGlobals "part_of" = some (some (.ref (v_f21 K)))), (PySem.W.codeIn K (v_cd21 K) "part_of" : Bool), (PySem.W.keepIn K (.ref (v_f21 K)) : Bool), decide (PySem.W.nsIn K mainGlobals "deed_of" = some (some (.ref (v_f22 K)))), (PySem.W.codeIn K (v_cd22 K) "deed_of" : Bool), (PySem.W.keepIn K (.ref (v_f22 K)) : Bool), decide (PySem.W.nsIn K mainGlobals "read_history" = some (some (.ref (v_f23 K)))), (PySem.W.codeIn K (v_cd23 K) "read_history" : Bool), (PySem.W.keepIn K (.ref (v_f23 K)) : Bool), decide (PySem.W.nsIn K mainGlobals "law" = some (some (.ref (v_f24 K))))]
def ck5 (K : PySem.W.Frag) : List Bool := [decide ((fdD K (v_f24 K)).code = .ref (v_ca24 K)), (PySem.W.codeIn K (.ref (v_ca24 K)) "law" : Bool), (PySem.W.keepIn K (.ref (v_f24 K)) : Bool), decide (kndD K (v_ca24 K) = 2), decide ((v_vs24 K)[11]? = some (.ref (v_P24 K))), (PySem.W.codeHdIn K (v_ca24 K) (v_P24 K) : Bool), (K.lookup (v_P24 K)).isNone, decide (PySem.W.nsIn K mainGlobals "KINDS" = some (some (.ref (v_p_KINDS K)))), decide (kndD K (v_p_KINDS K) = 3), decide ((objD K (v_p_KINDS K)).cls = .type "tuple"), decide ((seqD K (v_p_KINDS K)).toList = [.str "down" (v_t_KINDS0 K), .str "up" (v_t_KINDS1 K)]), decide (PySem.W.nsIn K mainGlobals "MOST" = some (some (.int 1000000000 (v_t_MOST K)))), decide (PySem.W.nsIn K mainGlobals "super" = some none), decide (PySem.W.nsIn K mainGlobals "abs" = some none), decide (PySem.W.nsIn K mainGlobals "int" = some none), decide (PySem.W.nsIn K mainGlobals "isinstance" = some none)]
def ck6 (K : PySem.W.Frag) : List Bool := [decide (PySem.W.nsIn K mainGlobals "bool" = some none), decide (PySem.W.nsIn K mainGlobals "tuple" = some none), decide (PySem.W.nsIn K mainGlobals "str" = some none), decide (PySem.W.nsIn K mainGlobals "len" = some none), decide (PySem.W.nsIn K mainGlobals "list" = some none), decide (PySem.W.nsIn K mainGlobals "enumerate" = some none), decide (PySem.W.nsIn K mainGlobals "range" = some none), decide (PySem.W.nsIn K mainGlobals "ValueError" = some none), decide (PySem.W.nsIn K mainGlobals "repr" = some none), decide (PySem.W.nsIn K mainGlobals "all" = some none), decide (PySem.W.nsIn K mainGlobals "min" = some none), decide (PySem.W.nsIn K mainGlobals "PARTS" = some (some (.ref (v_kp_PARTS K)))), decide (kndD K (v_kp_PARTS K) = 4), decide ((objD K (v_kp_PARTS K)).cls = .type "dict"), decide ((objD K (v_kp_PARTS K)).dict = none), decide ((objD K (v_kp_PARTS K)).slots.size = 0)]
def ck7 (K : PySem.W.Frag) : List Bool := [(dicD K (v_kp_PARTS K)).toList.all entB, decide (((v_kp_PARTS K) == sysModules) = false), ((([((v_P24 K), ("law" : Str) ++ (".<locals>." : Str) ++ ("<lambda>" : Str))] : List (Addr × Str)).all fun p => decide (p.1 = (v_P24 K) → p.2 = ("law" : Str) ++ (".<locals>." : Str) ++ ("<lambda>" : Str))) : Bool), decide (PySem.W.nsIn K mainGlobals "_law_caught" = some (some (.ref (v_fg0 K)))), (PySem.W.codeIn K (v_cdg0 K) "_law_caught" : Bool), (PySem.W.keepIn K (.ref (v_fg0 K)) : Bool), decide (PySem.W.exmOne K (.ref (v_C0 K)) (.ref (v_C0 K)) = some true), decide (PySem.W.exmOne K (.ref (v_C1 K)) (.ref (v_C0 K)) = some true), decide (PySem.W.exmOne K (.ref (v_C2 K)) (.ref (v_C0 K)) = some true), decide (PySem.W.exmOne K (.ref (v_C3 K)) (.ref (v_C0 K)) = some true), decide (PySem.W.exmOne K (.ref (v_C4 K)) (.ref (v_C0 K)) = some true), decide (PySem.W.exmOne K (.ref (v_C5 K)) (.ref (v_C0 K)) = some true), decide (PySem.W.exmOne K (.ref (v_C6 K)) (.ref (v_C0 K)) = some true), (excB K (v_C0 K) : Bool), (excB K (v_C1 K) : Bool), (excB K (v_C2 K) : Bool)]
def ck8 (K : PySem.W.Frag) : List Bool := [(excB K (v_C3 K) : Bool), (excB K (v_C4 K) : Bool), (excB K (v_C5 K) : Bool), (excB K (v_C6 K) : Bool), (([3].all fun c => decide (PySem.W.findIn K (.ref ((⟨fun n => [(v_C0 K), (v_C1 K), (v_C2 K), (v_C3 K), (v_C4 K), (v_C5 K), (v_C6 K)].getD n 0, [((v_P24 K), ("law" : Str) ++ (".<locals>." : Str) ++ ("<lambda>" : Str))]⟩ : CAs) c)) "field" = some none)) : Bool), (([2].all fun c => decide (PySem.W.findIn K (.ref ((⟨fun n => [(v_C0 K), (v_C1 K), (v_C2 K), (v_C3 K), (v_C4 K), (v_C5 K), (v_C6 K)].getD n 0, [((v_P24 K), ("law" : Str) ++ (".<locals>." : Str) ++ ("<lambda>" : Str))]⟩ : CAs) c)) "number" = some none)) : Bool), (([1].all fun c => decide (PySem.W.findIn K (.ref ((⟨fun n => [(v_C0 K), (v_C1 K), (v_C2 K), (v_C3 K), (v_C4 K), (v_C5 K), (v_C6 K)].getD n 0, [((v_P24 K), ("law" : Str) ++ (".<locals>." : Str) ++ ("<lambda>" : Str))]⟩ : CAs) c)) "at" = some none)) : Bool), (([6].all fun c => decide (PySem.W.findIn K (.ref ((⟨fun n => [(v_C0 K), (v_C1 K), (v_C2 K), (v_C3 K), (v_C4 K), (v_C5 K), (v_C6 K)].getD n 0, [((v_P24 K), ("law" : Str) ++ (".<locals>." : Str) ++ ("<lambda>" : Str))]⟩ : CAs) c)) "line" = some none)) : Bool), (iniB K (v_C1 K) "at" : Bool), decide (PySem.W.findIn K (.ref (v_C1 K)) "__init__" = some (some (.ref (v_xf1 K)))), decide ((fdD K (v_xf1 K)).code = .ref (v_xa1 K)), decide (PySem.W.typeIn K (.ref (v_xf1 K)) = some (.type "function")), (PySem.W.codeIn K (.ref (v_xa1 K)) "BadDeed.__init__" : Bool), decide (kndD K (v_xa1 K) = 2), decide ((v_xvs1 K)[2]? = some (.str (v_xfile1 K) (v_xtf1 K))), (((PySem.Challenge.rw_whilemerged_k78_texts_of_histories_spoil.prog.main.file : Str) == (v_xfile1 K)) : Bool)]
def ck9 (K : PySem.W.Frag) : List Bool := [decide (kndD K (v_xc1 K) = 5), decide (celD K (v_xc1 K) = some (.ref (v_C1 K))), (iniB K (v_C6 K) "line" : Bool), decide (PySem.W.findIn K (.ref (v_C6 K)) "__init__" = some (some (.ref (v_xf6 K)))), decide ((fdD K (v_xf6 K)).code = .ref (v_xa6 K)), decide (PySem.W.typeIn K (.ref (v_xf6 K)) = some (.type "function")), (PySem.W.codeIn K (.ref (v_xa6 K)) "BadText.__init__" : Bool), decide (kndD K (v_xa6 K) = 2), decide ((v_xvs6 K)[2]? = some (.str (v_xfile6 K) (v_xtf6 K))), (((PySem.Challenge.rw_whilemerged_k78_texts_of_histories_spoil.prog.main.file : Str) == (v_xfile6 K)) : Bool), decide (kndD K (v_xc6 K) = 5), decide (celD K (v_xc6 K) = some (.ref (v_C6 K))), (ktChk K (⟨fun n => [(v_C0 K), (v_C1 K), (v_C2 K), (v_C3 K), (v_C4 K), (v_C5 K), (v_C6 K)].getD n 0, [((v_P24 K), ("law" : Str) ++ (".<locals>." : Str) ++ ("<lambda>" : Str))]⟩ : CAs) [[.o 0, .b "ValueError"], [.o 1, .o 0, .b "ValueError"], [.o 2, .o 0, .b "ValueError"], [.o 3, .o 0, .b "ValueError"], [.o 4, .o 0, .b "ValueError"], [.o 5, .o 0, .b "ValueError"], [.o 6, .o 0, .b "ValueError"]] ("ValueError" :: tys) : Bool)]
def fo0 (K : PySem.W.Frag) : List FnV := [fnO K (v_f0 K), fnO K (v_f1 K), fnO K (v_f2 K), fnO K (v_f3 K), fnO K (v_f4 K), fnO K (v_f5 K), fnO K (v_f6 K), fnO K (v_f7 K), fnO K (v_f8 K), fnO K (v_f9 K), fnO K (v_f10 K), fnO K (v_f11 K), fnO K (v_f12 K), fnO K (v_f13 K), fnO K (v_f14 K), fnO K (v_f15 K)]
def fe0 : List FnV := [fnE "_law_begun" "_law_begun" s__law_begun, fnE "_law_is_cell" "_law_is_cell" s__law_is_cell, fnE "_law_is_text_deed" "_law_is_text_deed" s__law_is_text_deed, fnE "_law_part" "_law_part" s__law_part, fnE "_law_read_line" "_law_read_line" s__law_read_line, fnE "_law_read" "_law_read" s__law_read, fnE "_law_mixed" "_law_mixed" s__law_mixed, fnE "_law_take" "_law_take" s__law_take, fnE "_law_pick" "_law_pick" s__law_pick, fnE "_law_text_number" "_law_text_number" s__law_text_number, fnE "_law_text_deed" "_law_text_deed" s__law_text_deed, fnE "_law_bent_text" "_law_bent_text" s__law_bent_text, fnE "_law_refusal" "_law_refusal" s__law_refusal, fnE "_law_is" "_law_is" s__law_is, fnE "_law_deed_line" "_law_deed_line" s__law_deed_line, fnE "is_deed" "is_deed" s_is_deed]
def fo1 (K : PySem.W.Frag) : List FnV := [fnO K (v_f16 K), fnO K (v_f17 K), fnO K (v_f18 K), fnO K (v_f19 K), fnO K (v_f20 K), fnO K (v_f21 K), fnO K (v_f22 K), fnO K (v_f23 K), fnO K (v_f24 K), fnO K (v_fg0 K), fnO K (v_xf1 K), fnO K (v_xf6 K)]
def fe1 : List FnV := [fnE "is_kind" "is_kind" s_is_kind, fnE "kinds_right" "kinds_right" s_kinds_right, fnE "is_plain" "is_plain" s_is_plain, fnE "history_text" "history_text" s_history_text, fnE "lines_of" "lines_of" s_lines_of, fnE "part_of" "part_of" s_part_of, fnE "deed_of" "deed_of" s_deed_of, fnE "read_history" "read_history" s_read_history, fnE "law" "law" s_law, fnE "_law_caught" "_law_caught" s__law_caught, fnX' "__init__" "BadDeed.__init__" s_BadDeed_init, fnX' "__init__" "BadText.__init__" s_BadText_init]
def specA : SpecX where
  ck := fun K => [(ck0 K).all id, (ck1 K).all id, (ck2 K).all id, (ck3 K).all id, (ck4 K).all id].all id
  fn := fun K => fo0 K ++ (fo1 K)
  fe := fe0 ++ (fe1)
  en := fun K => (dicD K (v_kp_PARTS K)).toList.map entV
  ee := fun P => entE P [("write", 4), ("cover", 2), ("branch", 2), ("begin", 3), ("step", 2), ("stop", 1)]
  tb := fun K => []
def specB : SpecX where
  ck := fun K => [(ck5 K).all id, (ck6 K).all id, (ck7 K).all id, (ck8 K).all id, (ck9 K).all id].all id
  fn := fun K => []
  fe := []
  en := fun K => []
  ee := fun P => []
  tb := fun K => [(v_P24 K)]
def nm0 : List PySem.Str := ["MergeError", "BadBook", "BadDeed", "BadNumber", "BadChain", "BadPlan", "BadText", "KINDS", "is_kind", "PARTS"]
def nm1 : List PySem.Str := ["is_deed", "MOST", "lines_of", "is_plain", "kinds_right", "history_text", "part_of", "deed_of", "read_history", "_law_begun"]
def nm2 : List PySem.Str := ["_law_mixed", "_law_take", "_law_pick", "_law_is_cell", "_law_caught", "_law_refusal", "_law_is", "_law_text_number", "_law_text_deed", "_law_is_text_deed"]
def nm3 : List PySem.Str := ["_law_deed_line", "_law_bent_text", "_law_part", "_law_read_line", "_law_read"]
def names : List PySem.Str := nm0 ++ nm1 ++ nm2 ++ nm3
abbrev RW : PySem.W.OpenRow := PySem.W.OpenLaw.row PySem.Challenge.rw_whilemerged_k78_texts_of_histories_spoil
abbrev qv : Program := PySem.W.view RW.prog [40]
abbrev hkX : PySem.W.Hook := hook2 specA specB 20000
def obA (s : PySem.W.SharedT) : AlX := specA.obsB 20000 (HandSHeadRun.getT s)
def obB (s : PySem.W.SharedT) : AlX := specB.obsB 20000 (HandSHeadRun.getT s)
def ob (s : PySem.W.SharedT) : AlX × AlX := (obA s, obB s)
theorem ob_eq (s : PySem.W.SharedT) : ob s = hkX.obs s.abs := obs2_eq (HandSHeadRun.getT_eq s)
set_option maxHeartbeats 0 in
theorem runA_false (w : World) : HandSHeadRun.RunEq RW qv (hookB specA 20000) obA 20000 names (w.withFollow "special-get-raises" false) := by intro os; kernel_rfl
set_option maxHeartbeats 0 in
theorem runA_true (w : World) : HandSHeadRun.RunEq RW qv (hookB specA 20000) obA 20000 names (w.withFollow "special-get-raises" true) := by intro os; kernel_rfl
set_option maxHeartbeats 0 in
theorem runB_false (w : World) : HandSHeadRun.RunEq RW qv (hookB specB 20000) obB 20000 names (w.withFollow "special-get-raises" false) := by intro os; kernel_rfl
set_option maxHeartbeats 0 in
theorem runB_true (w : World) : HandSHeadRun.RunEq RW qv (hookB specB 20000) obB 20000 names (w.withFollow "special-get-raises" true) := by intro os; kernel_rfl
theorem run (w : World) : HandSHeadRun.RunEq RW qv hkX ob 20000 names w := PySem.W.byRow2 "special-get-raises" (P := fun w => HandSHeadRun.RunEq RW qv hkX ob 20000 names w) (fun w => run2 (runA_false w) (runB_false w)) (fun w => run2 (runA_true w) (runB_true w)) w
end W_whilemerged_k78_texts_of_histories_spoil
namespace CM
open PySem PySem.Spec PyProof.Rows L2
section
variable {α β : Type} {a : α} {h : CH} {c : Nat} {fs : List (Str × D)} {f : α → CH → R β} {g : α → CH → RS} {ρ : DE} {w : SD} {d : D}
@[simp] theorem bind_ok : (R.ok a h).bind f = f a h := rfl
@[simp] theorem bind_ex : (R.ex c fs h : R α).bind f = .ex c fs h := rfl
@[simp] theorem bind_no : (R.no : R α).bind f = .no := rfl
@[simp] theorem calm_ok : (R.ok a h).calm f = f a h := rfl
@[simp] theorem calm_no : (R.no : R α).calm f = .no := rfl
@[simp] theorem toS_ok : (R.ok a h).toS ρ g = g a h := rfl
@[simp] theorem toS_ex : (R.ex c fs h : R α).toS ρ g = .ex ρ c fs h := rfl
@[simp] theorem toS_no : (R.no : R α).toS ρ g = .no := rfl
@[simp] theorem sbind_nx : (RS.nx ρ h).bind w = w ρ h := rfl
@[simp] theorem sbind_rt : (RS.rt d h).bind w = .rt d h := rfl
@[simp] theorem sbind_bk : (RS.bk ρ h).bind w = .bk ρ h := rfl
@[simp] theorem sbind_ct : (RS.ct ρ h).bind w = .ct ρ h := rfl
@[simp] theorem sbind_ex : (RS.ex ρ c fs h).bind w = .ex ρ c fs h := rfl
@[simp] theorem sbind_no : (RS.no).bind w = .no := rfl
@[simp] theorem res_nx : (RS.nx ρ h).res = .ok .non h := rfl
@[simp] theorem res_rt : (RS.rt d h).res = .ok d h := rfl
@[simp] theorem res_ex : (RS.ex ρ c fs h).res = .ex c fs h := rfl
@[simp] theorem put_ok {ρ : DE} {k : SD} : (R.ok ρ h).put k = k ρ h := rfl
@[simp] theorem unl_nx : (RS.nx ρ h).unl none = .nx ρ h := rfl
@[simp] theorem unl_none {r : RS} : r.unl none = r := by cases r <;> rfl
@[simp] theorem runl_none {r : R α} : r.unl none = r := by cases r <;> rfl
end
section
variable {ta tb tc : TD} {ts : TDs} {t u : TB} {ρ : DE} {h : CH} {d : D} {f : F2} {f1 : F1} {F : FD} {FMm : FM} {n i : Nat} {nm : Bool} {T : String}
@[simp] theorem e_C : dC d ρ h = .ok d h := rfl
@[simp] theorem e_op : dOp f ta tb ρ h = (ta ρ h).bind fun x h => (tb ρ h).bind fun y h => f x y h := rfl
@[simp] theorem e_un : dUn f1 ta ρ h = (ta ρ h).bind f1 := rfl
@[simp] theorem e_nil : dNil ρ h = .ok [] h := rfl
@[simp] theorem e_cons : dCons ta ts ρ h = (ta ρ h).bind fun x h => (ts ρ h).bind fun xs h => .ok (x :: xs) h := rfl
@[simp] theorem e_tup : dTup ts ρ h = (ts ρ h).bind fun xs h => if xs.length ≤ sizeLine then .ok (.tup xs) h else .no := rfl
@[simp] theorem e_lst : dLst nm ts ρ h = (ts ρ h).bind fun xs h => if xs.length ≤ sizeLine then mkL nm xs h else .no := rfl
@[simp] theorem e_B : dB ta ρ h = (ta ρ h).bind asB := rfl
@[simp] theorem e_and : dAnd t u ρ h = (t ρ h).bind fun c h => if c = true then u ρ h else .ok false h := rfl
@[simp] theorem e_or : dOr t u ρ h = (t ρ h).bind fun c h => if c = true then .ok true h else u ρ h := rfl
@[simp] theorem e_not : dNot t ρ h = (t ρ h).bind fun c h => .ok (!c) h := rfl
@[simp] theorem e_andV : dAndV ta tb ρ h = (ta ρ h).bind fun x h => (asB x h).bind fun c h => if c = true then tb ρ h else .ok (.bl false) h := rfl
@[simp] theorem e_orV : dOrV ta tb ρ h = (ta ρ h).bind fun x h => (asB x h).bind fun c h => if c = true then .ok (.bl true) h else tb ρ h := rfl
@[simp] theorem e_notV : dNotV ta ρ h = (ta ρ h).bind fun x h => (asB x h).bind fun c h => .ok (.bl (!c)) h := rfl
@[simp] theorem e_if : dIf t ta tb ρ h = (t ρ h).bind fun c h => if c = true then ta ρ h else tb ρ h := rfl
@[simp] theorem e_CB : dCB F ts ρ h = (ts ρ h).bind F := rfl
@[simp] theorem e_call : dCall n F ts ρ h = (ts ρ h).bind fun ds h => if ds.length = n then F ds h else .no := rfl
@[simp] theorem asB_bl {b : Bool} : asB (.bl b) h = .ok b h := rfl
@[simp] theorem e_var : dVar i ρ h = match ρ[i]? with
  | some (some d) => .ok d h
  | _ => .no := rfl
@[simp] theorem e_BM : dBM T FMm ta ts ρ h = (ta ρ h).bind fun x h => if isTy T x h = true then (ts ρ h).bind fun xs h => FMm x xs h else .no := rfl
@[simp] theorem e_BM0 : dBM0 T FMm ta ρ h = (ta ρ h).bind fun x h => if isTy T x h = true then FMm x [] h else .no := rfl
end
section
variable {ta : TD} {tg : TGD} {tgs : TGDs} {u w : SD} {ρ : DE} {h : CH} {t : TB} {ts : TDs} {i j : Nat} {d : D} {ds : List D} {N : Nat} {ti : TDw}
@[simp] theorem s_next : dNext ρ h = .nx ρ h := rfl
@[simp] theorem s_seq : dSeq u w ρ h = (u ρ h).bind w := rfl
@[simp] theorem s_if : dIfS t u w ρ h = (t ρ h).toS ρ fun b h => if b = true then u ρ h else w ρ h := rfl
@[simp] theorem s_ret : dRet ta ρ h = (ta ρ h).toS ρ fun d h => .rt d h := rfl
@[simp] theorem s_drop : dDrop ta ρ h = (ta ρ h).toS ρ fun _ h => .nx ρ h := rfl
@[simp] theorem s_asg : dAsg ta tg ρ h = (ta ρ h).toS ρ fun d h => (tg d ρ h).put fun ρ h => .nx ρ h := rfl
@[simp] theorem s_par : dPar i j ts ρ h = (ts ρ h).toS ρ fun ds h => match ds with
  | [x, y] => .nx ((ρ.set i (some x)).set j (some y)) h
  | _ => .no := rfl
@[simp] theorem g_name : gdName i d ρ h = .ok (ρ.set i (some d)) h := rfl
@[simp] theorem s_for : dFor ti tg u ρ h = (ti ρ h).toS ρ fun w h => (dForL tg u w.1 ρ h).unl w.2 := rfl
@[simp] theorem e_seqI : dSeqI ta ρ h = (ta ρ h).bind fun d h => match itemsD h d with
  | some ds => .ok (ds, none) h
  | none => lockD d h := rfl
end
def Fr (S : List Nat) (h h' : CH) : Prop := h.nx ≤ h'.nx ∧ ∀ k, k < h.nx → k ∉ S → h'.ob k = h.ob k
theorem Fr.refl {S : List Nat} {h : CH} : Fr S h h := ⟨Nat.le_refl _, fun _ _ _ => rfl⟩
theorem Fr.trans {S : List Nat} {h h1 h2 : CH} (a : Fr S h h1) (b : Fr S h1 h2) : Fr S h h2 := ⟨Nat.le_trans a.1 b.1, fun k l n => (b.2 k (Nat.lt_of_lt_of_le l a.1) n).trans (a.2 k l n)⟩
theorem s_wc : ("wide" : Str) ≠ "cells" := by decide +kernel
theorem s_wr : ("wide" : Str) ≠ "rest" := by decide +kernel
theorem s_wt : ("wide" : Str) ≠ "turn" := by decide +kernel
theorem s_cr : ("cells" : Str) ≠ "rest" := by decide +kernel
theorem s_ct : ("cells" : Str) ≠ "turn" := by decide +kernel
theorem s_rt : ("rest" : Str) ≠ "turn" := by decide +kernel
def drKvs (w : Nat) (cs : List Int) (x t : Int) : List (Key × D) := [(.inr "wide", .ref w), (.inr "cells", .lst (cs.map D.int)), (.inr "rest", .int x), (.inr "turn", .int t)]
section
variable {w : Nat} {cs : List Int} {x t z : Int}
theorem dr_wide : dGet (drKvs w cs x t) (.inr "wide") = some (.ref w) := by simp [dGet, drKvs]
theorem dr_cells : dGet (drKvs w cs x t) (.inr "cells") = some (.lst (cs.map D.int)) := by simp [dGet, drKvs, s_wc]
theorem dr_rest : dGet (drKvs w cs x t) (.inr "rest") = some (.int x) := by simp [dGet, drKvs, s_wr, s_cr]
theorem dr_turn : dGet (drKvs w cs x t) (.inr "turn") = some (.int t) := by simp [dGet, drKvs, s_wt, s_ct, s_rt]
theorem dr_putR : dPut (drKvs w cs x t) (.inr "rest") (.int z) = drKvs w cs z t := by simp [dPut, drKvs, s_wr, s_cr, s_rt.symm]
theorem dr_putT : dPut (drKvs w cs x t) (.inr "turn") (.int z) = drKvs w cs x z := by simp [dPut, drKvs, s_wt, s_ct, s_rt]
end
structure DrawAt (r w : Nat) (n : Nat) (ws cs : List Int) (x t : Int) (h : CH) : Prop where
  or_ : h.ob r = some (.dct (drKvs w cs x t))
  ow : h.ob w = some (.lst (ws.map D.int))
  ne : r ≠ w
  lr : r < h.nx
  lw : w < h.nx
  cs_ : ∀ c, c ∈ cs → 0 ≤ c ∧ c < 2147483629
  lws : ws.length ≤ 63
  lcs : cs.length ≤ 63
  t0 : 0 ≤ t
  tn : t + (n : Int) ≤ 1000000000
def DrawOk (r w n : Nat) (h : CH) : Prop := ∃ ws cs x t, DrawAt r w n ws cs x t h
end CM
namespace CM
open PySem PySem.Spec PyProof.Rows L2
def u__law_begun : SD := dSeq (dAsg (dLc true (dSeqI (dVar 0)) (gdName 2) (dB (dOp (fB fun i j => decide (i ≥ j)) (dCB fAbs (dCons (dVar 2) (dNil))) (dOp fPow (dC (.int 10)) (dC (.int 18))))) (dOp fSubI (dCB fAbs (dCons (dVar 2) (dNil))) (dOp fPow (dC (.int 10)) (dC (.int 18)))) [2]) (gdName 1)) (dRet (dDisp true [(dC (.str "wide"), dVar 1), (dC (.str "cells"), dLc false (dSeqI (dVar 0)) (gdName 2) (dYes) (dOp fMod (dCB fInt (dCons (dCB fAbs (dCons (dVar 2) (dNil))) (dNil))) (dC (.int 2147483629))) [2]), (dC (.str "rest"), dC (.int 0)), (dC (.str "turn"), dC (.int 0))]))
def F__law_begun : FD := bodyF 3 u__law_begun
def u__law_mixed : SD := dSeq (dPar 1 2 (dCons (dOp (fAdd false) (dOp fIx (dVar 0) (dC (.str "turn"))) (dC (.int 1))) (dCons (dC (.int 0)) (dNil)))) (dSeq (dAsg (dVar 1) (gdSub (dVar 0) (dC (.str "turn")))) (dSeq (dFor (dSeqI (dLst false (dCons (dC (.int 2147483629)) (dCons (dC (.int 2147483587)) (dCons (dC (.int 2147483579)) (dCons (dC (.int 2147483563)) (dNil))))))) (gdName 3) (dSeq (dAsg (dOp (fAdd false) (dOp (fMul false) (dC (.int 61441)) (dVar 1)) (dOp fDiv (dVar 3) (dC (.int 19)))) (gdName 4)) (dSeq (dFor (dSeqI (dOp fIx (dVar 0) (dC (.str "cells")))) (gdName 5) (dAsg (dOp fMod (dCB fInt (dCons (dOp (fAdd false) (dOp (fAdd false) (dOp (fMul false) (dVar 4) (dC (.int 48271))) (dVar 5)) (dVar 1)) (dNil))) (dVar 3)) (gdName 4))) (dAsg (dOp (fAdd false) (dOp (fMul false) (dVar 2) (dC (.int 2147483647))) (dOp fMod (dCB fInt (dCons (dOp fPow (dVar 4) (dC (.int 5))) (dNil))) (dVar 3))) (gdName 2))))) (dRet (dVar 2))))
def F__law_mixed : FD := bodyF 6 u__law_mixed
def u__law_take : SD := dSeq (dIfS (dB (dOp (fEq false) (dOp fIx (dVar 0) (dC (.str "rest"))) (dC (.int 0)))) (dAsg (dIf (dB (dOp (fEq true) (dOp fIx (dVar 0) (dC (.str "wide"))) (dLst false (dNil)))) (dBM "list" fPopAt (dOp fIx (dVar 0) (dC (.str "wide"))) (dCons (dC (.int 0)) (dNil))) (dCall 1 F__law_mixed (dCons (dVar 0) (dNil)))) (gdSub (dVar 0) (dC (.str "rest")))) (dNext)) (dSeq (dAsg (dOp fMod (dCB fInt (dCons (dOp fIx (dVar 0) (dC (.str "rest"))) (dNil))) (dVar 1)) (gdName 2)) (dSeq (dAsg (dOp fDiv (dOp fIx (dVar 0) (dC (.str "rest"))) (dVar 1)) (gdSub (dVar 0) (dC (.str "rest")))) (dRet (dVar 2))))
def F__law_take : FD := bodyF 3 u__law_take
def u__law_pick : SD := dRet (dOp fIx (dVar 1) (dCall 2 F__law_take (dCons (dVar 0) (dCons (dCB fLen (dCons (dVar 1) (dNil))) (dNil)))))
def F__law_pick : FD := bodyF 2 u__law_pick
section
variable {r w n : Nat} {ws cs : List Int} {x t : Int} {h : CH}
abbrev mixBody : SD := dAsg (dOp fMod (dCB fInt (dCons (dOp (fAdd false) (dOp (fAdd false) (dOp (fMul false) (dVar 4) (dC (.int 48271))) (dVar 5)) (dVar 1)) (dNil))) (dVar 3)) (gdName 4)
theorem mix_in {d0 f : D} {tn p : Int} (hp : 0 < p) : ∀ (cs : List Int) (b : Int) (y : Option D), ∃ (b' : Int) (y' : Option D), dForL (gdName 5) mixBody (cs.map D.int) [some d0, some (.int tn), some f, some (.int p), some (.int b), y] h = .nx [some d0, some (.int tn), some f, some (.int p), some (.int b'), y'] h ∧ ((cs = [] ∧ b' = b) ∨ (0 ≤ b' ∧ b' < p))
  | [], b, y => ⟨b, y, rfl, .inl ⟨rfl, rfl⟩⟩
  | c :: cs, b, y => by
    obtain ⟨b', y', e, q⟩ := mix_in hp cs ((b * 48271 + c + tn) % p) (some (.int c))
    refine ⟨b', y', ?_, .inr ?_⟩
    · have cm : CMul b 48271 := .inr ⟨by decide, by decide⟩
      simp only [List.map_cons, dForL]
      simp [fMul, fAdd, fInt, fMod, hp, cm]
      exact e
    · rcases q with ⟨_, rfl⟩ | q
      · exact ⟨Int.emod_nonneg _ (by omega), Int.emod_lt_of_pos _ hp⟩
      · exact q
theorem ix_dr {k : Key} {d : D} {kd : D} (hk : keyD kd = some k) (e : h.ob r = some (.dct (drKvs w cs x t))) (g : dGet (drKvs w cs x t) k = some d) (ni : ∀ i, kd ≠ .int i) : fIx (.ref r) kd h = .ok d h := by
  cases kd with
  | str z => cases hk; simp [fIx, seqOf, dctOf, e, keyD, g]
  | _ => first | (cases hk; done) | exact absurd rfl (ni _)
abbrev outBody : SD := dSeq (dAsg (dOp (fAdd false) (dOp (fMul false) (dC (.int 61441)) (dVar 1)) (dOp fDiv (dVar 3) (dC (.int 19)))) (gdName 4)) (dSeq (dFor (dSeqI (dOp fIx (dVar 0) (dC (.str "cells")))) (gdName 5) mixBody) (dAsg (dOp (fAdd false) (dOp (fMul false) (dVar 2) (dC (.int 2147483647))) (dOp fMod (dCB fInt (dCons (dOp fPow (dVar 4) (dC (.int 5))) (dNil))) (dVar 3))) (gdName 2)))
theorem mix_one {f p tn : Int} {y4 y5 : Option D} (e : h.ob r = some (.dct (drKvs w cs x t))) (hp : 0 < p) (hp2 : p < 2147483648) (h1 : 0 ≤ tn) (h2 : tn ≤ 1000000000) :
    ∃ (f' : Int) (y4' y5' : Option D), outBody [some (.ref r), some (.int tn), some (.int f), some (.int p), y4, y5] h = .nx [some (.ref r), some (.int tn), some (.int f'), some (.int p), y4', y5'] h := by
  obtain ⟨b', y', ei, q⟩ := mix_in (h := h) (d0 := .ref r) (f := .int f) (tn := tn) hp cs (61441 * tn + p / 19) y5
  have c1 : CMul 61441 tn := .inl ⟨by decide, by decide⟩
  have c2 : CDiv p 19 := ⟨by decide, by decide⟩
  have c3 : CMul f 2147483647 := .inr ⟨by decide, by decide⟩
  have c4 : CPow b' 5 := by
    refine ⟨by decide, by decide, ?_⟩
    rcases q with ⟨_, rfl⟩ | q <;> omega
  have ic := ix_dr (kd := .str "cells") rfl e dr_cells (fun i => by simp)
  refine ⟨f * 2147483647 + b' ^ (5 : Int).toNat % p, some (.int b'), y', ?_⟩
  simp [outBody, c1, c2, fMul, fAdd, fDiv, ic, itemsD]
  rw [ei]
  simp [c3, c4, fMul, fAdd, fPow, fInt, fMod, hp]
theorem mixed_ok (A : DrawAt r w (n + 1) ws cs x t h) : ∃ v : Int, F__law_mixed [.ref r] h = .ok (.int v) (h.put r (.dct (drKvs w cs x (t + 1)))) := by
  have it := ix_dr (kd := .str "turn") rfl A.or_ dr_turn (fun i => by simp)
  have tn := A.tn
  have t0 := A.t0
  have e1 : (h.put r (.dct (drKvs w cs x (t + 1)))).ob r = some (.dct (drKvs w cs x (t + 1))) := put_same
  obtain ⟨f1, y1, z1, q1⟩ := mix_one (f := 0) (p := 2147483629) (tn := t + 1) (y4 := none) (y5 := none) e1 (by decide) (by decide) (by omega) (by omega)
  obtain ⟨f2, y2, z2, q2⟩ := mix_one (f := f1) (p := 2147483587) (tn := t + 1) (y4 := y1) (y5 := z1) e1 (by decide) (by decide) (by omega) (by omega)
  obtain ⟨f3, y3, z3, q3⟩ := mix_one (f := f2) (p := 2147483579) (tn := t + 1) (y4 := y2) (y5 := z2) e1 (by decide) (by decide) (by omega) (by omega)
  obtain ⟨f4, y4, z4, q4⟩ := mix_one (f := f3) (p := 2147483563) (tn := t + 1) (y4 := y3) (y5 := z3) e1 (by decide) (by decide) (by omega) (by omega)
  refine ⟨f4, ?_⟩
  have kl : (drKvs w cs x t).length < sizeLine := by show 4 < sizeLine; decide
  have l4 : 4 ≤ sizeLine := by decide
  have L : dForL (gdName 3) outBody [.int 2147483629, .int 2147483587, .int 2147483579, .int 2147483563] [some (.ref r), some (.int (t + 1)), some (.int 0), none, none, none] (h.put r (.dct (drKvs w cs x (t + 1)))) = .nx [some (.ref r), some (.int (t + 1)), some (.int f4), some (.int 2147483563), y4, z4] (h.put r (.dct (drKvs w cs x (t + 1)))) := by
    simp only [dForL, g_name, put_ok, List.set_cons_zero, List.set_cons_succ]
    rw [q1]
    simp only [List.set_cons_zero, List.set_cons_succ]
    rw [q2]
    simp only [List.set_cons_zero, List.set_cons_succ]
    rw [q3]
    simp only [List.set_cons_zero, List.set_cons_succ]
    rw [q4]
  simp only [F__law_mixed, bodyF, startD, u__law_mixed]
  simp [it, fAdd, gdSub, refOf, A.or_, keyD, kl, dr_putT, mkL, itemsD, l4]
  rw [L]
  simp
theorem toP_ints {k : Nat} : ∀ ns : List Int, (ns.map D.int).mapM (toP h (k + 1)) = some (ns.map PyData.int)
  | [] => rfl
  | n :: ns => by
    rw [List.map_cons, List.mapM_cons, toP_ints ns]
    rfl
theorem toP_ref {k n : Nat} {xs : List D} (e : h.ob k = some (.lst xs)) : toP h (n + 1) (.ref k) = (xs.mapM (toP h n)).map .list := by simp only [toP, e]
theorem lay_ints : ∀ ns : List Int, PyData.canLayAll0 (ns.map PyData.int) = true
  | [] => rfl
  | n :: ns => by simp only [List.map_cons, PyData.canLayAll0, PyData.canLay0, lay_ints ns, Bool.and_self]
theorem dep_ints : ∀ ns : List Int, PyData.depthAll (ns.map PyData.int) = 0
  | [] => rfl
  | n :: ns => by simp only [List.map_cons, PyData.depthAll, PyData.depth, dep_ints ns]; rfl
theorem shaped_ints (ns : List Int) : SeqAt.shaped (.list (ns.map PyData.int)) = true := by
  simp only [SeqAt.shaped, PyData.canLay0, lay_ints, PyData.depth, dep_ints, Bool.true_and]
  decide
/-- a list of ints against the empty one -/
theorem ne_nil_ints {k : Nat} (e : h.ob k = some (.lst (ws.map D.int))) : fEq true (.ref k) (.lst []) h = .ok (.bl (!ws.isEmpty)) h := by
  have e1 : toP h 10 (.ref k) = some (.list (ws.map PyData.int)) := by
    rw [toP_ref (n := 9) e, toP_ints (h := h) (k := 8) ws]
    rfl
  have e2 : toP h 10 (.lst []) = some (.list []) := rfl
  have e3 : SeqAt.shaped (.list []) = true := shaped_ints []
  have e4 : PyData.eqv (.list (ws.map PyData.int)) (.list []) = ws.isEmpty := by
    cases ws with
    | nil => rfl
    | cons a l => rfl
  have e5 : scalD (.ref k) (.lst []) = false := rfl
  unfold fEq
  rw [e5, e1, e2]
  simp [shaped_ints, e3, e4, bneg]
theorem eq0_int {i j : Int} : fEq false (.int i) (.int j) h = .ok (.bl (i == j)) h := by simp [fEq, scalD, flatD, eqF, bneg]
/-- only the draws change -/
def DrFr (r w : Nat) (h h' : CH) : Prop := h'.nx = h.nx ∧ ∀ k, k ≠ r → k ≠ w → h'.ob k = h.ob k
theorem DrFr.refl : DrFr r w h h := ⟨rfl, fun _ _ _ => rfl⟩
theorem DrFr.trans {h1 h2 : CH} (a : DrFr r w h h1) (b : DrFr r w h1 h2) : DrFr r w h h2 := ⟨b.1.trans a.1, fun k n m => (b.2 k n m).trans (a.2 k n m)⟩
theorem DrFr.putR {o : MO} : DrFr r w h (h.put r o) := ⟨rfl, fun k n _ => put_ne n⟩
theorem DrFr.putW {o : MO} : DrFr r w h (h.put w o) := ⟨rfl, fun k _ n => put_ne n⟩
theorem DrawAt.setR {x' t' : Int} {m : Nat} (A : DrawAt r w n ws cs x t h) (t0 : 0 ≤ t') (tn : t' + (m : Int) ≤ 1000000000) : DrawAt r w m ws cs x' t' (h.put r (.dct (drKvs w cs x' t'))) :=
  ⟨put_same, by rw [put_ne A.ne.symm]; exact A.ow, A.ne, A.lr, A.lw, A.cs_, A.lws, A.lcs, t0, tn⟩
/-- the rest is there -/
theorem take_first (A : DrawAt r w (n + 1) ws cs x t h) {s : Int} : ∃ (ws' : List Int) (x' t' : Int) (h' : CH), (dIfS (dB (dOp (fEq false) (dOp fIx (dVar 0) (dC (.str "rest"))) (dC (.int 0)))) (dAsg (dIf (dB (dOp (fEq true) (dOp fIx (dVar 0) (dC (.str "wide"))) (dLst false (dNil)))) (dBM "list" fPopAt (dOp fIx (dVar 0) (dC (.str "wide"))) (dCons (dC (.int 0)) (dNil))) (dCall 1 F__law_mixed (dCons (dVar 0) (dNil)))) (gdSub (dVar 0) (dC (.str "rest")))) (dNext)) [some (.ref r), some (.int s), none] h = .nx [some (.ref r), some (.int s), none] h' ∧ DrawAt r w n ws' cs x' t' h' ∧ DrFr r w h h' := by
  have ir := ix_dr (kd := .str "rest") rfl A.or_ dr_rest (fun i => by simp)
  have iw := ix_dr (kd := .str "wide") rfl A.or_ dr_wide (fun i => by simp)
  have kl : ∀ y z, (drKvs w cs y z).length < sizeLine := fun y z => by show 4 < sizeLine; decide
  have A1 : DrawAt r w n ws cs x t h := ⟨A.or_, A.ow, A.ne, A.lr, A.lw, A.cs_, A.lws, A.lcs, A.t0, by have := A.tn; omega⟩
  by_cases hx : x = 0
  · cases ws with
    | nil =>
      obtain ⟨v, ev⟩ := mixed_ok A
      have A2 : DrawAt r w n [] cs x (t + 1) (h.put r (.dct (drKvs w cs x (t + 1)))) := A.setR (by have := A.t0; omega) (by have := A.tn; omega)
      refine ⟨[], v, t + 1, _, ?_, A2.setR A2.t0 A2.tn, DrFr.putR.trans DrFr.putR⟩
      simp [ir, iw, eq0_int, hx, ne_nil_ints A.ow, mkL]
      have ev' := ev
      rw [hx] at ev'
      rw [ev']
      simp [gdSub, refOf, keyD, put_same, kl, dr_putR]
    | cons a ws =>
      have e1 : h.ob w = some (.lst (D.int a :: ws.map D.int)) := A.ow
      have ne := A.ne
      have o1 : (h.put w (.lst (ws.map D.int))).ob r = some (.dct (drKvs w cs x t)) := by rw [put_ne ne]; exact A.or_
      refine ⟨ws, a, t, (h.put w (.lst (ws.map D.int))).put r (.dct (drKvs w cs a t)), ?_, ⟨put_same, by rw [put_ne ne.symm]; exact put_same, ne, A.lr, A.lw, A.cs_, Nat.le_of_succ_le A.lws, A.lcs, A.t0, A1.tn⟩, DrFr.putW.trans DrFr.putR⟩
      have si : seqIndex? 0 (ws.length + 1) = some 0 := by simp [seqIndex?]
      simp [ir, iw, eq0_int, hx, ne_nil_ints A.ow, mkL, isTy, lstOf, fPopAt, e1, si]
      rw [hx] at o1
      simp [gdSub, refOf, keyD, o1, kl, dr_putR]
  · refine ⟨ws, x, t, h, ?_, A1, .refl⟩
    simp [ir, eq0_int, hx]
theorem take_ok (A : DrawOk r w (n + 1) h) {s : Int} (hs : 0 < s) (hs2 : s < 1073741824) : ∃ (v : Int) (h' : CH), F__law_take [.ref r, .int s] h = .ok (.int v) h' ∧ 0 ≤ v ∧ v < s ∧ DrawOk r w n h' ∧ DrFr r w h h' := by
  obtain ⟨ws, cs, x, t, A⟩ := A
  obtain ⟨ws', x', t', h1, e1, A1, f1⟩ := take_first A (s := s)
  have ir := ix_dr (kd := .str "rest") rfl A1.or_ dr_rest (fun i => by simp)
  have kl : ∀ y z, (drKvs w cs y z).length < sizeLine := fun y z => by show 4 < sizeLine; decide
  have cd : CDiv x' s := ⟨hs, hs2⟩
  refine ⟨x' % s, h1.put r (.dct (drKvs w cs (x' / s) t')), ?_, Int.emod_nonneg _ (by omega), Int.emod_lt_of_pos _ hs, ⟨ws', cs, _, t', A1.setR A1.t0 A1.tn⟩, f1.trans DrFr.putR⟩
  simp only [F__law_take, bodyF, startD, u__law_take]
  rw [s_seq]
  show ((_ : RS).bind _).res = _
  simp only [List.map_cons, List.map_nil, List.length_cons, List.length_nil, List.cons_append, List.nil_append]
  show (((dIfS _ _ _) [some (D.ref r), some (D.int s), none] h).bind _).res = _
  rw [e1]
  simp [ir, fInt, fMod, hs, fDiv, cd, gdSub, refOf, A1.or_, keyD, kl, dr_putR]
theorem pick_ok (A : DrawOk r w (n + 1) h) {xs : D} {ds : List D} (e : xs = .lst ds ∨ xs = .tup ds) (h0 : ds ≠ []) (h1 : ds.length < 1073741824) : ∃ (d : D) (h' : CH), F__law_pick [.ref r, xs] h = .ok d h' ∧ d ∈ ds ∧ DrawOk r w n h' ∧ DrFr r w h h' := by
  have hp : 0 < ds.length := List.length_pos_iff.mpr h0
  obtain ⟨v, h', e1, l1, l2, A', f⟩ := take_ok A (s := (ds.length : Int)) (by omega) (by omega)
  have sq : ∀ hh, seqOf hh xs = some ds := fun hh => by rcases e with rfl | rfl <;> rfl
  have hv : v.toNat < ds.length := by omega
  have ai : atI ds v = some ds[v.toNat] := by
    have : ixN ds.length v = some v.toNat := by
      unfold ixN
      rw [if_pos (by omega), if_pos l2]
    unfold atI
    rw [this]
    exact List.getElem?_eq_getElem hv
  refine ⟨ds[v.toNat], h', ?_, List.getElem_mem hv, A', f⟩
  have len : fLen [xs] h = .ok (.int ds.length) h := by
    rcases e with rfl | rfl <;> rfl
  have ix : fIx xs (.int v) h' = .ok ds[v.toNat] h' := by
    rcases e with rfl | rfl <;> simp [fIx, seqOf, ai]
  simp [F__law_pick, bodyF, startD, u__law_pick, len, e1, ix]
theorem b1_loop {a : D} : ∀ ns : List Int, ∃ ws : List Int, ws.length ≤ ns.length ∧ dLcL (gdName 2) (dB (dOp (fB fun i j => decide (i ≥ j)) (dCB fAbs (dCons (dVar 2) (dNil))) (dOp fPow (dC (.int 10)) (dC (.int 18))))) (dOp fSubI (dCB fAbs (dCons (dVar 2) (dNil))) (dOp fPow (dC (.int 10)) (dC (.int 18)))) [some a, none, none] (ns.map D.int) h = .ok (ws.map D.int) h
  | [] => ⟨[], Nat.le_refl _, rfl⟩
  | c :: ns => by
    obtain ⟨ws, l, e⟩ := b1_loop ns
    have cp : CPow 10 18 := by decide
    by_cases q : (if c < 0 then -c else c) ≥ 10 ^ (18 : Int).toNat
    · refine ⟨((if c < 0 then -c else c) - 10 ^ (18 : Int).toNat) :: ws, by simp; exact l, ?_⟩
      simp only [List.map_cons, dLcL]
      simp only [g_name, calm_ok, e_B, e_op, e_CB, e_cons, e_var, e_nil, e_C, List.set_cons_zero, List.set_cons_succ, List.getElem?_cons_zero, List.getElem?_cons_succ, bind_ok, fAbs, fPow, fB, if_pos cp, asB_bl, decide_eq_true q, if_true, fSubI]
      rw [e]
      rfl
    · refine ⟨ws, Nat.le_succ_of_le l, ?_⟩
      simp only [List.map_cons, dLcL]
      simp only [g_name, calm_ok, e_B, e_op, e_CB, e_cons, e_var, e_nil, e_C, List.set_cons_zero, List.set_cons_succ, List.getElem?_cons_zero, List.getElem?_cons_succ, bind_ok, fAbs, fPow, fB, if_pos cp, asB_bl, decide_eq_false q, Bool.false_eq_true, if_false]
      exact e
theorem b2_loop {a b : D} : ∀ ns : List Int, ∃ cs : List Int, cs.length = ns.length ∧ (∀ c, c ∈ cs → 0 ≤ c ∧ c < 2147483629) ∧ dLcL (gdName 2) dYes (dOp fMod (dCB fInt (dCons (dCB fAbs (dCons (dVar 2) (dNil))) (dNil))) (dC (.int 2147483629))) [some a, some b, none] (ns.map D.int) h = .ok (cs.map D.int) h
  | [] => ⟨[], rfl, fun _ h => (nomatch h), rfl⟩
  | c :: ns => by
    obtain ⟨cs, l, hc, e⟩ := b2_loop ns
    refine ⟨((if c < 0 then -c else c) % 2147483629) :: cs, by simp [l], fun y hy => ?_, ?_⟩
    · rcases List.mem_cons.mp hy with rfl | hy
      · exact ⟨Int.emod_nonneg _ (by decide), Int.emod_lt_of_pos _ (by decide)⟩
      · exact hc y hy
    · simp only [List.map_cons, dLcL, dYes]
      simp only [g_name, calm_ok, e_op, e_CB, e_cons, e_var, e_nil, e_C, List.set_cons_zero, List.set_cons_succ, List.getElem?_cons_zero, List.getElem?_cons_succ, bind_ok, fAbs, fInt, fMod, if_true, show ((0 : Int) < 2147483629) from by decide]
      rw [e]
      rfl
theorem begun_ok {ns : List Int} (hn : ns.length ≤ 63) : ∃ h', F__law_begun [.scr ns] h = .ok (.ref (h.nx + 1)) h' ∧ DrawOk (h.nx + 1) h.nx 1000000000 h' ∧ h'.nx = h.nx + 2 ∧ ∀ k, k < h.nx → h'.ob k = h.ob k := by
  obtain ⟨ws, lw, e1⟩ := b1_loop (h := h) (a := .scr ns) ns
  obtain ⟨cs, lc, hc, e2⟩ := b2_loop (h := h.new (.lst (ws.map D.int))) (a := .scr ns) (b := .ref h.nx) ns
  have sz : ns.length ≤ sizeLine := Nat.le_trans hn (by decide)
  refine ⟨(h.new (.lst (ws.map D.int))).new (.dct (drKvs h.nx cs 0 0)), ?_, ⟨ws, cs, 0, 0, ?_, ?_, by omega, by show h.nx + 1 < h.nx + 2; omega, by show h.nx < h.nx + 2; omega, hc, by omega, by omega, by decide, by decide⟩, rfl, fun k hk => ?_⟩
  · simp only [F__law_begun, bodyF, startD, u__law_begun]
    have i1 : itemsD h (.scr ns) = some (ns.map D.int) := rfl
    have i2 : itemsD (h.new (.lst (ws.map D.int))) (.scr ns) = some (ns.map D.int) := rfl
    have me : mergeD [] (drKvs h.nx cs 0 0) = drKvs h.nx cs 0 0 := by simp [mergeD, dPut, drKvs, s_wc, s_wr, s_wt, s_cr, s_ct, s_rt]
    simp only [List.map_cons, List.map_nil, List.length_cons, List.length_nil, List.cons_append, List.nil_append, s_seq, s_asg, dLc, e_seqI, e_var, List.getElem?_cons_zero, bind_ok, i1, List.length_map, if_pos sz, wipeD, List.replicate, List.set_cons_zero, List.set_cons_succ, e1, runl_none, mkL, toS_ok, g_name, put_ok, sbind_nx, s_ret, dDisp, dPairs, e_C, List.getElem?_cons_succ, i2, e2, keysOf, keyD]
    show ((if 4 ≤ 15 then mkD true (mergeD [] (drKvs h.nx cs 0 0)) _ else R.no).toS _ _).res = _
    rw [me]
    rfl
  · show (if h.nx + 1 = h.nx + 1 then _ else _) = _
    rw [if_pos rfl]
  · show (if h.nx = h.nx + 1 then _ else (if h.nx = h.nx then _ else _)) = _
    rw [if_neg (by omega), if_pos rfl]
  · show (if k = h.nx + 1 then _ else (if k = h.nx then _ else _)) = _
    rw [if_neg (by omega), if_neg (by omega)]
end
end CM
namespace CM
open PySem PySem.Spec PyProof.Rows L2
def R.sat {α : Type} (r : R α) (Q : α → CH → Prop) : Prop := match r with
  | .ok a h => Q a h
  | _ => False
/-- a statement goes on by N or returns by T -/
def RS.sat (r : RS) (N : DE → CH → Prop) (T : D → CH → Prop) : Prop := match r with
  | .nx ρ h => N ρ h
  | .rt d h => T d h
  | _ => False
/-- what comes behind a statement -/
def Kont (w : SD) (N : DE → CH → Prop) (T : D → CH → Prop) (ρ : DE) (h : CH) : Prop := (w ρ h).sat N T
section
variable {α β : Type} {a : α} {h : CH} {m : R α} {f : α → CH → R β} {g : α → CH → RS} {ρ : DE} {w u : SD} {d : D} {Q : β → CH → Prop} {P P' : α → CH → Prop} {N : DE → CH → Prop} {T : D → CH → Prop} {r : RS}
@[simp] theorem sat_ok : (R.ok a h).sat P = P a h := rfl
@[simp] theorem sat_no : (R.no : R α).sat P = False := rfl
@[simp] theorem sat_bind : (m.bind f).sat Q = m.sat fun a h => (f a h).sat Q := by cases m <;> rfl
@[simp] theorem sat_calm : (m.calm f).sat Q = m.sat fun a h => (f a h).sat Q := by cases m <;> rfl
@[simp] theorem sat_toS : (m.toS ρ g).sat N T = m.sat fun a h => (g a h).sat N T := by cases m <;> rfl
@[simp] theorem sat_put {m : R DE} : (m.put w).sat N T = m.sat fun ρ h => (w ρ h).sat N T := by cases m <;> rfl
@[simp] theorem sat_ite {c : Prop} [Decidable c] {m m' : R α} : (if c then m else m').sat P = if c then m.sat P else m'.sat P := by split <;> rfl
@[simp] theorem sat_iteS {c : Prop} [Decidable c] {r' : RS} : (if c then r else r').sat N T = if c then r.sat N T else r'.sat N T := by split <;> rfl
@[simp] theorem sat_nx : (RS.nx ρ h).sat N T = N ρ h := rfl
@[simp] theorem sat_rt : (RS.rt d h).sat N T = T d h := rfl
@[simp] theorem sat_noS : (RS.no).sat N T = False := rfl
@[simp] theorem sat_bindS : (r.bind w).sat N T = r.sat (Kont w N T) T := by cases r <;> rfl
@[simp] theorem sat_res {Q : D → CH → Prop} : r.res.sat Q = r.sat (fun _ h => Q .non h) Q := by cases r <;> rfl
@[simp] theorem sat_unl : (r.unl none).sat N T = r.sat N T := by rw [unl_none]
@[simp] theorem sat_unlR : (m.unl none).sat P = m.sat P := by rw [runl_none]
theorem R.sat.mono (x : m.sat P) (k : ∀ a h, P a h → P' a h) : m.sat P' := by
  cases m with
  | ok a h => exact k a h x
  | ex => exact x.elim
  | no => exact x.elim
theorem R.sat.ex (x : m.sat P) : ∃ a h, m = .ok a h ∧ P a h := by
  cases m with
  | ok a h => exact ⟨a, h, rfl, x⟩
  | ex => exact x.elim
  | no => exact x.elim
theorem sat_of {a : α} {h : CH} (e : m = .ok a h) (p : P a h) : m.sat P := by rw [e]; exact p
theorem RS.sat.mono {N' : DE → CH → Prop} {T' : D → CH → Prop} (x : r.sat N T) (k : ∀ ρ h, N ρ h → N' ρ h) (k' : ∀ d h, T d h → T' d h) : r.sat N' T' := by
  cases r with
  | nx => exact k _ _ x
  | rt => exact k' _ _ x
  | _ => exact x.elim
end
section
variable {r w n m : Nat} {h h1 : CH}
theorem DrawOk.mono (A : DrawOk r w n h) (l : m ≤ n) : DrawOk r w m h := by
  obtain ⟨ws, cs, x, t, A⟩ := A
  exact ⟨ws, cs, x, t, A.or_, A.ow, A.ne, A.lr, A.lw, A.cs_, A.lws, A.lcs, A.t0, by have := A.tn; omega⟩
/-- the draws are not touched -/
theorem DrawOk.keep (A : DrawOk r w n h) (nx : h.nx ≤ h1.nx) (k : ∀ j, j = r ∨ j = w → h1.ob j = h.ob j) : DrawOk r w n h1 := by
  obtain ⟨ws, cs, x, t, A⟩ := A
  exact ⟨ws, cs, x, t, by rw [k r (.inl rfl)]; exact A.or_, by rw [k w (.inr rfl)]; exact A.ow, A.ne, Nat.lt_of_lt_of_le A.lr nx, Nat.lt_of_lt_of_le A.lw nx, A.cs_, A.lws, A.lcs, A.t0, A.tn⟩
theorem DrawOk.lt (A : DrawOk r w n h) : r < h.nx ∧ w < h.nx := by
  obtain ⟨ws, cs, x, t, A⟩ := A
  exact ⟨A.lr, A.lw⟩
theorem take_sat (A : DrawOk r w (n + 1) h) {s : Int} (hs : 0 < s) (hs2 : s < 1073741824) : (F__law_take [.ref r, .int s] h).sat fun d h1 => ∃ v, d = .int v ∧ 0 ≤ v ∧ v < s ∧ DrawOk r w n h1 ∧ DrFr r w h h1 := by
  obtain ⟨v, h1, e, p⟩ := take_ok A hs hs2
  exact sat_of e ⟨v, rfl, p⟩
theorem pick_sat (A : DrawOk r w (n + 1) h) {xs : D} {ds : List D} (e : xs = .lst ds ∨ xs = .tup ds) (h0 : ds ≠ []) (h1 : ds.length < 1073741824) : (F__law_pick [.ref r, xs] h).sat fun d h1 => d ∈ ds ∧ DrawOk r w n h1 ∧ DrFr r w h h1 := by
  obtain ⟨d, h1, e, p⟩ := pick_ok A e h0 h1
  exact sat_of e p
end
end CM
namespace CM
open PySem PySem.Spec PyProof.Rows L2
end CM
namespace CM
open PySem PySem.Spec PyProof.Rows L2
abbrev stL (l : List Str) : List D := l.map D.str
/-- a list (named or free) or a tuple of these texts -/
def SeqS (h : CH) (X : D) (l : List Str) : Prop := (∃ k, X = .ref k ∧ h.ob k = some (.lst (stL l))) ∨ X = .lst (stL l) ∨ X = .tup (stL l)
section
variable {h : CH} {X : D} {l ws : List Str}
theorem SeqS.seq (s : SeqS h X l) : seqOf h X = some (stL l) := by
  rcases s with ⟨k, rfl, e⟩ | rfl | rfl
  · simp only [seqOf, e]
  · rfl
  · rfl
theorem CH.ext' {h h' : CH} (a : h.nx = h'.nx) (b : ∀ k, h.ob k = h'.ob k) : h = h' := by
  obtain ⟨n, o⟩ := h
  obtain ⟨n', o'⟩ := h'
  cases a
  have : o = o' := funext b
  rw [this]
theorem put_id {k : Nat} {o : MO} (e : h.ob k = some o) : h.put k o = h := CH.ext' rfl fun j => by
  by_cases z : j = k
  · subst z; rw [put_same, e]
  · rw [put_ne z]
theorem put_put {k : Nat} {o o' : MO} : (h.put k o).put k o' = h.put k o' := CH.ext' rfl fun j => by
  by_cases z : j = k
  · subst z; rw [put_same, put_same]
  · rw [put_ne z, put_ne z, put_ne z]
end
end CM
namespace W_whilemerged_k78_texts_of_histories_spoil
open PySem PySem.Spec PyProof.Rows L2 CM
structure Txt (mg : Str → Option Value) : Prop where
  z_super : mg "super" = none
  z_abs : mg "abs" = none
  z_int : mg "int" = none
  z_isinstance : mg "isinstance" = none
  z_bool : mg "bool" = none
  z_tuple : mg "tuple" = none
  z_str : mg "str" = none
  z_len : mg "len" = none
  z_list : mg "list" = none
  z_enumerate : mg "enumerate" = none
  z_range : mg "range" = none
  z_ValueError : mg "ValueError" = none
  z_repr : mg "repr" = none
  z_all : mg "all" = none
  z_min : mg "min" = none
structure Cst (K : PySem.W.Frag) (CA : CAs) (mg : Str → Option Value) : Prop where
  g_KINDS : GV K CA mg "KINDS" (.tup [.str "down", .str "up"])
  g_MOST : GV K CA mg "MOST" (.int 1000000000)
  g_BadDeed : GV K CA mg "BadDeed" (.cls 1)
  g_BadNumber : GV K CA mg "BadNumber" (.cls 2)
  g_BadBook : GV K CA mg "BadBook" (.cls 3)
  g_BadPlan : GV K CA mg "BadPlan" (.cls 4)
  g_BadChain : GV K CA mg "BadChain" (.cls 5)
  g_BadText : GV K CA mg "BadText" (.cls 6)
structure XFd (K : PySem.W.Frag) (CA : CAs) : Prop where
  x_field : XfOf K CA [3] "field"
  x_number : XfOf K CA [2] "number"
  x_at : XfOf K CA [1] "at"
  x_line : XfOf K CA [6] "line"
abbrev xs0 : List Nat := [0, 1, 2, 3, 4, 5, 6]
def kt0 : KT := (ktT [[.o 0, .b "ValueError"], [.o 1, .o 0, .b "ValueError"], [.o 2, .o 0, .b "ValueError"], [.o 3, .o 0, .b "ValueError"], [.o 4, .o 0, .b "ValueError"], [.o 5, .o 0, .b "ValueError"], [.o 6, .o 0, .b "ValueError"]] ("ValueError" :: tys))
def u__law_is_cell : SD := dRet (dAndV (dCB (fIsX xs0 [] kt0) (dCons (dVar 0) (dCons (dC (.ty "int")) (dNil)))) (dAndV (dNotV (dCB (fIsX xs0 [] kt0) (dCons (dVar 0) (dCons (dC (.ty "bool")) (dNil))))) (dOp (fB fun i j => decide (i ≥ j)) (dVar 0) (dC (.int 0)))))
def F__law_is_cell : FD := bodyF 1 u__law_is_cell
def u__law_is_text_deed : SD := dSeq (dAsg (dDisp false [(dC (.str "write"), dC (.int 4)), (dC (.str "cover"), dC (.int 2)), (dC (.str "branch"), dC (.int 2)), (dC (.str "begin"), dC (.int 3)), (dC (.str "step"), dC (.int 2)), (dC (.str "stop"), dC (.int 1))]) (gdName 1)) (dSeq (dIfS (dOr (dNot (dB (dCB (fIsX xs0 [] kt0) (dCons (dVar 0) (dCons (dC (.ty "tuple")) (dNil)))))) (dOr (dB (dOp fEqE (dVar 0) (dTup (dNil)))) (dNot (dB (dCB (fIsX xs0 [] kt0) (dCons (dOp fIx (dVar 0) (dC (.int 0))) (dCons (dC (.ty "str")) (dNil)))))))) (dRet (dC (.bl false))) (dNext)) (dSeq (dIfS (dB (dOp (fEq true) (dGet2 (dVar 1) (dOp fIx (dVar 0) (dC (.int 0))) (dC (.int 0))) (dCB fLen (dCons (dVar 0) (dNil))))) (dRet (dC (.bl false))) (dNext)) (dSeq (dAsg (dCB (fListOf true) (dCons (dSl false (dVar 0) (dPart (dC (.int 1))) (dNoPart)) (dNil))) (gdName 2)) (dSeq (dIfS (dB (dOp (fEq false) (dOp fIx (dVar 0) (dC (.int 0))) (dC (.str "begin")))) (dSeq (dAsg (dBM "list" fPopAt (dVar 2) (dCons (dC (.int 0)) (dNil))) (gdName 3)) (dIfS (dOr (dNot (dB (dCB (fIsX xs0 [] kt0) (dCons (dVar 3) (dCons (dC (.ty "str")) (dNil)))))) (dB (dOp (fIn true) (dVar 3) (dTup (dCons (dC (.str "up")) (dCons (dC (.str "down")) (dNil))))))) (dRet (dC (.bl false))) (dNext))) (dNext)) (dRet (dOp (fEqL false) (dLc false (dSeqI (dVar 2)) (gdName 4) (dOr (dNot (dB (dCall 1 F__law_is_cell (dCons (dVar 4) (dNil))))) (dB (dOp (fB fun i j => decide (i > j)) (dVar 4) (dOp fPow (dC (.int 10)) (dC (.int 9)))))) (dVar 4) [4]) (dLst false (dNil))))))))
def F__law_is_text_deed : FD := bodyF 5 u__law_is_text_deed
def u__law_part : SD := dSeq (dIfS (dB (dOp (fIn false) (dVar 0) (dTup (dCons (dC (.str "up")) (dCons (dC (.str "down")) (dNil)))))) (dRet (dVar 0)) (dNext)) (dSeq (dIfS (dOr (dB (dOp (fEq false) (dVar 0) (dC (.str "")))) (dB (dOp (fEqL true) (dLc false (dStrI (dVar 0)) (gdName 1) (dB (dOp fNInC (dVar 1) (dC (.str "0123456789")))) (dVar 1) [1]) (dLst false (dNil))))) (dRet (dC .non)) (dNext)) (dRet (dIf (dAnd (dB (dOp (fB fun i j => decide (i < j)) (dCB fLen (dCons (dVar 0) (dNil))) (dC (.int 11)))) (dOr (dB (dOp (fEq false) (dVar 0) (dC (.str "0")))) (dB (dOp (fEq true) (dOp fIx (dVar 0) (dC (.int 0))) (dC (.str "0")))))) (dCB fIntT (dCons (dVar 0) (dNil))) (dC .non))))
def F__law_part : FD := bodyF 2 u__law_part
def u__law_read_line : SD := dSeq (dAsg (dM1 (fSplit false) (dVar 0) (dC (.str " "))) (gdName 1)) (dSeq (dAsg (dCB fTupOf (dCons (dOp (fAdd false) (dSl false (dVar 1) (dNoPart) (dPart (dC (.int 1)))) (dLc false (dSeqI (dSl false (dVar 1) (dPart (dC (.int 1))) (dNoPart))) (gdName 3) (dYes) (dCall 1 F__law_part (dCons (dVar 3) (dNil))) [3])) (dNil))) (gdName 2)) (dRet (dIf (dB (dCall 1 F__law_is_text_deed (dCons (dVar 2) (dNil)))) (dVar 2) (dC .non))))
def F__law_read_line : FD := bodyF 4 u__law_read_line
def u__law_read : SD := dSeq (dPar 1 2 (dCons (dM1 (fSplit false) (dVar 0) (dC (.str "\n"))) (dCons (dLst true (dNil)) (dNil)))) (dSeq (dFor (dEnumT (dCons (dSl false (dVar 1) (dNoPart) (dPart (dUn fNeg (dC (.int 1))))) (dNil))) (gdTup 2 (gdCons (gdName 3) (gdCons (gdName 4) (gdNil)))) (dSeq (dAsg (dCall 1 F__law_read_line (dCons (dVar 4) (dNil))) (gdName 5)) (dSeq (dIfS (dB (dOp (fIsN false) (dVar 5) (dC .non))) (dRet (dVar 3)) (dNext)) (dDrop (dBM "list" fAppend (dVar 2) (dCons (dVar 5) (dNil))))))) (dRet (dIf (dB (dOp (fEq false) (dOp fIx (dVar 1) (dUn fNeg (dC (.int 1)))) (dC (.str "")))) (dVar 2) (dOp fSubI (dCB fLen (dCons (dVar 1) (dNil))) (dC (.int 1))))))
def F__law_read : FD := bodyF 6 u__law_read
def u__law_text_number : SD := dRet (dCall 2 F__law_pick (dCons (dVar 0) (dCons (dLst false (dCons (dC (.int 0)) (dCons (dC (.int 1)) (dCons (dCall 2 F__law_take (dCons (dVar 0) (dCons (dC (.int 12)) (dNil)))) (dCons (dCall 2 F__law_take (dCons (dVar 0) (dCons (dOp (fAdd false) (dOp fPow (dC (.int 10)) (dC (.int 9))) (dC (.int 1))) (dNil)))) (dCons (dOp fPow (dC (.int 10)) (dC (.int 9))) (dNil))))))) (dNil))))
def F__law_text_number : FD := bodyF 1 u__law_text_number
def u__law_text_deed : SD := dSeq (dAsg (dCall 2 F__law_pick (dCons (dVar 0) (dCons (dLst false (dCons (dC (.str "write")) (dCons (dC (.str "cover")) (dCons (dC (.str "branch")) (dCons (dC (.str "begin")) (dCons (dC (.str "step")) (dCons (dC (.str "stop")) (dNil)))))))) (dNil)))) (gdName 1)) (dSeq (dIfS (dB (dOp (fEq false) (dVar 1) (dC (.str "begin")))) (dRet (dTup (dCons (dVar 1) (dCons (dCall 2 F__law_pick (dCons (dVar 0) (dCons (dLst false (dCons (dC (.str "up")) (dCons (dC (.str "down")) (dNil)))) (dNil)))) (dCons (dCall 1 F__law_text_number (dCons (dVar 0) (dNil))) (dNil)))))) (dNext)) (dSeq (dAsg (dGet2 (dDisp false [(dC (.str "write"), dC (.int 3)), (dC (.str "stop"), dC (.int 0))]) (dVar 1) (dC (.int 1))) (gdName 2)) (dRet (dCB fTupOf (dCons (dOp (fAdd false) (dLst false (dCons (dVar 1) (dNil))) (dLc false (dRng1 (dCons (dVar 2) (dNil))) (gdName 3) (dYes) (dCall 1 F__law_text_number (dCons (dVar 0) (dNil))) [3])) (dNil))))))
def F__law_text_deed : FD := bodyF 4 u__law_text_deed
def u__law_bent_text : SD := dSeq (dPar 3 4 (dCons (dCall 2 F__law_take (dCons (dVar 0) (dCons (dC (.int 9)) (dNil)))) (dCons (dM1 (fSplit true) (dVar 1) (dC (.str "\n"))) (dNil)))) (dSeq (dPar 5 6 (dCons (dCall 2 F__law_take (dCons (dVar 0) (dCons (dOp (fAdd false) (dCB fLen (dCons (dVar 1) (dNil))) (dC (.int 1))) (dNil)))) (dCons (dCall 2 F__law_take (dCons (dVar 0) (dCons (dCB fLen (dCons (dVar 4) (dNil))) (dNil)))) (dNil)))) (dSeq (dAsg (dCall 2 F__law_take (dCons (dVar 0) (dCons (dCB fLen (dCons (dVar 4) (dNil))) (dNil)))) (gdName 7)) (dSeq (dIfS (dB (dOp (fEq false) (dVar 3) (dC (.int 0)))) (dRet (dOp (fAdd false) (dOp (fAdd false) (dSlT (dVar 1) (dNoPart) (dPart (dVar 5))) (dCall 2 F__law_pick (dCons (dVar 0) (dCons (dVar 2) (dNil))))) (dSlT (dVar 1) (dPart (dVar 5)) (dNoPart)))) (dNext)) (dSeq (dIfS (dB (dOp (fEq false) (dVar 3) (dC (.int 1)))) (dRet (dOp (fAdd false) (dSlT (dVar 1) (dNoPart) (dPart (dVar 5))) (dSlT (dVar 1) (dPart (dOp (fAdd false) (dVar 5) (dC (.int 1)))) (dNoPart)))) (dNext)) (dSeq (dIfS (dB (dOp (fEq false) (dVar 3) (dC (.int 2)))) (dRet (dOp (fAdd false) (dOp (fAdd false) (dSlT (dVar 1) (dNoPart) (dPart (dVar 5))) (dCall 2 F__law_pick (dCons (dVar 0) (dCons (dVar 2) (dNil))))) (dSlT (dVar 1) (dPart (dOp (fAdd false) (dVar 5) (dC (.int 1)))) (dNoPart)))) (dNext)) (dSeq (dIfS (dB (dOp (fEq false) (dVar 3) (dC (.int 3)))) (dRet (dSlT (dVar 1) (dNoPart) (dPart (dVar 5)))) (dNext)) (dSeq (dIfS (dB (dOp (fEq false) (dVar 3) (dC (.int 4)))) (dAsg (dTup (dCons (dOp fIx (dVar 4) (dVar 6)) (dCons (dOp fIx (dVar 4) (dVar 7)) (dNil)))) (gdTup 2 (gdCons (gdSub (dVar 4) (dVar 7)) (gdCons (gdSub (dVar 4) (dVar 6)) (gdNil))))) (dIfS (dB (dOp (fEq false) (dVar 3) (dC (.int 5)))) (dAsg (dOp (fAdd true) (dSl false (dVar 4) (dNoPart) (dPart (dVar 7))) (dSl false (dVar 4) (dPart (dOp (fAdd false) (dVar 7) (dC (.int 1)))) (dNoPart))) (gdName 4)) (dIfS (dB (dOp (fEq false) (dVar 3) (dC (.int 6)))) (dAsg (dOp (fAdd true) (dOp (fAdd false) (dSl false (dVar 4) (dNoPart) (dPart (dVar 7))) (dLst false (dCons (dOp fIx (dVar 4) (dVar 6)) (dNil)))) (dSl false (dVar 4) (dPart (dVar 7)) (dNoPart))) (gdName 4)) (dSeq (dAsg (dM1 (fSplit true) (dOp fIx (dVar 4) (dVar 7)) (dC (.str " "))) (gdName 8)) (dSeq (dAsg (dCall 2 F__law_take (dCons (dVar 0) (dCons (dCB fLen (dCons (dVar 8) (dNil))) (dNil)))) (gdName 9)) (dSeq (dAsg (dCall 2 F__law_pick (dCons (dVar 0) (dCons (dOp (fAdd false) (dVar 2) (dVar 8)) (dNil)))) (gdSub (dVar 8) (dVar 9))) (dAsg (dM1 fJoin (dC (.str " ")) (dVar 8)) (gdSub (dVar 4) (dVar 7))))))))) (dRet (dM1 fJoin (dC (.str "\n")) (dVar 4))))))))))
def F__law_bent_text : FD := bodyF 10 u__law_bent_text
def u__law_refusal (r_ : R D) : SD := dSeq (dAsg (dKr (caughtR xs0 r_)) (gdName 1)) (dSeq (dIfS (dB (dOp (fIsN false) (dVar 1) (dC .non))) (dRet (dTup (dCons (dC (.str "none")) (dCons (dC .non) (dNil))))) (dNext)) (dSeq (dAsg (dLst false (dCons (dCB (fIsX xs0 [] kt0) (dCons (dVar 1) (dCons (dC (.cls 3)) (dNil)))) (dCons (dCB (fIsX xs0 [] kt0) (dCons (dVar 1) (dCons (dC (.cls 2)) (dNil)))) (dCons (dCB (fIsX xs0 [] kt0) (dCons (dVar 1) (dCons (dC (.cls 1)) (dNil)))) (dNil))))) (gdName 2)) (dSeq (dAsg (dOp (fAdd false) (dVar 2) (dLst false (dCons (dCB (fIsX xs0 [] kt0) (dCons (dVar 1) (dCons (dC (.cls 6)) (dNil)))) (dCons (dCB (fIsX xs0 [] kt0) (dCons (dVar 1) (dCons (dC (.cls 5)) (dNil)))) (dCons (dCB (fIsX xs0 [] kt0) (dCons (dVar 1) (dCons (dC (.cls 4)) (dNil)))) (dNil)))))) (gdName 2)) (dSeq (dIfS (dOr (dB (dOp (fEq true) (dBM "list" fCntB (dVar 2) (dCons (dC (.bl true)) (dNil))) (dC (.int 1)))) (dNot (dB (dCB (fIsX xs0 [] kt0) (dCons (dVar 1) (dCons (dC (.ty "ValueError")) (dNil))))))) (dRet (dTup (dCons (dC (.str "other")) (dCons (dC .non) (dNil))))) (dNext)) (dSeq (dIfS (dB (dOp fIx (dVar 2) (dC (.int 0)))) (dRet (dTup (dCons (dC (.str "book")) (dCons (dUn (fXf [3] "field") (dVar 1)) (dNil))))) (dNext)) (dSeq (dIfS (dB (dOp fIx (dVar 2) (dC (.int 1)))) (dRet (dTup (dCons (dC (.str "number")) (dCons (dUn (fXf [2] "number") (dVar 1)) (dNil))))) (dNext)) (dSeq (dIfS (dB (dOp fIx (dVar 2) (dC (.int 2)))) (dRet (dTup (dCons (dC (.str "deed")) (dCons (dUn (fXf [1] "at") (dVar 1)) (dNil))))) (dNext)) (dRet (dIf (dB (dOp fIx (dVar 2) (dC (.int 3)))) (dTup (dCons (dC (.str "text")) (dCons (dUn (fXf [6] "line") (dVar 1)) (dNil)))) (dTup (dCons (dOp fIx (dLst false (dCons (dC (.str "chain")) (dCons (dC (.str "plan")) (dNil)))) (dCB fInt (dCons (dOp fIx (dVar 2) (dC (.int 5))) (dNil)))) (dCons (dC .non) (dNil)))))))))))))
def F__law_refusal : R D → FD := fun r_ ds h => (u__law_refusal r_ (startL 2 ds) h).res
def u__law_is (r_ : R D) : SD := dRet (dOp (fEq false) (dCB fRepA (dCons (dLamF F__law_refusal r_) (dNil))) (dCB fRepA (dCons (dTup (dCons (dVar 1) (dCons (dVar 2) (dNil)))) (dNil))))
def F__law_is : R D → FD := fun r_ ds h => (u__law_is r_ (startL 2 ds) h).res
def u__law_deed_line : SD := dRet (dOp (fAdd false) (dM1 fJoin (dC (.str " ")) (dLc false (dSeqI (dVar 0)) (gdName 1) (dYes) (dCB fStrT (dCons (dVar 1) (dNil))) [1])) (dC (.str "\n")))
def F__law_deed_line : FD := bodyF 2 u__law_deed_line
def u_is_deed : SD := dSeq (dIfS (dOr (dNot (dB (dCB (fIsX xs0 [] kt0) (dCons (dVar 0) (dCons (dC (.ty "tuple")) (dNil)))))) (dOr (dB (dOp (fEq false) (dCB fLen (dCons (dVar 0) (dNil))) (dC (.int 0)))) (dNot (dB (dCB (fIsX xs0 [] kt0) (dCons (dOp fIx (dVar 0) (dC (.int 0))) (dCons (dC (.ty "str")) (dNil)))))))) (dRet (dC (.bl false))) (dNext)) (dRet (dOp (fEq false) (dKGet2 [("write", 4), ("cover", 2), ("branch", 2), ("begin", 3), ("step", 2), ("stop", 1)] (dOp fIx (dVar 0) (dC (.int 0))) (dC (.int 0))) (dCB fLen (dCons (dVar 0) (dNil)))))
def F_is_deed : FD := bodyF 1 u_is_deed
def u_is_kind : SD := dRet (dAndV (dCB (fIsX xs0 [] kt0) (dCons (dVar 0) (dCons (dC (.ty "str")) (dNil)))) (dOp (fIn false) (dVar 0) (dC (.tup [.str "down", .str "up"]))))
def F_is_kind : FD := bodyF 1 u_is_kind
def u_kinds_right : SD := dRet (dCB (fAllB false) (dCons (dLc false (dEnumT (dCons (dSl false (dVar 0) (dPart (dC (.int 1))) (dNoPart)) (dNil))) (gdTup 2 (gdCons (gdName 1) (gdCons (gdName 2) (gdNil)))) (dYes) (dOp (fEq false) (dCall 1 F_is_kind (dCons (dVar 2) (dNil))) (dAndV (dOp (fEq false) (dOp fIx (dVar 0) (dC (.int 0))) (dC (.str "begin"))) (dOp (fEq false) (dVar 1) (dC (.int 0))))) [1, 2]) (dNil)))
def F_kinds_right : FD := bodyF 3 u_kinds_right
def u_is_plain : SD := dRet (dOrV (dCall 1 F_is_kind (dCons (dVar 0) (dNil))) (dAndV (dCB (fIsX xs0 [] kt0) (dCons (dVar 0) (dCons (dC (.ty "int")) (dNil)))) (dAndV (dNotV (dCB (fIsX xs0 [] kt0) (dCons (dVar 0) (dCons (dC (.ty "bool")) (dNil))))) (dChain (fB fun i j => decide (i ≤ j)) (fB fun i j => decide (i ≤ j)) (dC (.int 0)) (dVar 0) (dC (.int 1000000000))))))
def F_is_plain : FD := bodyF 1 u_is_plain
def u_history_text : SD := dSeq (dIfS (dNot (dB (dCB (fIsT [] kt0) (dCons (dVar 0) (dCons (dTup (dCons (dC (.ty "list")) (dCons (dC (.ty "tuple")) (dNil)))) (dNil)))))) (dRaiseX 1 "at" (dCons (dC (.int 0)) (dNil))) (dNext)) (dSeq (dFor (dEnumT (dCons (dVar 0) (dNil))) (gdTup 2 (gdCons (gdName 1) (gdCons (gdName 2) (gdNil)))) (dIfS (dOr (dNot (dB (dCall 1 F_is_deed (dCons (dVar 2) (dNil))))) (dOr (dNot (dB (dCB (fAllB false) (dCons (dLc false (dSeqI (dSl false (dVar 2) (dPart (dC (.int 1))) (dNoPart))) (gdName 3) (dYes) (dCall 1 F_is_plain (dCons (dVar 3) (dNil))) [3]) (dNil))))) (dNot (dB (dCall 1 F_kinds_right (dCons (dVar 2) (dNil))))))) (dRaiseX 1 "at" (dCons (dVar 1) (dNil))) (dNext))) (dRet (dM1 fJoin (dC (.str "")) (dLc false (dSeqI (dVar 0)) (gdName 2) (dYes) (dOp (fAdd false) (dM1 fJoin (dC (.str " ")) (dLc false (dSeqP (dVar 2)) (gdName 3) (dYes) (dCB fStrT (dCons (dVar 3) (dNil))) [3])) (dC (.str "\n"))) [2]))))
def F_history_text : FD := bodyF 4 u_history_text
def u_lines_of : SD := dSeq (dAsg (dM1 (fSplit false) (dVar 0) (dC (.str "\n"))) (gdName 1)) (dRet (dTup (dCons (dSl false (dVar 1) (dNoPart) (dPart (dUn fNeg (dC (.int 1))))) (dCons (dOp fIx (dVar 1) (dUn fNeg (dC (.int 1)))) (dNil)))))
def F_lines_of : FD := bodyF 2 u_lines_of
def u_part_of : SD := dSeq (dIfS (dB (dCall 1 F_is_kind (dCons (dVar 0) (dNil)))) (dRet (dVar 0)) (dNext)) (dSeq (dIfS (dOr (dB (dOp (fEq false) (dVar 0) (dC (.str "")))) (dOr (dB (dOp (fB fun i j => decide (i > j)) (dCB fLen (dCons (dVar 0) (dNil))) (dC (.int 10)))) (dNot (dB (dCB (fAllB false) (dCons (dLc false (dStrI (dVar 0)) (gdName 1) (dYes) (dOp fInC (dVar 1) (dC (.str "0123456789"))) [1]) (dNil))))))) (dRet (dC .non)) (dNext)) (dRet (dIf (dAnd (dB (dOp (fEq false) (dCB fStrT (dCons (dCB fIntT (dCons (dVar 0) (dNil))) (dNil))) (dVar 0))) (dB (dOp (fB fun i j => decide (i ≤ j)) (dCB fIntT (dCons (dVar 0) (dNil))) (dC (.int 1000000000))))) (dCB fIntT (dCons (dVar 0) (dNil))) (dC .non))))
def F_part_of : FD := bodyF 2 u_part_of
def u_deed_of : SD := dSeq (dAsg (dM1 (fSplit false) (dVar 0) (dC (.str " "))) (gdName 1)) (dSeq (dAsg (dTup (dCons (dOp fIx (dVar 1) (dC (.int 0))) (dStar (dLc false (dSeqI (dSl false (dVar 1) (dPart (dC (.int 1))) (dNoPart))) (gdName 3) (dYes) (dCall 1 F_part_of (dCons (dVar 3) (dNil))) [3]) (dNil)))) (gdName 2)) (dRet (dIf (dAnd (dB (dOp (fIn true) (dC .non) (dVar 2))) (dAnd (dB (dCall 1 F_is_deed (dCons (dVar 2) (dNil)))) (dB (dCall 1 F_kinds_right (dCons (dVar 2) (dNil)))))) (dVar 2) (dC .non))))
def F_deed_of : FD := bodyF 4 u_deed_of
def u_read_history : SD := dSeq (dIfS (dNot (dB (dCB (fIsX xs0 [] kt0) (dCons (dVar 0) (dCons (dC (.ty "str")) (dNil)))))) (dRaiseX 6 "line" (dCons (dC (.int 0)) (dNil))) (dNext)) (dSeq (dAsg (dCall 1 F_lines_of (dCons (dVar 0) (dNil))) (gdTup 2 (gdCons (gdName 1) (gdCons (gdName 2) (gdNil))))) (dSeq (dAsg (dLst true (dNil)) (gdName 3)) (dSeq (dFor (dEnumT (dCons (dVar 1) (dNil))) (gdTup 2 (gdCons (gdName 4) (gdCons (gdName 5) (gdNil)))) (dSeq (dAsg (dCall 1 F_deed_of (dCons (dVar 5) (dNil))) (gdName 6)) (dSeq (dIfS (dB (dOp (fIsN false) (dVar 6) (dC .non))) (dRaiseX 6 "line" (dCons (dVar 4) (dNil))) (dNext)) (dDrop (dBM "list" fAppend (dVar 3) (dCons (dVar 6) (dNil))))))) (dSeq (dIfS (dB (dOp (fEq true) (dVar 2) (dC (.str "")))) (dRaiseX 6 "line" (dCons (dCB fLen (dCons (dVar 3) (dNil))) (dNil))) (dNext)) (dRet (dUn fzI (dVar 3)))))))
def F_read_history : FD := bodyF 7 u_read_history
def u_law : SD := dSeq (dAsg (dCall 1 F__law_begun (dCons (dVar 0) (dNil))) (gdName 1)) (dSeq (dAsg (dLst false (dCons (dC (.str "")) (dCons (dC (.str " ")) (dCons (dC (.str "\n")) (dCons (dC (.str "0")) (dCons (dC (.str "7")) (dCons (dC (.str "-")) (dCons (dC (.str "00")) (dCons (dC (.str "up")) (dCons (dC (.str "down")) (dCons (dC (.str "stop")) (dCons (dC (.str "step")) (dCons (dC (.str "cover")) (dCons (dC (.str "1000000000")) (dCons (dC (.str "+1")) (dNil)))))))))))))))) (gdName 2)) (dSeq (dAsg (dOp (fAdd false) (dVar 2) (dLst false (dCons (dC (.str "1000000001")) (dCons (dOp fMulS (dC (.str "9")) (dC (.int 300))) (dCons (dC (.str "write")) (dCons (dC (.str "begin")) (dCons (dC (.str "x")) (dCons (dC (.str "  ")) (dCons (dC (.str "_")) (dCons (dC (.str "1_0")) (dCons (dC (.str "Stop")) (dCons (dC (.str "UP")) (dNil))))))))))))) (gdName 2)) (dSeq (dFor (dRng1 (dCons (dOp (fAdd false) (dC (.int 6)) (dCB fMin (dCons (dCB fLen (dCons (dVar 0) (dNil))) (dCons (dC (.int 24)) (dNil))))) (dNil))) (gdName 3) (dSeq (dAsg (dLc false (dRng1 (dCons (dCall 2 F__law_take (dCons (dVar 1) (dCons (dC (.int 9)) (dNil)))) (dNil))) (gdName 5) (dYes) (dCall 1 F__law_text_deed (dCons (dVar 1) (dNil))) [5]) (gdName 4)) (dSeq (dAsg (dM1 fJoin (dC (.str "")) (dLc false (dSeqI (dVar 4)) (gdName 7) (dYes) (dCall 1 F__law_deed_line (dCons (dVar 7) (dNil))) [7])) (gdName 6)) (dSeq (dFor (dRng1 (dCons (dCall 2 F__law_pick (dCons (dVar 1) (dCons (dLst false (dCons (dC (.int 0)) (dCons (dC (.int 1)) (dCons (dC (.int 1)) (dCons (dC (.int 2)) (dCons (dC (.int 3)) (dNil))))))) (dNil)))) (dNil))) (gdName 8) (dAsg (dCall 3 F__law_bent_text (dCons (dVar 1) (dCons (dVar 6) (dCons (dVar 2) (dNil))))) (gdName 6))) (dSeq (dAsg (dOp (fAdd false) (dVar 6) (dCall 2 F__law_pick (dCons (dVar 1) (dCons (dLst false (dCons (dC (.str "")) (dCons (dC (.str "")) (dCons (dC (.str "")) (dCons (dC (.str "\n")) (dCons (dC (.str "stop")) (dCons (dC (.str "stop \n")) (dCons (dC (.str "x")) (dNil))))))))) (dNil))))) (gdName 6)) (dSeq (dAsg (dCall 1 F__law_read (dCons (dVar 6) (dNil))) (gdName 9)) (dSeq (dIfS (dB (dCB (fIsX xs0 [] kt0) (dCons (dVar 9) (dCons (dC (.ty "int")) (dNil))))) (dSeq (dIfS (dNot (dB (dLamC 2 F__law_is (dCall 1 F_read_history (dCons (dVar 6) (dNil))) (dCons (dC (.str "text")) (dCons (dVar 9) (dNil)))))) (dRet (dC (.bl false))) (dNext)) (dIfS (dNot (dB (dLamC 2 F__law_is (dCallN 0 1 ([.k 0]) F_read_history (dNil) (dCons (dVar 6) (dNil))) (dCons (dC (.str "text")) (dCons (dVar 9) (dNil)))))) (dRet (dC (.bl false))) (dNext))) (dIfS (dOr (dB (dOp (fEq true) (dCB fRepA (dCons (dCall 1 F_read_history (dCons (dVar 6) (dNil))) (dNil))) (dCB fRepA (dCons (dVar 9) (dNil))))) (dB (dOp (fEq true) (dCall 1 F_history_text (dCons (dCall 1 F_read_history (dCons (dVar 6) (dNil))) (dNil))) (dVar 6)))) (dRet (dC (.bl false))) (dNext))) (dSeq (dAsg (dCall 2 F__law_pick (dCons (dVar 1) (dCons (dLst false (dCons (dC .non) (dCons (dC (.int 5)) (dCons (dTup (dNil)) (dCons (dLst false (dNil)) (dCons (dDNew false) (dCons (dC (.bl true)) (dCons (dLst false (dCons (dVar 6) (dNil))) (dCons (dTup (dCons (dVar 6) (dNil))) (dCons (dOp fPow (dC (.int 10)) (dC (.int 30))) (dNil))))))))))) (dNil)))) (gdName 10)) (dIfS (dNot (dB (dLamC 2 F__law_is (dCall 1 F_read_history (dCons (dVar 10) (dNil))) (dCons (dC (.str "text")) (dCons (dC (.int 0)) (dNil)))))) (dRet (dC (.bl false))) (dNext)))))))))) (dRet (dC (.bl true))))))
def F_law : FD := bodyF 11 u_law
section
variable {P : Program} {w : World} {K : PySem.W.Frag} {mg : Str → Option Value} {base : Heap} {CA : CAs} {f : Addr} {fd : FuncData}
theorem sc__law_begun : FnScope ["_law_script", "_law_wide", "_law_cell"] ["_law_script"] (defScope s__law_begun) := ⟨rfl, rfl, rfl, by decide +kernel, rfl, by decide +kernel, by decide +kernel⟩
theorem ok__law_begun  (F : Fun K "_law_begun" "_law_begun" s__law_begun f fd) (T : Txt mg) (Hx : ∀ c ∈ (xs0 : List Nat), PySem.W.exmOne K (.ref (CA c)) (.ref (CA 0)) = some true) (XE : ∀ c ∈ (xs0 : List Nat), ExcOk K (CA c)) (Xf : XFd K CA) (SMb : SM base) (C : Cst K CA mg) (Kt : KtOk K CA [] kt0)  : FnG P w K mg base false 1 f fd ["_law_script"] (spD K CA 1 (bodyF 3 u__law_begun)) := by
  have nd := (sc__law_begun).nd
  refine okD F sc__law_begun rfl rfl fun cd A outer s H E hg hr tk => ?_
  have Y : WSs (cxD P w K mg base ["_law_script", "_law_wide", "_law_cell"] "_law_begun" s__law_begun f cd A outer s H E) K CA (wxD E) (defBody s__law_begun) _ _ := wss_cons (ws_setLc true (i := 1) rfl nd rfl rfl (own := [("_law_cell", 2)]) (wi_seq (we_var (pv 0))) (blkOk_by (N := ["_law_script", "_law_wide", "_law_cell"]) (sc := defScope s__law_begun) (by decide +kernel)) (fun s_ H_ C_ cl_ fp_ => wg_name (pg_name (i := 2) nd rfl (by first | exact Or.inl rfl | exact Or.inr rfl))) (fun s_ H_ C_ cl_ fp_ => wts_one (wt_cmp op_ge sim_cB (we_cb sim_abs (wa_cons (we_var (pv 2)) (wa_nil)) (fun a => pe_callB call_abs (by rfl) T.z_abs boot_absU a)) (we_op op_pow sim_pow (we_int) (we_int)) (by rfl))) (fun s_ H_ C_ cl_ fp_ => we_op op_sub sim_subI (we_cb sim_abs (wa_cons (we_var (pv 2)) (wa_nil)) (fun a => pe_callB call_abs (by rfl) T.z_abs boot_absU a)) (we_op op_pow sim_pow (we_int) (we_int))) (by decide)) (wss_one (ws_ret (we_disp true (wp_cons (we_str) (we_var (pv 1)) (wp_cons (we_str) (we_lc false rfl nd (own := [("_law_cell", 2)]) (wi_seq (we_var (pv 0))) (blkOk_by (N := ["_law_script", "_law_wide", "_law_cell"]) (sc := defScope s__law_begun) (by decide +kernel)) (fun s_ H_ C_ cl_ fp_ => wg_name (pg_name (i := 2) nd rfl (by first | exact Or.inl rfl | exact Or.inr rfl))) (fun s_ H_ C_ cl_ fp_ => wts_nil) (fun s_ H_ C_ cl_ fp_ => we_op op_mod sim_mod (we_cb sim_int (wa_cons (we_cb sim_abs (wa_cons (we_var (pv 2)) (wa_nil)) (fun a => pe_callB call_abs (by rfl) T.z_abs boot_absU a)) (wa_nil)) (fun a => pe_callTy call_int1 (by rfl) T.z_int boot_intU a)) (we_int)) (by decide)) (wp_cons (we_str) (we_int) (wp_cons (we_str) (we_int) (wp_nil))))) (by rfl) (by rfl) (by decide) (by decide))))
  exact ⟨_, Y⟩
theorem sc__law_is_cell : FnScope ["_law_thing"] ["_law_thing"] (defScope s__law_is_cell) := ⟨rfl, rfl, rfl, by decide +kernel, rfl, by decide +kernel, by decide +kernel⟩
theorem ok__law_is_cell  (F : Fun K "_law_is_cell" "_law_is_cell" s__law_is_cell f fd) (T : Txt mg) (Hx : ∀ c ∈ (xs0 : List Nat), PySem.W.exmOne K (.ref (CA c)) (.ref (CA 0)) = some true) (XE : ∀ c ∈ (xs0 : List Nat), ExcOk K (CA c)) (Xf : XFd K CA) (SMb : SM base) (C : Cst K CA mg) (Kt : KtOk K CA [] kt0)  : FnG P w K mg base false 1 f fd ["_law_thing"] (spD K CA 1 (bodyF 1 u__law_is_cell)) := by
  have nd := (sc__law_is_cell).nd
  refine okD F sc__law_is_cell rfl rfl fun cd A outer s H E hg hr tk => ?_
  have Y : WSs (cxD P w K mg base ["_law_thing"] "_law_is_cell" s__law_is_cell f cd A outer s H E) K CA (wxD E) (defBody s__law_is_cell) _ _ := wss_one (ws_ret (we_and (we_cb (sim_isX (fun c hc => (XE c hc).toXkC) Kt) (wa_cons (we_var (pv 0)) (wa_cons (we_ty (pe_bltn (by rfl) T.z_int boot_intU rfl)) (wa_nil))) (fun a => pe_callB call_isX (by rfl) T.z_isinstance boot_isinstanceU a)) (we_and (we_not (we_cb (sim_isX (fun c hc => (XE c hc).toXkC) Kt) (wa_cons (we_var (pv 0)) (wa_cons (we_ty (pe_bltn (by rfl) T.z_bool boot_boolU rfl)) (wa_nil))) (fun a => pe_callB call_isX (by rfl) T.z_isinstance boot_isinstanceU a))) (we_one (we_cmp op_ge sim_cB (we_var (pv 0)) (we_int) (by rfl))))))
  exact ⟨_, Y⟩
theorem sc__law_is_text_deed : FnScope ["_law_thing", "_law_sizes", "_law_rest", "_law_kind", "_law_part_here"] ["_law_thing"] (defScope s__law_is_text_deed) := ⟨rfl, rfl, rfl, by decide +kernel, rfl, by decide +kernel, by decide +kernel⟩
theorem ok__law_is_text_deed {f__law_is_cell : Addr} {fd__law_is_cell : FuncData} (F : Fun K "_law_is_text_deed" "_law_is_text_deed" s__law_is_text_deed f fd) (T : Txt mg) (Hx : ∀ c ∈ (xs0 : List Nat), PySem.W.exmOne K (.ref (CA c)) (.ref (CA 0)) = some true) (XE : ∀ c ∈ (xs0 : List Nat), ExcOk K (CA c)) (Xf : XFd K CA) (SMb : SM base) (C : Cst K CA mg) (Kt : KtOk K CA [] kt0) (B__law_is_cell_1 : KwB K CA fd__law_is_cell ["_law_thing"] 1 [] (srcP 0 1)) (D__law_is_cell : Df P w K mg base CA "_law_is_cell" false 1 ["_law_thing"] F__law_is_cell f__law_is_cell fd__law_is_cell) : FnG P w K mg base false 2 f fd ["_law_thing"] (spD K CA 1 (bodyF 5 u__law_is_text_deed)) := by
  have nd := (sc__law_is_text_deed).nd
  refine okD F sc__law_is_text_deed rfl rfl fun cd A outer s H E hg hr tk => ?_
  have Y : WSs (cxD P w K mg base ["_law_thing", "_law_sizes", "_law_rest", "_law_kind", "_law_part_here"] "_law_is_text_deed" s__law_is_text_deed f cd A outer s H E) K CA (wxD E) (defBody s__law_is_text_deed) _ _ := wss_cons (ws_set (we_disp false (wp_cons (we_str) (we_int) (wp_cons (we_str) (we_int) (wp_cons (we_str) (we_int) (wp_cons (we_str) (we_int) (wp_cons (we_str) (we_int) (wp_cons (we_str) (we_int) (wp_nil))))))) (by rfl) (by rfl) (by decide) (by decide)) (fun q => ps_set (i := 1) nd rfl (by first | exact Or.inl rfl | exact Or.inr rfl) q)) (wss_cons (ws_if (CM.WW.wt (ww_or (wt_not (wt_val (we_cb (sim_isX (fun c hc => (XE c hc).toXkC) Kt) (wa_cons (we_var (pv 0)) (wa_cons (we_ty (pe_bltn (by rfl) T.z_tuple boot_tupleU rfl)) (wa_nil))) (fun a => pe_callB call_isX (by rfl) T.z_isinstance boot_isinstanceU a)))) (ww_or (wt_cmp (op_eqE hr.units) sim_eqE (we_var (pv 0)) (we_tup (wa_nil)) (by rfl)) (ww_or1 (wt_not (wt_val (we_cb (sim_isX (fun c hc => (XE c hc).toXkC) Kt) (wa_cons (we_ix (ixU (hu_of hr)) sim_ix (we_var (pv 0)) (we_int)) (wa_cons (we_ty (pe_bltn (by rfl) T.z_str boot_strU rfl)) (wa_nil))) (fun a => pe_callB call_isX (by rfl) T.z_isinstance boot_isinstanceU a)))))))) (wss_one (ws_ret (we_bl))) (wss_nil)) (wss_cons (ws_if (wt_cmp (op_neU hr.units) sim_ne (we_get2 (we_var (pv 1)) (we_ix (ixU (hu_of hr)) sim_ix (we_var (pv 0)) (we_int)) (we_int) (fun a b c => pe_dget2 (hu_of hr) a b c ⟨rfl, rfl, rfl, rfl⟩)) (we_cb sim_len (wa_cons (we_var (pv 0)) (wa_nil)) (fun a => pe_callB (call_lenU rfl call_lenRd) (by rfl) T.z_len boot_lenU a)) (by rfl)) (wss_one (ws_ret (we_bl))) (wss_nil)) (wss_cons (ws_set (we_cb (sim_listOf (nm := true)) (wa_cons (we_slice false (we_var (pv 0)) (wo_some (we_int)) (wo_none)) (wa_nil)) (fun a => pe_callTy call_listOf (by rfl) T.z_list boot_listU a)) (fun q => ps_set (i := 2) nd rfl (by first | exact Or.inl rfl | exact Or.inr rfl) q)) (wss_cons (ws_if (wt_cmp (op_eqU hr.units) sim_eq (we_ix (ixU (hu_of hr)) sim_ix (we_var (pv 0)) (we_int)) (we_str) (by rfl)) (wss_cons (ws_set (we_bm (T := "list") (r := rPopAt) sim_popAt (we_var (pv 2)) (wa_cons (we_int) (wa_nil)) (fun a b => pe_bm PySem.F.plainAttrs_list PySem.F.slot_list_pop PySem.F.type_list_pop mt_popAt a b)) (fun q => ps_set (i := 3) nd rfl (by first | exact Or.inl rfl | exact Or.inr rfl) q)) (wss_one (ws_if (CM.WW.wt (ww_or (wt_not (wt_val (we_cb (sim_isX (fun c hc => (XE c hc).toXkC) Kt) (wa_cons (we_var (pv 3)) (wa_cons (we_ty (pe_bltn (by rfl) T.z_str boot_strU rfl)) (wa_nil))) (fun a => pe_callB call_isX (by rfl) T.z_isinstance boot_isinstanceU a)))) (ww_or1 (wt_cmp (op_notInU (hu_of hr)) (sim_in (neg := true)) (we_var (pv 3)) (we_tup (wa_cons (we_str) (wa_cons (we_str) (wa_nil)))) (by rfl))))) (wss_one (ws_ret (we_bl))) (wss_nil)))) (wss_nil)) (wss_one (ws_ret (we_cmp (op_eqL hr.units) sim_eqL (we_lc false rfl nd (own := [("_law_part_here", 4)]) (wi_seq (we_var (pv 2))) (blkOk_by (N := ["_law_thing", "_law_sizes", "_law_rest", "_law_kind", "_law_part_here"]) (sc := defScope s__law_is_text_deed) (by decide +kernel)) (fun s_ H_ C_ cl_ fp_ => wg_name (pg_name (i := 4) nd rfl (by first | exact Or.inl rfl | exact Or.inr rfl))) (fun s_ H_ C_ cl_ fp_ => wts_one (CM.WW.wt (ww_or (wt_not (wt_val (we_callP D__law_is_cell noG (hr.mono (by decide)) takes0 (wa_cons (we_var (pv 4)) (wa_nil)) B__law_is_cell_1))) (ww_or1 (wt_cmp op_gt sim_cB (we_var (pv 4)) (we_op op_pow sim_pow (we_int) (we_int)) (by rfl)))))) (fun s_ H_ C_ cl_ fp_ => we_var (pv 4)) (by decide)) (we_lst false (wa_nil)) (by rfl))))))))
  exact ⟨_, Y⟩
theorem sc__law_part : FnScope ["_law_word", "_law_sign"] ["_law_word"] (defScope s__law_part) := ⟨rfl, rfl, rfl, by decide +kernel, rfl, by decide +kernel, by decide +kernel⟩
theorem ok__law_part  (F : Fun K "_law_part" "_law_part" s__law_part f fd) (T : Txt mg) (Hx : ∀ c ∈ (xs0 : List Nat), PySem.W.exmOne K (.ref (CA c)) (.ref (CA 0)) = some true) (XE : ∀ c ∈ (xs0 : List Nat), ExcOk K (CA c)) (Xf : XFd K CA) (SMb : SM base) (C : Cst K CA mg) (Kt : KtOk K CA [] kt0)  : FnG P w K mg base false 1 f fd ["_law_word"] (spD K CA 1 (bodyF 2 u__law_part)) := by
  have nd := (sc__law_part).nd
  refine okD F sc__law_part rfl rfl fun cd A outer s H E hg hr tk => ?_
  have Y : WSs (cxD P w K mg base ["_law_word", "_law_sign"] "_law_part" s__law_part f cd A outer s H E) K CA (wxD E) (defBody s__law_part) _ _ := wss_cons (ws_if (wt_cmp (op_inU (hu_of hr)) (sim_in (neg := false)) (we_var (pv 0)) (we_tup (wa_cons (we_str) (wa_cons (we_str) (wa_nil)))) (by rfl)) (wss_one (ws_ret (we_var (pv 0)))) (wss_nil)) (wss_cons (ws_if (CM.WW.wt (ww_or (wt_cmp (op_eqU hr.units) sim_eq (we_var (pv 0)) (we_str) (by rfl)) (ww_or1 (wt_cmp (op_neL hr.units) sim_neL (we_lc false rfl nd (own := [("_law_sign", 1)]) (wi_str (we_var (pv 0))) (blkOk_by (N := ["_law_word", "_law_sign"]) (sc := defScope s__law_part) (by decide +kernel)) (fun s_ H_ C_ cl_ fp_ => wg_name (pg_name (i := 1) nd rfl (by first | exact Or.inl rfl | exact Or.inr rfl))) (fun s_ H_ C_ cl_ fp_ => wts_one (wt_cmp op_notIn_sign sim_nInC (we_var (pv 1)) (we_str) (by rfl))) (fun s_ H_ C_ cl_ fp_ => we_var (pv 1)) (by decide)) (we_lst false (wa_nil)) (by rfl))))) (wss_one (ws_ret (we_non))) (wss_nil)) (wss_one (ws_ret (we_ifExp (CM.WW.wt (ww_and (wt_cmp op_lt sim_cB (we_cb sim_len (wa_cons (we_var (pv 0)) (wa_nil)) (fun a => pe_callB (call_lenU rfl call_lenRd) (by rfl) T.z_len boot_lenU a)) (we_int) (by rfl)) (ww_and1 (CM.WW.wt (ww_or (wt_cmp (op_eqU hr.units) sim_eq (we_var (pv 0)) (we_str) (by rfl)) (ww_or1 (wt_cmp (op_neU hr.units) sim_ne (we_ix (ixU (hu_of hr)) sim_ix (we_var (pv 0)) (we_int)) (we_str) (by rfl)))))))) (we_cb sim_intT (wa_cons (we_var (pv 0)) (wa_nil)) (fun a => pe_callTy call_int_str (by rfl) T.z_int boot_intU a)) (we_non)))))
  exact ⟨_, Y⟩
theorem sc__law_read_line : FnScope ["_law_row", "_law_words", "_law_deed", "_law_word"] ["_law_row"] (defScope s__law_read_line) := ⟨rfl, rfl, rfl, by decide +kernel, rfl, by decide +kernel, by decide +kernel⟩
theorem ok__law_read_line {f__law_part : Addr} {fd__law_part : FuncData} {f__law_is_text_deed : Addr} {fd__law_is_text_deed : FuncData} (F : Fun K "_law_read_line" "_law_read_line" s__law_read_line f fd) (T : Txt mg) (Hx : ∀ c ∈ (xs0 : List Nat), PySem.W.exmOne K (.ref (CA c)) (.ref (CA 0)) = some true) (XE : ∀ c ∈ (xs0 : List Nat), ExcOk K (CA c)) (Xf : XFd K CA) (SMb : SM base) (C : Cst K CA mg) (Kt : KtOk K CA [] kt0) (B__law_part_1 : KwB K CA fd__law_part ["_law_word"] 1 [] (srcP 0 1)) (D__law_part : Df P w K mg base CA "_law_part" false 1 ["_law_word"] F__law_part f__law_part fd__law_part) (B__law_is_text_deed_1 : KwB K CA fd__law_is_text_deed ["_law_thing"] 1 [] (srcP 0 1)) (D__law_is_text_deed : Df P w K mg base CA "_law_is_text_deed" false 2 ["_law_thing"] F__law_is_text_deed f__law_is_text_deed fd__law_is_text_deed) : FnG P w K mg base false 3 f fd ["_law_row"] (spD K CA 1 (bodyF 4 u__law_read_line)) := by
  have nd := (sc__law_read_line).nd
  refine okD F sc__law_read_line rfl rfl fun cd A outer s H E hg hr tk => ?_
  have Y : WSs (cxD P w K mg base ["_law_row", "_law_words", "_law_deed", "_law_word"] "_law_read_line" s__law_read_line f cd A outer s H E) K CA (wxD E) (defBody s__law_read_line) _ _ := wss_cons (ws_set (we_m1 (sim_split (nm := false)) (we_var (pv 0)) (we_str) (fun a b => pe_split a b)) (fun q => ps_set (i := 1) nd rfl (by first | exact Or.inl rfl | exact Or.inr rfl) q)) (wss_cons (ws_set (we_cb sim_tupOf (wa_cons (we_op op_addU (sim_add (nm := false)) (we_slice false (we_var (pv 1)) (wo_none) (wo_some (we_int))) (we_lc false rfl nd (own := [("_law_word", 3)]) (wi_seq (we_slice false (we_var (pv 1)) (wo_some (we_int)) (wo_none))) (blkOk_by (N := ["_law_row", "_law_words", "_law_deed", "_law_word"]) (sc := defScope s__law_read_line) (by decide +kernel)) (fun s_ H_ C_ cl_ fp_ => wg_name (pg_name (i := 3) nd rfl (by first | exact Or.inl rfl | exact Or.inr rfl))) (fun s_ H_ C_ cl_ fp_ => wts_nil) (fun s_ H_ C_ cl_ fp_ => we_callP D__law_part noG (hr.mono (by decide)) takes0 (wa_cons (we_var (pv 3)) (wa_nil)) B__law_part_1) (by decide))) (wa_nil)) (fun a => pe_callTy call_tupOf (by rfl) T.z_tuple boot_tupleU a)) (fun q => ps_set (i := 2) nd rfl (by first | exact Or.inl rfl | exact Or.inr rfl) q)) (wss_one (ws_ret (we_ifExp (wt_val (we_callP D__law_is_text_deed noG (hr.mono (by decide)) tk (wa_cons (we_var (pv 2)) (wa_nil)) B__law_is_text_deed_1)) (we_var (pv 2)) (we_non)))))
  exact ⟨_, Y⟩
theorem sc__law_read : FnScope ["_law_page", "_law_rows", "_law_found", "_law_at", "_law_row", "_law_deed"] ["_law_page"] (defScope s__law_read) := ⟨rfl, rfl, rfl, by decide +kernel, rfl, by decide +kernel, by decide +kernel⟩
theorem ok__law_read {f__law_read_line : Addr} {fd__law_read_line : FuncData} (F : Fun K "_law_read" "_law_read" s__law_read f fd) (T : Txt mg) (Hx : ∀ c ∈ (xs0 : List Nat), PySem.W.exmOne K (.ref (CA c)) (.ref (CA 0)) = some true) (XE : ∀ c ∈ (xs0 : List Nat), ExcOk K (CA c)) (Xf : XFd K CA) (SMb : SM base) (C : Cst K CA mg) (Kt : KtOk K CA [] kt0) (B__law_read_line_1 : KwB K CA fd__law_read_line ["_law_row"] 1 [] (srcP 0 1)) (D__law_read_line : Df P w K mg base CA "_law_read_line" false 3 ["_law_row"] F__law_read_line f__law_read_line fd__law_read_line) : FnG P w K mg base false 4 f fd ["_law_page"] (spD K CA 1 (bodyF 6 u__law_read)) := by
  have nd := (sc__law_read).nd
  refine okD F sc__law_read rfl rfl fun cd A outer s H E hg hr tk => ?_
  have Y : WSs (cxD P w K mg base ["_law_page", "_law_rows", "_law_found", "_law_at", "_law_row", "_law_deed"] "_law_read" s__law_read f cd A outer s H E) K CA (wxD E) (defBody s__law_read) _ _ := wss_cons (ws_par (wa_cons (we_m1 (sim_split (nm := false)) (we_var (pv 0)) (we_str) (fun a b => pe_split a b)) (wa_cons (we_lst true (wa_nil)) (wa_nil))) (fun q => ps_par (i := 1) (j := 2) rfl nd rfl rfl (by decide) rfl rfl q (by rfl))) (wss_cons (ws_for (wi_enumT (wa_cons (we_slice false (we_var (pv 1)) (wo_none) (wo_some (we_neg (we_int)))) (wa_nil)) (fun a => pi_enumT (by rfl) T.z_enumerate a)) (wg_tup (n := 2) rfl (wgs_cons (wg_name (pg_name (i := 3) nd rfl (by first | exact Or.inl rfl | exact Or.inr rfl))) (wgs_cons (wg_name (pg_name (i := 4) nd rfl (by first | exact Or.inl rfl | exact Or.inr rfl))) (wgs_nil)))) (wss_cons (ws_set (we_callP D__law_read_line noG (hr.mono (by decide)) tk (wa_cons (we_var (pv 4)) (wa_nil)) B__law_read_line_1) (fun q => ps_set (i := 5) nd rfl (by first | exact Or.inl rfl | exact Or.inr rfl) q)) (wss_cons (ws_if (wt_cmp op_isN sim_isN (we_var (pv 5)) (we_non) (by rfl)) (wss_one (ws_ret (we_var (pv 3)))) (wss_nil)) (wss_one (ws_expr (we_bm (T := "list") (r := rAppend) sim_append (we_var (pv 2)) (wa_cons (we_var (pv 5)) (wa_nil)) (fun a b => pe_bm PySem.F.plainAttrs_list PySem.F.slot_list_append PySem.F.type_list_append mt_append a b)))))) (fun i g b => ps_for (passes_of rfl) rfl i g b)) (wss_one (ws_ret (we_ifExp (wt_cmp (op_eqU hr.units) sim_eq (we_ix (ixU (hu_of hr)) sim_ix (we_var (pv 1)) (we_neg (we_int))) (we_str) (by rfl)) (we_var (pv 2)) (we_op op_sub sim_subI (we_cb sim_len (wa_cons (we_var (pv 1)) (wa_nil)) (fun a => pe_callB (call_lenU rfl call_lenRd) (by rfl) T.z_len boot_lenU a)) (we_int))))))
  exact ⟨_, Y⟩
theorem sc__law_mixed : FnScope ["_law_draw", "_law_turn", "_law_found", "_law_prime", "_law_blend", "_law_cell"] ["_law_draw"] (defScope s__law_mixed) := ⟨rfl, rfl, rfl, by decide +kernel, rfl, by decide +kernel, by decide +kernel⟩
theorem ok__law_mixed  (F : Fun K "_law_mixed" "_law_mixed" s__law_mixed f fd) (T : Txt mg) (Hx : ∀ c ∈ (xs0 : List Nat), PySem.W.exmOne K (.ref (CA c)) (.ref (CA 0)) = some true) (XE : ∀ c ∈ (xs0 : List Nat), ExcOk K (CA c)) (Xf : XFd K CA) (SMb : SM base) (C : Cst K CA mg) (Kt : KtOk K CA [] kt0)  : FnG P w K mg base false 1 f fd ["_law_draw"] (spD K CA 1 (bodyF 6 u__law_mixed)) := by
  have nd := (sc__law_mixed).nd
  refine okD F sc__law_mixed rfl rfl fun cd A outer s H E hg hr tk => ?_
  have Y : WSs (cxD P w K mg base ["_law_draw", "_law_turn", "_law_found", "_law_prime", "_law_blend", "_law_cell"] "_law_mixed" s__law_mixed f cd A outer s H E) K CA (wxD E) (defBody s__law_mixed) _ _ := wss_cons (ws_par (wa_cons (we_op op_addU (sim_add (nm := false)) (we_ix (ixU (hu_of hr)) sim_ix (we_var (pv 0)) (we_str)) (we_int)) (wa_cons (we_int) (wa_nil))) (fun q => ps_par (i := 1) (j := 2) rfl nd rfl rfl (by decide) rfl rfl q (by rfl))) (wss_cons (ws_asg (we_var (pv 1)) (wg_sub (W := wxD E) (hu_of hr) (we_var (pv 0)) (we_str) (fun a b c => pg_sub a b c))) (wss_cons (ws_for (wi_seq (we_lst false (wa_cons (we_int) (wa_cons (we_int) (wa_cons (we_int) (wa_cons (we_int) (wa_nil))))))) (wg_name (pg_name (i := 3) nd rfl (by first | exact Or.inl rfl | exact Or.inr rfl))) (wss_cons (ws_set (we_op op_addU (sim_add (nm := false)) (we_op op_mulU (sim_mul (nm := false)) (we_int) (we_var (pv 1))) (we_op op_fdiv sim_div (we_var (pv 3)) (we_int))) (fun q => ps_set (i := 4) nd rfl (by first | exact Or.inl rfl | exact Or.inr rfl) q)) (wss_cons (ws_for (wi_seq (we_ix (ixU (hu_of hr)) sim_ix (we_var (pv 0)) (we_str))) (wg_name (pg_name (i := 5) nd rfl (by first | exact Or.inl rfl | exact Or.inr rfl))) (wss_one (ws_set (we_op op_mod sim_mod (we_cb sim_int (wa_cons (we_op op_addU (sim_add (nm := false)) (we_op op_addU (sim_add (nm := false)) (we_op op_mulU (sim_mul (nm := false)) (we_var (pv 4)) (we_int)) (we_var (pv 5))) (we_var (pv 1))) (wa_nil)) (fun a => pe_callTy call_int1 (by rfl) T.z_int boot_intU a)) (we_var (pv 3))) (fun q => ps_set (i := 4) nd rfl (by first | exact Or.inl rfl | exact Or.inr rfl) q))) (fun i g b => ps_for (passes_of rfl) rfl i g b)) (wss_one (ws_set (we_op op_addU (sim_add (nm := false)) (we_op op_mulU (sim_mul (nm := false)) (we_var (pv 2)) (we_int)) (we_op op_mod sim_mod (we_cb sim_int (wa_cons (we_op op_pow sim_pow (we_var (pv 4)) (we_int)) (wa_nil)) (fun a => pe_callTy call_int1 (by rfl) T.z_int boot_intU a)) (we_var (pv 3)))) (fun q => ps_set (i := 2) nd rfl (by first | exact Or.inl rfl | exact Or.inr rfl) q))))) (fun i g b => ps_for (passes_of rfl) rfl i g b)) (wss_one (ws_ret (we_var (pv 2))))))
  exact ⟨_, Y⟩
theorem sc__law_take : FnScope ["_law_draw", "_law_size", "_law_found"] ["_law_draw", "_law_size"] (defScope s__law_take) := ⟨rfl, rfl, rfl, by decide +kernel, rfl, by decide +kernel, by decide +kernel⟩
theorem ok__law_take {f__law_mixed : Addr} {fd__law_mixed : FuncData} (F : Fun K "_law_take" "_law_take" s__law_take f fd) (T : Txt mg) (Hx : ∀ c ∈ (xs0 : List Nat), PySem.W.exmOne K (.ref (CA c)) (.ref (CA 0)) = some true) (XE : ∀ c ∈ (xs0 : List Nat), ExcOk K (CA c)) (Xf : XFd K CA) (SMb : SM base) (C : Cst K CA mg) (Kt : KtOk K CA [] kt0) (B__law_mixed_1 : KwB K CA fd__law_mixed ["_law_draw"] 1 [] (srcP 0 1)) (D__law_mixed : Df P w K mg base CA "_law_mixed" false 1 ["_law_draw"] F__law_mixed f__law_mixed fd__law_mixed) : FnG P w K mg base false 2 f fd ["_law_draw", "_law_size"] (spD K CA 2 (bodyF 3 u__law_take)) := by
  have nd := (sc__law_take).nd
  refine okD F sc__law_take rfl rfl fun cd A outer s H E hg hr tk => ?_
  have Y : WSs (cxD P w K mg base ["_law_draw", "_law_size", "_law_found"] "_law_take" s__law_take f cd A outer s H E) K CA (wxD E) (defBody s__law_take) _ _ := wss_cons (ws_if (wt_cmp (op_eqU hr.units) sim_eq (we_ix (ixU (hu_of hr)) sim_ix (we_var (pv 0)) (we_str)) (we_int) (by rfl)) (wss_one (ws_asg (we_ifExp (wt_cmp (op_neU hr.units) sim_ne (we_ix (ixU (hu_of hr)) sim_ix (we_var (pv 0)) (we_str)) (we_lst false (wa_nil)) (by rfl)) (we_bm (T := "list") (r := rPopAt) sim_popAt (we_ix (ixU (hu_of hr)) sim_ix (we_var (pv 0)) (we_str)) (wa_cons (we_int) (wa_nil)) (fun a b => pe_bm PySem.F.plainAttrs_list PySem.F.slot_list_pop PySem.F.type_list_pop mt_popAt a b)) (we_callP D__law_mixed noG (hr.mono (by decide)) tk (wa_cons (we_var (pv 0)) (wa_nil)) B__law_mixed_1)) (wg_sub (W := wxD E) (hu_of hr) (we_var (pv 0)) (we_str) (fun a b c => pg_sub a b c)))) (wss_nil)) (wss_cons (ws_set (we_op op_mod sim_mod (we_cb sim_int (wa_cons (we_ix (ixU (hu_of hr)) sim_ix (we_var (pv 0)) (we_str)) (wa_nil)) (fun a => pe_callTy call_int1 (by rfl) T.z_int boot_intU a)) (we_var (pv 1))) (fun q => ps_set (i := 2) nd rfl (by first | exact Or.inl rfl | exact Or.inr rfl) q)) (wss_cons (ws_asg (we_op op_fdiv sim_div (we_ix (ixU (hu_of hr)) sim_ix (we_var (pv 0)) (we_str)) (we_var (pv 1))) (wg_sub (W := wxD E) (hu_of hr) (we_var (pv 0)) (we_str) (fun a b c => pg_sub a b c))) (wss_one (ws_ret (we_var (pv 2))))))
  exact ⟨_, Y⟩
theorem sc__law_pick : FnScope ["_law_draw", "_law_some"] ["_law_draw", "_law_some"] (defScope s__law_pick) := ⟨rfl, rfl, rfl, by decide +kernel, rfl, by decide +kernel, by decide +kernel⟩
theorem ok__law_pick {f__law_take : Addr} {fd__law_take : FuncData} (F : Fun K "_law_pick" "_law_pick" s__law_pick f fd) (T : Txt mg) (Hx : ∀ c ∈ (xs0 : List Nat), PySem.W.exmOne K (.ref (CA c)) (.ref (CA 0)) = some true) (XE : ∀ c ∈ (xs0 : List Nat), ExcOk K (CA c)) (Xf : XFd K CA) (SMb : SM base) (C : Cst K CA mg) (Kt : KtOk K CA [] kt0) (B__law_take_2 : KwB K CA fd__law_take ["_law_draw", "_law_size"] 2 [] (srcP 0 2)) (D__law_take : Df P w K mg base CA "_law_take" false 2 ["_law_draw", "_law_size"] F__law_take f__law_take fd__law_take) : FnG P w K mg base false 3 f fd ["_law_draw", "_law_some"] (spD K CA 2 (bodyF 2 u__law_pick)) := by
  have nd := (sc__law_pick).nd
  refine okD F sc__law_pick rfl rfl fun cd A outer s H E hg hr tk => ?_
  have Y : WSs (cxD P w K mg base ["_law_draw", "_law_some"] "_law_pick" s__law_pick f cd A outer s H E) K CA (wxD E) (defBody s__law_pick) _ _ := wss_one (ws_ret (we_ix (ixU (hu_of hr)) sim_ix (we_var (pv 1)) (we_callP D__law_take noG (hr.mono (by decide)) tk (wa_cons (we_var (pv 0)) (wa_cons (we_cb sim_len (wa_cons (we_var (pv 1)) (wa_nil)) (fun a => pe_callB (call_lenU rfl call_lenRd) (by rfl) T.z_len boot_lenU a)) (wa_nil))) B__law_take_2)))
  exact ⟨_, Y⟩
theorem sc__law_text_number : FnScope ["_law_draw"] ["_law_draw"] (defScope s__law_text_number) := ⟨rfl, rfl, rfl, by decide +kernel, rfl, by decide +kernel, by decide +kernel⟩
theorem ok__law_text_number {f__law_pick : Addr} {fd__law_pick : FuncData} {f__law_take : Addr} {fd__law_take : FuncData} (F : Fun K "_law_text_number" "_law_text_number" s__law_text_number f fd) (T : Txt mg) (Hx : ∀ c ∈ (xs0 : List Nat), PySem.W.exmOne K (.ref (CA c)) (.ref (CA 0)) = some true) (XE : ∀ c ∈ (xs0 : List Nat), ExcOk K (CA c)) (Xf : XFd K CA) (SMb : SM base) (C : Cst K CA mg) (Kt : KtOk K CA [] kt0) (B__law_pick_2 : KwB K CA fd__law_pick ["_law_draw", "_law_some"] 2 [] (srcP 0 2)) (D__law_pick : Df P w K mg base CA "_law_pick" false 3 ["_law_draw", "_law_some"] F__law_pick f__law_pick fd__law_pick) (B__law_take_2 : KwB K CA fd__law_take ["_law_draw", "_law_size"] 2 [] (srcP 0 2)) (D__law_take : Df P w K mg base CA "_law_take" false 2 ["_law_draw", "_law_size"] F__law_take f__law_take fd__law_take) : FnG P w K mg base false 4 f fd ["_law_draw"] (spD K CA 1 (bodyF 1 u__law_text_number)) := by
  have nd := (sc__law_text_number).nd
  refine okD F sc__law_text_number rfl rfl fun cd A outer s H E hg hr tk => ?_
  have Y : WSs (cxD P w K mg base ["_law_draw"] "_law_text_number" s__law_text_number f cd A outer s H E) K CA (wxD E) (defBody s__law_text_number) _ _ := wss_one (ws_ret (we_callP D__law_pick noG (hr.mono (by decide)) tk (wa_cons (we_var (pv 0)) (wa_cons (we_lst false (wa_cons (we_int) (wa_cons (we_int) (wa_cons (we_callP D__law_take noG (hr.mono (by decide)) tk (wa_cons (we_var (pv 0)) (wa_cons (we_int) (wa_nil))) B__law_take_2) (wa_cons (we_callP D__law_take noG (hr.mono (by decide)) tk (wa_cons (we_var (pv 0)) (wa_cons (we_op op_addU (sim_add (nm := false)) (we_op op_pow sim_pow (we_int) (we_int)) (we_int)) (wa_nil))) B__law_take_2) (wa_cons (we_op op_pow sim_pow (we_int) (we_int)) (wa_nil))))))) (wa_nil))) B__law_pick_2))
  exact ⟨_, Y⟩
theorem sc__law_text_deed : FnScope ["_law_draw", "_law_word", "_law_size", "_law_part_here"] ["_law_draw"] (defScope s__law_text_deed) := ⟨rfl, rfl, rfl, by decide +kernel, rfl, by decide +kernel, by decide +kernel⟩
theorem ok__law_text_deed {f__law_pick : Addr} {fd__law_pick : FuncData} {f__law_text_number : Addr} {fd__law_text_number : FuncData} (F : Fun K "_law_text_deed" "_law_text_deed" s__law_text_deed f fd) (T : Txt mg) (Hx : ∀ c ∈ (xs0 : List Nat), PySem.W.exmOne K (.ref (CA c)) (.ref (CA 0)) = some true) (XE : ∀ c ∈ (xs0 : List Nat), ExcOk K (CA c)) (Xf : XFd K CA) (SMb : SM base) (C : Cst K CA mg) (Kt : KtOk K CA [] kt0) (B__law_pick_2 : KwB K CA fd__law_pick ["_law_draw", "_law_some"] 2 [] (srcP 0 2)) (D__law_pick : Df P w K mg base CA "_law_pick" false 3 ["_law_draw", "_law_some"] F__law_pick f__law_pick fd__law_pick) (B__law_text_number_1 : KwB K CA fd__law_text_number ["_law_draw"] 1 [] (srcP 0 1)) (D__law_text_number : Df P w K mg base CA "_law_text_number" false 4 ["_law_draw"] F__law_text_number f__law_text_number fd__law_text_number) : FnG P w K mg base false 5 f fd ["_law_draw"] (spD K CA 1 (bodyF 4 u__law_text_deed)) := by
  have nd := (sc__law_text_deed).nd
  refine okD F sc__law_text_deed rfl rfl fun cd A outer s H E hg hr tk => ?_
  have Y : WSs (cxD P w K mg base ["_law_draw", "_law_word", "_law_size", "_law_part_here"] "_law_text_deed" s__law_text_deed f cd A outer s H E) K CA (wxD E) (defBody s__law_text_deed) _ _ := wss_cons (ws_set (we_callP D__law_pick noG (hr.mono (by decide)) tk (wa_cons (we_var (pv 0)) (wa_cons (we_lst false (wa_cons (we_str) (wa_cons (we_str) (wa_cons (we_str) (wa_cons (we_str) (wa_cons (we_str) (wa_cons (we_str) (wa_nil)))))))) (wa_nil))) B__law_pick_2) (fun q => ps_set (i := 1) nd rfl (by first | exact Or.inl rfl | exact Or.inr rfl) q)) (wss_cons (ws_if (wt_cmp (op_eqU hr.units) sim_eq (we_var (pv 1)) (we_str) (by rfl)) (wss_one (ws_ret (we_tup (wa_cons (we_var (pv 1)) (wa_cons (we_callP D__law_pick noG (hr.mono (by decide)) tk (wa_cons (we_var (pv 0)) (wa_cons (we_lst false (wa_cons (we_str) (wa_cons (we_str) (wa_nil)))) (wa_nil))) B__law_pick_2) (wa_cons (we_callP D__law_text_number noG (hr.mono (by decide)) tk (wa_cons (we_var (pv 0)) (wa_nil)) B__law_text_number_1) (wa_nil))))))) (wss_nil)) (wss_cons (ws_set (we_get2 (we_disp false (wp_cons (we_str) (we_int) (wp_cons (we_str) (we_int) (wp_nil))) (by rfl) (by rfl) (by decide) (by decide)) (we_var (pv 1)) (we_int) (fun a b c => pe_dget2 (hu_of hr) a b c ⟨rfl, rfl, rfl, rfl⟩)) (fun q => ps_set (i := 2) nd rfl (by first | exact Or.inl rfl | exact Or.inr rfl) q)) (wss_one (ws_ret (we_cb sim_tupOf (wa_cons (we_op op_addU (sim_add (nm := false)) (we_lst false (wa_cons (we_var (pv 1)) (wa_nil))) (we_lc false rfl nd (own := [("_law_part_here", 3)]) (wi_rng1 (wa_cons (we_var (pv 2)) (wa_nil)) (fun a => pi_range1 (by rfl) T.z_range a)) (blkOk_by (N := ["_law_draw", "_law_word", "_law_size", "_law_part_here"]) (sc := defScope s__law_text_deed) (by decide +kernel)) (fun s_ H_ C_ cl_ fp_ => wg_name (pg_name (i := 3) nd rfl (by first | exact Or.inl rfl | exact Or.inr rfl))) (fun s_ H_ C_ cl_ fp_ => wts_nil) (fun s_ H_ C_ cl_ fp_ => we_callP D__law_text_number noG (hr.mono (by decide)) takes0 (wa_cons (we_var (pv 0)) (wa_nil)) B__law_text_number_1) (by decide))) (wa_nil)) (fun a => pe_callTy call_tupOf (by rfl) T.z_tuple boot_tupleU a))))))
  exact ⟨_, Y⟩
theorem sc__law_bent_text : FnScope ["_law_draw", "_law_page", "_law_signs", "_law_way", "_law_rows", "_law_spot", "_law_other", "_law_at", "_law_words", "_law_k"] ["_law_draw", "_law_page", "_law_signs"] (defScope s__law_bent_text) := ⟨rfl, rfl, rfl, by decide +kernel, rfl, by decide +kernel, by decide +kernel⟩
theorem ok__law_bent_text {f__law_take : Addr} {fd__law_take : FuncData} {f__law_pick : Addr} {fd__law_pick : FuncData} (F : Fun K "_law_bent_text" "_law_bent_text" s__law_bent_text f fd) (T : Txt mg) (Hx : ∀ c ∈ (xs0 : List Nat), PySem.W.exmOne K (.ref (CA c)) (.ref (CA 0)) = some true) (XE : ∀ c ∈ (xs0 : List Nat), ExcOk K (CA c)) (Xf : XFd K CA) (SMb : SM base) (C : Cst K CA mg) (Kt : KtOk K CA [] kt0) (B__law_take_2 : KwB K CA fd__law_take ["_law_draw", "_law_size"] 2 [] (srcP 0 2)) (D__law_take : Df P w K mg base CA "_law_take" false 2 ["_law_draw", "_law_size"] F__law_take f__law_take fd__law_take) (B__law_pick_2 : KwB K CA fd__law_pick ["_law_draw", "_law_some"] 2 [] (srcP 0 2)) (D__law_pick : Df P w K mg base CA "_law_pick" false 3 ["_law_draw", "_law_some"] F__law_pick f__law_pick fd__law_pick) : FnG P w K mg base false 4 f fd ["_law_draw", "_law_page", "_law_signs"] (spD K CA 3 (bodyF 10 u__law_bent_text)) := by
  have nd := (sc__law_bent_text).nd
  refine okD F sc__law_bent_text rfl rfl fun cd A outer s H E hg hr tk => ?_
  have Y : WSs (cxD P w K mg base ["_law_draw", "_law_page", "_law_signs", "_law_way", "_law_rows", "_law_spot", "_law_other", "_law_at", "_law_words", "_law_k"] "_law_bent_text" s__law_bent_text f cd A outer s H E) K CA (wxD E) (defBody s__law_bent_text) _ _ := wss_cons (ws_par (wa_cons (we_callP D__law_take noG (hr.mono (by decide)) tk (wa_cons (we_var (pv 0)) (wa_cons (we_int) (wa_nil))) B__law_take_2) (wa_cons (we_m1 (sim_split (nm := true)) (we_var (pv 1)) (we_str) (fun a b => pe_split a b)) (wa_nil))) (fun q => ps_par (i := 3) (j := 4) rfl nd rfl rfl (by decide) rfl rfl q (by rfl))) (wss_cons (ws_par (wa_cons (we_callP D__law_take noG (hr.mono (by decide)) tk (wa_cons (we_var (pv 0)) (wa_cons (we_op op_addU (sim_add (nm := false)) (we_cb sim_len (wa_cons (we_var (pv 1)) (wa_nil)) (fun a => pe_callB (call_lenU rfl call_lenRd) (by rfl) T.z_len boot_lenU a)) (we_int)) (wa_nil))) B__law_take_2) (wa_cons (we_callP D__law_take noG (hr.mono (by decide)) tk (wa_cons (we_var (pv 0)) (wa_cons (we_cb sim_len (wa_cons (we_var (pv 4)) (wa_nil)) (fun a => pe_callB (call_lenU rfl call_lenRd) (by rfl) T.z_len boot_lenU a)) (wa_nil))) B__law_take_2) (wa_nil))) (fun q => ps_par (i := 5) (j := 6) rfl nd rfl rfl (by decide) rfl rfl q (by rfl))) (wss_cons (ws_set (we_callP D__law_take noG (hr.mono (by decide)) tk (wa_cons (we_var (pv 0)) (wa_cons (we_cb sim_len (wa_cons (we_var (pv 4)) (wa_nil)) (fun a => pe_callB (call_lenU rfl call_lenRd) (by rfl) T.z_len boot_lenU a)) (wa_nil))) B__law_take_2) (fun q => ps_set (i := 7) nd rfl (by first | exact Or.inl rfl | exact Or.inr rfl) q)) (wss_cons (ws_if (wt_cmp (op_eqU hr.units) sim_eq (we_var (pv 3)) (we_int) (by rfl)) (wss_one (ws_ret (we_op op_addU (sim_add (nm := false)) (we_op op_addU (sim_add (nm := false)) (we_sliceT (we_var (pv 1)) (wo_none) (wo_some (we_var (pv 5)))) (we_callP D__law_pick noG (hr.mono (by decide)) tk (wa_cons (we_var (pv 0)) (wa_cons (we_var (pv 2)) (wa_nil))) B__law_pick_2)) (we_sliceT (we_var (pv 1)) (wo_some (we_var (pv 5))) (wo_none))))) (wss_nil)) (wss_cons (ws_if (wt_cmp (op_eqU hr.units) sim_eq (we_var (pv 3)) (we_int) (by rfl)) (wss_one (ws_ret (we_op op_addU (sim_add (nm := false)) (we_sliceT (we_var (pv 1)) (wo_none) (wo_some (we_var (pv 5)))) (we_sliceT (we_var (pv 1)) (wo_some (we_op op_addU (sim_add (nm := false)) (we_var (pv 5)) (we_int))) (wo_none))))) (wss_nil)) (wss_cons (ws_if (wt_cmp (op_eqU hr.units) sim_eq (we_var (pv 3)) (we_int) (by rfl)) (wss_one (ws_ret (we_op op_addU (sim_add (nm := false)) (we_op op_addU (sim_add (nm := false)) (we_sliceT (we_var (pv 1)) (wo_none) (wo_some (we_var (pv 5)))) (we_callP D__law_pick noG (hr.mono (by decide)) tk (wa_cons (we_var (pv 0)) (wa_cons (we_var (pv 2)) (wa_nil))) B__law_pick_2)) (we_sliceT (we_var (pv 1)) (wo_some (we_op op_addU (sim_add (nm := false)) (we_var (pv 5)) (we_int))) (wo_none))))) (wss_nil)) (wss_cons (ws_if (wt_cmp (op_eqU hr.units) sim_eq (we_var (pv 3)) (we_int) (by rfl)) (wss_one (ws_ret (we_sliceT (we_var (pv 1)) (wo_none) (wo_some (we_var (pv 5)))))) (wss_nil)) (wss_cons (ws_if (wt_cmp (op_eqU hr.units) sim_eq (we_var (pv 3)) (we_int) (by rfl)) (wss_one (ws_asg (we_tup (wa_cons (we_ix (ixU (hu_of hr)) sim_ix (we_var (pv 4)) (we_var (pv 6))) (wa_cons (we_ix (ixU (hu_of hr)) sim_ix (we_var (pv 4)) (we_var (pv 7))) (wa_nil)))) (wg_tup (n := 2) rfl (wgs_cons (wg_sub (W := wxD E) (hu_of hr) (we_var (pv 4)) (we_var (pv 7)) (fun a b c => pg_sub a b c)) (wgs_cons (wg_sub (W := wxD E) (hu_of hr) (we_var (pv 4)) (we_var (pv 6)) (fun a b c => pg_sub a b c)) (wgs_nil)))))) (wss_one (ws_if (wt_cmp (op_eqU hr.units) sim_eq (we_var (pv 3)) (we_int) (by rfl)) (wss_one (ws_set (we_op op_addU (sim_add (nm := true)) (we_slice false (we_var (pv 4)) (wo_none) (wo_some (we_var (pv 7)))) (we_slice false (we_var (pv 4)) (wo_some (we_op op_addU (sim_add (nm := false)) (we_var (pv 7)) (we_int))) (wo_none))) (fun q => ps_set (i := 4) nd rfl (by first | exact Or.inl rfl | exact Or.inr rfl) q))) (wss_one (ws_if (wt_cmp (op_eqU hr.units) sim_eq (we_var (pv 3)) (we_int) (by rfl)) (wss_one (ws_set (we_op op_addU (sim_add (nm := true)) (we_op op_addU (sim_add (nm := false)) (we_slice false (we_var (pv 4)) (wo_none) (wo_some (we_var (pv 7)))) (we_lst false (wa_cons (we_ix (ixU (hu_of hr)) sim_ix (we_var (pv 4)) (we_var (pv 6))) (wa_nil)))) (we_slice false (we_var (pv 4)) (wo_some (we_var (pv 7))) (wo_none))) (fun q => ps_set (i := 4) nd rfl (by first | exact Or.inl rfl | exact Or.inr rfl) q))) (wss_cons (ws_set (we_m1 (sim_split (nm := true)) (we_ix (ixU (hu_of hr)) sim_ix (we_var (pv 4)) (we_var (pv 7))) (we_str) (fun a b => pe_split a b)) (fun q => ps_set (i := 8) nd rfl (by first | exact Or.inl rfl | exact Or.inr rfl) q)) (wss_cons (ws_set (we_callP D__law_take noG (hr.mono (by decide)) tk (wa_cons (we_var (pv 0)) (wa_cons (we_cb sim_len (wa_cons (we_var (pv 8)) (wa_nil)) (fun a => pe_callB (call_lenU rfl call_lenRd) (by rfl) T.z_len boot_lenU a)) (wa_nil))) B__law_take_2) (fun q => ps_set (i := 9) nd rfl (by first | exact Or.inl rfl | exact Or.inr rfl) q)) (wss_cons (ws_asg (we_callP D__law_pick noG (hr.mono (by decide)) tk (wa_cons (we_var (pv 0)) (wa_cons (we_op op_addU (sim_add (nm := false)) (we_var (pv 2)) (we_var (pv 8))) (wa_nil))) B__law_pick_2) (wg_sub (W := wxD E) (hu_of hr) (we_var (pv 8)) (we_var (pv 9)) (fun a b c => pg_sub a b c))) (wss_one (ws_asg (we_m1 sim_join (we_str) (we_var (pv 8)) (fun a b => pe_join a b)) (wg_sub (W := wxD E) (hu_of hr) (we_var (pv 4)) (we_var (pv 7)) (fun a b c => pg_sub a b c)))))))))))) (wss_one (ws_ret (we_m1 sim_join (we_str) (we_var (pv 4)) (fun a b => pe_join a b)))))))))))
  exact ⟨_, Y⟩
theorem sc__law_refusal : FnScope ["_law_work", "_law_error", "_law_marks"] ["_law_work"] (defScope s__law_refusal) := ⟨rfl, rfl, rfl, by decide +kernel, rfl, by decide +kernel, by decide +kernel⟩
theorem ok__law_refusal  (kb : Nat) (F : Fun K "_law_refusal" "_law_refusal" s__law_refusal f fd) (T : Txt mg) (Hx : ∀ c ∈ (xs0 : List Nat), PySem.W.exmOne K (.ref (CA c)) (.ref (CA 0)) = some true) (XE : ∀ c ∈ (xs0 : List Nat), ExcOk K (CA c)) (Xf : XFd K CA) (SMb : SM base) (C : Cst K CA mg) (Kt : KtOk K CA [] kt0) (G__law_caught : Cgt K CA mg "_law_caught" 0) : FnL P w K mg base CA false (kb + 3) kb f fd ["_law_work"] 0 F__law_refusal := by
  have nd := (sc__law_refusal).nd
  refine okL (k := kb + 2) F sc__law_refusal rfl rfl fun cd X f_ c_ tl A outer s H e1 e2 e3 e4 e5 hg hr LF hc tk => ?_
  have Y : WSs (cxD P w K mg base ["_law_work", "_law_error", "_law_marks"] "_law_refusal" s__law_refusal f cd A outer s H E00) K CA (wxD E00) ((defBody s__law_refusal).drop 1) _ _ := wss_cons (ws_if (wt_cmp op_isN sim_isN (we_var (pv 1)) (we_non) (by rfl)) (wss_one (ws_ret (we_tup (wa_cons (we_str) (wa_cons (we_non) (wa_nil)))))) (wss_nil)) (wss_cons (ws_set (we_lst false (wa_cons (we_cb (sim_isX (fun c hc => (XE c hc).toXkC) Kt) (wa_cons (we_var (pv 1)) (wa_cons (we_gv C.g_BadBook) (wa_nil))) (fun a => pe_callB call_isX (by rfl) T.z_isinstance boot_isinstanceU a)) (wa_cons (we_cb (sim_isX (fun c hc => (XE c hc).toXkC) Kt) (wa_cons (we_var (pv 1)) (wa_cons (we_gv C.g_BadNumber) (wa_nil))) (fun a => pe_callB call_isX (by rfl) T.z_isinstance boot_isinstanceU a)) (wa_cons (we_cb (sim_isX (fun c hc => (XE c hc).toXkC) Kt) (wa_cons (we_var (pv 1)) (wa_cons (we_gv C.g_BadDeed) (wa_nil))) (fun a => pe_callB call_isX (by rfl) T.z_isinstance boot_isinstanceU a)) (wa_nil))))) (fun q => ps_set (i := 2) nd rfl (by first | exact Or.inl rfl | exact Or.inr rfl) q)) (wss_cons (ws_set (we_op op_addU (sim_add (nm := false)) (we_var (pv 2)) (we_lst false (wa_cons (we_cb (sim_isX (fun c hc => (XE c hc).toXkC) Kt) (wa_cons (we_var (pv 1)) (wa_cons (we_gv C.g_BadText) (wa_nil))) (fun a => pe_callB call_isX (by rfl) T.z_isinstance boot_isinstanceU a)) (wa_cons (we_cb (sim_isX (fun c hc => (XE c hc).toXkC) Kt) (wa_cons (we_var (pv 1)) (wa_cons (we_gv C.g_BadChain) (wa_nil))) (fun a => pe_callB call_isX (by rfl) T.z_isinstance boot_isinstanceU a)) (wa_cons (we_cb (sim_isX (fun c hc => (XE c hc).toXkC) Kt) (wa_cons (we_var (pv 1)) (wa_cons (we_gv C.g_BadPlan) (wa_nil))) (fun a => pe_callB call_isX (by rfl) T.z_isinstance boot_isinstanceU a)) (wa_nil)))))) (fun q => ps_set (i := 2) nd rfl (by first | exact Or.inl rfl | exact Or.inr rfl) q)) (wss_cons (ws_if (CM.WW.wt (ww_or (wt_cmp (op_neU hr.units) sim_ne (we_bm (T := "list") (r := rCntB K) sim_cntB (we_var (pv 2)) (wa_cons (we_bl) (wa_nil)) (fun a b => pe_bm PySem.F.plainAttrs_list PySem.F.slot_list_count PySem.F.type_list_count mt_bcount a b)) (we_int) (by rfl)) (ww_or1 (wt_not (wt_val (we_cb (sim_isX (fun c hc => (XE c hc).toXkC) Kt) (wa_cons (we_var (pv 1)) (wa_cons (we_ty (pe_bltn (by rfl) T.z_ValueError boot_ValueErrorU rfl)) (wa_nil))) (fun a => pe_callB call_isX (by rfl) T.z_isinstance boot_isinstanceU a))))))) (wss_one (ws_ret (we_tup (wa_cons (we_str) (wa_cons (we_non) (wa_nil)))))) (wss_nil)) (wss_cons (ws_if (wt_val (we_ix (ixU (hu_of hr)) sim_ix (we_var (pv 2)) (we_int))) (wss_one (ws_ret (we_tup (wa_cons (we_str) (wa_cons (we_xf Xf.x_field (we_var (pv 1))) (wa_nil)))))) (wss_nil)) (wss_cons (ws_if (wt_val (we_ix (ixU (hu_of hr)) sim_ix (we_var (pv 2)) (we_int))) (wss_one (ws_ret (we_tup (wa_cons (we_str) (wa_cons (we_xf Xf.x_number (we_var (pv 1))) (wa_nil)))))) (wss_nil)) (wss_cons (ws_if (wt_val (we_ix (ixU (hu_of hr)) sim_ix (we_var (pv 2)) (we_int))) (wss_one (ws_ret (we_tup (wa_cons (we_str) (wa_cons (we_xf Xf.x_at (we_var (pv 1))) (wa_nil)))))) (wss_nil)) (wss_one (ws_ret (we_ifExp (wt_val (we_ix (ixU (hu_of hr)) sim_ix (we_var (pv 2)) (we_int))) (we_tup (wa_cons (we_str) (wa_cons (we_xf Xf.x_line (we_var (pv 1))) (wa_nil)))) (we_tup (wa_cons (we_ix (ixU (hu_of hr)) sim_ix (we_lst false (wa_cons (we_str) (wa_cons (we_str) (wa_nil)))) (we_cb sim_int (wa_cons (we_ix (ixU (hu_of hr)) sim_ix (we_var (pv 2)) (we_int)) (wa_nil)) (fun a => pe_callTy call_int1 (by rfl) T.z_int boot_intU a))) (wa_cons (we_non) (wa_nil)))))))))))))
  exact ⟨_, pss_cons (ps_set (i := 1) nd rfl (by first | exact Or.inl rfl | exact Or.inr rfl) (pe_cght LF G__law_caught e1 e2 e3 e4 e5 rfl (hr.mono (by omega)) rfl (.inl rfl))) Y.pe, fun m h r_ hR hsim => simL_seq (simL_asg (simL_caught Hx hsim hc) sim_gName) Y.sim⟩
theorem sc__law_is : FnScope ["_law_work", "_law_word", "_law_kept"] ["_law_work", "_law_word", "_law_kept"] (defScope s__law_is) := ⟨rfl, rfl, rfl, by decide +kernel, rfl, by decide +kernel, by decide +kernel⟩
def cmpE : List Stmt → Expr
  | [.Return (some (.Compare _ _ [e] _)) _] => e
  | _ => .Name "x" ⟨0, 0, 0, 0⟩
theorem ok__law_is  (kb : Nat) (F : Fun K "_law_is" "_law_is" s__law_is f fd) (T : Txt mg) (Hx : ∀ c ∈ (xs0 : List Nat), PySem.W.exmOne K (.ref (CA c)) (.ref (CA 0)) = some true) (XE : ∀ c ∈ (xs0 : List Nat), ExcOk K (CA c)) (Xf : XFd K CA) (SMb : SM base) (C : Cst K CA mg) (Kt : KtOk K CA [] kt0) (L__law_refusal : ∀ kb : Nat, Dl P w K mg base CA "_law_refusal" false (kb + 3) kb ["_law_work"] 0 F__law_refusal) : FnL P w K mg base CA true (kb + 4) kb f fd ["_law_work", "_law_word", "_law_kept"] 2 F__law_is := by
  have nd := (sc__law_is).nd
  refine okL (k := kb + 3) F sc__law_is rfl rfl fun cd X f_ c_ tl A outer s H e1 e2 e3 e4 e5 hg hr LF hc tk => ?_
  have Y : WE (cxD P w K mg base ["_law_work", "_law_word", "_law_kept"] "_law_is" s__law_is f cd A outer s H E00) K CA (wxD E00) (cmpE (defBody s__law_is)) _ _ := we_cb sim_repA (wa_cons (we_tup (wa_cons (we_var (pv 1)) (wa_cons (we_var (pv 2)) (wa_nil)))) (wa_nil)) (fun a => pe_callB (call_repA SMb (hg rfl) hr.units) (by rfl) T.z_repr boot_reprU a)
  exact ⟨_, pss_one (ps_ret (pe_cmpR (op_eqU hr.units) (pe_callB (call_repA SMb (hg rfl) hr.units) (by rfl) T.z_repr boot_reprU (pa_cons (pe_lamfn LF (L__law_refusal kb) e1 e2 e3 e4 e5 rfl noG (hr.mono (by omega)) rfl (.inl rfl)) pa_nil)) Y.pe rfl)), fun m h r_ hR hsim => simL_ret (simL_op sim_eq (simL_CB sim_repA (simL_cons (simL_fn hsim hc) (wa_nil (X := cxD P w K mg base ["_law_work", "_law_word", "_law_kept"] "_law_is" s__law_is f cd A outer s H E00)).sim)) Y.sim)⟩
theorem sc__law_deed_line : FnScope ["_law_deed", "_law_part_here"] ["_law_deed"] (defScope s__law_deed_line) := ⟨rfl, rfl, rfl, by decide +kernel, rfl, by decide +kernel, by decide +kernel⟩
theorem ok__law_deed_line  (F : Fun K "_law_deed_line" "_law_deed_line" s__law_deed_line f fd) (T : Txt mg) (Hx : ∀ c ∈ (xs0 : List Nat), PySem.W.exmOne K (.ref (CA c)) (.ref (CA 0)) = some true) (XE : ∀ c ∈ (xs0 : List Nat), ExcOk K (CA c)) (Xf : XFd K CA) (SMb : SM base) (C : Cst K CA mg) (Kt : KtOk K CA [] kt0)  : FnG P w K mg base false 1 f fd ["_law_deed"] (spD K CA 1 (bodyF 2 u__law_deed_line)) := by
  have nd := (sc__law_deed_line).nd
  refine okD F sc__law_deed_line rfl rfl fun cd A outer s H E hg hr tk => ?_
  have Y : WSs (cxD P w K mg base ["_law_deed", "_law_part_here"] "_law_deed_line" s__law_deed_line f cd A outer s H E) K CA (wxD E) (defBody s__law_deed_line) _ _ := wss_one (ws_ret (we_op op_addU (sim_add (nm := false)) (we_m1 sim_join (we_str) (we_lc false rfl nd (own := [("_law_part_here", 1)]) (wi_seq (we_var (pv 0))) (blkOk_by (N := ["_law_deed", "_law_part_here"]) (sc := defScope s__law_deed_line) (by decide +kernel)) (fun s_ H_ C_ cl_ fp_ => wg_name (pg_name (i := 1) nd rfl (by first | exact Or.inl rfl | exact Or.inr rfl))) (fun s_ H_ C_ cl_ fp_ => wts_nil) (fun s_ H_ C_ cl_ fp_ => we_cb sim_strT (wa_cons (we_var (pv 1)) (wa_nil)) (fun a => pe_callTy call_strT (by rfl) T.z_str boot_strU a)) (by decide)) (fun a b => pe_join a b)) (we_str)))
  exact ⟨_, Y⟩
theorem sc_is_deed : FnScope ["thing"] ["thing"] (defScope s_is_deed) := ⟨rfl, rfl, rfl, by decide +kernel, rfl, by decide +kernel, by decide +kernel⟩
theorem ok_is_deed {kp_PARTS : Addr} (F : Fun K "is_deed" "is_deed" s_is_deed f fd) (T : Txt mg) (Hx : ∀ c ∈ (xs0 : List Nat), PySem.W.exmOne K (.ref (CA c)) (.ref (CA 0)) = some true) (XE : ∀ c ∈ (xs0 : List Nat), ExcOk K (CA c)) (Xf : XFd K CA) (SMb : SM base) (C : Cst K CA mg) (Kt : KtOk K CA [] kt0) (KG_PARTS : KGet K w mg "PARTS" kp_PARTS [("write", 4), ("cover", 2), ("branch", 2), ("begin", 3), ("step", 2), ("stop", 1)]) : FnG P w K mg base false 1 f fd ["thing"] (spD K CA 1 (bodyF 1 u_is_deed)) := by
  have nd := (sc_is_deed).nd
  refine okD F sc_is_deed rfl rfl fun cd A outer s H E hg hr tk => ?_
  have Y : WSs (cxD P w K mg base ["thing"] "is_deed" s_is_deed f cd A outer s H E) K CA (wxD E) (defBody s_is_deed) _ _ := wss_cons (ws_if (CM.WW.wt (ww_or (wt_not (wt_val (we_cb (sim_isX (fun c hc => (XE c hc).toXkC) Kt) (wa_cons (we_var (pv 0)) (wa_cons (we_ty (pe_bltn (by rfl) T.z_tuple boot_tupleU rfl)) (wa_nil))) (fun a => pe_callB call_isX (by rfl) T.z_isinstance boot_isinstanceU a)))) (ww_or (wt_cmp (op_eqU hr.units) sim_eq (we_cb sim_len (wa_cons (we_var (pv 0)) (wa_nil)) (fun a => pe_callB (call_lenU rfl call_lenRd) (by rfl) T.z_len boot_lenU a)) (we_int) (by rfl)) (ww_or1 (wt_not (wt_val (we_cb (sim_isX (fun c hc => (XE c hc).toXkC) Kt) (wa_cons (we_ix (ixU (hu_of hr)) sim_ix (we_var (pv 0)) (we_int)) (wa_cons (we_ty (pe_bltn (by rfl) T.z_str boot_strU rfl)) (wa_nil))) (fun a => pe_callB call_isX (by rfl) T.z_isinstance boot_isinstanceU a)))))))) (wss_one (ws_ret (we_bl))) (wss_nil)) (wss_one (ws_ret (we_cmp (op_eqU hr.units) sim_eq (we_kget2 KG_PARTS (we_ix (ixU (hu_of hr)) sim_ix (we_var (pv 0)) (we_int)) (we_int) ⟨rfl, rfl, rfl, rfl⟩) (we_cb sim_len (wa_cons (we_var (pv 0)) (wa_nil)) (fun a => pe_callB (call_lenU rfl call_lenRd) (by rfl) T.z_len boot_lenU a)) (by rfl))))
  exact ⟨_, Y⟩
theorem sc_is_kind : FnScope ["thing"] ["thing"] (defScope s_is_kind) := ⟨rfl, rfl, rfl, by decide +kernel, rfl, by decide +kernel, by decide +kernel⟩
theorem ok_is_kind  (F : Fun K "is_kind" "is_kind" s_is_kind f fd) (T : Txt mg) (Hx : ∀ c ∈ (xs0 : List Nat), PySem.W.exmOne K (.ref (CA c)) (.ref (CA 0)) = some true) (XE : ∀ c ∈ (xs0 : List Nat), ExcOk K (CA c)) (Xf : XFd K CA) (SMb : SM base) (C : Cst K CA mg) (Kt : KtOk K CA [] kt0)  : FnG P w K mg base false 1 f fd ["thing"] (spD K CA 1 (bodyF 1 u_is_kind)) := by
  have nd := (sc_is_kind).nd
  refine okD F sc_is_kind rfl rfl fun cd A outer s H E hg hr tk => ?_
  have Y : WSs (cxD P w K mg base ["thing"] "is_kind" s_is_kind f cd A outer s H E) K CA (wxD E) (defBody s_is_kind) _ _ := wss_one (ws_ret (we_and (we_cb (sim_isX (fun c hc => (XE c hc).toXkC) Kt) (wa_cons (we_var (pv 0)) (wa_cons (we_ty (pe_bltn (by rfl) T.z_str boot_strU rfl)) (wa_nil))) (fun a => pe_callB call_isX (by rfl) T.z_isinstance boot_isinstanceU a)) (we_one (we_cmp (op_inU (hu_of hr)) (sim_in (neg := false)) (we_var (pv 0)) (we_gv C.g_KINDS) (by rfl)))))
  exact ⟨_, Y⟩
theorem sc_kinds_right : FnScope ["deed", "at", "part"] ["deed"] (defScope s_kinds_right) := ⟨rfl, rfl, rfl, by decide +kernel, rfl, by decide +kernel, by decide +kernel⟩
theorem ok_kinds_right {f_is_kind : Addr} {fd_is_kind : FuncData} (F : Fun K "kinds_right" "kinds_right" s_kinds_right f fd) (T : Txt mg) (Hx : ∀ c ∈ (xs0 : List Nat), PySem.W.exmOne K (.ref (CA c)) (.ref (CA 0)) = some true) (XE : ∀ c ∈ (xs0 : List Nat), ExcOk K (CA c)) (Xf : XFd K CA) (SMb : SM base) (C : Cst K CA mg) (Kt : KtOk K CA [] kt0) (B_is_kind_1 : KwB K CA fd_is_kind ["thing"] 1 [] (srcP 0 1)) (D_is_kind : Df P w K mg base CA "is_kind" false 1 ["thing"] F_is_kind f_is_kind fd_is_kind) : FnG P w K mg base false 2 f fd ["deed"] (spD K CA 1 (bodyF 3 u_kinds_right)) := by
  have nd := (sc_kinds_right).nd
  refine okD F sc_kinds_right rfl rfl fun cd A outer s H E hg hr tk => ?_
  have Y : WSs (cxD P w K mg base ["deed", "at", "part"] "kinds_right" s_kinds_right f cd A outer s H E) K CA (wxD E) (defBody s_kinds_right) _ _ := wss_one (ws_ret (we_cb sim_all (wa_cons (we_lc false rfl nd (own := [("at", 1), ("part", 2)]) (wi_enumT (wa_cons (we_slice false (we_var (pv 0)) (wo_some (we_int)) (wo_none)) (wa_nil)) (fun a => pi_enumT (by rfl) T.z_enumerate a)) (blkOk_by (N := ["deed", "at", "part"]) (sc := defScope s_kinds_right) (by decide +kernel)) (fun s_ H_ C_ cl_ fp_ => wg_tup (n := 2) rfl (wgs_cons (wg_name (pg_name (i := 1) nd rfl (by first | exact Or.inl rfl | exact Or.inr rfl))) (wgs_cons (wg_name (pg_name (i := 2) nd rfl (by first | exact Or.inl rfl | exact Or.inr rfl))) (wgs_nil)))) (fun s_ H_ C_ cl_ fp_ => wts_nil) (fun s_ H_ C_ cl_ fp_ => we_cmp (op_eqU hr.units) sim_eq (we_callP D_is_kind noG (hr.mono (by decide)) takes0 (wa_cons (we_var (pv 2)) (wa_nil)) B_is_kind_1) (we_and (we_cmp (op_eqU hr.units) sim_eq (we_ix (ixU (hu_of hr)) sim_ix (we_var (pv 0)) (we_int)) (we_str) (by rfl)) (we_one (we_cmp (op_eqU hr.units) sim_eq (we_var (pv 1)) (we_int) (by rfl)))) (by rfl)) (by decide)) (wa_nil)) (fun a => pe_callB call_allU (by rfl) T.z_all boot_allU a)))
  exact ⟨_, Y⟩
theorem sc_is_plain : FnScope ["part"] ["part"] (defScope s_is_plain) := ⟨rfl, rfl, rfl, by decide +kernel, rfl, by decide +kernel, by decide +kernel⟩
theorem ok_is_plain {f_is_kind : Addr} {fd_is_kind : FuncData} (F : Fun K "is_plain" "is_plain" s_is_plain f fd) (T : Txt mg) (Hx : ∀ c ∈ (xs0 : List Nat), PySem.W.exmOne K (.ref (CA c)) (.ref (CA 0)) = some true) (XE : ∀ c ∈ (xs0 : List Nat), ExcOk K (CA c)) (Xf : XFd K CA) (SMb : SM base) (C : Cst K CA mg) (Kt : KtOk K CA [] kt0) (B_is_kind_1 : KwB K CA fd_is_kind ["thing"] 1 [] (srcP 0 1)) (D_is_kind : Df P w K mg base CA "is_kind" false 1 ["thing"] F_is_kind f_is_kind fd_is_kind) : FnG P w K mg base false 2 f fd ["part"] (spD K CA 1 (bodyF 1 u_is_plain)) := by
  have nd := (sc_is_plain).nd
  refine okD F sc_is_plain rfl rfl fun cd A outer s H E hg hr tk => ?_
  have Y : WSs (cxD P w K mg base ["part"] "is_plain" s_is_plain f cd A outer s H E) K CA (wxD E) (defBody s_is_plain) _ _ := wss_one (ws_ret (we_or (we_callP D_is_kind noG (hr.mono (by decide)) tk (wa_cons (we_var (pv 0)) (wa_nil)) B_is_kind_1) (we_one (we_and (we_cb (sim_isX (fun c hc => (XE c hc).toXkC) Kt) (wa_cons (we_var (pv 0)) (wa_cons (we_ty (pe_bltn (by rfl) T.z_int boot_intU rfl)) (wa_nil))) (fun a => pe_callB call_isX (by rfl) T.z_isinstance boot_isinstanceU a)) (we_and (we_not (we_cb (sim_isX (fun c hc => (XE c hc).toXkC) Kt) (wa_cons (we_var (pv 0)) (wa_cons (we_ty (pe_bltn (by rfl) T.z_bool boot_boolU rfl)) (wa_nil))) (fun a => pe_callB call_isX (by rfl) T.z_isinstance boot_isinstanceU a))) (we_one (we_chain sim_cB sim_cB (we_int) (we_var (pv 0)) (we_gv C.g_MOST) (fun a b c => pe_chain op_le op_le a b c))))))))
  exact ⟨_, Y⟩
theorem sc_history_text : FnScope ["history", "at", "deed", "part"] ["history"] (defScope s_history_text) := ⟨rfl, rfl, rfl, by decide +kernel, rfl, by decide +kernel, by decide +kernel⟩
theorem ok_history_text {f_is_deed : Addr} {fd_is_deed : FuncData} {f_is_plain : Addr} {fd_is_plain : FuncData} {f_kinds_right : Addr} {fd_kinds_right : FuncData} (F : Fun K "history_text" "history_text" s_history_text f fd) (T : Txt mg) (Hx : ∀ c ∈ (xs0 : List Nat), PySem.W.exmOne K (.ref (CA c)) (.ref (CA 0)) = some true) (XE : ∀ c ∈ (xs0 : List Nat), ExcOk K (CA c)) (Xf : XFd K CA) (SMb : SM base) (C : Cst K CA mg) (Kt : KtOk K CA [] kt0) (X_BadDeed : Xmd P K mg (CA 1) "BadDeed" "at" "at") (B_is_deed_1 : KwB K CA fd_is_deed ["thing"] 1 [] (srcP 0 1)) (D_is_deed : Df P w K mg base CA "is_deed" false 1 ["thing"] F_is_deed f_is_deed fd_is_deed) (B_is_plain_1 : KwB K CA fd_is_plain ["part"] 1 [] (srcP 0 1)) (D_is_plain : Df P w K mg base CA "is_plain" false 2 ["part"] F_is_plain f_is_plain fd_is_plain) (B_kinds_right_1 : KwB K CA fd_kinds_right ["deed"] 1 [] (srcP 0 1)) (D_kinds_right : Df P w K mg base CA "kinds_right" false 2 ["deed"] F_kinds_right f_kinds_right fd_kinds_right) : FnG P w K mg base false 3 f fd ["history"] (spD K CA 1 (bodyF 4 u_history_text)) := by
  have nd := (sc_history_text).nd
  refine okD F sc_history_text rfl rfl fun cd A outer s H E hg hr tk => ?_
  have Y : WSs (cxD P w K mg base ["history", "at", "deed", "part"] "history_text" s_history_text f cd A outer s H E) K CA (wxD E) (defBody s_history_text) _ _ := wss_cons (ws_if (wt_not (wt_val (we_cb (sim_isT Kt) (wa_cons (we_var (pv 0)) (wa_cons (we_tup (wa_cons (we_ty (pe_bltn (by rfl) T.z_list boot_listU rfl)) (wa_cons (we_ty (pe_bltn (by rfl) T.z_tuple boot_tupleU rfl)) (wa_nil)))) (wa_nil))) (fun a => pe_callB call_isiTU (by rfl) T.z_isinstance boot_isinstanceU a)))) (wss_one (ws_raiseX X_BadDeed (hr.mono (by decide)) tk (wa_cons (we_int) (wa_nil)))) (wss_nil)) (wss_cons (ws_for (wi_enumT (wa_cons (we_var (pv 0)) (wa_nil)) (fun a => pi_enumT (by rfl) T.z_enumerate a)) (wg_tup (n := 2) rfl (wgs_cons (wg_name (pg_name (i := 1) nd rfl (by first | exact Or.inl rfl | exact Or.inr rfl))) (wgs_cons (wg_name (pg_name (i := 2) nd rfl (by first | exact Or.inl rfl | exact Or.inr rfl))) (wgs_nil)))) (wss_one (ws_if (CM.WW.wt (ww_or (wt_not (wt_val (we_callP D_is_deed noG (hr.mono (by decide)) tk (wa_cons (we_var (pv 2)) (wa_nil)) B_is_deed_1))) (ww_or (wt_not (wt_val (we_cb sim_all (wa_cons (we_lc false rfl nd (own := [("part", 3)]) (wi_seq (we_slice false (we_var (pv 2)) (wo_some (we_int)) (wo_none))) (blkOk_by (N := ["history", "at", "deed", "part"]) (sc := defScope s_history_text) (by decide +kernel)) (fun s_ H_ C_ cl_ fp_ => wg_name (pg_name (i := 3) nd rfl (by first | exact Or.inl rfl | exact Or.inr rfl))) (fun s_ H_ C_ cl_ fp_ => wts_nil) (fun s_ H_ C_ cl_ fp_ => we_callP D_is_plain noG (hr.mono (by decide)) takes0 (wa_cons (we_var (pv 3)) (wa_nil)) B_is_plain_1) (by decide)) (wa_nil)) (fun a => pe_callB call_allU (by rfl) T.z_all boot_allU a)))) (ww_or1 (wt_not (wt_val (we_callP D_kinds_right noG (hr.mono (by decide)) tk (wa_cons (we_var (pv 2)) (wa_nil)) B_kinds_right_1))))))) (wss_one (ws_raiseX X_BadDeed (hr.mono (by decide)) tk (wa_cons (we_var (pv 1)) (wa_nil)))) (wss_nil))) (fun i g b => ps_for (passes_of rfl) rfl i g b)) (wss_one (ws_ret (we_m1 sim_join (we_str) (we_lc false rfl nd (own := [("deed", 2)]) (wi_seq (we_var (pv 0))) (blkOk_by (N := ["history", "at", "deed", "part"]) (sc := defScope s_history_text) (by decide +kernel)) (fun s_ H_ C_ cl_ fp_ => wg_name (pg_name (i := 2) nd rfl (by first | exact Or.inl rfl | exact Or.inr rfl))) (fun s_ H_ C_ cl_ fp_ => wts_nil) (fun s_ H_ C_ cl_ fp_ => we_op op_addU (sim_add (nm := false)) (we_m1 sim_join (we_str) (we_lcP rfl nd (own := [("part", 3)]) (we_var (pv 2)) (rfl) (blkOk_by (N := ["history", "at", "deed", "part"]) (by kernel_rfl)) (fun s_ H_ C_ cl_ fp_ => wg_name (pg_name (i := 3) nd rfl (by first | exact Or.inl rfl | exact Or.inr rfl))) (fun s_ H_ C_ cl_ fp_ => wts_nil) (fun s_ H_ C_ cl_ fp_ => we_cb sim_strT (wa_cons (we_var (pv 3)) (wa_nil)) (fun a => pe_callTy call_strT (by rfl) T.z_str boot_strU a)) (by decide)) (fun a b => pe_join a b)) (we_str)) (by decide)) (fun a b => pe_join a b)))))
  exact ⟨_, Y⟩
theorem sc_lines_of : FnScope ["text", "parts"] ["text"] (defScope s_lines_of) := ⟨rfl, rfl, rfl, by decide +kernel, rfl, by decide +kernel, by decide +kernel⟩
theorem ok_lines_of  (F : Fun K "lines_of" "lines_of" s_lines_of f fd) (T : Txt mg) (Hx : ∀ c ∈ (xs0 : List Nat), PySem.W.exmOne K (.ref (CA c)) (.ref (CA 0)) = some true) (XE : ∀ c ∈ (xs0 : List Nat), ExcOk K (CA c)) (Xf : XFd K CA) (SMb : SM base) (C : Cst K CA mg) (Kt : KtOk K CA [] kt0)  : FnG P w K mg base false 1 f fd ["text"] (spD K CA 1 (bodyF 2 u_lines_of)) := by
  have nd := (sc_lines_of).nd
  refine okD F sc_lines_of rfl rfl fun cd A outer s H E hg hr tk => ?_
  have Y : WSs (cxD P w K mg base ["text", "parts"] "lines_of" s_lines_of f cd A outer s H E) K CA (wxD E) (defBody s_lines_of) _ _ := wss_cons (ws_set (we_m1 (sim_split (nm := false)) (we_var (pv 0)) (we_str) (fun a b => pe_split a b)) (fun q => ps_set (i := 1) nd rfl (by first | exact Or.inl rfl | exact Or.inr rfl) q)) (wss_one (ws_ret (we_tup (wa_cons (we_slice false (we_var (pv 1)) (wo_none) (wo_some (we_neg (we_int)))) (wa_cons (we_ix (ixU (hu_of hr)) sim_ix (we_var (pv 1)) (we_neg (we_int))) (wa_nil))))))
  exact ⟨_, Y⟩
theorem sc_part_of : FnScope ["word", "sign"] ["word"] (defScope s_part_of) := ⟨rfl, rfl, rfl, by decide +kernel, rfl, by decide +kernel, by decide +kernel⟩
theorem ok_part_of {f_is_kind : Addr} {fd_is_kind : FuncData} (F : Fun K "part_of" "part_of" s_part_of f fd) (T : Txt mg) (Hx : ∀ c ∈ (xs0 : List Nat), PySem.W.exmOne K (.ref (CA c)) (.ref (CA 0)) = some true) (XE : ∀ c ∈ (xs0 : List Nat), ExcOk K (CA c)) (Xf : XFd K CA) (SMb : SM base) (C : Cst K CA mg) (Kt : KtOk K CA [] kt0) (B_is_kind_1 : KwB K CA fd_is_kind ["thing"] 1 [] (srcP 0 1)) (D_is_kind : Df P w K mg base CA "is_kind" false 1 ["thing"] F_is_kind f_is_kind fd_is_kind) : FnG P w K mg base false 2 f fd ["word"] (spD K CA 1 (bodyF 2 u_part_of)) := by
  have nd := (sc_part_of).nd
  refine okD F sc_part_of rfl rfl fun cd A outer s H E hg hr tk => ?_
  have Y : WSs (cxD P w K mg base ["word", "sign"] "part_of" s_part_of f cd A outer s H E) K CA (wxD E) (defBody s_part_of) _ _ := wss_cons (ws_if (wt_val (we_callP D_is_kind noG (hr.mono (by decide)) tk (wa_cons (we_var (pv 0)) (wa_nil)) B_is_kind_1)) (wss_one (ws_ret (we_var (pv 0)))) (wss_nil)) (wss_cons (ws_if (CM.WW.wt (ww_or (wt_cmp (op_eqU hr.units) sim_eq (we_var (pv 0)) (we_str) (by rfl)) (ww_or (wt_cmp op_gt sim_cB (we_cb sim_len (wa_cons (we_var (pv 0)) (wa_nil)) (fun a => pe_callB (call_lenU rfl call_lenRd) (by rfl) T.z_len boot_lenU a)) (we_int) (by rfl)) (ww_or1 (wt_not (wt_val (we_cb sim_all (wa_cons (we_lc false rfl nd (own := [("sign", 1)]) (wi_str (we_var (pv 0))) (blkOk_by (N := ["word", "sign"]) (sc := defScope s_part_of) (by decide +kernel)) (fun s_ H_ C_ cl_ fp_ => wg_name (pg_name (i := 1) nd rfl (by first | exact Or.inl rfl | exact Or.inr rfl))) (fun s_ H_ C_ cl_ fp_ => wts_nil) (fun s_ H_ C_ cl_ fp_ => we_cmp op_in_sign sim_inC (we_var (pv 1)) (we_str) (by rfl)) (by decide)) (wa_nil)) (fun a => pe_callB call_allU (by rfl) T.z_all boot_allU a)))))))) (wss_one (ws_ret (we_non))) (wss_nil)) (wss_one (ws_ret (we_ifExp (CM.WW.wt (ww_and (wt_cmp (op_eqU hr.units) sim_eq (we_cb sim_strT (wa_cons (we_cb sim_intT (wa_cons (we_var (pv 0)) (wa_nil)) (fun a => pe_callTy call_int_str (by rfl) T.z_int boot_intU a)) (wa_nil)) (fun a => pe_callTy call_strT (by rfl) T.z_str boot_strU a)) (we_var (pv 0)) (by rfl)) (ww_and1 (wt_cmp op_le sim_cB (we_cb sim_intT (wa_cons (we_var (pv 0)) (wa_nil)) (fun a => pe_callTy call_int_str (by rfl) T.z_int boot_intU a)) (we_gv C.g_MOST) (by rfl))))) (we_cb sim_intT (wa_cons (we_var (pv 0)) (wa_nil)) (fun a => pe_callTy call_int_str (by rfl) T.z_int boot_intU a)) (we_non)))))
  exact ⟨_, Y⟩
theorem sc_deed_of : FnScope ["line", "words", "deed", "word"] ["line"] (defScope s_deed_of) := ⟨rfl, rfl, rfl, by decide +kernel, rfl, by decide +kernel, by decide +kernel⟩
theorem ok_deed_of {f_part_of : Addr} {fd_part_of : FuncData} {f_is_deed : Addr} {fd_is_deed : FuncData} {f_kinds_right : Addr} {fd_kinds_right : FuncData} (F : Fun K "deed_of" "deed_of" s_deed_of f fd) (T : Txt mg) (Hx : ∀ c ∈ (xs0 : List Nat), PySem.W.exmOne K (.ref (CA c)) (.ref (CA 0)) = some true) (XE : ∀ c ∈ (xs0 : List Nat), ExcOk K (CA c)) (Xf : XFd K CA) (SMb : SM base) (C : Cst K CA mg) (Kt : KtOk K CA [] kt0) (B_part_of_1 : KwB K CA fd_part_of ["word"] 1 [] (srcP 0 1)) (D_part_of : Df P w K mg base CA "part_of" false 2 ["word"] F_part_of f_part_of fd_part_of) (B_is_deed_1 : KwB K CA fd_is_deed ["thing"] 1 [] (srcP 0 1)) (D_is_deed : Df P w K mg base CA "is_deed" false 1 ["thing"] F_is_deed f_is_deed fd_is_deed) (B_kinds_right_1 : KwB K CA fd_kinds_right ["deed"] 1 [] (srcP 0 1)) (D_kinds_right : Df P w K mg base CA "kinds_right" false 2 ["deed"] F_kinds_right f_kinds_right fd_kinds_right) : FnG P w K mg base false 3 f fd ["line"] (spD K CA 1 (bodyF 4 u_deed_of)) := by
  have nd := (sc_deed_of).nd
  refine okD F sc_deed_of rfl rfl fun cd A outer s H E hg hr tk => ?_
  have Y : WSs (cxD P w K mg base ["line", "words", "deed", "word"] "deed_of" s_deed_of f cd A outer s H E) K CA (wxD E) (defBody s_deed_of) _ _ := wss_cons (ws_set (we_m1 (sim_split (nm := false)) (we_var (pv 0)) (we_str) (fun a b => pe_split a b)) (fun q => ps_set (i := 1) nd rfl (by first | exact Or.inl rfl | exact Or.inr rfl) q)) (wss_cons (ws_set (we_tup (wa_cons (we_ix (ixU (hu_of hr)) sim_ix (we_var (pv 1)) (we_int)) (wa_star (we_lc false rfl nd (own := [("word", 3)]) (wi_seq (we_slice false (we_var (pv 1)) (wo_some (we_int)) (wo_none))) (blkOk_by (N := ["line", "words", "deed", "word"]) (sc := defScope s_deed_of) (by decide +kernel)) (fun s_ H_ C_ cl_ fp_ => wg_name (pg_name (i := 3) nd rfl (by first | exact Or.inl rfl | exact Or.inr rfl))) (fun s_ H_ C_ cl_ fp_ => wts_nil) (fun s_ H_ C_ cl_ fp_ => we_callP D_part_of noG (hr.mono (by decide)) takes0 (wa_cons (we_var (pv 3)) (wa_nil)) B_part_of_1) (by decide)) (wa_nil)))) (fun q => ps_set (i := 2) nd rfl (by first | exact Or.inl rfl | exact Or.inr rfl) q)) (wss_one (ws_ret (we_ifExp (CM.WW.wt (ww_and (wt_cmp (op_notInU (hu_of hr)) (sim_in (neg := true)) (we_non) (we_var (pv 2)) (by rfl)) (ww_and (wt_val (we_callP D_is_deed noG (hr.mono (by decide)) tk (wa_cons (we_var (pv 2)) (wa_nil)) B_is_deed_1)) (ww_and1 (wt_val (we_callP D_kinds_right noG (hr.mono (by decide)) tk (wa_cons (we_var (pv 2)) (wa_nil)) B_kinds_right_1)))))) (we_var (pv 2)) (we_non)))))
  exact ⟨_, Y⟩
theorem sc_read_history : FnScope ["text", "lines", "rest", "found", "at", "line", "deed"] ["text"] (defScope s_read_history) := ⟨rfl, rfl, rfl, by decide +kernel, rfl, by decide +kernel, by decide +kernel⟩
theorem ok_read_history {f_lines_of : Addr} {fd_lines_of : FuncData} {f_deed_of : Addr} {fd_deed_of : FuncData} (F : Fun K "read_history" "read_history" s_read_history f fd) (T : Txt mg) (Hx : ∀ c ∈ (xs0 : List Nat), PySem.W.exmOne K (.ref (CA c)) (.ref (CA 0)) = some true) (XE : ∀ c ∈ (xs0 : List Nat), ExcOk K (CA c)) (Xf : XFd K CA) (SMb : SM base) (C : Cst K CA mg) (Kt : KtOk K CA [] kt0) (X_BadText : Xmd P K mg (CA 6) "BadText" "line" "line") (B_lines_of_1 : KwB K CA fd_lines_of ["text"] 1 [] (srcP 0 1)) (D_lines_of : Df P w K mg base CA "lines_of" false 1 ["text"] F_lines_of f_lines_of fd_lines_of) (B_deed_of_1 : KwB K CA fd_deed_of ["line"] 1 [] (srcP 0 1)) (D_deed_of : Df P w K mg base CA "deed_of" false 3 ["line"] F_deed_of f_deed_of fd_deed_of) : FnG P w K mg base false 4 f fd ["text"] (spD K CA 1 (bodyF 7 u_read_history)) := by
  have nd := (sc_read_history).nd
  refine okD F sc_read_history rfl rfl fun cd A outer s H E hg hr tk => ?_
  have Y : WSs (cxD P w K mg base ["text", "lines", "rest", "found", "at", "line", "deed"] "read_history" s_read_history f cd A outer s H E) K CA (wxD E) (defBody s_read_history) _ _ := wss_cons (ws_if (wt_not (wt_val (we_cb (sim_isX (fun c hc => (XE c hc).toXkC) Kt) (wa_cons (we_var (pv 0)) (wa_cons (we_ty (pe_bltn (by rfl) T.z_str boot_strU rfl)) (wa_nil))) (fun a => pe_callB call_isX (by rfl) T.z_isinstance boot_isinstanceU a)))) (wss_one (ws_raiseX X_BadText (hr.mono (by decide)) tk (wa_cons (we_int) (wa_nil)))) (wss_nil)) (wss_cons (ws_asg (we_callP D_lines_of noG (hr.mono (by decide)) tk (wa_cons (we_var (pv 0)) (wa_nil)) B_lines_of_1) (wg_tup (n := 2) rfl (wgs_cons (wg_name (pg_name (i := 1) nd rfl (by first | exact Or.inl rfl | exact Or.inr rfl))) (wgs_cons (wg_name (pg_name (i := 2) nd rfl (by first | exact Or.inl rfl | exact Or.inr rfl))) (wgs_nil))))) (wss_cons (ws_set (we_lst true (wa_nil)) (fun q => ps_set (i := 3) nd rfl (by first | exact Or.inl rfl | exact Or.inr rfl) q)) (wss_cons (ws_for (wi_enumT (wa_cons (we_var (pv 1)) (wa_nil)) (fun a => pi_enumT (by rfl) T.z_enumerate a)) (wg_tup (n := 2) rfl (wgs_cons (wg_name (pg_name (i := 4) nd rfl (by first | exact Or.inl rfl | exact Or.inr rfl))) (wgs_cons (wg_name (pg_name (i := 5) nd rfl (by first | exact Or.inl rfl | exact Or.inr rfl))) (wgs_nil)))) (wss_cons (ws_set (we_callP D_deed_of noG (hr.mono (by decide)) tk (wa_cons (we_var (pv 5)) (wa_nil)) B_deed_of_1) (fun q => ps_set (i := 6) nd rfl (by first | exact Or.inl rfl | exact Or.inr rfl) q)) (wss_cons (ws_if (wt_cmp op_isN sim_isN (we_var (pv 6)) (we_non) (by rfl)) (wss_one (ws_raiseX X_BadText (hr.mono (by decide)) tk (wa_cons (we_var (pv 4)) (wa_nil)))) (wss_nil)) (wss_one (ws_expr (we_bm (T := "list") (r := rAppend) sim_append (we_var (pv 3)) (wa_cons (we_var (pv 6)) (wa_nil)) (fun a b => pe_bm PySem.F.plainAttrs_list PySem.F.slot_list_append PySem.F.type_list_append mt_append a b)))))) (fun i g b => ps_for (passes_of rfl) rfl i g b)) (wss_cons (ws_if (wt_cmp (op_neU hr.units) sim_ne (we_var (pv 2)) (we_str) (by rfl)) (wss_one (ws_raiseX X_BadText (hr.mono (by decide)) tk (wa_cons (we_cb sim_len (wa_cons (we_var (pv 3)) (wa_nil)) (fun a => pe_callB (call_lenU rfl call_lenRd) (by rfl) T.z_len boot_lenU a)) (wa_nil)))) (wss_nil)) (wss_one (ws_ret (we_fzI (we_var (pv 3)))))))))
  exact ⟨_, Y⟩
theorem sc_law : FnScope ["_law_script", "_law_draw", "_law_signs", "_law_turn", "_law_deeds", "_law_k", "_law_page", "_law_deed", "_law_change", "_law_due", "_law_odd"] ["_law_script"] (defScope s_law) := ⟨rfl, rfl, rfl, by decide +kernel, rfl, by decide +kernel, by decide +kernel⟩
theorem ok_law {f__law_begun : Addr} {fd__law_begun : FuncData} {f__law_take : Addr} {fd__law_take : FuncData} {f__law_text_deed : Addr} {fd__law_text_deed : FuncData} {f__law_deed_line : Addr} {fd__law_deed_line : FuncData} {f__law_pick : Addr} {fd__law_pick : FuncData} {f__law_bent_text : Addr} {fd__law_bent_text : FuncData} {f__law_read : Addr} {fd__law_read : FuncData} {f_read_history : Addr} {fd_read_history : FuncData} {f_history_text : Addr} {fd_history_text : FuncData} {c P_ : Addr} (F : FunC K "law" "law" s_law f fd c) (T : Txt mg) (Hx : ∀ c ∈ (xs0 : List Nat), PySem.W.exmOne K (.ref (CA c)) (.ref (CA 0)) = some true) (XE : ∀ c ∈ (xs0 : List Nat), ExcOk K (CA c)) (Xf : XFd K CA) (SMb : SM base) (C : Cst K CA mg) (Kt : KtOk K CA [] kt0) (TB : LamX.TabB base mg c P_) (hmT : (P_, ("law" : Str) ++ (".<locals>." : Str) ++ ("<lambda>" : Str)) ∈ CA.T) (hu : ∀ p ∈ CA.T, p.1 = P_ → p.2 = ("law" : Str) ++ (".<locals>." : Str) ++ ("<lambda>" : Str)) (B__law_begun_1 : KwB K CA fd__law_begun ["_law_script"] 1 [] (srcP 0 1)) (D__law_begun : Df P w K mg base CA "_law_begun" false 1 ["_law_script"] F__law_begun f__law_begun fd__law_begun) (B__law_take_2 : KwB K CA fd__law_take ["_law_draw", "_law_size"] 2 [] (srcP 0 2)) (D__law_take : Df P w K mg base CA "_law_take" false 2 ["_law_draw", "_law_size"] F__law_take f__law_take fd__law_take) (B__law_text_deed_1 : KwB K CA fd__law_text_deed ["_law_draw"] 1 [] (srcP 0 1)) (D__law_text_deed : Df P w K mg base CA "_law_text_deed" false 5 ["_law_draw"] F__law_text_deed f__law_text_deed fd__law_text_deed) (B__law_deed_line_1 : KwB K CA fd__law_deed_line ["_law_deed"] 1 [] (srcP 0 1)) (D__law_deed_line : Df P w K mg base CA "_law_deed_line" false 1 ["_law_deed"] F__law_deed_line f__law_deed_line fd__law_deed_line) (B__law_pick_2 : KwB K CA fd__law_pick ["_law_draw", "_law_some"] 2 [] (srcP 0 2)) (D__law_pick : Df P w K mg base CA "_law_pick" false 3 ["_law_draw", "_law_some"] F__law_pick f__law_pick fd__law_pick) (B__law_bent_text_3 : KwB K CA fd__law_bent_text ["_law_draw", "_law_page", "_law_signs"] 3 [] (srcP 0 3)) (D__law_bent_text : Df P w K mg base CA "_law_bent_text" false 4 ["_law_draw", "_law_page", "_law_signs"] F__law_bent_text f__law_bent_text fd__law_bent_text) (B__law_read_1 : KwB K CA fd__law_read ["_law_page"] 1 [] (srcP 0 1)) (D__law_read : Df P w K mg base CA "_law_read" false 4 ["_law_page"] F__law_read f__law_read fd__law_read) (B_read_history_1 : KwB K CA fd_read_history ["text"] 1 [] (srcP 0 1)) (D_read_history : Df P w K mg base CA "read_history" false 4 ["text"] F_read_history f_read_history fd_read_history) (L__law_is : ∀ kb : Nat, Dl P w K mg base CA "_law_is" true (kb + 4) kb ["_law_work", "_law_word", "_law_kept"] 2 F__law_is) (B_read_history_0_text : KwB K CA fd_read_history ["text"] 0 ["text"] ([.k 0])) (B_history_text_1 : KwB K CA fd_history_text ["history"] 1 [] (srcP 0 1)) (D_history_text : Df P w K mg base CA "history_text" false 3 ["history"] F_history_text f_history_text fd_history_text) : FnG P w K mg base true 11 f fd ["_law_script"] (spD K CA 1 (bodyF 11 u_law)) := by
  have nd := (sc_law).nd
  refine okDL F sc_law rfl rfl fun A outer s H E hg hr tk => ?_
  have Y : WSs (cxD P w K mg base ["_law_script", "_law_draw", "_law_signs", "_law_turn", "_law_deeds", "_law_k", "_law_page", "_law_deed", "_law_change", "_law_due", "_law_odd"] "law" s_law f (.ref c) A outer s H E) K CA (wxD E) (defBody s_law) _ _ := wss_cons (ws_set (we_callP D__law_begun noG (hr.mono (by decide)) tk (wa_cons (we_var (pv 0)) (wa_nil)) B__law_begun_1) (fun q => ps_set (i := 1) nd rfl (by first | exact Or.inl rfl | exact Or.inr rfl) q)) (wss_cons (ws_set (we_lst false (wa_cons (we_str) (wa_cons (we_str) (wa_cons (we_str) (wa_cons (we_str) (wa_cons (we_str) (wa_cons (we_str) (wa_cons (we_str) (wa_cons (we_str) (wa_cons (we_str) (wa_cons (we_str) (wa_cons (we_str) (wa_cons (we_str) (wa_cons (we_str) (wa_cons (we_str) (wa_nil)))))))))))))))) (fun q => ps_set (i := 2) nd rfl (by first | exact Or.inl rfl | exact Or.inr rfl) q)) (wss_cons (ws_set (we_op op_addU (sim_add (nm := false)) (we_var (pv 2)) (we_lst false (wa_cons (we_str) (wa_cons (we_op op_mulS sim_mulS (we_str) (we_int)) (wa_cons (we_str) (wa_cons (we_str) (wa_cons (we_str) (wa_cons (we_str) (wa_cons (we_str) (wa_cons (we_str) (wa_cons (we_str) (wa_cons (we_str) (wa_nil))))))))))))) (fun q => ps_set (i := 2) nd rfl (by first | exact Or.inl rfl | exact Or.inr rfl) q)) (wss_cons (ws_for (wi_rng1 (wa_cons (we_op op_addU (sim_add (nm := false)) (we_int) (we_cb sim_min (wa_cons (we_cb sim_len (wa_cons (we_var (pv 0)) (wa_nil)) (fun a => pe_callB (call_lenU rfl call_lenRd) (by rfl) T.z_len boot_lenU a)) (wa_cons (we_int) (wa_nil))) (fun a => pe_callB call_minU (by rfl) T.z_min boot_minU a))) (wa_nil)) (fun a => pi_range1 (by rfl) T.z_range a)) (wg_name (pg_name (i := 3) nd rfl (by first | exact Or.inl rfl | exact Or.inr rfl))) (wss_cons (ws_setLc false (i := 4) rfl nd rfl rfl (own := [("_law_k", 5)]) (wi_rng1 (wa_cons (we_callP D__law_take noG (hr.mono (by decide)) tk (wa_cons (we_var (pv 1)) (wa_cons (we_int) (wa_nil))) B__law_take_2) (wa_nil)) (fun a => pi_range1 (by rfl) T.z_range a)) (blkOk_by (N := ["_law_script", "_law_draw", "_law_signs", "_law_turn", "_law_deeds", "_law_k", "_law_page", "_law_deed", "_law_change", "_law_due", "_law_odd"]) (sc := defScope s_law) (by decide +kernel)) (fun s_ H_ C_ cl_ fp_ => wg_name (pg_name (i := 5) nd rfl (by first | exact Or.inl rfl | exact Or.inr rfl))) (fun s_ H_ C_ cl_ fp_ => wts_nil) (fun s_ H_ C_ cl_ fp_ => we_callP D__law_text_deed noG (hr.mono (by decide)) takes0 (wa_cons (we_var (pv 1)) (wa_nil)) B__law_text_deed_1) (by decide)) (wss_cons (ws_set (we_m1 sim_join (we_str) (we_lc false rfl nd (own := [("_law_deed", 7)]) (wi_seq (we_var (pv 4))) (blkOk_by (N := ["_law_script", "_law_draw", "_law_signs", "_law_turn", "_law_deeds", "_law_k", "_law_page", "_law_deed", "_law_change", "_law_due", "_law_odd"]) (sc := defScope s_law) (by decide +kernel)) (fun s_ H_ C_ cl_ fp_ => wg_name (pg_name (i := 7) nd rfl (by first | exact Or.inl rfl | exact Or.inr rfl))) (fun s_ H_ C_ cl_ fp_ => wts_nil) (fun s_ H_ C_ cl_ fp_ => we_callP D__law_deed_line noG (hr.mono (by decide)) takes0 (wa_cons (we_var (pv 7)) (wa_nil)) B__law_deed_line_1) (by decide)) (fun a b => pe_join a b)) (fun q => ps_set (i := 6) nd rfl (by first | exact Or.inl rfl | exact Or.inr rfl) q)) (wss_cons (ws_for (wi_rng1 (wa_cons (we_callP D__law_pick noG (hr.mono (by decide)) tk (wa_cons (we_var (pv 1)) (wa_cons (we_lst false (wa_cons (we_int) (wa_cons (we_int) (wa_cons (we_int) (wa_cons (we_int) (wa_cons (we_int) (wa_nil))))))) (wa_nil))) B__law_pick_2) (wa_nil)) (fun a => pi_range1 (by rfl) T.z_range a)) (wg_name (pg_name (i := 8) nd rfl (by first | exact Or.inl rfl | exact Or.inr rfl))) (wss_one (ws_set (we_callP D__law_bent_text noG (hr.mono (by decide)) tk (wa_cons (we_var (pv 1)) (wa_cons (we_var (pv 6)) (wa_cons (we_var (pv 2)) (wa_nil)))) B__law_bent_text_3) (fun q => ps_set (i := 6) nd rfl (by first | exact Or.inl rfl | exact Or.inr rfl) q))) (fun i g b => ps_for (passes_of rfl) rfl i g b)) (wss_cons (ws_set (we_op op_addU (sim_add (nm := false)) (we_var (pv 6)) (we_callP D__law_pick noG (hr.mono (by decide)) tk (wa_cons (we_var (pv 1)) (wa_cons (we_lst false (wa_cons (we_str) (wa_cons (we_str) (wa_cons (we_str) (wa_cons (we_str) (wa_cons (we_str) (wa_cons (we_str) (wa_cons (we_str) (wa_nil))))))))) (wa_nil))) B__law_pick_2)) (fun q => ps_set (i := 6) nd rfl (by first | exact Or.inl rfl | exact Or.inr rfl) q)) (wss_cons (ws_set (we_callP D__law_read noG (hr.mono (by decide)) tk (wa_cons (we_var (pv 6)) (wa_nil)) B__law_read_1) (fun q => ps_set (i := 9) nd rfl (by first | exact Or.inl rfl | exact Or.inr rfl) q)) (wss_cons (ws_if (wt_val (we_cb (sim_isX (fun c hc => (XE c hc).toXkC) Kt) (wa_cons (we_var (pv 9)) (wa_cons (we_ty (pe_bltn (by rfl) T.z_int boot_intU rfl)) (wa_nil))) (fun a => pe_callB call_isX (by rfl) T.z_isinstance boot_isinstanceU a))) (wss_cons (ws_if (wt_not (wt_val (we_lamC (kb := 6) (L__law_is 6) TB hmT hu hg (hr.mono (by decide)) (hr.mono (by decide)) (by kernel_rfl) (fun A outer s H E f c hr tk => we_callP D_read_history noG (hr.mono (by decide)) tk (wa_cons (we_var (pv 6)) (wa_nil)) B_read_history_1) (wa_cons (we_str) (wa_cons (we_var (pv 9)) (wa_nil)))))) (wss_one (ws_ret (we_bl))) (wss_nil)) (wss_one (ws_if (wt_not (wt_val (we_lamC (kb := 6) (L__law_is 6) TB hmT hu hg (hr.mono (by decide)) (hr.mono (by decide)) (by kernel_rfl) (fun A outer s H E f c hr tk => we_callK0 D_read_history noG (hr.mono (by decide)) tk (wk_cons (we_var (pv 6)) (wk_nil)) B_read_history_0_text) (wa_cons (we_str) (wa_cons (we_var (pv 9)) (wa_nil)))))) (wss_one (ws_ret (we_bl))) (wss_nil)))) (wss_one (ws_if (CM.WW.wt (ww_or (wt_cmp (op_neU hr.units) sim_ne (we_cb sim_repA (wa_cons (we_callP D_read_history noG (hr.mono (by decide)) tk (wa_cons (we_var (pv 6)) (wa_nil)) B_read_history_1) (wa_nil)) (fun a => pe_callB (call_repA SMb (hg rfl) hr.units) (by rfl) T.z_repr boot_reprU a)) (we_cb sim_repA (wa_cons (we_var (pv 9)) (wa_nil)) (fun a => pe_callB (call_repA SMb (hg rfl) hr.units) (by rfl) T.z_repr boot_reprU a)) (by rfl)) (ww_or1 (wt_cmp (op_neU hr.units) sim_ne (we_callP D_history_text noG (hr.mono (by decide)) tk (wa_cons (we_callP D_read_history noG (hr.mono (by decide)) tk (wa_cons (we_var (pv 6)) (wa_nil)) B_read_history_1) (wa_nil)) B_history_text_1) (we_var (pv 6)) (by rfl))))) (wss_one (ws_ret (we_bl))) (wss_nil)))) (wss_cons (ws_set (we_callP D__law_pick noG (hr.mono (by decide)) tk (wa_cons (we_var (pv 1)) (wa_cons (we_lst false (wa_cons (we_non) (wa_cons (we_int) (wa_cons (we_tup (wa_nil)) (wa_cons (we_lst false (wa_nil)) (wa_cons (we_dnew false) (wa_cons (we_bl) (wa_cons (we_lst false (wa_cons (we_var (pv 6)) (wa_nil))) (wa_cons (we_tup (wa_cons (we_var (pv 6)) (wa_nil))) (wa_cons (we_op op_pow sim_pow (we_int) (we_int)) (wa_nil))))))))))) (wa_nil))) B__law_pick_2) (fun q => ps_set (i := 10) nd rfl (by first | exact Or.inl rfl | exact Or.inr rfl) q)) (wss_one (ws_if (wt_not (wt_val (we_lamC (kb := 6) (L__law_is 6) TB hmT hu hg (hr.mono (by decide)) (hr.mono (by decide)) (by kernel_rfl) (fun A outer s H E f c hr tk => we_callP D_read_history noG (hr.mono (by decide)) tk (wa_cons (we_var (pv 10)) (wa_nil)) B_read_history_1) (wa_cons (we_str) (wa_cons (we_int) (wa_nil)))))) (wss_one (ws_ret (we_bl))) (wss_nil)))))))))) (fun i g b => ps_for (passes_of rfl) rfl i g b)) (wss_one (ws_ret (we_bl))))))
  exact ⟨_, Y⟩
theorem all_mk {l : PySem.W.OpenLaw} {h : Heap} {fa : Addr} {C0 : Addr} {C1 : Addr} {C2 : Addr} {C3 : Addr} {C4 : Addr} {C5 : Addr} {C6 : Addr} {f0 : Addr} {od0 an0 : Option Addr} {sl0 : Array (Option Value)} {oc0 kV0 dc0 pm0 cd0 ct0 : Value} {f1 : Addr} {od1 an1 : Option Addr} {sl1 : Array (Option Value)} {oc1 kV1 dc1 pm1 cd1 ct1 : Value} {f2 : Addr} {od2 an2 : Option Addr} {sl2 : Array (Option Value)} {oc2 kV2 dc2 pm2 cd2 ct2 : Value} {f3 : Addr} {od3 an3 : Option Addr} {sl3 : Array (Option Value)} {oc3 kV3 dc3 pm3 cd3 ct3 : Value} {f4 : Addr} {od4 an4 : Option Addr} {sl4 : Array (Option Value)} {oc4 kV4 dc4 pm4 cd4 ct4 : Value} {f5 : Addr} {od5 an5 : Option Addr} {sl5 : Array (Option Value)} {oc5 kV5 dc5 pm5 cd5 ct5 : Value} {f6 : Addr} {od6 an6 : Option Addr} {sl6 : Array (Option Value)} {oc6 kV6 dc6 pm6 cd6 ct6 : Value} {f7 : Addr} {od7 an7 : Option Addr} {sl7 : Array (Option Value)} {oc7 kV7 dc7 pm7 cd7 ct7 : Value} {f8 : Addr} {od8 an8 : Option Addr} {sl8 : Array (Option Value)} {oc8 kV8 dc8 pm8 cd8 ct8 : Value} {f9 : Addr} {od9 an9 : Option Addr} {sl9 : Array (Option Value)} {oc9 kV9 dc9 pm9 cd9 ct9 : Value} {f10 : Addr} {od10 an10 : Option Addr} {sl10 : Array (Option Value)} {oc10 kV10 dc10 pm10 cd10 ct10 : Value} {f11 : Addr} {od11 an11 : Option Addr} {sl11 : Array (Option Value)} {oc11 kV11 dc11 pm11 cd11 ct11 : Value} {f12 : Addr} {od12 an12 : Option Addr} {sl12 : Array (Option Value)} {oc12 kV12 dc12 pm12 cd12 ct12 : Value} {f13 : Addr} {od13 an13 : Option Addr} {sl13 : Array (Option Value)} {oc13 kV13 dc13 pm13 cd13 ct13 : Value} {f14 : Addr} {od14 an14 : Option Addr} {sl14 : Array (Option Value)} {oc14 kV14 dc14 pm14 cd14 ct14 : Value} {f15 : Addr} {od15 an15 : Option Addr} {sl15 : Array (Option Value)} {oc15 kV15 dc15 pm15 cd15 ct15 : Value} {f16 : Addr} {od16 an16 : Option Addr} {sl16 : Array (Option Value)} {oc16 kV16 dc16 pm16 cd16 ct16 : Value} {f17 : Addr} {od17 an17 : Option Addr} {sl17 : Array (Option Value)} {oc17 kV17 dc17 pm17 cd17 ct17 : Value} {f18 : Addr} {od18 an18 : Option Addr} {sl18 : Array (Option Value)} {oc18 kV18 dc18 pm18 cd18 ct18 : Value} {f19 : Addr} {od19 an19 : Option Addr} {sl19 : Array (Option Value)} {oc19 kV19 dc19 pm19 cd19 ct19 : Value} {f20 : Addr} {od20 an20 : Option Addr} {sl20 : Array (Option Value)} {oc20 kV20 dc20 pm20 cd20 ct20 : Value} {f21 : Addr} {od21 an21 : Option Addr} {sl21 : Array (Option Value)} {oc21 kV21 dc21 pm21 cd21 ct21 : Value} {f22 : Addr} {od22 an22 : Option Addr} {sl22 : Array (Option Value)} {oc22 kV22 dc22 pm22 cd22 ct22 : Value} {f23 : Addr} {od23 an23 : Option Addr} {sl23 : Array (Option Value)} {oc23 kV23 dc23 pm23 cd23 ct23 : Value} {f24 : Addr} {od24 an24 : Option Addr} {sl24 : Array (Option Value)} {oc24 kV24 dc24 pm24 ct24 : Value} {ca24 P24 : Addr} {vs24 : Array Value} {tcl24 : Value} {tod24 : Option Addr} {tsl24 : Array (Option Value)} {t_KINDS0 t_KINDS1 : Tok} {p_KINDS : Addr} {dd_KINDS : Option Addr} {n_KINDS : Nat} {sl_KINDS : Array (Option Value)} {t_MOST : Tok} {kp_PARTS : Addr} {kes_PARTS : Array DictEntry} {kn_PARTS : Nat} {fg0 : Addr} {odg0 ang0 : Option Addr} {slg0 : Array (Option Value)} {ocg0 kVg0 dcg0 pmg0 cdg0 ctg0 : Value} {xf1 xa1 xc1 : Addr} {xkV1 xdoc1 xpm1 xct1 xoc1 xcl1 xcv1 : Value} {xan1 xod1 xcd1 xce1 : Option Addr} {xsl1 xcs1 xct21 : Array (Option Value)} {xvs1 : Array Value} {xfile1 : Str} {xtf1 : Tok} {xf6 xa6 xc6 : Addr} {xkV6 xdoc6 xpm6 xct6 xoc6 xcl6 xcv6 : Value} {xan6 xod6 xcd6 xce6 : Option Addr} {xsl6 xcs6 xct26 : Array (Option Value)} {xvs6 : Array Value} {xfile6 : Str} {xtf6 : Tok} (X : K.In h) (G : h.Ns mainGlobals mg) (hfa : mg "law" = some (.ref fa))
    (ac0 : PySem.W.nsIn K mainGlobals "MergeError" = some (some (.ref C0)))
    (ac1 : PySem.W.nsIn K mainGlobals "BadDeed" = some (some (.ref C1)))
    (ac2 : PySem.W.nsIn K mainGlobals "BadNumber" = some (some (.ref C2)))
    (ac3 : PySem.W.nsIn K mainGlobals "BadBook" = some (some (.ref C3)))
    (ac4 : PySem.W.nsIn K mainGlobals "BadPlan" = some (some (.ref C4)))
    (ac5 : PySem.W.nsIn K mainGlobals "BadChain" = some (some (.ref C5)))
    (ac6 : PySem.W.nsIn K mainGlobals "BadText" = some (some (.ref C6)))
    (a0 : PySem.W.nsIn K mainGlobals "_law_begun" = some (some (.ref f0)))
    (l0 : K.lookup f0 = some ⟨oc0, od0, .func (PySem.W.fnOf "_law_begun" "_law_begun" (defArgs s__law_begun) (defBody s__law_begun) (defScope s__law_begun) .none kV0 dc0 pm0 an0 cd0 ct0), sl0⟩)
    (c0 : PySem.W.codeIn K cd0 "_law_begun" = true)
    (k0 : PySem.W.keepIn K (.ref f0) = true)
    (a1 : PySem.W.nsIn K mainGlobals "_law_is_cell" = some (some (.ref f1)))
    (l1 : K.lookup f1 = some ⟨oc1, od1, .func (PySem.W.fnOf "_law_is_cell" "_law_is_cell" (defArgs s__law_is_cell) (defBody s__law_is_cell) (defScope s__law_is_cell) .none kV1 dc1 pm1 an1 cd1 ct1), sl1⟩)
    (c1 : PySem.W.codeIn K cd1 "_law_is_cell" = true)
    (k1 : PySem.W.keepIn K (.ref f1) = true)
    (a2 : PySem.W.nsIn K mainGlobals "_law_is_text_deed" = some (some (.ref f2)))
    (l2 : K.lookup f2 = some ⟨oc2, od2, .func (PySem.W.fnOf "_law_is_text_deed" "_law_is_text_deed" (defArgs s__law_is_text_deed) (defBody s__law_is_text_deed) (defScope s__law_is_text_deed) .none kV2 dc2 pm2 an2 cd2 ct2), sl2⟩)
    (c2 : PySem.W.codeIn K cd2 "_law_is_text_deed" = true)
    (k2 : PySem.W.keepIn K (.ref f2) = true)
    (a3 : PySem.W.nsIn K mainGlobals "_law_part" = some (some (.ref f3)))
    (l3 : K.lookup f3 = some ⟨oc3, od3, .func (PySem.W.fnOf "_law_part" "_law_part" (defArgs s__law_part) (defBody s__law_part) (defScope s__law_part) .none kV3 dc3 pm3 an3 cd3 ct3), sl3⟩)
    (c3 : PySem.W.codeIn K cd3 "_law_part" = true)
    (k3 : PySem.W.keepIn K (.ref f3) = true)
    (a4 : PySem.W.nsIn K mainGlobals "_law_read_line" = some (some (.ref f4)))
    (l4 : K.lookup f4 = some ⟨oc4, od4, .func (PySem.W.fnOf "_law_read_line" "_law_read_line" (defArgs s__law_read_line) (defBody s__law_read_line) (defScope s__law_read_line) .none kV4 dc4 pm4 an4 cd4 ct4), sl4⟩)
    (c4 : PySem.W.codeIn K cd4 "_law_read_line" = true)
    (k4 : PySem.W.keepIn K (.ref f4) = true)
    (a5 : PySem.W.nsIn K mainGlobals "_law_read" = some (some (.ref f5)))
    (l5 : K.lookup f5 = some ⟨oc5, od5, .func (PySem.W.fnOf "_law_read" "_law_read" (defArgs s__law_read) (defBody s__law_read) (defScope s__law_read) .none kV5 dc5 pm5 an5 cd5 ct5), sl5⟩)
    (c5 : PySem.W.codeIn K cd5 "_law_read" = true)
    (k5 : PySem.W.keepIn K (.ref f5) = true)
    (a6 : PySem.W.nsIn K mainGlobals "_law_mixed" = some (some (.ref f6)))
    (l6 : K.lookup f6 = some ⟨oc6, od6, .func (PySem.W.fnOf "_law_mixed" "_law_mixed" (defArgs s__law_mixed) (defBody s__law_mixed) (defScope s__law_mixed) .none kV6 dc6 pm6 an6 cd6 ct6), sl6⟩)
    (c6 : PySem.W.codeIn K cd6 "_law_mixed" = true)
    (k6 : PySem.W.keepIn K (.ref f6) = true)
    (a7 : PySem.W.nsIn K mainGlobals "_law_take" = some (some (.ref f7)))
    (l7 : K.lookup f7 = some ⟨oc7, od7, .func (PySem.W.fnOf "_law_take" "_law_take" (defArgs s__law_take) (defBody s__law_take) (defScope s__law_take) .none kV7 dc7 pm7 an7 cd7 ct7), sl7⟩)
    (c7 : PySem.W.codeIn K cd7 "_law_take" = true)
    (k7 : PySem.W.keepIn K (.ref f7) = true)
    (a8 : PySem.W.nsIn K mainGlobals "_law_pick" = some (some (.ref f8)))
    (l8 : K.lookup f8 = some ⟨oc8, od8, .func (PySem.W.fnOf "_law_pick" "_law_pick" (defArgs s__law_pick) (defBody s__law_pick) (defScope s__law_pick) .none kV8 dc8 pm8 an8 cd8 ct8), sl8⟩)
    (c8 : PySem.W.codeIn K cd8 "_law_pick" = true)
    (k8 : PySem.W.keepIn K (.ref f8) = true)
    (a9 : PySem.W.nsIn K mainGlobals "_law_text_number" = some (some (.ref f9)))
    (l9 : K.lookup f9 = some ⟨oc9, od9, .func (PySem.W.fnOf "_law_text_number" "_law_text_number" (defArgs s__law_text_number) (defBody s__law_text_number) (defScope s__law_text_number) .none kV9 dc9 pm9 an9 cd9 ct9), sl9⟩)
    (c9 : PySem.W.codeIn K cd9 "_law_text_number" = true)
    (k9 : PySem.W.keepIn K (.ref f9) = true)
    (a10 : PySem.W.nsIn K mainGlobals "_law_text_deed" = some (some (.ref f10)))
    (l10 : K.lookup f10 = some ⟨oc10, od10, .func (PySem.W.fnOf "_law_text_deed" "_law_text_deed" (defArgs s__law_text_deed) (defBody s__law_text_deed) (defScope s__law_text_deed) .none kV10 dc10 pm10 an10 cd10 ct10), sl10⟩)
    (c10 : PySem.W.codeIn K cd10 "_law_text_deed" = true)
    (k10 : PySem.W.keepIn K (.ref f10) = true)
    (a11 : PySem.W.nsIn K mainGlobals "_law_bent_text" = some (some (.ref f11)))
    (l11 : K.lookup f11 = some ⟨oc11, od11, .func (PySem.W.fnOf "_law_bent_text" "_law_bent_text" (defArgs s__law_bent_text) (defBody s__law_bent_text) (defScope s__law_bent_text) .none kV11 dc11 pm11 an11 cd11 ct11), sl11⟩)
    (c11 : PySem.W.codeIn K cd11 "_law_bent_text" = true)
    (k11 : PySem.W.keepIn K (.ref f11) = true)
    (a12 : PySem.W.nsIn K mainGlobals "_law_refusal" = some (some (.ref f12)))
    (l12 : K.lookup f12 = some ⟨oc12, od12, .func (PySem.W.fnOf "_law_refusal" "_law_refusal" (defArgs s__law_refusal) (defBody s__law_refusal) (defScope s__law_refusal) .none kV12 dc12 pm12 an12 cd12 ct12), sl12⟩)
    (c12 : PySem.W.codeIn K cd12 "_law_refusal" = true)
    (k12 : PySem.W.keepIn K (.ref f12) = true)
    (a13 : PySem.W.nsIn K mainGlobals "_law_is" = some (some (.ref f13)))
    (l13 : K.lookup f13 = some ⟨oc13, od13, .func (PySem.W.fnOf "_law_is" "_law_is" (defArgs s__law_is) (defBody s__law_is) (defScope s__law_is) .none kV13 dc13 pm13 an13 cd13 ct13), sl13⟩)
    (c13 : PySem.W.codeIn K cd13 "_law_is" = true)
    (k13 : PySem.W.keepIn K (.ref f13) = true)
    (a14 : PySem.W.nsIn K mainGlobals "_law_deed_line" = some (some (.ref f14)))
    (l14 : K.lookup f14 = some ⟨oc14, od14, .func (PySem.W.fnOf "_law_deed_line" "_law_deed_line" (defArgs s__law_deed_line) (defBody s__law_deed_line) (defScope s__law_deed_line) .none kV14 dc14 pm14 an14 cd14 ct14), sl14⟩)
    (c14 : PySem.W.codeIn K cd14 "_law_deed_line" = true)
    (k14 : PySem.W.keepIn K (.ref f14) = true)
    (a15 : PySem.W.nsIn K mainGlobals "is_deed" = some (some (.ref f15)))
    (l15 : K.lookup f15 = some ⟨oc15, od15, .func (PySem.W.fnOf "is_deed" "is_deed" (defArgs s_is_deed) (defBody s_is_deed) (defScope s_is_deed) .none kV15 dc15 pm15 an15 cd15 ct15), sl15⟩)
    (c15 : PySem.W.codeIn K cd15 "is_deed" = true)
    (k15 : PySem.W.keepIn K (.ref f15) = true)
    (a16 : PySem.W.nsIn K mainGlobals "is_kind" = some (some (.ref f16)))
    (l16 : K.lookup f16 = some ⟨oc16, od16, .func (PySem.W.fnOf "is_kind" "is_kind" (defArgs s_is_kind) (defBody s_is_kind) (defScope s_is_kind) .none kV16 dc16 pm16 an16 cd16 ct16), sl16⟩)
    (c16 : PySem.W.codeIn K cd16 "is_kind" = true)
    (k16 : PySem.W.keepIn K (.ref f16) = true)
    (a17 : PySem.W.nsIn K mainGlobals "kinds_right" = some (some (.ref f17)))
    (l17 : K.lookup f17 = some ⟨oc17, od17, .func (PySem.W.fnOf "kinds_right" "kinds_right" (defArgs s_kinds_right) (defBody s_kinds_right) (defScope s_kinds_right) .none kV17 dc17 pm17 an17 cd17 ct17), sl17⟩)
    (c17 : PySem.W.codeIn K cd17 "kinds_right" = true)
    (k17 : PySem.W.keepIn K (.ref f17) = true)
    (a18 : PySem.W.nsIn K mainGlobals "is_plain" = some (some (.ref f18)))
    (l18 : K.lookup f18 = some ⟨oc18, od18, .func (PySem.W.fnOf "is_plain" "is_plain" (defArgs s_is_plain) (defBody s_is_plain) (defScope s_is_plain) .none kV18 dc18 pm18 an18 cd18 ct18), sl18⟩)
    (c18 : PySem.W.codeIn K cd18 "is_plain" = true)
    (k18 : PySem.W.keepIn K (.ref f18) = true)
    (a19 : PySem.W.nsIn K mainGlobals "history_text" = some (some (.ref f19)))
    (l19 : K.lookup f19 = some ⟨oc19, od19, .func (PySem.W.fnOf "history_text" "history_text" (defArgs s_history_text) (defBody s_history_text) (defScope s_history_text) .none kV19 dc19 pm19 an19 cd19 ct19), sl19⟩)
    (c19 : PySem.W.codeIn K cd19 "history_text" = true)
    (k19 : PySem.W.keepIn K (.ref f19) = true)
    (a20 : PySem.W.nsIn K mainGlobals "lines_of" = some (some (.ref f20)))
    (l20 : K.lookup f20 = some ⟨oc20, od20, .func (PySem.W.fnOf "lines_of" "lines_of" (defArgs s_lines_of) (defBody s_lines_of) (defScope s_lines_of) .none kV20 dc20 pm20 an20 cd20 ct20), sl20⟩)
    (c20 : PySem.W.codeIn K cd20 "lines_of" = true)
    (k20 : PySem.W.keepIn K (.ref f20) = true)
    (a21 : PySem.W.nsIn K mainGlobals "part_of" = some (some (.ref f21)))
    (l21 : K.lookup f21 = some ⟨oc21, od21, .func (PySem.W.fnOf "part_of" "part_of" (defArgs s_part_of) (defBody s_part_of) (defScope s_part_of) .none kV21 dc21 pm21 an21 cd21 ct21), sl21⟩)
    (c21 : PySem.W.codeIn K cd21 "part_of" = true)
    (k21 : PySem.W.keepIn K (.ref f21) = true)
    (a22 : PySem.W.nsIn K mainGlobals "deed_of" = some (some (.ref f22)))
    (l22 : K.lookup f22 = some ⟨oc22, od22, .func (PySem.W.fnOf "deed_of" "deed_of" (defArgs s_deed_of) (defBody s_deed_of) (defScope s_deed_of) .none kV22 dc22 pm22 an22 cd22 ct22), sl22⟩)
    (c22 : PySem.W.codeIn K cd22 "deed_of" = true)
    (k22 : PySem.W.keepIn K (.ref f22) = true)
    (a23 : PySem.W.nsIn K mainGlobals "read_history" = some (some (.ref f23)))
    (l23 : K.lookup f23 = some ⟨oc23, od23, .func (PySem.W.fnOf "read_history" "read_history" (defArgs s_read_history) (defBody s_read_history) (defScope s_read_history) .none kV23 dc23 pm23 an23 cd23 ct23), sl23⟩)
    (c23 : PySem.W.codeIn K cd23 "read_history" = true)
    (k23 : PySem.W.keepIn K (.ref f23) = true)
    (a24 : PySem.W.nsIn K mainGlobals "law" = some (some (.ref f24)))
    (l24 : K.lookup f24 = some ⟨oc24, od24, .func (PySem.W.fnOf "law" "law" (defArgs s_law) (defBody s_law) (defScope s_law) .none kV24 dc24 pm24 an24 (.ref ca24) ct24), sl24⟩)
    (c24 : PySem.W.codeIn K (.ref ca24) "law" = true)
    (k24 : PySem.W.keepIn K (.ref f24) = true)
    (tl24 : K.lookup ca24 = some ⟨tcl24, tod24, .fields vs24, tsl24⟩)
    (tv24 : vs24[11]? = some (.ref P24))
    (td24 : PySem.W.codeHdIn K ca24 P24 = true)
    (tn24 : K.lookup P24 = none)
    (tt24 : h.get? P24 = some { cls := .none, data := .fields #[] })
    (g_KINDS : PySem.W.nsIn K mainGlobals "KINDS" = some (some (.ref p_KINDS)))
    (h_KINDS : K.lookup p_KINDS = some ⟨.type "tuple", dd_KINDS, .seq [.str "down" t_KINDS0, .str "up" t_KINDS1].toArray n_KINDS, sl_KINDS⟩)
    (g_MOST : PySem.W.nsIn K mainGlobals "MOST" = some (some (.int 1000000000 t_MOST)))
    (z_super : PySem.W.nsIn K mainGlobals "super" = some none)
    (z_abs : PySem.W.nsIn K mainGlobals "abs" = some none)
    (z_int : PySem.W.nsIn K mainGlobals "int" = some none)
    (z_isinstance : PySem.W.nsIn K mainGlobals "isinstance" = some none)
    (z_bool : PySem.W.nsIn K mainGlobals "bool" = some none)
    (z_tuple : PySem.W.nsIn K mainGlobals "tuple" = some none)
    (z_str : PySem.W.nsIn K mainGlobals "str" = some none)
    (z_len : PySem.W.nsIn K mainGlobals "len" = some none)
    (z_list : PySem.W.nsIn K mainGlobals "list" = some none)
    (z_enumerate : PySem.W.nsIn K mainGlobals "enumerate" = some none)
    (z_range : PySem.W.nsIn K mainGlobals "range" = some none)
    (z_ValueError : PySem.W.nsIn K mainGlobals "ValueError" = some none)
    (z_repr : PySem.W.nsIn K mainGlobals "repr" = some none)
    (z_all : PySem.W.nsIn K mainGlobals "all" = some none)
    (z_min : PySem.W.nsIn K mainGlobals "min" = some none)
    (kg_PARTS : PySem.W.nsIn K mainGlobals "PARTS" = some (some (.ref kp_PARTS)))
    (kl_PARTS : K.lookup kp_PARTS = some ⟨.type "dict", none, .dict kes_PARTS kn_PARTS, #[]⟩)
    (kk_PARTS : KdI w.params kes_PARTS.toList [("write", 4), ("cover", 2), ("branch", 2), ("begin", 3), ("step", 2), ("stop", 1)])
    (ks_PARTS : (kp_PARTS == sysModules) = false)
    (tu24 : (([(P24, ("law" : Str) ++ (".<locals>." : Str) ++ ("<lambda>" : Str))] : List (Addr × Str)).all fun p => decide (p.1 = P24 → p.2 = ("law" : Str) ++ (".<locals>." : Str) ++ ("<lambda>" : Str))) = true)
    (ag0 : PySem.W.nsIn K mainGlobals "_law_caught" = some (some (.ref fg0)))
    (lg0 : K.lookup fg0 = some ⟨ocg0, odg0, .func (PySem.W.fnOf "_law_caught" "_law_caught" (defArgs s__law_caught) (defBody s__law_caught) (defScope s__law_caught) .none kVg0 dcg0 pmg0 ang0 cdg0 ctg0), slg0⟩)
    (cg0 : PySem.W.codeIn K cdg0 "_law_caught" = true)
    (kg0 : PySem.W.keepIn K (.ref fg0) = true)
    (xm0 : PySem.W.exmOne K (.ref C0) (.ref C0) = some true)
    (xm1 : PySem.W.exmOne K (.ref C1) (.ref C0) = some true)
    (xm2 : PySem.W.exmOne K (.ref C2) (.ref C0) = some true)
    (xm3 : PySem.W.exmOne K (.ref C3) (.ref C0) = some true)
    (xm4 : PySem.W.exmOne K (.ref C4) (.ref C0) = some true)
    (xm5 : PySem.W.exmOne K (.ref C5) (.ref C0) = some true)
    (xm6 : PySem.W.exmOne K (.ref C6) (.ref C0) = some true)
    (be0 : excB K C0 = true)
    (be1 : excB K C1 = true)
    (be2 : excB K C2 = true)
    (be3 : excB K C3 = true)
    (be4 : excB K C4 = true)
    (be5 : excB K C5 = true)
    (be6 : excB K C6 = true)
    (xf_field : ([3].all fun c => decide (PySem.W.findIn K (.ref ((⟨fun n => [C0, C1, C2, C3, C4, C5, C6].getD n 0, [(P24, ("law" : Str) ++ (".<locals>." : Str) ++ ("<lambda>" : Str))]⟩ : CAs) c)) "field" = some none)) = true)
    (xf_number : ([2].all fun c => decide (PySem.W.findIn K (.ref ((⟨fun n => [C0, C1, C2, C3, C4, C5, C6].getD n 0, [(P24, ("law" : Str) ++ (".<locals>." : Str) ++ ("<lambda>" : Str))]⟩ : CAs) c)) "number" = some none)) = true)
    (xf_at : ([1].all fun c => decide (PySem.W.findIn K (.ref ((⟨fun n => [C0, C1, C2, C3, C4, C5, C6].getD n 0, [(P24, ("law" : Str) ++ (".<locals>." : Str) ++ ("<lambda>" : Str))]⟩ : CAs) c)) "at" = some none)) = true)
    (xf_line : ([6].all fun c => decide (PySem.W.findIn K (.ref ((⟨fun n => [C0, C1, C2, C3, C4, C5, C6].getD n 0, [(P24, ("law" : Str) ++ (".<locals>." : Str) ++ ("<lambda>" : Str))]⟩ : CAs) c)) "line" = some none)) = true)
    (tpS : (l.prog.main.scope.names.lookup ("super" : Str)).isSome = false)
    (xb1 : iniB K C1 "at" = true)
    (xi1 : PySem.W.findIn K (.ref C1) "__init__" = some (some (.ref xf1)))
    (xl1 : K.lookup xf1 = some ⟨xoc1, xod1, .func (PySem.W.ksFn "__init__" "BadDeed.__init__" (defArgs s_BadDeed_init) (defBody s_BadDeed_init) (defScope s_BadDeed_init) .none xkV1 xdoc1 xpm1 xan1 (.ref xa1) xct1 xc1), xsl1⟩)
    (xt1 : PySem.W.typeIn K (.ref xf1) = some (.type "function"))
    (xk1 : PySem.W.codeIn K (.ref xa1) "BadDeed.__init__" = true)
    (xla1 : K.lookup xa1 = some ⟨xcl1, xcd1, .fields xvs1, xcs1⟩)
    (xv1 : xvs1[2]? = some (.str xfile1 xtf1))
    (xh1 : ((l.prog.main.file : Str) == xfile1) = true)
    (xlc1 : K.lookup xc1 = some ⟨xcv1, xce1, .cell (some (.ref C1)), xct21⟩)
    (xb6 : iniB K C6 "line" = true)
    (xi6 : PySem.W.findIn K (.ref C6) "__init__" = some (some (.ref xf6)))
    (xl6 : K.lookup xf6 = some ⟨xoc6, xod6, .func (PySem.W.ksFn "__init__" "BadText.__init__" (defArgs s_BadText_init) (defBody s_BadText_init) (defScope s_BadText_init) .none xkV6 xdoc6 xpm6 xan6 (.ref xa6) xct6 xc6), xsl6⟩)
    (xt6 : PySem.W.typeIn K (.ref xf6) = some (.type "function"))
    (xk6 : PySem.W.codeIn K (.ref xa6) "BadText.__init__" = true)
    (xla6 : K.lookup xa6 = some ⟨xcl6, xcd6, .fields xvs6, xcs6⟩)
    (xv6 : xvs6[2]? = some (.str xfile6 xtf6))
    (xh6 : ((l.prog.main.file : Str) == xfile6) = true)
    (xlc6 : K.lookup xc6 = some ⟨xcv6, xce6, .cell (some (.ref C6)), xct26⟩)
    (bk : ktChk K (⟨fun n => [C0, C1, C2, C3, C4, C5, C6].getD n 0, [(P24, ("law" : Str) ++ (".<locals>." : Str) ++ ("<lambda>" : Str))]⟩ : CAs) [[.o 0, .b "ValueError"], [.o 1, .o 0, .b "ValueError"], [.o 2, .o 0, .b "ValueError"], [.o 3, .o 0, .b "ValueError"], [.o 4, .o 0, .b "ValueError"], [.o 5, .o 0, .b "ValueError"], [.o 6, .o 0, .b "ValueError"]] ("ValueError" :: tys) = true)
    : ∃ (fd : FuncData) (CA : CAs) (cs : List (Addr × Addr)), (∀ p ∈ CA.T, ∃ c, (c, p.1) ∈ cs) ∧ (∀ p ∈ cs, h.get? p.2 = some { cls := .none, data := .fields #[] }) ∧ (∀ p ∈ cs, K.lookup p.2 = none) ∧ (∀ p ∈ cs, PySem.W.CodeHd h p.1 p.2) ∧ (∀ (s : Shared) (v : Value), BindsTo s fd ⟨[v], []⟩ [("_law_script", v)]) ∧ ∀ base : Heap, K.In base → base.Ns mainGlobals mg → SM base → (∀ p ∈ cs, LamX.TabB base mg p.1 p.2) → FnG l.prog w K mg base true 11 fa fd ["_law_script"] (spD K CA 1 F_law) := by
  have e := hfa.symm.trans (PySem.W.mg_of X G a24)
  cases e
  have T : Txt mg := ⟨PySem.W.mg_none_of X G z_super, PySem.W.mg_none_of X G z_abs, PySem.W.mg_none_of X G z_int, PySem.W.mg_none_of X G z_isinstance, PySem.W.mg_none_of X G z_bool, PySem.W.mg_none_of X G z_tuple, PySem.W.mg_none_of X G z_str, PySem.W.mg_none_of X G z_len, PySem.W.mg_none_of X G z_list, PySem.W.mg_none_of X G z_enumerate, PySem.W.mg_none_of X G z_range, PySem.W.mg_none_of X G z_ValueError, PySem.W.mg_none_of X G z_repr, PySem.W.mg_none_of X G z_all, PySem.W.mg_none_of X G z_min⟩
  let CA : CAs := (⟨fun n => [C0, C1, C2, C3, C4, C5, C6].getD n 0, [(P24, ("law" : Str) ++ (".<locals>." : Str) ++ ("<lambda>" : Str))]⟩ : CAs)
  have E0 : ExcOk K (CA 0) := excB_ok be0
  have E1 : ExcOk K (CA 1) := excB_ok be1
  have E2 : ExcOk K (CA 2) := excB_ok be2
  have E3 : ExcOk K (CA 3) := excB_ok be3
  have E4 : ExcOk K (CA 4) := excB_ok be4
  have E5 : ExcOk K (CA 5) := excB_ok be5
  have E6 : ExcOk K (CA 6) := excB_ok be6
  have C : Cst K CA mg := ⟨gv_wr (PySem.W.mg_of X G g_KINDS) (.tup h_KINDS (.cons (.str "down" _) (.cons (.str "up" _) (.nil))) (show 2 ≤ sizeLine by decide)), gv_int (PySem.W.mg_of X G g_MOST), gv_cls (PySem.W.mg_of X G ac1) rfl, gv_cls (PySem.W.mg_of X G ac2) rfl, gv_cls (PySem.W.mg_of X G ac3) rfl, gv_cls (PySem.W.mg_of X G ac4) rfl, gv_cls (PySem.W.mg_of X G ac5) rfl, gv_cls (PySem.W.mg_of X G ac6) rfl⟩
  have XE : ∀ c ∈ (xs0 : List Nat), ExcOk K (CA c) := fun c hc => by
    simp only [xs0, List.mem_cons, List.not_mem_nil, or_false] at hc
    rcases hc with rfl | rfl | rfl | rfl | rfl | rfl | rfl
    all_goals first | exact E0 | exact E1 | exact E2 | exact E3 | exact E4 | exact E5 | exact E6
  have Xf : XFd K CA := ⟨xfOf_by (fun c hc => XE c ((by decide : ∀ c ∈ ([3] : List Nat), c ∈ (xs0 : List Nat)) c hc)) xf_field, xfOf_by (fun c hc => XE c ((by decide : ∀ c ∈ ([2] : List Nat), c ∈ (xs0 : List Nat)) c hc)) xf_number, xfOf_by (fun c hc => XE c ((by decide : ∀ c ∈ ([1] : List Nat), c ∈ (xs0 : List Nat)) c hc)) xf_at, xfOf_by (fun c hc => XE c ((by decide : ∀ c ∈ ([6] : List Nat), c ∈ (xs0 : List Nat)) c hc)) xf_line⟩
  have Hx : ∀ c ∈ (xs0 : List Nat), PySem.W.exmOne K (.ref (CA c)) (.ref (CA 0)) = some true := fun c hc => by
    simp only [xs0, List.mem_cons, List.not_mem_nil, or_false] at hc
    rcases hc with rfl | rfl | rfl | rfl | rfl | rfl | rfl
    all_goals first | exact xm0 | exact xm1 | exact xm2 | exact xm3 | exact xm4 | exact xm5 | exact xm6
  have FG0 := fun_mk (st := s__law_caught) lg0 cg0 kg0
  have G__law_caught : Cgt K CA mg "_law_caught" 0 := cgt_mk (a := "_law_work") (e := "MergeError") (c := "_law_caught_here") (n := "_law_error") lg0 cg0 kg0 (PySem.W.mg_of X G ag0) (PySem.W.mg_of X G ac0) (FG0.binds (fun _ _ _ _ _ _ us hl => match us, hl with | [_], _ => rfl)) ⟨rfl, rfl, rfl, by decide +kernel, rfl, by decide +kernel, by decide +kernel⟩ rfl (by decide) rfl rfl rfl (by decide) (by decide) (by decide) (by decide) (by decide) (by decide)
  have X_BadDeed : Xmd l.prog K mg (CA 1) "BadDeed" "at" "at" := xmd_of (st := s_BadDeed_init) (PySem.W.mg_of X G ac1) E1 xb1 T.z_super tpS xi1 xt1 xl1 xk1 (by decide +kernel) ⟨_, _, _, _, _, _, _, _, _, _, _, _, rfl, fun env => ⟨_, rfl⟩⟩ ⟨_, rfl, rfl⟩ xla1 xv1 xh1 xlc1 (fun s u v => ⟨.of_eq rfl, .of_eq rfl⟩)
  have X_BadText : Xmd l.prog K mg (CA 6) "BadText" "line" "line" := xmd_of (st := s_BadText_init) (PySem.W.mg_of X G ac6) E6 xb6 T.z_super tpS xi6 xt6 xl6 xk6 (by decide +kernel) ⟨_, _, _, _, _, _, _, _, _, _, _, _, rfl, fun env => ⟨_, rfl⟩⟩ ⟨_, rfl, rfl⟩ xla6 xv6 xh6 xlc6 (fun s u v => ⟨.of_eq rfl, .of_eq rfl⟩)
  have KG_PARTS : KGet K w mg "PARTS" kp_PARTS [("write", 4), ("cover", 2), ("branch", 2), ("begin", 3), ("step", 2), ("stop", 1)] := kget_mk (PySem.W.mg_of X G kg_PARTS) kl_PARTS kk_PARTS ks_PARTS
  have Kt : KtOk K CA [] kt0 := ktT_ok bk (fun c hc => by
    cases hc)
  refine ⟨PySem.W.fnOf "law" "law" (defArgs s_law) (defBody s_law) (defScope s_law) .none kV24 dc24 pm24 an24 (.ref ca24) ct24, CA, [(ca24, P24)], List.forall_mem_cons.mpr ⟨⟨ca24, by simp⟩, (fun _ h => nomatch h)⟩, List.forall_mem_cons.mpr ⟨tt24, (fun _ h => nomatch h)⟩, List.forall_mem_cons.mpr ⟨tn24, (fun _ h => nomatch h)⟩, List.forall_mem_cons.mpr ⟨PySem.W.codeHd_of_K X td24, (fun _ h => nomatch h)⟩, fun s v => .of_eq rfl, fun base _ _ SMb TBs => ?_⟩
  have F0 := fun_mk (st := s__law_begun) l0 c0 k0
  have D__law_begun : Df l.prog w K mg base CA "_law_begun" false 1 ["_law_script"] F__law_begun _ _ := Df.of F0 (ok__law_begun F0 T Hx XE Xf SMb C Kt ) (PySem.W.mg_of X G a0)
  have F1 := fun_mk (st := s__law_is_cell) l1 c1 k1
  have D__law_is_cell : Df l.prog w K mg base CA "_law_is_cell" false 1 ["_law_thing"] F__law_is_cell _ _ := Df.of F1 (ok__law_is_cell F1 T Hx XE Xf SMb C Kt ) (PySem.W.mg_of X G a1)
  have F2 := fun_mk (st := s__law_is_text_deed) l2 c2 k2
  have B__law_is_cell_1 : KwB K CA _ ["_law_thing"] 1 [] (srcP 0 1) := KwB.fn F1 rfl (fun _ _ _ _ _ _ us ws h1 h2 => match us, ws, h1, h2 with | [_], [], _, _ => rfl)
  have D__law_is_text_deed : Df l.prog w K mg base CA "_law_is_text_deed" false 2 ["_law_thing"] F__law_is_text_deed _ _ := Df.of F2 (ok__law_is_text_deed F2 T Hx XE Xf SMb C Kt B__law_is_cell_1 D__law_is_cell) (PySem.W.mg_of X G a2)
  have F3 := fun_mk (st := s__law_part) l3 c3 k3
  have D__law_part : Df l.prog w K mg base CA "_law_part" false 1 ["_law_word"] F__law_part _ _ := Df.of F3 (ok__law_part F3 T Hx XE Xf SMb C Kt ) (PySem.W.mg_of X G a3)
  have F4 := fun_mk (st := s__law_read_line) l4 c4 k4
  have B__law_part_1 : KwB K CA _ ["_law_word"] 1 [] (srcP 0 1) := KwB.fn F3 rfl (fun _ _ _ _ _ _ us ws h1 h2 => match us, ws, h1, h2 with | [_], [], _, _ => rfl)
  have B__law_is_text_deed_1 : KwB K CA _ ["_law_thing"] 1 [] (srcP 0 1) := KwB.fn F2 rfl (fun _ _ _ _ _ _ us ws h1 h2 => match us, ws, h1, h2 with | [_], [], _, _ => rfl)
  have D__law_read_line : Df l.prog w K mg base CA "_law_read_line" false 3 ["_law_row"] F__law_read_line _ _ := Df.of F4 (ok__law_read_line F4 T Hx XE Xf SMb C Kt B__law_part_1 D__law_part B__law_is_text_deed_1 D__law_is_text_deed) (PySem.W.mg_of X G a4)
  have F5 := fun_mk (st := s__law_read) l5 c5 k5
  have B__law_read_line_1 : KwB K CA _ ["_law_row"] 1 [] (srcP 0 1) := KwB.fn F4 rfl (fun _ _ _ _ _ _ us ws h1 h2 => match us, ws, h1, h2 with | [_], [], _, _ => rfl)
  have D__law_read : Df l.prog w K mg base CA "_law_read" false 4 ["_law_page"] F__law_read _ _ := Df.of F5 (ok__law_read F5 T Hx XE Xf SMb C Kt B__law_read_line_1 D__law_read_line) (PySem.W.mg_of X G a5)
  have F6 := fun_mk (st := s__law_mixed) l6 c6 k6
  have D__law_mixed : Df l.prog w K mg base CA "_law_mixed" false 1 ["_law_draw"] F__law_mixed _ _ := Df.of F6 (ok__law_mixed F6 T Hx XE Xf SMb C Kt ) (PySem.W.mg_of X G a6)
  have F7 := fun_mk (st := s__law_take) l7 c7 k7
  have B__law_mixed_1 : KwB K CA _ ["_law_draw"] 1 [] (srcP 0 1) := KwB.fn F6 rfl (fun _ _ _ _ _ _ us ws h1 h2 => match us, ws, h1, h2 with | [_], [], _, _ => rfl)
  have D__law_take : Df l.prog w K mg base CA "_law_take" false 2 ["_law_draw", "_law_size"] F__law_take _ _ := Df.of F7 (ok__law_take F7 T Hx XE Xf SMb C Kt B__law_mixed_1 D__law_mixed) (PySem.W.mg_of X G a7)
  have F8 := fun_mk (st := s__law_pick) l8 c8 k8
  have B__law_take_2 : KwB K CA _ ["_law_draw", "_law_size"] 2 [] (srcP 0 2) := KwB.fn F7 rfl (fun _ _ _ _ _ _ us ws h1 h2 => match us, ws, h1, h2 with | [_, _], [], _, _ => rfl)
  have D__law_pick : Df l.prog w K mg base CA "_law_pick" false 3 ["_law_draw", "_law_some"] F__law_pick _ _ := Df.of F8 (ok__law_pick F8 T Hx XE Xf SMb C Kt B__law_take_2 D__law_take) (PySem.W.mg_of X G a8)
  have F9 := fun_mk (st := s__law_text_number) l9 c9 k9
  have B__law_pick_2 : KwB K CA _ ["_law_draw", "_law_some"] 2 [] (srcP 0 2) := KwB.fn F8 rfl (fun _ _ _ _ _ _ us ws h1 h2 => match us, ws, h1, h2 with | [_, _], [], _, _ => rfl)
  have D__law_text_number : Df l.prog w K mg base CA "_law_text_number" false 4 ["_law_draw"] F__law_text_number _ _ := Df.of F9 (ok__law_text_number F9 T Hx XE Xf SMb C Kt B__law_pick_2 D__law_pick B__law_take_2 D__law_take) (PySem.W.mg_of X G a9)
  have F10 := fun_mk (st := s__law_text_deed) l10 c10 k10
  have B__law_text_number_1 : KwB K CA _ ["_law_draw"] 1 [] (srcP 0 1) := KwB.fn F9 rfl (fun _ _ _ _ _ _ us ws h1 h2 => match us, ws, h1, h2 with | [_], [], _, _ => rfl)
  have D__law_text_deed : Df l.prog w K mg base CA "_law_text_deed" false 5 ["_law_draw"] F__law_text_deed _ _ := Df.of F10 (ok__law_text_deed F10 T Hx XE Xf SMb C Kt B__law_pick_2 D__law_pick B__law_text_number_1 D__law_text_number) (PySem.W.mg_of X G a10)
  have F11 := fun_mk (st := s__law_bent_text) l11 c11 k11
  have D__law_bent_text : Df l.prog w K mg base CA "_law_bent_text" false 4 ["_law_draw", "_law_page", "_law_signs"] F__law_bent_text _ _ := Df.of F11 (ok__law_bent_text F11 T Hx XE Xf SMb C Kt B__law_take_2 D__law_take B__law_pick_2 D__law_pick) (PySem.W.mg_of X G a11)
  have F12 := fun_mk (st := s__law_refusal) l12 c12 k12
  have L__law_refusal : ∀ kb : Nat, Dl l.prog w K mg base CA "_law_refusal" false (kb + 3) kb ["_law_work"] 0 F__law_refusal := fun kb => ⟨⟨_, _, ok__law_refusal kb F12 T Hx XE Xf SMb C Kt G__law_caught, PySem.W.mg_of X G a12, k12, F12.binds (fun _ _ _ _ _ _ us hl => match us, hl with | [_], _ => rfl)⟩, rfl⟩
  have F13 := fun_mk (st := s__law_is) l13 c13 k13
  have L__law_is : ∀ kb : Nat, Dl l.prog w K mg base CA "_law_is" true (kb + 4) kb ["_law_work", "_law_word", "_law_kept"] 2 F__law_is := fun kb => ⟨⟨_, _, ok__law_is kb F13 T Hx XE Xf SMb C Kt L__law_refusal, PySem.W.mg_of X G a13, k13, F13.binds (fun _ _ _ _ _ _ us hl => match us, hl with | [_, _, _], _ => rfl)⟩, rfl⟩
  have F14 := fun_mk (st := s__law_deed_line) l14 c14 k14
  have D__law_deed_line : Df l.prog w K mg base CA "_law_deed_line" false 1 ["_law_deed"] F__law_deed_line _ _ := Df.of F14 (ok__law_deed_line F14 T Hx XE Xf SMb C Kt ) (PySem.W.mg_of X G a14)
  have F15 := fun_mk (st := s_is_deed) l15 c15 k15
  have D_is_deed : Df l.prog w K mg base CA "is_deed" false 1 ["thing"] F_is_deed _ _ := Df.of F15 (ok_is_deed F15 T Hx XE Xf SMb C Kt KG_PARTS) (PySem.W.mg_of X G a15)
  have F16 := fun_mk (st := s_is_kind) l16 c16 k16
  have D_is_kind : Df l.prog w K mg base CA "is_kind" false 1 ["thing"] F_is_kind _ _ := Df.of F16 (ok_is_kind F16 T Hx XE Xf SMb C Kt ) (PySem.W.mg_of X G a16)
  have F17 := fun_mk (st := s_kinds_right) l17 c17 k17
  have B_is_kind_1 : KwB K CA _ ["thing"] 1 [] (srcP 0 1) := KwB.fn F16 rfl (fun _ _ _ _ _ _ us ws h1 h2 => match us, ws, h1, h2 with | [_], [], _, _ => rfl)
  have D_kinds_right : Df l.prog w K mg base CA "kinds_right" false 2 ["deed"] F_kinds_right _ _ := Df.of F17 (ok_kinds_right F17 T Hx XE Xf SMb C Kt B_is_kind_1 D_is_kind) (PySem.W.mg_of X G a17)
  have F18 := fun_mk (st := s_is_plain) l18 c18 k18
  have D_is_plain : Df l.prog w K mg base CA "is_plain" false 2 ["part"] F_is_plain _ _ := Df.of F18 (ok_is_plain F18 T Hx XE Xf SMb C Kt B_is_kind_1 D_is_kind) (PySem.W.mg_of X G a18)
  have F19 := fun_mk (st := s_history_text) l19 c19 k19
  have B_is_deed_1 : KwB K CA _ ["thing"] 1 [] (srcP 0 1) := KwB.fn F15 rfl (fun _ _ _ _ _ _ us ws h1 h2 => match us, ws, h1, h2 with | [_], [], _, _ => rfl)
  have B_is_plain_1 : KwB K CA _ ["part"] 1 [] (srcP 0 1) := KwB.fn F18 rfl (fun _ _ _ _ _ _ us ws h1 h2 => match us, ws, h1, h2 with | [_], [], _, _ => rfl)
  have B_kinds_right_1 : KwB K CA _ ["deed"] 1 [] (srcP 0 1) := KwB.fn F17 rfl (fun _ _ _ _ _ _ us ws h1 h2 => match us, ws, h1, h2 with | [_], [], _, _ => rfl)
  have D_history_text : Df l.prog w K mg base CA "history_text" false 3 ["history"] F_history_text _ _ := Df.of F19 (ok_history_text F19 T Hx XE Xf SMb C Kt X_BadDeed B_is_deed_1 D_is_deed B_is_plain_1 D_is_plain B_kinds_right_1 D_kinds_right) (PySem.W.mg_of X G a19)
  have F20 := fun_mk (st := s_lines_of) l20 c20 k20
  have D_lines_of : Df l.prog w K mg base CA "lines_of" false 1 ["text"] F_lines_of _ _ := Df.of F20 (ok_lines_of F20 T Hx XE Xf SMb C Kt ) (PySem.W.mg_of X G a20)
  have F21 := fun_mk (st := s_part_of) l21 c21 k21
  have D_part_of : Df l.prog w K mg base CA "part_of" false 2 ["word"] F_part_of _ _ := Df.of F21 (ok_part_of F21 T Hx XE Xf SMb C Kt B_is_kind_1 D_is_kind) (PySem.W.mg_of X G a21)
  have F22 := fun_mk (st := s_deed_of) l22 c22 k22
  have B_part_of_1 : KwB K CA _ ["word"] 1 [] (srcP 0 1) := KwB.fn F21 rfl (fun _ _ _ _ _ _ us ws h1 h2 => match us, ws, h1, h2 with | [_], [], _, _ => rfl)
  have D_deed_of : Df l.prog w K mg base CA "deed_of" false 3 ["line"] F_deed_of _ _ := Df.of F22 (ok_deed_of F22 T Hx XE Xf SMb C Kt B_part_of_1 D_part_of B_is_deed_1 D_is_deed B_kinds_right_1 D_kinds_right) (PySem.W.mg_of X G a22)
  have F23 := fun_mk (st := s_read_history) l23 c23 k23
  have B_lines_of_1 : KwB K CA _ ["text"] 1 [] (srcP 0 1) := KwB.fn F20 rfl (fun _ _ _ _ _ _ us ws h1 h2 => match us, ws, h1, h2 with | [_], [], _, _ => rfl)
  have B_deed_of_1 : KwB K CA _ ["line"] 1 [] (srcP 0 1) := KwB.fn F22 rfl (fun _ _ _ _ _ _ us ws h1 h2 => match us, ws, h1, h2 with | [_], [], _, _ => rfl)
  have D_read_history : Df l.prog w K mg base CA "read_history" false 4 ["text"] F_read_history _ _ := Df.of F23 (ok_read_history F23 T Hx XE Xf SMb C Kt X_BadText B_lines_of_1 D_lines_of B_deed_of_1 D_deed_of) (PySem.W.mg_of X G a23)
  have F24 := fun_mk (st := s_law) l24 c24 k24
  have B__law_begun_1 : KwB K CA _ ["_law_script"] 1 [] (srcP 0 1) := KwB.fn F0 rfl (fun _ _ _ _ _ _ us ws h1 h2 => match us, ws, h1, h2 with | [_], [], _, _ => rfl)
  have B__law_text_deed_1 : KwB K CA _ ["_law_draw"] 1 [] (srcP 0 1) := KwB.fn F10 rfl (fun _ _ _ _ _ _ us ws h1 h2 => match us, ws, h1, h2 with | [_], [], _, _ => rfl)
  have B__law_deed_line_1 : KwB K CA _ ["_law_deed"] 1 [] (srcP 0 1) := KwB.fn F14 rfl (fun _ _ _ _ _ _ us ws h1 h2 => match us, ws, h1, h2 with | [_], [], _, _ => rfl)
  have B__law_bent_text_3 : KwB K CA _ ["_law_draw", "_law_page", "_law_signs"] 3 [] (srcP 0 3) := KwB.fn F11 rfl (fun _ _ _ _ _ _ us ws h1 h2 => match us, ws, h1, h2 with | [_, _, _], [], _, _ => rfl)
  have B__law_read_1 : KwB K CA _ ["_law_page"] 1 [] (srcP 0 1) := KwB.fn F5 rfl (fun _ _ _ _ _ _ us ws h1 h2 => match us, ws, h1, h2 with | [_], [], _, _ => rfl)
  have B_read_history_1 : KwB K CA _ ["text"] 1 [] (srcP 0 1) := KwB.fn F23 rfl (fun _ _ _ _ _ _ us ws h1 h2 => match us, ws, h1, h2 with | [_], [], _, _ => rfl)
  have B_read_history_0_text : KwB K CA _ ["text"] 0 ["text"] ([.k 0]) := KwB.fn F23 rfl (fun _ _ _ _ _ _ us ws h1 h2 => match us, ws, h1, h2 with | [], [_], _, _ => rfl)
  have B_history_text_1 : KwB K CA _ ["history"] 1 [] (srcP 0 1) := KwB.fn F19 rfl (fun _ _ _ _ _ _ us ws h1 h2 => match us, ws, h1, h2 with | [_], [], _, _ => rfl)
  exact ok_law (func_mk (st := s_law) l24 c24) T Hx XE Xf SMb C Kt (TBs (ca24, P24) (List.Mem.head _)) (List.Mem.head _) (fun p hp e => of_decide_eq_true (List.all_eq_true.mp tu24 p hp) e) B__law_begun_1 D__law_begun B__law_take_2 D__law_take B__law_text_deed_1 D__law_text_deed B__law_deed_line_1 D__law_deed_line B__law_pick_2 D__law_pick B__law_bent_text_3 D__law_bent_text B__law_read_1 D__law_read B_read_history_1 D_read_history L__law_is B_read_history_0_text B_history_text_1 D_history_text
end
end W_whilemerged_k78_texts_of_histories_spoil
namespace W_whilemerged_k78_texts_of_histories_spoil
open PySem PySem.Spec PyProof.Rows L2 CM
section
variable {ta tb tc : TD} {ts tk : TDs} {t u : TB} {ρ : DE} {h : CH} {d : CM.D} {f f' : F2} {F : FD} {n l c0 : Nat} {nm : Bool} {src : List Src} {s : Str} {cs : List Nat} {tl th : TDo}
@[simp] theorem e_methN {nm : Str} : dMethN c0 nm n l src F ta ts tk ρ h = (ta ρ h).bind fun d h => match objOf h d with
  | some (c, fs) => if c = c0 ∧ (fs.lookup nm).isNone = true then (ts ρ h).bind fun ds h => (tk ρ h).bind fun zs h => if ds.length + 1 = n ∧ zs.length = l then F (pickD (d :: ds) zs src) h else .no else .no
  | none => .no := rfl
@[simp] theorem e_prop : dProp c0 F ta ρ h = (ta ρ h).bind fun d h => match objOf h d with
  | some (c, _) => if c = c0 then noxF F [d] h else .no
  | none => .no := rfl
@[simp] theorem e_nox {ds : List CM.D} : noxF F ds h = (F ds h).calm fun d h => .ok d h := rfl
@[simp] theorem e_raise {c : Nat} : dRaiseX c s ts ρ h = (ts ρ h).toS ρ (rxOf ρ c s) := rfl
@[simp] theorem rx_one {c : Nat} : rxOf ρ c s [d] h = .ex ρ c [(s, d)] h := rfl
@[simp] theorem e_chain : dChain f f' ta tb tc ρ h = (ta ρ h).bind fun x h => (tb ρ h).bind fun y h => (f x y h).bind fun z h => (asB z h).bind fun k h => if k = true then (tc ρ h).bind fun w h => f' y w h else .ok (.bl false) h := rfl
@[simp] theorem e_fB {g : Int → Int → Bool} {i j : Int} : fB g (.int i) (.int j) h = .ok (.bl (g i j)) h := rfl
@[simp] theorem e_start {N : Nat} {ds : List CM.D} : startD N ds = ds.map some ++ List.replicate (N - ds.length) none := rfl
@[simp] theorem e_isN {neg : Bool} : fIsN neg d .non h = .ok (.bl (bneg neg (CM.isNon d))) h := rfl
@[simp] theorem e_non_i {i : Int} : CM.isNon (.int i) = false := rfl
@[simp] theorem e_non_n : CM.isNon .non = true := rfl
@[simp] theorem e_non_t {l : List CM.D} : CM.isNon (.tup l) = false := rfl
@[simp] theorem e_non_r {k : Nat} : CM.isNon (.ref k) = false := rfl
@[simp] theorem b_f {b : Bool} : bneg false b = b := rfl
@[simp] theorem b_t {b : Bool} : bneg true b = !b := rfl
@[simp] theorem eq_ii {neg : Bool} {i j : Int} : fEq neg (.int i) (.int j) h = .ok (.bl (bneg neg (i == j))) h := rfl
@[simp] theorem eq_ni {neg : Bool} {j : Int} : fEq neg .non (.int j) h = .ok (.bl (bneg neg false)) h := rfl
@[simp] theorem eq_in {neg : Bool} {j : Int} : fEq neg (.int j) .non h = .ok (.bl (bneg neg false)) h := rfl
@[simp] theorem eq_nn {neg : Bool} : fEq neg .non .non h = .ok (.bl (bneg neg true)) h := rfl
@[simp] theorem eq_ss {neg : Bool} {a b : Str} : fEq neg (.str a) (.str b) h = .ok (.bl (bneg neg (a == b))) h := rfl
@[simp] theorem eq_bb {neg : Bool} {a b : Bool} : fEq neg (.bl a) (.bl b) h = .ok (.bl (bneg neg (a == b))) h := rfl
@[simp] theorem mkL_f {ds : List CM.D} : mkL false ds h = .ok (.lst ds) h := rfl
@[simp] theorem mkL_t {ds : List CM.D} : mkL true ds h = .ok (.ref h.nx) (h.new (.lst ds)) := rfl
@[simp] theorem mkD_f {ds : List (Key × D)} : mkD false ds h = .ok (.dct ds) h := rfl
@[simp] theorem mkD_t {ds : List (Key × D)} : mkD true ds h = .ok (.ref h.nx) (h.new (.dct ds)) := rfl
@[simp] theorem pk2 {a b : CM.D} : pickD [a, b] [] (srcP 0 2) = [a, b] := rfl
@[simp] theorem pk1 {a : CM.D} : pickD [a] [] (srcP 0 1) = [a] := rfl
@[simp] theorem pk3 {a b c : CM.D} : pickD [a, b, c] [] (srcP 0 3) = [a, b, c] := rfl
@[simp] theorem pk4 {a b c d : CM.D} : pickD [a, b, c, d] [] (srcP 0 4) = [a, b, c, d] := rfl
end
section
variable {h : CH}
theorem atI0 {x : CM.D} {l : List CM.D} : atI (x :: l) 0 = some x := by simp [atI, ixN]
theorem lcL_pure {α : Type} {tg : TGD} {tt : TB} {te : TD} {ρ0 : DE} {enc : α → CM.D} {f : α → Bool} {g : α → CM.D} : ∀ {xs : List α}, (∀ x ∈ xs, ∃ ρ2, tg (enc x) ρ0 h = .ok ρ2 h ∧ tt ρ2 h = .ok (f x) h ∧ (f x = true → te ρ2 h = .ok (g x) h)) → dLcL tg tt te ρ0 (xs.map enc) h = .ok ((xs.filter f).map g) h
  | [], _ => rfl
  | x :: xs, H => by
    obtain ⟨ρ2, e1, e2, e3⟩ := H x (List.mem_cons_self ..)
    have ih := lcL_pure (tg := tg) (tt := tt) (te := te) (ρ0 := ρ0) (enc := enc) (f := f) (g := g) (xs := xs) fun y hy => H y (List.mem_cons_of_mem _ hy)
    show (tg (enc x) ρ0 h).calm _ = _
    rw [e1, calm_ok, e2, calm_ok]
    cases c : f x with
    | true =>
      rw [if_pos rfl, e3 c, calm_ok, ih, bind_ok, List.filter_cons_of_pos c]
      rfl
    | false =>
      rw [if_neg (by simp), ih, List.filter_cons_of_neg (by simp [c])]
theorem lc_seq {α : Type} {ta : TD} {ρ : DE} {tg : TGD} {tt : TB} {te : TD} {vs : List Nat} {xs : List α} {enc : α → CM.D} (f : α → Bool) (g : α → CM.D) (e : ta ρ h = .ok (.lst (xs.map enc)) h) (lz : xs.length ≤ sizeLine)
    (H : ∀ x ∈ xs, ∃ ρ2, tg (enc x) (wipeD ρ vs) h = .ok ρ2 h ∧ tt ρ2 h = .ok (f x) h ∧ (f x = true → te ρ2 h = .ok (g x) h)) : dLc false (dSeqI ta) tg tt te vs ρ h = .ok (.lst ((xs.filter f).map g)) h := by
  have lz' : (xs.map enc).length ≤ sizeLine := by rw [List.length_map]; exact lz
  unfold dLc
  simp only [e_seqI, e, bind_ok, itemsD, if_pos lz']
  rw [lcL_pure H, bind_ok]
  rfl
theorem lc_seqT {α : Type} {ta : TD} {ρ : DE} {tg : TGD} {tt : TB} {te : TD} {vs : List Nat} {xs : List α} {enc : α → CM.D} (f : α → Bool) (g : α → CM.D) (e : ta ρ h = .ok (.tup (xs.map enc)) h) (lz : xs.length ≤ sizeLine)
    (H : ∀ x ∈ xs, ∃ ρ2, tg (enc x) (wipeD ρ vs) h = .ok ρ2 h ∧ tt ρ2 h = .ok (f x) h ∧ (f x = true → te ρ2 h = .ok (g x) h)) : dLc false (dSeqI ta) tg tt te vs ρ h = .ok (.lst ((xs.filter f).map g)) h := by
  have lz' : (xs.map enc).length ≤ sizeLine := by rw [List.length_map]; exact lz
  unfold dLc
  simp only [e_seqI, e, bind_ok, itemsD, if_pos lz']
  rw [lcL_pure H, bind_ok]
  rfl
theorem sz60 {n : Nat} (l : n ≤ 60) : n ≤ sizeLine := Nat.le_trans l (by decide)
theorem any_ss {x : Str} : ∀ l : List Str, (stL l).any (fun e => eqF e (.str x)) = l.contains x
  | [] => rfl
  | a :: l => by
    show (eqF (.str a) (.str x) || (stL l).any _) = _
    rw [any_ss l, List.contains_cons]
    have : eqF (.str a) (.str x) = (x == a) := by
      show (a == x) = (x == a)
      exact Bool.eq_iff_iff.mpr ⟨fun z => by rw [eq_of_beq z]; exact beq_self_eq_true _, fun z => by rw [eq_of_beq z]; exact beq_self_eq_true _⟩
    rw [this]
theorem in_strsT {neg : Bool} {l : List Str} {x : Str} : fIn neg (.str x) (.tup (stL l)) h = .ok (.bl (bneg neg (l.contains x))) h := by
  unfold fIn
  simp only [seqOf]
  rw [if_pos ⟨rfl, by simp [flatD]⟩, any_ss]
theorem atI_ge {ds : List CM.D} {i : Int} (h0 : 0 ≤ i) (h1 : i < ds.length) : atI ds i = ds[i.toNat]? := by
  unfold atI ixN
  rw [if_pos h0, if_pos h1]
  rfl
def rgI (n : Nat) : List Int := (List.range n).map Int.ofNat
def inL (l : List Int) : List CM.D := l.map CM.D.int
@[simp] theorem inL_len {l : List Int} : (inL l).length = l.length := by simp [inL]
@[simp] theorem inL_nil : inL [] = [] := rfl
theorem rgD_rgI {n : Nat} : rgD 0 n = (rgI n).map CM.D.int := by
  unfold rgD rgI
  rw [List.map_map]
  exact List.map_congr_left fun x _ => by show CM.D.int (0 + (x : Int)) = CM.D.int (Int.ofNat x); simp
end
section
variable {α : Type}
theorem forL_fold {tg : TGD} {u : SD} {enc : α → CM.D} (I : List α → DE → CH → Prop) (step : ∀ x r ρ h, I (x :: r) ρ h → ∃ ρ1 h1 ρ2 h2, tg (enc x) ρ h = .ok ρ1 h1 ∧ u ρ1 h1 = .nx ρ2 h2 ∧ I r ρ2 h2) : ∀ {xs : List α} {ρ : DE} {h : CH}, I xs ρ h → ∃ ρ' h', dForL tg u (xs.map enc) ρ h = .nx ρ' h' ∧ I [] ρ' h'
  | [], ρ, h, i => ⟨ρ, h, rfl, i⟩
  | x :: xs, ρ, h, i => by
    obtain ⟨ρ1, h1, ρ2, h2, e1, e2, i2⟩ := step x xs ρ h i
    have st : dForL tg u ((x :: xs).map enc) ρ h = dForL tg u (xs.map enc) ρ2 h2 := by
      show (tg (enc x) ρ h).put _ = _
      rw [e1]
      show (match u ρ1 h1 with
        | .nx ρ2 h2 => dForL tg u (xs.map enc) ρ2 h2
        | .ct ρ2 h2 => dForL tg u (xs.map enc) ρ2 h2
        | .bk ρ2 h2 => .nx ρ2 h2
        | x => x) = _
      rw [e2]
    rw [st]
    exact forL_fold I step i2
end
section
variable {r w m n : Nat} {h : CH}
theorem takeI (A : DrawOk r w (n + 1) h) {s : Int} (hs : 0 < s) (hs2 : s < 1073741824) : ∃ v h1, F__law_take [.ref r, .int s] h = .ok (.int v) h1 ∧ 0 ≤ v ∧ v < s ∧ DrawOk r w n h1 ∧ DrFr r w h h1 := by
  obtain ⟨d, h1, e, v, rfl, v0, v1, A1, f⟩ := (take_sat A hs hs2).ex
  exact ⟨v, h1, e, v0, v1, A1, f⟩
theorem pickI (A : DrawOk r w (n + 1) h) {l : List Int} (h0 : l ≠ []) (h1 : l.length ≤ 60) : ∃ i h1, F__law_pick [.ref r, .lst (inL l)] h = .ok (.int i) h1 ∧ i ∈ l ∧ DrawOk r w n h1 ∧ DrFr r w h h1 := by
  obtain ⟨d, h1, e, md, A1, f⟩ := (pick_sat A (xs := .lst (inL l)) (.inl rfl) (by simpa [inL] using h0) (by rw [inL_len]; omega)).ex
  obtain ⟨i, hi, rfl⟩ := List.mem_map.mp md
  exact ⟨i, h1, e, hi, A1, f⟩
theorem pickE (A : DrawOk r w (n + 1) h) {l : List CM.D} (h0 : l ≠ []) (h1 : l.length ≤ 60) : ∃ d h1, F__law_pick [.ref r, .lst l] h = .ok d h1 ∧ d ∈ l ∧ DrawOk r w n h1 ∧ DrFr r w h h1 := by
  obtain ⟨d, h1, e, md, A1, f⟩ := (pick_sat A (xs := .lst l) (.inl rfl) h0 (by omega)).ex
  exact ⟨d, h1, e, md, A1, f⟩
theorem seqX {u v : SD} {ρ ρ1 : DE} {h1 : CH} (e : u ρ h = .nx ρ1 h1) : dSeq u v ρ h = v ρ1 h1 := by
  rw [s_seq, e]
  rfl
end
section
variable {h : CH}
theorem cut_lo {ds : List CM.D} {i : Int} (h0 : 0 ≤ i) (h1 : i ≤ ds.length) : CM.cutD ds none (some i) = ds.take i.toNat := by
  obtain ⟨k, rfl⟩ := Int.eq_ofNat_of_zero_le h0
  unfold CM.cutD
  rw [HT.sIx_none, HT.sIx_nat]
  simp
theorem cut_hi {ds : List CM.D} {i : Int} (h0 : 0 ≤ i) (h1 : i ≤ ds.length) : CM.cutD ds (some i) none = ds.drop i.toNat := by
  obtain ⟨k, rfl⟩ := Int.eq_ofNat_of_zero_le h0
  unfold CM.cutD
  rw [HT.sIx_none, HT.sIx_nat]
  have : min k ds.length = k := by omega
  rw [this]
  rw [List.take_of_length_le (by rw [List.length_drop]; omega)]
  rfl
end
section
structure Fit (w d : Nat) (p : PyData) : Prop where
  sh : p.showable = true
  lf : p.leavesShort 13 = true
  wt : p.weight ≤ w
  dp : p.depth ≤ d
theorem Fit.le {w d w' d' : Nat} {p : PyData} (f : Fit w d p) (hw : w ≤ w') (hd : d ≤ d') : Fit w' d' p := ⟨f.sh, f.lf, Nat.le_trans f.wt hw, Nat.le_trans f.dp hd⟩
theorem Fit.int {i : Int} (h : i.natAbs < 10 ^ 12) : Fit 40 0 (.int i) where
  sh := by
    show decide (i.natAbs.log2 < 1920) = true
    rw [decide_eq_true_eq]
    by_cases z : i.natAbs = 0
    · rw [z]; decide
    · have := (Nat.log2_lt z (k := 40)).mpr (Nat.lt_trans h (by decide))
      omega
  lf := by
    show decide _ = true
    rw [decide_eq_true_eq]
    exact PyData.shown_int_le h
  wt := by
    show (if i == 0 then 0 else i.natAbs.log2 + 1) ≤ 40
    split
    · omega
    · rename_i z
      have z' : i.natAbs ≠ 0 := by simp at z; omega
      have := (Nat.log2_lt z' (k := 40)).mpr (Nat.lt_trans h (by decide))
      omega
  dp := Nat.le_refl _
theorem Fit.none : Fit 0 0 .none := ⟨rfl, rfl, Nat.le_refl _, Nat.le_refl _⟩
theorem Fit.alls {w d : Nat} : ∀ {ps : List PyData}, (∀ p ∈ ps, Fit w d p) → PyData.showableAll ps = true ∧ PyData.leavesShortAll 13 ps = true ∧ PyData.weightAll ps ≤ ps.length * (w + 1) ∧ PyData.depthAll ps ≤ d
  | [], _ => ⟨rfl, rfl, Nat.zero_le _, Nat.zero_le _⟩
  | p :: ps, h => by
    have f := h p (List.mem_cons_self ..)
    obtain ⟨a, b, c, e⟩ := Fit.alls (ps := ps) fun q hq => h q (List.mem_cons_of_mem _ hq)
    refine ⟨?_, ?_, ?_, ?_⟩
    · simp only [PyData.showableAll, f.sh, a, Bool.and_self]
    · simp only [PyData.leavesShortAll, f.lf, b, Bool.and_self]
    · have := f.wt
      simp only [PyData.weightAll, List.length_cons, Nat.add_mul, Nat.one_mul]
      omega
    · have := f.dp
      simp only [PyData.depthAll]
      omega
theorem Fit.list {w d : Nat} {ps : List PyData} (h : ∀ p ∈ ps, Fit w d p) : Fit (ps.length * (w + 1)) (d + 1) (.list ps) := by
  obtain ⟨a, b, c, e⟩ := Fit.alls h
  exact ⟨a, b, c, Nat.succ_le_succ e⟩
theorem Fit.tuple {w d : Nat} {ps : List PyData} (h : ∀ p ∈ ps, Fit w d p) : Fit (ps.length * (w + 1)) (d + 1) (.tuple ps) := by
  obtain ⟨a, b, c, e⟩ := Fit.alls h
  exact ⟨a, b, c, Nat.succ_le_succ e⟩
end
end W_whilemerged_k78_texts_of_histories_spoil
namespace W_whilemerged_k78_texts_of_histories_spoil
open PySem PySem.Spec PyProof.Rows L2 CM
def Pv : CM.D → Prop
  | .non => True
  | .bl _ => True
  | .int _ => True
  | .str _ => True
  | .lst _ => True
  | .tup _ => True
  | .dct _ => True
  | _ => False
def isT : CM.D → Bool
  | .tup _ => true
  | _ => false
def isS : CM.D → Bool
  | .str _ => true
  | _ => false
def isI : CM.D → Bool
  | .int _ => true
  | .bl _ => true
  | _ => false
def isB : CM.D → Bool
  | .bl _ => true
  | _ => false
def kindB : CM.D → Bool
  | .str x => [Str.ofString "down", Str.ofString "up"].contains x
  | _ => false
def numB : CM.D → Bool
  | .int i => decide (0 ≤ i) && decide (i ≤ 1000000000)
  | _ => false
section
variable {h : CH} {d : CM.D} {ps : List CM.D}
theorem isi_t (p : Pv d) : fIsX xs0 [] kt0 [d, .ty "tuple"] h = .ok (.bl (isT d)) h := by
  cases d <;> first | exact p.elim | kernel_rfl
theorem isi_s (p : Pv d) : fIsX xs0 [] kt0 [d, .ty "str"] h = .ok (.bl (isS d)) h := by
  cases d <;> first | exact p.elim | kernel_rfl
theorem isi_i (p : Pv d) : fIsX xs0 [] kt0 [d, .ty "int"] h = .ok (.bl (isI d)) h := by
  cases d <;> first | exact p.elim | kernel_rfl
theorem isi_b (p : Pv d) : fIsX xs0 [] kt0 [d, .ty "bool"] h = .ok (.bl (isB d)) h := by
  cases d <;> first | exact p.elim | kernel_rfl
def isLT : CM.D → Bool
  | .tup _ => true
  | .lst _ => true
  | _ => false
theorem isi_lt (p : Pv d) : fIsT [] kt0 [d, .tup [.ty "list", .ty "tuple"]] h = .ok (.bl (isLT d)) h := by
  cases d <;> first | exact p.elim | kernel_rfl
theorem is_kind_ok (p : Pv d) : F_is_kind [d] h = .ok (.bl (kindB d)) h := by
  show (u_is_kind [some d] h).res = _
  unfold u_is_kind
  cases d with
  | str x =>
    have e : fIn false (.str x) (.tup [.str (Str.ofString "down"), .str (Str.ofString "up")]) h = .ok (.bl ([Str.ofString "down", Str.ofString "up"].contains x)) h := in_strsT (neg := false) (l := [Str.ofString "down", Str.ofString "up"])
    have k : kindB (.str x) = [Str.ofString "down", Str.ofString "up"].contains x := rfl
    rw [k]
    simp only [s_ret, e_andV, e_CB, e_cons, e_nil, e_var]
    simp [isi_s p, isS, e]
  | _ => first | exact p.elim | simp [isi_s p, isS, kindB]
theorem is_plain_ok (p : Pv d) : F_is_plain [d] h = .ok (.bl (kindB d || numB d)) h := by
  show (u_is_plain [some d] h).res = _
  unfold u_is_plain
  cases d with
  | int i =>
    by_cases a : 0 ≤ i
    · by_cases b : i ≤ 1000000000 <;> simp [is_kind_ok p, kindB, isi_i p, isi_b p, isI, isB, numB, a, b]
    · simp [is_kind_ok p, kindB, isi_i p, isi_b p, isI, isB, numB, a]
  | str x =>
    cases e : kindB (.str x) <;> simp [is_kind_ok p, e, isi_i p, isI, numB]
  | _ => first | exact p.elim | simp [is_kind_ok p, kindB, isi_i p, isi_b p, isI, isB, numB]
end
end W_whilemerged_k78_texts_of_histories_spoil
namespace W_whilemerged_k78_texts_of_histories_spoil
open PySem PySem.Spec PyProof.Rows L2 CM
def P6 : List (Str × Int) := [("write", 4), ("cover", 2), ("branch", 2), ("begin", 3), ("step", 2), ("stop", 1)]
def szW (w : Str) : Int := (lkI P6 w).getD 0
def isD : CM.D → Bool
  | .tup (.str w :: r) => szW w == ((r.length : Nat) : Int) + 1
  | _ => false
def krB (w : Str) : Nat → List CM.D → Bool
  | _, [] => true
  | k, p :: r => (kindB p == ((w == Str.ofString "begin") && ((k : Int) == 0))) && krB w (k + 1) r
def isTD : CM.D → Bool
  | .tup (.str w :: r) => (szW w == ((r.length : Nat) : Int) + 1) && ((r.all fun p => kindB p || numB p) && krB w 0 r)
  | _ => false
structure Pq (d : CM.D) : Prop where
  pv : Pv d
  ps : ∀ l, d = .tup l → ∀ x ∈ l, Pv x
section
variable {h : CH} {d : CM.D} {r : List CM.D} {w : Str}
theorem ix0 {x : CM.D} : fIx (.tup (x :: r)) (.int 0) h = .ok x h := by simp [fIx, seqOf, atI0]
theorem kg_ok {ρ : DE} {tk : TD} (e : tk ρ h = .ok (.str w) h) : dKGet2 [("write", 4), ("cover", 2), ("branch", 2), ("begin", 3), ("step", 2), ("stop", 1)] tk (dC (.int 0)) ρ h = .ok (.int (szW w)) h := by
  show dKGet2 P6 tk (dC (.int 0)) ρ h = _
  unfold dKGet2 szW
  simp [e]
  cases lkI P6 w <;> rfl
theorem is_deed_ok (p : Pq d) : F_is_deed [d] h = .ok (.bl (isD d)) h := by
  show (u_is_deed [some d] h).res = _
  unfold u_is_deed
  have it := isi_t (h := h) p.pv
  cases d with
  | tup l =>
    cases l with
    | nil =>
      have ln : fLen [.tup []] h = .ok (.int 0) h := rfl
      simp [it, isT, ln, isD]
    | cons x r =>
      have px : Pv x := p.ps _ rfl x (List.mem_cons_self ..)
      have is := isi_s (h := h) px
      have ln : fLen [.tup (x :: r)] h = .ok (.int (r.length + 1 : Nat)) h := rfl
      have ne : ¬ (((r.length : Nat) : Int) + 1 = 0) := by omega
      cases x with
      | str w =>
        have kg := kg_ok (h := h) (ρ := [some (.tup (.str w :: r))]) (tk := dOp fIx (dVar 0) (dC (.int 0))) (w := w) (by simp [ix0])
        simp [it, isT, ln, ix0, is, isS, ne]
        rw [kg]
        simp [ln, isD]
      | _ => first | exact px.elim | (simp [it, isT, ln, ix0, is, isS, ne, isD])
  | _ => first | exact p.pv.elim | (simp [it, isT, isD])
theorem all_bls {bs : List Bool} : fAllB false [.lst (bs.map CM.D.bl)] h = .ok (.bl (bs.all id)) h := by
  have e : ∀ bs : List Bool, blsOf (bs.map CM.D.bl) = some bs := fun bs => by
    induction bs with
    | nil => rfl
    | cons b l ih => simp only [List.map_cons, blsOf, ih]
  show (match blsOf (bs.map CM.D.bl) with | some bs => CM.R.ok (CM.D.bl (if false = true then bs.any id else bs.all id)) h | none => .no) = _
  rw [e]
  rfl
theorem sl1 {x : CM.D} {ρ : DE} {t : TD} (e : t ρ h = .ok (.tup (x :: r)) h) : dSl false t (dPart (dC (.int 1))) (dNoPart) ρ h = .ok (.tup r) h := by
  have c : CM.cutD (x :: r) (some 1) none = r := by
    rw [cut_hi (by decide) (by simp; omega)]
    rfl
  unfold dSl
  rw [e]
  show CM.R.ok (CM.D.tup (CM.cutD (x :: r) (some 1) none)) h = _
  rw [c]
theorem kr_list {ρ : DE} (l3 : ρ.length = 3) (e0 : ρ[0]? = some (some (.tup (.str w :: r)))) : ∀ (l : List CM.D) (k : Nat), (∀ x ∈ l, Pv x) → dLcL (gdTup 2 (gdCons (gdName 1) (gdCons (gdName 2) (gdNil)))) (dYes) (dOp (fEq false) (dCall 1 F_is_kind (dCons (dVar 2) (dNil))) (dAndV (dOp (fEq false) (dOp fIx (dVar 0) (dC (.int 0))) (dC (.str "begin"))) (dOp (fEq false) (dVar 1) (dC (.int 0))))) ρ (enD k l) h = .ok (((l.zipIdx k).map fun q => CM.D.bl (kindB q.1 == ((w == Str.ofString "begin") && ((q.2 : Int) == 0))))) h
  | [], k, _ => rfl
  | p :: l, k, H => by
    have ih := kr_list l3 e0 l (k + 1) fun x hx => H x (List.mem_cons_of_mem _ hx)
    have kp := is_kind_ok (h := h) (H p (List.mem_cons_self ..))
    obtain ⟨a, b, c, rfl⟩ : ∃ a b c, ρ = [a, b, c] := by
      match ρ, l3 with
      | [a, b, c], _ => exact ⟨a, b, c, rfl⟩
    have ea : a = some (.tup (.str w :: r)) := Option.some.inj e0
    subst ea
    have st : ∀ b0 : Bool, (dOp (fEq false) (dCall 1 F_is_kind (dCons (dVar 2) (dNil))) (dAndV (dOp (fEq false) (dOp fIx (dVar 0) (dC (.int 0))) (dC (.str "begin"))) (dOp (fEq false) (dVar 1) (dC (.int 0))))) [some (.tup (.str w :: r)), some (.int (k : Int)), some p] h = .ok (.bl (kindB p == ((w == Str.ofString "begin") && ((k : Int) == 0)))) h := fun _ => by
      by_cases c1 : w = Str.ofString "begin"
      · subst c1
        simp [kp, ix0]
      · have c2 : (w == Str.ofString "begin") = false := by simpa using c1
        simp [kp, ix0, c1, c2]
    show ((gdTup 2 (gdCons (gdName 1) (gdCons (gdName 2) (gdNil)))) (.tup [.int (k : Int), p]) [some (.tup (.str w :: r)), b, c] h).calm _ = _
    have g : (gdTup 2 (gdCons (gdName 1) (gdCons (gdName 2) (gdNil)))) (.tup [.int (k : Int), p]) [some (.tup (.str w :: r)), b, c] h = .ok [some (.tup (.str w :: r)), some (.int (k : Int)), some p] h := by
      simp [gdTup, gdCons, gdNil, itemsD]
    rw [g]
    rw [calm_ok, show dYes [some (.tup (.str w :: r)), some (.int (k : Int)), some p] h = .ok true h from rfl, calm_ok, if_pos rfl, st true, calm_ok]
    rw [ih]
    rfl
theorem enD_len : ∀ (l : List CM.D) (k : Nat), (enD k l).length = l.length
  | [], _ => rfl
  | _ :: l, k => by simp [enD, enD_len l (k + 1)]
theorem krB_all : ∀ (l : List CM.D) (k : Nat), ((l.zipIdx k).map fun q => kindB q.1 == ((w == Str.ofString "begin") && ((q.2 : Int) == 0))).all id = krB w k l
  | [], _ => rfl
  | p :: l, k => by
    rw [List.zipIdx_cons, List.map_cons, List.all_cons, krB_all l (k + 1)]
    rfl
theorem kinds_right_ok (H : ∀ x ∈ r, Pv x) (lr : r.length ≤ 60) : F_kinds_right [.tup (.str w :: r)] h = .ok (.bl (krB w 0 r)) h := by
  show (u_kinds_right [some (.tup (.str w :: r)), none, none] h).res = _
  unfold u_kinds_right
  have lc : dLc false (dEnumT (dCons (dSl false (dVar 0) (dPart (dC (.int 1))) (dNoPart)) (dNil))) (gdTup 2 (gdCons (gdName 1) (gdCons (gdName 2) (gdNil)))) (dYes) (dOp (fEq false) (dCall 1 F_is_kind (dCons (dVar 2) (dNil))) (dAndV (dOp (fEq false) (dOp fIx (dVar 0) (dC (.int 0))) (dC (.str "begin"))) (dOp (fEq false) (dVar 1) (dC (.int 0))))) [1, 2] [some (.tup (.str w :: r)), none, none] h = .ok (.lst (((r.zipIdx 0).map fun q => kindB q.1 == ((w == Str.ofString "begin") && ((q.2 : Int) == 0))).map CM.D.bl)) h := by
    have it : dEnumT (dCons (dSl false (dVar 0) (dPart (dC (.int 1))) (dNoPart)) (dNil)) [some (.tup (.str w :: r)), none, none] h = .ok (enD 0 r, none) h := by
      unfold dEnumT
      simp only [e_cons, e_nil]
      rw [sl1 (h := h) (r := r) (x := .str w) (by simp)]
      rfl
    have lz : (enD 0 r).length ≤ sizeLine := by rw [enD_len]; exact sz60 lr
    unfold dLc
    rw [it, bind_ok]
    simp only [if_pos lz]
    have wd : wipeD [some (.tup (.str w :: r)), none, none] [1, 2] = [some (.tup (.str w :: r)), none, none] := rfl
    rw [wd, kr_list rfl rfl r 0 H, bind_ok, List.map_map]
    rfl
  rw [s_ret]
  simp only [e_CB, e_cons, e_nil]
  rw [lc]
  simp only [bind_ok]
  rw [all_bls, krB_all]
  rfl
/-- the test of an item -/
theorem bad_ok (p : Pq d) {ρ : DE} (l4 : ρ.length = 4) (e2 : ρ[2]? = some (some d)) (hl : ∀ l, d = .tup l → l.length ≤ 60) : (dOr (dNot (dB (dCall 1 F_is_deed (dCons (dVar 2) (dNil))))) (dOr (dNot (dB (dCB (fAllB false) (dCons (dLc false (dSeqI (dSl false (dVar 2) (dPart (dC (.int 1))) (dNoPart))) (gdName 3) (dYes) (dCall 1 F_is_plain (dCons (dVar 3) (dNil))) [3]) (dNil))))) (dNot (dB (dCall 1 F_kinds_right (dCons (dVar 2) (dNil))))))) ρ h = .ok (!isTD d) h := by
  obtain ⟨a, b, x, c, rfl⟩ : ∃ a b x c, ρ = [a, b, x, c] := by
    match ρ, l4 with
    | [a, b, x, c], _ => exact ⟨a, b, x, c, rfl⟩
  have ex : x = some d := Option.some.inj e2
  subst ex
  have dd := is_deed_ok (h := h) p
  by_cases q : isD d = true
  · obtain ⟨w, r, rfl⟩ : ∃ w r, d = .tup (.str w :: r) := by
      unfold isD at q
      split at q
      · exact ⟨_, _, rfl⟩
      · cases q
    have H : ∀ y ∈ r, Pv y := fun y hy => p.ps _ rfl y (List.mem_cons_of_mem _ hy)
    have lr : r.length ≤ 60 := by have := hl _ rfl; simp only [List.length_cons] at this; omega
    have kr := kinds_right_ok (h := h) (w := w) H lr
    have lc : dLc false (dSeqI (dSl false (dVar 2) (dPart (dC (.int 1))) (dNoPart))) (gdName 3) (dYes) (dCall 1 F_is_plain (dCons (dVar 3) (dNil))) [3] [a, b, some (.tup (.str w :: r)), c] h = .ok (.lst ((r.map fun y => kindB y || numB y).map CM.D.bl)) h := by
      have := lc_seqT (h := h) (ta := dSl false (dVar 2) (dPart (dC (.int 1))) (dNoPart)) (ρ := [a, b, some (.tup (.str w :: r)), c]) (tg := gdName 3) (tt := dYes) (te := dCall 1 F_is_plain (dCons (dVar 3) (dNil))) (vs := [3]) (xs := r) (enc := id) (fun _ => true) (fun y => CM.D.bl (kindB y || numB y)) (by rw [sl1 (h := h) (r := r) (x := .str w) (by simp)]; simp) (sz60 lr) fun y hy => ⟨_, rfl, rfl, fun _ => by simp [wipeD, is_plain_ok (h := h) (H y hy)]⟩
      rw [this, List.filter_eq_self.mpr fun _ _ => rfl, List.map_map]
      rfl
    have al : ((r.map fun y => kindB y || numB y).all id) = (r.all fun y => kindB y || numB y) := by
      rw [List.all_map]
      rfl
    have t1 : dCB (fAllB false) (dCons (dLc false (dSeqI (dSl false (dVar 2) (dPart (dC (.int 1))) (dNoPart))) (gdName 3) (dYes) (dCall 1 F_is_plain (dCons (dVar 3) (dNil))) [3]) (dNil)) [a, b, some (.tup (.str w :: r)), c] h = .ok (.bl (r.all fun y => kindB y || numB y)) h := by
      simp only [e_CB, e_cons, e_nil]
      rw [lc]
      simp only [bind_ok]
      rw [all_bls, al]
    have td : isTD (.tup (.str w :: r)) = ((r.all fun y => kindB y || numB y) && krB w 0 r) := by
      have q' : (szW w == ((r.length : Nat) : Int) + 1) = true := q
      show ((szW w == ((r.length : Nat) : Int) + 1) && _) = _
      rw [q']
      rfl
    rw [td]
    have hD : (dNot (dB (dCall 1 F_is_deed (dCons (dVar 2) (dNil))))) [a, b, some (.tup (.str w :: r)), c] h = .ok false h := by simp [dd, q]
    have hA : (dNot (dB (dCB (fAllB false) (dCons (dLc false (dSeqI (dSl false (dVar 2) (dPart (dC (.int 1))) (dNoPart))) (gdName 3) (dYes) (dCall 1 F_is_plain (dCons (dVar 3) (dNil))) [3]) (dNil))))) [a, b, some (.tup (.str w :: r)), c] h = .ok (!(r.all fun y => kindB y || numB y)) h := by
      rw [e_not, e_B, t1]
      rfl
    have hK : (dNot (dB (dCall 1 F_kinds_right (dCons (dVar 2) (dNil))))) [a, b, some (.tup (.str w :: r)), c] h = .ok (!krB w 0 r) h := by simp [kr]
    rw [e_or, hD, bind_ok, if_neg (by simp), e_or, hA, bind_ok]
    cases z : (r.all fun y => kindB y || numB y) with
    | false => rw [if_pos (by simp)]; rfl
    | true => rw [if_neg (by simp), hK]; rfl
  · have q' : isD d = false := by simpa using q
    have td : isTD d = false := by
      unfold isD at q'
      unfold isTD
      split
      · rename_i w r
        simp only at q'
        rw [q']
        rfl
      · rfl
    rw [td]
    simp [dd, q']
/-- the first item that is none -/
def fb : Nat → List CM.D → Option Nat
  | _, [] => none
  | k, d :: l => if isTD d = true then fb (k + 1) l else some k
def htb : SD := dIfS (dOr (dNot (dB (dCall 1 F_is_deed (dCons (dVar 2) (dNil))))) (dOr (dNot (dB (dCB (fAllB false) (dCons (dLc false (dSeqI (dSl false (dVar 2) (dPart (dC (.int 1))) (dNoPart))) (gdName 3) (dYes) (dCall 1 F_is_plain (dCons (dVar 3) (dNil))) [3]) (dNil))))) (dNot (dB (dCall 1 F_kinds_right (dCons (dVar 2) (dNil))))))) (dRaiseX 1 "at" (dCons (dVar 1) (dNil))) (dNext)
structure Item (d : CM.D) : Prop where
  q : Pq d
  ln : ∀ l, d = .tup l → l.length ≤ 60
theorem ht_loop {x0 : Option CM.D} : ∀ (l : List CM.D) (k : Nat) (x1 x2 : Option CM.D), (∀ d ∈ l, Item d) → match fb k l with
    | some i => ∃ ρ', dForL (gdTup 2 (gdCons (gdName 1) (gdCons (gdName 2) (gdNil)))) htb (enD k l) [x0, x1, x2, none] h = .ex ρ' 1 [(Str.ofString "at", .int (i : Int))] h
    | none => ∃ y1 y2, dForL (gdTup 2 (gdCons (gdName 1) (gdCons (gdName 2) (gdNil)))) htb (enD k l) [x0, x1, x2, none] h = .nx [x0, y1, y2, none] h
  | [], k, x1, x2, _ => ⟨x1, x2, rfl⟩
  | d :: l, k, x1, x2, H => by
    have I := H d (List.mem_cons_self ..)
    have g : (gdTup 2 (gdCons (gdName 1) (gdCons (gdName 2) (gdNil)))) (.tup [.int (k : Int), d]) [x0, x1, x2, none] h = .ok [x0, some (.int (k : Int)), some d, none] h := by
      simp [gdTup, gdCons, gdNil, itemsD]
    have t := bad_ok (h := h) I.q (ρ := [x0, some (.int (k : Int)), some d, none]) rfl rfl I.ln
    have st : dForL (gdTup 2 (gdCons (gdName 1) (gdCons (gdName 2) (gdNil)))) htb (enD k (d :: l)) [x0, x1, x2, none] h = (match htb [x0, some (.int (k : Int)), some d, none] h with
        | .nx ρ2 h2 => dForL (gdTup 2 (gdCons (gdName 1) (gdCons (gdName 2) (gdNil)))) htb (enD (k + 1) l) ρ2 h2
        | .ct ρ2 h2 => dForL (gdTup 2 (gdCons (gdName 1) (gdCons (gdName 2) (gdNil)))) htb (enD (k + 1) l) ρ2 h2
        | .bk ρ2 h2 => .nx ρ2 h2
        | x => x) := by
      show ((gdTup 2 (gdCons (gdName 1) (gdCons (gdName 2) (gdNil)))) (.tup [.int (k : Int), d]) [x0, x1, x2, none] h).put _ = _
      rw [g]
      rfl
    unfold fb
    cases q : isTD d with
    | true =>
      rw [q] at t
      have e : htb [x0, some (.int (k : Int)), some d, none] h = .nx [x0, some (.int (k : Int)), some d, none] h := by
        unfold htb
        rw [s_if, t, toS_ok, if_neg (by simp)]
        rfl
      rw [if_pos rfl]
      have ih := ht_loop (x0 := x0) l (k + 1) (some (.int (k : Int))) (some d) fun y hy => H y (List.mem_cons_of_mem _ hy)
      rw [st, e]
      exact ih
    | false =>
      rw [q] at t
      have e : htb [x0, some (.int (k : Int)), some d, none] h = .ex [x0, some (.int (k : Int)), some d, none] 1 [(Str.ofString "at", .int (k : Int))] h := by
        unfold htb
        rw [s_if, t, toS_ok, if_pos (by simp)]
        simp
      rw [if_neg (by simp)]
      exact ⟨_, by rw [st, e]⟩
end
end W_whilemerged_k78_texts_of_histories_spoil
namespace W_whilemerged_k78_texts_of_histories_spoil
open PySem PySem.Spec PyProof.Rows L2 CM
open TL (tl joinL numL)
def strD : CM.D → Str
  | .int i => Str.ofString (toString i)
  | .str x => x
  | _ => ""
def wordsD : CM.D → List Str
  | .tup l => l.map strD
  | _ => []
def lineD (d : CM.D) : Str := Txt.join " " (wordsD d)
def pageD (ds : List CM.D) : Str := Txt.join "" (ds.map fun d => lineD d ++ "\n")
/-- a text of few signs: no blank, no end of a line -/
structure Wd (x : Str) (k : Nat) : Prop where
  ln : (tl x).length ≤ k
  b : 32 ∉ tl x
  n : 10 ∉ tl x
section
variable {h : CH} {d p : CM.D} {r : List CM.D} {w : Str}
theorem num_nat {i : Int} (h0 : 0 ≤ i) : ∃ n : Nat, i = (n : Int) := Int.eq_ofNat_of_zero_le h0
theorem wd_num {n : Nat} (hn : n ≤ 1000000000) : Wd (Str.ofString (toString (n : Int))) 10 := by
  refine ⟨?_, ?_, ?_⟩
  · rw [TL.tl_num]
    exact TL.numL_len (by decide) (Nat.lt_of_le_of_lt hn (by decide))
  · rw [TL.tl_num]
    exact TL.numL_free (by omega)
  · rw [TL.tl_num]
    exact TL.numL_free (by omega)
theorem kindB_is (k : kindB p = true) : p = .str (Str.ofString "down") ∨ p = .str (Str.ofString "up") := by
  cases p with
  | str x =>
    have k' : [Str.ofString "down", Str.ofString "up"].contains x = true := k
    rw [List.contains_iff_mem] at k'
    simp only [List.mem_cons, List.not_mem_nil, or_false] at k'
    rcases k' with rfl | rfl
    · exact .inl rfl
    · exact .inr rfl
  | _ => cases k
theorem numB_is (k : numB p = true) : ∃ n : Nat, p = .int n ∧ n ≤ 1000000000 := by
  cases p with
  | int i =>
    have k' : (decide (0 ≤ i) && decide (i ≤ 1000000000)) = true := k
    rw [Bool.and_eq_true, decide_eq_true_eq, decide_eq_true_eq] at k'
    obtain ⟨n, rfl⟩ := num_nat k'.1
    exact ⟨n, rfl, by omega⟩
  | _ => cases k
theorem wd_part (k : (kindB p || numB p) = true) : Wd (strD p) 10 := by
  rw [Bool.or_eq_true] at k
  rcases k with k | k
  · rcases kindB_is k with rfl | rfl
    · exact ⟨by decide +kernel, by decide +kernel, by decide +kernel⟩
    · exact ⟨by decide +kernel, by decide +kernel, by decide +kernel⟩
  · obtain ⟨n, rfl, hn⟩ := numB_is k
    exact wd_num hn
theorem szW_is (k : szW w ≠ 0) : w = "write" ∨ w = "cover" ∨ w = "branch" ∨ w = "begin" ∨ w = "step" ∨ w = "stop" := by
  by_cases c1 : w = "write"
  · exact .inl c1
  by_cases c2 : w = "cover"
  · exact .inr (.inl c2)
  by_cases c3 : w = "branch"
  · exact .inr (.inr (.inl c3))
  by_cases c4 : w = "begin"
  · exact .inr (.inr (.inr (.inl c4)))
  by_cases c5 : w = "step"
  · exact .inr (.inr (.inr (.inr (.inl c5))))
  by_cases c6 : w = "stop"
  · exact .inr (.inr (.inr (.inr (.inr c6))))
  refine absurd ?_ k
  have e : lkI P6 w = none := by
    unfold P6
    have q : ∀ {x : Str}, ¬ w = x → (x == w) = false := fun h => by simpa using Ne.symm h
    simp only [lkI, q c1, q c2, q c3, q c4, q c5, q c6, Bool.false_eq_true, if_false]
  unfold szW
  rw [e]
  rfl
theorem wd_word (k : szW w ≠ 0) : Wd w 10 ∧ szW w ≤ 4 := by
  rcases szW_is k with rfl | rfl | rfl | rfl | rfl | rfl <;> exact ⟨⟨by decide +kernel, by decide +kernel, by decide +kernel⟩, by decide +kernel⟩
/-- a deed of a text, taken apart -/
theorem td_is (k : isTD d = true) : ∃ w r, d = .tup (.str w :: r) ∧ szW w = ((r.length : Nat) : Int) + 1 ∧ (∀ p ∈ r, (kindB p || numB p) = true) ∧ krB w 0 r = true := by
  unfold isTD at k
  split at k
  · rename_i w r
    rw [Bool.and_eq_true, Bool.and_eq_true, List.all_eq_true] at k
    obtain ⟨k1, k2, k3⟩ := k
    exact ⟨w, r, rfl, by simpa using k1, k2, k3⟩
  · cases k
structure Td (d : CM.D) (w : Str) (r : List CM.D) : Prop where
  e : d = .tup (.str w :: r)
  sz : szW w = ((r.length : Nat) : Int) + 1
  ps : ∀ p ∈ r, (kindB p || numB p) = true
  kr : krB w 0 r = true
theorem Td.of (k : isTD d = true) : ∃ w r, Td d w r := by
  obtain ⟨w, r, e, a, b, c⟩ := td_is k
  exact ⟨w, r, e, a, b, c⟩
theorem Td.ln (T : Td d w r) : r.length ≤ 3 := by
  have := T.sz
  have := (wd_word (w := w) (by omega)).2
  omega
theorem Td.wd (T : Td d w r) : ∀ x ∈ w :: r.map strD, Wd x 10 := fun x hx => by
  rcases List.mem_cons.mp hx with rfl | hx
  · exact (wd_word (by have := T.sz; omega)).1
  · obtain ⟨p, hp, rfl⟩ := List.mem_map.mp hx
    exact wd_part (T.ps p hp)
theorem Td.words (T : Td d w r) : wordsD d = w :: r.map strD := by
  rw [T.e]
  rfl
theorem joinL_len (S : List Nat) : ∀ ps : List (List Nat), (joinL S ps).length ≤ (ps.map List.length).sum + ps.length * S.length
  | [] => Nat.zero_le _
  | [p] => by simp [joinL]
  | p :: q :: l => by
    have ih := joinL_len S (q :: l)
    show (p ++ (S ++ joinL S (q :: l))).length ≤ _
    rw [List.length_append, List.length_append, List.map_cons, List.sum_cons, List.length_cons, Nat.add_mul]
    omega
theorem joinL_mem (S : List Nat) {c : Nat} (hS : c ∉ S) : ∀ ps : List (List Nat), (∀ p ∈ ps, c ∉ p) → c ∉ joinL S ps
  | [], _ => by simp [joinL]
  | [p], H => H p (List.mem_cons_self ..)
  | p :: q :: l, H => by
    have ih := joinL_mem S hS (q :: l) fun x hx => H x (List.mem_cons_of_mem _ hx)
    show c ∉ p ++ (S ++ joinL S (q :: l))
    rw [List.mem_append, List.mem_append]
    rintro (z | z | z)
    · exact H p (List.mem_cons_self ..) z
    · exact hS z
    · exact ih z
theorem joinL_nl : ∀ ls : List (List Nat), joinL [] (ls.map fun x => x ++ [10]) = joinL [10] (ls ++ [[]])
  | [] => rfl
  | [x] => by
    show x ++ [10] = x ++ ([10] ++ [])
    simp
  | x :: y :: l => by
    have ih := joinL_nl (y :: l)
    show (x ++ [10]) ++ ([] ++ joinL [] ((y :: l).map fun x => x ++ [10])) = x ++ ([10] ++ joinL [10] ((y :: l) ++ [[]]))
    rw [ih]
    simp
theorem tl_sp : tl (" " : Str) = [32] := by decide +kernel
theorem tl_nl : tl ("\n" : Str) = [10] := by decide +kernel
theorem tl_em : tl ("" : Str) = [] := by decide +kernel
theorem tl_line : tl (lineD d) = joinL [32] ((wordsD d).map tl) := by
  unfold lineD
  rw [TL.join_eq, TL.tl_join, tl_sp]
theorem Td.line (T : Td d w r) : (tl (lineD d)).length ≤ 60 ∧ 10 ∉ tl (lineD d) := by
  rw [tl_line, T.words]
  have W := T.wd
  have l3 := T.ln
  refine ⟨?_, joinL_mem _ (by decide) _ fun x hx => ?_⟩
  · have a := joinL_len [32] ((w :: r.map strD).map tl)
    have b : ∀ l : List Str, (∀ x ∈ l, Wd x 10) → ((l.map tl).map List.length).sum ≤ l.length * 10 := fun l => by
      induction l with
      | nil => intro _; exact Nat.zero_le _
      | cons x l ih =>
        intro H
        have := ih fun y hy => H y (List.mem_cons_of_mem _ hy)
        have := (H x (List.mem_cons_self ..)).ln
        simp only [List.map_cons, List.sum_cons, List.length_cons, Nat.add_mul]
        omega
    have c := b _ W
    simp only [List.length_map, List.length_cons, List.length_nil] at a c ⊢
    omega
  · obtain ⟨y, hy, rfl⟩ := List.mem_map.mp hx
    exact (W y hy).n
theorem Td.split (T : Td d w r) : Txt.split (lineD d) " " = w :: r.map strD := by
  unfold lineD
  rw [T.words]
  exact TL.split_join (s := 32) (S := []) tl_sp (by decide +kernel) (by simp) fun x hx => (T.wd x hx).b
theorem tl_page (ds : List CM.D) : tl (pageD ds) = joinL [] ((ds.map fun d => tl (lineD d)).map fun x => x ++ [10]) := by
  unfold pageD
  rw [TL.join_eq, TL.tl_join, tl_em, List.map_map, List.map_map]
  congr 1
  refine List.map_congr_left fun d _ => ?_
  show tl (lineD d ++ "\n") = _
  rw [TL.tl_append, tl_nl]
  rfl
theorem page_join (ds : List CM.D) : pageD ds = Txt.join "\n" (ds.map lineD ++ [("" : Str)]) := by
  refine TL.ext_tl ?_
  rw [tl_page, joinL_nl, TL.join_eq, TL.tl_join, tl_nl, List.map_append, List.map_map]
  rfl
theorem page_len {ds : List CM.D} (H : ∀ d ∈ ds, isTD d = true) : (pageD ds).length ≤ ds.length * 61 := by
  rw [TL.len_tl, tl_page]
  have a := joinL_len [] ((ds.map fun d => tl (lineD d)).map fun x => x ++ [10])
  have b : ∀ l : List CM.D, (∀ d ∈ l, isTD d = true) → ((((l.map fun d => tl (lineD d)).map fun x => x ++ [10])).map List.length).sum ≤ l.length * 61 := fun l => by
    induction l with
    | nil => intro _; exact Nat.zero_le _
    | cons x l ih =>
      intro H
      have := ih fun y hy => H y (List.mem_cons_of_mem _ hy)
      obtain ⟨w, r, T⟩ := Td.of (H x (List.mem_cons_self ..))
      have := T.line.1
      simp only [List.map_cons, List.sum_cons, List.length_cons, List.length_append, List.length_nil, Nat.add_mul]
      omega
  have c := b ds H
  simp only [List.length_nil, Nat.mul_zero, Nat.add_zero] at a
  exact Nat.le_trans a c
end
end W_whilemerged_k78_texts_of_histories_spoil
namespace W_whilemerged_k78_texts_of_histories_spoil
open PySem PySem.Spec PyProof.Rows L2 CM
open TL (tl joinL numL)
section
variable {h : CH} {d p : CM.D} {r : List CM.D} {w : Str} {ρ : DE} {i j : Nat}
@[simp] theorem e_m1 {f : FM} {ta tb : TD} : dM1 f ta tb ρ h = (ta ρ h).bind fun x h => match x with
  | .str _ => (tb ρ h).bind fun y h => f x [y] h
  | _ => .no := rfl
theorem strT_ok (k : (kindB p || numB p) = true) : fStrT [p] h = .ok (.str (strD p)) h := by
  rw [Bool.or_eq_true] at k
  rcases k with k | k
  · rcases kindB_is k with rfl | rfl <;> rfl
  · obtain ⟨n, rfl, hn⟩ := numB_is k
    have l : (n : Int).natAbs.log2 < 1920 := by
      show n.log2 < 1920
      by_cases z : n = 0
      · rw [z]; decide
      · have := (Nat.log2_lt z (k := 30)).mpr (Nat.lt_of_le_of_lt hn (by decide))
        omega
    show (if (n : Int).natAbs.log2 < 1920 then CM.R.ok (CM.D.str (Str.ofString (toString (n : Int)))) h else .no) = _
    rw [if_pos l]
    rfl
theorem strsOf_map {α : Type} {g : α → Str} : ∀ l : List α, strsOf (l.map fun x => CM.D.str (g x)) = some (l.map g)
  | [] => rfl
  | x :: l => by
    rw [List.map_cons, List.map_cons]
    show (match strsOf (l.map fun x => CM.D.str (g x)) with | some xs => some (g x :: xs) | none => none) = _
    rw [strsOf_map l]
theorem sum10 {k : Nat} : ∀ l : List Str, (∀ x ∈ l, x.length ≤ k) → (l.map (·.length)).sum ≤ l.length * k
  | [], _ => Nat.zero_le _
  | x :: l, H => by
    have := sum10 l fun y hy => H y (List.mem_cons_of_mem _ hy)
    have := H x (List.mem_cons_self ..)
    simp only [List.map_cons, List.sum_cons, List.length_cons, Nat.add_mul]
    omega
theorem join_fit {a : Str} {ys : List Str} (H : (ys.map (·.length)).sum + ys.length * a.length ≤ 16777216) : fJoin (.str a) [.lst (ys.map CM.D.str)] h = .ok (.str (Txt.join a ys)) h := by
  have e : strsOf (ys.map CM.D.str) = some ys := by
    have := strsOf_map (g := id) ys
    simpa using this
  show (match strsOf (ys.map CM.D.str) with
      | some (ys : List Str) => if ((ys.map Str.length).sum + ys.length * Str.length a ≤ 16777216) then CM.R.ok (CM.D.str (Txt.join a ys)) h else .no
      | none => .no) = _
  rw [e]
  exact if_pos H
theorem line_len (T : Td d w r) : (lineD d).length ≤ 60 := by rw [TL.len_tl]; exact T.line.1
theorem lc_it {α : Type} {it : TDw} {tg : TGD} {tt : TB} {te : TD} {vs : List Nat} {xs : List α} {enc : α → CM.D} (f : α → Bool) (g : α → CM.D) (e : it ρ h = .ok (xs.map enc, none) h) (lz : xs.length ≤ sizeLine)
    (H : ∀ x ∈ xs, ∃ ρ2, tg (enc x) (wipeD ρ vs) h = .ok ρ2 h ∧ tt ρ2 h = .ok (f x) h ∧ (f x = true → te ρ2 h = .ok (g x) h)) : dLc false it tg tt te vs ρ h = .ok (.lst ((xs.filter f).map g)) h := by
  have lz' : (xs.map enc).length ≤ sizeLine := by rw [List.length_map]; exact lz
  unfold dLc
  simp only [e, bind_ok, if_pos lz']
  rw [lcL_pure H, bind_ok]
  rfl
theorem line_ok {it : TDw} (T : Td d w r) (hit : it ρ h = .ok (.str w :: r, none) h) (hj : j < ρ.length) : dOp (fAdd false) (dM1 fJoin (dC (.str " ")) (dLc false it (gdName j) (dYes) (dCB fStrT (dCons (dVar j) (dNil))) [j])) (dC (.str "\n")) ρ h = .ok (.str (lineD d ++ "\n")) h := by
  have st : ∀ x ∈ (CM.D.str w :: r), fStrT [x] h = .ok (.str (strD x)) h := fun x hx => by
    rcases List.mem_cons.mp hx with rfl | hx
    · rfl
    · exact strT_ok (T.ps x hx)
  have lc : dLc false it (gdName j) (dYes) (dCB fStrT (dCons (dVar j) (dNil))) [j] ρ h = .ok (.lst ((wordsD d).map CM.D.str)) h := by
    rw [lc_it (enc := id) (xs := CM.D.str w :: r) (fun _ => true) (fun x => CM.D.str (strD x)) (by rw [hit, List.map_id]) (sz60 (by have := T.ln; simp only [List.length_cons]; omega)) fun x hx => ⟨(wipeD ρ [j]).set j (some x), rfl, rfl, fun _ => ?_⟩]
    · rw [List.filter_eq_self.mpr fun _ _ => rfl, T.e]
      show _ = CM.R.ok (CM.D.lst (List.map CM.D.str (List.map strD (CM.D.str w :: r)))) h
      rw [List.map_map]
      rfl
    · have g : dVar j ((wipeD ρ [j]).set j (some x)) h = .ok x h := by
        rw [e_var, List.getElem?_set_self (by simpa [wipeD] using hj)]
      simp only [e_CB, e_cons, e_nil, g, bind_ok]
      exact st x hx
  have sz : ((wordsD d).map (·.length)).sum + (wordsD d).length * (" " : Str).length ≤ 16777216 := by
    rw [T.words]
    have a := sum10 (w :: r.map strD) fun x hx => by have := (T.wd x hx).ln; rw [TL.len_tl]; exact this
    have b := T.ln
    have c : (" " : Str).length = 1 := rfl
    rw [c]
    simp only [List.length_cons, List.length_map] at a ⊢
    omega
  rw [e_op, e_m1, e_C, bind_ok]
  simp only [lc, bind_ok, join_fit sz, e_C]
  show (if (Txt.join " " (wordsD d)).length + ("\n" : Str).length ≤ sizeLine then CM.R.ok (CM.D.str (Txt.join " " (wordsD d) ++ "\n")) h else .no) = _
  have l2 : (Txt.join " " (wordsD d)).length ≤ 60 := line_len T
  rw [if_pos (Nat.le_trans (Nat.add_le_add_right l2 _) (by decide +kernel))]
  rfl
theorem deed_line_ok (T : Td d w r) : F__law_deed_line [d] h = .ok (.str (lineD d ++ "\n")) h := by
  show (u__law_deed_line [some d, none] h).res = _
  unfold u__law_deed_line
  rw [s_ret, line_ok T (by rw [e_seqI, e_var, T.e]; rfl) (by simp)]
  rfl
theorem pages_fit {ds : List CM.D} (H : ∀ d ∈ ds, isTD d = true) (l : ds.length ≤ 5000) : ((ds.map fun d => lineD d ++ "\n").map (·.length)).sum + (ds.map fun d => lineD d ++ "\n").length * ("" : Str).length ≤ 16777216 := by
  have a := sum10 (k := 61) (ds.map fun d => lineD d ++ "\n") fun x hx => by
    obtain ⟨d, hd, rfl⟩ := List.mem_map.mp hx
    obtain ⟨w, r, T⟩ := Td.of (H d hd)
    have := T.line.1
    rw [TL.len_tl, TL.tl_append, List.length_append, tl_nl]
    simp only [List.length_cons, List.length_nil]
    omega
  have c : ("" : Str).length = 0 := rfl
  rw [c]
  simp only [List.length_map] at a ⊢
  omega
theorem fb_none : ∀ (ds : List CM.D) (k : Nat), fb k ds = none → ∀ d ∈ ds, isTD d = true
  | [], _, _, _, hd => nomatch hd
  | x :: l, k, e, d, hd => by
    unfold fb at e
    split at e
    · rename_i q
      rcases List.mem_cons.mp hd with rfl | hd
      · exact q
      · exact fb_none l (k + 1) e d hd
    · cases e
theorem fb_all : ∀ (ds : List CM.D) (k : Nat), (∀ d ∈ ds, isTD d = true) → fb k ds = none
  | [], _, _ => rfl
  | x :: l, k, H => by
    unfold fb
    rw [if_pos (H x (List.mem_cons_self ..))]
    exact fb_all l (k + 1) fun y hy => H y (List.mem_cons_of_mem _ hy)
/-- what the text of a history comes to -/
def HTx (ds : List CM.D) (h : CH) : CM.R CM.D := match fb 0 ds with
  | some i => .ex 1 [(Str.ofString "at", .int (i : Int))] h
  | none => .ok (.str (pageD ds)) h
def ljs : TD := dM1 fJoin (dC (.str "")) (dLc false (dSeqI (dVar 0)) (gdName 2) (dYes) (dOp (fAdd false) (dM1 fJoin (dC (.str " ")) (dLc false (dSeqP (dVar 2)) (gdName 3) (dYes) (dCB fStrT (dCons (dVar 3) (dNil))) [3])) (dC (.str "\n"))) [2])
theorem ljs_ok {X : CM.D} {ds : List CM.D} {y1 y2 : Option CM.D} (hX : X = .lst ds ∨ X = .tup ds) (H : ∀ d ∈ ds, isTD d = true) (l : ds.length ≤ 5000) : ljs [some X, y1, y2, none] h = .ok (.str (pageD ds)) h := by
  have lz : ds.length ≤ sizeLine := Nat.le_trans l (by decide)
  have hh : ∀ x ∈ ds, ∃ ρ2, gdName 2 (id x) (wipeD [some X, y1, y2, none] [2]) h = .ok ρ2 h ∧ dYes ρ2 h = .ok ((fun _ => true) x) h ∧ ((fun _ => true) x = true → dOp (fAdd false) (dM1 fJoin (dC (.str " ")) (dLc false (dSeqP (dVar 2)) (gdName 3) (dYes) (dCB fStrT (dCons (dVar 3) (dNil))) [3])) (dC (.str "\n")) ρ2 h = .ok ((fun d => CM.D.str (lineD d ++ "\n")) x) h) := fun x hx => by
    obtain ⟨w, r, T⟩ := Td.of (H x hx)
    exact ⟨_, rfl, rfl, fun _ => line_ok T (by rw [T.e]; rfl) (by simp [wipeD])⟩
  have lc : dLc false (dSeqI (dVar 0)) (gdName 2) (dYes) (dOp (fAdd false) (dM1 fJoin (dC (.str " ")) (dLc false (dSeqP (dVar 2)) (gdName 3) (dYes) (dCB fStrT (dCons (dVar 3) (dNil))) [3])) (dC (.str "\n"))) [2] [some X, y1, y2, none] h = .ok (.lst ((ds.map fun d => lineD d ++ "\n").map CM.D.str)) h := by
    rcases hX with rfl | rfl
    · rw [lc_seq (enc := id) (xs := ds) _ _ (by simp) lz hh, List.filter_eq_self.mpr fun _ _ => rfl, List.map_map]
      rfl
    · rw [lc_seqT (enc := id) (xs := ds) _ _ (by simp) lz hh, List.filter_eq_self.mpr fun _ _ => rfl, List.map_map]
      rfl
  unfold ljs
  rw [e_m1, e_C, bind_ok]
  simp only [lc, bind_ok, join_fit (pages_fit H l)]
  rfl
theorem ht_u : u_history_text = dSeq (dIfS (dNot (dB (dCB (fIsT [] kt0) (dCons (dVar 0) (dCons (dTup (dCons (dC (.ty "list")) (dCons (dC (.ty "tuple")) (dNil)))) (dNil)))))) (dRaiseX 1 "at" (dCons (dC (.int 0)) (dNil))) (dNext)) (dSeq (dFor (dEnumT (dCons (dVar 0) (dNil))) (gdTup 2 (gdCons (gdName 1) (gdCons (gdName 2) (gdNil)))) htb) (dRet ljs)) := rfl
theorem ht_test {X : CM.D} (pX : Pv X) : (dNot (dB (dCB (fIsT [] kt0) (dCons (dVar 0) (dCons (dTup (dCons (dC (.ty "list")) (dCons (dC (.ty "tuple")) (dNil)))) (dNil)))))) [some X, none, none, none] h = .ok (!isLT X) h := by
  have t := isi_lt (h := h) pX
  simp [t, show (2 : Nat) ≤ sizeLine from by decide]
theorem history_ok {X : CM.D} {ds : List CM.D} (hX : X = .lst ds ∨ X = .tup ds) (H : ∀ d ∈ ds, Item d) (l : ds.length ≤ 5000) : F_history_text [X] h = HTx ds h := by
  show (u_history_text [some X, none, none, none] h).res = _
  have pX : Pv X := by rcases hX with rfl | rfl <;> trivial
  have q : isLT X = true := by rcases hX with rfl | rfl <;> rfl
  have en : dEnumT (dCons (dVar 0) (dNil)) [some X, none, none, none] h = .ok (enD 0 ds, none) h := by
    rcases hX with rfl | rfl <;> rfl
  have lp := ht_loop (h := h) (x0 := some X) ds 0 none none H
  rw [ht_u, s_seq, s_if, ht_test pX, q, toS_ok, if_neg (by simp), s_next, sbind_nx, s_seq, s_for, en, toS_ok]
  simp only [unl_none]
  unfold HTx
  cases e : fb 0 ds with
  | some i =>
    rw [e] at lp
    obtain ⟨ρ', e2⟩ := lp
    rw [e2]
    rfl
  | none =>
    rw [e] at lp
    obtain ⟨y1, y2, e2⟩ := lp
    rw [e2, sbind_nx, s_ret, ljs_ok hX (fb_none ds 0 e) l]
    rfl
end
end W_whilemerged_k78_texts_of_histories_spoil
namespace W_whilemerged_k78_texts_of_histories_spoil
open PySem PySem.Spec PyProof.Rows L2 CM
open TL (tl joinL numL)
def numS (n : Nat) : Str := Str.ofString (toString (n : Int))
section
variable {h : CH} {d p : CM.D} {r : List CM.D} {w : Str} {ρ : DE} {i j n : Nat}
theorem tl_numS : tl (numS n) = numL n := TL.tl_num n
end
end W_whilemerged_k78_texts_of_histories_spoil
namespace W_whilemerged_k78_texts_of_histories_spoil
open PySem PySem.Spec PyProof.Rows L2 CM
open TL (tl joinL numL)
def cellB : CM.D → Bool
  | .int i => decide (0 ≤ i)
  | _ => false
section
variable {h : CH} {d p : CM.D} {r : List CM.D} {w : Str} {ρ : DE} {i j n : Nat}
theorem pow109 : fPow (.int 10) (.int 9) h = .ok (.int 1000000000) h := by kernel_rfl
theorem is_cell_ok (p : Pv d) : F__law_is_cell [d] h = .ok (.bl (cellB d)) h := by
  show (u__law_is_cell [some d] h).res = _
  unfold u__law_is_cell
  cases d with
  | int i => simp [isi_i p, isi_b p, isI, isB, cellB]
  | _ => first | exact p.elim | simp [isi_i p, isi_b p, isI, isB, cellB]
def sizesD : CM.D := .dct (P6.map fun q => (.inr q.1, .int q.2))
theorem sizes_ok : dDisp false [(dC (.str "write"), dC (.int 4)), (dC (.str "cover"), dC (.int 2)), (dC (.str "branch"), dC (.int 2)), (dC (.str "begin"), dC (.int 3)), (dC (.str "step"), dC (.int 2)), (dC (.str "stop"), dC (.int 1))] ρ h = .ok sizesD h := by kernel_rfl
theorem dGet_map {x : Str} : ∀ q : List (Str × Int), (dGet (q.map fun q => ((.inr q.1 : Key), CM.D.int q.2)) (.inr x)).getD (.int 0) = .int ((lkI q x).getD 0)
  | [] => rfl
  | (a, i) :: l => by
    have ih := dGet_map (x := x) l
    by_cases c : a = x
    · subst c
      simp [dGet, lkI]
    · have c2 : (a == x) = false := by simpa using c
      have e : dGet (((a, i) :: l).map fun q => ((.inr q.1 : Key), CM.D.int q.2)) (.inr x) = dGet (l.map fun q => ((.inr q.1 : Key), CM.D.int q.2)) (.inr x) := by
        show (List.find? _ _).map _ = (List.find? _ _).map _
        rw [List.map_cons, List.find?_cons_of_neg (by simpa using c)]
      rw [e, ih]
      simp [lkI, c2]
theorem get_ok {tk : TD} {ta : TD} (ea : ta ρ h = .ok sizesD h) (ek : tk ρ h = .ok (.str w) h) : dGet2 ta tk (dC (.int 0)) ρ h = .ok (.int (szW w)) h := by
  unfold dGet2
  rw [ea, bind_ok]
  simp only [if_pos (show (dctOf h sizesD).isSome = true from rfl), ek, bind_ok, e_C]
  show CM.R.ok ((dGet (P6.map fun q => ((.inr q.1 : Key), CM.D.int q.2)) (.inr w)).getD (.int 0)) h = _
  rw [dGet_map]
  rfl
/-- a walk over a named list -/
theorem lc_ref {α : Type} {ta : TD} {tg : TGD} {tt : TB} {te : TD} {vs : List Nat} {xs : List α} {enc : α → CM.D} {k : Nat} (f : α → Bool) (g : α → CM.D) (e : ta ρ h = .ok (.ref k) h) (eo : h.ob k = some (.lst (xs.map enc))) (lz : xs.length ≤ sizeLine)
    (H : ∀ x ∈ xs, ∃ ρ2, tg (enc x) (wipeD ρ vs) (h.put k (.lkl (xs.map enc))) = .ok ρ2 (h.put k (.lkl (xs.map enc))) ∧ tt ρ2 (h.put k (.lkl (xs.map enc))) = .ok (f x) (h.put k (.lkl (xs.map enc))) ∧ (f x = true → te ρ2 (h.put k (.lkl (xs.map enc))) = .ok (g x) (h.put k (.lkl (xs.map enc))))) : dLc false (dSeqI ta) tg tt te vs ρ h = .ok (.lst ((xs.filter f).map g)) h := by
  have lz' : (xs.map enc).length ≤ sizeLine := by rw [List.length_map]; exact lz
  have lk : dSeqI ta ρ h = .ok (xs.map enc, some (k, .lst (xs.map enc))) (h.put k (.lkl (xs.map enc))) := by
    rw [e_seqI, e, bind_ok]
    show lockD (.ref k) h = _
    unfold lockD
    simp only [eo]
  unfold dLc
  rw [lk, bind_ok]
  simp only [if_pos lz']
  rw [lcL_pure H, bind_ok, mkL_f]
  show CM.R.ok (CM.D.lst ((xs.filter f).map g)) ((h.put k (.lkl (xs.map enc))).put k (.lst (xs.map enc))) = _
  rw [put_put, put_id eo]
theorem numB_alt (p : Pv d) (tail : Bool) : ((!cellB d) || (match d with | .int i => decide (i > 1000000000) | _ => false)) = !numB d := by
  cases d with
  | int i =>
    show ((!decide (0 ≤ i)) || decide (i > 1000000000)) = !(decide (0 ≤ i) && decide (i ≤ 1000000000))
    by_cases a : 0 ≤ i
    · by_cases b : i ≤ 1000000000
      · have c : ¬ i > 1000000000 := by omega
        simp [a, b, c]
      · have c : i > 1000000000 := by omega
        simp [a, b, c]
    · simp [a]
  | _ => first | exact p.elim | rfl
theorem part_test (pd : Pv d) {ρ : DE} {te : TD} (e : dVar 4 ρ h = .ok d h) : (dOr (dNot (dB (dCall 1 F__law_is_cell (dCons (dVar 4) (dNil))))) (dB (dOp (fB fun i j => decide (i > j)) (dVar 4) (dOp fPow (dC (.int 10)) (dC (.int 9)))))) ρ h = .ok (!numB d) h := by
  have t1 : (dNot (dB (dCall 1 F__law_is_cell (dCons (dVar 4) (dNil))))) ρ h = .ok (!cellB d) h := by
    rw [e_not, e_B, e_call, e_cons, e, bind_ok, e_nil, bind_ok, bind_ok, if_pos (by rfl), is_cell_ok pd, bind_ok, asB_bl, bind_ok]
  rw [e_or, t1, bind_ok]
  cases c : cellB d with
  | false =>
    rw [if_pos (by simp)]
    have := numB_alt pd true
    rw [c] at this
    rw [← this]
    rfl
  | true =>
    rw [if_neg (by simp)]
    cases d with
    | int i =>
      rw [e_B, e_op, e, bind_ok, e_op, e_C, bind_ok, e_C, bind_ok, pow109, bind_ok, e_fB, bind_ok, asB_bl]
      have := numB_alt pd true
      rw [c] at this
      rw [← this]
      rfl
    | _ => cases c
def tlB : SD := dRet (dOp (fEqL false) (dLc false (dSeqI (dVar 2)) (gdName 4) (dOr (dNot (dB (dCall 1 F__law_is_cell (dCons (dVar 4) (dNil))))) (dB (dOp (fB fun i j => decide (i > j)) (dVar 4) (dOp fPow (dC (.int 10)) (dC (.int 9)))))) (dVar 4) [4]) (dLst false (dNil)))
theorem tl_ok {x0 x1 x3 x4 : Option CM.D} {k : Nat} (H : ∀ x ∈ r, Pv x) (lr : r.length ≤ 60) (eo : h.ob k = some (.lst r)) : tlB [x0, x1, some (.ref k), x3, x4] h = .rt (.bl (r.all numB)) h := by
  have lc : dLc false (dSeqI (dVar 2)) (gdName 4) (dOr (dNot (dB (dCall 1 F__law_is_cell (dCons (dVar 4) (dNil))))) (dB (dOp (fB fun i j => decide (i > j)) (dVar 4) (dOp fPow (dC (.int 10)) (dC (.int 9)))))) (dVar 4) [4] [x0, x1, some (.ref k), x3, x4] h = .ok (.lst ((r.filter fun x => !numB x).map id)) h :=
    lc_ref (xs := r) (enc := id) (fun x => !numB x) id rfl (by rw [List.map_id]; exact eo) (sz60 lr) fun x hx => ⟨_, rfl, part_test (H x hx) (te := dVar 4) rfl, fun _ => rfl⟩
  unfold tlB
  rw [s_ret, e_op, lc, bind_ok, e_lst, e_nil, bind_ok, if_pos (by decide), mkL_f, bind_ok]
  show (CM.R.ok (CM.D.bl (bneg false ((r.filter fun x => !numB x).map id).isEmpty)) h).toS _ _ = _
  have e : ((r.filter fun x => !numB x).map id).isEmpty = r.all numB := by
    rw [List.map_id]
    clear lc eo lr H
    induction r with
    | nil => rfl
    | cons a l ih =>
      cases q : numB a with
      | true => rw [List.filter_cons_of_neg (by simp [q]), ih, List.all_cons, q, Bool.true_and]
      | false => rw [List.filter_cons_of_pos (by simp [q]), List.all_cons, q]; rfl
  rw [e]
  rfl
theorem kr_no (nb : w ≠ Str.ofString "begin") : ∀ (l : List CM.D) (k : Nat), ((l.all fun p => kindB p || numB p) && krB w k l) = l.all numB
  | [], _ => rfl
  | p :: l, k => by
    have ih := kr_no nb l (k + 1)
    have c : (w == Str.ofString "begin") = false := by simpa using nb
    rw [List.all_cons, List.all_cons, krB, c, ← ih]
    cases q : numB p with
    | true =>
      have : kindB p = false := by obtain ⟨n, rfl, _⟩ := numB_is q; rfl
      rw [this]
      simp
    | false => cases kindB p <;> simp
theorem kr_yes {a b : CM.D} : (([a, b].all fun p => kindB p || numB p) && krB (Str.ofString "begin") 0 [a, b]) = (kindB a && numB b) := by
  simp only [List.all_cons, List.all_nil, krB]
  cases q : numB b with
  | true =>
    have : kindB b = false := by obtain ⟨n, rfl, _⟩ := numB_is q; rfl
    rw [this]
    cases kindB a <;> simp
  | false => cases kindB a <;> cases kindB b <;> simp
theorem new_put {o o' : MO} : (h.new o).put h.nx o' = h.new o' := CH.ext' rfl fun j => by
  show (if j = h.nx then some o' else if j = h.nx then some o else h.ob j) = (if j = h.nx then some o' else h.ob j)
  split <;> rfl
theorem new_ob {o : MO} : (h.new o).ob h.nx = some o := by
  show (if h.nx = h.nx then some o else h.ob h.nx) = _
  rw [if_pos rfl]
theorem Fr.new (o : MO) : Fr [] h (h.new o) := ⟨Nat.le_succ _, fun k l _ => by
  show (if k = h.nx then some o else h.ob k) = h.ob k
  rw [if_neg (by omega)]⟩
def kdT : SD := dSeq (dAsg (dBM "list" fPopAt (dVar 2) (dCons (dC (.int 0)) (dNil))) (gdName 3)) (dIfS (dOr (dNot (dB (dCB (fIsX xs0 [] kt0) (dCons (dVar 3) (dCons (dC (.ty "str")) (dNil)))))) (dB (dOp (fIn true) (dVar 3) (dTup (dCons (dC (.str "up")) (dCons (dC (.str "down")) (dNil))))))) (dRet (dC (.bl false))) (dNext))
theorem kd_ok {x0 x1 x3 x4 : Option CM.D} {k : Nat} {a : CM.D} (pa : Pv a) (eo : h.ob k = some (.lst (a :: r))) : kdT [x0, x1, some (.ref k), x3, x4] h = if kindB a = true then .nx [x0, x1, some (.ref k), some a, x4] (h.put k (.lst r)) else .rt (.bl false) (h.put k (.lst r)) := by
  have ty : isTy "list" (.ref k) h = true := by
    show (lstOf h (.ref k)).isSome = true
    simp only [lstOf, eo, Option.isSome_some]
  have po : fPopAt (.ref k) [.int 0] h = .ok a (h.put k (.lst r)) := by
    show (match h.ob k with
      | some (.lst ds) => if -(2 ^ 63) ≤ (0 : Int) ∧ (0 : Int) < 2 ^ 63 then (match seqIndex? 0 ds.length with
        | some j => (match ds[j]? with
          | some y => CM.R.ok y (h.put k (.lst (ds.eraseIdx j)))
          | none => .no)
        | none => .no) else .no
      | _ => .no) = _
    rw [eo]
    have sx : seqIndex? 0 (a :: r).length = some 0 := by
      unfold seqIndex?
      simp
    simp only [if_pos (show -(2 ^ 63) ≤ (0 : Int) ∧ (0 : Int) < 2 ^ 63 by decide), sx]
    rfl
  have t : (dOr (dNot (dB (dCB (fIsX xs0 [] kt0) (dCons (dVar 3) (dCons (dC (.ty "str")) (dNil)))))) (dB (dOp (fIn true) (dVar 3) (dTup (dCons (dC (.str "up")) (dCons (dC (.str "down")) (dNil))))))) [x0, x1, some (.ref k), some a, x4] (h.put k (.lst r)) = .ok (!kindB a) (h.put k (.lst r)) := by
    have is := isi_s (h := h.put k (.lst r)) pa
    cases a with
    | str x =>
      have e : fIn true (.str x) (.tup [.str (Str.ofString "up"), .str (Str.ofString "down")]) (h.put k (.lst r)) = .ok (.bl (!([Str.ofString "up", Str.ofString "down"].contains x))) (h.put k (.lst r)) := in_strsT (neg := true) (l := [Str.ofString "up", Str.ofString "down"])
      have k2 : kindB (.str x) = [Str.ofString "up", Str.ofString "down"].contains x := by
        show [Str.ofString "down", Str.ofString "up"].contains x = _
        simp only [List.contains_cons, List.contains_nil, Bool.or_false]
        exact Bool.or_comm _ _
      simp [is, isS, e, show (2 : Nat) ≤ sizeLine from by decide]
      rw [k2]
      simp
    | _ => first | exact pa.elim | (simp [is, isS, kindB])
  unfold kdT
  rw [s_seq, s_asg, e_BM]
  simp only [e_var, List.getElem?_cons_succ, List.getElem?_cons_zero, bind_ok, ty, if_true, e_cons, e_C, e_nil, po, toS_ok, g_name, put_ok, sbind_nx, List.set_cons_succ, List.set_cons_zero]
  rw [s_if, t, toS_ok]
  cases kindB a <;> simp
theorem itd_u : u__law_is_text_deed = dSeq (dAsg (dDisp false [(dC (.str "write"), dC (.int 4)), (dC (.str "cover"), dC (.int 2)), (dC (.str "branch"), dC (.int 2)), (dC (.str "begin"), dC (.int 3)), (dC (.str "step"), dC (.int 2)), (dC (.str "stop"), dC (.int 1))]) (gdName 1)) (dSeq (dIfS (dOr (dNot (dB (dCB (fIsX xs0 [] kt0) (dCons (dVar 0) (dCons (dC (.ty "tuple")) (dNil)))))) (dOr (dB (dOp fEqE (dVar 0) (dTup (dNil)))) (dNot (dB (dCB (fIsX xs0 [] kt0) (dCons (dOp fIx (dVar 0) (dC (.int 0))) (dCons (dC (.ty "str")) (dNil)))))))) (dRet (dC (.bl false))) (dNext)) (dSeq (dIfS (dB (dOp (fEq true) (dGet2 (dVar 1) (dOp fIx (dVar 0) (dC (.int 0))) (dC (.int 0))) (dCB fLen (dCons (dVar 0) (dNil))))) (dRet (dC (.bl false))) (dNext)) (dSeq (dAsg (dCB (fListOf true) (dCons (dSl false (dVar 0) (dPart (dC (.int 1))) (dNoPart)) (dNil))) (gdName 2)) (dSeq (dIfS (dB (dOp (fEq false) (dOp fIx (dVar 0) (dC (.int 0))) (dC (.str "begin")))) kdT (dNext)) tlB)))) := rfl
theorem sz_le (w : Str) : szW w ≤ 4 := by
  by_cases k : szW w = 0
  · omega
  · exact (wd_word k).2
theorem is_td_ok (P : Pq d) : ∃ h', F__law_is_text_deed [d] h = .ok (.bl (isTD d)) h' ∧ Fr [] h h' := by
  suffices q : ∃ h', (u__law_is_text_deed [some d, none, none, none, none] h).res = .ok (.bl (isTD d)) h' ∧ Fr [] h h' from q
  rw [itd_u, s_seq, s_asg, sizes_ok, toS_ok, g_name, put_ok, sbind_nx, s_seq, s_if]
  simp only [List.set_cons_succ, List.set_cons_zero]
  have it := isi_t (h := h) P.pv
  have non : isT d = false → ∃ h', ((CM.RS.rt (.bl false) h : RS).bind (dSeq (dIfS (dB (dOp (fEq true) (dGet2 (dVar 1) (dOp fIx (dVar 0) (dC (.int 0))) (dC (.int 0))) (dCB fLen (dCons (dVar 0) (dNil))))) (dRet (dC (.bl false))) (dNext)) tlB)).res = .ok (.bl (isTD d)) h' ∧ Fr [] h h' := fun q => ⟨h, by
    have : isTD d = false := by cases d <;> first | rfl | cases q
    rw [this]
    rfl, Fr.refl⟩
  cases d with
  | tup l =>
    cases l with
    | nil =>
      refine ⟨h, ?_, Fr.refl⟩
      simp [it, isT, fEqE, isTD]
    | cons x r =>
      have px : Pv x := P.ps _ rfl x (List.mem_cons_self ..)
      have H : ∀ y ∈ r, Pv y := fun y hy => P.ps _ rfl y (List.mem_cons_of_mem _ hy)
      have is := isi_s (h := h) px
      have ln : fLen [.tup (x :: r)] h = .ok (.int (r.length + 1 : Nat)) h := rfl
      have ee : fEqE (.tup (x :: r)) (.tup []) h = .ok (.bl false) h := rfl
      cases x with
      | str w =>
        have gt := get_ok (h := h) (ρ := [some (.tup (.str w :: r)), some sizesD, none, none, none]) (ta := dVar 1) (tk := dOp fIx (dVar 0) (dC (.int 0))) (w := w) rfl (by simp [ix0])
        have t1 : (dOr (dNot (dB (dCB (fIsX xs0 [] kt0) (dCons (dVar 0) (dCons (dC (.ty "tuple")) (dNil)))))) (dOr (dB (dOp fEqE (dVar 0) (dTup (dNil)))) (dNot (dB (dCB (fIsX xs0 [] kt0) (dCons (dOp fIx (dVar 0) (dC (.int 0))) (dCons (dC (.ty "str")) (dNil)))))))) [some (.tup (.str w :: r)), some sizesD, none, none, none] h = .ok false h := by
          simp [it, isT, ee, ix0, is, isS]
        have t2 : (dB (dOp (fEq true) (dGet2 (dVar 1) (dOp fIx (dVar 0) (dC (.int 0))) (dC (.int 0))) (dCB fLen (dCons (dVar 0) (dNil))))) [some (.tup (.str w :: r)), some sizesD, none, none, none] h = .ok (!(szW w == ((r.length : Nat) : Int) + 1)) h := by
          rw [e_B, e_op, gt, bind_ok]
          simp [ln]
        rw [t1, toS_ok, if_neg (by simp), s_next, sbind_nx, s_seq, s_if, t2, toS_ok]
        have td : isTD (.tup (.str w :: r)) = ((szW w == ((r.length : Nat) : Int) + 1) && ((r.all fun p => kindB p || numB p) && krB w 0 r)) := rfl
        by_cases sz : szW w = ((r.length : Nat) : Int) + 1
        · have sz' : (szW w == ((r.length : Nat) : Int) + 1) = true := by simpa using sz
          rw [sz', Bool.not_true, if_neg (by simp), s_next, sbind_nx, s_seq, s_asg]
          rw [sz', Bool.true_and] at td
          have ls : dCB (fListOf true) (dCons (dSl false (dVar 0) (dPart (dC (.int 1))) (dNoPart)) (dNil)) [some (.tup (.str w :: r)), some sizesD, none, none, none] h = .ok (.ref h.nx) (h.new (.lst r)) := by
            rw [e_CB, e_cons, sl1 (h := h) (r := r) (x := .str w) rfl]
            rfl
          rw [ls, toS_ok, g_name, put_ok, sbind_nx, s_seq, s_if]
          simp only [List.set_cons_succ, List.set_cons_zero]
          have t3 : (dB (dOp (fEq false) (dOp fIx (dVar 0) (dC (.int 0))) (dC (.str "begin")))) [some (.tup (.str w :: r)), some sizesD, some (.ref h.nx), none, none] (h.new (.lst r)) = .ok (w == Str.ofString "begin") (h.new (.lst r)) := by simp [ix0]
          rw [t3, toS_ok]
          by_cases cb : w = Str.ofString "begin"
          · subst cb
            have l2 : r.length = 2 := by
              have : szW (Str.ofString "begin") = 3 := by decide +kernel
              omega
            obtain ⟨a, b, rfl⟩ : ∃ a b, r = [a, b] := by
              match r, l2 with
              | [a, b], _ => exact ⟨a, b, rfl⟩
            rw [if_pos (by simp), kd_ok (H a (by simp)) new_ob, td, kr_yes]
            cases qa : kindB a with
            | false => exact ⟨_, by rw [if_neg (by simp)]; rfl, by rw [new_put]; exact Fr.new _⟩
            | true =>
              rw [if_pos rfl, sbind_nx, new_put, tl_ok (r := [b]) (fun x hx => H x (by simp at hx; simp [hx])) (by simp) new_ob]
              refine ⟨h.new (.lst [b]), ?_, Fr.new _⟩
              simp
          · rw [if_neg (by simpa using cb), s_next, sbind_nx, tl_ok H (by have := sz_le w; omega) new_ob, td, kr_no cb]
            exact ⟨_, rfl, Fr.new _⟩
        · have sz' : (szW w == ((r.length : Nat) : Int) + 1) = false := by simpa using sz
          rw [sz', Bool.not_false, if_pos rfl]
          rw [sz', Bool.false_and] at td
          rw [td]
          exact ⟨h, rfl, Fr.refl⟩
      | _ =>
        first
        | exact px.elim
        | (refine ⟨h, ?_, Fr.refl⟩
           simp [it, isT, ee, ix0, is, isS, isTD])
  | _ =>
    first
    | exact P.pv.elim
    | (refine ⟨h, ?_, Fr.refl⟩
       simp [it, isT, isTD])
end
end W_whilemerged_k78_texts_of_histories_spoil
namespace W_whilemerged_k78_texts_of_histories_spoil
open PySem PySem.Spec PyProof.Rows L2 CM
open TL (tl joinL numL)
/-- a tree as the library's data -/
def tq : Nat → CM.D → Option PyData
  | 0, _ => none
  | n + 1, d => match d with
    | .non => some .none
    | .bl b => some (.bool b)
    | .int i => some (.int i)
    | .str x => some (.str x)
    | .lst xs => (xs.mapM (tq n)).map .list
    | .tup xs => (xs.mapM (tq n)).map .tuple
    | .dct kvs => ((kvs.map (·.2)).mapM (tq n)).map fun ds => .dict ((kvs.map fun p => keyP p.1).zip ds)
    | _ => none
theorem mapM_imp {α β : Type} {f g : α → Option β} (H : ∀ x y, f x = some y → g x = some y) : ∀ (l : List α) (r : List β), l.mapM f = some r → l.mapM g = some r
  | [], r, e => by simpa using e
  | x :: l, r, e => by
    simp only [List.mapM_cons, Option.bind_eq_bind, Option.bind_eq_some_iff, Option.pure_def, Option.some.injEq] at e ⊢
    obtain ⟨y, e1, ys, e2, e3⟩ := e
    exact ⟨y, H x y e1, ys, mapM_imp H l ys e2, e3⟩
theorem tq_toQ {h : CH} : ∀ (n : Nat) (d : CM.D) (p : PyData), tq n d = some p → toQ h n d = some p
  | 0, _, _, e => by cases e
  | n + 1, d, p, e => by
    have ih := tq_toQ (h := h) n
    cases d with
    | lst xs =>
      simp only [tq, toQ, Option.map_eq_some_iff] at e ⊢
      obtain ⟨ys, e1, e2⟩ := e
      exact ⟨ys, mapM_imp ih xs ys e1, e2⟩
    | tup xs =>
      simp only [tq, toQ, Option.map_eq_some_iff] at e ⊢
      obtain ⟨ys, e1, e2⟩ := e
      exact ⟨ys, mapM_imp ih xs ys e1, e2⟩
    | dct kvs =>
      simp only [tq, toQ, Option.map_eq_some_iff] at e ⊢
      obtain ⟨ys, e1, e2⟩ := e
      exact ⟨ys, mapM_imp ih _ ys e1, e2⟩
    | non => exact e
    | bl b => exact e
    | int i => exact e
    | str x => exact e
    | _ => cases e
structure ShD (n w : Nat) (d : CM.D) (p : PyData) : Prop where
  e : tq n d = some p
  sh : p.showable = true
  lf : p.leavesShort 13 = true
  wt : p.weight ≤ w
  dp : p.depth ≤ n
def SW (n w : Nat) (d : CM.D) : Prop := ∃ p, ShD n w d p
theorem SW.le {n w w' : Nat} {d : CM.D} (s : SW n w d) (h : w ≤ w') : SW n w' d := by
  obtain ⟨p, s⟩ := s
  exact ⟨p, s.e, s.sh, s.lf, Nat.le_trans s.wt h, s.dp⟩
theorem SW.alls {n w : Nat} : ∀ {ds : List CM.D}, (∀ d ∈ ds, SW n w d) → ∃ ps, ds.mapM (tq n) = some ps ∧ PyData.showableAll ps = true ∧ PyData.leavesShortAll 13 ps = true ∧ PyData.weightAll ps ≤ ds.length * (w + 1) ∧ PyData.depthAll ps ≤ n
  | [], _ => ⟨[], rfl, rfl, rfl, Nat.zero_le _, Nat.zero_le _⟩
  | d :: ds, H => by
    obtain ⟨p, f⟩ := H d (List.mem_cons_self ..)
    obtain ⟨ps, e, a, b, c, g⟩ := SW.alls (ds := ds) fun q hq => H q (List.mem_cons_of_mem _ hq)
    refine ⟨p :: ps, ?_, ?_, ?_, ?_, ?_⟩
    · simp only [List.mapM_cons, f.e, e]
      rfl
    · simp only [PyData.showableAll, f.sh, a, Bool.and_self]
    · simp only [PyData.leavesShortAll, f.lf, b, Bool.and_self]
    · have := f.wt
      simp only [PyData.weightAll, List.length_cons, Nat.add_mul, Nat.one_mul]
      omega
    · have := f.dp
      simp only [PyData.depthAll]
      omega
theorem SW.tup {n w : Nat} {ds : List CM.D} (H : ∀ d ∈ ds, SW n w d) : SW (n + 1) (ds.length * (w + 1)) (.tup ds) := by
  obtain ⟨ps, e, a, b, c, g⟩ := SW.alls H
  exact ⟨.tuple ps, by simp only [tq, e]; rfl, a, b, c, Nat.succ_le_succ g⟩
theorem SW.lst {n w : Nat} {ds : List CM.D} (H : ∀ d ∈ ds, SW n w d) : SW (n + 1) (ds.length * (w + 1)) (.lst ds) := by
  obtain ⟨ps, e, a, b, c, g⟩ := SW.alls H
  exact ⟨.list ps, by simp only [tq, e]; rfl, a, b, c, Nat.succ_le_succ g⟩
theorem SW.int {n k : Nat} (hk : k ≤ 1000000000) : SW (n + 1) 40 (.int k) := by
  have f := Fit.int (i := (k : Int)) (by show k < 10 ^ 12; exact Nat.lt_of_le_of_lt hk (by decide))
  refine ⟨.int k, rfl, f.sh, ?_, f.wt, Nat.zero_le _⟩
  have := f.lf
  unfold PyData.leavesShort at this ⊢
  rw [decide_eq_true_eq] at this ⊢
  omega
theorem SW.none {n : Nat} : SW (n + 1) 0 .non := ⟨.none, rfl, rfl, rfl, Nat.le_refl _, Nat.zero_le _⟩
theorem SW.str {n k : Nat} {x : Str} (h : ∀ c ∈ tl x, c < 16 ^ 8) (l : (tl x).length ≤ k) : SW (n + 1) k (.str x) :=
  ⟨.str x, rfl, rfl, by show (x.cps.toList.all fun c => decide (c < 16 ^ 8)) = true; rw [List.all_eq_true]; intro c hc; exact decide_eq_true (h c hc), by show x.cps.size ≤ k; rw [← Array.length_toList]; exact l, Nat.zero_le _⟩
/-- text of few signs, checked by looking -/
def strB (k : Nat) (x : Str) : Bool := (x.cps.toList.all fun c => decide (c < 16 ^ 8)) && decide (x.cps.toList.length ≤ k)
theorem SW.strB {n k : Nat} {x : Str} (h : strB k x = true) : SW (n + 1) k (.str x) := by
  unfold W_whilemerged_k78_texts_of_histories_spoil.strB at h
  rw [Bool.and_eq_true, List.all_eq_true, decide_eq_true_eq] at h
  exact SW.str (fun c hc => of_decide_eq_true (h.1 c hc)) h.2
section
variable {h : CH} {d p : CM.D} {r : List CM.D} {w : Str} {n k : Nat}
theorem SW.part (kp : (kindB p || numB p) = true) : SW (n + 1) 40 p := by
  rw [Bool.or_eq_true] at kp
  rcases kp with kp | kp
  · rcases kindB_is kp with rfl | rfl
    · exact SW.strB (by decide +kernel)
    · exact SW.strB (by decide +kernel)
  · obtain ⟨m, rfl, hm⟩ := numB_is kp
    exact SW.int hm
theorem SW.word (z : szW w ≠ 0) : SW (n + 1) 40 (.str w) := by
  rcases szW_is z with rfl | rfl | rfl | rfl | rfl | rfl <;> exact SW.strB (by decide +kernel)
theorem Td.sw (T : Td d w r) : SW (n + 2) 200 d := by
  rw [T.e]
  have H : ∀ x ∈ (CM.D.str w :: r), SW (n + 1) 40 x := fun x hx => by
    rcases List.mem_cons.mp hx with rfl | hx
    · exact SW.word (by have := T.sz; omega)
    · exact SW.part (T.ps x hx)
  refine (SW.tup H).le ?_
  have := T.ln
  simp only [List.length_cons]
  omega
theorem tqs_toQ {n : Nat} {ds : List CM.D} {ps : List PyData} (e : ds.mapM (tq n) = some ps) : ds.mapM (toQ h n) = some ps := mapM_imp (tq_toQ n) ds ps e
theorem shown_ok {p : PyData} (lf : p.leavesShort 13 = true) (wt : p.weight ≤ 1000000) : p.shown.length ≤ sizeLine := by
  have a := PyData.shown_le 13 (by decide) p lf
  have b : (15 * 1000000 + 13 : Nat) ≤ sizeLine := by decide
  have c : (13 + 2) * p.weight ≤ 15 * 1000000 := Nat.mul_le_mul (by omega) wt
  omega
theorem rep_val {q : PyData} (hd : ∀ i, d ≠ .int i) (h0 : d ≠ .non) (h1 : ∀ b, d ≠ .bl b) (h2 : ∀ x, d ≠ .str x) (e : toQ h 14 d = some q) (bx : boxed h d = true) (sh : q.showable = true) (lf : q.leavesShort 13 = true) (wt : q.weight ≤ 1000000) (dp : q.depth ≤ 60) : fRepA [d] h = .ok (.str q.shown) h := by
  have e2 : fRepA [d] h = fRep [d] h := by
    cases d with
    | non => exact absurd rfl h0
    | bl b => exact absurd rfl (h1 b)
    | str x => exact absurd rfl (h2 x)
    | _ => rfl
  have e3 : fRep [d] h = match toQ h 14 d with
    | some p => if boxed h d = true ∧ p.showable = true ∧ p.depth ≤ 60 ∧ p.shown.length ≤ sizeLine then CM.R.ok (.str p.shown) h else .no
    | none => .no := by
    cases d with
    | int i => exact absurd rfl (hd i)
    | _ => rfl
  rw [e2, e3, e]
  exact if_pos ⟨bx, sh, dp, shown_ok lf wt⟩
theorem rep_tup {ds : List CM.D} {wt : Nat} (H : ∀ d ∈ ds, SW 13 wt d) (l : ds.length * (wt + 1) ≤ 1000000) : ∃ t, ∀ h : CH, fRepA [.tup ds] h = .ok (.str t) h := by
  obtain ⟨q, s⟩ := SW.tup H
  exact ⟨q.shown, fun h => rep_val (fun _ e => nomatch e) (fun e => nomatch e) (fun _ e => nomatch e) (fun _ e => nomatch e) (tq_toQ 14 _ _ s.e) rfl s.sh s.lf (Nat.le_trans s.wt l) (Nat.le_trans s.dp (by decide))⟩
theorem toQ_ref {k n : Nat} {ds : List CM.D} (e : h.ob k = some (.lst ds)) : toQ h (n + 1) (.ref k) = (ds.mapM (toQ h n)).map .list := by simp only [toQ, e]
theorem toQ_lst {n : Nat} {ds : List CM.D} : toQ h (n + 1) (.lst ds) = (ds.mapM (toQ h n)).map .list := rfl
end
end W_whilemerged_k78_texts_of_histories_spoil
namespace W_whilemerged_k78_texts_of_histories_spoil
open PySem PySem.Spec PyProof.Rows L2 CM
open TL (tl joinL numL)
section
variable {h : CH} {d p : CM.D} {r w n k c : Nat} {ρ : DE}
theorem lcL_draw {tg : TGD} {te : TD} {ρ0 : DE} {P : CM.D → Prop} (step : ∀ (i : Int) (n : Nat) (h : CH), DrawOk r w (n + c) h → ∃ ρ2 d h1, tg (.int i) ρ0 h = .ok ρ2 h ∧ te ρ2 h = .ok d h1 ∧ P d ∧ DrawOk r w n h1 ∧ DrFr r w h h1) : ∀ (l : List Int) (n : Nat) (h : CH), DrawOk r w (n + c * l.length) h → ∃ ds h1, dLcL tg dYes te ρ0 (l.map CM.D.int) h = .ok ds h1 ∧ ds.length = l.length ∧ (∀ d ∈ ds, P d) ∧ DrawOk r w n h1 ∧ DrFr r w h h1
  | [], n, h, A => ⟨[], h, rfl, rfl, (fun d hd => nomatch hd), A, DrFr.refl⟩
  | i :: l, n, h, A => by
    rw [List.length_cons, Nat.mul_add, Nat.mul_one, ← Nat.add_assoc] at A
    obtain ⟨ρ2, d, h1, e1, e2, pd, A1, f1⟩ := step i (n + c * l.length) h A
    obtain ⟨ds, h2, e3, l3, p3, A2, f2⟩ := lcL_draw step l n h1 A1
    refine ⟨d :: ds, h2, ?_, by simp [l3], fun x hx => ?_, A2, f1.trans f2⟩
    · show (tg (CM.D.int i) ρ0 h).calm _ = _
      rw [e1, calm_ok, show dYes ρ2 h = .ok true h from rfl, calm_ok, if_pos rfl, e2, calm_ok, e3]
      rfl
    · rcases List.mem_cons.mp hx with rfl | hx
      · exact pd
      · exact p3 x hx
theorem lc_draw {tg : TGD} {te ta : TD} {vs : List Nat} {P : CM.D → Prop} {m : Nat} {h0 : CH} (e : ta ρ h = .ok (.int m) h0) (hm : m ≤ 60) (step : ∀ (i : Int) (n : Nat) (h : CH), DrawOk r w (n + c) h → ∃ ρ2 d h1, tg (.int i) (wipeD ρ vs) h = .ok ρ2 h ∧ te ρ2 h = .ok d h1 ∧ P d ∧ DrawOk r w n h1 ∧ DrFr r w h h1) (A : DrawOk r w (n + c * m) h0) : ∃ ds h1, dLc false (dRng1 (dCons ta (dNil))) tg (dYes) te vs ρ h = .ok (.lst ds) h1 ∧ ds.length = m ∧ (∀ d ∈ ds, P d) ∧ DrawOk r w n h1 ∧ DrFr r w h0 h1 := by
  have it : dRng1 (dCons ta (dNil)) ρ h = .ok ((rgI m).map CM.D.int, none) h0 := by
    unfold dRng1
    rw [e_cons, e, bind_ok, e_nil, bind_ok, bind_ok]
    have z : -(2 ^ 62) ≤ (m : Int) ∧ (m : Int) < 2 ^ 62 := by omega
    simp only [if_pos z, Int.toNat_natCast, rgD_rgI]
  have lr : (rgI m).length = m := by simp [rgI]
  obtain ⟨ds, h1, e1, l1, p1, A1, f1⟩ := lcL_draw step (rgI m) n h0 (by rw [lr]; exact A)
  refine ⟨ds, h1, ?_, by rw [l1, lr], p1, A1, f1⟩
  unfold dLc
  rw [it, bind_ok]
  simp only [if_pos (show ((rgI m).map CM.D.int).length ≤ sizeLine by rw [List.length_map, lr]; exact sz60 hm)]
  rw [e1]
  rfl
theorem text_number_ok (A : DrawOk r w (n + 3) h) : ∃ k h1, F__law_text_number [.ref r] h = .ok (.int (k : Nat)) h1 ∧ k ≤ 1000000000 ∧ DrawOk r w n h1 ∧ DrFr r w h h1 := by
  obtain ⟨v1, h1, e1, a1, b1, A1, f1⟩ := takeI (n := n + 2) A (s := 12) (by omega) (by omega)
  obtain ⟨v2, h2, e2, a2, b2, A2, f2⟩ := takeI (n := n + 1) A1 (s := 1000000001) (by omega) (by omega)
  obtain ⟨i, h3, e3, m3, A3, f3⟩ := pickI (n := n) A2 (l := [0, 1, v1, v2, 1000000000]) (by simp) (by simp)
  have nn : 0 ≤ i ∧ i ≤ 1000000000 := by
    simp only [List.mem_cons, List.not_mem_nil, or_false] at m3
    omega
  obtain ⟨k, rfl⟩ := num_nat nn.1
  refine ⟨k, h3, ?_, by omega, A3, (f1.trans f2).trans f3⟩
  show (u__law_text_number [some (.ref r)] h).res = _
  have p1 : fPow (.int 10) (.int 9) h1 = .ok (.int 1000000000) h1 := pow109
  have p2 : fPow (.int 10) (.int 9) h2 = .ok (.int 1000000000) h2 := pow109
  have ad : fAdd false (.int 1000000000) (.int 1) h1 = .ok (.int 1000000001) h1 := rfl
  unfold u__law_text_number
  simp only [s_ret, e_call, e_cons, e_var, List.getElem?_cons_zero, bind_ok, e_lst, e_C, e_nil, e1, e_op, p1, ad, e2, p2, List.length_cons, List.length_nil, if_true]
  rw [if_pos (by decide), mkL_f, bind_ok, bind_ok, bind_ok, if_pos (by rfl)]
  have l5 : ([.int 0, .int 1, .int v1, .int v2, .int 1000000000] : List CM.D) = inL [0, 1, v1, v2, 1000000000] := rfl
  rw [l5, e3]
  rfl
theorem words6 {d : CM.D} (m : d ∈ ([.str (Str.ofString "write"), .str (Str.ofString "cover"), .str (Str.ofString "branch"), .str (Str.ofString "begin"), .str (Str.ofString "step"), .str (Str.ofString "stop")] : List CM.D)) : ∃ x, d = .str x ∧ szW x ≠ 0 ∧ (x = Str.ofString "begin" → True) := by
  simp only [List.mem_cons, List.not_mem_nil, or_false] at m
  rcases m with rfl | rfl | rfl | rfl | rfl | rfl <;> exact ⟨_, rfl, by decide +kernel, fun _ => trivial⟩
theorem num_all : ∀ (ds : List CM.D), (∀ d ∈ ds, numB d = true) → (ds.all fun p => kindB p || numB p) = true ∧ ∀ w k, w ≠ Str.ofString "begin" → krB w k ds = true
  | [], _ => ⟨rfl, fun _ _ _ => rfl⟩
  | d :: ds, H => by
    obtain ⟨a, b⟩ := num_all ds fun x hx => H x (List.mem_cons_of_mem _ hx)
    have q := H d (List.mem_cons_self ..)
    have kn : kindB d = false := by obtain ⟨m, rfl, _⟩ := numB_is q; rfl
    refine ⟨by rw [List.all_cons, a, q]; simp, fun w k nb => ?_⟩
    have c : (w == Str.ofString "begin") = false := by simpa using nb
    rw [krB, b w (k + 1) nb, kn, c]
    rfl
def restS (w : Str) : Int := ((lkI [("write", 3), ("stop", 0)] w).getD 1)
theorem rest_sz (z : szW w' ≠ 0) (nb : w' ≠ Str.ofString "begin") : szW w' = restS w' + 1 ∧ 0 ≤ restS w' ∧ restS w' ≤ 3 := by
  rcases szW_is z with rfl | rfl | rfl | rfl | rfl | rfl
  · exact ⟨by decide +kernel, by decide +kernel, by decide +kernel⟩
  · exact ⟨by decide +kernel, by decide +kernel, by decide +kernel⟩
  · exact ⟨by decide +kernel, by decide +kernel, by decide +kernel⟩
  · exact absurd rfl nb
  · exact ⟨by decide +kernel, by decide +kernel, by decide +kernel⟩
  · exact ⟨by decide +kernel, by decide +kernel, by decide +kernel⟩
theorem rest_get {x : Str} {ρ : DE} {h : CH} {tk : TD} (ek : tk ρ h = .ok (.str x) h) : dGet2 (dDisp false [(dC (.str "write"), dC (.int 3)), (dC (.str "stop"), dC (.int 0))]) tk (dC (.int 1)) ρ h = .ok (.int (restS x)) h := by
  have e : dDisp false [(dC (.str "write"), dC (.int 3)), (dC (.str "stop"), dC (.int 0))] ρ h = .ok (.dct [(.inr (Str.ofString "write"), .int 3), (.inr (Str.ofString "stop"), .int 0)]) h := by kernel_rfl
  unfold dGet2
  rw [e, bind_ok]
  simp only [if_pos (show (dctOf h (.dct [(.inr (Str.ofString "write"), .int 3), (.inr (Str.ofString "stop"), .int 0)])).isSome = true from rfl), ek, bind_ok, e_C]
  show CM.R.ok ((dGet [(.inr (Str.ofString "write"), .int 3), (.inr (Str.ofString "stop"), .int 0)] (.inr x)).getD (.int 1)) h = _
  congr 1
  unfold restS
  by_cases c1 : x = Str.ofString "write"
  · subst c1; simp [dGet, lkI]
  · by_cases c2 : x = Str.ofString "stop"
    · subst c2
      have : ¬ Str.ofString "write" = Str.ofString "stop" := by decide +kernel
      simp [dGet, lkI, this]
    · simp [dGet, lkI, Ne.symm c1, Ne.symm c2]
theorem text_deed_ok (A : DrawOk r w (n + 12) h) : ∃ d h1, F__law_text_deed [.ref r] h = .ok d h1 ∧ isTD d = true ∧ DrawOk r w n h1 ∧ DrFr r w h h1 := by
  obtain ⟨d0, h1, e1, m1, A1, f1⟩ := pickE (n := n + 11) A (l := [.str (Str.ofString "write"), .str (Str.ofString "cover"), .str (Str.ofString "branch"), .str (Str.ofString "begin"), .str (Str.ofString "step"), .str (Str.ofString "stop")]) (by simp) (by simp)
  obtain ⟨x, rfl, zx, _⟩ := words6 m1
  suffices q : ∃ d h2, (u__law_text_deed [some (.ref r), none, none, none] h).res = .ok d h2 ∧ isTD d = true ∧ DrawOk r w n h2 ∧ DrFr r w h h2 from q
  unfold u__law_text_deed
  rw [s_seq, s_asg]
  have c1 : dCall 2 F__law_pick (dCons (dVar 0) (dCons (dLst false (dCons (dC (.str "write")) (dCons (dC (.str "cover")) (dCons (dC (.str "branch")) (dCons (dC (.str "begin")) (dCons (dC (.str "step")) (dCons (dC (.str "stop")) (dNil)))))))) (dNil))) [some (.ref r), none, none, none] h = .ok (.str x) h1 := by
    simp only [e_call, e_cons, e_var, List.getElem?_cons_zero, bind_ok, e_lst, e_C, e_nil, List.length_cons, List.length_nil]
    rw [if_pos (by decide), mkL_f, bind_ok, bind_ok, bind_ok, if_pos (by rfl)]
    exact e1
  rw [c1, toS_ok, g_name, put_ok, sbind_nx, s_seq, s_if]
  simp only [List.set_cons_succ, List.set_cons_zero]
  have t1 : (dB (dOp (fEq false) (dVar 1) (dC (.str "begin")))) [some (.ref r), some (.str x), none, none] h1 = .ok (x == Str.ofString "begin") h1 := by simp
  rw [t1, toS_ok]
  by_cases cb : x = Str.ofString "begin"
  · subst cb
    obtain ⟨kd, h2, e2, m2, A2, f2⟩ := pickE (n := n + 10) A1 (l := [.str (Str.ofString "up"), .str (Str.ofString "down")]) (by simp) (by simp)
    obtain ⟨k, h3, e3, hk, A3, f3⟩ := text_number_ok (n := n) (A2.mono (by omega))
    refine ⟨.tup [.str (Str.ofString "begin"), kd, .int k], h3, ?_, ?_, A3, (f1.trans f2).trans f3⟩
    · rw [if_pos (by simp), s_ret, e_tup, e_cons]
      simp only [e_cons, e_call, e_var, List.getElem?_cons_zero, List.getElem?_cons_succ, bind_ok, e_lst, e_C, e_nil, List.length_cons, List.length_nil]
      rw [if_pos (by decide), mkL_f, bind_ok, bind_ok, bind_ok, if_pos (by rfl), e2, bind_ok, if_pos trivial, e3]
      rfl
    · have kb : kindB kd = true := by
        simp only [List.mem_cons, List.not_mem_nil, or_false] at m2
        rcases m2 with rfl | rfl <;> decide +kernel
      have nb : numB (.int (k : Int)) = true := by
        show (decide (0 ≤ (k : Int)) && decide ((k : Int) ≤ 1000000000)) = true
        rw [decide_eq_true (by omega), decide_eq_true (by omega)]
        rfl
      show ((szW (Str.ofString "begin") == (([kd, CM.D.int (k : Int)].length : Nat) : Int) + 1) && (([kd, CM.D.int (k : Int)].all fun p => kindB p || numB p) && krB (Str.ofString "begin") 0 [kd, CM.D.int (k : Int)])) = true
      rw [kr_yes, kb, nb]
      have s3 : szW (Str.ofString "begin") = 3 := by decide +kernel
      rw [s3]
      rfl
  · obtain ⟨z1, z2, z3⟩ := rest_sz zx cb
    obtain ⟨m, hm⟩ := num_nat z2
    have m3 : m ≤ 3 := by omega
    obtain ⟨ds, h2, e2, l2, p2, A2, f2⟩ := lc_draw (c := 3) (r := r) (w := w) (n := n) (h := h1) (ρ := [some (.ref r), some (.str x), some (.int m), none]) (ta := dVar 2) (tg := gdName 3) (te := dCall 1 F__law_text_number (dCons (dVar 0) (dNil))) (vs := [3]) (P := fun d => numB d = true) (m := m) rfl (by omega) (fun i n h A => by
      obtain ⟨k, h1, e1, hk, A1, f1⟩ := text_number_ok A
      refine ⟨_, .int k, h1, rfl, ?_, ?_, A1, f1⟩
      · simp [wipeD, e1]
      · show (decide (0 ≤ (k : Int)) && decide ((k : Int) ≤ 1000000000)) = true
        rw [decide_eq_true (by omega), decide_eq_true (by omega)]
        rfl) (A1.mono (by omega))
    obtain ⟨q1, q2⟩ := num_all ds p2
    refine ⟨.tup (.str x :: ds), h2, ?_, ?_, A2, f1.trans f2⟩
    · have g := rest_get (x := x) (ρ := [some (.ref r), some (.str x), none, none]) (h := h1) (tk := dVar 1) rfl
      rw [if_neg (by simpa using cb), s_next, sbind_nx, s_seq, s_asg, g, toS_ok, g_name, put_ok, sbind_nx, s_ret, e_CB, e_cons, e_op, e_lst, e_cons]
      simp only [List.set_cons_succ, List.set_cons_zero, e_var, List.getElem?_cons_zero, List.getElem?_cons_succ, bind_ok, e_nil, List.length_cons, List.length_nil]
      rw [if_pos (by decide), mkL_f, bind_ok, hm, e2, bind_ok]
      have ad : fAdd false (.lst [.str x]) (.lst ds) h2 = .ok (.lst (.str x :: ds)) h2 := by
        show (if [CM.D.str x].length + ds.length ≤ sizeLine then mkL false ([CM.D.str x] ++ ds) h2 else .no) = _
        rw [if_pos (sz60 (by simp; omega))]
        rfl
      rw [ad]
      rfl
    · show ((szW x == ((ds.length : Nat) : Int) + 1) && ((ds.all fun p => kindB p || numB p) && krB x 0 ds)) = true
      rw [q1, q2 x 0 cb, l2, z1, hm]
      simp
end
end W_whilemerged_k78_texts_of_histories_spoil
namespace W_whilemerged_k78_texts_of_histories_spoil
open PySem PySem.Spec PyProof.Rows L2 CM
open TL (tl joinL numL)
section
variable {h : CH} {d p : CM.D} {r : List CM.D} {w : Str} {i j n : Nat}
/-- as data of the library, without dicts -/
def LW (n : Nat) (d : CM.D) : Prop := ∃ p, (∀ h, toP h n d = some p) ∧ p.canLay0 = true ∧ p.depth ≤ n
theorem LW.alls : ∀ {ds : List CM.D}, (∀ d ∈ ds, LW n d) → ∃ ps, (∀ h, ds.mapM (toP h n) = some ps) ∧ PyData.canLayAll0 ps = true ∧ PyData.depthAll ps ≤ n
  | [], _ => ⟨[], fun _ => rfl, rfl, Nat.zero_le _⟩
  | d :: ds, H => by
    obtain ⟨p, a, b, c⟩ := H d (List.mem_cons_self ..)
    obtain ⟨ps, e, f, g⟩ := LW.alls (ds := ds) fun q hq => H q (List.mem_cons_of_mem _ hq)
    refine ⟨p :: ps, fun h => ?_, ?_, ?_⟩
    · simp only [List.mapM_cons, a h, e h]
      rfl
    · simp only [PyData.canLayAll0, b, f, Bool.and_self]
    · simp only [PyData.depthAll]
      omega
theorem LW.tup {ds : List CM.D} (H : ∀ d ∈ ds, LW n d) : LW (n + 1) (.tup ds) := by
  obtain ⟨ps, e, b, c⟩ := LW.alls H
  exact ⟨.tuple ps, fun h => by show (ds.mapM (toP h n)).map PyData.tuple = _; rw [e h]; rfl, b, Nat.succ_le_succ c⟩
/-- a text of small signs -/
structure Sg (x : Str) : Prop where
  c : ∀ c ∈ tl x, c < 128
theorem Sg.lw {x : Str} (s : Sg x) : LW (n + 1) (.str x) := ⟨.str x, fun _ => rfl, by
  show x.cps.all (· < 0x110000) = true
  rw [← Array.all_toList, List.all_eq_true]
  exact fun c hc => decide_eq_true (Nat.lt_trans (s.c c hc) (by decide)), Nat.zero_le _⟩
theorem Sg.part (k : (kindB p || numB p) = true) : Sg (strD p) := by
  rw [Bool.or_eq_true] at k
  rcases k with k | k
  · rcases kindB_is k with rfl | rfl
    · exact ⟨by decide +kernel⟩
    · exact ⟨by decide +kernel⟩
  · obtain ⟨n, rfl, _⟩ := numB_is k
    refine ⟨fun c hc => ?_⟩
    have hc' : c ∈ tl (numS n) := hc
    rw [tl_numS] at hc'
    have := TL.numL_digits n c hc'
    omega
theorem Sg.word (k : szW w ≠ 0) : Sg w := by
  rcases szW_is k with rfl | rfl | rfl | rfl | rfl | rfl <;> exact ⟨by decide +kernel⟩
theorem LW.part (k : (kindB p || numB p) = true) : LW (n + 1) p := by
  have k0 := k
  rw [Bool.or_eq_true] at k
  rcases k with k | k
  · have := (Sg.part k0).lw (n := n)
    rcases kindB_is k with rfl | rfl <;> exact this
  · obtain ⟨m, rfl, _⟩ := numB_is k
    exact ⟨.int m, fun _ => rfl, rfl, Nat.zero_le _⟩
theorem Td.lw (T : Td d w r) : LW (n + 2) d := by
  rw [T.e]
  refine LW.tup fun x hx => ?_
  rcases List.mem_cons.mp hx with rfl | hx
  · exact (Sg.word (by have := T.sz; omega)).lw
  · exact LW.part (T.ps x hx)
theorem sw_all {ds : List CM.D} (H : ∀ d ∈ ds, isTD d = true) : ∀ d ∈ ds, SW (n + 2) 200 d := fun d hd => by
  obtain ⟨w, r, T⟩ := Td.of (H d hd)
  exact T.sw
end
end W_whilemerged_k78_texts_of_histories_spoil
namespace W_whilemerged_k78_texts_of_histories_spoil
open PySem PySem.Spec PyProof.Rows L2 CM
open TL (tl joinL numL spl pre)
section
variable {c : Nat}
theorem pre1 {d : Nat} {r : List Nat} : pre [c] (d :: r) = (c == d) := by
  have e : pre [c] (d :: r) = (d == c) := by simp [pre, List.isPrefixOf]
  rw [e, Bool.eq_iff_iff, beq_iff_eq, beq_iff_eq]
  exact eq_comm
theorem spl_ne : ∀ (l acc : List Nat), spl [c] 0 acc l ≠ []
  | [], acc => by rw [TL.spl_nil]; simp
  | d :: r, acc => by
    by_cases e : pre [c] (d :: r) = true
    · rw [TL.spl_hit e]; simp
    · rw [TL.spl_miss (by simpa using e)]
      exact spl_ne r _
theorem spl_back : ∀ (l acc : List Nat), joinL [c] (spl [c] 0 acc l) = acc ++ l
  | [], acc => by rw [TL.spl_nil]; simp [joinL]
  | d :: r, acc => by
    by_cases e : pre [c] (d :: r) = true
    · rw [TL.spl_hit e]
      have ih := spl_back r []
      have ne := spl_ne (c := c) r []
      have ed : c = d := by rw [pre1] at e; simpa using e
      subst ed
      show joinL [c] (acc :: spl [c] 0 [] r) = acc ++ (c :: r)
      cases q : spl [c] 0 [] r with
      | nil => exact absurd q ne
      | cons x l =>
        rw [q] at ih
        show acc ++ ([c] ++ joinL [c] (x :: l)) = _
        rw [ih]
        rfl
    · rw [TL.spl_miss (by simpa using e), spl_back r _]
      simp
theorem joinL_sum (S : List Nat) : ∀ ps : List (List Nat), ps ≠ [] → (joinL S ps).length = (ps.map List.length).sum + (ps.length - 1) * S.length
  | [], h => absurd rfl h
  | [p], _ => by simp [joinL]
  | p :: q :: l, _ => by
    have ih := joinL_sum S (q :: l) (by simp)
    show (p ++ (S ++ joinL S (q :: l))).length = _
    rw [List.length_append, List.length_append, ih]
    simp only [List.map_cons, List.sum_cons, List.length_cons, Nat.add_sub_cancel]
    rw [Nat.add_mul]
    omega
end
section
variable {x sep : Str} {c : Nat}
theorem split_tl (e : tl sep = [c]) (k : sep.cps.all (· < 256) = true) : (Txt.split x sep).map tl = spl [c] 0 [] (tl x) := by
  have := TL.split_spl x sep (by rw [e]; simp) (TL.kind_ok k)
  rw [e] at this
  exact this
theorem split_ne (e : tl sep = [c]) (k : sep.cps.all (· < 256) = true) : Txt.split x sep ≠ [] := fun q => by
  have := split_tl (x := x) e k
  rw [q] at this
  exact spl_ne _ _ this.symm
theorem split_back (e : tl sep = [c]) (k : sep.cps.all (· < 256) = true) : Txt.join sep (Txt.split x sep) = x := by
  refine TL.ext_tl ?_
  rw [TL.join_eq, TL.tl_join, split_tl e k, e, spl_back]
  rfl
theorem len_map (l : List Str) : (l.map (·.length)) = (l.map tl).map List.length := by
  rw [List.map_map]
  exact List.map_congr_left fun y _ => TL.len_tl y
/-- how long the pieces are -/
theorem split_sum (e : tl sep = [c]) (k : sep.cps.all (· < 256) = true) : ((Txt.split x sep).map (·.length)).sum + ((Txt.split x sep).length - 1) = x.length := by
  have b := split_back (x := x) e k
  have ne := split_ne (x := x) e k
  have : (tl (Txt.join sep (Txt.split x sep))).length = (tl x).length := by rw [b]
  rw [TL.join_eq, TL.tl_join, e, joinL_sum _ _ (by simpa using ne)] at this
  rw [len_map, TL.len_tl, ← this]
  simp
theorem split_cnt (e : tl sep = [c]) (k : sep.cps.all (· < 256) = true) : (Txt.split x sep).length ≤ x.length + 1 := by
  have := split_sum (x := x) e k
  omega
theorem mem_sum {l : List Str} {y : Str} (h : y ∈ l) : y.length ≤ (l.map (·.length)).sum := by
  induction l with
  | nil => cases h
  | cons a l ih =>
    rw [List.map_cons, List.sum_cons]
    rcases List.mem_cons.mp h with rfl | h
    · omega
    · have := ih h
      omega
theorem split_len (e : tl sep = [c]) (k : sep.cps.all (· < 256) = true) {y : Str} (h : y ∈ Txt.split x sep) : y.length ≤ x.length := by
  have a := split_sum (x := x) e k
  have b := mem_sum h
  omega
theorem nl_k : ("\n" : Str).cps.all (· < 256) = true := by decide +kernel
theorem sp_k : (" " : Str).cps.all (· < 256) = true := by decide +kernel
end
def digB (x : Str) : Bool := (tl x).all fun c => decide (48 ≤ c) && decide (c ≤ 57)
/-- the number that a word shows, as it must be written -/
def numW (x : Str) : Option Nat := if (tl x ≠ [] ∧ (tl x).length ≤ 10) ∧ digB x = true ∧ (tl x = [48] ∨ (tl x).head? ≠ some 48) then some (NumText.digitsVal (tl x)) else none
section
variable {x : Str}
theorem dig_all (h : digB x = true) : NumText.AllDigits (tl x) := fun c hc => by
  have := List.all_eq_true.mp h c hc
  rw [Bool.and_eq_true, decide_eq_true_eq, decide_eq_true_eq] at this
  exact this
theorem int_dig (h : digB x = true) (ne : tl x ≠ []) (l : (tl x).length ≤ 10) : intText? x = some ((NumText.digitsVal (tl x) : Nat) : Int) :=
  intText_digits (x := x) (dig_all h) ne (by rw [TL.len_tl]; omega)
theorem canon_tl (h : digB x = true) (ne : tl x ≠ []) (cn : tl x = [48] ∨ (tl x).head? ≠ some 48) : numL (NumText.digitsVal (tl x)) = tl x := by
  have d := dig_all h
  cases e : tl x with
  | nil => exact absurd e ne
  | cons c r =>
    rw [e] at d cn
    have hc := d c (List.mem_cons_self ..)
    have t := NumText.toDigits_digitsVal r.length (c :: r) rfl d (by
      rcases cn with z | z
      · left
        cases z
        rfl
      · right
        refine ⟨c, r, rfl, ?_⟩
        have : c ≠ 48 := fun q => z (by rw [q]; rfl)
        omega)
    unfold numL
    rw [t, List.map_map]
    have : ∀ l : List Nat, (∀ c ∈ l, c ≤ 57) → l.map (Char.toNat ∘ Char.ofNat) = l := fun l => by
      induction l with
      | nil => intro _; rfl
      | cons a l ih =>
        intro H
        rw [List.map_cons, ih fun y hy => H y (List.mem_cons_of_mem _ hy)]
        have ha := H a (List.mem_cons_self ..)
        have : (Char.toNat ∘ Char.ofNat) a = a := by
          show (Char.ofNat a).toNat = a
          have v : Nat.isValidChar a := Or.inl (by omega)
          unfold Char.ofNat
          rw [dif_pos v]
          rfl
        rw [this]
    exact this _ fun y hy => (d y hy).2
theorem numS_val (h : digB x = true) (ne : tl x ≠ []) : numS (NumText.digitsVal (tl x)) = x ↔ (tl x = [48] ∨ (tl x).head? ≠ some 48) := by
  constructor
  · intro e
    by_cases z : (tl x).head? = some 48
    · left
      have e2 : tl (numS (NumText.digitsVal (tl x))) = tl x := by rw [e]
      rw [tl_numS] at e2
      generalize NumText.digitsVal (tl x) = n at e2
      by_cases n9 : n < 10
      · rw [TL.numL_lt n9] at e2
        rw [← e2] at z
        have : 48 + n = 48 := by simpa using z
        rw [← e2, this]
      · exfalso
        have head : ∀ m : Nat, 0 < m → (numL m).head? ≠ some 48 := fun m => by
          induction m using Nat.strongRecOn with
          | _ m ih =>
            intro m0
            by_cases m9 : m < 10
            · rw [TL.numL_lt m9]
              intro q
              have : 48 + m = 48 := by simpa using q
              omega
            · rw [TL.numL_step (by omega)]
              have := ih (m / 10) (by omega) (by omega)
              cases q : numL (m / 10) with
              | nil => exact absurd q (TL.numL_ne _)
              | cons a l =>
                rw [q] at this
                exact this
        exact head n (by omega) (by rw [e2]; exact z)
    · exact .inr z
  · intro cn
    refine TL.ext_tl ?_
    rw [tl_numS]
    exact canon_tl h ne cn
end
end W_whilemerged_k78_texts_of_histories_spoil
namespace W_whilemerged_k78_texts_of_histories_spoil
open PySem PySem.Spec PyProof.Rows L2 CM
open TL (tl joinL numL)
/-- a word, as the law reads it; as the program reads it -/
def partL (x : Str) : CM.D := if kindB (.str x) = true then .str x else match numW x with
  | some n => .int n
  | none => .non
def partP (x : Str) : CM.D := if kindB (.str x) = true then .str x else match numW x with
  | some n => if n ≤ 1000000000 then .int n else .non
  | none => .non
section
variable {h : CH} {x : Str} {n : Nat}
theorem dig_mem : ∀ c : Nat, decide (c ∈ (Str.ofString "0123456789").cps.toList) = (decide (48 ≤ c) && decide (c ≤ 57)) := fun c => by
  have e : (Str.ofString "0123456789").cps.toList = [48, 49, 50, 51, 52, 53, 54, 55, 56, 57] := by decide +kernel
  rw [e]
  by_cases a : 48 ≤ c ∧ c ≤ 57
  · rw [decide_eq_true a.1, decide_eq_true a.2]
    refine decide_eq_true ?_
    simp only [List.mem_cons, List.not_mem_nil, or_false]
    omega
  · have b : (decide (48 ≤ c) && decide (c ≤ 57)) = false := by
      rw [Bool.and_eq_false_iff, decide_eq_false_iff_not, decide_eq_false_iff_not]
      omega
    rw [b]
    refine decide_eq_false ?_
    simp only [List.mem_cons, List.not_mem_nil, or_false]
    omega
theorem signsI {ρ : DE} (hρ : 1 < ρ.length) : ∀ l : List Nat, dLcL (gdName 1) (dYes) (dOp fInC (dVar 1) (dC (.str "0123456789"))) ρ (l.map fun c => CM.D.str ⟨#[c]⟩) h = .ok ((l.map fun c => decide (48 ≤ c) && decide (c ≤ 57)).map CM.D.bl) h
  | [] => rfl
  | c :: l => by
    have ih := signsI hρ l
    show ((gdName 1) (CM.D.str ⟨#[c]⟩) ρ h).calm _ = _
    rw [g_name, calm_ok]
    have e : (dOp fInC (dVar 1) (dC (.str "0123456789"))) (ρ.set 1 (some (CM.D.str ⟨#[c]⟩))) h = .ok (.bl (decide (48 ≤ c) && decide (c ≤ 57))) h := by
      have g : dVar 1 (ρ.set 1 (some (CM.D.str ⟨#[c]⟩))) h = .ok (CM.D.str ⟨#[c]⟩) h := by
        rw [e_var, List.getElem?_set_self hρ]
      rw [e_op, g, bind_ok, e_C, bind_ok]
      show CM.R.ok (CM.D.bl (decide (c ∈ (Str.ofString "0123456789").cps.toList))) h = _
      rw [dig_mem]
    rw [show dYes (ρ.set 1 (some (CM.D.str ⟨#[c]⟩))) h = .ok true h from rfl, calm_ok, if_pos rfl, e, calm_ok, ih]
    rfl
theorem signsN {ρ : DE} (hρ : 1 < ρ.length) : ∀ l : List Nat, ∃ r, dLcL (gdName 1) (dB (dOp fNInC (dVar 1) (dC (.str "0123456789")))) (dVar 1) ρ (l.map fun c => CM.D.str ⟨#[c]⟩) h = .ok r h ∧ r.isEmpty = l.all fun c => decide (48 ≤ c) && decide (c ≤ 57)
  | [] => ⟨[], rfl, rfl⟩
  | c :: l => by
    obtain ⟨r, ih, ie⟩ := signsN hρ l
    have g : dVar 1 (ρ.set 1 (some (CM.D.str ⟨#[c]⟩))) h = .ok (CM.D.str ⟨#[c]⟩) h := by
      rw [e_var, List.getElem?_set_self hρ]
    have e : (dB (dOp fNInC (dVar 1) (dC (.str "0123456789")))) (ρ.set 1 (some (CM.D.str ⟨#[c]⟩))) h = .ok (!(decide (48 ≤ c) && decide (c ≤ 57))) h := by
      rw [e_B, e_op, g, bind_ok, e_C, bind_ok]
      show (CM.R.ok (CM.D.bl (!decide (c ∈ (Str.ofString "0123456789").cps.toList))) h).bind asB = _
      rw [dig_mem]
      rfl
    have st : dLcL (gdName 1) (dB (dOp fNInC (dVar 1) (dC (.str "0123456789")))) (dVar 1) ρ ((c :: l).map fun c => CM.D.str ⟨#[c]⟩) h = .ok (if (decide (48 ≤ c) && decide (c ≤ 57)) = true then r else CM.D.str ⟨#[c]⟩ :: r) h := by
      show ((gdName 1) (CM.D.str ⟨#[c]⟩) ρ h).calm _ = _
      rw [g_name, calm_ok, e, calm_ok]
      cases q : (decide (48 ≤ c) && decide (c ≤ 57)) with
      | true =>
        rw [if_neg (by simp), if_pos rfl]
        exact ih
      | false =>
        rw [if_pos (by simp), g, calm_ok, if_neg (by simp)]
        show (dLcL _ _ _ ρ (l.map fun c => CM.D.str ⟨#[c]⟩) h).bind _ = _
        rw [ih]
        rfl
    refine ⟨_, st, ?_⟩
    rw [List.all_cons, ← ie]
    cases q : (decide (48 ≤ c) && decide (c ≤ 57)) with
    | true => rw [if_pos rfl]; rfl
    | false => rw [if_neg (by simp)]; rfl
theorem str_em {x : Str} : (x == Str.ofString "") = (tl x).isEmpty := by
  cases e : tl x with
  | nil =>
    have : x = Str.ofString "" := TL.ext_tl (by rw [e]; decide +kernel)
    rw [this]
    simp
  | cons a l =>
    rw [beq_eq_false_iff_ne.mpr fun q => by
      have z : tl (Str.ofString "") = [] := by decide +kernel
      rw [q, z] at e
      cases e]
    rfl
/-- the program's reading of a word -/
theorem part_of_ok (lx : x.length ≤ 100000) : F_part_of [.str x] h = .ok (partP x) h := by
  show (u_part_of [some (.str x), none] h).res = _
  have ik := is_kind_ok (h := h) (d := .str x) trivial
  have z5 : (100000 : Nat) ≤ sizeLine := by decide
  have ln : fLen [.str x] h = .ok (.int x.length) h := if_pos (by omega)
  unfold u_part_of partP
  rw [s_seq, s_if, show dB (dCall 1 F_is_kind (dCons (dVar 0) (dNil))) [some (.str x), none] h = .ok (kindB (.str x)) h by simp [ik], toS_ok]
  cases kb : kindB (.str x) with
  | true =>
    rw [if_pos rfl, if_pos rfl]
    simp
  | false =>
    rw [if_neg (by simp), if_neg (by simp), s_next, sbind_nx, s_seq, s_if]
    have tE : (dB (dOp (fEq false) (dVar 0) (dC (.str "")))) [some (.str x), none] h = .ok (tl x).isEmpty h := by
      simp only [e_B, e_op, e_var, List.getElem?_cons_zero, bind_ok, e_C, eq_ss, b_f, asB_bl, str_em]
    have tL : (dB (dOp (fB fun i j => decide (i > j)) (dCB fLen (dCons (dVar 0) (dNil))) (dC (.int 10)))) [some (.str x), none] h = .ok (decide ((tl x).length > 10)) h := by
      have : decide (((x.length : Nat) : Int) > 10) = decide ((tl x).length > 10) := by
        rw [← TL.len_tl]
        by_cases q : x.length > 10
        · rw [decide_eq_true q]; exact decide_eq_true (by omega)
        · rw [decide_eq_false q]; exact decide_eq_false (by omega)
      simp only [e_B, e_op, e_var, e_C, e_CB, e_cons, e_nil, List.getElem?_cons_zero, bind_ok, ln, e_fB, asB_bl, this]
    rw [e_or, tE, bind_ok]
    by_cases c1 : tl x = []
    · rw [c1]
      have nw : numW x = none := by unfold numW; rw [if_neg (fun q => q.1.1 c1)]
      rw [nw]
      simp
    · have c1' : (tl x).isEmpty = false := by cases e : tl x with
        | nil => exact absurd e c1
        | cons a l => rfl
      rw [c1', if_neg (by simp), e_or, tL, bind_ok]
      by_cases c2 : (tl x).length > 10
      · have nw : numW x = none := by unfold numW; rw [if_neg (fun q => by have := q.1.2; omega)]
        rw [decide_eq_true c2, if_pos rfl, nw]
        simp
      · have it : dStrI (dVar 0) [some (.str x), none] h = .ok ((tl x).map fun c => CM.D.str ⟨#[c]⟩, none) h := rfl
        have lc : dLc false (dStrI (dVar 0)) (gdName 1) (dYes) (dOp fInC (dVar 1) (dC (.str "0123456789"))) [1] [some (.str x), none] h = .ok (.lst (((tl x).map fun c => decide (48 ≤ c) && decide (c ≤ 57)).map CM.D.bl)) h := by
          unfold dLc
          rw [it, bind_ok]
          simp only [if_pos (show ((tl x).map fun c => CM.D.str ⟨#[c]⟩).length ≤ sizeLine by rw [List.length_map]; exact sz60 (by omega))]
          rw [signsI (by simp [wipeD])]
          rfl
        have tA : (dNot (dB (dCB (fAllB false) (dCons (dLc false (dStrI (dVar 0)) (gdName 1) (dYes) (dOp fInC (dVar 1) (dC (.str "0123456789"))) [1]) (dNil))))) [some (.str x), none] h = .ok (!digB x) h := by
          rw [e_not, e_B, e_CB, e_cons, lc, bind_ok, e_nil, bind_ok, bind_ok, all_bls, List.all_map]
          rfl
        rw [decide_eq_false c2, if_neg (by simp), tA, toS_ok]
        cases dg : digB x with
        | false =>
          have nw : numW x = none := by unfold numW; rw [if_neg (fun q => by rw [dg] at q; exact Bool.false_ne_true q.2.1)]
          rw [nw]
          simp
        | true =>
          have id := int_dig dg c1 (by omega)
          have nl : NumText.digitsVal (tl x) < 10 ^ 10 := by
            have aux : ∀ (l : List Nat) (a : Nat), NumText.AllDigits l → l.foldl (fun acc c => acc * 10 + (c - 48)) a < (a + 1) * 10 ^ l.length := fun l => by
              induction l with
              | nil => intro a _; simp
              | cons c l ih =>
                intro a H
                have hc := H c (List.mem_cons_self ..)
                have := ih (a * 10 + (c - 48)) fun y hy => H y (List.mem_cons_of_mem _ hy)
                rw [List.foldl_cons, List.length_cons, Nat.pow_succ]
                refine Nat.lt_of_lt_of_le this ?_
                have e1 : a * 10 + (c - 48) + 1 ≤ (a + 1) * 10 := by omega
                calc (a * 10 + (c - 48) + 1) * 10 ^ l.length ≤ ((a + 1) * 10) * 10 ^ l.length := Nat.mul_le_mul_right _ e1
                  _ = (a + 1) * (10 ^ l.length * 10) := by rw [Nat.mul_assoc, Nat.mul_comm 10]
            have a0 := aux (tl x) 0 (dig_all dg)
            have a1 : (10 : Nat) ^ (tl x).length ≤ 10 ^ 10 := Nat.pow_le_pow_right (by omega) (by omega)
            have a2 : NumText.digitsVal (tl x) = (tl x).foldl (fun acc c => acc * 10 + (c - 48)) 0 := rfl
            omega
          have it : fIntT [.str x] h = .ok (.int (NumText.digitsVal (tl x) : Nat)) h := by
            show (match PySem.intText? x with
              | some m => if x.length ≤ 640 then CM.R.ok (CM.D.int m) h else .no
              | none => .no) = _
            rw [id]
            exact if_pos (by rw [TL.len_tl]; omega)
          have stt : fStrT [.int (NumText.digitsVal (tl x) : Nat)] h = .ok (.str (numS (NumText.digitsVal (tl x)))) h := by
            have l : ((NumText.digitsVal (tl x) : Nat) : Int).natAbs.log2 < 1920 := by
              show (NumText.digitsVal (tl x)).log2 < 1920
              by_cases z : NumText.digitsVal (tl x) = 0
              · rw [z]; decide
              · have := (Nat.log2_lt z (k := 40)).mpr (Nat.lt_trans nl (by decide))
                omega
            exact if_pos l
          rw [Bool.not_true, if_neg (by simp), s_next, sbind_nx, s_ret]
          have cv := numS_val dg c1
          by_cases cn : tl x = [48] ∨ (tl x).head? ≠ some 48
          · have nw : numW x = some (NumText.digitsVal (tl x)) := by unfold numW; rw [if_pos ⟨⟨c1, by omega⟩, dg, cn⟩]
            rw [nw]
            have e2 := cv.mpr cn
            by_cases le : NumText.digitsVal (tl x) ≤ 1000000000
            · have le' : decide (((NumText.digitsVal (tl x) : Nat) : Int) ≤ 1000000000) = true := decide_eq_true (by omega)
              simp only [e_if, e_and, e_B, e_op, e_CB, e_cons, e_nil, e_var, List.getElem?_cons_zero, bind_ok, it, stt, e2, eq_ss, asB_bl, b_f, beq_self_eq_true, if_true, e_C, e_fB, le', toS_ok, res_rt, if_pos le]
            · have le' : decide (((NumText.digitsVal (tl x) : Nat) : Int) ≤ 1000000000) = false := decide_eq_false (by omega)
              simp only [e_if, e_and, e_B, e_op, e_CB, e_cons, e_nil, e_var, List.getElem?_cons_zero, bind_ok, it, stt, e2, eq_ss, asB_bl, b_f, beq_self_eq_true, if_true, e_C, e_fB, le', toS_ok, res_rt, if_neg le, if_neg (show ¬ (false = true) by simp)]
          · have nw : numW x = none := by unfold numW; rw [if_neg (fun q => cn q.2.2)]
            have e2 : (numS (NumText.digitsVal (tl x)) == x) = false := beq_eq_false_iff_ne.mpr fun q => cn (cv.mp q)
            rw [nw]
            simp only [e_if, e_and, e_B, e_op, e_CB, e_cons, e_nil, e_var, List.getElem?_cons_zero, bind_ok, it, stt, eq_ss, asB_bl, b_f, e2, if_neg (show ¬ (false = true) by simp), e_C, toS_ok, res_rt]
/-- the law's reading of a word -/
theorem law_part_ok (lx : x.length ≤ 100000) : F__law_part [.str x] h = .ok (partL x) h := by
  show (u__law_part [some (.str x), none] h).res = _
  have z5 : (100000 : Nat) ≤ sizeLine := by decide
  have ln : fLen [.str x] h = .ok (.int x.length) h := if_pos (by omega)
  have tK : (dB (dOp (fIn false) (dVar 0) (dTup (dCons (dC (.str "up")) (dCons (dC (.str "down")) (dNil)))))) [some (.str x), none] h = .ok (kindB (.str x)) h := by
    have e : fIn false (.str x) (.tup [.str (Str.ofString "up"), .str (Str.ofString "down")]) h = .ok (.bl ([Str.ofString "up", Str.ofString "down"].contains x)) h := in_strsT (neg := false) (l := [Str.ofString "up", Str.ofString "down"])
    have k2 : kindB (.str x) = [Str.ofString "up", Str.ofString "down"].contains x := by
      show [Str.ofString "down", Str.ofString "up"].contains x = _
      simp only [List.contains_cons, List.contains_nil, Bool.or_false]
      exact Bool.or_comm _ _
    rw [k2]
    simp [e, show (2 : Nat) ≤ sizeLine from by decide]
  unfold u__law_part partL
  rw [s_seq, s_if, tK, toS_ok]
  cases kb : kindB (.str x) with
  | true =>
    rw [if_pos rfl, if_pos rfl]
    simp
  | false =>
    rw [if_neg (by simp), if_neg (by simp), s_next, sbind_nx, s_seq, s_if]
    have tE : (dB (dOp (fEq false) (dVar 0) (dC (.str "")))) [some (.str x), none] h = .ok (tl x).isEmpty h := by
      simp only [e_B, e_op, e_var, List.getElem?_cons_zero, bind_ok, e_C, eq_ss, b_f, asB_bl, str_em]
    rw [e_or, tE, bind_ok]
    by_cases c1 : tl x = []
    · rw [c1]
      have nw : numW x = none := by unfold numW; rw [if_neg (fun q => q.1.1 c1)]
      rw [nw]
      simp
    · have c1' : (tl x).isEmpty = false := by cases e : tl x with
        | nil => exact absurd e c1
        | cons a l => rfl
      rw [c1', if_neg (by simp)]
      have it : dStrI (dVar 0) [some (.str x), none] h = .ok ((tl x).map fun c => CM.D.str ⟨#[c]⟩, none) h := rfl
      obtain ⟨r, er, ie⟩ := signsN (h := h) (ρ := wipeD [some (.str x), none] [1]) (by simp [wipeD]) (tl x)
      have lc : dLc false (dStrI (dVar 0)) (gdName 1) (dB (dOp fNInC (dVar 1) (dC (.str "0123456789")))) (dVar 1) [1] [some (.str x), none] h = .ok (.lst r) h := by
        unfold dLc
        rw [it, bind_ok]
        simp only [if_pos (show ((tl x).map fun c => CM.D.str ⟨#[c]⟩).length ≤ sizeLine by rw [List.length_map, ← TL.len_tl]; omega)]
        rw [er]
        rfl
      have tA : (dB (dOp (fEqL true) (dLc false (dStrI (dVar 0)) (gdName 1) (dB (dOp fNInC (dVar 1) (dC (.str "0123456789")))) (dVar 1) [1]) (dLst false (dNil)))) [some (.str x), none] h = .ok (!digB x) h := by
        have l0 : dLst false (dNil) [some (.str x), none] h = .ok (.lst []) h := rfl
        rw [e_B, e_op, lc, bind_ok, l0, bind_ok]
        show (CM.R.ok (CM.D.bl (bneg true r.isEmpty)) h).bind asB = _
        rw [ie]
        rfl
      rw [tA, toS_ok]
      cases dg : digB x with
      | false =>
        have nw : numW x = none := by unfold numW; rw [if_neg (fun q => by rw [dg] at q; exact Bool.false_ne_true q.2.1)]
        rw [nw]
        simp
      | true =>
        rw [Bool.not_true, if_neg (by simp), s_next, sbind_nx, s_ret]
        have tL : (dB (dOp (fB fun i j => decide (i < j)) (dCB fLen (dCons (dVar 0) (dNil))) (dC (.int 11)))) [some (.str x), none] h = .ok (decide ((tl x).length ≤ 10)) h := by
          have : decide (((x.length : Nat) : Int) < 11) = decide ((tl x).length ≤ 10) := by
            rw [← TL.len_tl]
            by_cases q : x.length ≤ 10
            · rw [decide_eq_true q]; exact decide_eq_true (by omega)
            · rw [decide_eq_false q]; exact decide_eq_false (by omega)
          simp only [e_B, e_op, e_var, e_C, e_CB, e_cons, e_nil, List.getElem?_cons_zero, bind_ok, ln, e_fB, asB_bl, this]
        rw [e_if, e_and, tL, bind_ok]
        by_cases c2 : (tl x).length ≤ 10
        · have it : fIntT [.str x] h = .ok (.int (NumText.digitsVal (tl x) : Nat)) h := by
            show (match PySem.intText? x with
              | some m => if x.length ≤ 640 then CM.R.ok (CM.D.int m) h else .no
              | none => .no) = _
            rw [int_dig dg c1 c2]
            exact if_pos (by rw [TL.len_tl]; omega)
          have tZ : (dOr (dB (dOp (fEq false) (dVar 0) (dC (.str "0")))) (dB (dOp (fEq true) (dOp fIx (dVar 0) (dC (.int 0))) (dC (.str "0"))))) [some (.str x), none] h = .ok (decide (tl x = [48] ∨ (tl x).head? ≠ some 48)) h := by
            have e0 : (x == Str.ofString "0") = decide (tl x = [48]) := by
              have z : tl (Str.ofString "0") = [48] := by decide +kernel
              by_cases q : tl x = [48]
              · have : x = Str.ofString "0" := TL.ext_tl (by rw [q, z])
                rw [decide_eq_true q, this]
                simp
              · rw [decide_eq_false q]
                exact beq_eq_false_iff_ne.mpr fun k => q (by rw [k, z])
            rw [e_or]
            simp only [e_B, e_op, e_var, List.getElem?_cons_zero, bind_ok, e_C, eq_ss, b_f, asB_bl, e0]
            by_cases q : tl x = [48]
            · rw [decide_eq_true q, if_pos rfl, decide_eq_true (Or.inl q)]
            · rw [decide_eq_false q, if_neg (by simp)]
              cases e : tl x with
              | nil => exact absurd e c1
              | cons a l =>
                have ix : fIx (.str x) (.int 0) h = .ok (.str ⟨#[a]⟩) h := by
                  show (if x.length ≤ sizeLine then (match atI (tl x) 0 with
                    | some c => CM.R.ok (CM.D.str ⟨#[c]⟩) h
                    | none => .no) else .no) = _
                  rw [if_pos (by omega), e, show atI (a :: l) 0 = some a by simp [atI, ixN]]
                rw [ix, bind_ok, eq_ss, bind_ok, asB_bl, b_t]
                have e1 : ((⟨#[a]⟩ : Str) == Str.ofString "0") = decide (a = 48) := by
                  have z : Str.ofString "0" = ⟨#[48]⟩ := by decide +kernel
                  rw [z]
                  by_cases k : a = 48
                  · rw [decide_eq_true k, k]; simp
                  · rw [decide_eq_false k]
                    refine beq_eq_false_iff_ne.mpr fun w => k ?_
                    have := congrArg (fun s : Str => s.cps.toList) w
                    simpa using this
                rw [e1]
                rw [e] at q
                by_cases k : a = 48
                · rw [decide_eq_true k, decide_eq_false]
                  · rfl
                  · rintro (y | y)
                    · exact q y
                    · exact y (by rw [k]; rfl)
                · rw [decide_eq_false k, decide_eq_true]
                  · rfl
                  · right
                    intro y
                    exact k (by simpa using y)
          rw [decide_eq_true c2, if_pos rfl, tZ, bind_ok]
          by_cases cn : tl x = [48] ∨ (tl x).head? ≠ some 48
          · have nw : numW x = some (NumText.digitsVal (tl x)) := by unfold numW; rw [if_pos ⟨⟨c1, c2⟩, dg, cn⟩]
            rw [decide_eq_true cn, if_pos rfl, nw]
            simp only [e_CB, e_cons, e_nil, e_var, List.getElem?_cons_zero, bind_ok, it, toS_ok, res_rt]
          · have nw : numW x = none := by unfold numW; rw [if_neg (fun q => cn q.2.2)]
            rw [decide_eq_false cn, if_neg (by simp), nw]
            rfl
        · have nw : numW x = none := by unfold numW; rw [if_neg (fun q => c2 q.1.2)]
          rw [decide_eq_false c2, if_neg (by simp), bind_ok, if_neg (by simp), nw]
          rfl
/-- what a good part was written as -/
theorem part_good (k : (kindB (partL x) || numB (partL x)) = true) : partP x = partL x ∧ strD (partL x) = x := by
  unfold partL at k ⊢
  unfold partP
  cases kb : kindB (.str x) with
  | true => rw [if_pos rfl, if_pos rfl]; exact ⟨rfl, rfl⟩
  | false =>
    rw [kb, if_neg (by simp)] at k
    rw [if_neg (by simp), if_neg (by simp)]
    cases e : numW x with
    | none => rw [e] at k; cases k
    | some n =>
      rw [e] at k
      have nb : n ≤ 1000000000 := by
        have : (kindB (.int (n : Int)) || (decide (0 ≤ (n : Int)) && decide ((n : Int) ≤ 1000000000))) = true := k
        rw [show kindB (.int (n : Int)) = false from rfl, Bool.false_or, Bool.and_eq_true, decide_eq_true_eq, decide_eq_true_eq] at this
        omega
      have d : numS n = x := by
        unfold numW at e
        split at e
        · rename_i c
          cases e
          exact (numS_val c.2.1 c.1.1).mpr c.2.2
        · cases e
      show (if n ≤ 1000000000 then CM.D.int n else .non) = .int n ∧ numS n = x
      exact ⟨if_pos nb, d⟩
theorem partP_non (k : (kindB (partL x) || numB (partL x)) = false) : partP x = .non := by
  unfold partL at k
  unfold partP
  cases kb : kindB (.str x) with
  | true => rw [kb, if_pos rfl, kb] at k; cases k
  | false =>
    rw [kb, if_neg (by simp)] at k
    rw [if_neg (by simp)]
    cases e : numW x with
    | none => rfl
    | some n =>
      rw [e] at k
      refine if_neg fun nb => ?_
      have : (kindB (.int (n : Int)) || (decide (0 ≤ (n : Int)) && decide ((n : Int) ≤ 1000000000))) = false := k
      rw [show kindB (.int (n : Int)) = false from rfl, Bool.false_or, decide_eq_true (by omega), decide_eq_true (by omega)] at this
      cases this
theorem partL_pv : Pv (partL x) := by
  unfold partL
  split
  · trivial
  · split <;> trivial
end
end W_whilemerged_k78_texts_of_histories_spoil
namespace W_whilemerged_k78_texts_of_histories_spoil
open PySem PySem.Spec PyProof.Rows L2 CM
open TL (tl joinL numL)
def dL (w0 : Str) (ws : List Str) : CM.D := .tup (.str w0 :: ws.map partL)
def dP (w0 : Str) (ws : List Str) : CM.D := .tup (.str w0 :: ws.map partP)
def lineR (w0 : Str) (ws : List Str) : CM.D := if isTD (dL w0 ws) = true then dL w0 ws else .non
section
variable {h : CH} {x line w0 : Str} {ws : List Str} {n : Nat}
theorem goods (k : (ws.map partL).all (fun p => kindB p || numB p) = true) : ws.map partP = ws.map partL ∧ (ws.map partL).map strD = ws := by
  rw [List.all_map, List.all_eq_true] at k
  refine ⟨List.map_congr_left fun y hy => (part_good (k y hy)).1, ?_⟩
  rw [List.map_map]
  have : ws.map (strD ∘ partL) = ws.map id := List.map_congr_left fun y hy => (part_good (k y hy)).2
  rw [this, List.map_id]
theorem dL_td : isTD (dL w0 ws) = ((szW w0 == ((ws.length : Nat) : Int) + 1) && (((ws.map partL).all fun p => kindB p || numB p) && krB w0 0 (ws.map partL))) := by
  show ((szW w0 == (((ws.map partL).length : Nat) : Int) + 1) && _) = _
  rw [List.length_map]
theorem pq_of {l : List CM.D} (H : ∀ x ∈ l, Pv x) : Pq (.tup l) := ⟨trivial, fun l2 e x hx => by cases e; exact H x hx⟩
theorem split_sp {line : Str} (l : line.length ≤ 100000) (nm : Bool) : fSplit nm (.str line) [.str (Str.ofString " ")] h = mkL nm ((Txt.split line " ").map CM.D.str) h := by
  have z5 : (100002 : Nat) ≤ sizeLine := by decide
  show (if ((Str.ofString " ").length == 0) = false ∧ line.length + 2 ≤ sizeLine then mkL nm ((Txt.split line " ").map CM.D.str) h else .no) = _
  exact if_pos ⟨by decide +kernel, by omega⟩
theorem split_nl {line : Str} (l : line.length ≤ 100000) (nm : Bool) : fSplit nm (.str line) [.str (Str.ofString "\n")] h = mkL nm ((Txt.split line "\n").map CM.D.str) h := by
  have z5 : (100002 : Nat) ≤ sizeLine := by decide
  show (if ((Str.ofString "\n").length == 0) = false ∧ line.length + 2 ≤ sizeLine then mkL nm ((Txt.split line "\n").map CM.D.str) h else .no) = _
  exact if_pos ⟨by decide +kernel, by omega⟩
theorem rest_sl {nm : Bool} : dSl false (dVar 1) (dPart (dC (.int 1))) (dNoPart) [some (.str line), some (.lst ((w0 :: ws).map CM.D.str)), none, none] h = .ok (.lst (ws.map CM.D.str)) h := by
  show CM.R.ok (CM.D.lst (CM.cutD ((w0 :: ws).map CM.D.str) (some 1) none)) h = _
  rw [cut_hi (by decide) (by simp; omega)]
  rfl
theorem read_line_ok (l : line.length ≤ 100000) (e : Txt.split line " " = w0 :: ws) : ∃ h1, F__law_read_line [.str line] h = .ok (lineR w0 ws) h1 ∧ Fr [] h h1 := by
  have z5 : (200000 : Nat) ≤ sizeLine := by decide
  have lw : ws.length ≤ 100000 := by
    have := split_cnt (x := line) tl_sp sp_k
    rw [e] at this
    simp only [List.length_cons] at this
    omega
  have lx : ∀ y ∈ ws, y.length ≤ 100000 := fun y hy => Nat.le_trans (split_len (x := line) tl_sp sp_k (by rw [e]; exact List.mem_cons_of_mem _ hy)) l
  obtain ⟨h1, e1, f1⟩ := is_td_ok (h := h) (d := dL w0 ws) (pq_of fun x hx => by
    rcases List.mem_cons.mp hx with rfl | hx
    · trivial
    · obtain ⟨y, _, rfl⟩ := List.mem_map.mp hx
      exact partL_pv)
  refine ⟨h1, ?_, f1⟩
  show (u__law_read_line [some (.str line), none, none, none] h).res = _
  have m1 : dM1 (fSplit false) (dVar 0) (dC (.str " ")) [some (.str line), none, none, none] h = .ok (.lst ((w0 :: ws).map CM.D.str)) h := by
    rw [e_m1]
    simp only [e_var, List.getElem?_cons_zero, bind_ok, e_C]
    rw [split_sp l, e]
    rfl
  have sl := rest_sl (h := h) (line := line) (w0 := w0) (ws := ws) (nm := false)
  have s0 : dSl false (dVar 1) (dNoPart) (dPart (dC (.int 1))) [some (.str line), some (.lst ((w0 :: ws).map CM.D.str)), none, none] h = .ok (.lst [.str w0]) h := by
    show CM.R.ok (CM.D.lst (CM.cutD ((w0 :: ws).map CM.D.str) none (some 1))) h = _
    rw [cut_lo (by decide) (by simp; omega)]
    rfl
  have lc : dLc false (dSeqI (dSl false (dVar 1) (dPart (dC (.int 1))) (dNoPart))) (gdName 3) (dYes) (dCall 1 F__law_part (dCons (dVar 3) (dNil))) [3] [some (.str line), some (.lst ((w0 :: ws).map CM.D.str)), none, none] h = .ok (.lst (ws.map partL)) h := by
    rw [lc_seq (enc := CM.D.str) (xs := ws) (fun _ => true) partL sl (by omega) fun x hx => ⟨_, rfl, rfl, fun _ => by simp [wipeD, law_part_ok (h := h) (lx x hx)]⟩]
    rw [List.filter_eq_self.mpr fun _ _ => rfl]
  have ad : fAdd false (.lst [.str w0]) (.lst (ws.map partL)) h = .ok (.lst (.str w0 :: ws.map partL)) h := by
    show (if [CM.D.str w0].length + (ws.map partL).length ≤ sizeLine then mkL false ([CM.D.str w0] ++ ws.map partL) h else .no) = _
    rw [if_pos (by rw [List.length_map]; simp; omega)]
    rfl
  unfold u__law_read_line
  rw [s_seq, s_asg, m1, toS_ok, g_name, put_ok, sbind_nx, s_seq, s_asg]
  simp only [List.set_cons_succ, List.set_cons_zero, e_CB, e_cons, e_op, s0, lc, bind_ok, ad, e_nil]
  have tp : fTupOf [.lst (.str w0 :: ws.map partL)] h = .ok (dL w0 ws) h := rfl
  rw [tp, toS_ok, g_name, put_ok, sbind_nx, s_ret]
  simp only [List.set_cons_succ, List.set_cons_zero, e_if, e_B, e_call, e_cons, e_var, List.getElem?_cons_succ, List.getElem?_cons_zero, bind_ok, e_nil, List.length_cons, List.length_nil, if_true, e1, asB_bl]
  unfold lineR
  cases isTD (dL w0 ws) <;> rfl
theorem deed_of_ok (l : line.length ≤ 100000) (e : Txt.split line " " = w0 :: ws) : F_deed_of [.str line] h = .ok (lineR w0 ws) h := by
  have z5 : (200000 : Nat) ≤ sizeLine := by decide
  have lw : ws.length ≤ 100000 := by
    have := split_cnt (x := line) tl_sp sp_k
    rw [e] at this
    simp only [List.length_cons] at this
    omega
  have lx : ∀ y ∈ ws, y.length ≤ 100000 := fun y hy => Nat.le_trans (split_len (x := line) tl_sp sp_k (by rw [e]; exact List.mem_cons_of_mem _ hy)) l
  have m1 : dM1 (fSplit false) (dVar 0) (dC (.str " ")) [some (.str line), none, none, none] h = .ok (.lst ((w0 :: ws).map CM.D.str)) h := by
    rw [e_m1]
    simp only [e_var, List.getElem?_cons_zero, bind_ok, e_C]
    rw [split_sp l, e]
    rfl
  have sl := rest_sl (h := h) (line := line) (w0 := w0) (ws := ws) (nm := false)
  have lc : dLc false (dSeqI (dSl false (dVar 1) (dPart (dC (.int 1))) (dNoPart))) (gdName 3) (dYes) (dCall 1 F_part_of (dCons (dVar 3) (dNil))) [3] [some (.str line), some (.lst ((w0 :: ws).map CM.D.str)), none, none] h = .ok (.lst (ws.map partP)) h := by
    rw [lc_seq (enc := CM.D.str) (xs := ws) (fun _ => true) partP sl (by omega) fun x hx => ⟨_, rfl, rfl, fun _ => by simp [wipeD, part_of_ok (h := h) (lx x hx)]⟩]
    rw [List.filter_eq_self.mpr fun _ _ => rfl]
  have ix : fIx (.lst ((w0 :: ws).map CM.D.str)) (.int 0) h = .ok (.str w0) h := by
    simp [fIx, seqOf, atI0]
  have e1 : dStar (dLc false (dSeqI (dSl false (dVar 1) (dPart (dC (.int 1))) (dNoPart))) (gdName 3) (dYes) (dCall 1 F_part_of (dCons (dVar 3) (dNil))) [3]) (dNil) [some (.str line), some (.lst ((w0 :: ws).map CM.D.str)), none, none] h = .ok (ws.map partP) h := by
    unfold dStar
    rw [lc]
    show CM.R.ok (ws.map partP ++ []) h = _
    rw [List.append_nil]
  have tp : dTup (dCons (dOp fIx (dVar 1) (dC (.int 0))) (dStar (dLc false (dSeqI (dSl false (dVar 1) (dPart (dC (.int 1))) (dNoPart))) (gdName 3) (dYes) (dCall 1 F_part_of (dCons (dVar 3) (dNil))) [3]) (dNil))) [some (.str line), some (.lst ((w0 :: ws).map CM.D.str)), none, none] h = .ok (dP w0 ws) h := by
    rw [e_tup, e_cons]
    simp only [e_op, e_var, List.getElem?_cons_succ, List.getElem?_cons_zero, bind_ok, e_C, ix, e1]
    rw [if_pos (by simp only [List.length_cons, List.length_map]; omega)]
    rfl
  have flat : ∀ y ∈ (CM.D.str w0 :: ws.map partP), flatD y = true := fun y hy => by
    rcases List.mem_cons.mp hy with rfl | hy
    · rfl
    · obtain ⟨z, _, rfl⟩ := List.mem_map.mp hy
      unfold partP
      split
      · rfl
      · split
        · split <;> rfl
        · rfl
  have pq : Pq (dP w0 ws) := pq_of fun y hy => by
    have := flat y hy
    cases y <;> first | trivial | cases this
  have inn : fIn true .non (dP w0 ws) h = .ok (.bl (!(ws.map partP).any CM.isNon)) h := by
    show (if flatD .non = true ∧ (CM.D.str w0 :: ws.map partP).all flatD = true then CM.R.ok (CM.D.bl (bneg true ((CM.D.str w0 :: ws.map partP).any fun e => eqF e .non))) h else .no) = _
    rw [if_pos ⟨rfl, List.all_eq_true.mpr flat⟩, List.any_cons]
    have : ((ws.map partP).any fun e => eqF e .non) = (ws.map partP).any CM.isNon := by
      congr 1
      funext e
      cases e <;> rfl
    rw [this]
    rfl
  have dd := is_deed_ok (h := h) pq
  show (u_deed_of [some (.str line), none, none, none] h).res = _
  unfold u_deed_of
  rw [s_seq, s_asg, m1, toS_ok, g_name, put_ok, sbind_nx, s_seq, s_asg]
  simp only [List.set_cons_succ, List.set_cons_zero]
  rw [tp, toS_ok, g_name, put_ok, sbind_nx, s_ret]
  simp only [List.set_cons_succ, List.set_cons_zero, e_if, e_and, e_B, e_op, e_C, bind_ok, e_var, List.getElem?_cons_succ, List.getElem?_cons_zero, inn, asB_bl, e_call, e_cons, e_nil, List.length_cons, List.length_nil, if_true, dd]
  unfold lineR
  rw [dL_td]
  cases ga : (ws.map partL).all fun p => kindB p || numB p with
  | false =>
    -- some part is none
    have : (ws.map partP).any CM.isNon = true := by
      rw [List.all_map, List.all_eq_false] at ga
      obtain ⟨y, hy, ny⟩ := ga
      rw [List.any_map, List.any_eq_true]
      refine ⟨y, hy, ?_⟩
      show CM.isNon (partP y) = true
      rw [partP_non (by simpa using ny)]
      rfl
    rw [this, Bool.false_and, Bool.and_false]
    rfl
  | true =>
    obtain ⟨g1, g2⟩ := goods ga
    have dpl : dP w0 ws = dL w0 ws := by unfold dP dL; rw [g1]
    have nn : (ws.map partP).any CM.isNon = false := by
      rw [g1, List.any_eq_false]
      intro y hy
      have := List.all_eq_true.mp ga y hy
      cases y with
      | non => exact absurd this (by decide)
      | _ => intro q; cases q
    rw [nn, Bool.true_and, Bool.not_false, if_pos rfl]
    have iD : isD (dP w0 ws) = (szW w0 == ((ws.length : Nat) : Int) + 1) := by
      show (szW w0 == (((ws.map partP).length : Nat) : Int) + 1) = _
      rw [List.length_map]
    rw [iD]
    cases sz : (szW w0 == ((ws.length : Nat) : Int) + 1) with
    | false => rfl
    | true =>
      have l3 : ws.length ≤ 60 := by
        have a := sz_le w0
        have b : szW w0 = ((ws.length : Nat) : Int) + 1 := by simpa using sz
        omega
      have kr := kinds_right_ok (h := h) (w := w0) (r := ws.map partP) (fun y hy => by
        have := flat y (List.mem_cons_of_mem _ hy)
        cases y <;> first | trivial | cases this) (by rw [List.length_map]; exact l3)
      have kr' : F_kinds_right [dP w0 ws] h = .ok (.bl (krB w0 0 (ws.map partL))) h := by rw [← g1]; exact kr
      rw [if_pos rfl, kr', bind_ok, asB_bl, bind_ok, dpl, Bool.true_and]
      cases krB w0 0 (ws.map partL) <;> rfl
/-- a good line is written as it is read -/
theorem line_back (e : Txt.split line " " = w0 :: ws) (td : isTD (dL w0 ws) = true) : lineD (dL w0 ws) = line := by
  rw [dL_td, Bool.and_eq_true, Bool.and_eq_true] at td
  have g := goods td.2.1
  unfold lineD
  show Txt.join " " (w0 :: (ws.map partL).map strD) = line
  rw [g.2, ← e]
  exact split_back tl_sp sp_k
end
end W_whilemerged_k78_texts_of_histories_spoil
namespace W_whilemerged_k78_texts_of_histories_spoil
open PySem PySem.Spec PyProof.Rows L2 CM
open TL (tl joinL numL)
def lineV (line : Str) : CM.D := match Txt.split line " " with
  | [] => .non
  | w0 :: ws => lineR w0 ws
def fbl : Nat → List Str → Option Nat
  | _, [] => none
  | k, l :: r => if CM.isNon (lineV l) = true then some k else fbl (k + 1) r
theorem cut_last {l : List CM.D} {x : CM.D} : CM.cutD (l ++ [x]) none (some (-1)) = l := by
  unfold CM.cutD
  have e : HT.sIx (l ++ [x]).length (l ++ [x]).length (some (-1)) = l.length := by
    rw [List.length_append]
    show HT.sIx (l.length + 1) (l.length + 1) (some (-1)) = l.length
    simp [HT.sIx]
    omega
  rw [HT.sIx_none, e]
  simp
section
variable {h : CH} {line page w0 : Str} {ws : List Str} {n : Nat}
theorem at_last {l : List CM.D} {x : CM.D} : atI (l ++ [x]) (-1) = some x := by
  unfold atI ixN
  have a : ¬ (0 : Int) ≤ -1 := by omega
  rw [if_neg a]
  have e : (-1 + ((l.length : Int) + 1)).toNat = l.length := by omega
  have f : (1 : Int) ≤ (l.length : Int) + 1 := by omega
  simp [e, f]
theorem read_lineV (l : line.length ≤ 100000) : ∃ h1, F__law_read_line [.str line] h = .ok (lineV line) h1 ∧ Fr [] h h1 := by
  unfold lineV
  cases e : Txt.split line " " with
  | nil => exact absurd e (split_ne tl_sp sp_k)
  | cons w0 ws => exact read_line_ok l e
theorem deed_ofV (l : line.length ≤ 100000) : F_deed_of [.str line] h = .ok (lineV line) h := by
  unfold lineV
  cases e : Txt.split line " " with
  | nil => exact absurd e (split_ne tl_sp sp_k)
  | cons w0 ws => exact deed_of_ok l e
theorem lineV_td (k : CM.isNon (lineV line) = false) : isTD (lineV line) = true ∧ lineD (lineV line) = line := by
  unfold lineV at k ⊢
  cases e : Txt.split line " " with
  | nil => exact absurd e (split_ne tl_sp sp_k)
  | cons w0 ws =>
    rw [e] at k
    have k' : CM.isNon (lineR w0 ws) = false := k
    unfold lineR at k'
    by_cases td : isTD (dL w0 ws) = true
    · have er : lineR w0 ws = dL w0 ws := if_pos td
      show isTD (lineR w0 ws) = true ∧ lineD (lineR w0 ws) = line
      rw [er]
      exact ⟨td, line_back e td⟩
    · rw [if_neg td] at k'
      cases k'
def tg45 (i j : Nat) : TGD := gdTup 2 (gdCons (gdName i) (gdCons (gdName j) (gdNil)))
theorem app_ok {a : Nat} {pre : List CM.D} {d : CM.D} (eo : h.ob a = some (.lst pre)) (lz : pre.length ≤ 100001) : isTy "list" (.ref a) h = true ∧ fAppend (.ref a) [d] h = .ok .non (h.put a (.lst (pre ++ [d]))) := by
  refine ⟨?_, ?_⟩
  · show (lstOf h (.ref a)).isSome = true
    simp only [lstOf, eo, Option.isSome_some]
  · show (match h.ob a with
      | some (.lst ds) => if ds.length < sizeLine then CM.R.ok CM.D.non (h.put a (.lst (ds ++ [d]))) else .no
      | _ => .no) = _
    rw [eo]
    have z : (100001 : Nat) < sizeLine := by decide
    exact if_pos (by omega)
theorem Fr.put {S : List Nat} {a : Nat} {o : MO} : Fr (a :: S) h (h.put a o) := ⟨Nat.le_refl _, fun k _ n => put_ne fun e => n (by rw [e]; exact List.mem_cons_self ..)⟩
theorem Fr.wide {S S' : List Nat} {h1 : CH} (f : Fr S h h1) (s : ∀ k ∈ S, k ∈ S') : Fr S' h h1 := ⟨f.1, fun k l n => f.2 k l fun z => n (s k z)⟩
theorem Fr.of_new {o : MO} {h1 : CH} (f : Fr [h.nx] (h.new o) h1) : Fr [] h h1 := ⟨Nat.le_trans (Nat.le_succ _) f.1, fun k l _ => by
  rw [f.2 k (Nat.lt_succ_of_lt l) (by simp; omega)]
  show (if k = h.nx then some o else h.ob k) = h.ob k
  rw [if_neg (by omega)]⟩
def lrb : SD := dSeq (dAsg (dCall 1 F__law_read_line (dCons (dVar 4) (dNil))) (gdName 5)) (dSeq (dIfS (dB (dOp (fIsN false) (dVar 5) (dC .non))) (dRet (dVar 3)) (dNext)) (dDrop (dBM "list" fAppend (dVar 2) (dCons (dVar 5) (dNil)))))
theorem lr_loop {a : Nat} {X0 X1 : Option CM.D} : ∀ (ls : List Str) (k : Nat) (pre : List CM.D) (h : CH) (x3 x4 x5 : Option CM.D), (∀ l ∈ ls, l.length ≤ 100000) → pre.length + ls.length ≤ 100001 → h.ob a = some (.lst pre) → a < h.nx → match fbl k ls with
    | some i => ∃ h', dForL (tg45 3 4) lrb (enD k (ls.map CM.D.str)) [X0, X1, some (.ref a), x3, x4, x5] h = .rt (.int (i : Int)) h' ∧ Fr [a] h h'
    | none => ∃ y3 y4 y5 h', dForL (tg45 3 4) lrb (enD k (ls.map CM.D.str)) [X0, X1, some (.ref a), x3, x4, x5] h = .nx [X0, X1, some (.ref a), y3, y4, y5] h' ∧ h'.ob a = some (.lst (pre ++ ls.map lineV)) ∧ Fr [a] h h'
  | [], k, pre, h, x3, x4, x5, _, _, eo, _ => ⟨x3, x4, x5, h, rfl, by rw [eo]; simp, Fr.refl⟩
  | l :: ls, k, pre, h, x3, x4, x5, H, lz, eo, la => by
    obtain ⟨h1, e1, f1⟩ := read_lineV (h := h) (H l (List.mem_cons_self ..))
    have eo1 : h1.ob a = some (.lst pre) := by rw [f1.2 a la (by simp)]; exact eo
    simp only [List.length_cons] at lz
    obtain ⟨ty, ap⟩ := app_ok (d := lineV l) eo1 (by omega)
    have g : tg45 3 4 (.tup [.int (k : Int), .str l]) [X0, X1, some (.ref a), x3, x4, x5] h = .ok [X0, X1, some (.ref a), some (.int (k : Int)), some (.str l), x5] h := by
      simp [tg45, gdTup, gdCons, gdNil, itemsD]
    have st : dForL (tg45 3 4) lrb (enD k ((l :: ls).map CM.D.str)) [X0, X1, some (.ref a), x3, x4, x5] h = (match lrb [X0, X1, some (.ref a), some (.int (k : Int)), some (.str l), x5] h with
        | .nx ρ2 h2 => dForL (tg45 3 4) lrb (enD (k + 1) (ls.map CM.D.str)) ρ2 h2
        | .ct ρ2 h2 => dForL (tg45 3 4) lrb (enD (k + 1) (ls.map CM.D.str)) ρ2 h2
        | .bk ρ2 h2 => .nx ρ2 h2
        | x => x) := by
      show (tg45 3 4 (.tup [.int (k : Int), .str l]) [X0, X1, some (.ref a), x3, x4, x5] h).put _ = _
      rw [g]
      rfl
    have body : lrb [X0, X1, some (.ref a), some (.int (k : Int)), some (.str l), x5] h = if CM.isNon (lineV l) = true then .rt (.int (k : Int)) h1 else .nx [X0, X1, some (.ref a), some (.int (k : Int)), some (.str l), some (lineV l)] (h1.put a (.lst (pre ++ [lineV l]))) := by
      unfold lrb
      rw [s_seq, s_asg]
      simp only [e_call, e_cons, e_nil, e_var, List.getElem?_cons_succ, List.getElem?_cons_zero, bind_ok, List.length_cons, List.length_nil, if_true, e1, toS_ok, g_name, put_ok, sbind_nx, List.set_cons_succ, List.set_cons_zero, s_seq, s_if, e_B, e_op, e_C, e_isN, b_f, asB_bl]
      cases CM.isNon (lineV l) with
      | true => simp
      | false => simp [ty, ap]
    have fp : Fr [a] h (h1.put a (.lst (pre ++ [lineV l]))) := (Fr.wide f1 (fun k hk => nomatch hk)).trans Fr.put
    unfold fbl
    by_cases q : CM.isNon (lineV l) = true
    · rw [if_pos q] at body
      rw [if_pos q]
      exact ⟨h1, by rw [st, body], Fr.wide f1 (fun k hk => nomatch hk)⟩
    · rw [if_neg q] at body
      rw [if_neg q, st, body]
      have ih := lr_loop (a := a) (X0 := X0) (X1 := X1) ls (k + 1) (pre ++ [lineV l]) (h1.put a (.lst (pre ++ [lineV l]))) (some (.int (k : Int))) (some (.str l)) (some (lineV l)) (fun y hy => H y (List.mem_cons_of_mem _ hy)) (by simp; omega) put_same (Nat.lt_of_lt_of_le la fp.1)
      cases e : fbl (k + 1) ls with
      | some i =>
        rw [e] at ih
        obtain ⟨h', e2, f2⟩ := ih
        exact ⟨h', e2, fp.trans f2⟩
      | none =>
        rw [e] at ih
        obtain ⟨y3, y4, y5, h', e2, o2, f2⟩ := ih
        exact ⟨y3, y4, y5, h', e2, by rw [o2]; simp, fp.trans f2⟩
/-- the program's loop -/
def rhb : SD := dSeq (dAsg (dCall 1 F_deed_of (dCons (dVar 5) (dNil))) (gdName 6)) (dSeq (dIfS (dB (dOp (fIsN false) (dVar 6) (dC .non))) (dRaiseX 6 "line" (dCons (dVar 4) (dNil))) (dNext)) (dDrop (dBM "list" fAppend (dVar 3) (dCons (dVar 6) (dNil)))))
theorem rh_loop {a : Nat} {X0 X1 X2 : Option CM.D} : ∀ (ls : List Str) (k : Nat) (pre : List CM.D) (h : CH) (x4 x5 x6 : Option CM.D), (∀ l ∈ ls, l.length ≤ 100000) → pre.length + ls.length ≤ 100001 → h.ob a = some (.lst pre) → a < h.nx → match fbl k ls with
    | some i => ∃ ρ' h', dForL (tg45 4 5) rhb (enD k (ls.map CM.D.str)) [X0, X1, X2, some (.ref a), x4, x5, x6] h = .ex ρ' 6 [(Str.ofString "line", .int (i : Int))] h' ∧ Fr [a] h h'
    | none => ∃ y4 y5 y6 h', dForL (tg45 4 5) rhb (enD k (ls.map CM.D.str)) [X0, X1, X2, some (.ref a), x4, x5, x6] h = .nx [X0, X1, X2, some (.ref a), y4, y5, y6] h' ∧ h'.ob a = some (.lst (pre ++ ls.map lineV)) ∧ Fr [a] h h'
  | [], k, pre, h, x4, x5, x6, _, _, eo, _ => ⟨x4, x5, x6, h, rfl, by rw [eo]; simp, Fr.refl⟩
  | l :: ls, k, pre, h, x4, x5, x6, H, lz, eo, la => by
    have e1 := deed_ofV (h := h) (H l (List.mem_cons_self ..))
    simp only [List.length_cons] at lz
    obtain ⟨ty, ap⟩ := app_ok (d := lineV l) eo (by omega)
    have g : tg45 4 5 (.tup [.int (k : Int), .str l]) [X0, X1, X2, some (.ref a), x4, x5, x6] h = .ok [X0, X1, X2, some (.ref a), some (.int (k : Int)), some (.str l), x6] h := by
      simp [tg45, gdTup, gdCons, gdNil, itemsD]
    have st : dForL (tg45 4 5) rhb (enD k ((l :: ls).map CM.D.str)) [X0, X1, X2, some (.ref a), x4, x5, x6] h = (match rhb [X0, X1, X2, some (.ref a), some (.int (k : Int)), some (.str l), x6] h with
        | .nx ρ2 h2 => dForL (tg45 4 5) rhb (enD (k + 1) (ls.map CM.D.str)) ρ2 h2
        | .ct ρ2 h2 => dForL (tg45 4 5) rhb (enD (k + 1) (ls.map CM.D.str)) ρ2 h2
        | .bk ρ2 h2 => .nx ρ2 h2
        | x => x) := by
      show (tg45 4 5 (.tup [.int (k : Int), .str l]) [X0, X1, X2, some (.ref a), x4, x5, x6] h).put _ = _
      rw [g]
      rfl
    have body : rhb [X0, X1, X2, some (.ref a), some (.int (k : Int)), some (.str l), x6] h = if CM.isNon (lineV l) = true then .ex [X0, X1, X2, some (.ref a), some (.int (k : Int)), some (.str l), some (lineV l)] 6 [(Str.ofString "line", .int (k : Int))] h else .nx [X0, X1, X2, some (.ref a), some (.int (k : Int)), some (.str l), some (lineV l)] (h.put a (.lst (pre ++ [lineV l]))) := by
      unfold rhb
      rw [s_seq, s_asg]
      simp only [e_call, e_cons, e_nil, e_var, List.getElem?_cons_succ, List.getElem?_cons_zero, bind_ok, List.length_cons, List.length_nil, if_true, e1, toS_ok, g_name, put_ok, sbind_nx, List.set_cons_succ, List.set_cons_zero, s_seq, s_if, e_B, e_op, e_C, e_isN, b_f, asB_bl]
      cases CM.isNon (lineV l) with
      | true => simp
      | false => simp [ty, ap]
    unfold fbl
    by_cases q : CM.isNon (lineV l) = true
    · rw [if_pos q] at body
      rw [if_pos q]
      exact ⟨_, h, by rw [st, body], Fr.refl⟩
    · rw [if_neg q] at body
      rw [if_neg q, st, body]
      have fp : Fr [a] h (h.put a (.lst (pre ++ [lineV l]))) := Fr.put
      have ih := rh_loop (a := a) (X0 := X0) (X1 := X1) (X2 := X2) ls (k + 1) (pre ++ [lineV l]) (h.put a (.lst (pre ++ [lineV l]))) (some (.int (k : Int))) (some (.str l)) (some (lineV l)) (fun y hy => H y (List.mem_cons_of_mem _ hy)) (by simp; omega) put_same (Nat.lt_of_lt_of_le la fp.1)
      cases e : fbl (k + 1) ls with
      | some i =>
        rw [e] at ih
        obtain ⟨ρ', h', e2, f2⟩ := ih
        exact ⟨ρ', h', e2, fp.trans f2⟩
      | none =>
        rw [e] at ih
        obtain ⟨y4, y5, y6, h', e2, o2, f2⟩ := ih
        exact ⟨y4, y5, y6, h', e2, by rw [o2]; simp, fp.trans f2⟩
/-- what a page comes to: the first wrong line, or the deeds -/
structure Pg (page : Str) (init : List Str) (last : Str) : Prop where
  e : Txt.split page "\n" = init ++ [last]
  l : page.length ≤ 100000
theorem Pg.of (l : page.length ≤ 100000) : ∃ init last, Pg page init last := by
  have ne := split_ne (x := page) tl_nl nl_k
  exact ⟨_, _, (List.dropLast_concat_getLast ne).symm, l⟩
def badN (init : List Str) (last : Str) : Option Nat := match fbl 0 init with
  | some i => some i
  | none => if last = Str.ofString "" then none else some init.length
theorem badN_i {init : List Str} {last : Str} {i : Nat} (e : fbl 0 init = some i) : badN init last = some i := by unfold badN; rw [e]
theorem badN_y {init : List Str} {last : Str} (e : fbl 0 init = none) (q : last = Str.ofString "") : badN init last = none := by unfold badN; rw [e]; exact if_pos q
theorem badN_n {init : List Str} {last : Str} (e : fbl 0 init = none) (q : ¬ last = Str.ofString "") : badN init last = some init.length := by unfold badN; rw [e]; exact if_neg q
section
variable {init : List Str} {last : Str} (P : Pg page init last)
include P
theorem Pg.len : init.length ≤ 100000 := by
  have := split_cnt (x := page) tl_nl nl_k
  have l := P.l
  rw [P.e] at this
  simp at this
  omega
theorem Pg.lines : ∀ y ∈ init, y.length ≤ 100000 := fun y hy => Nat.le_trans (split_len (x := page) tl_nl nl_k (by rw [P.e]; exact List.mem_append_left _ hy)) P.l
theorem Pg.sp {ρ : DE} (e0 : ρ[0]? = some (some (.str page))) : dM1 (fSplit false) (dVar 0) (dC (.str "\n")) ρ h = .ok (.lst (init.map CM.D.str ++ [.str last])) h := by
  rw [e_m1]
  simp only [e_var, e0, bind_ok, e_C]
  rw [split_nl P.l, P.e, List.map_append]
  rfl
theorem last_eq : (last == Str.ofString "") = decide (last = Str.ofString "") := by
  by_cases q : last = Str.ofString ""
  · rw [decide_eq_true q, q]; simp
  · rw [decide_eq_false q]; exact beq_eq_false_iff_ne.mpr q
def lrU : SD := dSeq (dPar 1 2 (dCons (dM1 (fSplit false) (dVar 0) (dC (.str "\n"))) (dCons (dLst true (dNil)) (dNil)))) (dSeq (dFor (dEnumT (dCons (dSl false (dVar 1) (dNoPart) (dPart (dUn fNeg (dC (.int 1))))) (dNil))) (tg45 3 4) lrb) (dRet (dIf (dB (dOp (fEq false) (dOp fIx (dVar 1) (dUn fNeg (dC (.int 1)))) (dC (.str "")))) (dVar 2) (dOp fSubI (dCB fLen (dCons (dVar 1) (dNil))) (dC (.int 1))))))
theorem law_read_ok : ∃ h', Fr [] h h' ∧ h.nx < h'.nx ∧ match badN init last with
    | some i => F__law_read [.str page] h = .ok (.int (i : Int)) h'
    | none => F__law_read [.str page] h = .ok (.ref h.nx) h' ∧ h'.ob h.nx = some (.lst (init.map lineV)) := by
  have key : ∀ {Q : CM.R CM.D → Prop}, Q ((lrU [some (.str page), none, none, none, none, none] h).res) → Q (F__law_read [.str page] h) := fun q => q
  have u0 : F__law_read [.str page] h = (lrU [some (.str page), none, none, none, none, none] h).res := rfl
  have ln := P.len
  have m1 : (dCons (dM1 (fSplit false) (dVar 0) (dC (.str "\n"))) (dCons (dLst true (dNil)) (dNil))) [some (.str page), none, none, none, none, none] h = .ok [.lst (init.map CM.D.str ++ [.str last]), .ref h.nx] (h.new (.lst [])) := by
    rw [e_cons, P.sp rfl, bind_ok]
    rfl
  have en : dEnumT (dCons (dSl false (dVar 1) (dNoPart) (dPart (dUn fNeg (dC (.int 1))))) (dNil)) [some (.str page), some (.lst (init.map CM.D.str ++ [.str last])), some (.ref h.nx), none, none, none] (h.new (.lst [])) = .ok (enD 0 (init.map CM.D.str), none) (h.new (.lst [])) := by
    have s : dSl false (dVar 1) (dNoPart) (dPart (dUn fNeg (dC (.int 1)))) [some (.str page), some (.lst (init.map CM.D.str ++ [.str last])), some (.ref h.nx), none, none, none] (h.new (.lst [])) = .ok (.lst (init.map CM.D.str)) (h.new (.lst [])) := by
      show CM.R.ok (CM.D.lst (CM.cutD (init.map CM.D.str ++ [.str last]) none (some (-1)))) _ = _
      rw [cut_last]
    unfold dEnumT
    rw [e_cons, s]
    rfl
  have lp := lr_loop (a := h.nx) (X0 := some (.str page)) (X1 := some (.lst (init.map CM.D.str ++ [.str last]))) init 0 [] (h.new (.lst [])) none none none P.lines (by simp; omega) new_ob (Nat.lt_succ_self _)
  have us : lrU [some (.str page), none, none, none, none, none] h = (dForL (tg45 3 4) lrb (enD 0 (init.map CM.D.str)) [some (.str page), some (.lst (init.map CM.D.str ++ [.str last])), some (.ref h.nx), none, none, none] (h.new (.lst []))).bind (dRet (dIf (dB (dOp (fEq false) (dOp fIx (dVar 1) (dUn fNeg (dC (.int 1)))) (dC (.str "")))) (dVar 2) (dOp fSubI (dCB fLen (dCons (dVar 1) (dNil))) (dC (.int 1))))) := by
    unfold lrU
    rw [s_seq, s_par, m1, toS_ok, sbind_nx, s_seq, s_for]
    simp only [List.set_cons_succ, List.set_cons_zero]
    rw [en, toS_ok]
    simp only [unl_none]
  rw [u0, us]
  cases e : fbl 0 init with
  | some i =>
    rw [e] at lp
    obtain ⟨h', e2, f2⟩ := lp
    exact ⟨h', Fr.of_new f2, Nat.lt_of_lt_of_le (Nat.lt_succ_self _) f2.1, by rw [badN_i e, e2]; rfl⟩
  | none =>
    rw [e] at lp
    obtain ⟨y3, y4, y5, h', e2, o2, f2⟩ := lp
    refine ⟨h', Fr.of_new f2, Nat.lt_of_lt_of_le (Nat.lt_succ_self _) f2.1, ?_⟩
    rw [e2, sbind_nx, s_ret, e_if]
    have ix : fIx (.lst (init.map CM.D.str ++ [.str last])) (.int (-1)) h' = .ok (.str last) h' := by
      show (match atI (init.map CM.D.str ++ [.str last]) (-1) with | some v => CM.R.ok v h' | none => .no) = _
      rw [at_last]
    simp only [e_B, e_op, e_un, e_var, List.getElem?_cons_succ, List.getElem?_cons_zero, bind_ok, e_C, fNeg, ix, eq_ss, b_f, asB_bl]
    rw [last_eq P]
    by_cases q : last = Str.ofString ""
    · rw [decide_eq_true q, if_pos rfl, badN_y e q]
      exact ⟨rfl, by simpa using o2⟩
    · rw [decide_eq_false q, if_neg (by simp), badN_n e q]
      have lnn : fLen [.lst (init.map CM.D.str ++ [.str last])] h' = .ok (.int (init.length + 1 : Nat)) h' := by
        show CM.R.ok (CM.D.int ((init.map CM.D.str ++ [CM.D.str last]).length : Nat)) h' = _
        rw [List.length_append, List.length_map]
        rfl
      simp only [e_CB, e_cons, e_var, List.getElem?_cons_succ, List.getElem?_cons_zero, bind_ok, e_nil, lnn, fSubI]
      have : ((init.length + 1 : Nat) : Int) - 1 = (init.length : Nat) := by omega
      rw [this]
      rfl
def rhU : SD := dSeq (dIfS (dNot (dB (dCB (fIsX xs0 [] kt0) (dCons (dVar 0) (dCons (dC (.ty "str")) (dNil)))))) (dRaiseX 6 "line" (dCons (dC (.int 0)) (dNil))) (dNext)) (dSeq (dAsg (dCall 1 F_lines_of (dCons (dVar 0) (dNil))) (gdTup 2 (gdCons (gdName 1) (gdCons (gdName 2) (gdNil))))) (dSeq (dAsg (dLst true (dNil)) (gdName 3)) (dSeq (dFor (dEnumT (dCons (dVar 1) (dNil))) (tg45 4 5) rhb) (dSeq (dIfS (dB (dOp (fEq true) (dVar 2) (dC (.str "")))) (dRaiseX 6 "line" (dCons (dCB fLen (dCons (dVar 3) (dNil))) (dNil))) (dNext)) (dRet (dUn fzI (dVar 3)))))))
theorem lines_ok : F_lines_of [.str page] h = .ok (.tup [.lst (init.map CM.D.str), .str last]) h := by
  show (u_lines_of [some (.str page), none] h).res = _
  have sl : dSl false (dVar 1) (dNoPart) (dPart (dUn fNeg (dC (.int 1)))) [some (.str page), some (.lst (init.map CM.D.str ++ [.str last]))] h = .ok (.lst (init.map CM.D.str)) h := by
    show CM.R.ok (CM.D.lst (CM.cutD (init.map CM.D.str ++ [.str last]) none (some (-1)))) h = _
    rw [cut_last]
  have ix : fIx (.lst (init.map CM.D.str ++ [.str last])) (.int (-1)) h = .ok (.str last) h := by
    show (match atI (init.map CM.D.str ++ [.str last]) (-1) with | some v => CM.R.ok v h | none => .no) = _
    rw [at_last]
  unfold u_lines_of
  rw [s_seq, s_asg, P.sp rfl, toS_ok, g_name, put_ok, sbind_nx, s_ret, e_tup, e_cons]
  simp only [List.set_cons_succ, List.set_cons_zero]
  rw [sl, bind_ok, e_cons]
  simp only [e_op, e_un, e_C, bind_ok, e_var, List.getElem?_cons_succ, List.getElem?_cons_zero, fNeg, ix, e_nil]
  rfl
theorem read_page_ok : ∃ h', Fr [] h h' ∧ match badN init last with
    | some i => F_read_history [.str page] h = .ex 6 [(Str.ofString "line", .int (i : Int))] h'
    | none => F_read_history [.str page] h = .ok (.lst (init.map lineV)) h' := by
  have u0 : F_read_history [.str page] h = (rhU [some (.str page), none, none, none, none, none, none] h).res := rfl
  have ln := P.len
  have is := isi_s (h := h) (d := .str page) trivial
  have ls := lines_ok P (h := h)
  have lp := rh_loop (a := h.nx) (X0 := some (.str page)) (X1 := some (.lst (init.map CM.D.str))) (X2 := some (.str last)) init 0 [] (h.new (.lst [])) none none none P.lines (by simp; omega) new_ob (Nat.lt_succ_self _)
  have us : rhU [some (.str page), none, none, none, none, none, none] h = (dForL (tg45 4 5) rhb (enD 0 (init.map CM.D.str)) [some (.str page), some (.lst (init.map CM.D.str)), some (.str last), some (.ref h.nx), none, none, none] (h.new (.lst []))).bind (dSeq (dIfS (dB (dOp (fEq true) (dVar 2) (dC (.str "")))) (dRaiseX 6 "line" (dCons (dCB fLen (dCons (dVar 3) (dNil))) (dNil))) (dNext)) (dRet (dUn fzI (dVar 3)))) := by
    unfold rhU
    have t0 : (dNot (dB (dCB (fIsX xs0 [] kt0) (dCons (dVar 0) (dCons (dC (.ty "str")) (dNil)))))) [some (.str page), none, none, none, none, none, none] h = .ok false h := by simp [is, isS]
    have c1 : dCall 1 F_lines_of (dCons (dVar 0) (dNil)) [some (.str page), none, none, none, none, none, none] h = .ok (.tup [.lst (init.map CM.D.str), .str last]) h := by simp [ls]
    have g : (gdTup 2 (gdCons (gdName 1) (gdCons (gdName 2) (gdNil)))) (.tup [.lst (init.map CM.D.str), .str last]) [some (.str page), none, none, none, none, none, none] h = .ok [some (.str page), some (.lst (init.map CM.D.str)), some (.str last), none, none, none, none] h := by
      simp [gdTup, gdCons, gdNil, itemsD]
    have ll : dLst true (dNil) [some (.str page), some (.lst (init.map CM.D.str)), some (.str last), none, none, none, none] h = .ok (.ref h.nx) (h.new (.lst [])) := rfl
    have en : dEnumT (dCons (dVar 1) (dNil)) [some (.str page), some (.lst (init.map CM.D.str)), some (.str last), some (.ref h.nx), none, none, none] (h.new (.lst [])) = .ok (enD 0 (init.map CM.D.str), none) (h.new (.lst [])) := rfl
    rw [s_seq, s_if, t0, toS_ok, if_neg (by simp), s_next, sbind_nx, s_seq, s_asg, c1, toS_ok, g, put_ok, sbind_nx, s_seq, s_asg, ll, toS_ok, g_name, put_ok, sbind_nx, s_seq, s_for]
    simp only [List.set_cons_succ, List.set_cons_zero]
    rw [en, toS_ok]
    simp only [unl_none]
  rw [u0, us]
  cases e : fbl 0 init with
  | some i =>
    rw [e] at lp
    obtain ⟨ρ', h', e2, f2⟩ := lp
    exact ⟨h', Fr.of_new f2, by rw [badN_i e, e2]; rfl⟩
  | none =>
    rw [e] at lp
    obtain ⟨y4, y5, y6, h', e2, o2, f2⟩ := lp
    rw [List.nil_append] at o2
    have t1 : (dB (dOp (fEq true) (dVar 2) (dC (.str "")))) [some (.str page), some (.lst (init.map CM.D.str)), some (.str last), some (.ref h.nx), y4, y5, y6] h' = .ok (!decide (last = Str.ofString "")) h' := by
      simp only [e_B, e_op, e_var, List.getElem?_cons_succ, List.getElem?_cons_zero, bind_ok, e_C, eq_ss, b_t, asB_bl]
      rw [last_eq P]
    by_cases q : last = Str.ofString ""
    · refine ⟨h'.del h.nx, ⟨(Fr.of_new f2).1, fun k l _ => ?_⟩, ?_⟩
      · show (if k = h.nx then none else h'.ob k) = h.ob k
        rw [if_neg (by omega)]
        exact (Fr.of_new f2).2 k l (by simp)
      · have fr : dUn fzI (dVar 3) [some (.str page), some (.lst (init.map CM.D.str)), some (.str last), some (.ref h.nx), y4, y5, y6] h' = .ok (.lst (init.map lineV)) (h'.del h.nx) := by
          show fz (.ref h.nx) h' = _
          unfold fz
          simp only [o2]
        rw [badN_y e q, e2, sbind_nx, s_seq, s_if, t1, decide_eq_true q, toS_ok, Bool.not_true, if_neg (show ¬ (false = true) by decide), s_next, sbind_nx, s_ret, fr]
        rfl
    · refine ⟨h', Fr.of_new f2, ?_⟩
      rw [badN_n e q, e2, sbind_nx, s_seq, s_if, t1, decide_eq_false q, toS_ok, Bool.not_false, if_pos rfl]
      have lnn : fLen [.ref h.nx] h' = .ok (.int (init.length : Nat)) h' := by
        show (match seqOf h' (.ref h.nx) with
          | some xs => CM.R.ok (CM.D.int xs.length) h'
          | none => _) = _
        simp only [seqOf, o2, List.length_map]
      simp only [e_raise, e_cons, e_CB, e_var, List.getElem?_cons_succ, List.getElem?_cons_zero, bind_ok, e_nil, lnn, toS_ok, rx_one]
      rfl
/-- the deeds of a good page -/
theorem Pg.good (b : badN init last = none) : (∀ d ∈ init.map lineV, isTD d = true) ∧ pageD (init.map lineV) = page := by
  have fn : fbl 0 init = none ∧ last = Str.ofString "" := by
    unfold badN at b
    cases e : fbl 0 init with
    | some i => rw [e] at b; cases b
    | none =>
      rw [e] at b
      refine ⟨rfl, ?_⟩
      by_cases q : last = Str.ofString ""
      · exact q
      · have b' : (if last = Str.ofString "" then none else some init.length) = none := b
        rw [if_neg q] at b'
        cases b'
  have al : ∀ (ls : List Str) (k : Nat), fbl k ls = none → ∀ y ∈ ls, CM.isNon (lineV y) = false := fun ls => by
    induction ls with
    | nil => intro _ _ y hy; cases hy
    | cons a l ih =>
      intro k e y hy
      unfold fbl at e
      by_cases q : CM.isNon (lineV a) = true
      · rw [if_pos q] at e; cases e
      · rw [if_neg q] at e
        rcases List.mem_cons.mp hy with rfl | hy
        · simpa using q
        · exact ih (k + 1) e y hy
  have g := al init 0 fn.1
  refine ⟨fun d hd => ?_, ?_⟩
  · obtain ⟨y, hy, rfl⟩ := List.mem_map.mp hd
    exact (lineV_td (g y hy)).1
  · rw [page_join, List.map_map]
    have : init.map (lineD ∘ lineV) = init := by
      have : init.map (lineD ∘ lineV) = init.map id := List.map_congr_left fun y hy => (lineV_td (g y hy)).2
      rw [this, List.map_id]
    rw [this]
    have e := P.e
    rw [fn.2] at e
    have e' : init ++ [("" : Str)] = Txt.split page "\n" := e.symm
    rw [e']
    exact split_back tl_nl nl_k
end
end
end W_whilemerged_k78_texts_of_histories_spoil
namespace W_whilemerged_k78_texts_of_histories_spoil
open PySem PySem.Spec PyProof.Rows L2 CM
open TL (tl joinL numL)
def bt_0 : SD := dPar 3 4 (dCons (dCall 2 F__law_take (dCons (dVar 0) (dCons (dC (.int 9)) (dNil)))) (dCons (dM1 (fSplit true) (dVar 1) (dC (.str "\n"))) (dNil)))
def bt_1 : SD := dPar 5 6 (dCons (dCall 2 F__law_take (dCons (dVar 0) (dCons (dOp (fAdd false) (dCB fLen (dCons (dVar 1) (dNil))) (dC (.int 1))) (dNil)))) (dCons (dCall 2 F__law_take (dCons (dVar 0) (dCons (dCB fLen (dCons (dVar 4) (dNil))) (dNil)))) (dNil)))
def bt_2 : SD := dAsg (dCall 2 F__law_take (dCons (dVar 0) (dCons (dCB fLen (dCons (dVar 4) (dNil))) (dNil)))) (gdName 7)
def bt_3 : SD := dIfS (dB (dOp (fEq false) (dVar 3) (dC (.int 0)))) (dRet (dOp (fAdd false) (dOp (fAdd false) (dSlT (dVar 1) (dNoPart) (dPart (dVar 5))) (dCall 2 F__law_pick (dCons (dVar 0) (dCons (dVar 2) (dNil))))) (dSlT (dVar 1) (dPart (dVar 5)) (dNoPart)))) (dNext)
def bt_4 : SD := dIfS (dB (dOp (fEq false) (dVar 3) (dC (.int 1)))) (dRet (dOp (fAdd false) (dSlT (dVar 1) (dNoPart) (dPart (dVar 5))) (dSlT (dVar 1) (dPart (dOp (fAdd false) (dVar 5) (dC (.int 1)))) (dNoPart)))) (dNext)
def bt_5 : SD := dIfS (dB (dOp (fEq false) (dVar 3) (dC (.int 2)))) (dRet (dOp (fAdd false) (dOp (fAdd false) (dSlT (dVar 1) (dNoPart) (dPart (dVar 5))) (dCall 2 F__law_pick (dCons (dVar 0) (dCons (dVar 2) (dNil))))) (dSlT (dVar 1) (dPart (dOp (fAdd false) (dVar 5) (dC (.int 1)))) (dNoPart)))) (dNext)
def bt_6 : SD := dIfS (dB (dOp (fEq false) (dVar 3) (dC (.int 3)))) (dRet (dSlT (dVar 1) (dNoPart) (dPart (dVar 5)))) (dNext)
def bt_7 : SD := dIfS (dB (dOp (fEq false) (dVar 3) (dC (.int 4)))) (dAsg (dTup (dCons (dOp fIx (dVar 4) (dVar 6)) (dCons (dOp fIx (dVar 4) (dVar 7)) (dNil)))) (gdTup 2 (gdCons (gdSub (dVar 4) (dVar 7)) (gdCons (gdSub (dVar 4) (dVar 6)) (gdNil))))) (dIfS (dB (dOp (fEq false) (dVar 3) (dC (.int 5)))) (dAsg (dOp (fAdd true) (dSl false (dVar 4) (dNoPart) (dPart (dVar 7))) (dSl false (dVar 4) (dPart (dOp (fAdd false) (dVar 7) (dC (.int 1)))) (dNoPart))) (gdName 4)) (dIfS (dB (dOp (fEq false) (dVar 3) (dC (.int 6)))) (dAsg (dOp (fAdd true) (dOp (fAdd false) (dSl false (dVar 4) (dNoPart) (dPart (dVar 7))) (dLst false (dCons (dOp fIx (dVar 4) (dVar 6)) (dNil)))) (dSl false (dVar 4) (dPart (dVar 7)) (dNoPart))) (gdName 4)) (dSeq (dAsg (dM1 (fSplit true) (dOp fIx (dVar 4) (dVar 7)) (dC (.str " "))) (gdName 8)) (dSeq (dAsg (dCall 2 F__law_take (dCons (dVar 0) (dCons (dCB fLen (dCons (dVar 8) (dNil))) (dNil)))) (gdName 9)) (dSeq (dAsg (dCall 2 F__law_pick (dCons (dVar 0) (dCons (dOp (fAdd false) (dVar 2) (dVar 8)) (dNil)))) (gdSub (dVar 8) (dVar 9))) (dAsg (dM1 fJoin (dC (.str " ")) (dVar 8)) (gdSub (dVar 4) (dVar 7))))))))
def bt_8 : SD := dRet (dM1 fJoin (dC (.str "\n")) (dVar 4))
def bt_k8 : SD := bt_8
def bt_k7 : SD := dSeq bt_7 bt_k8
def bt_k6 : SD := dSeq bt_6 bt_k7
def bt_k5 : SD := dSeq bt_5 bt_k6
def bt_k4 : SD := dSeq bt_4 bt_k5
def bt_k3 : SD := dSeq bt_3 bt_k4
def bt_k2 : SD := dSeq bt_2 bt_k3
def bt_k1 : SD := dSeq bt_1 bt_k2
def bt_k0 : SD := dSeq bt_0 bt_k1
def sm (l : List Str) : Nat := (l.map (·.length)).sum
theorem sm_nil : sm [] = 0 := rfl
theorem sm_cons {x : Str} {l : List Str} : sm (x :: l) = x.length + sm l := rfl
theorem sm_app {a b : List Str} : sm (a ++ b) = sm a + sm b := by unfold sm; rw [List.map_append, List.sum_append]
theorem sm_set : ∀ (l : List Str) (i : Nat) (y : Str), sm (l.set i y) ≤ sm l + y.length
  | [], _, _ => Nat.zero_le _
  | x :: l, 0, y => by rw [List.set_cons_zero, sm_cons, sm_cons]; omega
  | x :: l, i + 1, y => by
    have := sm_set l i y
    rw [List.set_cons_succ, sm_cons, sm_cons]
    omega
theorem sm_cut (l : List Str) (i : Nat) : sm (l.take i) + sm (l.drop i) = sm l := by
  rw [← sm_app, List.take_append_drop]
theorem sm_drop1 (l : List Str) (i : Nat) : sm (l.drop (i + 1)) ≤ sm (l.drop i) := by
  have := sm_cut (l.drop i) 1
  rw [List.drop_drop] at this
  omega
theorem sm_mem {l : List Str} {y : Str} (h : y ∈ l) : y.length ≤ sm l := mem_sum h
theorem join_len {sep : Str} {c : Nat} (e : tl sep = [c]) (l : List Str) : (Txt.join sep l).length ≤ sm l + (l.length - 1) := by
  rw [TL.len_tl, TL.join_eq, TL.tl_join, e]
  cases l with
  | nil => simp [joinL]
  | cons a r =>
    rw [joinL_sum _ _ (by simp)]
    unfold sm
    rw [len_map]
    simp
section
variable {h : CH} {page : Str} {r w n : Nat} {x0 x1 x2 x3 x4 x5 x6 x7 x8 x9 : Option CM.D} {ρ : DE} {R W : List Str}
theorem ifN {i z : Int} {a b : SD} (e3 : ρ[3]? = some (some (.int i))) (ne : i ≠ z) : dIfS (dB (dOp (fEq false) (dVar 3) (dC (.int z)))) a b ρ h = b ρ h := by
  have e : (i == z) = false := by simpa using ne
  rw [s_if]
  simp only [e_B, e_op, e_var, e3, bind_ok, e_C, eq_ii, b_f, asB_bl, e, toS_ok, if_neg (show ¬ (false = true) by simp)]
theorem ifY {z : Int} {a b : SD} (e3 : ρ[3]? = some (some (.int z))) : dIfS (dB (dOp (fEq false) (dVar 3) (dC (.int z)))) a b ρ h = a ρ h := by
  rw [s_if]
  simp only [e_B, e_op, e_var, e3, bind_ok, e_C, eq_ii, b_f, asB_bl, beq_self_eq_true, toS_ok, if_true]
theorem DrawOk.putk {k : Nat} {o : MO} (A : DrawOk r w n h) (kr : k ≠ r) (kw : k ≠ w) : DrawOk r w n (h.put k o) := A.keep (Nat.le_refl _) fun j hj => put_ne (by rcases hj with e | e <;> omega)
theorem DrawOk.newk {o : MO} (A : DrawOk r w n h) : DrawOk r w n (h.new o) := A.keep (Nat.le_succ _) fun j hj => (Fr.new _).2 j (by have := A.lt; rcases hj with e | e <;> omega) (by simp)
theorem add_ss {a b : Str} (l : a.length + b.length ≤ 1000000) : fAdd false (.str a) (.str b) h = .ok (.str (a ++ b)) h := by
  have z : (1000000 : Nat) ≤ sizeLine := by decide
  exact if_pos (by omega)
theorem len_app {a b : Str} : (a ++ b : Str).length = a.length + b.length := by rw [TL.len_tl, TL.tl_append, List.length_append, ← TL.len_tl, ← TL.len_tl]
theorem slT_lo {v : Int} (l : page.length ≤ 100000) (e1 : ρ[1]? = some (some (.str page))) (e5 : ρ[5]? = some (some (.int v))) : dSlT (dVar 1) (dNoPart) (dPart (dVar 5)) ρ h = .ok (.str (cutS page none (some v))) h := by
  have z : (100000 : Nat) ≤ sizeLine := by decide
  unfold dSlT dPart dNoPart
  simp only [e_var, e1, e5, bind_ok]
  exact if_pos (by omega)
theorem slT_hi {v : Int} (l : page.length ≤ 100000) (e1 : ρ[1]? = some (some (.str page))) (e5 : ρ[5]? = some (some (.int v))) : dSlT (dVar 1) (dPart (dVar 5)) (dNoPart) ρ h = .ok (.str (cutS page (some v) none)) h := by
  have z : (100000 : Nat) ≤ sizeLine := by decide
  unfold dSlT dPart dNoPart
  simp only [e_var, e1, e5, bind_ok]
  exact if_pos (by omega)
theorem slT_hi1 {v : Int} (l : page.length ≤ 100000) (e1 : ρ[1]? = some (some (.str page))) (e5 : ρ[5]? = some (some (.int v))) : dSlT (dVar 1) (dPart (dOp (fAdd false) (dVar 5) (dC (.int 1)))) (dNoPart) ρ h = .ok (.str (cutS page (some (v + 1)) none)) h := by
  have z : (100000 : Nat) ≤ sizeLine := by decide
  have ad : fAdd false (.int v) (.int 1) h = .ok (.int (v + 1)) h := rfl
  unfold dSlT dPart dNoPart
  simp only [e_var, e1, e5, bind_ok, e_op, e_C, ad]
  exact if_pos (by omega)
/-- signs -/
structure Sgs (S : List Str) : Prop where
  ne : S ≠ []
  n : S.length ≤ 60
  l : ∀ s ∈ S, s.length ≤ 300
theorem pickS {S : List Str} (A : DrawOk r w (n + 1) h) (ne : S ≠ []) (l : S.length ≤ 300000) : ∃ s h1, F__law_pick [.ref r, .lst (S.map CM.D.str)] h = .ok (.str s) h1 ∧ s ∈ S ∧ DrawOk r w n h1 ∧ DrFr r w h h1 := by
  obtain ⟨d, h1, e, md, A1, f⟩ := (pick_sat A (xs := .lst (S.map CM.D.str)) (.inl rfl) (by simpa using ne) (by rw [List.length_map]; omega)).ex
  obtain ⟨s, hs, rfl⟩ := List.mem_map.mp md
  exact ⟨s, h1, e, hs, A1, f⟩
theorem ix_ref {k : Nat} {v : Int} (ek : h.ob k = some (.lst (R.map CM.D.str))) (v0 : 0 ≤ v) (v1 : v < R.length) : ∃ y ∈ R, R[v.toNat]? = some y ∧ fIx (.ref k) (.int v) h = .ok (.str y) h := by
  have lt : v.toNat < R.length := by omega
  refine ⟨R[v.toNat], List.getElem_mem lt, List.getElem?_eq_getElem lt, ?_⟩
  show (match seqOf h (.ref k), CM.D.int v with
    | some ds, .int i => (match atI ds i with
      | some v => CM.R.ok v h
      | none => .no)
    | _, _ => _) = _
  simp only [seqOf, ek]
  rw [atI_ge v0 (by rw [List.length_map]; exact v1), List.getElem?_map, List.getElem?_eq_getElem lt]
  rfl
theorem sub_ok {a b k : Nat} {v : Int} {y : Str} (ea : ρ[a]? = some (some (.ref k))) (eb : ρ[b]? = some (some (.int v))) (ek : h.ob k = some (.lst (R.map CM.D.str))) (v0 : 0 ≤ v) (v1 : v < R.length) : gdSub (dVar a) (dVar b) (.str y) ρ h = .ok ρ (h.put k (.lst ((R.set v.toNat y).map CM.D.str))) := by
  unfold gdSub
  have ix : ixN (R.map CM.D.str).length v = some v.toNat := by
    unfold ixN
    rw [List.length_map, if_pos v0, if_pos v1]
  simp only [e_var, ea, eb, calm_ok, refOf, ek, ix]
  rw [List.map_set]
/-- the page put together at the end -/
theorem fin_ok {k : Nat} {h : CH} {x3 x5 x6 x7 x8 x9 : Option CM.D} (ek : h.ob k = some (.lst (R.map CM.D.str))) (l : sm R + R.length ≤ 1000000) : bt_8 [some (.ref r), some (.str page), x2, x3, some (.ref k), x5, x6, x7, x8, x9] h = .rt (.str (Txt.join "\n" R)) h := by
  have j : fJoin (.str (Str.ofString "\n")) [.ref k] h = .ok (.str (Txt.join "\n" R)) h := by
    show (match seqOf h (.ref k) with
      | some ds => match strsOf ds with
        | some (ys : List Str) => if ((ys.map Str.length).sum + ys.length * (Str.ofString "\n").length ≤ 16777216) then CM.R.ok (CM.D.str (Txt.join "\n" ys)) h else .no
        | none => .no
      | none => .no) = _
    have e : strsOf (R.map CM.D.str) = some R := by
      have := strsOf_map (g := id) R
      simpa using this
    simp only [seqOf, ek, e]
    have c : (Str.ofString "\n").length = 1 := rfl
    rw [c]
    have d : (R.map Str.length).sum = sm R := rfl
    rw [d]
    exact if_pos (by omega)
  unfold bt_8
  rw [s_ret, e_m1]
  simp only [e_C, bind_ok, e_var, List.getElem?_cons_succ, List.getElem?_cons_zero, j, toS_ok]
theorem rows_len {k : Nat} (ek : h.ob k = some (.lst (R.map CM.D.str))) : fLen [.ref k] h = .ok (.int (R.length : Nat)) h := by
  show (match seqOf h (.ref k) with
    | some xs => CM.R.ok (CM.D.int xs.length) h
    | none => _) = _
  simp only [seqOf, ek, List.length_map]
theorem addT {k : Nat} {a b : List Str} (l : a.length + b.length ≤ 1000000) : fAdd true (.lst (a.map CM.D.str)) (.lst (b.map CM.D.str)) h = .ok (.ref h.nx) (h.new (.lst ((a ++ b).map CM.D.str))) := by
  have z : (1000000 : Nat) ≤ sizeLine := by decide
  show (if (a.map CM.D.str).length + (b.map CM.D.str).length ≤ sizeLine then mkL true (a.map CM.D.str ++ b.map CM.D.str) h else .no) = _
  rw [if_pos (by rw [List.length_map, List.length_map]; omega), List.map_append]
  rfl
theorem addF {a b : List Str} (l : a.length + b.length ≤ 1000000) : fAdd false (.lst (a.map CM.D.str)) (.lst (b.map CM.D.str)) h = .ok (.lst ((a ++ b).map CM.D.str)) h := by
  have z : (1000000 : Nat) ≤ sizeLine := by decide
  show (if (a.map CM.D.str).length + (b.map CM.D.str).length ≤ sizeLine then mkL false (a.map CM.D.str ++ b.map CM.D.str) h else .no) = _
  rw [if_pos (by rw [List.length_map, List.length_map]; omega), List.map_append]
  rfl
theorem sl_take {k : Nat} {v : Int} (e4 : ρ[4]? = some (some (.ref k))) (e7 : ρ[7]? = some (some (.int v))) (ek : h.ob k = some (.lst (R.map CM.D.str))) (v0 : 0 ≤ v) (v1 : v < R.length) : dSl false (dVar 4) (dNoPart) (dPart (dVar 7)) ρ h = .ok (.lst ((R.take v.toNat).map CM.D.str)) h := by
  unfold dSl dPart dNoPart
  simp only [e_var, e4, e7, bind_ok, lstOf, ek]
  rw [mkL_f, cut_lo v0 (by rw [List.length_map]; omega), List.map_take]
theorem sl_drop {k : Nat} {v : Int} (e4 : ρ[4]? = some (some (.ref k))) (e7 : ρ[7]? = some (some (.int v))) (ek : h.ob k = some (.lst (R.map CM.D.str))) (v0 : 0 ≤ v) (v1 : v < R.length) : dSl false (dVar 4) (dPart (dVar 7)) (dNoPart) ρ h = .ok (.lst ((R.drop v.toNat).map CM.D.str)) h := by
  unfold dSl dPart dNoPart
  simp only [e_var, e4, e7, bind_ok, lstOf, ek]
  rw [mkL_f, cut_hi v0 (by rw [List.length_map]; omega), List.map_drop]
theorem sl_drop1 {k : Nat} {v : Int} (e4 : ρ[4]? = some (some (.ref k))) (e7 : ρ[7]? = some (some (.int v))) (ek : h.ob k = some (.lst (R.map CM.D.str))) (v0 : 0 ≤ v) (v1 : v < R.length) : dSl false (dVar 4) (dPart (dOp (fAdd false) (dVar 7) (dC (.int 1)))) (dNoPart) ρ h = .ok (.lst ((R.drop (v.toNat + 1)).map CM.D.str)) h := by
  have ad : fAdd false (.int v) (.int 1) h = .ok (.int (v + 1)) h := rfl
  unfold dSl dPart dNoPart
  simp only [e_var, e4, e7, bind_ok, lstOf, ek, e_op, e_C, ad]
  rw [mkL_f, cut_hi (by omega) (by rw [List.length_map]; omega), List.map_drop]
  have : (v + 1).toNat = v.toNat + 1 := by omega
  rw [this]
def w4 : SD := dAsg (dTup (dCons (dOp fIx (dVar 4) (dVar 6)) (dCons (dOp fIx (dVar 4) (dVar 7)) (dNil)))) (gdTup 2 (gdCons (gdSub (dVar 4) (dVar 7)) (gdCons (gdSub (dVar 4) (dVar 6)) (gdNil))))
def w5 : SD := dAsg (dOp (fAdd true) (dSl false (dVar 4) (dNoPart) (dPart (dVar 7))) (dSl false (dVar 4) (dPart (dOp (fAdd false) (dVar 7) (dC (.int 1)))) (dNoPart))) (gdName 4)
def w6 : SD := dAsg (dOp (fAdd true) (dOp (fAdd false) (dSl false (dVar 4) (dNoPart) (dPart (dVar 7))) (dLst false (dCons (dOp fIx (dVar 4) (dVar 6)) (dNil)))) (dSl false (dVar 4) (dPart (dVar 7)) (dNoPart))) (gdName 4)
def w7 : SD := dSeq (dAsg (dM1 (fSplit true) (dOp fIx (dVar 4) (dVar 7)) (dC (.str " "))) (gdName 8)) (dSeq (dAsg (dCall 2 F__law_take (dCons (dVar 0) (dCons (dCB fLen (dCons (dVar 8) (dNil))) (dNil)))) (gdName 9)) (dSeq (dAsg (dCall 2 F__law_pick (dCons (dVar 0) (dCons (dOp (fAdd false) (dVar 2) (dVar 8)) (dNil)))) (gdSub (dVar 8) (dVar 9))) (dAsg (dM1 fJoin (dC (.str " ")) (dVar 8)) (gdSub (dVar 4) (dVar 7)))))
theorem bt7_u : bt_7 = dIfS (dB (dOp (fEq false) (dVar 3) (dC (.int 4)))) w4 (dIfS (dB (dOp (fEq false) (dVar 3) (dC (.int 5)))) w5 (dIfS (dB (dOp (fEq false) (dVar 3) (dC (.int 6)))) w6 w7)) := rfl
section
variable {k : Nat} {o v : Int} {S : List Str} {N : Nat}
/-- what the rows become -/
def Rw (r w n N : Nat) (h : CH) (u : SD) (ρ : DE) : Prop := ∃ k' x8' x9' R' h', u ρ h = .nx ((((ρ.set 4 (some (.ref k'))).set 8 x8').set 9 x9')) h' ∧ h'.ob k' = some (.lst (R'.map CM.D.str)) ∧ sm R' + (R'.length - 1) ≤ 3 * N + 301 ∧ DrawOk r w n h'
theorem w4_ok (A : DrawOk r w n h) (kr : k ≠ r) (kw : k ≠ w) (ek : h.ob k = some (.lst (R.map CM.D.str))) (tot : sm R + (R.length - 1) = N) (o0 : 0 ≤ o) (o1 : o < R.length) (v0 : 0 ≤ v) (v1 : v < R.length) : Rw r w n N h w4 [some (.ref r), x1, x2, x3, some (.ref k), x5, some (.int o), some (.int v), x8, x9] := by
  obtain ⟨y, my, _, iy⟩ := ix_ref (h := h) ek o0 o1
  obtain ⟨z, mz, _, iz⟩ := ix_ref (h := h) ek v0 v1
  have e1 : dTup (dCons (dOp fIx (dVar 4) (dVar 6)) (dCons (dOp fIx (dVar 4) (dVar 7)) (dNil))) [some (.ref r), x1, x2, x3, some (.ref k), x5, some (.int o), some (.int v), x8, x9] h = .ok (.tup [.str y, .str z]) h := by
    rw [e_tup]
    simp only [e_cons, e_op, e_var, List.getElem?_cons_succ, List.getElem?_cons_zero, bind_ok, iy, iz, e_nil]
    exact if_pos (by show 2 ≤ sizeLine; decide)
  have g1 := sub_ok (h := h) (ρ := [some (.ref r), x1, x2, x3, some (.ref k), x5, some (.int o), some (.int v), x8, x9]) (a := 4) (b := 7) (k := k) (v := v) (y := y) (R := R) rfl rfl ek v0 v1
  have g2 := sub_ok (h := h.put k (.lst ((R.set v.toNat y).map CM.D.str))) (ρ := [some (.ref r), x1, x2, x3, some (.ref k), x5, some (.int o), some (.int v), x8, x9]) (a := 4) (b := 6) (k := k) (v := o) (y := z) (R := R.set v.toNat y) rfl rfl put_same o0 (by rw [List.length_set]; exact o1)
  refine ⟨k, x8, x9, (R.set v.toNat y).set o.toNat z, (h.put k (.lst ((R.set v.toNat y).map CM.D.str))).put k (.lst (((R.set v.toNat y).set o.toNat z).map CM.D.str)), ?_, put_same, ?_, DrawOk.putk (DrawOk.putk A kr kw) kr kw⟩
  · unfold w4
    rw [s_asg, e1, toS_ok]
    have g : (gdTup 2 (gdCons (gdSub (dVar 4) (dVar 7)) (gdCons (gdSub (dVar 4) (dVar 6)) (gdNil)))) (.tup [.str y, .str z]) [some (.ref r), x1, x2, x3, some (.ref k), x5, some (.int o), some (.int v), x8, x9] h = .ok [some (.ref r), x1, x2, x3, some (.ref k), x5, some (.int o), some (.int v), x8, x9] ((h.put k (.lst ((R.set v.toNat y).map CM.D.str))).put k (.lst (((R.set v.toNat y).set o.toNat z).map CM.D.str))) := by
      unfold gdTup
      simp only [gdCons, g1, g2, calm_ok, bind_ok, gdNil]
      exact if_pos rfl
    rw [g, put_ok]
    rfl
  · have a := sm_set (R.set v.toNat y) o.toNat z
    have b := sm_set R v.toNat y
    have c := sm_mem my
    have d := sm_mem mz
    rw [List.length_set, List.length_set]
    omega
theorem w5_ok (A : DrawOk r w n h) (ek : h.ob k = some (.lst (R.map CM.D.str))) (tot : sm R + (R.length - 1) = N) (lN : N ≤ 100000) (v0 : 0 ≤ v) (v1 : v < R.length) : Rw r w n N h w5 [some (.ref r), x1, x2, x3, some (.ref k), x5, some (.int o), some (.int v), x8, x9] := by
  have s1 := sl_take (h := h) (ρ := [some (.ref r), x1, x2, x3, some (.ref k), x5, some (.int o), some (.int v), x8, x9]) (k := k) (v := v) rfl rfl ek v0 v1
  have s2 := sl_drop1 (h := h) (ρ := [some (.ref r), x1, x2, x3, some (.ref k), x5, some (.int o), some (.int v), x8, x9]) (k := k) (v := v) rfl rfl ek v0 v1
  refine ⟨h.nx, x8, x9, R.take v.toNat ++ R.drop (v.toNat + 1), h.new (.lst ((R.take v.toNat ++ R.drop (v.toNat + 1)).map CM.D.str)), ?_, new_ob, ?_, DrawOk.newk A⟩
  · unfold w5
    rw [s_asg, e_op, s1, bind_ok, s2, bind_ok, addT (k := k) (by simp; omega), toS_ok]
    rfl
  · have a := sm_cut R v.toNat
    have b := sm_drop1 R v.toNat
    rw [sm_app]
    simp only [List.length_append, List.length_take, List.length_drop]
    omega
theorem w6_ok (A : DrawOk r w n h) (ek : h.ob k = some (.lst (R.map CM.D.str))) (tot : sm R + (R.length - 1) = N) (lN : N ≤ 100000) (o0 : 0 ≤ o) (o1 : o < R.length) (v0 : 0 ≤ v) (v1 : v < R.length) : Rw r w n N h w6 [some (.ref r), x1, x2, x3, some (.ref k), x5, some (.int o), some (.int v), x8, x9] := by
  obtain ⟨y, my, _, iy⟩ := ix_ref (h := h) ek o0 o1
  have s1 := sl_take (h := h) (ρ := [some (.ref r), x1, x2, x3, some (.ref k), x5, some (.int o), some (.int v), x8, x9]) (k := k) (v := v) rfl rfl ek v0 v1
  have s2 := sl_drop (h := h) (ρ := [some (.ref r), x1, x2, x3, some (.ref k), x5, some (.int o), some (.int v), x8, x9]) (k := k) (v := v) rfl rfl ek v0 v1
  have s3 : dLst false (dCons (dOp fIx (dVar 4) (dVar 6)) (dNil)) [some (.ref r), x1, x2, x3, some (.ref k), x5, some (.int o), some (.int v), x8, x9] h = .ok (.lst ([y].map CM.D.str)) h := by
    rw [e_lst]
    simp only [e_cons, e_op, e_var, List.getElem?_cons_succ, List.getElem?_cons_zero, bind_ok, iy, e_nil]
    rfl
  have lt : R.length ≤ 100001 := by omega
  refine ⟨h.nx, x8, x9, R.take v.toNat ++ [y] ++ R.drop v.toNat, h.new (.lst ((R.take v.toNat ++ [y] ++ R.drop v.toNat).map CM.D.str)), ?_, new_ob, ?_, DrawOk.newk A⟩
  · unfold w6
    rw [s_asg, e_op, e_op, s1, bind_ok, s3, bind_ok, addF (by simp; omega), bind_ok, s2, bind_ok, addT (k := k) (by simp; omega), toS_ok]
    rfl
  · have a := sm_cut R v.toNat
    have c := sm_mem my
    rw [sm_app, sm_app, sm_cons, sm_nil]
    simp only [List.length_append, List.length_take, List.length_drop, List.length_cons, List.length_nil]
    omega
theorem w7_ok (A : DrawOk r w (n + 2) h) (kl : k < h.nx) (kr : k ≠ r) (kw : k ≠ w) (ek : h.ob k = some (.lst (R.map CM.D.str))) (tot : sm R + (R.length - 1) = N) (lN : N ≤ 100000) (v0 : 0 ≤ v) (v1 : v < R.length) (hS : Sgs S) : Rw r w n N h w7 [some (.ref r), x1, some (.lst (S.map CM.D.str)), x3, some (.ref k), x5, some (.int o), some (.int v), x8, x9] := by
  obtain ⟨y, my, gy, iy⟩ := ix_ref (h := h) ek v0 v1
  have ly : y.length ≤ N := by have := sm_mem my; omega
  have ne := split_ne (x := y) tl_sp sp_k
  have sl := split_sum (x := y) tl_sp sp_k
  generalize hW : Txt.split y " " = W at ne sl
  have sl' : sm W + (W.length - 1) = y.length := sl
  have m1 : dM1 (fSplit true) (dOp fIx (dVar 4) (dVar 7)) (dC (.str " ")) [some (.ref r), x1, some (.lst (S.map CM.D.str)), x3, some (.ref k), x5, some (.int o), some (.int v), x8, x9] h = .ok (.ref h.nx) (h.new (.lst (W.map CM.D.str))) := by
    rw [e_m1]
    simp only [e_op, e_var, List.getElem?_cons_succ, List.getElem?_cons_zero, bind_ok, e_C, iy]
    rw [split_sp (by omega), hW]
    rfl
  have A1 : DrawOk r w (n + 2) (h.new (.lst (W.map CM.D.str))) := DrawOk.newk A
  have Wp : 0 < W.length := List.length_pos_iff.mpr ne
  obtain ⟨q, h2, e2, q0, q1, A2, f2⟩ := takeI (n := n + 1) A1 (s := (W.length : Nat)) (by omega) (by omega)
  have nr : h.nx ≠ r := by have := A.lt.1; omega
  have nw : h.nx ≠ w := by have := A.lt.2; omega
  have o2 : h2.ob h.nx = some (.lst (W.map CM.D.str)) := by rw [f2.2 _ nr nw]; exact new_ob
  obtain ⟨s, h3, e3, ms, A3, f3⟩ := pickS (n := n) A2 (S := S ++ W) (by simp [hS.ne]) (by have := hS.n; simp; omega)
  have o3 : h3.ob h.nx = some (.lst (W.map CM.D.str)) := by rw [f3.2 _ nr nw]; exact o2
  have ls : s.length ≤ 300 + N := by
    rcases List.mem_append.mp ms with hs | hs
    · have := hS.l s hs; omega
    · have := sm_mem hs; omega
  have t2 : dCall 2 F__law_take (dCons (dVar 0) (dCons (dCB fLen (dCons (dVar 8) (dNil))) (dNil))) [some (.ref r), x1, some (.lst (S.map CM.D.str)), x3, some (.ref k), x5, some (.int o), some (.int v), some (.ref h.nx), x9] (h.new (.lst (W.map CM.D.str))) = .ok (.int q) h2 := by
    have ln := rows_len (h := h.new (.lst (W.map CM.D.str))) (k := h.nx) (R := W) new_ob
    simp [ln, e2]
  have ad : fAdd false (.lst (S.map CM.D.str)) (.ref h.nx) h2 = .ok (.lst ((S ++ W).map CM.D.str)) h2 := by
    have z : (1000000 : Nat) ≤ sizeLine := by decide
    show (match lstOf h2 (.lst (S.map CM.D.str)), lstOf h2 (.ref h.nx) with
      | some a, some b => if a.length + b.length ≤ sizeLine then mkL false (a ++ b) h2 else .no
      | _, _ => .no) = _
    simp only [lstOf, o2]
    rw [if_pos (by have := hS.n; rw [List.length_map, List.length_map]; omega), List.map_append]
    rfl
  have t3 : dCall 2 F__law_pick (dCons (dVar 0) (dCons (dOp (fAdd false) (dVar 2) (dVar 8)) (dNil))) [some (.ref r), x1, some (.lst (S.map CM.D.str)), x3, some (.ref k), x5, some (.int o), some (.int v), some (.ref h.nx), some (.int q)] h2 = .ok (.str s) h3 := by
    rw [e_call]
    simp only [e_cons, e_op, e_var, List.getElem?_cons_succ, List.getElem?_cons_zero, bind_ok, ad, e_nil]
    rw [if_pos (by rfl), e3]
  have g3 := sub_ok (h := h3) (ρ := [some (.ref r), x1, some (.lst (S.map CM.D.str)), x3, some (.ref k), x5, some (.int o), some (.int v), some (.ref h.nx), some (.int q)]) (a := 8) (b := 9) (k := h.nx) (v := q) (y := s) (R := W) rfl rfl o3 q0 q1
  generalize hh4 : h3.put h.nx (.lst ((W.set q.toNat s).map CM.D.str)) = h4 at g3
  have o4 : h4.ob h.nx = some (.lst ((W.set q.toNat s).map CM.D.str)) := by rw [← hh4]; exact put_same
  have A4 : DrawOk r w n h4 := by
    rw [← hh4]
    exact DrawOk.putk A3 nr nw
  have k4 : h4.ob k = some (.lst (R.map CM.D.str)) := by
    rw [← hh4, put_ne (by omega), f3.2 _ kr kw, f2.2 _ kr kw]
    show (if k = h.nx then some (MO.lst (W.map CM.D.str)) else h.ob k) = _
    rw [if_neg (by omega)]
    exact ek
  have sW := sm_set W q.toNat s
  have jl := join_len (sep := " ") tl_sp (W.set q.toNat s)
  rw [List.length_set] at jl
  have t4 : dM1 fJoin (dC (.str " ")) (dVar 8) [some (.ref r), x1, some (.lst (S.map CM.D.str)), x3, some (.ref k), x5, some (.int o), some (.int v), some (.ref h.nx), some (.int q)] h4 = .ok (.str (Txt.join " " (W.set q.toNat s))) h4 := by
    have j : fJoin (.str (Str.ofString " ")) [.ref h.nx] h4 = .ok (.str (Txt.join " " (W.set q.toNat s))) h4 := by
      show (match seqOf h4 (.ref h.nx) with
        | some ds => match strsOf ds with
          | some (ys : List Str) => if ((ys.map Str.length).sum + ys.length * (Str.ofString " ").length ≤ 16777216) then CM.R.ok (CM.D.str (Txt.join " " ys)) h4 else .no
          | none => .no
        | none => .no) = _
      have e : strsOf ((W.set q.toNat s).map CM.D.str) = some (W.set q.toNat s) := by
        have := strsOf_map (g := id) (W.set q.toNat s)
        simpa using this
      simp only [seqOf, o4, e]
      have c : (Str.ofString " ").length = 1 := rfl
      rw [c]
      refine if_pos ?_
      have d : ((W.set q.toNat s).map Str.length).sum = sm (W.set q.toNat s) := rfl
      rw [d, List.length_set]
      omega
    rw [e_m1]
    simp only [e_C, bind_ok, e_var, List.getElem?_cons_succ, List.getElem?_cons_zero, j]
  have g4 := sub_ok (h := h4) (ρ := [some (.ref r), x1, some (.lst (S.map CM.D.str)), x3, some (.ref k), x5, some (.int o), some (.int v), some (.ref h.nx), some (.int q)]) (a := 4) (b := 7) (k := k) (v := v) (y := Txt.join " " (W.set q.toNat s)) (R := R) rfl rfl k4 v0 v1
  refine ⟨k, some (.ref h.nx), some (.int q), R.set v.toNat (Txt.join " " (W.set q.toNat s)), h4.put k (.lst ((R.set v.toNat (Txt.join " " (W.set q.toNat s))).map CM.D.str)), ?_, put_same, ?_, DrawOk.putk A4 kr kw⟩
  · unfold w7
    rw [s_seq, s_asg, m1, toS_ok, g_name, put_ok, sbind_nx, s_seq, s_asg]
    simp only [List.set_cons_succ, List.set_cons_zero]
    rw [t2, toS_ok, g_name, put_ok, sbind_nx, s_seq, s_asg]
    simp only [List.set_cons_succ, List.set_cons_zero]
    rw [t3, toS_ok, g3, put_ok, sbind_nx, s_asg, t4, toS_ok, g4, put_ok]
  · have a := sm_set R v.toNat (Txt.join " " (W.set q.toNat s))
    rw [List.length_set]
    omega
end
theorem bent_ok {S : List Str} (A : DrawOk r w (n + 6) h) (lN : page.length ≤ 30000) (hS : Sgs S) : ∃ page' h1, F__law_bent_text [.ref r, .str page, .lst (S.map CM.D.str)] h = .ok (.str page') h1 ∧ page'.length ≤ 3 * page.length + 301 ∧ DrawOk r w n h1 := by
  have ne := split_ne (x := page) tl_nl nl_k
  have tot := split_sum (x := page) tl_nl nl_k
  generalize hR : Txt.split page "\n" = R at ne tot
  have tot' : sm R + (R.length - 1) = page.length := tot
  have Rp : 0 < R.length := List.length_pos_iff.mpr ne
  obtain ⟨way, h1, e1, a1, b1, A1, f1⟩ := takeI (n := n + 5) A (s := 9) (by omega) (by omega)
  have A1' : DrawOk r w (n + 5) (h1.new (.lst (R.map CM.D.str))) := DrawOk.newk A1
  have nr : h1.nx ≠ r := by have := A1.lt.1; omega
  have nw : h1.nx ≠ w := by have := A1.lt.2; omega
  obtain ⟨spot, h2, e2, a2, b2, A2, f2⟩ := takeI (n := n + 4) A1' (s := (page.length : Nat) + 1) (by omega) (by omega)
  have o2 : h2.ob h1.nx = some (.lst (R.map CM.D.str)) := by rw [f2.2 _ nr nw]; exact new_ob
  obtain ⟨other, h3, e3, a3, b3, A3, f3⟩ := takeI (n := n + 3) A2 (s := (R.length : Nat)) (by omega) (by omega)
  have o3 : h3.ob h1.nx = some (.lst (R.map CM.D.str)) := by rw [f3.2 _ nr nw]; exact o2
  obtain ⟨at_, h4, e4, a4, b4, A4, f4⟩ := takeI (n := n + 2) A3 (s := (R.length : Nat)) (by omega) (by omega)
  have o4 : h4.ob h1.nx = some (.lst (R.map CM.D.str)) := by rw [f4.2 _ nr nw]; exact o3
  have kl : h1.nx < h4.nx := by
    have x4 := f4.1
    have x3 := f3.1
    have x2 := f2.1
    have x1 : (h1.new (.lst (R.map CM.D.str))).nx = h1.nx + 1 := rfl
    omega
  suffices q : ∃ page' h5, (bt_k0 [some (.ref r), some (.str page), some (.lst (S.map CM.D.str)), none, none, none, none, none, none, none] h).res = .ok (.str page') h5 ∧ page'.length ≤ 3 * page.length + 301 ∧ DrawOk r w n h5 from q
  have s0 : bt_0 [some (.ref r), some (.str page), some (.lst (S.map CM.D.str)), none, none, none, none, none, none, none] h = .nx [some (.ref r), some (.str page), some (.lst (S.map CM.D.str)), some (.int way), some (.ref h1.nx), none, none, none, none, none] (h1.new (.lst (R.map CM.D.str))) := by
    have sp : fSplit true (.str page) [.str (Str.ofString "\n")] h1 = .ok (.ref h1.nx) (h1.new (.lst (R.map CM.D.str))) := by
      rw [split_nl (by omega), hR]
      rfl
    unfold bt_0
    rw [s_par]
    simp only [e_cons, e_call, e_var, List.getElem?_cons_zero, List.getElem?_cons_succ, bind_ok, e_C, e_nil, List.length_cons, List.length_nil, if_true, e1, e_m1, sp, toS_ok]
    rfl
  have s1 : bt_1 [some (.ref r), some (.str page), some (.lst (S.map CM.D.str)), some (.int way), some (.ref h1.nx), none, none, none, none, none] (h1.new (.lst (R.map CM.D.str))) = .nx [some (.ref r), some (.str page), some (.lst (S.map CM.D.str)), some (.int way), some (.ref h1.nx), some (.int spot), some (.int other), none, none, none] h3 := by
    have lp : ∀ g : CH, fLen [.str page] g = .ok (.int (page.length : Nat)) g := fun g => by
      have z : (30000 : Nat) ≤ sizeLine := by decide
      exact if_pos (by omega)
    have ad : ∀ g : CH, fAdd false (.int (page.length : Nat)) (.int 1) g = .ok (.int ((page.length : Nat) + 1)) g := fun g => rfl
    have ln := rows_len (h := h2) (k := h1.nx) (R := R) o2
    unfold bt_1
    rw [s_par]
    simp only [e_cons, e_call, e_op, e_CB, e_var, List.getElem?_cons_zero, List.getElem?_cons_succ, bind_ok, e_C, e_nil, lp, ad, List.length_cons, List.length_nil, if_true, e2, ln, e3, toS_ok]
    rfl
  have s2 : bt_2 [some (.ref r), some (.str page), some (.lst (S.map CM.D.str)), some (.int way), some (.ref h1.nx), some (.int spot), some (.int other), none, none, none] h3 = .nx [some (.ref r), some (.str page), some (.lst (S.map CM.D.str)), some (.int way), some (.ref h1.nx), some (.int spot), some (.int other), some (.int at_), none, none] h4 := by
    have ln := rows_len (h := h3) (k := h1.nx) (R := R) o3
    unfold bt_2
    rw [s_asg]
    simp only [e_cons, e_call, e_CB, e_var, List.getElem?_cons_zero, List.getElem?_cons_succ, bind_ok, e_nil, ln, List.length_cons, List.length_nil, if_true, e4, toS_ok]
    rfl
  unfold bt_k0
  rw [seqX s0]
  unfold bt_k1
  rw [seqX s1]
  unfold bt_k2
  rw [seqX s2]
  have c1 := slT_lo (h := h4) (ρ := [some (.ref r), some (.str page), some (.lst (S.map CM.D.str)), some (.int way), some (.ref h1.nx), some (.int spot), some (.int other), some (.int at_), none, none]) (v := spot) (page := page) (by omega) rfl rfl
  have L1 := cutS_length page none (some spot)
  have c2 := slT_hi1 (h := h4) (ρ := [some (.ref r), some (.str page), some (.lst (S.map CM.D.str)), some (.int way), some (.ref h1.nx), some (.int spot), some (.int other), some (.int at_), none, none]) (v := spot) (page := page) (by omega) rfl rfl
  have L2 := cutS_length page (some (spot + 1)) none
  have A4' : DrawOk r w n h4 := A4.mono (by omega)
  unfold bt_k3
  rw [s_seq]
  unfold bt_3
  by_cases w0 : way = 0
  · subst w0
    obtain ⟨s, h5, e5, ms, A5, f5⟩ := pickS (n := n + 1) A4 hS.ne (by have := hS.n; omega)
    have ls := hS.l s ms
    have c3 := slT_hi (h := h5) (ρ := [some (.ref r), some (.str page), some (.lst (S.map CM.D.str)), some (.int 0), some (.ref h1.nx), some (.int spot), some (.int other), some (.int at_), none, none]) (v := spot) (page := page) (by omega) rfl rfl
    have L3 := cutS_length page (some spot) none
    have pk : dCall 2 F__law_pick (dCons (dVar 0) (dCons (dVar 2) (dNil))) [some (.ref r), some (.str page), some (.lst (S.map CM.D.str)), some (.int 0), some (.ref h1.nx), some (.int spot), some (.int other), some (.int at_), none, none] h4 = .ok (.str s) h5 := by simp [e5]
    refine ⟨cutS page none (some spot) ++ s ++ cutS page (some spot) none, h5, ?_, ?_, A5.mono (by omega)⟩
    · rw [ifY rfl, s_ret, e_op, e_op, c1, bind_ok, pk, bind_ok, add_ss (by omega), bind_ok, c3, bind_ok, add_ss (by rw [len_app]; omega)]
      rfl
    · rw [len_app, len_app]
      omega
  rw [ifN rfl w0, s_next, sbind_nx]
  unfold bt_k4
  rw [s_seq]
  unfold bt_4
  by_cases w1 : way = 1
  · subst w1
    refine ⟨cutS page none (some spot) ++ cutS page (some (spot + 1)) none, h4, ?_, ?_, A4'⟩
    · rw [ifY rfl, s_ret, e_op, c1, bind_ok, c2, bind_ok, add_ss (by omega)]
      rfl
    · rw [len_app]
      omega
  rw [ifN rfl w1, s_next, sbind_nx]
  unfold bt_k5
  rw [s_seq]
  unfold bt_5
  by_cases w2 : way = 2
  · subst w2
    obtain ⟨s, h5, e5, ms, A5, f5⟩ := pickS (n := n + 1) A4 hS.ne (by have := hS.n; omega)
    have ls := hS.l s ms
    have c3 := slT_hi1 (h := h5) (ρ := [some (.ref r), some (.str page), some (.lst (S.map CM.D.str)), some (.int 2), some (.ref h1.nx), some (.int spot), some (.int other), some (.int at_), none, none]) (v := spot) (page := page) (by omega) rfl rfl
    have pk : dCall 2 F__law_pick (dCons (dVar 0) (dCons (dVar 2) (dNil))) [some (.ref r), some (.str page), some (.lst (S.map CM.D.str)), some (.int 2), some (.ref h1.nx), some (.int spot), some (.int other), some (.int at_), none, none] h4 = .ok (.str s) h5 := by simp [e5]
    refine ⟨cutS page none (some spot) ++ s ++ cutS page (some (spot + 1)) none, h5, ?_, ?_, A5.mono (by omega)⟩
    · rw [ifY rfl, s_ret, e_op, e_op, c1, bind_ok, pk, bind_ok, add_ss (by omega), bind_ok, c3, bind_ok, add_ss (by rw [len_app]; omega)]
      rfl
    · rw [len_app, len_app]
      omega
  rw [ifN rfl w2, s_next, sbind_nx]
  unfold bt_k6
  rw [s_seq]
  unfold bt_6
  by_cases w3 : way = 3
  · subst w3
    refine ⟨cutS page none (some spot), h4, ?_, by omega, A4'⟩
    rw [ifY rfl, s_ret, c1]
    rfl
  rw [ifN rfl w3, s_next, sbind_nx]
  unfold bt_k7
  rw [s_seq, bt7_u]
  have rest : Rw r w n page.length h4 (dIfS (dB (dOp (fEq false) (dVar 3) (dC (.int 4)))) w4 (dIfS (dB (dOp (fEq false) (dVar 3) (dC (.int 5)))) w5 (dIfS (dB (dOp (fEq false) (dVar 3) (dC (.int 6)))) w6 w7))) [some (.ref r), some (.str page), some (.lst (S.map CM.D.str)), some (.int way), some (.ref h1.nx), some (.int spot), some (.int other), some (.int at_), none, none] := by
    unfold Rw
    by_cases y4 : way = 4
    · subst y4
      rw [ifY rfl]
      exact w4_ok A4' nr nw o4 tot' a3 b3 a4 b4
    rw [ifN rfl y4]
    by_cases y5 : way = 5
    · subst y5
      rw [ifY rfl]
      exact w5_ok (o := other) A4' o4 tot' (by omega) a4 b4
    rw [ifN rfl y5]
    by_cases y6 : way = 6
    · subst y6
      rw [ifY rfl]
      exact w6_ok A4' o4 tot' (by omega) a3 b3 a4 b4
    rw [ifN rfl y6]
    exact w7_ok (o := other) A4 kl nr nw o4 tot' (by omega) a4 b4 hS
  obtain ⟨k', x8', x9', R', h5, e5, o5, l5, A5⟩ := rest
  have jl := join_len (sep := "\n") tl_nl R'
  refine ⟨Txt.join "\n" R', h5, ?_, by omega, A5⟩
  rw [e5, sbind_nx]
  simp only [List.set_cons_succ, List.set_cons_zero]
  unfold bt_k8
  rw [fin_ok (page := page) o5 (by omega)]
  rfl
end
end W_whilemerged_k78_texts_of_histories_spoil
namespace W_whilemerged_k78_texts_of_histories_spoil
open PySem PySem.Spec PyProof.Rows L2 CM
open TL (tl joinL numL)
def lb_0 : SD := dAsg (dLc false (dRng1 (dCons (dCall 2 F__law_take (dCons (dVar 1) (dCons (dC (.int 9)) (dNil)))) (dNil))) (gdName 5) (dYes) (dCall 1 F__law_text_deed (dCons (dVar 1) (dNil))) [5]) (gdName 4)
def lb_1 : SD := dAsg (dM1 fJoin (dC (.str "")) (dLc false (dSeqI (dVar 4)) (gdName 7) (dYes) (dCall 1 F__law_deed_line (dCons (dVar 7) (dNil))) [7])) (gdName 6)
def lb_2 : SD := dFor (dRng1 (dCons (dCall 2 F__law_pick (dCons (dVar 1) (dCons (dLst false (dCons (dC (.int 0)) (dCons (dC (.int 1)) (dCons (dC (.int 1)) (dCons (dC (.int 2)) (dCons (dC (.int 3)) (dNil))))))) (dNil)))) (dNil))) (gdName 8) (dAsg (dCall 3 F__law_bent_text (dCons (dVar 1) (dCons (dVar 6) (dCons (dVar 2) (dNil))))) (gdName 6))
def lb_3 : SD := dAsg (dOp (fAdd false) (dVar 6) (dCall 2 F__law_pick (dCons (dVar 1) (dCons (dLst false (dCons (dC (.str "")) (dCons (dC (.str "")) (dCons (dC (.str "")) (dCons (dC (.str "\n")) (dCons (dC (.str "stop")) (dCons (dC (.str "stop \n")) (dCons (dC (.str "x")) (dNil))))))))) (dNil))))) (gdName 6)
def lb_4 : SD := dAsg (dCall 1 F__law_read (dCons (dVar 6) (dNil))) (gdName 9)
def lb_5 : SD := dIfS (dB (dCB (fIsX xs0 [] kt0) (dCons (dVar 9) (dCons (dC (.ty "int")) (dNil))))) (dSeq (dIfS (dNot (dB (dLamC 2 F__law_is (dCall 1 F_read_history (dCons (dVar 6) (dNil))) (dCons (dC (.str "text")) (dCons (dVar 9) (dNil)))))) (dRet (dC (.bl false))) (dNext)) (dIfS (dNot (dB (dLamC 2 F__law_is (dCallN 0 1 ([.k 0]) F_read_history (dNil) (dCons (dVar 6) (dNil))) (dCons (dC (.str "text")) (dCons (dVar 9) (dNil)))))) (dRet (dC (.bl false))) (dNext))) (dIfS (dOr (dB (dOp (fEq true) (dCB fRepA (dCons (dCall 1 F_read_history (dCons (dVar 6) (dNil))) (dNil))) (dCB fRepA (dCons (dVar 9) (dNil))))) (dB (dOp (fEq true) (dCall 1 F_history_text (dCons (dCall 1 F_read_history (dCons (dVar 6) (dNil))) (dNil))) (dVar 6)))) (dRet (dC (.bl false))) (dNext))
def lb_6 : SD := dAsg (dCall 2 F__law_pick (dCons (dVar 1) (dCons (dLst false (dCons (dC .non) (dCons (dC (.int 5)) (dCons (dTup (dNil)) (dCons (dLst false (dNil)) (dCons (dDNew false) (dCons (dC (.bl true)) (dCons (dLst false (dCons (dVar 6) (dNil))) (dCons (dTup (dCons (dVar 6) (dNil))) (dCons (dOp fPow (dC (.int 10)) (dC (.int 30))) (dNil))))))))))) (dNil)))) (gdName 10)
def lb_7 : SD := dIfS (dNot (dB (dLamC 2 F__law_is (dCall 1 F_read_history (dCons (dVar 10) (dNil))) (dCons (dC (.str "text")) (dCons (dC (.int 0)) (dNil)))))) (dRet (dC (.bl false))) (dNext)
def lb_k7 : SD := lb_7
def lb_k6 : SD := dSeq lb_6 lb_k7
def lb_k5 : SD := dSeq lb_5 lb_k6
def lb_k4 : SD := dSeq lb_4 lb_k5
def lb_k3 : SD := dSeq lb_3 lb_k4
def lb_k2 : SD := dSeq lb_2 lb_k3
def lb_k1 : SD := dSeq lb_1 lb_k2
def lb_k0 : SD := dSeq lb_0 lb_k1
def lrng : TDw := (dRng1 (dCons (dOp (fAdd false) (dC (.int 6)) (dCB fMin (dCons (dCB fLen (dCons (dVar 0) (dNil))) (dCons (dC (.int 24)) (dNil))))) (dNil)))
def lh1 : SD := dAsg (dLst false (dCons (dC (.str "")) (dCons (dC (.str " ")) (dCons (dC (.str "\n")) (dCons (dC (.str "0")) (dCons (dC (.str "7")) (dCons (dC (.str "-")) (dCons (dC (.str "00")) (dCons (dC (.str "up")) (dCons (dC (.str "down")) (dCons (dC (.str "stop")) (dCons (dC (.str "step")) (dCons (dC (.str "cover")) (dCons (dC (.str "1000000000")) (dCons (dC (.str "+1")) (dNil)))))))))))))))) (gdName 2)
def lh2 : SD := dAsg (dOp (fAdd false) (dVar 2) (dLst false (dCons (dC (.str "1000000001")) (dCons (dOp fMulS (dC (.str "9")) (dC (.int 300))) (dCons (dC (.str "write")) (dCons (dC (.str "begin")) (dCons (dC (.str "x")) (dCons (dC (.str "  ")) (dCons (dC (.str "_")) (dCons (dC (.str "1_0")) (dCons (dC (.str "Stop")) (dCons (dC (.str "UP")) (dNil))))))))))))) (gdName 2)
def lend : SD := dRet (dC (.bl true))
theorem law_u : u_law = dSeq (dAsg (dCall 1 F__law_begun (dCons (dVar 0) (dNil))) (gdName 1)) (dSeq lh1 (dSeq lh2 (dSeq (dFor lrng (gdName 3) lb_k0) lend))) := rfl
section
variable {h h' : CH} {page : Str} {r w i j n m k : Nat} {ds l : List CM.D} {ρ : DE} {x0 x2 x3 x4 x5 x6 x7 x8 x9 x10 : Option CM.D} {S : List Str}
theorem refusal_tx {i : Int} : F__law_refusal (.ex 6 [(Str.ofString "line", .int i)] h') [] h = .ok (.tup [.str (Str.ofString "text"), .int i]) h' := by kernel_rfl
theorem is_ok2 {rr : CM.R CM.D} {a b : CM.D} (e : F__law_refusal rr [] h = .ok (.tup [a, b]) h') (sa : SW 13 60 a) (sb : SW 13 60 b) : F__law_is rr [a, b] h = .ok (.bl true) h' := by
  obtain ⟨t, rt⟩ := rep_tup (ds := [a, b]) (wt := 60) (fun x hx => by
    simp only [List.mem_cons, List.not_mem_nil, or_false] at hx
    rcases hx with rfl | rfl
    · exact sa
    · exact sb) (by simp)
  show (u__law_is rr [none, some a, some b] h).res = _
  unfold u__law_is
  have e1 : dLamF F__law_refusal rr [none, some a, some b] h = .ok (.tup [a, b]) h' := by
    show noxR (F__law_refusal rr [] h) = _
    rw [e]
    rfl
  have e2 : dTup (dCons (dVar 1) (dCons (dVar 2) (dNil))) [none, some a, some b] h' = .ok (.tup [a, b]) h' := by
    simp [show (2 : Nat) ≤ sizeLine from by decide]
  rw [s_ret, e_op]
  simp only [e_CB, e_cons, e_nil, e1, bind_ok, rt, e2, eq_ss, b_f, beq_self_eq_true]
  rfl
theorem SW.intk {n k b : Nat} (hk : k ≤ 1000000000) (hb : 40 ≤ b) : SW (n + 1) b (.int (k : Int)) := (SW.int hk).le hb
theorem isi_ref (eo : h.ob k = some (.lst ds)) : fIsX xs0 [] kt0 [.ref k, .ty "int"] h = .ok (.bl false) h := by
  have t : tgOf h (.ref k) = some (.b "list") := by simp only [tgOf, eo]
  show (match tgOf h (.ref k), clsOf (.ty "int") with
    | some a, some b => if okTg [] a = true then (match kt0 a b with
      | some r => CM.R.ok (CM.D.bl r) h
      | none => .no) else .no
    | _, _ => .no) = _
  rw [t]
  kernel_rfl
theorem rep_ref {wt : Nat} (H : ∀ d ∈ ds, SW 13 wt d) (lz : ds.length * (wt + 1) ≤ 1000000) : ∃ t, (∀ g : CH, fRepA [.lst ds] g = .ok (.str t) g) ∧ ∀ (g : CH) (k : Nat), g.ob k = some (.lst ds) → fRepA [.ref k] g = .ok (.str t) g := by
  obtain ⟨ps, e, s1, s2, s3, s4⟩ := SW.alls H
  have sh : (PyData.list ps).showable = true := s1
  have lf : (PyData.list ps).leavesShort 13 = true := s2
  have wt2 : (PyData.list ps).weight ≤ 1000000 := Nat.le_trans s3 lz
  have dp : (PyData.list ps).depth ≤ 60 := by
    show PyData.depthAll ps + 1 ≤ 60
    omega
  refine ⟨(PyData.list ps).shown, fun g => ?_, fun g k eg => ?_⟩
  · have e' := tqs_toQ (h := g) e
    exact rep_val (fun _ e => nomatch e) (fun e => nomatch e) (fun _ e => nomatch e) (fun _ e => nomatch e) (by rw [toQ_lst, e']; rfl) rfl sh lf wt2 dp
  · have e' := tqs_toQ (h := g) e
    refine rep_val (fun _ e => nomatch e) (fun e => nomatch e) (fun _ e => nomatch e) (fun _ e => nomatch e) (by rw [toQ_ref eg, e']; rfl) ?_ sh lf wt2 dp
    unfold boxed
    have : seqOf g (.ref k) = some ds := by simp only [seqOf, eg]
    rw [this]
    rfl
theorem ht_good {X : CM.D} (hX : X = .lst ds ∨ X = .tup ds) (H : ∀ d ∈ ds, isTD d = true) (lz : ds.length ≤ 5000) : F_history_text [X] h = .ok (.str (pageD ds)) h := by
  have hI : ∀ d ∈ ds, Item d := fun d hd => by
    obtain ⟨w, r, T⟩ := Td.of (H d hd)
    rw [T.e]
    refine ⟨pq_of fun x hx => ?_, fun l e => by cases e; have := T.ln; simp only [List.length_cons]; omega⟩
    rcases List.mem_cons.mp hx with rfl | hx
    · trivial
    · have k := T.ps x hx
      rw [Bool.or_eq_true] at k
      rcases k with k | k
      · rcases kindB_is k with rfl | rfl <;> trivial
      · obtain ⟨n, rfl, _⟩ := numB_is k; trivial
  rw [history_ok hX hI lz]
  unfold HTx
  rw [fb_all ds 0 H]
theorem page_ok (hi : ρ[i]? = some (some (.lst ds))) (hj : j < ρ.length) (H : ∀ d ∈ ds, isTD d = true) (lz : ds.length ≤ 5000) : dM1 fJoin (dC (.str "")) (dLc false (dSeqI (dVar i)) (gdName j) (dYes) (dCall 1 F__law_deed_line (dCons (dVar j) (dNil))) [j]) ρ h = .ok (.str (pageD ds)) h := by
  have lc : dLc false (dSeqI (dVar i)) (gdName j) (dYes) (dCall 1 F__law_deed_line (dCons (dVar j) (dNil))) [j] ρ h = .ok (.lst ((ds.map fun d => lineD d ++ "\n").map CM.D.str)) h := by
    rw [lc_seq (enc := id) (xs := ds) (fun _ => true) (fun d => CM.D.str (lineD d ++ "\n")) (by rw [e_var, hi]; simp) (Nat.le_trans lz (by decide)) fun x hx => by
      obtain ⟨w, r, T⟩ := Td.of (H x hx)
      refine ⟨(wipeD ρ [j]).set j (some x), rfl, rfl, fun _ => ?_⟩
      have g : dVar j ((wipeD ρ [j]).set j (some x)) h = .ok x h := by
        rw [e_var, List.getElem?_set_self (by simpa [wipeD] using hj)]
      rw [e_call]
      simp only [e_cons, g, bind_ok, e_nil]
      rw [if_pos (by rfl), deed_line_ok T]]
    rw [List.filter_eq_self.mpr fun _ _ => rfl, List.map_map]
    rfl
  rw [e_m1, e_C, bind_ok]
  simp only [lc, bind_ok, join_fit (pages_fit H lz)]
  rfl
theorem st0 (A : DrawOk r w (n + 97) h) : ∃ ds h1, lb_0 [x0, some (.ref r), x2, x3, x4, x5, x6, x7, x8, x9, x10] h = .nx [x0, some (.ref r), x2, x3, some (.lst ds), x5, x6, x7, x8, x9, x10] h1 ∧ ds.length ≤ 8 ∧ (∀ d ∈ ds, isTD d = true) ∧ DrawOk r w n h1 := by
  obtain ⟨v, h1, e1, a1, b1, A1, f1⟩ := takeI (n := n + 96) A (s := 9) (by omega) (by omega)
  obtain ⟨m, rfl⟩ := num_nat a1
  have m8 : m ≤ 8 := by omega
  obtain ⟨ds, h2, e2, l2, p2, A2, f2⟩ := lc_draw (c := 12) (r := r) (w := w) (n := n) (h := h) (h0 := h1) (ρ := [x0, some (.ref r), x2, x3, x4, x5, x6, x7, x8, x9, x10]) (ta := dCall 2 F__law_take (dCons (dVar 1) (dCons (dC (.int 9)) (dNil)))) (tg := gdName 5) (te := dCall 1 F__law_text_deed (dCons (dVar 1) (dNil))) (vs := [5]) (P := fun d => isTD d = true) (m := m) (by simp [e1]) (by omega) (fun i n h A => by
    obtain ⟨d, h1, e1, hk, A1, f1⟩ := text_deed_ok A
    exact ⟨_, d, h1, rfl, by simp [wipeD, e1], hk, A1, f1⟩) (A1.mono (by omega))
  refine ⟨ds, h2, ?_, by omega, p2, A2⟩
  unfold lb_0
  rw [s_asg, e2]
  rfl
theorem st1 (H : ∀ d ∈ ds, isTD d = true) (lz : ds.length ≤ 8) : lb_1 [x0, some (.ref r), x2, x3, some (.lst ds), x5, x6, x7, x8, x9, x10] h = .nx [x0, some (.ref r), x2, x3, some (.lst ds), x5, some (.str (pageD ds)), x7, x8, x9, x10] h ∧ (pageD ds).length ≤ 488 := by
  have := page_len H
  refine ⟨?_, by omega⟩
  unfold lb_1
  rw [s_asg, page_ok (ds := ds) rfl (by simp) H (by omega)]
  rfl
def bnd : Nat → Nat
  | 0 => 17089
  | 1 => 5596
  | 2 => 1765
  | _ => 488
theorem st2 (A : DrawOk r w (n + 19) h) (hS : Sgs S) (lp : page.length ≤ 488) : ∃ page' y8 h1, lb_2 [x0, some (.ref r), some (.lst (S.map CM.D.str)), x3, x4, x5, some (.str page), x7, x8, x9, x10] h = .nx [x0, some (.ref r), some (.lst (S.map CM.D.str)), x3, x4, x5, some (.str page'), x7, y8, x9, x10] h1 ∧ page'.length ≤ 17089 ∧ DrawOk r w n h1 := by
  obtain ⟨q, h1, e1, mq, A1, f1⟩ := pickI (n := n + 18) A (l := [0, 1, 1, 2, 3]) (by simp) (by simp)
  have q3 : 0 ≤ q ∧ q ≤ 3 := by
    simp only [List.mem_cons, List.not_mem_nil, or_false] at mq
    omega
  obtain ⟨m, rfl⟩ := num_nat q3.1
  have it : dRng1 (dCons (dCall 2 F__law_pick (dCons (dVar 1) (dCons (dLst false (dCons (dC (.int 0)) (dCons (dC (.int 1)) (dCons (dC (.int 1)) (dCons (dC (.int 2)) (dCons (dC (.int 3)) (dNil))))))) (dNil)))) (dNil)) [x0, some (.ref r), some (.lst (S.map CM.D.str)), x3, x4, x5, some (.str page), x7, x8, x9, x10] h = .ok ((rgI m).map CM.D.int, none) h1 := by
    have ls : dLst false (dCons (dC (.int 0)) (dCons (dC (.int 1)) (dCons (dC (.int 1)) (dCons (dC (.int 2)) (dCons (dC (.int 3)) (dNil)))))) [x0, some (.ref r), some (.lst (S.map CM.D.str)), x3, x4, x5, some (.str page), x7, x8, x9, x10] h = .ok (.lst (inL [0, 1, 1, 2, 3])) h := by kernel_rfl
    have c1 : dCall 2 F__law_pick (dCons (dVar 1) (dCons (dLst false (dCons (dC (.int 0)) (dCons (dC (.int 1)) (dCons (dC (.int 1)) (dCons (dC (.int 2)) (dCons (dC (.int 3)) (dNil))))))) (dNil))) [x0, some (.ref r), some (.lst (S.map CM.D.str)), x3, x4, x5, some (.str page), x7, x8, x9, x10] h = .ok (.int m) h1 := by
      rw [e_call]
      simp only [e_cons, ls, e_var, List.getElem?_cons_succ, List.getElem?_cons_zero, bind_ok, e_nil]
      rw [if_pos (by rfl), e1]
    unfold dRng1
    rw [e_cons, c1, bind_ok, e_nil, bind_ok, bind_ok]
    have z : -(2 ^ 62) ≤ (m : Int) ∧ (m : Int) < 2 ^ 62 := by omega
    simp only [if_pos z, Int.toNat_natCast, rgD_rgI]
  have lr : (rgI m).length = m := by simp [rgI]
  obtain ⟨ρ', h2, L, ⟨p', y8, eρ, r3, lp', A'⟩⟩ := forL_fold (tg := gdName 8) (u := dAsg (dCall 3 F__law_bent_text (dCons (dVar 1) (dCons (dVar 6) (dCons (dVar 2) (dNil))))) (gdName 6)) (enc := CM.D.int) (fun rest ρ hh => ∃ (p' : Str) (y8 : Option CM.D), ρ = [x0, some (.ref r), some (.lst (S.map CM.D.str)), x3, x4, x5, some (.str p'), x7, y8, x9, x10] ∧ rest.length ≤ 3 ∧ p'.length ≤ bnd rest.length ∧ DrawOk r w (n + 6 * rest.length) hh)
    (fun x rest ρ hh ⟨p', y8, eρ, r3, lp', A'⟩ => by
      subst eρ
      simp only [List.length_cons] at lp' A' r3
      have b30 : p'.length ≤ 5596 := by
        have : ∀ k : Nat, k ≤ 2 → bnd (k + 1) ≤ 5596 := fun k hk => by
          have : k = 0 ∨ k = 1 ∨ k = 2 := by omega
          rcases this with rfl | rfl | rfl <;> decide
        exact Nat.le_trans lp' (this _ (by omega))
      obtain ⟨p2, h2, e2, l2, A2⟩ := bent_ok (n := n + 6 * rest.length) (page := p') (S := S) (A'.mono (by omega)) (by omega) hS
      refine ⟨_, hh, _, h2, rfl, ?_, p2, some (.int x), rfl, by omega, ?_, A2⟩
      · rw [s_asg]
        simp only [List.set_cons_succ, List.set_cons_zero, e_call, e_cons, e_var, List.getElem?_cons_succ, List.getElem?_cons_zero, bind_ok, e_nil, List.length_cons, List.length_nil]
        rw [if_pos trivial, e2]
        rfl
      · have : ∀ k : Nat, k ≤ 2 → 3 * bnd (k + 1) + 301 ≤ bnd k := fun k hk => by
          have : k = 0 ∨ k = 1 ∨ k = 2 := by omega
          rcases this with rfl | rfl | rfl <;> decide
        have := this rest.length (by omega)
        omega)
    (xs := rgI m) (ρ := [x0, some (.ref r), some (.lst (S.map CM.D.str)), x3, x4, x5, some (.str page), x7, x8, x9, x10]) (h := h1) ⟨page, x8, rfl, by rw [lr]; omega, by
      rw [lr]
      have : ∀ k : Nat, k ≤ 3 → 488 ≤ bnd k := fun k hk => by
        have : k = 0 ∨ k = 1 ∨ k = 2 ∨ k = 3 := by omega
        rcases this with rfl | rfl | rfl | rfl <;> decide
      exact Nat.le_trans lp (this m (by omega)), by rw [lr]; exact A1.mono (by omega)⟩
  refine ⟨p', y8, h2, ?_, lp', by simpa using A'⟩
  unfold lb_2
  rw [s_for, it, toS_ok]
  simp only [unl_none]
  rw [L, eρ]
def tails : List Str := [Str.ofString "", Str.ofString "", Str.ofString "", Str.ofString "\n", Str.ofString "stop", Str.ofString "stop \n", Str.ofString "x"]
theorem st3 (A : DrawOk r w (n + 1) h) (lp : page.length ≤ 17089) : ∃ page' h1, lb_3 [x0, some (.ref r), x2, x3, x4, x5, some (.str page), x7, x8, x9, x10] h = .nx [x0, some (.ref r), x2, x3, x4, x5, some (.str page'), x7, x8, x9, x10] h1 ∧ page'.length ≤ 17095 ∧ DrawOk r w n h1 := by
  obtain ⟨s, h1, e1, ms, A1, f1⟩ := pickS (n := n) A (S := tails) (by decide) (by decide)
  have ls : s.length ≤ 6 := by
    have : tails.all (fun s => decide (s.length ≤ 6)) = true := by decide +kernel
    exact of_decide_eq_true (List.all_eq_true.mp this s ms)
  refine ⟨page ++ s, h1, ?_, by rw [len_app]; omega, A1⟩
  have ll : dLst false (dCons (dC (.str "")) (dCons (dC (.str "")) (dCons (dC (.str "")) (dCons (dC (.str "\n")) (dCons (dC (.str "stop")) (dCons (dC (.str "stop \n")) (dCons (dC (.str "x")) (dNil)))))))) [x0, some (.ref r), x2, x3, x4, x5, some (.str page), x7, x8, x9, x10] h = .ok (.lst (tails.map CM.D.str)) h := by kernel_rfl
  unfold lb_3
  rw [s_asg, e_op]
  simp only [e_call, e_cons, e_var, List.getElem?_cons_succ, List.getElem?_cons_zero, bind_ok, ll, e_nil, List.length_cons, List.length_nil]
  rw [if_pos trivial, e1, bind_ok, add_ss (by omega)]
  rfl
/-- how many lines a good page has -/
theorem Pg.few {init : List Str} {last : Str} (P : Pg page init last) (b : badN init last = none) : init.length * 5 ≤ page.length := by
  have g := P.good b
  have tot := split_sum (x := page) tl_nl nl_k
  rw [P.e] at tot
  have four : ∀ y ∈ init, 4 ≤ y.length := fun y hy => by
    have td := g.1 _ (List.mem_map_of_mem hy)
    have nn : CM.isNon (lineV y) = false := by
      cases e : lineV y <;> rw [e] at td <;> first | rfl | cases td
    have lb := (lineV_td nn).2
    obtain ⟨w, r, T⟩ := Td.of td
    rw [← lb, TL.len_tl, tl_line, T.words]
    have w4 : 4 ≤ (tl w).length := by
      have := T.sz
      rcases szW_is (w := w) (by omega) with rfl | rfl | rfl | rfl | rfl | rfl <;> decide +kernel
    cases r with
    | nil => simpa [joinL] using w4
    | cons a l =>
      show 4 ≤ (tl w ++ ([32] ++ joinL [32] ((((a :: l).map strD)).map tl))).length
      rw [List.length_append]
      omega
  have sm4 : ∀ l : List Str, (∀ y ∈ l, 4 ≤ y.length) → l.length * 4 ≤ (l.map (·.length)).sum := fun l => by
    induction l with
    | nil => intro _; exact Nat.zero_le _
    | cons a l ih =>
      intro H
      have := ih fun y hy => H y (List.mem_cons_of_mem _ hy)
      have := H a (List.mem_cons_self ..)
      simp only [List.map_cons, List.sum_cons, List.length_cons, Nat.add_mul]
      omega
  have := sm4 init four
  rw [List.map_append, List.sum_append] at tot
  simp only [List.length_append, List.length_cons, List.length_nil] at tot
  omega
theorem fbl_lt : ∀ (ls : List Str) (k i : Nat), fbl k ls = some i → i < k + ls.length
  | [], _, _, e => by cases e
  | l :: ls, k, i, e => by
    unfold fbl at e
    by_cases q : CM.isNon (lineV l) = true
    · rw [if_pos q] at e
      cases e
      simp only [List.length_cons]
      omega
    · rw [if_neg q] at e
      have := fbl_lt ls (k + 1) i e
      simp only [List.length_cons]
      omega
theorem badN_le {init : List Str} {last : Str} {i : Nat} (e : badN init last = some i) : i ≤ init.length := by
  cases q : fbl 0 init with
  | some j =>
    rw [badN_i q] at e
    cases e
    have := fbl_lt init 0 i q
    omega
  | none =>
    by_cases z : last = Str.ofString ""
    · rw [badN_y q z] at e; cases e
    · rw [badN_n q z] at e
      cases e
      exact Nat.le_refl _
theorem DrawOk.fr0' {h1 : CH} (A : DrawOk r w n h) (f : Fr [] h h1) : DrawOk r w n h1 := A.keep f.1 fun j hj => f.2 j (by rcases hj with rfl | rfl; exact A.lt.1; exact A.lt.2) (by simp)
def lb45 : SD := dSeq lb_4 lb_5
theorem lamC_ok {tb : TD} {ts : TDs} {a b : CM.D} (ets : ts ρ h = .ok [a, b] h) (eis : F__law_is (tb ρ h) [a, b] h = .ok (.bl true) h') : dLamC 2 F__law_is tb ts ρ h = .ok (.bl true) h' := by
  unfold dLamC
  rw [ets, bind_ok, if_pos (by rfl), eis]
  rfl
theorem st45 (A : DrawOk r w n h) (lp : page.length ≤ 17095) : ∃ y9 h1, lb45 [x0, some (.ref r), x2, x3, x4, x5, some (.str page), x7, x8, x9, x10] h = .nx [x0, some (.ref r), x2, x3, x4, x5, some (.str page), x7, x8, y9, x10] h1 ∧ DrawOk r w n h1 := by
  obtain ⟨init, last, P⟩ := Pg.of (page := page) (by omega)
  have lni : init.length ≤ 100000 := P.len
  obtain ⟨h1, f1, k1, q1⟩ := law_read_ok P (h := h)
  have A1 := DrawOk.fr0' A f1
  cases b : badN init last with
  | some i =>
    rw [b] at q1
    have il := badN_le b
    obtain ⟨h2, f2, q2⟩ := read_page_ok P (h := h1)
    rw [b] at q2
    obtain ⟨h3, f3, q3⟩ := read_page_ok P (h := h2)
    rw [b] at q3
    refine ⟨some (.int i), h3, ?_, DrawOk.fr0' (DrawOk.fr0' A1 f2) f3⟩
    have s4 : lb_4 [x0, some (.ref r), x2, x3, x4, x5, some (.str page), x7, x8, x9, x10] h = .nx [x0, some (.ref r), x2, x3, x4, x5, some (.str page), x7, x8, some (.int i), x10] h1 := by
      unfold lb_4
      rw [s_asg, e_call]
      simp only [e_cons, e_var, List.getElem?_cons_succ, List.getElem?_cons_zero, bind_ok, e_nil, List.length_cons, List.length_nil]
      rw [if_pos trivial, q1]
      rfl
    have ts : ∀ g : CH, (dCons (dC (.str "text")) (dCons (dVar 9) (dNil))) [x0, some (.ref r), x2, x3, x4, x5, some (.str page), x7, x8, some (.int i), x10] g = .ok [.str (Str.ofString "text"), .int i] g := fun g => by
      simp only [e_cons, e_C, bind_ok, e_var, List.getElem?_cons_succ, List.getElem?_cons_zero, e_nil]
    have tb1 : dCall 1 F_read_history (dCons (dVar 6) (dNil)) [x0, some (.ref r), x2, x3, x4, x5, some (.str page), x7, x8, some (.int i), x10] h1 = F_read_history [.str page] h1 := rfl
    have tb2 : dCallN 0 1 ([.k 0]) F_read_history (dNil) (dCons (dVar 6) (dNil)) [x0, some (.ref r), x2, x3, x4, x5, some (.str page), x7, x8, some (.int i), x10] h2 = F_read_history [.str page] h2 := rfl
    have l1 := lamC_ok (h := h1) (h' := h2) (tb := dCall 1 F_read_history (dCons (dVar 6) (dNil))) (ts h1) (by rw [tb1, q2]; exact is_ok2 refusal_tx (SW.strB (by decide +kernel)) (SW.intk (by omega) (by decide)))
    have l2 := lamC_ok (h := h2) (h' := h3) (tb := dCallN 0 1 ([.k 0]) F_read_history (dNil) (dCons (dVar 6) (dNil))) (ts h2) (by rw [tb2, q3]; exact is_ok2 refusal_tx (SW.strB (by decide +kernel)) (SW.intk (by omega) (by decide)))
    have ii := isi_i (h := h1) (d := .int (i : Int)) trivial
    unfold lb45
    rw [seqX s4]
    unfold lb_5
    rw [s_if]
    simp only [e_B, e_CB, e_cons, e_var, List.getElem?_cons_succ, List.getElem?_cons_zero, bind_ok, e_C, e_nil, ii, isI, asB_bl, toS_ok, if_true]
    rw [s_seq, s_if, e_not, e_B, l1, bind_ok, asB_bl, bind_ok, toS_ok, Bool.not_true, if_neg (by decide), s_next, sbind_nx, s_if, e_not, e_B, l2, bind_ok, asB_bl, bind_ok, toS_ok, Bool.not_true, if_neg (by decide), s_next]
  | none =>
    rw [b] at q1
    obtain ⟨q1, o1⟩ := q1
    have g := P.good b
    have few := P.few b
    obtain ⟨h2, f2, q2⟩ := read_page_ok P (h := h1)
    rw [b] at q2
    obtain ⟨h3, f3, q3⟩ := read_page_ok P (h := h2)
    rw [b] at q3
    have kl : h.nx < h1.nx := k1
    have o2 : h2.ob h.nx = some (.lst (init.map lineV)) := by rw [f2.2 _ kl (by simp)]; exact o1
    obtain ⟨t, t1, t2⟩ := rep_ref (ds := init.map lineV) (wt := 200) (sw_all (n := 11) g.1) (by rw [List.length_map]; omega)
    refine ⟨some (.ref h.nx), h3, ?_, DrawOk.fr0' (DrawOk.fr0' A1 f2) f3⟩
    have s4 : lb_4 [x0, some (.ref r), x2, x3, x4, x5, some (.str page), x7, x8, x9, x10] h = .nx [x0, some (.ref r), x2, x3, x4, x5, some (.str page), x7, x8, some (.ref h.nx), x10] h1 := by
      unfold lb_4
      rw [s_asg, e_call]
      simp only [e_cons, e_var, List.getElem?_cons_succ, List.getElem?_cons_zero, bind_ok, e_nil, List.length_cons, List.length_nil]
      rw [if_pos trivial, q1]
      rfl
    have ii := isi_ref (h := h1) o1
    have ht : F_history_text [.lst (init.map lineV)] h3 = .ok (.str page) h3 := by rw [ht_good (.inl rfl) g.1 (by rw [List.length_map]; omega), g.2]
    unfold lb45
    rw [seqX s4]
    unfold lb_5
    rw [s_if]
    simp only [e_B, e_CB, e_cons, e_var, List.getElem?_cons_succ, List.getElem?_cons_zero, bind_ok, e_C, e_nil, ii, asB_bl, toS_ok, if_neg (show ¬ (false = true) by decide)]
    rw [s_if, e_or]
    simp only [e_B, e_op, e_CB, e_call, e_cons, e_var, List.getElem?_cons_succ, List.getElem?_cons_zero, bind_ok, e_nil, List.length_cons, List.length_nil, if_true, q2, t1, t2 h2 h.nx o2, eq_ss, b_t, beq_self_eq_true, Bool.not_true, asB_bl, if_neg (show ¬ (false = true) by decide), q3, ht, toS_ok]
    rfl
theorem read_odd {X : CM.D} (pX : Pv X) (q : isS X = false) : F_read_history [X] h = .ex 6 [(Str.ofString "line", .int 0)] h := by
  have u0 : F_read_history [X] h = (rhU [some X, none, none, none, none, none, none] h).res := rfl
  have is := isi_s (h := h) pX
  rw [u0]
  unfold rhU
  rw [s_seq, s_if]
  simp [is, q]
theorem st6 (A : DrawOk r w (n + 1) h) : ∃ X h1, lb_6 [x0, some (.ref r), x2, x3, x4, x5, some (.str page), x7, x8, x9, x10] h = .nx [x0, some (.ref r), x2, x3, x4, x5, some (.str page), x7, x8, x9, some X] h1 ∧ Pv X ∧ isS X = false ∧ DrawOk r w n h1 := by
  obtain ⟨X, h1, e1, m1, A1, f1⟩ := pickE (n := n) A (l := [.non, .int 5, .tup [], .lst [], .dct [], .bl true, .lst [.str page], .tup [.str page], .int (10 ^ 30)]) (by simp) (by simp)
  refine ⟨X, h1, ?_, ?_, ?_, A1⟩
  · have ls : dLst false (dCons (dC .non) (dCons (dC (.int 5)) (dCons (dTup (dNil)) (dCons (dLst false (dNil)) (dCons (dDNew false) (dCons (dC (.bl true)) (dCons (dLst false (dCons (dVar 6) (dNil))) (dCons (dTup (dCons (dVar 6) (dNil))) (dCons (dOp fPow (dC (.int 10)) (dC (.int 30))) (dNil)))))))))) [x0, some (.ref r), x2, x3, x4, x5, some (.str page), x7, x8, x9, x10] h = .ok (.lst [.non, .int 5, .tup [], .lst [], .dct [], .bl true, .lst [.str page], .tup [.str page], .int (10 ^ 30)]) h := by kernel_rfl
    unfold lb_6
    rw [s_asg, e_call]
    simp only [e_cons, e_var, List.getElem?_cons_succ, List.getElem?_cons_zero, bind_ok, ls, e_nil, List.length_cons, List.length_nil]
    rw [if_pos trivial, e1]
    rfl
  · simp only [List.mem_cons, List.not_mem_nil, or_false] at m1
    rcases m1 with rfl | rfl | rfl | rfl | rfl | rfl | rfl | rfl | rfl <;> trivial
  · simp only [List.mem_cons, List.not_mem_nil, or_false] at m1
    rcases m1 with rfl | rfl | rfl | rfl | rfl | rfl | rfl | rfl | rfl <;> rfl
theorem st7 {X : CM.D} (pX : Pv X) (q : isS X = false) : lb_7 [x0, some (.ref r), x2, x3, x4, x5, x6, x7, x8, x9, some X] h = .nx [x0, some (.ref r), x2, x3, x4, x5, x6, x7, x8, x9, some X] h := by
  have ts : (dCons (dC (.str "text")) (dCons (dC (.int 0)) (dNil))) [x0, some (.ref r), x2, x3, x4, x5, x6, x7, x8, x9, some X] h = .ok [.str (Str.ofString "text"), .int 0] h := rfl
  have tb : dCall 1 F_read_history (dCons (dVar 10) (dNil)) [x0, some (.ref r), x2, x3, x4, x5, x6, x7, x8, x9, some X] h = F_read_history [X] h := rfl
  have l1 := lamC_ok (h := h) (h' := h) (tb := dCall 1 F_read_history (dCons (dVar 10) (dNil))) ts (by rw [tb, read_odd pX q]; exact is_ok2 refusal_tx (SW.strB (by decide +kernel)) (SW.intk (k := 0) (by decide) (by decide)))
  unfold lb_7
  rw [s_if, e_not, e_B, l1, bind_ok, asB_bl, bind_ok, toS_ok, Bool.not_true, if_neg (by decide), s_next]
theorem turn_ok (A : DrawOk r w (n + 130) h) (hS : Sgs S) : ∃ y3 y4 y5 y6 y7 y8 y9 y10 h1, lb_k0 [x0, some (.ref r), some (.lst (S.map CM.D.str)), x3, x4, x5, x6, x7, x8, x9, x10] h = .nx [x0, some (.ref r), some (.lst (S.map CM.D.str)), y3, y4, y5, y6, y7, y8, y9, y10] h1 ∧ DrawOk r w n h1 := by
  obtain ⟨ds, h1, e0, lz, H, A1⟩ := st0 (n := n + 33) (h := h) (x0 := x0) (x2 := some (.lst (S.map CM.D.str))) (x3 := x3) (x4 := x4) (x5 := x5) (x6 := x6) (x7 := x7) (x8 := x8) (x9 := x9) (x10 := x10) A
  obtain ⟨e1, lp⟩ := st1 (h := h1) (r := r) (x0 := x0) (x2 := some (.lst (S.map CM.D.str))) (x3 := x3) (x5 := x5) (x6 := x6) (x7 := x7) (x8 := x8) (x9 := x9) (x10 := x10) H lz
  obtain ⟨p2, y8, h2, e2, l2, A2⟩ := st2 (n := n + 14) (x0 := x0) (x3 := x3) (x4 := some (.lst ds)) (x5 := x5) (x7 := x7) (x8 := x8) (x9 := x9) (x10 := x10) A1 hS lp
  obtain ⟨p3, h3, e3, l3, A3⟩ := st3 (n := n + 13) (x0 := x0) (x2 := some (.lst (S.map CM.D.str))) (x3 := x3) (x4 := some (.lst ds)) (x5 := x5) (x7 := x7) (x8 := y8) (x9 := x9) (x10 := x10) A2 l2
  obtain ⟨y9, h4, e4, A4⟩ := st45 (n := n + 13) (x0 := x0) (x2 := some (.lst (S.map CM.D.str))) (x3 := x3) (x4 := some (.lst ds)) (x5 := x5) (x7 := x7) (x8 := y8) (x9 := x9) (x10 := x10) A3 l3
  obtain ⟨X, h5, e5, pX, qX, A5⟩ := st6 (n := n + 12) (page := p3) (x0 := x0) (x2 := some (.lst (S.map CM.D.str))) (x3 := x3) (x4 := some (.lst ds)) (x5 := x5) (x7 := x7) (x8 := y8) (x9 := y9) (x10 := x10) A4
  have e6 := st7 (h := h5) (r := r) (x0 := x0) (x2 := some (.lst (S.map CM.D.str))) (x3 := x3) (x4 := some (.lst ds)) (x5 := x5) (x6 := some (.str p3)) (x7 := x7) (x8 := y8) (x9 := y9) pX qX
  refine ⟨x3, some (.lst ds), x5, some (.str p3), x7, y8, y9, some X, h5, ?_, A5.mono (by omega)⟩
  unfold lb_k0
  rw [seqX e0]
  unfold lb_k1
  rw [seqX e1]
  unfold lb_k2
  rw [seqX e2]
  unfold lb_k3
  rw [seqX e3]
  have e45 : lb_k4 [x0, some (.ref r), some (.lst (S.map CM.D.str)), x3, some (.lst ds), x5, some (.str p3), x7, y8, x9, x10] h3 = lb_k6 [x0, some (.ref r), some (.lst (S.map CM.D.str)), x3, some (.lst ds), x5, some (.str p3), x7, y8, y9, x10] h4 := by
    have as : ∀ (u v x : SD) (ρ : DE) (g : CH), dSeq u (dSeq v x) ρ g = dSeq (dSeq u v) x ρ g := fun u v x ρ g => by
      rw [s_seq, s_seq, s_seq]
      cases u ρ g <;> rfl
    unfold lb_k4 lb_k5
    rw [as]
    exact seqX e4
  rw [e45]
  unfold lb_k6
  rw [seqX e5]
  unfold lb_k7
  exact e6
end
def signs1 : List Str := [
  Str.ofString "",
  Str.ofString " ",
  Str.ofString "\n",
  Str.ofString "0",
  Str.ofString "7",
  Str.ofString "-",
  Str.ofString "00",
  Str.ofString "up",
  Str.ofString "down",
  Str.ofString "stop",
  Str.ofString "step",
  Str.ofString "cover",
  Str.ofString "1000000000",
  Str.ofString "+1"]
def signs2 : List Str := [
  Str.ofString "1000000001",
  PySem.Txt.mul "9" 300,
  Str.ofString "write",
  Str.ofString "begin",
  Str.ofString "x",
  Str.ofString "  ",
  Str.ofString "_",
  Str.ofString "1_0",
  Str.ofString "Stop",
  Str.ofString "UP"]
theorem sgs_ok : Sgs (signs1 ++ signs2) where
  ne := by decide
  n := by decide
  l := by
    have : (signs1 ++ signs2).all (fun s => decide (s.length ≤ 300)) = true := by decide +kernel
    exact fun s hs => of_decide_eq_true (List.all_eq_true.mp this s hs)
theorem law_ok : LawF F_law := by
  intro ns hn
  obtain ⟨h1, e1, A1, n1, _⟩ := begun_ok (h := CH.emp) hn
  have e2 : fLen [.scr ns] h1 = .ok (.int ns.length) h1 := rfl
  have e3 : fMin [.int ns.length, .int 24] h1 = .ok (.int (if (24 : Int) < ns.length then 24 else ns.length)) h1 := rfl
  have bd : (if (24 : Int) < ns.length then 24 else (ns.length : Int)) ≤ 24 ∧ 0 ≤ (if (24 : Int) < ns.length then 24 else (ns.length : Int)) := by split <;> omega
  generalize hM : (if (24 : Int) < ns.length then 24 else (ns.length : Int)) = M at *
  have s1 : lh1 [some (.scr ns), some (.ref (CH.emp.nx + 1)), none, none, none, none, none, none, none, none, none] h1 = .nx [some (.scr ns), some (.ref (CH.emp.nx + 1)), some (.lst (signs1.map CM.D.str)), none, none, none, none, none, none, none, none] h1 := by kernel_rfl
  have s2 : lh2 [some (.scr ns), some (.ref (CH.emp.nx + 1)), some (.lst (signs1.map CM.D.str)), none, none, none, none, none, none, none, none] h1 = .nx [some (.scr ns), some (.ref (CH.emp.nx + 1)), some (.lst ((signs1 ++ signs2).map CM.D.str)), none, none, none, none, none, none, none, none] h1 := by kernel_rfl
  have hS := sgs_ok
  generalize signs1 ++ signs2 = S at s2 hS
  have rg : lrng [some (.scr ns), some (.ref (CH.emp.nx + 1)), some (.lst (S.map CM.D.str)), none, none, none, none, none, none, none, none] h1 = .ok ((rgI (6 + M).toNat).map CM.D.int, none) h1 := by
    unfold lrng dRng1
    simp [e2, e3, fAdd]
    rw [if_pos (by omega), rgD_rgI]
  have ly : (rgI (6 + M).toNat).length ≤ 30 := by simp [rgI]; omega
  obtain ⟨ρ', h', L, ⟨y3, y4, y5, y6, y7, y8, y9, y10, eρ, _⟩⟩ := forL_fold (tg := gdName 3) (u := lb_k0) (enc := CM.D.int) (fun rest ρ hh => ∃ y3 y4 y5 y6 y7 y8 y9 y10, ρ = [some (.scr ns), some (.ref (CH.emp.nx + 1)), some (.lst (S.map CM.D.str)), y3, y4, y5, y6, y7, y8, y9, y10] ∧ DrawOk (CH.emp.nx + 1) CH.emp.nx (130 * rest.length) hh)
    (fun x rest ρ hh ⟨y3, y4, y5, y6, y7, y8, y9, y10, eρ, A⟩ => by
      subst eρ
      simp only [List.length_cons] at A
      obtain ⟨z3, z4, z5, z6, z7, z8, z9, z10, h', e, A'⟩ := turn_ok (n := 130 * rest.length) (x0 := some (.scr ns)) (x3 := some (.int x)) (x4 := y4) (x5 := y5) (x6 := y6) (x7 := y7) (x8 := y8) (x9 := y9) (x10 := y10) (A.mono (by omega)) hS
      exact ⟨_, hh, _, h', rfl, e, z3, z4, z5, z6, z7, z8, z9, z10, rfl, A'⟩)
    (xs := rgI (6 + M).toNat) (ρ := [some (.scr ns), some (.ref (CH.emp.nx + 1)), some (.lst (S.map CM.D.str)), none, none, none, none, none, none, none, none]) (h := h1) ⟨_, _, _, _, _, _, _, _, rfl, A1.mono (by omega)⟩
  refine ⟨h', ?_⟩
  show (u_law [some (.scr ns), none, none, none, none, none, none, none, none, none, none] CH.emp).res = _
  rw [law_u]
  have s0 : ∀ u : SD, (dSeq (dAsg (dCall 1 F__law_begun (dCons (dVar 0) (dNil))) (gdName 1)) u) [some (.scr ns), none, none, none, none, none, none, none, none, none, none] CH.emp = u [some (.scr ns), some (.ref (CH.emp.nx + 1)), none, none, none, none, none, none, none, none, none] h1 := fun u => by
    simp [e1]
  rw [s0, seqX s1, seqX s2, s_seq, s_for, rg, toS_ok]
  simp only [unl_none]
  rw [L]
  rfl
end W_whilemerged_k78_texts_of_histories_spoil
namespace W_whilemerged_k78_texts_of_histories_spoil
open PySem PySem.Spec PyProof.Rows L2 CM
set_option maxHeartbeats 0 in
theorem facts {w : World} {h : Heap} {K : PySem.W.Frag} {mg : Str → Option Value} {fa : Addr} (G : h.Ns mainGlobals mg) (hfa : mg "law" = some (.ref fa)) (s : SaysX specA w h K) (t : SaysX specB w h K) :
    ∃ (fd : FuncData) (CA : CAs) (cs : List (Addr × Addr)), (∀ p ∈ CA.T, ∃ c, (c, p.1) ∈ cs) ∧ (∀ p ∈ cs, h.get? p.2 = some { cls := .none, data := .fields #[] }) ∧ (∀ p ∈ cs, K.lookup p.2 = none) ∧ (∀ p ∈ cs, PySem.W.CodeHd h p.1 p.2) ∧ (∀ (s : Shared) (v : Value), BindsTo s fd ⟨[v], []⟩ [("_law_script", v)]) ∧ ∀ base : Heap, K.In base → base.Ns mainGlobals mg → SM base → (∀ p ∈ cs, LamX.TabB base mg p.1 p.2) → FnG PySem.Challenge.rw_whilemerged_k78_texts_of_histories_spoil.prog w K mg base true 11 fa fd ["_law_script"] (spD K CA 1 F_law) := by
  have hc0 : (ck0 K).all id = true := ckF s.ck 0 rfl
  have hc1 : (ck1 K).all id = true := ckF s.ck 1 rfl
  have hc2 : (ck2 K).all id = true := ckF s.ck 2 rfl
  have hc3 : (ck3 K).all id = true := ckF s.ck 3 rfl
  have hc4 : (ck4 K).all id = true := ckF s.ck 4 rfl
  have hc5 : (ck5 K).all id = true := ckF t.ck 0 rfl
  have hc6 : (ck6 K).all id = true := ckF t.ck 1 rfl
  have hc7 : (ck7 K).all id = true := ckF t.ck 2 rfl
  have hc8 : (ck8 K).all id = true := ckF t.ck 3 rfl
  have hc9 : (ck9 K).all id = true := ckF t.ck 4 rfl
  refine' all_mk (l := PySem.Challenge.rw_whilemerged_k78_texts_of_histories_spoil) s.kin G hfa ?ac0 ?ac1 ?ac2 ?ac3 ?ac4 ?ac5 ?ac6 ?a0 ?l0 ?c0 ?k0 ?a1 ?l1 ?c1 ?k1 ?a2 ?l2 ?c2 ?k2 ?a3 ?l3 ?c3 ?k3 ?a4 ?l4 ?c4 ?k4 ?a5 ?l5 ?c5 ?k5 ?a6 ?l6 ?c6 ?k6 ?a7 ?l7 ?c7 ?k7 ?a8 ?l8 ?c8 ?k8 ?a9 ?l9 ?c9 ?k9 ?a10 ?l10 ?c10 ?k10 ?a11 ?l11 ?c11 ?k11 ?a12 ?l12 ?c12 ?k12 ?a13 ?l13 ?c13 ?k13 ?a14 ?l14 ?c14 ?k14 ?a15 ?l15 ?c15 ?k15 ?a16 ?l16 ?c16 ?k16 ?a17 ?l17 ?c17 ?k17 ?a18 ?l18 ?c18 ?k18 ?a19 ?l19 ?c19 ?k19 ?a20 ?l20 ?c20 ?k20 ?a21 ?l21 ?c21 ?k21 ?a22 ?l22 ?c22 ?k22 ?a23 ?l23 ?c23 ?k23 ?a24 ?l24 ?c24 ?k24 ?tl24 ?tv24 ?td24 ?tn24 ?tt24 ?g_KINDS ?h_KINDS ?g_MOST ?z_super ?z_abs ?z_int ?z_isinstance ?z_bool ?z_tuple ?z_str ?z_len ?z_list ?z_enumerate ?z_range ?z_ValueError ?z_repr ?z_all ?z_min ?kg_PARTS ?kl_PARTS ?kk_PARTS ?ks_PARTS ?tu24 ?ag0 ?lg0 ?cg0 ?kg0 ?xm0 ?xm1 ?xm2 ?xm3 ?xm4 ?xm5 ?xm6 ?be0 ?be1 ?be2 ?be3 ?be4 ?be5 ?be6 ?xf_field ?xf_number ?xf_at ?xf_line ?tpS ?xb1 ?xi1 ?xl1 ?xt1 ?xk1 ?xla1 ?xv1 ?xh1 ?xlc1 ?xb6 ?xi6 ?xl6 ?xt6 ?xk6 ?xla6 ?xv6 ?xh6 ?xlc6 ?bk
  case ac0 => exact (of_decide_eq_true (ckF hc0 0 (b := decide (PySem.W.nsIn K mainGlobals "MergeError" = some (some (.ref (v_C0 K))))) rfl))
  case ac1 => exact (of_decide_eq_true (ckF hc0 1 (b := decide (PySem.W.nsIn K mainGlobals "BadDeed" = some (some (.ref (v_C1 K))))) rfl))
  case ac2 => exact (of_decide_eq_true (ckF hc0 2 (b := decide (PySem.W.nsIn K mainGlobals "BadNumber" = some (some (.ref (v_C2 K))))) rfl))
  case ac3 => exact (of_decide_eq_true (ckF hc0 3 (b := decide (PySem.W.nsIn K mainGlobals "BadBook" = some (some (.ref (v_C3 K))))) rfl))
  case ac4 => exact (of_decide_eq_true (ckF hc0 4 (b := decide (PySem.W.nsIn K mainGlobals "BadPlan" = some (some (.ref (v_C4 K))))) rfl))
  case ac5 => exact (of_decide_eq_true (ckF hc0 5 (b := decide (PySem.W.nsIn K mainGlobals "BadChain" = some (some (.ref (v_C5 K))))) rfl))
  case ac6 => exact (of_decide_eq_true (ckF hc0 6 (b := decide (PySem.W.nsIn K mainGlobals "BadText" = some (some (.ref (v_C6 K))))) rfl))
  case a0 => exact (of_decide_eq_true (ckF hc0 7 (b := decide (PySem.W.nsIn K mainGlobals "_law_begun" = some (some (.ref (v_f0 K))))) rfl))
  case l0 => exact (fnO_ok (name := "_law_begun") (qual := "_law_begun") (st := s__law_begun) (fnF s.fn 0 (a := fnO K (v_f0 K)) (b := fnE "_law_begun" "_law_begun" s__law_begun) rfl rfl))
  case c0 => exact (ckF hc0 8 (b := (PySem.W.codeIn K (v_cd0 K) "_law_begun" : Bool)) rfl)
  case k0 => exact (ckF hc0 9 (b := (PySem.W.keepIn K (.ref (v_f0 K)) : Bool)) rfl)
  case a1 => exact (of_decide_eq_true (ckF hc0 10 (b := decide (PySem.W.nsIn K mainGlobals "_law_is_cell" = some (some (.ref (v_f1 K))))) rfl))
  case l1 => exact (fnO_ok (name := "_law_is_cell") (qual := "_law_is_cell") (st := s__law_is_cell) (fnF s.fn 1 (a := fnO K (v_f1 K)) (b := fnE "_law_is_cell" "_law_is_cell" s__law_is_cell) rfl rfl))
  case c1 => exact (ckF hc0 11 (b := (PySem.W.codeIn K (v_cd1 K) "_law_is_cell" : Bool)) rfl)
  case k1 => exact (ckF hc0 12 (b := (PySem.W.keepIn K (.ref (v_f1 K)) : Bool)) rfl)
  case a2 => exact (of_decide_eq_true (ckF hc0 13 (b := decide (PySem.W.nsIn K mainGlobals "_law_is_text_deed" = some (some (.ref (v_f2 K))))) rfl))
  case l2 => exact (fnO_ok (name := "_law_is_text_deed") (qual := "_law_is_text_deed") (st := s__law_is_text_deed) (fnF s.fn 2 (a := fnO K (v_f2 K)) (b := fnE "_law_is_text_deed" "_law_is_text_deed" s__law_is_text_deed) rfl rfl))
  case c2 => exact (ckF hc0 14 (b := (PySem.W.codeIn K (v_cd2 K) "_law_is_text_deed" : Bool)) rfl)
  case k2 => exact (ckF hc0 15 (b := (PySem.W.keepIn K (.ref (v_f2 K)) : Bool)) rfl)
  case a3 => exact (of_decide_eq_true (ckF hc1 0 (b := decide (PySem.W.nsIn K mainGlobals "_law_part" = some (some (.ref (v_f3 K))))) rfl))
  case l3 => exact (fnO_ok (name := "_law_part") (qual := "_law_part") (st := s__law_part) (fnF s.fn 3 (a := fnO K (v_f3 K)) (b := fnE "_law_part" "_law_part" s__law_part) rfl rfl))
  case c3 => exact (ckF hc1 1 (b := (PySem.W.codeIn K (v_cd3 K) "_law_part" : Bool)) rfl)
  case k3 => exact (ckF hc1 2 (b := (PySem.W.keepIn K (.ref (v_f3 K)) : Bool)) rfl)
  case a4 => exact (of_decide_eq_true (ckF hc1 3 (b := decide (PySem.W.nsIn K mainGlobals "_law_read_line" = some (some (.ref (v_f4 K))))) rfl))
  case l4 => exact (fnO_ok (name := "_law_read_line") (qual := "_law_read_line") (st := s__law_read_line) (fnF s.fn 4 (a := fnO K (v_f4 K)) (b := fnE "_law_read_line" "_law_read_line" s__law_read_line) rfl rfl))
  case c4 => exact (ckF hc1 4 (b := (PySem.W.codeIn K (v_cd4 K) "_law_read_line" : Bool)) rfl)
  case k4 => exact (ckF hc1 5 (b := (PySem.W.keepIn K (.ref (v_f4 K)) : Bool)) rfl)
  case a5 => exact (of_decide_eq_true (ckF hc1 6 (b := decide (PySem.W.nsIn K mainGlobals "_law_read" = some (some (.ref (v_f5 K))))) rfl))
  case l5 => exact (fnO_ok (name := "_law_read") (qual := "_law_read") (st := s__law_read) (fnF s.fn 5 (a := fnO K (v_f5 K)) (b := fnE "_law_read" "_law_read" s__law_read) rfl rfl))
  case c5 => exact (ckF hc1 7 (b := (PySem.W.codeIn K (v_cd5 K) "_law_read" : Bool)) rfl)
  case k5 => exact (ckF hc1 8 (b := (PySem.W.keepIn K (.ref (v_f5 K)) : Bool)) rfl)
  case a6 => exact (of_decide_eq_true (ckF hc1 9 (b := decide (PySem.W.nsIn K mainGlobals "_law_mixed" = some (some (.ref (v_f6 K))))) rfl))
  case l6 => exact (fnO_ok (name := "_law_mixed") (qual := "_law_mixed") (st := s__law_mixed) (fnF s.fn 6 (a := fnO K (v_f6 K)) (b := fnE "_law_mixed" "_law_mixed" s__law_mixed) rfl rfl))
  case c6 => exact (ckF hc1 10 (b := (PySem.W.codeIn K (v_cd6 K) "_law_mixed" : Bool)) rfl)
  case k6 => exact (ckF hc1 11 (b := (PySem.W.keepIn K (.ref (v_f6 K)) : Bool)) rfl)
  case a7 => exact (of_decide_eq_true (ckF hc1 12 (b := decide (PySem.W.nsIn K mainGlobals "_law_take" = some (some (.ref (v_f7 K))))) rfl))
  case l7 => exact (fnO_ok (name := "_law_take") (qual := "_law_take") (st := s__law_take) (fnF s.fn 7 (a := fnO K (v_f7 K)) (b := fnE "_law_take" "_law_take" s__law_take) rfl rfl))
  case c7 => exact (ckF hc1 13 (b := (PySem.W.codeIn K (v_cd7 K) "_law_take" : Bool)) rfl)
  case k7 => exact (ckF hc1 14 (b := (PySem.W.keepIn K (.ref (v_f7 K)) : Bool)) rfl)
  case a8 => exact (of_decide_eq_true (ckF hc1 15 (b := decide (PySem.W.nsIn K mainGlobals "_law_pick" = some (some (.ref (v_f8 K))))) rfl))
  case l8 => exact (fnO_ok (name := "_law_pick") (qual := "_law_pick") (st := s__law_pick) (fnF s.fn 8 (a := fnO K (v_f8 K)) (b := fnE "_law_pick" "_law_pick" s__law_pick) rfl rfl))
  case c8 => exact (ckF hc2 0 (b := (PySem.W.codeIn K (v_cd8 K) "_law_pick" : Bool)) rfl)
  case k8 => exact (ckF hc2 1 (b := (PySem.W.keepIn K (.ref (v_f8 K)) : Bool)) rfl)
  case a9 => exact (of_decide_eq_true (ckF hc2 2 (b := decide (PySem.W.nsIn K mainGlobals "_law_text_number" = some (some (.ref (v_f9 K))))) rfl))
  case l9 => exact (fnO_ok (name := "_law_text_number") (qual := "_law_text_number") (st := s__law_text_number) (fnF s.fn 9 (a := fnO K (v_f9 K)) (b := fnE "_law_text_number" "_law_text_number" s__law_text_number) rfl rfl))
  case c9 => exact (ckF hc2 3 (b := (PySem.W.codeIn K (v_cd9 K) "_law_text_number" : Bool)) rfl)
  case k9 => exact (ckF hc2 4 (b := (PySem.W.keepIn K (.ref (v_f9 K)) : Bool)) rfl)
  case a10 => exact (of_decide_eq_true (ckF hc2 5 (b := decide (PySem.W.nsIn K mainGlobals "_law_text_deed" = some (some (.ref (v_f10 K))))) rfl))
  case l10 => exact (fnO_ok (name := "_law_text_deed") (qual := "_law_text_deed") (st := s__law_text_deed) (fnF s.fn 10 (a := fnO K (v_f10 K)) (b := fnE "_law_text_deed" "_law_text_deed" s__law_text_deed) rfl rfl))
  case c10 => exact (ckF hc2 6 (b := (PySem.W.codeIn K (v_cd10 K) "_law_text_deed" : Bool)) rfl)
  case k10 => exact (ckF hc2 7 (b := (PySem.W.keepIn K (.ref (v_f10 K)) : Bool)) rfl)
  case a11 => exact (of_decide_eq_true (ckF hc2 8 (b := decide (PySem.W.nsIn K mainGlobals "_law_bent_text" = some (some (.ref (v_f11 K))))) rfl))
  case l11 => exact (fnO_ok (name := "_law_bent_text") (qual := "_law_bent_text") (st := s__law_bent_text) (fnF s.fn 11 (a := fnO K (v_f11 K)) (b := fnE "_law_bent_text" "_law_bent_text" s__law_bent_text) rfl rfl))
  case c11 => exact (ckF hc2 9 (b := (PySem.W.codeIn K (v_cd11 K) "_law_bent_text" : Bool)) rfl)
  case k11 => exact (ckF hc2 10 (b := (PySem.W.keepIn K (.ref (v_f11 K)) : Bool)) rfl)
  case a12 => exact (of_decide_eq_true (ckF hc2 11 (b := decide (PySem.W.nsIn K mainGlobals "_law_refusal" = some (some (.ref (v_f12 K))))) rfl))
  case l12 => exact (fnO_ok (name := "_law_refusal") (qual := "_law_refusal") (st := s__law_refusal) (fnF s.fn 12 (a := fnO K (v_f12 K)) (b := fnE "_law_refusal" "_law_refusal" s__law_refusal) rfl rfl))
  case c12 => exact (ckF hc2 12 (b := (PySem.W.codeIn K (v_cd12 K) "_law_refusal" : Bool)) rfl)
  case k12 => exact (ckF hc2 13 (b := (PySem.W.keepIn K (.ref (v_f12 K)) : Bool)) rfl)
  case a13 => exact (of_decide_eq_true (ckF hc2 14 (b := decide (PySem.W.nsIn K mainGlobals "_law_is" = some (some (.ref (v_f13 K))))) rfl))
  case l13 => exact (fnO_ok (name := "_law_is") (qual := "_law_is") (st := s__law_is) (fnF s.fn 13 (a := fnO K (v_f13 K)) (b := fnE "_law_is" "_law_is" s__law_is) rfl rfl))
  case c13 => exact (ckF hc2 15 (b := (PySem.W.codeIn K (v_cd13 K) "_law_is" : Bool)) rfl)
  case k13 => exact (ckF hc3 0 (b := (PySem.W.keepIn K (.ref (v_f13 K)) : Bool)) rfl)
  case a14 => exact (of_decide_eq_true (ckF hc3 1 (b := decide (PySem.W.nsIn K mainGlobals "_law_deed_line" = some (some (.ref (v_f14 K))))) rfl))
  case l14 => exact (fnO_ok (name := "_law_deed_line") (qual := "_law_deed_line") (st := s__law_deed_line) (fnF s.fn 14 (a := fnO K (v_f14 K)) (b := fnE "_law_deed_line" "_law_deed_line" s__law_deed_line) rfl rfl))
  case c14 => exact (ckF hc3 2 (b := (PySem.W.codeIn K (v_cd14 K) "_law_deed_line" : Bool)) rfl)
  case k14 => exact (ckF hc3 3 (b := (PySem.W.keepIn K (.ref (v_f14 K)) : Bool)) rfl)
  case a15 => exact (of_decide_eq_true (ckF hc3 4 (b := decide (PySem.W.nsIn K mainGlobals "is_deed" = some (some (.ref (v_f15 K))))) rfl))
  case l15 => exact (fnO_ok (name := "is_deed") (qual := "is_deed") (st := s_is_deed) (fnF s.fn 15 (a := fnO K (v_f15 K)) (b := fnE "is_deed" "is_deed" s_is_deed) rfl rfl))
  case c15 => exact (ckF hc3 5 (b := (PySem.W.codeIn K (v_cd15 K) "is_deed" : Bool)) rfl)
  case k15 => exact (ckF hc3 6 (b := (PySem.W.keepIn K (.ref (v_f15 K)) : Bool)) rfl)
  case a16 => exact (of_decide_eq_true (ckF hc3 7 (b := decide (PySem.W.nsIn K mainGlobals "is_kind" = some (some (.ref (v_f16 K))))) rfl))
  case l16 => exact (fnO_ok (name := "is_kind") (qual := "is_kind") (st := s_is_kind) (fnF s.fn 16 (a := fnO K (v_f16 K)) (b := fnE "is_kind" "is_kind" s_is_kind) rfl rfl))
  case c16 => exact (ckF hc3 8 (b := (PySem.W.codeIn K (v_cd16 K) "is_kind" : Bool)) rfl)
  case k16 => exact (ckF hc3 9 (b := (PySem.W.keepIn K (.ref (v_f16 K)) : Bool)) rfl)
  case a17 => exact (of_decide_eq_true (ckF hc3 10 (b := decide (PySem.W.nsIn K mainGlobals "kinds_right" = some (some (.ref (v_f17 K))))) rfl))
  case l17 => exact (fnO_ok (name := "kinds_right") (qual := "kinds_right") (st := s_kinds_right) (fnF s.fn 17 (a := fnO K (v_f17 K)) (b := fnE "kinds_right" "kinds_right" s_kinds_right) rfl rfl))
  case c17 => exact (ckF hc3 11 (b := (PySem.W.codeIn K (v_cd17 K) "kinds_right" : Bool)) rfl)
  case k17 => exact (ckF hc3 12 (b := (PySem.W.keepIn K (.ref (v_f17 K)) : Bool)) rfl)
  case a18 => exact (of_decide_eq_true (ckF hc3 13 (b := decide (PySem.W.nsIn K mainGlobals "is_plain" = some (some (.ref (v_f18 K))))) rfl))
  case l18 => exact (fnO_ok (name := "is_plain") (qual := "is_plain") (st := s_is_plain) (fnF s.fn 18 (a := fnO K (v_f18 K)) (b := fnE "is_plain" "is_plain" s_is_plain) rfl rfl))
  case c18 => exact (ckF hc3 14 (b := (PySem.W.codeIn K (v_cd18 K) "is_plain" : Bool)) rfl)
  case k18 => exact (ckF hc3 15 (b := (PySem.W.keepIn K (.ref (v_f18 K)) : Bool)) rfl)
  case a19 => exact (of_decide_eq_true (ckF hc4 0 (b := decide (PySem.W.nsIn K mainGlobals "history_text" = some (some (.ref (v_f19 K))))) rfl))
  case l19 => exact (fnO_ok (name := "history_text") (qual := "history_text") (st := s_history_text) (fnF s.fn 19 (a := fnO K (v_f19 K)) (b := fnE "history_text" "history_text" s_history_text) rfl rfl))
  case c19 => exact (ckF hc4 1 (b := (PySem.W.codeIn K (v_cd19 K) "history_text" : Bool)) rfl)
  case k19 => exact (ckF hc4 2 (b := (PySem.W.keepIn K (.ref (v_f19 K)) : Bool)) rfl)
  case a20 => exact (of_decide_eq_true (ckF hc4 3 (b := decide (PySem.W.nsIn K mainGlobals "lines_of" = some (some (.ref (v_f20 K))))) rfl))
  case l20 => exact (fnO_ok (name := "lines_of") (qual := "lines_of") (st := s_lines_of) (fnF s.fn 20 (a := fnO K (v_f20 K)) (b := fnE "lines_of" "lines_of" s_lines_of) rfl rfl))
  case c20 => exact (ckF hc4 4 (b := (PySem.W.codeIn K (v_cd20 K) "lines_of" : Bool)) rfl)
  case k20 => exact (ckF hc4 5 (b := (PySem.W.keepIn K (.ref (v_f20 K)) : Bool)) rfl)
  case a21 => exact (of_decide_eq_true (ckF hc4 6 (b := decide (PySem.W.nsIn K mainGlobals "part_of" = some (some (.ref (v_f21 K))))) rfl))
  case l21 => exact (fnO_ok (name := "part_of") (qual := "part_of") (st := s_part_of) (fnF s.fn 21 (a := fnO K (v_f21 K)) (b := fnE "part_of" "part_of" s_part_of) rfl rfl))
  case c21 => exact (ckF hc4 7 (b := (PySem.W.codeIn K (v_cd21 K) "part_of" : Bool)) rfl)
  case k21 => exact (ckF hc4 8 (b := (PySem.W.keepIn K (.ref (v_f21 K)) : Bool)) rfl)
  case a22 => exact (of_decide_eq_true (ckF hc4 9 (b := decide (PySem.W.nsIn K mainGlobals "deed_of" = some (some (.ref (v_f22 K))))) rfl))
  case l22 => exact (fnO_ok (name := "deed_of") (qual := "deed_of") (st := s_deed_of) (fnF s.fn 22 (a := fnO K (v_f22 K)) (b := fnE "deed_of" "deed_of" s_deed_of) rfl rfl))
  case c22 => exact (ckF hc4 10 (b := (PySem.W.codeIn K (v_cd22 K) "deed_of" : Bool)) rfl)
  case k22 => exact (ckF hc4 11 (b := (PySem.W.keepIn K (.ref (v_f22 K)) : Bool)) rfl)
  case a23 => exact (of_decide_eq_true (ckF hc4 12 (b := decide (PySem.W.nsIn K mainGlobals "read_history" = some (some (.ref (v_f23 K))))) rfl))
  case l23 => exact (fnO_ok (name := "read_history") (qual := "read_history") (st := s_read_history) (fnF s.fn 23 (a := fnO K (v_f23 K)) (b := fnE "read_history" "read_history" s_read_history) rfl rfl))
  case c23 => exact (ckF hc4 13 (b := (PySem.W.codeIn K (v_cd23 K) "read_history" : Bool)) rfl)
  case k23 => exact (ckF hc4 14 (b := (PySem.W.keepIn K (.ref (v_f23 K)) : Bool)) rfl)
  case a24 => exact (of_decide_eq_true (ckF hc4 15 (b := decide (PySem.W.nsIn K mainGlobals "law" = some (some (.ref (v_f24 K))))) rfl))
  case l24 => exact (by have z := (fnO_ok (name := "law") (qual := "law") (st := s_law) (fnF s.fn 24 (a := fnO K (v_f24 K)) (b := fnE "law" "law" s_law) rfl rfl)); rw [of_decide_eq_true (ckF hc5 0 (b := decide ((fdD K (v_f24 K)).code = .ref (v_ca24 K))) rfl)] at z; exact z)
  case c24 => exact (ckF hc5 1 (b := (PySem.W.codeIn K (.ref (v_ca24 K)) "law" : Bool)) rfl)
  case k24 => exact (ckF hc5 2 (b := (PySem.W.keepIn K (.ref (v_f24 K)) : Bool)) rfl)
  case tl24 => exact (fld_ok (ckF hc5 3 (b := decide (kndD K (v_ca24 K) = 2)) rfl))
  case tv24 => exact (of_decide_eq_true (ckF hc5 4 (b := decide ((v_vs24 K)[11]? = some (.ref (v_P24 K)))) rfl))
  case td24 => exact (ckF hc5 5 (b := (PySem.W.codeHdIn K (v_ca24 K) (v_P24 K) : Bool)) rfl)
  case tn24 => exact (non_ok (ckF hc5 6 (b := (K.lookup (v_P24 K)).isNone) rfl))
  case tt24 => exact (t.tb _ (List.Mem.head _))
  case g_KINDS => exact (of_decide_eq_true (ckF hc5 7 (b := decide (PySem.W.nsIn K mainGlobals "KINDS" = some (some (.ref (v_p_KINDS K))))) rfl))
  case h_KINDS => exact (tup_ok (ckF hc5 8 (b := decide (kndD K (v_p_KINDS K) = 3)) rfl) (ckF hc5 9 (b := decide ((objD K (v_p_KINDS K)).cls = .type "tuple")) rfl) (ckF hc5 10 (b := decide ((seqD K (v_p_KINDS K)).toList = [.str "down" (v_t_KINDS0 K), .str "up" (v_t_KINDS1 K)])) rfl))
  case g_MOST => exact (of_decide_eq_true (ckF hc5 11 (b := decide (PySem.W.nsIn K mainGlobals "MOST" = some (some (.int 1000000000 (v_t_MOST K))))) rfl))
  case z_super => exact (of_decide_eq_true (ckF hc5 12 (b := decide (PySem.W.nsIn K mainGlobals "super" = some none)) rfl))
  case z_abs => exact (of_decide_eq_true (ckF hc5 13 (b := decide (PySem.W.nsIn K mainGlobals "abs" = some none)) rfl))
  case z_int => exact (of_decide_eq_true (ckF hc5 14 (b := decide (PySem.W.nsIn K mainGlobals "int" = some none)) rfl))
  case z_isinstance => exact (of_decide_eq_true (ckF hc5 15 (b := decide (PySem.W.nsIn K mainGlobals "isinstance" = some none)) rfl))
  case z_bool => exact (of_decide_eq_true (ckF hc6 0 (b := decide (PySem.W.nsIn K mainGlobals "bool" = some none)) rfl))
  case z_tuple => exact (of_decide_eq_true (ckF hc6 1 (b := decide (PySem.W.nsIn K mainGlobals "tuple" = some none)) rfl))
  case z_str => exact (of_decide_eq_true (ckF hc6 2 (b := decide (PySem.W.nsIn K mainGlobals "str" = some none)) rfl))
  case z_len => exact (of_decide_eq_true (ckF hc6 3 (b := decide (PySem.W.nsIn K mainGlobals "len" = some none)) rfl))
  case z_list => exact (of_decide_eq_true (ckF hc6 4 (b := decide (PySem.W.nsIn K mainGlobals "list" = some none)) rfl))
  case z_enumerate => exact (of_decide_eq_true (ckF hc6 5 (b := decide (PySem.W.nsIn K mainGlobals "enumerate" = some none)) rfl))
  case z_range => exact (of_decide_eq_true (ckF hc6 6 (b := decide (PySem.W.nsIn K mainGlobals "range" = some none)) rfl))
  case z_ValueError => exact (of_decide_eq_true (ckF hc6 7 (b := decide (PySem.W.nsIn K mainGlobals "ValueError" = some none)) rfl))
  case z_repr => exact (of_decide_eq_true (ckF hc6 8 (b := decide (PySem.W.nsIn K mainGlobals "repr" = some none)) rfl))
  case z_all => exact (of_decide_eq_true (ckF hc6 9 (b := decide (PySem.W.nsIn K mainGlobals "all" = some none)) rfl))
  case z_min => exact (of_decide_eq_true (ckF hc6 10 (b := decide (PySem.W.nsIn K mainGlobals "min" = some none)) rfl))
  case kg_PARTS => exact (of_decide_eq_true (ckF hc6 11 (b := decide (PySem.W.nsIn K mainGlobals "PARTS" = some (some (.ref (v_kp_PARTS K))))) rfl))
  case kl_PARTS => exact (dic_ok (ckF hc6 12 (b := decide (kndD K (v_kp_PARTS K) = 4)) rfl) (ckF hc6 13 (b := decide ((objD K (v_kp_PARTS K)).cls = .type "dict")) rfl) (ckF hc6 14 (b := decide ((objD K (v_kp_PARTS K)).dict = none)) rfl) (ckF hc6 15 (b := decide ((objD K (v_kp_PARTS K)).slots.size = 0)) rfl))
  case kk_PARTS => exact (kdI_of (ckF hc7 0 (b := (dicD K (v_kp_PARTS K)).toList.all entB) rfl) s.en)
  case ks_PARTS => exact (of_decide_eq_true (ckF hc7 1 (b := decide (((v_kp_PARTS K) == sysModules) = false)) rfl))
  case tu24 => exact (ckF hc7 2 (b := ((([((v_P24 K), ("law" : Str) ++ (".<locals>." : Str) ++ ("<lambda>" : Str))] : List (Addr × Str)).all fun p => decide (p.1 = (v_P24 K) → p.2 = ("law" : Str) ++ (".<locals>." : Str) ++ ("<lambda>" : Str))) : Bool)) rfl)
  case ag0 => exact (of_decide_eq_true (ckF hc7 3 (b := decide (PySem.W.nsIn K mainGlobals "_law_caught" = some (some (.ref (v_fg0 K))))) rfl))
  case lg0 => exact (fnO_ok (name := "_law_caught") (qual := "_law_caught") (st := s__law_caught) (fnF s.fn 25 (a := fnO K (v_fg0 K)) (b := fnE "_law_caught" "_law_caught" s__law_caught) rfl rfl))
  case cg0 => exact (ckF hc7 4 (b := (PySem.W.codeIn K (v_cdg0 K) "_law_caught" : Bool)) rfl)
  case kg0 => exact (ckF hc7 5 (b := (PySem.W.keepIn K (.ref (v_fg0 K)) : Bool)) rfl)
  case xm0 => exact (of_decide_eq_true (ckF hc7 6 (b := decide (PySem.W.exmOne K (.ref (v_C0 K)) (.ref (v_C0 K)) = some true)) rfl))
  case xm1 => exact (of_decide_eq_true (ckF hc7 7 (b := decide (PySem.W.exmOne K (.ref (v_C1 K)) (.ref (v_C0 K)) = some true)) rfl))
  case xm2 => exact (of_decide_eq_true (ckF hc7 8 (b := decide (PySem.W.exmOne K (.ref (v_C2 K)) (.ref (v_C0 K)) = some true)) rfl))
  case xm3 => exact (of_decide_eq_true (ckF hc7 9 (b := decide (PySem.W.exmOne K (.ref (v_C3 K)) (.ref (v_C0 K)) = some true)) rfl))
  case xm4 => exact (of_decide_eq_true (ckF hc7 10 (b := decide (PySem.W.exmOne K (.ref (v_C4 K)) (.ref (v_C0 K)) = some true)) rfl))
  case xm5 => exact (of_decide_eq_true (ckF hc7 11 (b := decide (PySem.W.exmOne K (.ref (v_C5 K)) (.ref (v_C0 K)) = some true)) rfl))
  case xm6 => exact (of_decide_eq_true (ckF hc7 12 (b := decide (PySem.W.exmOne K (.ref (v_C6 K)) (.ref (v_C0 K)) = some true)) rfl))
  case be0 => exact (ckF hc7 13 (b := (excB K (v_C0 K) : Bool)) rfl)
  case be1 => exact (ckF hc7 14 (b := (excB K (v_C1 K) : Bool)) rfl)
  case be2 => exact (ckF hc7 15 (b := (excB K (v_C2 K) : Bool)) rfl)
  case be3 => exact (ckF hc8 0 (b := (excB K (v_C3 K) : Bool)) rfl)
  case be4 => exact (ckF hc8 1 (b := (excB K (v_C4 K) : Bool)) rfl)
  case be5 => exact (ckF hc8 2 (b := (excB K (v_C5 K) : Bool)) rfl)
  case be6 => exact (ckF hc8 3 (b := (excB K (v_C6 K) : Bool)) rfl)
  case xf_field => exact (ckF hc8 4 (b := (([3].all fun c => decide (PySem.W.findIn K (.ref ((⟨fun n => [(v_C0 K), (v_C1 K), (v_C2 K), (v_C3 K), (v_C4 K), (v_C5 K), (v_C6 K)].getD n 0, [((v_P24 K), ("law" : Str) ++ (".<locals>." : Str) ++ ("<lambda>" : Str))]⟩ : CAs) c)) "field" = some none)) : Bool)) rfl)
  case xf_number => exact (ckF hc8 5 (b := (([2].all fun c => decide (PySem.W.findIn K (.ref ((⟨fun n => [(v_C0 K), (v_C1 K), (v_C2 K), (v_C3 K), (v_C4 K), (v_C5 K), (v_C6 K)].getD n 0, [((v_P24 K), ("law" : Str) ++ (".<locals>." : Str) ++ ("<lambda>" : Str))]⟩ : CAs) c)) "number" = some none)) : Bool)) rfl)
  case xf_at => exact (ckF hc8 6 (b := (([1].all fun c => decide (PySem.W.findIn K (.ref ((⟨fun n => [(v_C0 K), (v_C1 K), (v_C2 K), (v_C3 K), (v_C4 K), (v_C5 K), (v_C6 K)].getD n 0, [((v_P24 K), ("law" : Str) ++ (".<locals>." : Str) ++ ("<lambda>" : Str))]⟩ : CAs) c)) "at" = some none)) : Bool)) rfl)
  case xf_line => exact (ckF hc8 7 (b := (([6].all fun c => decide (PySem.W.findIn K (.ref ((⟨fun n => [(v_C0 K), (v_C1 K), (v_C2 K), (v_C3 K), (v_C4 K), (v_C5 K), (v_C6 K)].getD n 0, [((v_P24 K), ("law" : Str) ++ (".<locals>." : Str) ++ ("<lambda>" : Str))]⟩ : CAs) c)) "line" = some none)) : Bool)) rfl)
  case tpS => exact (by kernel_rfl)
  case xb1 => exact (ckF hc8 8 (b := (iniB K (v_C1 K) "at" : Bool)) rfl)
  case xi1 => exact (of_decide_eq_true (ckF hc8 9 (b := decide (PySem.W.findIn K (.ref (v_C1 K)) "__init__" = some (some (.ref (v_xf1 K))))) rfl))
  case xl1 => exact (by have z := (fnO_ks (name := "__init__") (qual := "BadDeed.__init__") (st := s_BadDeed_init) (fnF s.fn 26 (a := fnO K (v_xf1 K)) (b := fnX' "__init__" "BadDeed.__init__" s_BadDeed_init) rfl rfl)); rw [of_decide_eq_true (ckF hc8 10 (b := decide ((fdD K (v_xf1 K)).code = .ref (v_xa1 K))) rfl)] at z; exact z)
  case xt1 => exact (of_decide_eq_true (ckF hc8 11 (b := decide (PySem.W.typeIn K (.ref (v_xf1 K)) = some (.type "function"))) rfl))
  case xk1 => exact (ckF hc8 12 (b := (PySem.W.codeIn K (.ref (v_xa1 K)) "BadDeed.__init__" : Bool)) rfl)
  case xla1 => exact (fld_ok (ckF hc8 13 (b := decide (kndD K (v_xa1 K) = 2)) rfl))
  case xv1 => exact (of_decide_eq_true (ckF hc8 14 (b := decide ((v_xvs1 K)[2]? = some (.str (v_xfile1 K) (v_xtf1 K)))) rfl))
  case xh1 => exact (ckF hc8 15 (b := (((PySem.Challenge.rw_whilemerged_k78_texts_of_histories_spoil.prog.main.file : Str) == (v_xfile1 K)) : Bool)) rfl)
  case xlc1 => exact (cel_ok (ckF hc9 0 (b := decide (kndD K (v_xc1 K) = 5)) rfl) (ckF hc9 1 (b := decide (celD K (v_xc1 K) = some (.ref (v_C1 K)))) rfl))
  case xb6 => exact (ckF hc9 2 (b := (iniB K (v_C6 K) "line" : Bool)) rfl)
  case xi6 => exact (of_decide_eq_true (ckF hc9 3 (b := decide (PySem.W.findIn K (.ref (v_C6 K)) "__init__" = some (some (.ref (v_xf6 K))))) rfl))
  case xl6 => exact (by have z := (fnO_ks (name := "__init__") (qual := "BadText.__init__") (st := s_BadText_init) (fnF s.fn 27 (a := fnO K (v_xf6 K)) (b := fnX' "__init__" "BadText.__init__" s_BadText_init) rfl rfl)); rw [of_decide_eq_true (ckF hc9 4 (b := decide ((fdD K (v_xf6 K)).code = .ref (v_xa6 K))) rfl)] at z; exact z)
  case xt6 => exact (of_decide_eq_true (ckF hc9 5 (b := decide (PySem.W.typeIn K (.ref (v_xf6 K)) = some (.type "function"))) rfl))
  case xk6 => exact (ckF hc9 6 (b := (PySem.W.codeIn K (.ref (v_xa6 K)) "BadText.__init__" : Bool)) rfl)
  case xla6 => exact (fld_ok (ckF hc9 7 (b := decide (kndD K (v_xa6 K) = 2)) rfl))
  case xv6 => exact (of_decide_eq_true (ckF hc9 8 (b := decide ((v_xvs6 K)[2]? = some (.str (v_xfile6 K) (v_xtf6 K)))) rfl))
  case xh6 => exact (ckF hc9 9 (b := (((PySem.Challenge.rw_whilemerged_k78_texts_of_histories_spoil.prog.main.file : Str) == (v_xfile6 K)) : Bool)) rfl)
  case xlc6 => exact (cel_ok (ckF hc9 10 (b := decide (kndD K (v_xc6 K) = 5)) rfl) (ckF hc9 11 (b := decide (celD K (v_xc6 K) = some (.ref (v_C6 K)))) rfl))
  case bk => exact (ckF hc9 12 (b := (ktChk K (⟨fun n => [(v_C0 K), (v_C1 K), (v_C2 K), (v_C3 K), (v_C4 K), (v_C5 K), (v_C6 K)].getD n 0, [((v_P24 K), ("law" : Str) ++ (".<locals>." : Str) ++ ("<lambda>" : Str))]⟩ : CAs) [[.o 0, .b "ValueError"], [.o 1, .o 0, .b "ValueError"], [.o 2, .o 0, .b "ValueError"], [.o 3, .o 0, .b "ValueError"], [.o 4, .o 0, .b "ValueError"], [.o 5, .o 0, .b "ValueError"], [.o 6, .o 0, .b "ValueError"]] ("ValueError" :: tys) : Bool)) rfl)
end W_whilemerged_k78_texts_of_histories_spoil
open PySem PySem.W PyProof.Rows in
set_option maxRecDepth 100000 in
set_option maxHeartbeats 0 in
theorem PySem.Challenge.cw_whilemerged_k78_texts_of_histories_spoil_holds : PySem.Challenge.rw_whilemerged_k78_texts_of_histories_spoil.Holds := by
  w_on; o_law
  refine HandSHeadRun.head_any (r := OpenLaw.row PySem.Challenge.rw_whilemerged_k78_texts_of_histories_spoil) (q := W_whilemerged_k78_texts_of_histories_spoil.qv) (H := W_whilemerged_k78_texts_of_histories_spoil.hkX) (ob := W_whilemerged_k78_texts_of_histories_spoil.ob) (M := 20000) (loose := W_whilemerged_k78_texts_of_histories_spoil.names) (d := HandSHeadRun.topDef (OpenLaw.row PySem.Challenge.rw_whilemerged_k78_texts_of_histories_spoil).prog 40) (kwd := []) W_whilemerged_k78_texts_of_histories_spoil.ob_eq
    (by kernel_rfl) (fun s => by kernel_rfl) W_whilemerged_k78_texts_of_histories_spoil.run (by kernel_rfl) (by kernel_rfl) (by kernel_rfl) (by rfl) (by first | assumption | decide +kernel) (by decide +kernel) ⟨rfl, rfl, rfl, rfl, rfl, by decide +kernel⟩ ?hw ?hc
  case hw => w_witness2
  case hc =>
    refine CM.walkGX (l := PySem.Challenge.rw_whilemerged_k78_texts_of_histories_spoil) (k := 11) (F := W_whilemerged_k78_texts_of_histories_spoil.F_law) W_whilemerged_k78_texts_of_histories_spoil.law_ok (by decide +kernel) rfl (by kernel_rfl) ⟨rfl, by decide, by decide⟩ ?F
    intro w mg fa h Y G hmg0
    obtain ⟨K, s, t⟩ := Y
    have hmg : mg ("law" : PySem.Str) = some (.ref fa) := by
      have e : (HandSHeadRun.topDef (OpenLaw.row PySem.Challenge.rw_whilemerged_k78_texts_of_histories_spoil).prog 40).name = ("law" : PySem.Str) := by kernel_rfl
      rw [← e]
      exact hmg0
    exact ⟨K, s.kin, W_whilemerged_k78_texts_of_histories_spoil.facts G hmg s t⟩
#print axioms PySem.Challenge.cw_whilemerged_k78_texts_of_histories_spoil_holds
