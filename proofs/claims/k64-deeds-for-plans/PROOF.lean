import PyProof.Rows.All
import Wide.All
import OpenK.AllK
import Wide.FinOn
import HandS.ForMost
import HandS.ForExc
import HandS.IsInst
import HandS.WordsExc
import HandS.Ends
import HandS.Style
import HandS.Lambda
import KE.KDictKeyed
import HandS.DictComp
import HandS.Finally
import HandS.TupAny
import HandS.Property
import HandS.MakeKwOnly
import HandS.SortInts
import HandS.WordsDict
import HandS.OwnEq
import PyProof.InstNe
import HandS.Strs
import HandS.SetFor
import HandS.RaiseMore
import KE.KExcSuper
import HandS.ExcInit
import HandS.ExcField
import KE.KExcIs
import HandS.ExcValue
import HandS.EndTab
import HandS.Sort
import HandS.Conv
import KE.KDictList
import KE.SortData
import HandS.Star
import HandS.More
import HandS.DictTup
import KE.KEqDict
import HandS.NoneIn
import PyProof.NeData
import KE.GoesEnum
import HandS.Text
import HandS.Iter
import PyProof.EqKinds
import HandS.Codes
import KE.GoesZip
import KE.GoesMore
import PyProof.P3Eq
import HandS.TryOnly
import KE.KDictSum
import PyProof.Transfer
import KE.KEqNest
import PyProof.DictUpdate
import PyProof.NeKinds
import KE.KStateDown
import HandS.Head0
import HandS.Head1
import HandS.Head2
import HandS.HeadHook1
import PySem.Challenge.RW_whilemerged_k64_deeds_for_plans
set_option Elab.async false
set_option linter.all false
set_option maxRecDepth 100000
set_option maxHeartbeats 6400000
namespace CM
open PySem PySem.Spec PyProof.Rows L2
inductive D where
  | non | bl (b : Bool) | int (i : Int) | str (s : Str)
  | lst (xs : List D) | tup (xs : List D) | dct (kvs : List (Key × D))
  | obj (c : Nat) (fs : List (Str × D))
  | scr (ns : List Int) | ref (k : Nat) | ty (n : String) | cls (c : Nat)
  | exc (c : Nat) (fs : List (Str × D))
  deriving Inhabited
inductive MO where
  | lst (xs : List D) | dct (kvs : List (Key × D)) | lck (kvs : List (Key × D)) | lkl (xs : List D) | obj (c : Nat) (fs : List (Str × D))
  | dctT (kvs : List (List Key × D)) | dctD (kvs : List (D × D))
  deriving Inhabited
def NotLck : MO → Prop
  | .lck _ => False
  | .lkl _ => False
  | _ => True
abbrev Lckd (o : MO) : Prop := NotLck o → False
structure CH where
  nx : Nat
  ob : Nat → Option MO
inductive R (α : Type) where
  | ok (a : α) (h : CH)
  | ex (c : Nat) (fs : List (Str × D)) (h : CH)
  | no
def R.calm {α β : Type} (r : R α) (f : α → CH → R β) : R β := match r with
  | .ok a h => f a h
  | .ex _ _ _ => .no
  | .no => .no
structure CAs where
  f : Nat → Addr
  T : List (Addr × Str)
  w : World
instance : CoeFun CAs (fun _ => Nat → Addr) := ⟨CAs.f⟩
def NTab : HO → Prop
  | .tbl _ => False
  | .ext φ => ∀ (c : Addr) (q : Str), HO.ext φ ≠ LamX.CodeO c q
  | _ => True
def NDict (w : World) (a : Addr) (xs : List (NestedKey × Addr × Value)) : HO := .ext fun h => ∃ o es ep, h.get? a = some o ∧ o.ExactDict ∧ o.data = .dict es ep ∧ es.toList = xs.map fun x => (⟨x.1.hash w, .ref x.2.1, x.2.2⟩ : DictEntry)
def NDat (w : World) (H : Hp) (a : Addr) (xs : List (NestedKey × Addr × Value)) : Prop := (H a = some (NDict w a xs) ∧ (a == sysModules) = false) ∨ (H a = some (.dK []) ∧ xs = [])
theorem NDat.mp {w : World} {H H' : Hp} {a : Addr} {xs : List (NestedKey × Addr × Value)} (x : NDat w H a xs) (f : ∀ u, H a = some u → H' a = some u) : NDat w H' a xs := x.imp (fun z => ⟨f _ z.1, z.2⟩) fun z => ⟨f _ z.1, z.2⟩
def nkD : Nat → D → Option NestedKey
  | _, .non => some .none
  | _, .bl b => some (.num (if b = true then 1 else 0))
  | _, .int i => some (.num i)
  | _, .str x => some (.text x)
  | n + 1, .tup ds => (ds.mapM (nkD n)).map .tup
  | _, _ => none
def ExV (C a : Addr) (dd : Option Addr) : HO := .ext fun h => ∃ (oe : Obj) (vs : Array Value), h.get? a = some oe ∧ Zc (.ref C) dd oe ∧ oe.data = .fields vs
structure Mp where
  f : Nat → Addr
  z : List Addr
instance : CoeFun Mp (fun _ => Nat → Addr) := ⟨Mp.f⟩
def Live (m : Mp) (h : CH) (a : Addr) : Prop := (∃ k o, h.ob k = some o ∧ m k = a) ∨ a ∈ m.z
def core : HO → HO
  | .frz _ (.dK kvs) => .dK kvs
  | .frz _ (.dT kvs) => .dT kvs
  | .tbl _ => .tbl #[]
  | o => o
def Lk (o o' : HO) : Prop := o' = o ∨ (∃ ob kvs, o = .dK kvs ∧ o' = .frz ob o) ∨ ∃ ps qs, o = .tbl ps ∧ o' = .tbl qs
def NoTb : HO → Prop
  | .tbl _ => False
  | _ => True
theorem lk_nt {o o' : HO} (l : Lk o o') (n : NoTb o) : NoTb o' := by
  rcases l with rfl | ⟨ob, kvs, rfl, rfl⟩ | ⟨ps, qs, rfl, rfl⟩
  · exact n
  · trivial
  · exact n.elim
theorem Lk.trans {o o1 o2 : HO} (a : Lk o o1) (b : Lk o1 o2) : Lk o o2 := by
  rcases a with rfl | ⟨ob, kvs, rfl, rfl⟩ | ⟨ps, qs, rfl, rfl⟩
  · exact b
  · rcases b with rfl | ⟨ob', kvs', e, _⟩ | ⟨ps, qs, e, _⟩
    · exact .inr (.inl ⟨ob, kvs, rfl, rfl⟩)
    · cases e
    · cases e
  · rcases b with rfl | ⟨ob', kvs', e, _⟩ | ⟨ps', qs', e, rfl⟩
    · exact .inr (.inr ⟨ps, _, rfl, rfl⟩)
    · cases e
    · exact .inr (.inr ⟨ps, _, rfl, rfl⟩)
theorem Lk.frz {ob : Obj} {u o' : HO} (l : Lk (.frz ob u) o') : o' = .frz ob u := by
  rcases l with rfl | ⟨_, _, e, _⟩ | ⟨_, _, e, _⟩
  · rfl
  · cases e
  · cases e
end CM
namespace CM
open PySem PySem.Spec PyProof.Rows L2
section
variable (K : PySem.W.Frag) (CA : CAs) (m : Mp) (h : CH) (H : Hp)
mutual
inductive Rp : V → D → Prop
  | non : Rp .non .non
  | bl (b : Bool) : Rp (.bl b) (.bl b)
  | int (i : Int) : Rp (.int i) (.int i)
  | str (x : Str) : Rp (.str x) (.str x)
  | lst {a : Addr} {xs : List V} {ds : List D} : ¬ Live m h a → H a = some (.lst xs) → RpAll xs ds → Rp (.ref a) (.lst ds)
  | tup {a : Addr} {xs : List V} {ds : List D} : ¬ Live m h a → H a = some (.tup xs) → RpAll xs ds → Rp (.ref a) (.tup ds)
  | ktup {a : Addr} {xs : List V} {ds : List D} : SqT K (fun _ => none) a xs → RpAll xs ds → Rp (.ref a) (.tup ds)
  | dct {a : Addr} {o : HO} {kvs : List (Key × V)} {dks : List (Key × D)} : ¬ Live m h a → H a = some o → core o = .dK kvs → kvs.map (·.1) = dks.map (·.1) → RpAll (kvs.map (·.2)) (dks.map (·.2)) → Rp (.ref a) (.dct dks)
  | obj {a : Addr} {c : Nat} {dx : Addr} {fs : List (Str × V)} {dfs : List (Str × D)} : ¬ Live m h a → H a = some (.ins (CA c) dx fs) → fs.map (·.1) = dfs.map (·.1) → RpAll (fs.map (·.2)) (dfs.map (·.2)) → Rp (.ref a) (.obj c dfs)
  | scr {a : Addr} {ns : List Int} {o : Obj} : ¬ Live m h a → H a = some (.frz o (.lst (ns.map V.int))) → Rp (.ref a) (.scr ns)
  | kscr {a : Addr} {ns : List Int} : SqL K (fun _ => none) a (ns.map V.int) → Rp (.ref a) (.scr ns)
  | ref {k : Nat} : k < h.nx → Rp (.ref (m k)) (.ref k)
  | ty (n : String) : Rp (.ty n) (.ty n)
  | cls (c : Nat) : Rp (.ref (CA c)) (.cls c)
  | exc {a : Addr} {c : Nat} {dd : Option Addr} {fs : List (Str × V)} {dfs : List (Str × D)} : ¬ Live m h a → H a = some (ExV (CA c) a dd) → ((dd = none ∧ fs = []) ∨ ∃ x, dd = some x ∧ ¬ Live m h x ∧ H x = some (.xd fs)) → fs.map (·.1) = dfs.map (·.1) → RpAll (fs.map (·.2)) (dfs.map (·.2)) → Rp (.ref a) (.exc c dfs)
inductive RpAll : List V → List D → Prop
  | nil : RpAll [] []
  | cons {v : V} {vs : List V} {d : D} {ds : List D} : Rp v d → RpAll vs ds → RpAll (v :: vs) (d :: ds)
end
end
end CM
namespace CM
open PySem PySem.Spec PyProof.Rows L2
structure Mv (m : Mp) (h : CH) (H : Hp) (m' : Mp) (h' : CH) (H' : Hp) : Prop where
  nx : h.nx ≤ h'.nx
  mp : ∀ k, k < h.nx → m' k = m k
  kp : ∀ a o, ¬ Live m h a → H a = some o → NoTb o → ¬ Live m' h' a ∧ ∃ o', H' a = some o' ∧ Lk o o'
structure Sz (m : Mp) (h : CH) (H : Hp) (m' : Mp) (h' : CH) (H' : Hp) : Prop extends Mv m h H m' h' H' where
  lk : ∀ k o, k < h.nx → h.ob k = some o → Lckd o → h'.ob k = some o ∧ H' (m k) = H (m k)
structure Stp (m : Mp) (h : CH) (H : Hp) (m' : Mp) (h' : CH) (H' : Hp) : Prop extends Sz m h H m' h' H' where
  z : m'.z = m.z
  zk : ∀ a, a ∈ m.z → H' a = H a
structure Sc (p : Addr) (m : Mp) (h : CH) (H : Hp) (m' : Mp) (h' : CH) (H' : Hp) : Prop extends Sz m h H m' h' H' where
  z : m'.z = m.z
  zk : ∀ a, a ∈ m.z → a ≠ p → H' a = H a
theorem Sz.trans {m m1 m2 : Mp} {h h1 h2 : CH} {H H1 H2 : Hp} (a : Sz m h H m1 h1 H1) (b : Sz m1 h1 H1 m2 h2 H2) : Sz m h H m2 h2 H2 :=
  ⟨⟨Nat.le_trans a.nx b.nx, fun k l => (b.mp k (Nat.lt_of_lt_of_le l a.nx)).trans (a.mp k l), fun x o n e nt => by
    obtain ⟨n1, o1, e1, c1⟩ := a.kp x o n e nt
    obtain ⟨n2, o2, e2, c2⟩ := b.kp x o1 n1 e1 (lk_nt c1 nt)
    exact ⟨n2, o2, e2, c1.trans c2⟩⟩, fun k kvs l e ld => by
    obtain ⟨e1, q1⟩ := a.lk k kvs l e ld
    obtain ⟨e2, q2⟩ := b.lk k kvs (Nat.lt_of_lt_of_le l a.nx) e1 ld
    rw [a.mp k l] at q2
    exact ⟨e2, q2.trans q1⟩⟩
theorem Stp.trans {m m1 m2 : Mp} {h h1 h2 : CH} {H H1 H2 : Hp} (a : Stp m h H m1 h1 H1) (b : Stp m1 h1 H1 m2 h2 H2) : Stp m h H m2 h2 H2 := ⟨a.toSz.trans b.toSz, b.z.trans a.z, fun x l => (b.zk x (by rw [a.z]; exact l)).trans (a.zk x l)⟩
theorem Sc.trans {p : Addr} {m m1 m2 : Mp} {h h1 h2 : CH} {H H1 H2 : Hp} (a : Sc p m h H m1 h1 H1) (b : Sc p m1 h1 H1 m2 h2 H2) : Sc p m h H m2 h2 H2 := ⟨a.toSz.trans b.toSz, b.z.trans a.z, fun x l n => (b.zk x (by rw [a.z]; exact l) n).trans (a.zk x l n)⟩
end CM
namespace CM
open PySem PySem.Spec PyProof.Rows L2
section
variable {K : PySem.W.Frag} {CA : CAs} {m m' : Mp} {h h' : CH} {H H' : Hp} {v : V} {d : D} {vs : List V} {ds : List D}
theorem RpAll.length (r : RpAll K CA m h H vs ds) : vs.length = ds.length := by
  induction vs generalizing ds with
  | nil => cases r; rfl
  | cons v vs ih => cases r with
    | cons _ h2 => simp [ih h2]
theorem RpAll.getD (r : RpAll K CA m h H vs ds) {i : Nat} {d : D} (e : ds[i]? = some d) : ∃ v, vs[i]? = some v ∧ Rp K CA m h H v d := by
  induction vs generalizing ds i with
  | nil => cases r; simp at e
  | cons x vs ih => cases r with
    | cons h1 h2 =>
      cases i with
      | zero => simp at e; subst e; exact ⟨_, rfl, h1⟩
      | succ i => simpa using ih h2 (by simpa using e)
theorem RpAll.get (r : RpAll K CA m h H vs ds) {i : Nat} {v : V} (e : vs[i]? = some v) : ∃ d, ds[i]? = some d ∧ Rp K CA m h H v d := by
  induction vs generalizing ds i with
  | nil => simp at e
  | cons x vs ih => cases r with
    | cons h1 h2 =>
      cases i with
      | zero => simp at e; subst e; exact ⟨_, rfl, h1⟩
      | succ i => simpa using ih h2 (by simpa using e)
end
end CM
namespace CM
open PySem PySem.Spec PyProof.Rows L2
section
variable (K : PySem.W.Frag) (CA : CAs) (m : Mp) (h : CH) (H : Hp)
inductive MOk (a : Addr) : MO → Prop
  | lst {xs : List V} {ds : List D} : H a = some (.lst xs) → RpAll K CA m h H xs ds → MOk a (.lst ds)
  | dct {kvs : List (Key × V)} {dks : List (Key × D)} : H a = some (.dK kvs) → kvs.map (·.1) = dks.map (·.1) → RpAll K CA m h H (kvs.map (·.2)) (dks.map (·.2)) → MOk a (.dct dks)
  | lck {ob : Obj} {kvs : List (Key × V)} {dks : List (Key × D)} : H a = some (.frz ob (.dK kvs)) → kvs.map (·.1) = dks.map (·.1) → RpAll K CA m h H (kvs.map (·.2)) (dks.map (·.2)) → MOk a (.lck dks)
  | lkl {xs : List V} {ds : List D} : H a = some (.lst xs) → RpAll K CA m h H xs ds → MOk a (.lkl ds)
  | obj {c : Nat} {dx : Addr} {fs : List (Str × V)} {dfs : List (Str × D)} : H a = some (.ins (CA c) dx fs) → fs.map (·.1) = dfs.map (·.1) → RpAll K CA m h H (fs.map (·.2)) (dfs.map (·.2)) → MOk a (.obj c dfs)
  | dctT {kvs : List (List Key × V)} {dks : List (List Key × D)} : H a = some (.dT kvs) → kvs.map (·.1) = dks.map (·.1) → RpAll K CA m h H (kvs.map (·.2)) (dks.map (·.2)) → MOk a (.dctT dks)
  | dctD {xs : List (NestedKey × Addr × Value)} {vs : List V} {dks : List (D × D)} : NDat CA.w H a xs → xs.length ≤ sizeLine → (xs.map (·.1)).Nodup → xs.map (fun x => some x.1) = dks.map (fun p => nkD 8 p.1) → RpAll K CA m h H (xs.map fun x => V.ref x.2.1) (dks.map (·.1)) → Vals vs (xs.map (·.2.2)) → RpAll K CA m h H vs (dks.map (·.2)) → MOk a (.dctD dks)
structure HR : Prop where
  ob : ∀ k o, h.ob k = some o → k < h.nx ∧ MOk K CA m h H (m k) o
  inj : ∀ k j o u, h.ob k = some o → h.ob j = some u → m k = m j → k = j
  zn : ∀ k o, h.ob k = some o → m k ∉ m.z
  zh : ∀ a, a ∈ m.z → ∃ u, H a = some u ∧ NTab u
  tb : LamX.Tabs CA.T H
abbrev DE := List (Option D)
structure SO (σ : L2.St) (ρ : DE) : Prop where
  hr : HR K CA m h H
  len : σ.length = ρ.length
  sl : ∀ (i : Nat) (d : D), ρ[i]? = some (some d) → ∃ v, σ[i]? = some (some v) ∧ Rp K CA m h H v d
def XR (cls : Value) (dd : Option Addr) (c : Nat) (fs : List (Str × D)) : Prop :=
  cls = .ref (CA c) ∧ ((dd = none ∧ fs = []) ∨ ∃ (x : Addr) (hf : List (Str × V)), dd = some x ∧ ¬ Live m h x ∧ H x = some (.xd hf) ∧ hf.map (·.1) = fs.map (·.1) ∧ RpAll K CA m h H (hf.map (·.2)) (fs.map (·.2)))
end
end CM
namespace CM
open PySem PySem.Spec PyProof.Rows L2
section
variable {K : PySem.W.Frag} {CA : CAs} {m m' : Mp} {h h' : CH} {H H' : Hp} {σ : L2.St} {ρ : DE} {v : V} {d : D} {a p : Addr} {o : MO} {k : Nat}
theorem MOk.some (x : MOk K CA m h H a o) : ∃ u, H a = some u := by
  cases x with
  | lst q r => exact ⟨_, q⟩
  | dct q en r => exact ⟨_, q⟩
  | lck q en r => exact ⟨_, q⟩
  | lkl q r => exact ⟨_, q⟩
  | obj q en r => exact ⟨_, q⟩
  | dctT q en r => exact ⟨_, q⟩
  | dctD q z nd kk r vv r2 => exact q.elim (fun z => ⟨_, z.1⟩) fun z => ⟨_, z.1⟩
end
end CM
namespace CM
open PySem PySem.Spec PyProof.Rows L2
abbrev TD := DE → CH → R D
abbrev TDs := DE → CH → R (List D)
abbrev TB := DE → CH → R Bool
inductive RS where
  | nx (ρ : DE) (h : CH) | rt (d : D) (h : CH) | bk (ρ : DE) (h : CH) | ct (ρ : DE) (h : CH)
  | ex (ρ : DE) (c : Nat) (fs : List (Str × D)) (h : CH) | no
abbrev SD := DE → CH → RS
end CM
namespace CM
open PySem PySem.Spec PyProof.Rows L2
section
variable (K : PySem.W.Frag) (CA : CAs) (W : WX)
def PostG {α β : Type} (RR : Mp → CH → Hp → β → α → Prop) (m : Mp) (h : CH) (H : Hp) (σ : L2.St) (Q' : β → Hp → Prop) : R α → Prop
  | .ok a h' => ∀ m' b H', Stp m h H m' h' H' → HR K CA m' h' H' → RR m' h' H' b a → Q' b H'
  | .ex c fs h' => ∀ m' cls dd H', Stp m h H m' h' H' → HR K CA m' h' H' → XR K CA m' h' H' cls dd c fs → W cls dd σ H'
  | .no => False
abbrev PostE := PostG K CA W (Rp K CA)
end
end CM
namespace CM
open PySem PySem.Spec PyProof.Rows L2
abbrev FD := List D → CH → R D
instance {i j : Int} : Decidable (CMul i j) := by unfold CMul; infer_instance
instance {i j : Int} : Decidable (CDiv i j) := by unfold CDiv; infer_instance
instance {i j : Int} : Decidable (CPow i j) := by unfold CPow; infer_instance
abbrev TGD := D → DE → CH → R DE
abbrev TGDs := List D → DE → CH → R DE
end CM
namespace CM
open PySem PySem.Spec PyProof.Rows L2
section
variable (K : PySem.W.Frag) (CA : CAs) (W : WX)
def PostT' (m : Mp) (h : CH) (H : Hp) (σ : L2.St) (sl : List Nat) (Q' : L2.St → Hp → Prop) : R DE → Prop
  | .ok ρ' h' => ∀ m' σ' H', Stp m h H m' h' H' → SO K CA m' h' H' σ' ρ' → σ'.length = σ.length → (∀ j, j ∉ sl → σ'[j]? = σ[j]?) → Q' σ' H'
  | .ex _ _ _ => False
  | .no => False
end
end CM
namespace CM
open PySem PySem.Spec PyProof.Rows L2
section
variable {X : Cx} {K : PySem.W.Frag} {CA : CAs} {W : WX} {e a b c : Expr} {es : List Expr} {gH : TG} {tg : TGD} {gHs : TGs} {tgs : TGDs} {pos : Pos} {st : Stmt} {sts rest x y : List Stmt} {tu tw : TS} {u w : SD} {ha : TE} {ta : TD} {hs : TA} {ts : TDs} {hB : TT} {tB : TB}
theorem PostT'.mono {m m1 : Mp} {h h1 : CH} {H H1 : Hp} {σ σ1 : L2.St} {s1 s2 : List Nat} {Q' : L2.St → Hp → Prop} {r : R DE} (q : PostT' K CA m h H σ s2 Q' r) (s : Stp m h H m1 h1 H1) (l : σ1.length = σ.length) (k : ∀ j, j ∉ s2 → σ1[j]? = σ[j]?) (sub : ∀ j, j ∈ s1 → j ∈ s2) : PostT' K CA m1 h1 H1 σ1 s1 Q' r := by
  cases r with
  | ok ρ' h' => exact fun m' σ' H' s' S' l' k' => q m' σ' H' (s.trans s') S' (l'.trans l) fun j hj => (k' j fun z => hj (sub j z)).trans (k j hj)
  | ex c fs h' => exact q
  | no => exact q
end
end CM
namespace CM
open PySem PySem.Spec PyProof.Rows L2
def FldOf (K : PySem.W.Frag) (CA : CAs) (cs : List Nat) (f : Str) : Prop := ∀ c, c ∈ cs → Cls K (CA c) ∧ NoAttr K (CA c) f
theorem FldOf.cons {K : PySem.W.Frag} {CA : CAs} {c : Nat} {cs : List Nat} {f : Str} (h1 : Cls K (CA c)) (h2 : NoAttr K (CA c) f) (h3 : FldOf K CA cs f) : FldOf K CA (c :: cs) f := fun x hx => by
  rcases List.mem_cons.mp hx with rfl | hx
  · exact ⟨h1, h2⟩
  · exact h3 x hx
end CM
namespace CM
open PySem PySem.Spec PyProof.Rows L2
section
variable {X : Cx} {K : PySem.W.Frag} {CA : CAs} {W : WX} {m : Mp} {h : CH} {H : Hp} {e o i : Expr} {ha hi : TE} {ta ti : TD} {pos : Pos} {f : Str} {cs : List Nat}
theorem PostT'.calm {α β : Type} {RR : Mp → CH → Hp → β → α → Prop} {Q1 : β → Hp → Prop} {σ : L2.St} {sl : List Nat} {Q' : L2.St → Hp → Prop} {r : R α} {k : α → CH → R DE} (q : PostT' K CA m h H σ sl Q' (r.calm k))
    (g : ∀ a h1 m1 b H1, Stp m h H m1 h1 H1 → HR K CA m1 h1 H1 → RR m1 h1 H1 b a → PostT' K CA m1 h1 H1 σ sl Q' (k a h1) → Q1 b H1) : PostG K CA W RR m h H σ Q1 r := by
  cases r with
  | ok a h1 => exact fun m1 b H1 s S rr => g a h1 m1 b H1 s S rr (PostT'.mono (show PostT' K CA m h H σ sl Q' (k a h1) from q) s rfl (fun _ _ => rfl) fun _ z => z)
  | ex c fs h1 => exact q.elim
  | no => exact q.elim
end
end CM
namespace CM
open PySem PySem.Spec PyProof.Rows L2
structure FnG (P : Program) (w : World) (K : PySem.W.Frag) (mg : Str → Option Value) (base : Heap) (g : Bool) (k : Nat) (f : Addr) (fd : FuncData) (ps : List Str) (sp : Sp) : Prop where
  ln : ∀ vs H Q E, sp vs H Q E → vs.length = ps.length
  go : ∀ (A : Around) (outer : List Env) (s : Shared) (H : Hp) (args : Args) (us : List Value) (vs : List V) (Q : VK) (E : XK), (g = true → A.guards = some []) → Room k A → Env0 P w K mg base A outer s H → BindsTo s fd args (ps.zip us) → Vals vs us →
    sp vs H Q E → codeAny (model P w) A (.call (.ref f) args) (CR (L2.CX P w) outer P w H s Q E) s
theorem FnG.mono {P : Program} {w : World} {K : PySem.W.Frag} {mg : Str → Option Value} {base : Heap} {g : Bool} {j k : Nat} {f : Addr} {fd : FuncData} {ps : List Str} {sp : Sp} (F : FnG P w K mg base g j f fd ps sp) (h : j ≤ k) : FnG P w K mg base g k f fd ps sp :=
  ⟨F.ln, fun A o s H a us vs Q E hg hr => F.go A o s H a us vs Q E hg (hr.mono h)⟩
abbrev wxD (E : XK) : WX := fun cls d _ H => E cls d H
end CM
namespace CM
open PySem PySem.Spec PyProof.Rows L2
section
variable {P : Program} {w : World} {K : PySem.W.Frag} {mg : Str → Option Value} {base : Heap} {CA : CAs} {g : Bool}
theorem FnG.ok {k : Nat} {f : Addr} {fd : FuncData} {ps : List Str} {sp : Sp} (F : FnG P w K mg base false k f fd ps sp) : FnOk P w K mg base (L2.CX P w) k f fd ps sp := ⟨F.ln, fun A o s H a us vs Q E hr => F.go A o s H a us vs Q E (fun z => nomatch z) hr⟩
def spD (K : PySem.W.Frag) (CA : CAs) (n : Nat) (F : FD) : Sp := fun vs H Q E => vs.length = n ∧ ∃ (m : Mp) (h : CH) (ds : List D), HR K CA m h H ∧ RpAll K CA m h H vs ds ∧ PostE K CA (wxD E) m h H [] Q (F ds h)
def noxF (F : FD) : FD := fun ds h => (F ds h).calm fun d h => .ok d h
structure Df (P : Program) (w : World) (K : PySem.W.Frag) (mg : Str → Option Value) (base : Heap) (CA : CAs) (nm : Str) (g : Bool) (k : Nat) (ps : List Str) (F : FD) (f : Addr) (fd : FuncData) : Prop where
  G : FnG P w K mg base g k f fd ps (spD K CA ps.length F)
  hm : mg nm = some (.ref f)
  hk : PySem.W.keepIn K (.ref f) = true
theorem FnG.none {k : Nat} {f : Addr} {fd : FuncData} {ps : List Str} {l : Nat} : FnG P w K mg base g k f fd ps (spD K CA l fun _ _ => .no) :=
  ⟨fun _ _ _ _ h => by obtain ⟨_, _, _, _, _, _, z⟩ := h; exact z.elim, fun _ _ _ _ _ _ _ _ _ _ _ _ _ _ h => by obtain ⟨_, _, _, _, _, _, z⟩ := h; exact z.elim⟩
theorem Df.none {nm : Str} {k : Nat} {ps : List Str} {F : FD} {f : Addr} {fd : FuncData} {k' : Nat} {F' : FD} (d : Df P w K mg base CA nm g k' ps F' f fd) : Df P w K mg base CA nm g k ps (fun _ _ => .no) f fd := ⟨.none, d.hm, d.hk⟩
end
end CM
namespace CM
open PySem PySem.Spec PyProof.Rows L2
inductive Src where
  | p (i : Nat) | k (i : Nat) | c (d : D)
def pickL (us ws : List Value) : List Src → List Value → List Value
  | [], _ => []
  | .p i :: r, cs => us.getD i .none :: pickL us ws r cs
  | .k i :: r, cs => ws.getD i .none :: pickL us ws r cs
  | .c _ :: r, c :: cs => c :: pickL us ws r cs
  | .c _ :: r, [] => .none :: pickL us ws r []
def consts : List Src → List D
  | [] => []
  | .p _ :: r => consts r
  | .k _ :: r => consts r
  | .c d :: r => d :: consts r
def Ever (K : PySem.W.Frag) (CA : CAs) (u : Value) (d : D) : Prop := ∃ v, RelV v u ∧ ∀ m h H, Rp K CA m h H v d
structure KwB (K : PySem.W.Frag) (CA : CAs) (fd : FuncData) (ps : List Str) (n : Nat) (ks : List Str) (src : List Src) : Prop where
  ex : ∃ cs : List Value, Paired (Ever K CA) cs (consts src) ∧ ∀ (s : Shared) (us ws : List Value), K.In s.heap → us.length = n → ws.length = ks.length → BindsTo s fd ⟨us, ks.zip ws⟩ (ps.zip (pickL us ws src cs))
end CM
namespace CM
open PySem PySem.Spec PyProof.Rows L2
section
variable {K : PySem.W.Frag} {CA : CAs} {m : Mp} {h : CH} {H : Hp}
theorem KwB.of {fd : FuncData} {ps : List Str} {n : Nat} {ks : List Str} {src : List Src} (hc : consts src = []) (b : ∀ (us ws : List Value), us.length = n → ws.length = ks.length → bindArgs fd ⟨us, ks.zip ws⟩ = pure (ps.zip (pickL us ws src []))) : KwB K CA fd ps n ks src :=
  ⟨[], by rw [hc]; exact .nil, fun s us ws _ h1 h2 => .of_eq (b us ws h1 h2)⟩
end
end CM
namespace CM
open PySem PySem.Spec PyProof.Rows L2
section
variable {X : Cx} {K : PySem.W.Frag} {CA : CAs} {W : WX} {o e : Expr} {es : List Expr} {kws : List Keyword} {pos apos p : Pos} {ha : TE} {ta : TD} {hs hk : TA} {ts tk : TDs} {x nm : Str} {g : Bool} {k n l c0 : Nat} {ps ks : List Str} {src : List Src} {F : FD} {f : Addr} {fd : FuncData}
def srcP : Nat → Nat → List Src
  | _, 0 => []
  | i, n + 1 => .p i :: srcP (i + 1) n
end
end CM
namespace CM
open PySem PySem.Spec PyProof.Rows L2
structure Mtd (P : Program) (w : World) (K : PySem.W.Frag) (mg : Str → Option Value) (base : Heap) (CA : CAs) (c0 : Nat) (nm : Str) (g : Bool) (k : Nat) (ps : List Str) (F : FD) (f : Addr) (fd : FuncData) : Prop where
  G : FnG P w K mg base g k f fd ps (spD K CA ps.length F)
  cl : Cls K (CA c0)
  mt : Meth K (CA c0) nm f
structure Prd (P : Program) (w : World) (K : PySem.W.Frag) (mg : Str → Option Value) (base : Heap) (CA : CAs) (c0 : Nat) (nm : Str) (k : Nat) (ps : List Str) (F : FD) : Prop where
  ex : ∃ (p g : Addr) (fd : FuncData), FnOk P w K mg base L2.CX0 k g fd ps (spD K CA 1 (noxF F)) ∧ PropOf K (CA c0) nm p g ∧ Binds K fd ps []
  cl : Cls K (CA c0)
structure Mkd (P : Program) (w : World) (K : PySem.W.Frag) (mg : Str → Option Value) (base : Heap) (CA : CAs) (c0 : Nat) (nm : Str) (k : Nat) (ps : List Str) (F : FD) (f : Addr) (fd : FuncData) : Prop where
  G : FnG P w K mg base false k f fd ps (spD K CA ps.length F)
  hm : mg nm = some (.ref (CA c0))
  mkd : Mk K (CA c0) f
def GV (K : PySem.W.Frag) (CA : CAs) (mg : Str → Option Value) (x : Str) (d : D) : Prop := ∃ v u, mg x = some u ∧ RelV v u ∧ ∀ m h H, Rp K CA m h H v d
noncomputable def GV.v {K : PySem.W.Frag} {CA : CAs} {mg : Str → Option Value} {x : Str} {d : D} (G : GV K CA mg x d) : V := Classical.choose G
inductive Tg where
  | b (n : String) | o (c : Nat)
  deriving DecidableEq
def Tg.v (CA : CAs) : Tg → Value
  | .b n => .type n
  | .o c => .ref (CA c)
end CM
namespace CM
open PySem PySem.Spec PyProof.Rows L2
section
variable {P : Program} {w : World} {K : PySem.W.Frag} {mg : Str → Option Value} {base : Heap} {CA : CAs}
theorem KwB.fn {nm qual : Str} {st : Stmt} {f : Addr} {fd : FuncData} {ps : List Str} {n : Nat} {ks : List Str} {src : List Src} (T : Fun K nm qual st f fd) (hc : consts src = [])
    (h : ∀ (kV doc pm : Value) (an : Option Addr) (cdv ct : Value) (us ws : List Value), us.length = n → ws.length = ks.length → bindArgs (PySem.W.fnOf nm qual (defArgs st) (defBody st) (defScope st) .none kV doc pm an cdv ct) ⟨us, ks.zip ws⟩ = pure (ps.zip (pickL us ws src []))) : KwB K CA fd ps n ks src := by
  obtain ⟨c1, o1, k1, d1, p1, a1, v1, t1, s1, rfl, _, _⟩ := T.ex
  exact .of hc fun us ws h1 h2 => h _ _ _ _ _ _ us ws h1 h2
end
end CM
namespace CM
open PySem PySem.Spec PyProof.Rows L2
def tys : List String := ["NoneType", "bool", "int", "str", "list", "tuple", "dict"]
structure OwnE (P : Program) (w : World) (K : PySem.W.Frag) (mg : Str → Option Value) (base : Heap) (CA : CAs) (c0 : Nat) (nf : Tg → Bool) (k : Nat) (ps : List Str) (F : FD) (f : Addr) (fd : FuncData) : Prop where
  G : FnG P w K mg base false k f fd ps (spD K CA 2 F)
  at_ : PySem.W.findIn K (.ref (CA c0)) "__eq__" = some (some (.ref f))
  ne : PySem.W.findIn K (.ref (CA c0)) "__ne__" = some (some (.builtin "object.__ne__"))
  fn : PySem.W.isFn K (.ref f) = true
  ob : PySem.W.mroIn K (CA c0) (.type "object") = some true
  nf : ∀ t, nf t = true → PySem.W.notFirst K (CA c0) (t.v CA) = true
  bd : Binds K fd ps []
def clsB (K : PySem.W.Frag) (C : Addr) : Bool :=
  PySem.W.plainGet K C Str.empty && (PySem.W.hasDictIn K C && (PySem.W.plainOver K C && (decide (PySem.W.findIn K (.ref C) "__setattr__" = some (some (.builtin "object.__setattr__"))) &&
  (decide (PySem.W.findIn K (.ref C) "__class__" = some (some (.builtin "object.__class__"))) && (decide (PySem.W.specialIn K (.builtin "object.__class__") "__get__" = some (some (.builtin "getset_descriptor.__get__"))) &&
  (decide (PySem.W.takesIn K (.builtin "object.__class__") = some true) && decide (PySem.W.mroIn K C (.type "object") = some true)))))))
structure ClsOk (K : PySem.W.Frag) (C : Addr) : Prop where
  cl : Cls K C
  i1 : PySem.W.findIn K (.ref C) "__class__" = some (some (.builtin "object.__class__"))
  i2 : PySem.W.specialIn K (.builtin "object.__class__") "__get__" = some (some (.builtin "getset_descriptor.__get__"))
  i3 : PySem.W.takesIn K (.builtin "object.__class__") = some true
  i4 : PySem.W.mroIn K C (.type "object") = some true
def noB (K : PySem.W.Frag) (C : Addr) (fs : List Str) : Bool := fs.all fun f => decide (PySem.W.findIn K (.ref C) f = some none)
def ktChk (K : PySem.W.Frag) (CA : CAs) (sup : List (List Tg)) (bs : List String) : Bool :=
  (List.range sup.length).all fun c => (tys.all fun x => decide (PySem.W.kitOne K (.type x) (.ref (CA c)) = some false)) && ((bs.all fun y => decide (PySem.W.kitOne K (.ref (CA c)) (.type y) = some (decide (Tg.b y ∈ sup.getD c [])))) &&
    (List.range sup.length).all fun d => decide (PySem.W.kitOne K (.ref (CA c)) (.ref (CA d)) = some (decide (Tg.o d ∈ sup.getD c []))))
end CM
namespace CM
open PySem PySem.Spec PyProof.Rows L2
section
variable {P : Program} {w : World} {K : PySem.W.Frag} {mg : Str → Option Value} {base : Heap} {CA : CAs} {c0 k : Nat} {ps : List Str} {F : FD} {f p : Addr} {fd : FuncData} {nm nmf qual : Str} {st : Stmt}
theorem Df.of {g : Bool} (T : Fun K nmf qual st f fd) (G : FnG P w K mg base g k f fd ps (spD K CA ps.length F)) (hm : mg nm = some (.ref f)) : Df P w K mg base CA nm g k ps F f fd := ⟨G, hm, T.kp⟩
theorem Mtd.of {g : Bool} (T : Fun K nmf qual st f fd) (G : FnG P w K mg base g k f fd ps (spD K CA ps.length F)) (cl : ClsOk K (CA c0)) (hm : PySem.W.findIn K (.ref (CA c0)) nm = some (some (.ref f))) (hf : PySem.W.isFn K (.ref f) = true) : Mtd P w K mg base CA c0 nm g k ps F f fd :=
  ⟨G, cl.cl, ⟨hm, hf, T.kp⟩⟩
theorem Mkd.of (T : Fun K nmf qual st f fd) (G : FnG P w K mg base false k f fd ps (spD K CA ps.length F)) (hm : mg nm = some (.ref (CA c0))) (hi : PySem.W.findIn K (.ref (CA c0)) "__init__" = some (some (.ref f))) (hf : PySem.W.isFn K (.ref f) = true) (mk : PySem.W.makesIn K (CA c0) = true) (kp : PySem.W.keepIn K (.ref (CA c0)) = true) :
    Mkd P w K mg base CA c0 nm k ps F f fd := ⟨G, hm, ⟨mk, hi, hf, kp⟩⟩
theorem Prd.of {rest : List Value} (T : Fun K nmf qual st f fd) (G : FnOk P w K mg base L2.CX0 k f fd ps (spD K CA 1 (noxF F))) (cl : ClsOk K (CA c0)) (h1 : PySem.W.findIn K (.ref (CA c0)) nm = some (some (.ref p))) (h2 : PySem.W.specialIn K (.ref p) "__get__" = some (some (.builtin "property.__get__"))) (h3 : PySem.W.takesIn K (.ref p) = some true)
    (h4 : PySem.W.recIn K p "property" = some (.ref f :: rest)) (b : ∀ (kV doc pm : Value) (an : Option Addr) (cdv ct : Value) (us : List Value), us.length = ps.length → bindArgs (PySem.W.fnOf nmf qual (defArgs st) (defBody st) (defScope st) .none kV doc pm an cdv ct) ⟨us, []⟩ = pure (ps.zip us)) :
    Prd P w K mg base CA c0 nm k ps F := ⟨⟨p, f, fd, G, ⟨h1, h2, h3, rest, h4⟩, T.binds b⟩, cl.cl⟩
def nfB (K : PySem.W.Frag) (CA : CAs) (c0 : Nat) (ts : List Tg) : Bool := ts.all fun t => PySem.W.notFirst K (CA c0) (t.v CA)
theorem OwnE.of {ts : List Tg} (T : Fun K nmf qual st f fd) (G : FnG P w K mg base false k f fd ps (spD K CA ps.length F)) (hl : ps.length = 2) (cl : ClsOk K (CA c0)) (hm : PySem.W.findIn K (.ref (CA c0)) "__eq__" = some (some (.ref f))) (hf : PySem.W.isFn K (.ref f) = true)
    (hn : PySem.W.findIn K (.ref (CA c0)) "__ne__" = some (some (.builtin "object.__ne__"))) (hc : nfB K CA c0 ts = true) (b : ∀ (kV doc pm : Value) (an : Option Addr) (cdv ct : Value) (us : List Value), us.length = ps.length → bindArgs (PySem.W.fnOf nmf qual (defArgs st) (defBody st) (defScope st) .none kV doc pm an cdv ct) ⟨us, []⟩ = pure (ps.zip us)) :
    OwnE P w K mg base CA c0 (fun t => decide (t ∈ ts)) k ps F f fd :=
  ⟨by rw [← hl]; exact G, hm, hn, hf, cl.i4, fun t ht => List.all_eq_true.mp hc t (of_decide_eq_true ht), T.binds b⟩
end
end CM
namespace CM
open PySem PySem.Spec PyProof.Rows L2
mutual
inductive DpD (K : PySem.W.Frag) (H : Hp) : V → PyData → Prop
  | non : DpD K H .non .none
  | bl (b : Bool) : DpD K H (.bl b) (.bool b)
  | int (i : Int) : DpD K H (.int i) (.int i)
  | str (x : Str) : DpD K H (.str x) (.str x)
  | lst {a : Addr} {xs : List V} {ds : List PyData} : SqL K H a xs → DpDs K H xs ds → DpD K H (.ref a) (.list ds)
  | tup {a : Addr} {xs : List V} {ds : List PyData} : SqT K H a xs → DpDs K H xs ds → DpD K H (.ref a) (.tuple ds)
  | dct {a : Addr} {kvs : List (Key × V)} {ks ds : List PyData} : Rd H a (.dK kvs) → ks = kvs.map (fun p => match p.1 with | .inl i => PyData.int i | .inr x => PyData.str x) → DpDs K H (kvs.map (·.2)) ds → DpD K H (.ref a) (.dict (ks.zip ds))
inductive DpDs (K : PySem.W.Frag) (H : Hp) : List V → List PyData → Prop
  | nil : DpDs K H [] []
  | cons {v : V} {vs : List V} {d : PyData} {ds : List PyData} : DpD K H v d → DpDs K H vs ds → DpDs K H (v :: vs) (d :: ds)
end
end CM
namespace CM
open PySem PySem.Spec PyProof.Rows L2
section
variable {X : Cx} {pins : List (Addr × Obj)} {σ : L2.St} {H : Hp} {s : Shared}
theorem DpDs.length {K : PySem.W.Frag} {vs : List V} {ds : List PyData} (r : DpDs K H vs ds) : vs.length = ds.length := by
  induction vs generalizing ds with
  | nil => cases r; rfl
  | cons v vs ih => cases r with
    | cons _ h => simp [ih h]
end
end CM
namespace CM
open PySem PySem.Spec PyProof.Rows L2
open PySem PySem.Spec PySem.Calls PyProof.Rows L2
open PySem PySem.Spec PySem.Calls PyProof.Rows L2 PySem.HandSPX
section
variable {K : PySem.W.Frag} {CA : CAs} {α : Type}
def PB (K : PySem.W.Frag) (CA : CAs) (a : Addr) (m : Mp) (h : CH) (H : Hp) (P : α → Mp → CH → Hp → Prop) : R α → Prop
  | .ok x h' => ∀ m' H', Sc a m h H m' h' H' → HR K CA m' h' H' → P x m' h' H'
  | _ => False
theorem PB.base {a : Addr} {m m2 : Mp} {h h2 : CH} {H H2 : Hp} {P : α → Mp → CH → Hp → Prop} {r : R α} (s : Sc a m h H m2 h2 H2) (q : PB K CA a m h H P r) : PB K CA a m2 h2 H2 P r := by
  cases r with
  | ok x h' => exact fun m' H' s' S' => q m' H' (s.trans s') S'
  | ex => exact q
  | no => exact q
theorem PB.calm {β : Type} {a : Addr} {m : Mp} {h : CH} {H : Hp} {P : α → Mp → CH → Hp → Prop} {r : R β} {k : β → CH → R α} (q : PB K CA a m h H P (r.calm k)) : ∃ b h', r = .ok b h' ∧ PB K CA a m h H P (k b h') := by
  cases r with
  | ok b h' => exact ⟨b, h', rfl, q⟩
  | ex => exact q.elim
  | no => exact q.elim
end
end CM
namespace CM
open PySem PySem.Spec PyProof.Rows L2
open PySem PySem.Spec PySem.Calls PyProof.Rows L2
open PySem PySem.Spec PySem.Calls PyProof.Rows L2 PySem.HandSPX
def Dv (X : Cx) (CA : CAs) (n c : Nat) (F : FD) : Prop := ∃ (g : Bool) (k : Nat) (f : Addr) (fd : FuncData) (ps : List Str), CA c = f ∧ ps.length = n ∧ FnG X.prog X.w X.K X.mg X.base g k f fd ps (spD X.K CA ps.length F) ∧ PySem.W.keepIn X.K (.ref f) = true ∧ (g = true → X.A.guards = some []) ∧ Room k X.A ∧ KwB X.K CA fd ps ps.length [] (srcP 0 ps.length)
inductive Dvs (X : Cx) (CA : CAs) (n : Nat) : List (Nat × FD) → Prop where
  | nil : Dvs X CA n []
  | cons {c : Nat} {F : FD} {l : List (Nat × FD)} : Dv X CA n c F → Dvs X CA n l → Dvs X CA n ((c, F) :: l)
theorem Dv.of {X : Cx} {CA : CAs} {n c : Nat} {F : FD} {x : Str} {g : Bool} {k : Nat} {f : Addr} {fd : FuncData} {ps : List Str} (D : Df X.prog X.w X.K X.mg X.base CA x g k ps F f fd) (hc : CA c = f) (hG : g = true → X.A.guards = some []) (hr : Room k X.A) (B : KwB X.K CA fd ps ps.length [] (srcP 0 ps.length)) (hn : ps.length = n := by rfl) : Dv X CA n c F :=
  ⟨g, k, f, fd, ps, hc, hn, D.G, D.hk, hG, hr, B⟩
theorem Dvs.get {X : Cx} {CA : CAs} {n c : Nat} {F : FD} : ∀ {l : List (Nat × FD)}, Dvs X CA n l → l.lookup c = some F → Dv X CA n c F
  | _, .nil, e => by cases e
  | (c', F') :: l, .cons d ds, e => by
    rw [List.lookup_cons] at e
    by_cases z : c = c'
    · subst z
      simp at e
      subst e
      exact d
    · rw [show (c == c') = false from by simpa using z] at e
      exact ds.get e
end CM
namespace CM
open PySem PySem.Spec PySem.Calls PyProof.Rows L2
open PySem PySem.Spec PyProof.Rows L2
mutual
inductive NV (K : PySem.W.Frag) (H : Hp) : NestedKey → V → Prop
  | none : NV K H .none .non
  | bl (b : Bool) : NV K H (.num (if b = true then 1 else 0)) (.bl b)
  | int (i : Int) : NV K H (.num i) (.int i)
  | str (x : Str) : NV K H (.text x) (.str x)
  | tup {a : Addr} {ks : List NestedKey} {vs : List V} : SqT K H a vs → NVs K H ks vs → NV K H (.tup ks) (.ref a)
inductive NVs (K : PySem.W.Frag) (H : Hp) : List NestedKey → List V → Prop
  | nil : NVs K H [] []
  | cons {k : NestedKey} {ks : List NestedKey} {v : V} {vs : List V} : NV K H k v → NVs K H ks vs → NVs K H (k :: ks) (v :: vs)
end
end CM
namespace CM
open PySem PySem.Spec PySem.Calls PyProof.Rows L2
open PySem PySem.Spec PyProof.Rows L2
section
variable {P : Program} {w : World} {K : PySem.W.Frag} {H : Hp} {h : Heap}
theorem sqTAt {a : Addr} {xs : List V} (hok : HOk P w H h) (KX : K.In h) (q : SqT K H a xs) : ∃ (its : List Value) (o : Obj) (n : Nat), Vals xs its ∧ h.get? a = some o ∧ o.cls = .type "tuple" ∧ o.data = .seq its.toArray n := by
  rcases q with q | ⟨o, its, n, e, hc, hd, _, hv⟩
  · obtain ⟨_, its, hv, o, e, hc, n, hd⟩ := (show ObjOk P w H h a (.tup xs) from q.ok hok)
    exact ⟨its, o, n, hv, e, hc, hd⟩
  · exact ⟨its.toList, o, n, hv, KX _ _ e, hc, by simp [hd]⟩
mutual
theorem nv_is (hok : HOk P w H h) (KX : K.In h) : ∀ (k : NestedKey) (v : V) (u : Value), NV K H k v → RelV v u → NestedIs h k u
  | .none, _, _, x, r => by cases x; cases r; exact .none
  | .num i, _, u, x, r => by
    cases x with
    | bl b => cases r; exact .bool rfl
    | int => obtain ⟨t, rfl⟩ := (show ∃ t, u = Value.int i t from r); exact .int _ _
  | .text y, _, u, x, r => by
    cases x
    obtain ⟨t, rfl⟩ := (show ∃ t, u = Value.str y t from r)
    exact .text _ _
  | .tup ks, _, u, x, r => by
    cases x with
    | @tup a _ vs sq all =>
      obtain rfl : u = Value.ref a := r
      obtain ⟨its, o, n, vals, g, c, d⟩ := sqTAt hok KX sq
      exact .tup g c d (nvs_is hok KX ks vs its all vals)
theorem nvs_is (hok : HOk P w H h) (KX : K.In h) : ∀ (ks : List NestedKey) (vs : List V) (us : List Value), NVs K H ks vs → Vals vs us → NestedAll h ks us
  | [], _, _, x, r => by cases x; cases r; exact .nil
  | k :: ks, _, _, x, r => by
    cases x with
    | cons x1 x2 => cases r with
      | cons r1 r2 => exact .cons (nv_is hok KX k _ _ x1 r1) (nvs_is hok KX ks _ _ x2 r2)
end
end
end CM
namespace CM
open PySem PySem.Spec PySem.Calls PyProof.Rows L2
open PySem PySem.Spec PyProof.Rows L2
structure ND (K : PySem.W.Frag) (w : World) (H : Hp) (a : Addr) (xs : List (NestedKey × Addr × Value)) : Prop where
  at_ : NDat w H a xs
  sz : xs.length ≤ sizeLine
  nd : (xs.map (·.1)).Nodup
  ks : ∀ x ∈ xs, NV K H x.1 (.ref x.2.1) ∧ x.1.depth ≤ 8
theorem ND.of {P : Program} {w : World} {K : PySem.W.Frag} {H : Hp} {h : Heap} {a : Addr} {xs : List (NestedKey × Addr × Value)} (x : ND K w H a xs) (hok : HOk P w H h) (KX : K.In h) : h.DictOfH (nestedKind P w) a xs := by
  rcases x.at_ with ⟨q, _⟩ | ⟨q, e⟩
  case' inl => obtain ⟨⟨o, es, ep, h1, h2, h3, h4⟩, _, _⟩ := hok a _ q
  case' inr =>
    obtain ⟨_, _, vs, rel, o, es, ep, h1, h2, h3, _, h4', _⟩ := dk_of hok q
    cases rel
    have h4 : es.toList = xs.map (entryOfKey (nestedKind P w)) := by
      rw [e]
      cases hh : es.toList with
      | nil => rfl
      | cons z zs => rw [hh] at h4'; cases h4'
  all_goals exact ⟨o, es, ep, h1, h2, h3, h4, fun y hy => ⟨nv_is hok KX _ _ _ (x.ks y hy).1 rfl, (x.ks y hy).2⟩, x.nd⟩
def dGetN (kvs : List (D × D)) (k : NestedKey) : Option D := (kvs.find? fun p => decide (nkD 8 p.1 = some k)).map (·.2)
end CM
namespace CM
open PySem PySem.Spec PySem.Calls PyProof.Rows L2
open PySem PySem.Spec PyProof.Rows L2
section
variable {K : PySem.W.Frag} {CA : CAs} {m m' : Mp} {h h' : CH} {H H' : Hp} {v : V} {d x : D} {k : NestedKey} {xs : List (NestedKey × Addr × Value)} {kvs : List (D × D)} {a b : Addr} {u : Value} {j : Nat}
inductive DNs (K : PySem.W.Frag) (CA : CAs) (m : Mp) (h : CH) (H : Hp) : List (NestedKey × Addr × Value) → List (D × D) → Prop
  | nil : DNs K CA m h H [] []
  | cons {k : NestedKey} {b : Addr} {u : Value} {v : V} {x d : D} {xs : List (NestedKey × Addr × Value)} {kvs : List (D × D)} : nkD 8 x = some k → Rp K CA m h H (.ref b) x → RelV v u → Rp K CA m h H v d → DNs K CA m h H xs kvs → DNs K CA m h H ((k, b, u) :: xs) ((x, d) :: kvs)
theorem DNs.length (r : DNs K CA m h H xs kvs) : xs.length = kvs.length := by
  induction r with
  | nil => rfl
  | cons _ _ _ _ _ ih => simp [ih]
theorem DNs.get (r : DNs K CA m h H xs kvs) : (atKey xs k).isSome = (dGetN kvs k).isSome ∧ ∀ d, dGetN kvs k = some d → ∃ p v, atKey xs k = some p ∧ RelV v p.2 ∧ Rp K CA m h H v d := by
  induction r with
  | nil => exact ⟨rfl, fun d e => by cases e⟩
  | @cons k1 b u v x d xs kvs e r1 rv r2 _ ih =>
    by_cases c : k1 = k
    · subst c
      have e1 : atKey ((k1, b, u) :: xs) k1 = some (b, u) := by simp [atKey]
      have e2 : dGetN ((x, d) :: kvs) k1 = some d := by simp [dGetN, e]
      rw [e1, e2]
      exact ⟨rfl, fun d' q => by cases q; exact ⟨_, v, rfl, rv, r2⟩⟩
    · have e1 : atKey ((k1, b, u) :: xs) k = atKey xs k := by simp [atKey, c]
      have e2 : dGetN ((x, d) :: kvs) k = dGetN kvs k := by simp [dGetN, e, c]
      rw [e1, e2]
      exact ih
end
end CM
namespace CM
open PySem PySem.Spec PySem.Calls PyProof.Rows L2
open PySem PySem.Spec PyProof.Rows L2
open PySem PySem.Spec PySem.Calls PyProof.Rows L2 PySem.W
section
variable (K : PySem.W.Frag) (a : Addr)
def objD : Obj := (K.lookup a).getD default
def fdD : FuncData := match (objD K a).data with
  | .func fd => fd
  | _ => default
def seqD : Array Value := match (objD K a).data with
  | .seq vs _ => vs
  | _ => #[]
def kndD : Nat := match K.lookup a with
  | some o => (match o.data with
    | .func _ => 1
    | .fields _ => 2
    | .seq _ _ => 3
    | .dict _ _ => 4
    | .cell _ => 5
    | _ => 0)
  | none => 0
end
end CM
namespace CM
open PySem PySem.Spec PySem.Calls PyProof.Rows L2
open PySem PySem.Spec PyProof.Rows L2
open PySem PySem.Spec PySem.Calls PyProof.Rows L2 PySem.W
def refA : Value → Addr
  | .ref a => a
  | _ => 0
def tkV : Value → Tok
  | .int _ t => t
  | .str _ t => t
  | _ => default
def nsV (K : PySem.W.Frag) (ns : Addr) (x : Str) : Value := match PySem.W.nsIn K ns x with
  | some (some v) => v
  | _ => .none
def ga (K : PySem.W.Frag) (x : Str) : Addr := refA (nsV K mainGlobals x)
def ma (K : PySem.W.Frag) (C : Addr) (m : Str) : Addr := match PySem.W.findIn K (.ref C) m with
  | some (some (.ref a)) => a
  | _ => 0
abbrev FnV : Type := Option (Str × Str × Arguments × FuncBody × Scope × Addr × List Str × Value × Addr)
def fnO (K : PySem.W.Frag) (a : Addr) : FnV := match K.lookup a with
  | some ⟨_, _, .func fd, _⟩ => some (fd.name, fd.qualname, fd.params, fd.body, fd.scope, fd.globals, fd.closure.map (·.1), fd.defaults, fd.builtins)
  | _ => none
abbrev fnE (name qual : Str) (st : Stmt) : FnV := some (name, qual, defArgs st, .stmts (defBody st), defScope st, mainGlobals, [], .none, builtinsNs)
def refsX (o : Obj) : List Addr := He.refV o.cls ++ match o.data with
  | .seq its _ => its.toList.flatMap He.refV
  | .dict es _ => es.toList.flatMap fun e => He.refV e.val
  | .func fd => He.refV fd.code ++ (He.refV fd.defaults ++ (He.refV fd.kwdefaults ++ fd.closure.map (·.2)))
  | .cls cd => cd.ns :: cd.mro.flatMap He.refV
  | .fields vs => vs.toList.flatMap He.refV
  | .cell (some v) => He.refV v
  | _ => []
def newX (old : List Addr) : List Addr → List Addr
  | [] => []
  | a :: r => if old.contains a then newX old r else a :: newX (a :: old) r
def asX (g : Addr → Option Obj) : Nat → List Addr → List Addr → List Addr
  | 0, old, _ => old
  | n + 1, old, fr => match newX old (fr.flatMap fun a => match g a with
    | some o => refsX o
    | none => []) with
    | [] => old
    | x :: l => asX g n (x :: l ++ old) (x :: l)
def isTab (o : Option Obj) : Bool := match o with
  | some ⟨.none, none, .fields vs, sl⟩ => decide (vs.size = 0) && decide (sl.size = 0)
  | _ => false
theorem isTab_ok {o : Option Obj} (e : isTab o = true) : o = some { cls := .none, data := .fields #[] } := by
  unfold isTab at e
  split at e
  · rename_i vs sl
    rw [Bool.and_eq_true] at e
    have h1 := Array.eq_empty_of_size_eq_zero (of_decide_eq_true e.1)
    have h2 := Array.eq_empty_of_size_eq_zero (of_decide_eq_true e.2)
    subst h1 h2
    rfl
  · cases e
def fragX (g : Addr → Option Obj) (n : Nat) : PySem.W.Frag := He.frG g ((asX g n [mainGlobals] [mainGlobals]).filter fun a => !isTab (g a))
abbrev AlX : Type := Bool × (List FnV × List (Int × Str × Int))
structure SpecX where
  ck : PySem.W.Frag → Bool
  fn : PySem.W.Frag → List FnV
  fe : List FnV
  en : PySem.W.Frag → List (Int × Str × Int)
  ee : Params → List (Int × Str × Int)
  tb : PySem.W.Frag → List Addr
def SpecX.obs (X : SpecX) (n : Nat) (g : Addr → Option Obj) : AlX := (X.ck (fragX g n) && (X.tb (fragX g n)).all fun a => isTab (g a), X.fn (fragX g n), X.en (fragX g n))
def SpecX.val (X : SpecX) (P : Params) : AlX := (true, X.fe, X.ee P)
structure SaysX (X : SpecX) (w : World) (h : Heap) (K : PySem.W.Frag) : Prop where
  kin : K.In h
  ck : X.ck K = true
  fn : X.fn K = X.fe
  en : X.en K = X.ee w.params
  tb : ∀ a ∈ X.tb K, h.get? a = some { cls := .none, data := .fields #[] }
def bitB (m a : Nat) : Bool := Nat.beq (Nat.land (Nat.shiftRight m a) 1) 1
def frO {α : Type} (o : Obj) (k : Obj → α) : α := match o with
  | ⟨c, d, x, sl⟩ => (match x with
    | .fields vs => k ⟨c, d, .fields vs, sl⟩
    | .seq vs n => k ⟨c, d, .seq vs n, sl⟩
    | x => k ⟨c, d, x, sl⟩)
theorem frO_eq {α : Type} (o : Obj) (k : Obj → α) : frO o k = k o := by
  obtain ⟨c, d, x, sl⟩ := o
  unfold frO
  cases x <;> rfl
def isHot (o : Obj) : Bool := match o.data with
  | .func _ => true
  | .cls _ => true
  | .dict _ _ => true
  | _ => false
def revB {α : Type} : PySem.W.Frag → PySem.W.Frag → (PySem.W.Frag → α) → α
  | [], L, k => k L
  | p :: r, L, k => revB r (p :: L) k
def reachB {α : Type} (g : Addr → Option Obj) : Nat → Nat → List Addr → PySem.W.Frag → PySem.W.Frag → (PySem.W.Frag → α) → α
  | 0, _, _, K, L, k => revB K L k
  | _ + 1, _, [], K, L, k => revB K L k
  | n + 1, m, a :: r, K, L, k => HandSHeadRun.frNat a fun a => match bitB m a with
    | true => reachB g n m r K L k
    | false => HandSHeadRun.frNat (Nat.lor m (Nat.shiftLeft 1 a)) fun m => match g a with
      | none => reachB g n m r K L k
      | some o => frO o fun o => match isTab (some o) with
        | true => reachB g n m r K L k
        | false => match isHot o with
          | true => reachB g n m (refsX o ++ r) ((a, o) :: K) L k
          | false => reachB g n m (refsX o ++ r) K ((a, o) :: L) k
def Sound (g : Addr → Option Obj) (K : PySem.W.Frag) : Prop := ∀ p ∈ K, g p.1 = some p.2
theorem Sound.cons {g : Addr → Option Obj} {K : PySem.W.Frag} {a : Addr} {o : Obj} (e : g a = some o) (h : Sound g K) : Sound g ((a, o) :: K) := fun p hp => by
  rcases List.mem_cons.mp hp with rfl | hp
  · exact e
  · exact h p hp
theorem revB_ok {α : Type} {g : Addr → Option Obj} : ∀ (K L : PySem.W.Frag), Sound g K → Sound g L → ∃ K', Sound g K' ∧ ∀ {β : Type} (k : PySem.W.Frag → β), revB K L k = k K'
  | [], L, _, hL => ⟨L, hL, fun k => rfl⟩
  | p :: r, L, hK, hL => revB_ok (α := α) r (p :: L) (fun q hq => hK q (List.mem_cons_of_mem _ hq)) (Sound.cons (hK p (List.mem_cons_self ..)) hL)
theorem reachB_ok {g : Addr → Option Obj} : ∀ (n m : Nat) (t : List Addr) (K L : PySem.W.Frag), Sound g K → Sound g L → ∃ K', Sound g K' ∧ ∀ {β : Type} (k : PySem.W.Frag → β), reachB g n m t K L k = k K'
  | 0, _, _, K, L, hK, hL => revB_ok (α := Nat) K L hK hL
  | _ + 1, _, [], K, L, hK, hL => revB_ok (α := Nat) K L hK hL
  | n + 1, m, a :: r, K, L, hK, hL => by
    cases eb : bitB m a with
    | true =>
      obtain ⟨K', h, e⟩ := reachB_ok n m r K L hK hL
      refine ⟨K', h, fun k => ?_⟩
      rw [reachB, HandSHeadRun.frNat_eq, eb]
      exact e k
    | false =>
      cases e : g a with
      | none =>
        obtain ⟨K', h, e2⟩ := reachB_ok n (Nat.lor m (Nat.shiftLeft 1 a)) r K L hK hL
        refine ⟨K', h, fun k => ?_⟩
        rw [reachB, HandSHeadRun.frNat_eq, eb]
        dsimp only
        rw [HandSHeadRun.frNat_eq, e]
        exact e2 k
      | some o =>
        cases it : isTab (some o) with
        | true =>
          obtain ⟨K', h, e2⟩ := reachB_ok n (Nat.lor m (Nat.shiftLeft 1 a)) r K L hK hL
          refine ⟨K', h, fun k => ?_⟩
          rw [reachB, HandSHeadRun.frNat_eq, eb]
          dsimp only
          rw [HandSHeadRun.frNat_eq, e]
          dsimp only
          rw [frO_eq, it]
          exact e2 k
        | false =>
          cases ih : isHot o with
          | true =>
            obtain ⟨K', h, e2⟩ := reachB_ok n (Nat.lor m (Nat.shiftLeft 1 a)) (refsX o ++ r) ((a, o) :: K) L (hK.cons e) hL
            refine ⟨K', h, fun k => ?_⟩
            rw [reachB, HandSHeadRun.frNat_eq, eb]
            dsimp only
            rw [HandSHeadRun.frNat_eq, e]
            dsimp only
            rw [frO_eq, it]
            dsimp only
            rw [ih]
            exact e2 k
          | false =>
            obtain ⟨K', h, e2⟩ := reachB_ok n (Nat.lor m (Nat.shiftLeft 1 a)) (refsX o ++ r) K ((a, o) :: L) hK (hL.cons e)
            refine ⟨K', h, fun k => ?_⟩
            rw [reachB, HandSHeadRun.frNat_eq, eb]
            dsimp only
            rw [HandSHeadRun.frNat_eq, e]
            dsimp only
            rw [frO_eq, it]
            dsimp only
            rw [ih]
            exact e2 k
theorem inB {h : Heap} : ∀ {K : PySem.W.Frag}, (∀ p ∈ K, h.get? p.1 = some p.2) → K.In h
  | [], _ => fun a o e => nomatch (show (none : Option Obj) = some o from e)
  | (b, ob) :: r, hK => fun a o e => by
    have e2 : (match a == b with | true => some ob | false => List.lookup a r) = some o := e
    cases q : (a == b) with
    | true =>
      rw [q] at e2
      rw [beq_iff_eq.mp q, ← Option.some.inj e2]
      exact hK (b, ob) List.mem_cons_self
    | false =>
      rw [q] at e2
      exact inB (fun p hp => hK p (List.mem_cons_of_mem _ hp)) a o e2
def SpecX.bod (X : SpecX) (g : Addr → Option Obj) (K : PySem.W.Frag) : AlX := (X.ck K && (X.tb K).all fun a => isTab (g a), X.fn K, X.en K)
def SpecX.obsB (X : SpecX) (n : Nat) (g : Addr → Option Obj) : AlX := reachB g n 0 [mainGlobals, cStatics] [] [] (X.bod g)
theorem bod_says {X : SpecX} {w : World} {s : Shared} {K : PySem.W.Frag} (hK : Sound s.heap.get? K) (e : X.bod s.heap.get? K = ((true, X.fe, X.ee w.params) : AlX)) : SaysX X w s.heap K := by
  unfold SpecX.bod at e
  simp only [Prod.mk.injEq, Bool.and_eq_true] at e
  obtain ⟨⟨e1, e2⟩, e3, e4⟩ := e
  exact ⟨inB hK, e1, e3, e4, fun a ha => isTab_ok (List.all_eq_true.mp e2 a ha)⟩
theorem sound_nil {g : Addr → Option Obj} : Sound g [] := fun _ h => nomatch h
theorem SaysX.keeps {X : SpecX} {w : World} {h h' : Heap} {K : PySem.W.Frag} (s : SaysX X w h K) (k : ∀ a o, h.get? a = some o → h'.get? a = some o) : SaysX X w h' K := ⟨PySem.W.Frag.In.keeps s.kin k, s.ck, s.fn, s.en, fun a ha => k _ _ (s.tb a ha)⟩
def hookB (X : SpecX) (n : Nat) : PySem.W.Hook where
  α := AlX
  obs := fun s => X.obsB n s.heap.get?
  val := fun w => X.val w.params
  says := fun w h => ∃ K : PySem.W.Frag, SaysX X w h K
  of := fun w s e => by
    obtain ⟨K, hK, ek⟩ := reachB_ok (g := s.heap.get?) n 0 [mainGlobals, cStatics] [] [] sound_nil sound_nil
    have e' : reachB s.heap.get? n 0 [mainGlobals, cStatics] [] [] (X.bod s.heap.get?) = ((true, X.fe, X.ee w.params) : AlX) := e
    rw [ek] at e'
    exact ⟨K, bod_says hK e'⟩
  keeps := fun _ _ _ ⟨K, s⟩ k => ⟨K, s.keeps k⟩
def hook2 (X Y : SpecX) (n : Nat) : PySem.W.Hook where
  α := AlX × AlX
  obs := fun s => (X.obsB n s.heap.get?, Y.obsB n s.heap.get?)
  val := fun w => (X.val w.params, Y.val w.params)
  says := fun w h => ∃ K : PySem.W.Frag, SaysX X w h K ∧ SaysX Y w h K
  of := fun w s e => by
    obtain ⟨K, hK, ek⟩ := reachB_ok (g := s.heap.get?) n 0 [mainGlobals, cStatics] [] [] sound_nil sound_nil
    have e' : ((reachB s.heap.get? n 0 [mainGlobals, cStatics] [] [] (X.bod s.heap.get?), reachB s.heap.get? n 0 [mainGlobals, cStatics] [] [] (Y.bod s.heap.get?)) : AlX × AlX) = ((true, X.fe, X.ee w.params), (true, Y.fe, Y.ee w.params)) := e
    rw [ek, ek] at e'
    have e1 := congrArg Prod.fst e'
    have e2 := congrArg Prod.snd e'
    exact ⟨K, bod_says hK e1, bod_says hK e2⟩
  keeps := fun _ _ _ ⟨K, s, t⟩ k => ⟨K, s.keeps k, t.keeps k⟩
theorem obs2_eq {X Y : SpecX} {n : Nat} {g : Addr → Option Obj} {s : Shared} (h : ∀ a, g a = s.heap.get? a) : ((X.obsB n g, Y.obsB n g) : AlX × AlX) = (hook2 X Y n).obs s := by
  have e : g = s.heap.get? := funext h
  rw [e] <;> rfl
theorem run2 {r : PySem.W.OpenRow} {q : Program} {X Y : SpecX} {n M : Nat} {ob1 ob2 : PySem.W.SharedT → AlX} {loose : List Str} {w : World} (h1 : HandSHeadRun.RunEq r q (hookB X n) ob1 M loose w) (h2 : HandSHeadRun.RunEq r q (hookB Y n) ob2 M loose w) :
    HandSHeadRun.RunEq r q (hook2 X Y n) (fun s => (ob1 s, ob2 s)) M loose w := fun os => by
  have a := h1 os
  have b := h2 os
  generalize HandSHeadRun.endF (HandSHeadRun.stepQ (HandSHeadRun.denQ HandSHeadRun.tabQ) r.prog w) M r.prog w os = e at a b ⊢
  cases e with
  | none => cases a
  | some s =>
    have a := Option.some.inj a
    have b := Option.some.inj b
    have a1 := congrArg Prod.fst a
    have a2 := congrArg (fun z => z.2.1) a
    have a3 := congrArg (fun z => z.2.2) a
    have b3 := congrArg (fun z => z.2.2) b
    exact congrArg some (Prod.ext a1 (Prod.ext a2 (Prod.ext a3 b3)))
end CM
namespace W_whilemerged_k64_deeds_for_plans
open PySem PySem.Spec PyProof.Rows L2 CM
def top (i : Nat) : Stmt := PySem.Challenge.pw_whilemerged_k64_deeds_for_plans.main.body.getD i (.Pass ⟨0, 0, 0, 0⟩)
abbrev s__law_begun : Stmt := top 22
abbrev s__law_mixed : Stmt := top 23
abbrev s__law_take : Stmt := top 24
abbrev s__law_pick : Stmt := top 25
abbrev s__law_owned : Stmt := top 26
abbrev s__law_chain : Stmt := top 27
abbrev s__law_plan : Stmt := top 28
abbrev s_is_cell : Stmt := top 7
abbrev s_is_owned : Stmt := top 8
abbrev s_need_chain : Stmt := top 9
abbrev s_span_of : Stmt := top 12
abbrev s_is_plan : Stmt := top 13
abbrev s_need_plan : Stmt := top 14
abbrev s_Work_merged : Stmt := inClass (top 19) 1
abbrev s_Work_init : Stmt := inClass (top 19) 0
abbrev s_cells_of : Stmt := top 18
abbrev s_deeds_for : Stmt := top 20
abbrev s__law_built : Stmt := top 32
abbrev s_owned_by : Stmt := top 10
abbrev s_copied : Stmt := top 11
abbrev s_cheapest : Stmt := top 17
abbrev s__law_is_cell : Stmt := top 29
abbrev s__law_jobs : Stmt := top 31
abbrev s__law_merged : Stmt := top 33
abbrev s__law_worth : Stmt := top 30
abbrev s__law_work_right : Stmt := top 34
abbrev s_cost_of : Stmt := top 15
abbrev s_cost : Stmt := top 16
abbrev s_law : Stmt := top 35
def v_C0 (K : PySem.W.Frag) : Addr := ga K "Work"
def v_f0 (K : PySem.W.Frag) : Addr := ga K "_law_begun"
def v_cd0 (K : PySem.W.Frag) : Value := (fdD K (v_f0 K)).code
def v_f1 (K : PySem.W.Frag) : Addr := ga K "_law_mixed"
def v_cd1 (K : PySem.W.Frag) : Value := (fdD K (v_f1 K)).code
def v_f2 (K : PySem.W.Frag) : Addr := ga K "_law_take"
def v_cd2 (K : PySem.W.Frag) : Value := (fdD K (v_f2 K)).code
def v_f3 (K : PySem.W.Frag) : Addr := ga K "_law_pick"
def v_cd3 (K : PySem.W.Frag) : Value := (fdD K (v_f3 K)).code
def v_f4 (K : PySem.W.Frag) : Addr := ga K "_law_owned"
def v_cd4 (K : PySem.W.Frag) : Value := (fdD K (v_f4 K)).code
def v_f5 (K : PySem.W.Frag) : Addr := ga K "_law_chain"
def v_cd5 (K : PySem.W.Frag) : Value := (fdD K (v_f5 K)).code
def v_f6 (K : PySem.W.Frag) : Addr := ga K "_law_plan"
def v_cd6 (K : PySem.W.Frag) : Value := (fdD K (v_f6 K)).code
def v_f7 (K : PySem.W.Frag) : Addr := ga K "is_cell"
def v_cd7 (K : PySem.W.Frag) : Value := (fdD K (v_f7 K)).code
def v_f8 (K : PySem.W.Frag) : Addr := ga K "is_owned"
def v_cd8 (K : PySem.W.Frag) : Value := (fdD K (v_f8 K)).code
def v_f9 (K : PySem.W.Frag) : Addr := ga K "need_chain"
def v_cd9 (K : PySem.W.Frag) : Value := (fdD K (v_f9 K)).code
def v_f10 (K : PySem.W.Frag) : Addr := ga K "span_of"
def v_cd10 (K : PySem.W.Frag) : Value := (fdD K (v_f10 K)).code
def v_f11 (K : PySem.W.Frag) : Addr := ga K "is_plan"
def v_cd11 (K : PySem.W.Frag) : Value := (fdD K (v_f11 K)).code
def v_f12 (K : PySem.W.Frag) : Addr := ga K "need_plan"
def v_cd12 (K : PySem.W.Frag) : Value := (fdD K (v_f12 K)).code
def v_f13 (K : PySem.W.Frag) : Addr := ma K (v_C0 K) "merged"
def v_cd13 (K : PySem.W.Frag) : Value := (fdD K (v_f13 K)).code
def v_f14 (K : PySem.W.Frag) : Addr := ma K (v_C0 K) "__init__"
def v_cd14 (K : PySem.W.Frag) : Value := (fdD K (v_f14 K)).code
def v_f15 (K : PySem.W.Frag) : Addr := ga K "cells_of"
def v_cd15 (K : PySem.W.Frag) : Value := (fdD K (v_f15 K)).code
def v_f16 (K : PySem.W.Frag) : Addr := ga K "deeds_for"
def v_cd16 (K : PySem.W.Frag) : Value := (fdD K (v_f16 K)).code
def v_f17 (K : PySem.W.Frag) : Addr := ga K "_law_built"
def v_cd17 (K : PySem.W.Frag) : Value := (fdD K (v_f17 K)).code
def v_f18 (K : PySem.W.Frag) : Addr := ga K "owned_by"
def v_cd18 (K : PySem.W.Frag) : Value := (fdD K (v_f18 K)).code
def v_f19 (K : PySem.W.Frag) : Addr := ga K "copied"
def v_cd19 (K : PySem.W.Frag) : Value := (fdD K (v_f19 K)).code
def v_f20 (K : PySem.W.Frag) : Addr := ga K "cheapest"
def v_cd20 (K : PySem.W.Frag) : Value := (fdD K (v_f20 K)).code
def v_f21 (K : PySem.W.Frag) : Addr := ga K "_law_is_cell"
def v_cd21 (K : PySem.W.Frag) : Value := (fdD K (v_f21 K)).code
def v_f22 (K : PySem.W.Frag) : Addr := ga K "_law_jobs"
def v_cd22 (K : PySem.W.Frag) : Value := (fdD K (v_f22 K)).code
def v_f23 (K : PySem.W.Frag) : Addr := ga K "_law_merged"
def v_cd23 (K : PySem.W.Frag) : Value := (fdD K (v_f23 K)).code
def v_f24 (K : PySem.W.Frag) : Addr := ga K "_law_worth"
def v_cd24 (K : PySem.W.Frag) : Value := (fdD K (v_f24 K)).code
def v_f25 (K : PySem.W.Frag) : Addr := ga K "_law_work_right"
def v_cd25 (K : PySem.W.Frag) : Value := (fdD K (v_f25 K)).code
def v_f26 (K : PySem.W.Frag) : Addr := ga K "cost_of"
def v_cd26 (K : PySem.W.Frag) : Value := (fdD K (v_f26 K)).code
def v_f27 (K : PySem.W.Frag) : Addr := ga K "cost"
def v_cd27 (K : PySem.W.Frag) : Value := (fdD K (v_f27 K)).code
def v_f28 (K : PySem.W.Frag) : Addr := ga K "law"
def v_cd28 (K : PySem.W.Frag) : Value := (fdD K (v_f28 K)).code
def v_t_MOST_LAYERS (K : PySem.W.Frag) : Tok := tkV (nsV K mainGlobals "MOST_LAYERS")
def v_p_KINDS (K : PySem.W.Frag) : Addr := ga K "KINDS"
def v_t_KINDS0 (K : PySem.W.Frag) : Tok := tkV ((seqD K (v_p_KINDS K)).getD 0 .none)
def v_t_KINDS1 (K : PySem.W.Frag) : Tok := tkV ((seqD K (v_p_KINDS K)).getD 1 .none)
def w00 : World := ⟨fun _ _ => 0, { strHash := fun _ => 0, shareClass := fun _ => 0, mergeTok := id, idOf := fun _ => 0, idOfShared := fun _ _ => 0, followText := fun _ => false, idOfImm := fun _ => 0 }⟩
def ck0 (K : PySem.W.Frag) : List Bool := [decide (PySem.W.nsIn K mainGlobals "Work" = some (some (.ref (v_C0 K)))), decide (PySem.W.nsIn K mainGlobals "_law_begun" = some (some (.ref (v_f0 K)))), (PySem.W.codeIn K (v_cd0 K) "_law_begun" : Bool), (PySem.W.keepIn K (.ref (v_f0 K)) : Bool), decide (PySem.W.nsIn K mainGlobals "_law_mixed" = some (some (.ref (v_f1 K)))), (PySem.W.codeIn K (v_cd1 K) "_law_mixed" : Bool), (PySem.W.keepIn K (.ref (v_f1 K)) : Bool), decide (PySem.W.nsIn K mainGlobals "_law_take" = some (some (.ref (v_f2 K)))), (PySem.W.codeIn K (v_cd2 K) "_law_take" : Bool), (PySem.W.keepIn K (.ref (v_f2 K)) : Bool), decide (PySem.W.nsIn K mainGlobals "_law_pick" = some (some (.ref (v_f3 K)))), (PySem.W.codeIn K (v_cd3 K) "_law_pick" : Bool), (PySem.W.keepIn K (.ref (v_f3 K)) : Bool), decide (PySem.W.nsIn K mainGlobals "_law_owned" = some (some (.ref (v_f4 K)))), (PySem.W.codeIn K (v_cd4 K) "_law_owned" : Bool), (PySem.W.keepIn K (.ref (v_f4 K)) : Bool)]
def ck1 (K : PySem.W.Frag) : List Bool := [decide (PySem.W.nsIn K mainGlobals "_law_chain" = some (some (.ref (v_f5 K)))), (PySem.W.codeIn K (v_cd5 K) "_law_chain" : Bool), (PySem.W.keepIn K (.ref (v_f5 K)) : Bool), decide (PySem.W.nsIn K mainGlobals "_law_plan" = some (some (.ref (v_f6 K)))), (PySem.W.codeIn K (v_cd6 K) "_law_plan" : Bool), (PySem.W.keepIn K (.ref (v_f6 K)) : Bool), decide (PySem.W.nsIn K mainGlobals "is_cell" = some (some (.ref (v_f7 K)))), (PySem.W.codeIn K (v_cd7 K) "is_cell" : Bool), (PySem.W.keepIn K (.ref (v_f7 K)) : Bool), decide (PySem.W.nsIn K mainGlobals "is_owned" = some (some (.ref (v_f8 K)))), (PySem.W.codeIn K (v_cd8 K) "is_owned" : Bool), (PySem.W.keepIn K (.ref (v_f8 K)) : Bool), decide (PySem.W.nsIn K mainGlobals "need_chain" = some (some (.ref (v_f9 K)))), (PySem.W.codeIn K (v_cd9 K) "need_chain" : Bool), (PySem.W.keepIn K (.ref (v_f9 K)) : Bool), decide (PySem.W.nsIn K mainGlobals "span_of" = some (some (.ref (v_f10 K))))]
def ck2 (K : PySem.W.Frag) : List Bool := [(PySem.W.codeIn K (v_cd10 K) "span_of" : Bool), (PySem.W.keepIn K (.ref (v_f10 K)) : Bool), decide (PySem.W.nsIn K mainGlobals "is_plan" = some (some (.ref (v_f11 K)))), (PySem.W.codeIn K (v_cd11 K) "is_plan" : Bool), (PySem.W.keepIn K (.ref (v_f11 K)) : Bool), decide (PySem.W.nsIn K mainGlobals "need_plan" = some (some (.ref (v_f12 K)))), (PySem.W.codeIn K (v_cd12 K) "need_plan" : Bool), (PySem.W.keepIn K (.ref (v_f12 K)) : Bool), decide (PySem.W.findIn K (.ref (v_C0 K)) "merged" = some (some (.ref (v_f13 K)))), (PySem.W.isFn K (.ref (v_f13 K)) : Bool), (PySem.W.codeIn K (v_cd13 K) "Work.merged" : Bool), (PySem.W.keepIn K (.ref (v_f13 K)) : Bool), decide (PySem.W.findIn K (.ref (v_C0 K)) "__init__" = some (some (.ref (v_f14 K)))), (PySem.W.isFn K (.ref (v_f14 K)) : Bool), (PySem.W.makesIn K (v_C0 K) : Bool), (PySem.W.keepIn K (.ref (v_C0 K)) : Bool)]
def ck3 (K : PySem.W.Frag) : List Bool := [(PySem.W.codeIn K (v_cd14 K) "Work.__init__" : Bool), (PySem.W.keepIn K (.ref (v_f14 K)) : Bool), decide (PySem.W.nsIn K mainGlobals "cells_of" = some (some (.ref (v_f15 K)))), (PySem.W.codeIn K (v_cd15 K) "cells_of" : Bool), (PySem.W.keepIn K (.ref (v_f15 K)) : Bool), decide (PySem.W.nsIn K mainGlobals "deeds_for" = some (some (.ref (v_f16 K)))), (PySem.W.codeIn K (v_cd16 K) "deeds_for" : Bool), (PySem.W.keepIn K (.ref (v_f16 K)) : Bool), decide (PySem.W.nsIn K mainGlobals "_law_built" = some (some (.ref (v_f17 K)))), (PySem.W.codeIn K (v_cd17 K) "_law_built" : Bool), (PySem.W.keepIn K (.ref (v_f17 K)) : Bool), decide (PySem.W.nsIn K mainGlobals "owned_by" = some (some (.ref (v_f18 K)))), (PySem.W.codeIn K (v_cd18 K) "owned_by" : Bool), (PySem.W.keepIn K (.ref (v_f18 K)) : Bool), decide (PySem.W.nsIn K mainGlobals "copied" = some (some (.ref (v_f19 K)))), (PySem.W.codeIn K (v_cd19 K) "copied" : Bool)]
def ck4 (K : PySem.W.Frag) : List Bool := [(PySem.W.keepIn K (.ref (v_f19 K)) : Bool), decide (PySem.W.nsIn K mainGlobals "cheapest" = some (some (.ref (v_f20 K)))), (PySem.W.codeIn K (v_cd20 K) "cheapest" : Bool), (PySem.W.keepIn K (.ref (v_f20 K)) : Bool), decide (PySem.W.nsIn K mainGlobals "_law_is_cell" = some (some (.ref (v_f21 K)))), (PySem.W.codeIn K (v_cd21 K) "_law_is_cell" : Bool), (PySem.W.keepIn K (.ref (v_f21 K)) : Bool), decide (PySem.W.nsIn K mainGlobals "_law_jobs" = some (some (.ref (v_f22 K)))), (PySem.W.codeIn K (v_cd22 K) "_law_jobs" : Bool), (PySem.W.keepIn K (.ref (v_f22 K)) : Bool), decide (PySem.W.nsIn K mainGlobals "_law_merged" = some (some (.ref (v_f23 K)))), (PySem.W.codeIn K (v_cd23 K) "_law_merged" : Bool), (PySem.W.keepIn K (.ref (v_f23 K)) : Bool), decide (PySem.W.nsIn K mainGlobals "_law_worth" = some (some (.ref (v_f24 K)))), (PySem.W.codeIn K (v_cd24 K) "_law_worth" : Bool), (PySem.W.keepIn K (.ref (v_f24 K)) : Bool)]
def ck5 (K : PySem.W.Frag) : List Bool := [decide (PySem.W.nsIn K mainGlobals "_law_work_right" = some (some (.ref (v_f25 K)))), (PySem.W.codeIn K (v_cd25 K) "_law_work_right" : Bool), (PySem.W.keepIn K (.ref (v_f25 K)) : Bool), decide (PySem.W.nsIn K mainGlobals "cost_of" = some (some (.ref (v_f26 K)))), (PySem.W.codeIn K (v_cd26 K) "cost_of" : Bool), (PySem.W.keepIn K (.ref (v_f26 K)) : Bool), decide (PySem.W.nsIn K mainGlobals "cost" = some (some (.ref (v_f27 K)))), (PySem.W.codeIn K (v_cd27 K) "cost" : Bool), (PySem.W.keepIn K (.ref (v_f27 K)) : Bool), decide (PySem.W.nsIn K mainGlobals "law" = some (some (.ref (v_f28 K)))), (PySem.W.codeIn K (v_cd28 K) "law" : Bool), (PySem.W.keepIn K (.ref (v_f28 K)) : Bool), decide (PySem.W.nsIn K mainGlobals "MOST_LAYERS" = some (some (.int 8 (v_t_MOST_LAYERS K)))), decide (PySem.W.nsIn K mainGlobals "KINDS" = some (some (.ref (v_p_KINDS K)))), decide (kndD K (v_p_KINDS K) = 3), decide ((objD K (v_p_KINDS K)).cls = .type "tuple")]
def ck6 (K : PySem.W.Frag) : List Bool := [decide ((seqD K (v_p_KINDS K)).toList = [.str "down" (v_t_KINDS0 K), .str "up" (v_t_KINDS1 K)]), decide (PySem.W.nsIn K mainGlobals "abs" = some none), decide (PySem.W.nsIn K mainGlobals "int" = some none), decide (PySem.W.nsIn K mainGlobals "len" = some none), decide (PySem.W.nsIn K mainGlobals "tuple" = some none), decide (PySem.W.nsIn K mainGlobals "range" = some none), decide (PySem.W.nsIn K mainGlobals "isinstance" = some none), decide (PySem.W.nsIn K mainGlobals "bool" = some none), decide (PySem.W.nsIn K mainGlobals "all" = some none), decide (PySem.W.nsIn K mainGlobals "list" = some none), decide (PySem.W.nsIn K mainGlobals "sorted" = some none), decide (PySem.W.nsIn K mainGlobals "set" = some none), decide (PySem.W.nsIn K mainGlobals "str" = some none), decide (PySem.W.nsIn K mainGlobals "max" = some none), decide (PySem.W.nsIn K mainGlobals "enumerate" = some none), decide (PySem.W.nsIn K mainGlobals "min" = some none)]
def ck7 (K : PySem.W.Frag) : List Bool := [decide (PySem.W.nsIn K mainGlobals "dict" = some none), decide (PySem.W.nsIn K mainGlobals "repr" = some none), (clsB K (v_C0 K) : Bool), (noB K (v_C0 K) ["line", "cells_there", "begun_jobs"] : Bool), (ktChk K (⟨fun n => [(v_C0 K)].getD n 0, [], w00⟩ : CAs) [[.o 0]] tys : Bool)]
def fo0 (K : PySem.W.Frag) : List FnV := [fnO K (v_f0 K), fnO K (v_f1 K), fnO K (v_f2 K), fnO K (v_f3 K), fnO K (v_f4 K), fnO K (v_f5 K), fnO K (v_f6 K), fnO K (v_f7 K), fnO K (v_f8 K), fnO K (v_f9 K), fnO K (v_f10 K), fnO K (v_f11 K), fnO K (v_f12 K), fnO K (v_f13 K), fnO K (v_f14 K), fnO K (v_f15 K)]
def fe0 : List FnV := [fnE "_law_begun" "_law_begun" s__law_begun, fnE "_law_mixed" "_law_mixed" s__law_mixed, fnE "_law_take" "_law_take" s__law_take, fnE "_law_pick" "_law_pick" s__law_pick, fnE "_law_owned" "_law_owned" s__law_owned, fnE "_law_chain" "_law_chain" s__law_chain, fnE "_law_plan" "_law_plan" s__law_plan, fnE "is_cell" "is_cell" s_is_cell, fnE "is_owned" "is_owned" s_is_owned, fnE "need_chain" "need_chain" s_need_chain, fnE "span_of" "span_of" s_span_of, fnE "is_plan" "is_plan" s_is_plan, fnE "need_plan" "need_plan" s_need_plan, fnE "merged" "Work.merged" s_Work_merged, fnE "__init__" "Work.__init__" s_Work_init, fnE "cells_of" "cells_of" s_cells_of]
def fo1 (K : PySem.W.Frag) : List FnV := [fnO K (v_f16 K), fnO K (v_f17 K), fnO K (v_f18 K), fnO K (v_f19 K), fnO K (v_f20 K), fnO K (v_f21 K), fnO K (v_f22 K), fnO K (v_f23 K), fnO K (v_f24 K), fnO K (v_f25 K), fnO K (v_f26 K), fnO K (v_f27 K), fnO K (v_f28 K)]
def fe1 : List FnV := [fnE "deeds_for" "deeds_for" s_deeds_for, fnE "_law_built" "_law_built" s__law_built, fnE "owned_by" "owned_by" s_owned_by, fnE "copied" "copied" s_copied, fnE "cheapest" "cheapest" s_cheapest, fnE "_law_is_cell" "_law_is_cell" s__law_is_cell, fnE "_law_jobs" "_law_jobs" s__law_jobs, fnE "_law_merged" "_law_merged" s__law_merged, fnE "_law_worth" "_law_worth" s__law_worth, fnE "_law_work_right" "_law_work_right" s__law_work_right, fnE "cost_of" "cost_of" s_cost_of, fnE "cost" "cost" s_cost, fnE "law" "law" s_law]
def specA : SpecX where
  ck := fun K => [(ck0 K).all id, (ck1 K).all id, (ck2 K).all id, (ck3 K).all id].all id
  fn := fun K => fo0 K ++ (fo1 K)
  fe := fe0 ++ (fe1)
  en := fun K => []
  ee := fun P => []
  tb := fun K => []
def specB : SpecX where
  ck := fun K => [(ck4 K).all id, (ck5 K).all id, (ck6 K).all id, (ck7 K).all id].all id
  fn := fun K => []
  fe := []
  en := fun K => []
  ee := fun P => []
  tb := fun K => []
def nm0 : List PySem.Str := ["MergeError", "BadChain", "BadPlan", "MOST_LAYERS", "KINDS", "is_cell", "is_owned", "need_chain", "owned_by", "copied"]
def nm1 : List PySem.Str := ["span_of", "is_plan", "need_plan", "cost_of", "cost", "cheapest", "cells_of", "Work", "deeds_for", "_law_begun"]
def nm2 : List PySem.Str := ["_law_mixed", "_law_take", "_law_pick", "_law_owned", "_law_chain", "_law_plan", "_law_is_cell", "_law_worth", "_law_jobs", "_law_built"]
def nm3 : List PySem.Str := ["_law_merged", "_law_work_right"]
def names : List PySem.Str := nm0 ++ nm1 ++ nm2 ++ nm3
abbrev RW : PySem.W.OpenRow := PySem.W.OpenLaw.row PySem.Challenge.rw_whilemerged_k64_deeds_for_plans
abbrev qv : Program := PySem.W.view RW.prog [35]
abbrev hkX : PySem.W.Hook := hook2 specA specB 20000
def obA (s : PySem.W.SharedT) : AlX := specA.obsB 20000 (HandSHeadRun.getT s)
def obB (s : PySem.W.SharedT) : AlX := specB.obsB 20000 (HandSHeadRun.getT s)
def ob (s : PySem.W.SharedT) : AlX × AlX := (obA s, obB s)
theorem ob_eq (s : PySem.W.SharedT) : ob s = hkX.obs s.abs := obs2_eq (HandSHeadRun.getT_eq s)
set_option maxHeartbeats 0 in
theorem runA_false (w : World) : HandSHeadRun.RunEq RW qv (hookB specA 20000) obA 20000 names (w.withFollow "special-get-raises" false) := by intro os; kernel_rfl
set_option maxHeartbeats 0 in
theorem runA_true (w : World) : HandSHeadRun.RunEq RW qv (hookB specA 20000) obA 20000 names (w.withFollow "special-get-raises" true) := by intro os; kernel_rfl
set_option maxHeartbeats 0 in
theorem runB_false (w : World) : HandSHeadRun.RunEq RW qv (hookB specB 20000) obB 20000 names (w.withFollow "special-get-raises" false) := by intro os; kernel_rfl
set_option maxHeartbeats 0 in
theorem runB_true (w : World) : HandSHeadRun.RunEq RW qv (hookB specB 20000) obB 20000 names (w.withFollow "special-get-raises" true) := by intro os; kernel_rfl
theorem run (w : World) : HandSHeadRun.RunEq RW qv hkX ob 20000 names w := PySem.W.byRow2 "special-get-raises" (P := fun w => HandSHeadRun.RunEq RW qv hkX ob 20000 names w) (fun w => run2 (runA_false w) (runB_false w)) (fun w => run2 (runA_true w) (runB_true w)) w
end W_whilemerged_k64_deeds_for_plans
namespace CM
open PySem PySem.Spec PyProof.Rows L2
def CH.new (h : CH) (o : MO) : CH := ⟨h.nx + 1, fun j => if j = h.nx then some o else h.ob j⟩
def CH.put (h : CH) (k : Nat) (o : MO) : CH := ⟨h.nx, fun j => if j = k then some o else h.ob j⟩
def CH.del (h : CH) (k : Nat) : CH := ⟨h.nx, fun j => if j = k then none else h.ob j⟩
def CH.emp : CH := ⟨0, fun _ => none⟩
def R.bind {α β : Type} (r : R α) (f : α → CH → R β) : R β := match r with
  | .ok a h => f a h
  | .ex c fs h => .ex c fs h
  | .no => .no
theorem ndict_nt {w : World} {a : Addr} {xs : List (NestedKey × Addr × Value)} : NTab (NDict w a xs) := fun c q e => by
  have e2 := congrFun (HO.ext.inj e) ⟨Array.replicate (a + 1) { cls := .type "dict", data := .dict (xs.map fun x => (⟨x.1.hash w, .ref x.2.1, x.2.2⟩ : DictEntry)).toArray 0 }, {}⟩
  have g : ∀ b ob, Heap.get? ⟨Array.replicate (a + 1) { cls := .type "dict", data := .dict (xs.map fun x => (⟨x.1.hash w, .ref x.2.1, x.2.2⟩ : DictEntry)).toArray 0 }, {}⟩ b = some ob → ob = { cls := .type "dict", data := .dict (xs.map fun x => (⟨x.1.hash w, .ref x.2.1, x.2.2⟩ : DictEntry)).toArray 0 } := fun b ob hb => by
    unfold Heap.get? at hb
    simp only [Array.getElem?_replicate] at hb
    split at hb <;> simp_all
  obtain ⟨oc, vs, t, h1, h2, _⟩ := e2.mp ⟨_, _, 0, by
    unfold Heap.get?
    simp only [Array.getElem?_replicate]
    rw [if_pos (Nat.lt_succ_self a)], ⟨rfl, rfl, rfl⟩, rfl, by simp⟩
  rw [g c oc h1] at h2
  cases h2
theorem core_ext {o : HO} {φ : Heap → Prop} (h : core o = .ext φ) : o = .ext φ := by
  cases o with
  | frz ob u => cases u <;> simp [core] at h
  | _ => first | exact h | simp [core] at h
theorem core_lst {o : HO} {xs : List V} (h : core o = .lst xs) : o = .lst xs := by
  cases o with
  | frz ob u => cases u <;> simp [core] at h
  | _ => first | exact h | simp [core] at h
theorem core_tup {o : HO} {xs : List V} (h : core o = .tup xs) : o = .tup xs := by
  cases o with
  | frz ob u => cases u <;> simp [core] at h
  | _ => first | exact h | simp [core] at h
theorem core_ins {o : HO} {c d : Addr} {fs : List (Str × V)} (h : core o = .ins c d fs) : o = .ins c d fs := by
  cases o with
  | frz ob u => cases u <;> simp [core] at h
  | _ => first | exact h | simp [core] at h
theorem core_xd {o : HO} {fs : List (Str × V)} (h : core o = .xd fs) : o = .xd fs := by
  cases o with
  | frz ob u => cases u <;> simp [core] at h
  | _ => first | exact h | simp [core] at h
theorem core_dK {o : HO} {kvs : List (Key × V)} (h : core o = .dK kvs) : o = .dK kvs ∨ ∃ ob, o = .frz ob (.dK kvs) := by
  cases o with
  | frz ob u => cases u <;> simp [core] at h <;> (subst h; exact .inr ⟨ob, rfl⟩)
  | dK k => simp [core] at h; exact .inl (by rw [h])
  | _ => simp [core] at h
theorem core_frzL {o : HO} {ob : Obj} {xs : List V} (h : core o = .frz ob (.lst xs)) : o = .frz ob (.lst xs) := by
  cases o with
  | frz ob' u => cases u <;> first | (simp [core] at h; done) | (simp only [core] at h; exact h)
  | _ => first | exact h | simp [core] at h
theorem Lk.core {o o' : HO} (l : Lk o o') : core o' = core o := by
  rcases l with rfl | ⟨ob, kvs, rfl, rfl⟩ | ⟨ps, qs, rfl, rfl⟩ <;> rfl
theorem core_nt {o : HO} {kvs : List (Key × V)} (h : core o = .dK kvs) : NoTb o := by
  rcases core_dK h with rfl | ⟨ob, rfl⟩ <;> trivial
section
variable (K : PySem.W.Frag) (CA : CAs) (m : Mp) (h : CH) (H : Hp)
end
theorem Stp.mk' {m m' : Mp} {h h' : CH} {H H' : Hp} (x : Mv m h H m' h' H') (lk : ∀ k o, k < h.nx → h.ob k = some o → Lckd o → h'.ob k = some o ∧ H' (m k) = H (m k)) (z : m'.z = m.z) (zk : ∀ a, a ∈ m.z → H' a = H a) : Stp m h H m' h' H' := ⟨⟨x, lk⟩, z, zk⟩
theorem Stp.refl {m : Mp} {h : CH} {H : Hp} : Stp m h H m h H := .mk' ⟨Nat.le_refl _, fun _ _ => rfl, fun _ o n e _ => ⟨n, o, e, .inl rfl⟩⟩ (fun _ _ _ e _ => ⟨e, rfl⟩) rfl fun _ _ => rfl
theorem Stp.sc {p : Addr} {m m' : Mp} {h h' : CH} {H H' : Hp} (s : Stp m h H m' h' H') : Sc p m h H m' h' H' := ⟨s.toSz, s.z, fun a l _ => s.zk a l⟩
section
variable {K : PySem.W.Frag} {CA : CAs} {m m' : Mp} {h h' : CH} {H H' : Hp} {v : V} {d : D} {vs : List V} {ds : List D}
theorem Rp.mv0 (snx : h.nx ≤ h'.nx) (smp : ∀ k, k < h.nx → m' k = m k) (skp : ∀ a o, ¬ Live m h a → H a = some o → NoTb o → ¬ Live m' h' a ∧ ∃ o', H' a = some o' ∧ Lk o o') : ∀ {v d}, Rp K CA m h H v d → Rp K CA m' h' H' v d := fun {v d} r => by
  refine Rp.rec (motive_1 := fun v d _ => Rp K CA m' h' H' v d) (motive_2 := fun vs ds _ => RpAll K CA m' h' H' vs ds) ?_ ?_ ?_ ?_ ?_ ?_ ?_ ?_ ?_ ?_ ?_ ?_ ?_ ?_ ?_ ?_ ?_ r
  · exact .non
  · exact .bl
  · exact .int
  · exact .str
  · intro a xs ds n e _ ih
    obtain ⟨n', o', e', c⟩ := skp a _ n e trivial
    replace c := c.core
    exact .lst n' (by rw [e', core_lst c]) ih
  · intro a xs ds n e _ ih
    obtain ⟨n', o', e', c⟩ := skp a _ n e trivial
    replace c := c.core
    exact .tup n' (by rw [e', core_tup c]) ih
  · intro a xs ds e _ ih
    exact .ktup e ih
  · intro a o kvs dks n e c en _ ih
    obtain ⟨n', o', e', c'⟩ := skp a _ n e (core_nt c)
    replace c' := c'.core
    exact .dct n' e' (c'.trans c) en ih
  · intro a c dx fs dfs n e en _ ih
    obtain ⟨n', o', e', c'⟩ := skp a _ n e trivial
    replace c' := c'.core
    exact .obj n' (by rw [e', core_ins c']) en ih
  · intro a ns o n e
    obtain ⟨n', o', e', c'⟩ := skp a _ n e trivial
    replace c' := c'.core
    exact .scr n' (by rw [e', core_frzL c'])
  · intro a ns e
    exact .kscr e
  · intro k l
    rw [← smp k l]
    exact .ref (Nat.lt_of_lt_of_le l snx)
  · exact .ty
  · exact .cls
  · intro a c dd fs dfs n e hd en _ ih
    obtain ⟨n', o', e', c'⟩ := skp a _ n e trivial
    refine .exc n' (by rw [e', core_ext c'.core]; rfl) ?_ en ih
    rcases hd with q | ⟨x, rfl, nx, ex⟩
    · exact .inl q
    · obtain ⟨nx', ox, ex', cx⟩ := skp x _ nx ex trivial
      exact .inr ⟨x, rfl, nx', by rw [ex', core_xd cx.core]⟩
  · exact .nil
  · intro v vs d ds _ _ ih1 ih2
    exact .cons ih1 ih2
theorem RpAll.mv0 (snx : h.nx ≤ h'.nx) (smp : ∀ k, k < h.nx → m' k = m k) (skp : ∀ a o, ¬ Live m h a → H a = some o → NoTb o → ¬ Live m' h' a ∧ ∃ o', H' a = some o' ∧ Lk o o') : ∀ {vs ds}, RpAll K CA m h H vs ds → RpAll K CA m' h' H' vs ds := fun {vs ds} r => by
  induction vs generalizing ds with
  | nil => cases r; exact .nil
  | cons v vs ih => cases r with
    | cons h1 h2 => exact .cons (h1.mv0 snx smp skp) (ih h2)
theorem Rp.mv (s : Mv m h H m' h' H') {v d} (r : Rp K CA m h H v d) : Rp K CA m' h' H' v d := r.mv0 s.nx s.mp s.kp
theorem RpAll.mv (s : Mv m h H m' h' H') {vs ds} (r : RpAll K CA m h H vs ds) : RpAll K CA m' h' H' vs ds := r.mv0 s.nx s.mp s.kp
theorem Rp.move (s : Stp m h H m' h' H') {v d} (r : Rp K CA m h H v d) : Rp K CA m' h' H' v d := r.mv s.toMv
theorem RpAll.move (s : Stp m h H m' h' H') {vs ds} (r : RpAll K CA m h H vs ds) : RpAll K CA m' h' H' vs ds := r.mv s.toMv
theorem RpAll.append {vs' : List V} {ds' : List D} (r : RpAll K CA m h H vs ds) (r' : RpAll K CA m h H vs' ds') : RpAll K CA m h H (vs ++ vs') (ds ++ ds') := by
  induction vs generalizing ds with
  | nil => cases r; exact r'
  | cons x vs ih => cases r with
    | cons h1 h2 => exact .cons h1 (ih h2)
theorem RpAll.take (r : RpAll K CA m h H vs ds) (n : Nat) : RpAll K CA m h H (vs.take n) (ds.take n) := by
  induction vs generalizing ds n with
  | nil => cases r; simp; exact .nil
  | cons x vs ih => cases r with
    | cons h1 h2 =>
      cases n with
      | zero => exact .nil
      | succ n => exact .cons h1 (ih h2 n)
theorem RpAll.drop (r : RpAll K CA m h H vs ds) (n : Nat) : RpAll K CA m h H (vs.drop n) (ds.drop n) := by
  induction vs generalizing ds n with
  | nil => cases r; simp; exact .nil
  | cons x vs ih => cases r with
    | cons h1 h2 =>
      cases n with
      | zero => exact .cons h1 h2
      | succ n => exact ih h2 n
theorem RpAll.eraseIdx (r : RpAll K CA m h H vs ds) (n : Nat) : RpAll K CA m h H (vs.eraseIdx n) (ds.eraseIdx n) := by
  induction vs generalizing ds n with
  | nil => cases r; simp; exact .nil
  | cons x vs ih => cases r with
    | cons h1 h2 =>
      cases n with
      | zero => exact h2
      | succ n => exact .cons h1 (ih h2 n)
theorem RpAll.set (r : RpAll K CA m h H vs ds) (n : Nat) (r1 : Rp K CA m h H v d) : RpAll K CA m h H (vs.set n v) (ds.set n d) := by
  induction vs generalizing ds n with
  | nil => cases r; simp; exact .nil
  | cons x vs ih => cases r with
    | cons h1 h2 =>
      cases n with
      | zero => exact .cons r1 h2
      | succ n => exact .cons h1 (ih h2 n)
end
section
variable (K : PySem.W.Frag) (CA : CAs) (m : Mp) (h : CH) (H : Hp)
end
section
variable {K : PySem.W.Frag} {CA : CAs} {m m' : Mp} {h h' : CH} {H H' : Hp} {σ : L2.St} {ρ : DE} {v : V} {d : D} {a p : Addr} {o : MO} {k : Nat}
theorem MOk.mv (s : Mv m h H m' h' H') (e : H' a = H a) (x : MOk K CA m h H a o) : MOk K CA m' h' H' a o := by
  cases x with
  | lst q r => exact .lst (e.trans q) (r.mv s)
  | dct q en r => exact .dct (e.trans q) en (r.mv s)
  | lck q en r => exact .lck (e.trans q) en (r.mv s)
  | lkl q r => exact .lkl (e.trans q) (r.mv s)
  | obj q en r => exact .obj (e.trans q) en (r.mv s)
  | dctT q en r => exact .dctT (e.trans q) en (r.mv s)
  | dctD q z nd kk r vv r2 => exact .dctD (q.mp fun u z => e.trans z) z nd kk (r.mv s) vv (r2.mv s)
theorem MOk.move (s : Stp m h H m' h' H') (e : H' a = H a) (x : MOk K CA m h H a o) : MOk K CA m' h' H' a o := x.mv s.toMv e
theorem mok_nt (x : MOk K CA m h H a o) : ∃ u, H a = some u ∧ NTab u := by
  cases x with
  | lst q r => exact ⟨_, q, trivial⟩
  | dct q en r => exact ⟨_, q, trivial⟩
  | lck q en r => exact ⟨_, q, trivial⟩
  | lkl q r => exact ⟨_, q, trivial⟩
  | obj q en r => exact ⟨_, q, trivial⟩
  | dctT q en r => exact ⟨_, q, trivial⟩
  | dctD q z nd kk r vv r2 => exact q.elim (fun z => ⟨_, z.1, ndict_nt⟩) fun z => ⟨_, z.1, trivial⟩
theorem tabs_upd {T : List (Addr × Str)} {u w : HO} (t : LamX.Tabs T H) (e : H a = some w) (n : NTab w) : LamX.Tabs T (upd H a u) := fun p hp => by
  obtain ⟨ps, h1, h2, h3⟩ := t p hp
  refine ⟨ps, by rw [upd_ne (fun z => by rw [z, e] at h1; cases h1; exact n)]; exact h1, h2, fun pos cv hc => ?_⟩
  obtain ⟨c, e1, e2⟩ := h3 pos cv hc
  refine ⟨c, e1, ?_⟩
  rw [upd_ne (fun z => by
    rw [z, e] at e2
    rw [Option.some.inj e2] at n
    exact n _ _ rfl)]
  exact e2
theorem tabs_grow {T : List (Addr × Str)} {H1 : Hp} (t : LamX.Tabs T H) (k : ∀ a u, H a = some u → H1 a = some u) : LamX.Tabs T H1 := t.ext k
theorem tabs_laid {T : List (Addr × Str)} {u : HO} (t : LamX.Tabs T H) (n : H p = none) : LamX.Tabs T (upd H p u) := t.ext fun a w e => by rw [upd_ne (ne_of_none e n)]; exact e
theorem HR.live (S : HR K CA m h H) (l : Live m h a) : ∃ u, H a = some u := by
  rcases l with ⟨k, o, e, rfl⟩ | l
  · exact (S.ob k o e).2.some
  · obtain ⟨u, q, _⟩ := S.zh a l
    exact ⟨u, q⟩
theorem HR.fresh (S : HR K CA m h H) (n : H p = none) : ¬ Live m h p := fun l => by
  obtain ⟨u, e⟩ := S.live l
  rw [n] at e; cases e
theorem SO.move (S : SO K CA m h H σ ρ) (s : Stp m h H m' h' H') (r : HR K CA m' h' H') : SO K CA m' h' H' σ ρ :=
  ⟨r, S.len, fun i d e => let ⟨v, e1, q⟩ := S.sl i d e; ⟨v, e1, q.move s⟩⟩
theorem XR.move {cls : Value} {dd : Option Addr} {c : Nat} {fs : List (Str × D)} (x : XR K CA m h H cls dd c fs) (s : Stp m h H m' h' H') : XR K CA m' h' H' cls dd c fs := by
  obtain ⟨x1, x2⟩ := x
  refine ⟨x1, x2.imp id ?_⟩
  rintro ⟨y, hf, e1, e2, e3, e4, e5⟩
  obtain ⟨n', o', e', c'⟩ := s.kp y _ e2 e3 trivial
  replace c' := c'.core
  exact ⟨y, hf, e1, n', by rw [e', core_xd c'], e4, e5.move s⟩
theorem stp_laid (S : HR K CA m h H) {u : HO} (n : H p = none) : Stp m h H m h (upd H p u) :=
  .mk' ⟨Nat.le_refl _, fun _ _ => rfl, fun b x l e _ => ⟨l, x, by rw [upd_ne (ne_of_none e n)]; exact e, .inl rfl⟩⟩ (fun k kvs _ e _ => ⟨e, by
    obtain ⟨u, q⟩ := (S.ob k _ e).2.some
    exact upd_ne (ne_of_none q n)⟩) rfl fun a l => by
    obtain ⟨u, q, _⟩ := S.zh a l
    exact upd_ne (ne_of_none q n)
theorem stp_grow {H1 : Hp} (S : HR K CA m h H) (k : ∀ a u, H a = some u → H1 a = some u) : Stp m h H m h H1 :=
  .mk' ⟨Nat.le_refl _, fun _ _ => rfl, fun b x l e _ => ⟨l, x, k b x e, .inl rfl⟩⟩ (fun j kvs _ e _ => ⟨e, by
    obtain ⟨u, q⟩ := (S.ob j _ e).2.some
    rw [q]; exact k _ _ q⟩) rfl fun a l => by
    obtain ⟨u, q, _⟩ := S.zh a l
    rw [q]; exact k _ _ q
theorem HR.grow {H1 : Hp} (S : HR K CA m h H) (k : ∀ a u, H a = some u → H1 a = some u) : HR K CA m h H1 :=
  ⟨fun j o e => ⟨(S.ob j o e).1, (S.ob j o e).2.move (stp_grow S k) (by
    obtain ⟨x, q⟩ := (S.ob j o e).2.some
    rw [q]; exact k _ _ q)⟩, S.inj, S.zn, fun a l => by
    obtain ⟨w, q, nt⟩ := S.zh a l
    exact ⟨w, k a w q, nt⟩, tabs_grow S.tb k⟩
theorem HR.laid (S : HR K CA m h H) {u : HO} (n : H p = none) : HR K CA m h (upd H p u) :=
  ⟨fun k o e => ⟨(S.ob k o e).1, (S.ob k o e).2.move (stp_laid S n) (by
    obtain ⟨x, q⟩ := (S.ob k o e).2.some
    exact upd_ne (ne_of_none q n))⟩, S.inj, S.zn, fun a l => by
    obtain ⟨w, q, nt⟩ := S.zh a l
    exact ⟨w, by rw [upd_ne (ne_of_none q n)]; exact q, nt⟩, tabs_laid S.tb n⟩
def mpNew (m : Mp) (h : CH) (p : Addr) : Mp := ⟨fun j => if j = h.nx then p else m j, m.z⟩
theorem mpNew_nx : mpNew m h p h.nx = p := if_pos rfl
theorem mpNew_lt (l : k < h.nx) : mpNew m h p k = m k := if_neg (Nat.ne_of_lt l)
theorem live_new (S : HR K CA m h H) {o : MO} (l : Live (mpNew m h p) (h.new o) a) : a = p ∨ Live m h a := by
  rcases l with ⟨k, u, e, rfl⟩ | l
  · unfold CH.new at e
    by_cases q : k = h.nx
    · subst q; exact .inl mpNew_nx
    · simp only [if_neg q] at e
      exact .inr (.inl ⟨k, u, e, (mpNew_lt (S.ob k u e).1).symm⟩)
  · exact .inr (.inr l)
theorem stp_new (S : HR K CA m h H) {o : MO} {H1 : Hp} (n : H p = none) (k : ∀ a u, H a = some u → H1 a = some u) : Stp m h H (mpNew m h p) (h.new o) H1 :=
  .mk' ⟨Nat.le_succ _, fun k l => mpNew_lt l, fun b x l e _ => ⟨fun z => by
    rcases live_new S z with rfl | z
    · rw [n] at e; cases e
    · exact l z, x, k b x e, .inl rfl⟩⟩ (fun j kvs l e _ => ⟨by
    unfold CH.new
    simp only [if_neg (Nat.ne_of_lt l)]
    exact e, by
    obtain ⟨u, q⟩ := (S.ob j _ e).2.some
    rw [q]; exact k _ _ q⟩) rfl fun a l => by
    obtain ⟨u, q, _⟩ := S.zh a l
    rw [q]; exact k _ _ q
theorem HR.new (S : HR K CA m h H) {o : MO} {H1 : Hp} (n : H p = none) (k : ∀ a u, H a = some u → H1 a = some u) (x : MOk K CA (mpNew m h p) (h.new o) H1 p o) : HR K CA (mpNew m h p) (h.new o) H1 := by
  have key : ∀ j u, (h.new o).ob j = some u → (j = h.nx ∧ u = o) ∨ (j < h.nx ∧ h.ob j = some u) := fun j u e => by
    unfold CH.new at e
    by_cases q : j = h.nx
    · simp only [if_pos q] at e; cases e; exact .inl ⟨q, rfl⟩
    · simp only [if_neg q] at e
      exact .inr ⟨(S.ob j u e).1, e⟩
  have off : ∀ j u, h.ob j = some u → m j ≠ p := fun j u e z => S.fresh n (.inl ⟨j, u, e, z⟩)
  refine ⟨fun j u e => ?_, fun i j u w e1 e2 e3 => ?_, fun j u e => ?_, fun a l => ?_, tabs_grow S.tb k⟩
  · rcases key j u e with ⟨rfl, rfl⟩ | ⟨l, q⟩
    · exact ⟨Nat.lt_succ_self _, by rw [mpNew_nx]; exact x⟩
    · refine ⟨Nat.lt_succ_of_lt l, ?_⟩
      rw [mpNew_lt l]
      obtain ⟨y, z⟩ := (S.ob j u q).2.some
      exact (S.ob j u q).2.move (stp_new S n k) (by rw [z]; exact k _ _ z)
  · rcases key i u e1 with ⟨rfl, rfl⟩ | ⟨l1, q1⟩
    · rcases key j w e2 with ⟨rfl, rfl⟩ | ⟨l2, q2⟩
      · rfl
      · rw [mpNew_nx, mpNew_lt l2] at e3
        exact absurd e3.symm (off j w q2)
    · rcases key j w e2 with ⟨rfl, rfl⟩ | ⟨l2, q2⟩
      · rw [mpNew_nx, mpNew_lt l1] at e3
        exact absurd e3 (off i u q1)
      · rw [mpNew_lt l1, mpNew_lt l2] at e3
        exact S.inj i j u w q1 q2 e3
  · rcases key j u e with ⟨rfl, rfl⟩ | ⟨l, q⟩
    · rw [mpNew_nx]; exact fun z => S.fresh n (.inr z)
    · rw [mpNew_lt l]; exact S.zn j u q
  · obtain ⟨w, q, nt⟩ := S.zh a l
    exact ⟨w, k a w q, nt⟩
theorem upd_new {u : HO} (n : H p = none) : ∀ a w, H a = some w → upd H p u a = some w := fun a w e => by
  rw [upd_ne (ne_of_none e n)]; exact e
theorem live_put {o' : MO} (e : h.ob k = some o) : Live m (h.put k o') a ↔ Live m h a := by
  constructor
  · rintro (⟨j, u, q, rfl⟩ | q)
    · unfold CH.put at q
      by_cases z : j = k
      · subst z; exact .inl ⟨_, _, e, rfl⟩
      · simp only [if_neg z] at q; exact .inl ⟨_, _, q, rfl⟩
    · exact .inr q
  · rintro (⟨j, u, q, rfl⟩ | q)
    · by_cases z : j = k
      · subst z; exact .inl ⟨j, o', by unfold CH.put; simp, rfl⟩
      · exact .inl ⟨j, u, by unfold CH.put; simp only [if_neg z]; exact q, rfl⟩
    · exact .inr q
theorem mv_put (e : h.ob k = some o) {o' : MO} {u : HO} : Mv m h H m (h.put k o') (upd H (m k) u) :=
  ⟨Nat.le_refl _, fun _ _ => rfl, fun b x l q _ => ⟨fun z => l ((live_put e).mp z), x, by
    rw [upd_ne (fun z => l (.inl ⟨k, o, e, z.symm⟩))]; exact q, .inl rfl⟩⟩
theorem stp_put (S : HR K CA m h H) (e : h.ob k = some o) (nl : NotLck o) {o' : MO} {u : HO} : Stp m h H m (h.put k o') (upd H (m k) u) :=
  .mk' (mv_put e) (fun j kvs l q ld => by
    have nj : j ≠ k := fun z => by subst z; rw [q] at e; cases e; exact ld nl
    exact ⟨by unfold CH.put; simp only [if_neg nj]; exact q, upd_ne fun z => nj (S.inj _ _ _ _ q e z)⟩) rfl fun a l => upd_ne fun z => S.zn k _ e (by rw [← z]; exact l)
theorem HR.put (S : HR K CA m h H) (e : h.ob k = some o) {o' : MO} {u : HO} (x : MOk K CA m (h.put k o') (upd H (m k) u) (m k) o') : HR K CA m (h.put k o') (upd H (m k) u) := by
  have key : ∀ j w, (h.put k o').ob j = some w → (j = k ∧ w = o') ∨ (j ≠ k ∧ h.ob j = some w) := fun j w q => by
    unfold CH.put at q
    by_cases z : j = k
    · simp only [if_pos z] at q; cases q; exact .inl ⟨z, rfl⟩
    · simp only [if_neg z] at q; exact .inr ⟨z, q⟩
  have back : ∀ j w, (h.put k o').ob j = some w → ∃ w', h.ob j = some w' := fun j w q => by
    rcases key j w q with ⟨rfl, _⟩ | ⟨_, q⟩
    · exact ⟨_, e⟩
    · exact ⟨_, q⟩
  obtain ⟨w0, e0, n0⟩ := mok_nt (S.ob k o e).2
  refine ⟨fun j w q => ?_, fun i j w w' e1 e2 e3 => ?_, fun j w q => ?_, fun a l => ?_, tabs_upd S.tb e0 n0⟩
  · rcases key j w q with ⟨rfl, rfl⟩ | ⟨z, q⟩
    · exact ⟨(S.ob _ _ e).1, x⟩
    · exact ⟨(S.ob _ _ q).1, (S.ob _ _ q).2.mv (mv_put e) (upd_ne fun y => z (S.inj _ _ _ _ q e y))⟩
  · obtain ⟨y, q1⟩ := back i w e1
    obtain ⟨y', q2⟩ := back j w' e2
    exact S.inj i j _ _ q1 q2 e3
  · obtain ⟨y, q1⟩ := back j w q
    exact S.zn j _ q1
  · obtain ⟨y, q, nt⟩ := S.zh a l
    exact ⟨y, by rw [upd_ne (fun z => S.zn k o e (by rw [← z]; exact l))]; exact q, nt⟩
theorem put_same {o : MO} : (h.put k o).ob k = some o := by unfold CH.put; simp
theorem put_ne {o : MO} {j : Nat} (n : j ≠ k) : (h.put k o).ob j = h.ob j := by unfold CH.put; simp only [if_neg n]
theorem lock_ok {kvs : List (Key × D)} (S : HR K CA m h H) (e : h.ob k = some (.dct kvs)) : ∃ hk, H (m k) = some (.dK hk) ∧ ∀ od, Stp m h H m (h.put k (.lck kvs)) (upd H (m k) (.frz od (.dK hk))) ∧ HR K CA m (h.put k (.lck kvs)) (upd H (m k) (.frz od (.dK hk))) := by
  have x := (S.ob k _ e).2
  cases x with
  | @dct hk _ q en r => exact ⟨hk, q, fun od => ⟨stp_put S e trivial, S.put e (.lck upd_same en (r.mv (mv_put e)))⟩⟩
theorem unlock_ok {kvs : List (Key × D)} {hk : List (Key × V)} {od : Obj} {m2 : Mp} {h2 : CH} {H2 : Hp} (S : HR K CA m h H) (e : h.ob k = some (.dct kvs)) (s : Stp m (h.put k (.lck kvs)) (upd H (m k) (.frz od (.dK hk))) m2 h2 H2) (S2 : HR K CA m2 h2 H2) :
    H2 (m2 k) = some (.frz od (.dK hk)) ∧ Stp m h H m2 (h2.put k (.dct kvs)) (upd H2 (m2 k) (.dK hk)) ∧ HR K CA m2 (h2.put k (.dct kvs)) (upd H2 (m2 k) (.dK hk)) := by
  have lt := (S.ob k _ e).1
  obtain ⟨e2, q2⟩ := s.lk k _ lt put_same id
  rw [upd_same] at q2
  have mk : m2 k = m k := s.mp k lt
  rw [← mk] at q2
  refine ⟨q2, .mk' ⟨s.nx, s.mp, fun a o l q nt => ?_⟩ (fun j kv l q ld => ?_) s.z (fun a l => ?_), S2.put e2 ?_⟩
  · have na : a ≠ m k := fun z => l (.inl ⟨k, _, e, z.symm⟩)
    obtain ⟨l2, o', q', lk⟩ := s.kp a o (fun z => l ((live_put e).mp z)) (by rw [upd_ne na]; exact q) nt
    exact ⟨fun z => l2 ((live_put e2).mp z), o', by rw [upd_ne (by rw [mk]; exact na)]; exact q', lk⟩
  · have nj : j ≠ k := fun z => by subst z; rw [q] at e; cases e; exact ld trivial
    have nm : m j ≠ m k := fun z => nj (S.inj _ _ _ _ q e z)
    obtain ⟨a1, a2⟩ := s.lk j kv l (by rw [put_ne nj]; exact q) ld
    rw [upd_ne nm] at a2
    exact ⟨by rw [put_ne nj]; exact a1, by rw [upd_ne (by rw [mk]; exact nm)]; exact a2⟩
  · have na : a ≠ m k := fun z => S.zn k _ e (by rw [← z]; exact l)
    have q3 := s.zk a l
    rw [upd_ne na] at q3
    rw [upd_ne (by rw [mk]; exact na)]
    exact q3
  · have x := (S2.ob k _ e2).2
    cases x with
    | @lck _ hk' _ q en r =>
      rw [q2] at q
      cases q
      exact .dct upd_same en (r.mv (mv_put e2))
theorem upd_eq {a : Addr} {u : HO} (e : H a = some u) : upd H a u = H := by
  funext b
  by_cases z : b = a
  · subst z; rw [upd_same, e]
  · rw [upd_ne z]
theorem lockL_ok {ds : List D} (S : HR K CA m h H) (e : h.ob k = some (.lst ds)) : ∃ xs, H (m k) = some (.lst xs) ∧ RpAll K CA m h H xs ds ∧ Stp m h H m (h.put k (.lkl ds)) H ∧ HR K CA m (h.put k (.lkl ds)) H := by
  have x := (S.ob k _ e).2
  cases x with
  | @lst xs _ q r =>
    have s1 := stp_put (o' := .lkl ds) (u := .lst xs) S e trivial
    have S1 := S.put (o' := .lkl ds) (u := .lst xs) e (.lkl upd_same (r.mv (mv_put e)))
    rw [upd_eq q] at s1 S1
    exact ⟨xs, q, r, s1, S1⟩
theorem unlockL_ok {ds : List D} {m2 : Mp} {h2 : CH} {H2 : Hp} (S : HR K CA m h H) (e : h.ob k = some (.lst ds)) (s : Stp m (h.put k (.lkl ds)) H m2 h2 H2) (S2 : HR K CA m2 h2 H2) :
    h2.ob k = some (.lkl ds) ∧ Stp m h H m2 (h2.put k (.lst ds)) H2 ∧ HR K CA m2 (h2.put k (.lst ds)) H2 := by
  have lt := (S.ob k _ e).1
  obtain ⟨e2, q2⟩ := s.lk k _ lt put_same id
  have x := (S2.ob k _ e2).2
  cases x with
  | @lkl xs _ qh r =>
    have S3 := S2.put (o' := .lst ds) (u := .lst xs) e2 (.lst upd_same (r.mv (mv_put e2)))
    rw [upd_eq qh] at S3
    refine ⟨e2, .mk' ⟨s.nx, s.mp, fun a o l qa nt => ?_⟩ (fun j kv l qj ld => ?_) s.z s.zk, S3⟩
    · obtain ⟨l2, o', q', lk⟩ := s.kp a o (fun z => l ((live_put e).mp z)) qa nt
      exact ⟨fun z => l2 ((live_put e2).mp z), o', q', lk⟩
    · have nj : j ≠ k := fun z => by subst z; rw [qj] at e; cases e; exact ld trivial
      obtain ⟨a1, a2⟩ := s.lk j kv l (by rw [put_ne nj]; exact qj) ld
      exact ⟨by rw [put_ne nj]; exact a1, a2⟩
theorem live_del (S : HR K CA m h H) (e : h.ob k = some o) : Live m (h.del k) a → Live m h a ∧ a ≠ m k := by
  rintro (⟨j, u, q, rfl⟩ | q)
  · unfold CH.del at q
    by_cases z : j = k
    · simp only [if_pos z] at q; cases q
    · simp only [if_neg z] at q
      exact ⟨.inl ⟨j, u, q, rfl⟩, fun y => z (S.inj _ _ _ _ q e y)⟩
  · exact ⟨.inr q, fun z => S.zn k o e (z ▸ q)⟩
theorem stp_del (S : HR K CA m h H) (e : h.ob k = some o) (nl : NotLck o) : Stp m h H m (h.del k) H :=
  .mk' ⟨Nat.le_refl _, fun _ _ => rfl, fun b x l q _ => ⟨fun z => l (live_del S e z).1, x, q, .inl rfl⟩⟩ (fun j kvs l q ld => by
    have nj : j ≠ k := fun z => by subst z; rw [q] at e; cases e; exact ld nl
    exact ⟨by unfold CH.del; simp only [if_neg nj]; exact q, rfl⟩) rfl fun _ _ => rfl
theorem HR.del (S : HR K CA m h H) (e : h.ob k = some o) (nl : NotLck o) : HR K CA m (h.del k) H := by
  have key : ∀ j w, (h.del k).ob j = some w → h.ob j = some w := fun j w q => by
    unfold CH.del at q
    by_cases z : j = k
    · simp only [if_pos z] at q; cases q
    · simp only [if_neg z] at q; exact q
  exact ⟨fun j w q => ⟨(S.ob j w (key j w q)).1, (S.ob j w (key j w q)).2.move (stp_del S e nl) rfl⟩, fun i j w w' e1 e2 => S.inj i j w w' (key i w e1) (key j w' e2), fun j w q => S.zn j w (key j w q), S.zh, S.tb⟩
def Mp.add (m : Mp) (p : Addr) : Mp := ⟨m.f, p :: m.z⟩
theorem Mp.add_kp {u : HO} (n : H p = none) : ∀ a o, ¬ Live m h a → H a = some o → NoTb o → ¬ Live (m.add p) h a ∧ ∃ o', upd H p u a = some o' ∧ Lk o o' := fun a o l e _ => ⟨fun z => by
    rcases z with ⟨k, w, q, rfl⟩ | z
    · exact l (.inl ⟨k, w, q, rfl⟩)
    · rcases List.mem_cons.mp z with rfl | z
      · rw [n] at e; cases e
      · exact l (.inr z), o, by rw [upd_ne (ne_of_none e n)]; exact e, .inl rfl⟩
theorem Rp.add {u : HO} (n : H p = none) {v : V} {d : D} (r : Rp K CA m h H v d) : Rp K CA (m.add p) h (upd H p u) v d := Rp.mv0 (m := m) (h := h) (H := H) (m' := m.add p) (h' := h) (H' := upd H p u) (Nat.le_refl _) (fun _ _ => rfl) (Mp.add_kp n) r
theorem RpAll.add {u : HO} (n : H p = none) {v : List V} {d : List D} (r : RpAll K CA m h H v d) : RpAll K CA (m.add p) h (upd H p u) v d := RpAll.mv0 (m := m) (h := h) (H := H) (m' := m.add p) (h' := h) (H' := upd H p u) (Nat.le_refl _) (fun _ _ => rfl) (Mp.add_kp n) r
theorem HR.add (S : HR K CA m h H) {u : HO} (n : H p = none) (nu : NTab u := by trivial) : HR K CA (m.add p) h (upd H p u) := by
  have rps : ∀ {vs : List V} {ds : List D}, RpAll K CA m h H vs ds → RpAll K CA (m.add p) h (upd H p u) vs ds := fun r => r.add n
  refine ⟨fun k o e => ⟨(S.ob k o e).1, ?_⟩, S.inj, fun k o e z => ?_, fun a l => ?_, tabs_laid S.tb n⟩
  · have ne : m k ≠ p := fun z => S.fresh n (.inl ⟨k, o, e, z⟩)
    have x := (S.ob k o e).2
    have nq : ∀ {w}, H (m k) = some w → upd H p u ((m.add p) k) = some w := fun {w} q => by
      show upd H p u (m k) = some w
      rw [upd_ne ne]; exact q
    cases x with
    | lst q r => exact .lst (nq q) (rps r)
    | dct q en r => exact .dct (nq q) en (rps r)
    | lck q en r => exact .lck (nq q) en (rps r)
    | lkl q r => exact .lkl (nq q) (rps r)
    | obj q en r => exact .obj (nq q) en (rps r)
    | dctT q en r => exact .dctT (nq q) en (rps r)
    | dctD q z nd kk r vv r2 => exact .dctD (q.imp (fun z => ⟨nq z.1, z.2⟩) fun z => ⟨nq z.1, z.2⟩) z nd kk (rps r) vv (rps r2)
  · rcases List.mem_cons.mp z with z | z
    · exact S.fresh n (.inl ⟨k, o, e, z⟩)
    · exact S.zn k o e z
  · rcases List.mem_cons.mp l with rfl | l
    · exact ⟨u, upd_same, nu⟩
    · obtain ⟨w, q, nt⟩ := S.zh a l
      exact ⟨w, by rw [upd_ne (ne_of_none q n)]; exact q, nt⟩
theorem sc_made (S : HR K CA m h H) (l : p ∈ m.z) {u : HO} : Sc p m h H m h (upd H p u) := by
  refine ⟨⟨⟨Nat.le_refl _, fun _ _ => rfl, fun b x nl q _ => ⟨nl, x, ?_, .inl rfl⟩⟩, fun k kvs _ e _ => ⟨e, upd_ne fun z => S.zn k _ e (by rw [z]; exact l)⟩⟩, rfl, fun a _ n => upd_ne n⟩
  have hb : b ≠ p := fun z => nl (.inr (by rw [z]; exact l))
  rw [upd_ne hb]; exact q
theorem sz_add (S : HR K CA m h H) {u : HO} (n : H p = none) : Sz m h H (m.add p) h (upd H p u) :=
  ⟨⟨Nat.le_refl _, fun _ _ => rfl, Mp.add_kp n⟩, fun k kvs _ e _ => ⟨e, upd_ne fun z => S.fresh n (.inl ⟨k, _, e, z⟩)⟩⟩
theorem HR.made (S : HR K CA m h H) (l : p ∈ m.z) {u : HO} (nu : NTab u := by trivial) : HR K CA m h (upd H p u) :=
  let ⟨_, e0, n0⟩ := S.zh p l
  ⟨fun k o e => ⟨(S.ob k o e).1, (S.ob k o e).2.mv (sc_made S l).toMv (upd_ne fun z => S.zn k _ e (by rw [z]; exact l))⟩, S.inj, S.zn, fun a la => by
    by_cases q : a = p
    · subst q; exact ⟨u, upd_same, nu⟩
    · obtain ⟨w, e, nt⟩ := S.zh a la
      exact ⟨w, by rw [upd_ne q]; exact e, nt⟩, tabs_upd S.tb e0 n0⟩
theorem stp_done {m2 : Mp} {h2 : CH} {H2 : Hp} (S : HR K CA m h H) {u : HO} (n : H p = none) (s : Sc p (m.add p) h (upd H p u) m2 h2 H2) : Stp m h H ⟨m2.f, m.z⟩ h2 H2 := by
  have z2 : m2.z = p :: m.z := s.z
  refine .mk' ⟨s.nx, s.mp, fun a o l e nt => ?_⟩ (fun k kvs l e ld => ?_) rfl fun a l => ?_
  · have ne : a ≠ p := ne_of_none e n
    obtain ⟨l2, o', e', k'⟩ := s.kp a o (fun z => by
      rcases z with ⟨k, w, q, rfl⟩ | z
      · exact l (.inl ⟨k, w, q, rfl⟩)
      · rcases List.mem_cons.mp z with z | z
        · exact ne z
        · exact l (.inr z)) (by rw [upd_ne ne]; exact e) nt
    refine ⟨fun z => l2 ?_, o', e', k'⟩
    rcases z with z | z
    · exact .inl z
    · exact .inr (by rw [z2]; exact List.mem_cons_of_mem _ z)
  · obtain ⟨a1, a2⟩ := s.lk k kvs l e ld
    have ne : m k ≠ p := fun z => S.fresh n (.inl ⟨k, _, e, z⟩)
    exact ⟨a1, a2.trans (upd_ne ne)⟩
  · have ne : a ≠ p := fun z => S.fresh n (.inr (by rw [← z]; exact l))
    exact (s.zk a (List.mem_cons_of_mem _ l) ne).trans (upd_ne ne)
theorem Mp.done_kp {m2 : Mp} {zs : List Addr} {h2 : CH} {H2 : Hp} (z2 : m2.z = p :: zs) : ∀ a o, ¬ Live m2 h2 a → H2 a = some o → NoTb o → ¬ Live ⟨m2.f, zs⟩ h2 a ∧ ∃ o', H2 a = some o' ∧ Lk o o' := fun a o l e _ => ⟨fun z => l (by
    rcases z with z | z
    · exact .inl z
    · exact .inr (by rw [z2]; exact List.mem_cons_of_mem _ z)), o, e, .inl rfl⟩
theorem RpAll.done {m2 : Mp} {zs : List Addr} {h2 : CH} {H2 : Hp} (z2 : m2.z = p :: zs) {vs : List V} {ds : List D} (r : RpAll K CA m2 h2 H2 vs ds) : RpAll K CA ⟨m2.f, zs⟩ h2 H2 vs ds := RpAll.mv0 (m := m2) (h := h2) (H := H2) (m' := ⟨m2.f, zs⟩) (h' := h2) (H' := H2) (Nat.le_refl _) (fun _ _ => rfl) (Mp.done_kp z2) r
theorem HR.done {m2 : Mp} {zs : List Addr} {h2 : CH} {H2 : Hp} (S : HR K CA m2 h2 H2) (z2 : m2.z = p :: zs) : HR K CA ⟨m2.f, zs⟩ h2 H2 := by
  refine ⟨fun k o e => ⟨(S.ob k o e).1, ?_⟩, S.inj, fun k o e z => S.zn k o e (by rw [z2]; exact List.mem_cons_of_mem _ z), fun a l => S.zh a (by rw [z2]; exact List.mem_cons_of_mem _ l), S.tb⟩
  have x := (S.ob k o e).2
  cases x with
  | lst q r => exact .lst q (r.done z2)
  | dct q en r => exact .dct q en (r.done z2)
  | lck q en r => exact .lck q en (r.done z2)
  | lkl q r => exact .lkl q (r.done z2)
  | obj q en r => exact .obj q en (r.done z2)
  | dctT q en r => exact .dctT q en (r.done z2)
  | dctD q z nd kk r vv r2 => exact .dctD q z nd kk (r.done z2) vv (r2.done z2)
theorem set_some {α : Type} {l : List α} {i j : Nat} {x y : α} (h : (l.set i x)[j]? = some y) : (j = i ∧ y = x) ∨ (j ≠ i ∧ l[j]? = some y) := by
  by_cases e : j = i
  · subst e
    left
    refine ⟨rfl, ?_⟩
    rw [List.getElem?_set_self' ] at h
    cases q : l[j]? with
    | none => rw [q] at h; simp at h
    | some z => rw [q] at h; simpa using h.symm
  · right
    rw [List.getElem?_set_ne (Ne.symm e)] at h
    exact ⟨e, h⟩
theorem SO.set (S : SO K CA m h H σ ρ) (i : Nat) (r : Rp K CA m h H v d) : SO K CA m h H (σ.set i (some v)) (ρ.set i (some d)) := by
  refine ⟨S.hr, by simp [S.len], fun j s e => ?_⟩
  rcases set_some e with ⟨rfl, q⟩ | ⟨n, q⟩
  · cases q
    have hj : j < ρ.length := by
      have := (List.getElem?_eq_some_iff.mp e).1
      simpa using this
    exact ⟨v, by rw [List.getElem?_set_self (by rw [S.len]; exact hj)], r⟩
  · obtain ⟨w, e1, h⟩ := S.sl j s q
    exact ⟨w, by rw [List.getElem?_set_ne (Ne.symm n)]; exact e1, h⟩
end
def R.toS {α : Type} (r : R α) (ρ : DE) (f : α → CH → RS) : RS := match r with
  | .ok a h => f a h
  | .ex c fs h => .ex ρ c fs h
  | .no => .no
section
variable (K : PySem.W.Frag) (CA : CAs) (W : WX)
abbrev RB : Mp → CH → Hp → Bool → Bool → Prop := fun _ _ _ b a => b = a
abbrev PostA := PostG K CA W (RpAll K CA)
abbrev PostT := PostG K CA W RB
def SimE (tH : TE) (t : TD) : Prop := ∀ (m : Mp) (h : CH) (H : Hp) (σ : L2.St) (ρ : DE) (Q' : VK), SO K CA m h H σ ρ → PostE K CA W m h H σ Q' (t ρ h) → tH σ H Q'
def SimT (tH : TT) (t : TB) : Prop := ∀ (m : Mp) (h : CH) (H : Hp) (σ : L2.St) (ρ : DE) (Q' : Bool → Hp → Prop), SO K CA m h H σ ρ → PostT K CA W m h H σ Q' (t ρ h) → tH σ H Q'
def SimA (tH : TA) (t : TDs) : Prop := ∀ (m : Mp) (h : CH) (H : Hp) (σ : L2.St) (ρ : DE) (Q' : List V → Hp → Prop), SO K CA m h H σ ρ → PostA K CA W m h H σ Q' (t ρ h) → tH σ H Q'
end
abbrev F1 := D → CH → R D
abbrev F2 := D → D → CH → R D
def SimR (K : PySem.W.Frag) (CA : CAs) (r : R2) (f : F2) : Prop := ∀ (W : WX) (σ : L2.St) (m : Mp) (h : CH) (H : Hp) (x y : V) (dx dy : D) (Q' : VK), HR K CA m h H → Rp K CA m h H x dx → Rp K CA m h H y dy → PostE K CA W m h H σ Q' (f dx dy h) → r x y H Q'
def SimC (K : PySem.W.Frag) (CA : CAs) (r : List V → Hp → VK → Prop) (f : FD) : Prop := ∀ (W : WX) (σ : L2.St) (m : Mp) (h : CH) (H : Hp) (xs : List V) (ds : List D) (Q' : VK), HR K CA m h H → RpAll K CA m h H xs ds → PostE K CA W m h H σ Q' (f ds h) → r xs H Q'
section
variable {K : PySem.W.Frag} {CA : CAs} {W : WX} {m m1 : Mp} {h h1 : CH} {H H1 : Hp} {σ : L2.St} {α β γ δ : Type} {RR : Mp → CH → Hp → β → α → Prop} {RR2 : Mp → CH → Hp → δ → γ → Prop} {Q1 : β → Hp → Prop} {Q2 : δ → Hp → Prop} {p : Addr} {u : HO} {d : D} {v : V} {Q' : VK}
theorem PostG.from {r : R α} (q : PostG K CA W RR m h H σ Q1 r) (s : Stp m h H m1 h1 H1) : PostG K CA W RR m1 h1 H1 σ Q1 r := by
  cases r with
  | ok a h2 => exact fun m' b H' s' => q m' b H' (s.trans s')
  | ex c fs h2 => exact fun m' cls dd H' s' => q m' cls dd H' (s.trans s')
  | no => exact q
theorem PostG.bind {r : R α} {k : α → CH → R γ} (q : PostG K CA W RR2 m h H σ Q2 (r.bind k))
    (f : ∀ a h1 m1 b H1, Stp m h H m1 h1 H1 → HR K CA m1 h1 H1 → RR m1 h1 H1 b a → PostG K CA W RR2 m1 h1 H1 σ Q2 (k a h1) → Q1 b H1) : PostG K CA W RR m h H σ Q1 r := by
  cases r with
  | ok a h1 => exact fun m1 b H1 s S rr => f a h1 m1 b H1 s S rr (q.from s)
  | ex c fs h1 => exact q
  | no => exact q
theorem PostG.here {a : α} {b : β} (q : PostG K CA W RR m h H σ Q1 (.ok a h)) (S : HR K CA m h H) (r : RR m h H b a) : Q1 b H := q m b H .refl S r
theorem PostG.laid (q : PostE K CA W m h H σ Q' (.ok d h)) (S : HR K CA m h H) (n : H p = none) (r : Rp K CA m h (upd H p u) (.ref p) d) : Q' (.ref p) (upd H p u) := q m _ _ (stp_laid S n) (S.laid n) r
theorem PostG.new {o : MO} (q : PostE K CA W m h H σ Q' (.ok (.ref h.nx) (h.new o))) (S : HR K CA m h H) (n : H p = none) (x : MOk K CA (mpNew m h p) (h.new o) (upd H p u) p o) : Q' (.ref p) (upd H p u) :=
  q (mpNew m h p) _ _ (stp_new S n (upd_new n)) (S.new n (upd_new n) x) (by
    have := Rp.ref (K := K) (CA := CA) (m := mpNew m h p) (h := h.new o) (H := upd H p u) (k := h.nx) (Nat.lt_succ_self _)
    rw [mpNew_nx] at this
    exact this)
theorem rps_laid {vs : List V} {ds : List D} (S : HR K CA m h H) (n : H p = none) (r : RpAll K CA m h H vs ds) : RpAll K CA m h (upd H p u) vs ds := r.move (stp_laid S n)
theorem rps_new {vs : List V} {ds : List D} {o : MO} (S : HR K CA m h H) (n : H p = none) (r : RpAll K CA m h H vs ds) : RpAll K CA (mpNew m h p) (h.new o) (upd H p u) vs ds := r.move (stp_new S n (upd_new n))
end
def mkL (nm : Bool) (ds : List D) (h : CH) : R D := match nm with
  | true => .ok (.ref h.nx) (h.new (.lst ds))
  | false => .ok (.lst ds) h
def mkD (nm : Bool) (ds : List (Key × D)) (h : CH) : R D := match nm with
  | true => .ok (.ref h.nx) (h.new (.dct ds))
  | false => .ok (.dct ds) h
section
variable {K : PySem.W.Frag} {CA : CAs} {W : WX} {m : Mp} {h : CH} {H : Hp} {σ : L2.St} {p : Addr} {Q' : VK}
theorem mkL_post {nm : Bool} {xs : List V} {ds : List D} (S : HR K CA m h H) (n : H p = none) (r : RpAll K CA m h H xs ds) (t : PostE K CA W m h H σ Q' (mkL nm ds h)) : Q' (.ref p) (upd H p (.lst xs)) := by
  cases nm with
  | true => exact PostG.new (show PostE K CA W m h H σ Q' (.ok (.ref h.nx) (h.new (.lst ds))) from t) S n (.lst upd_same (rps_new S n r))
  | false => exact PostG.laid (show PostE K CA W m h H σ Q' (.ok (.lst ds) h) from t) S n (.lst (S.fresh n) upd_same (rps_laid S n r))
theorem mkD_post {nm : Bool} {kvs : List (Key × V)} {dks : List (Key × D)} (S : HR K CA m h H) (n : H p = none) (en : kvs.map (·.1) = dks.map (·.1)) (r : RpAll K CA m h H (kvs.map (·.2)) (dks.map (·.2))) (t : PostE K CA W m h H σ Q' (mkD nm dks h)) : Q' (.ref p) (upd H p (.dK kvs)) := by
  cases nm with
  | true => exact PostG.new (show PostE K CA W m h H σ Q' (.ok (.ref h.nx) (h.new (.dct dks))) from t) S n (.dct upd_same en (rps_new S n r))
  | false => exact PostG.laid (show PostE K CA W m h H σ Q' (.ok (.dct dks) h) from t) S n (.dct (S.fresh n) upd_same rfl en (rps_laid S n r))
end
section
variable (X : Cx) (K : PySem.W.Frag) (CA : CAs) (W : WX)
structure WE (e : Expr) (tH : TE) (t : TD) : Prop where
  pe : PE X e tH
  sim : SimE K CA W tH t
structure WT (e : Expr) (tH : TT) (t : TB) : Prop where
  pe : PT X e tH
  sim : SimT K CA W tH t
structure WW (e : Expr) (tH : TT) (t : TB) : Prop where
  pe : PW X e tH
  sim : SimT K CA W tH t
structure WA (es : List Expr) (tH : TA) (t : TDs) : Prop where
  pe : PA X es tH
  sim : SimA K CA W tH t
end
def dVar (i : Nat) : TD := fun ρ h => match ρ[i]? with
  | some (some d) => .ok d h
  | _ => .no
def dC (d : D) : TD := fun _ h => .ok d h
def dOp (f : F2) (ta tb : TD) : TD := fun ρ h => (ta ρ h).bind fun x h => (tb ρ h).bind fun y h => f x y h
def dUn (f : F1) (ta : TD) : TD := fun ρ h => (ta ρ h).bind f
def dNil : TDs := fun _ h => .ok [] h
def dCons (ta : TD) (ts : TDs) : TDs := fun ρ h => (ta ρ h).bind fun x h => (ts ρ h).bind fun xs h => .ok (x :: xs) h
def dTup (ts : TDs) : TD := fun ρ h => (ts ρ h).bind fun xs h => if xs.length ≤ sizeLine then .ok (.tup xs) h else .no
def dLst (nm : Bool) (ts : TDs) : TD := fun ρ h => (ts ρ h).bind fun xs h => if xs.length ≤ sizeLine then mkL nm xs h else .no
def asB : D → CH → R Bool
  | .bl b, h => .ok b h
  | _, _ => .no
def dB (t : TD) : TB := fun ρ h => (t ρ h).bind asB
def dAnd (t u : TB) : TB := fun ρ h => (t ρ h).bind fun c h => if c = true then u ρ h else .ok false h
def dOr (t u : TB) : TB := fun ρ h => (t ρ h).bind fun c h => if c = true then .ok true h else u ρ h
def dNot (t : TB) : TB := fun ρ h => (t ρ h).bind fun c h => .ok (!c) h
def dAndV (ta tb : TD) : TD := fun ρ h => (ta ρ h).bind fun x h => (asB x h).bind fun c h => if c = true then tb ρ h else .ok (.bl false) h
def dOrV (ta tb : TD) : TD := fun ρ h => (ta ρ h).bind fun x h => (asB x h).bind fun c h => if c = true then .ok (.bl true) h else tb ρ h
def dNotV (ta : TD) : TD := fun ρ h => (ta ρ h).bind fun x h => (asB x h).bind fun c h => .ok (.bl (!c)) h
def dIf (t : TB) (ta tb : TD) : TD := fun ρ h => (t ρ h).bind fun c h => if c = true then ta ρ h else tb ρ h
def dCB (f : FD) (ts : TDs) : TD := fun ρ h => (ts ρ h).bind f
def dChain (f f' : F2) (ta tb tc : TD) : TD := fun ρ h => (ta ρ h).bind fun x h => (tb ρ h).bind fun y h => (f x y h).bind fun z h => (asB z h).bind fun k h =>
  if k = true then (tc ρ h).bind fun w h => f' y w h else .ok (.bl false) h
section
variable {X : Cx} {K : PySem.W.Frag} {CA : CAs} {W : WX} {e a b c : Expr} {es : List Expr} {pos : Pos} {ha hb hc : TE} {ta tb tc : TD} {hs : TA} {ts : TDs} {hA hB : TT} {tA tB : TB} {rest : List Expr}
theorem we_var {i : Nat} (h : PE X e (L2.tVar i)) : WE X K CA W e (L2.tVar i) (dVar i) := ⟨h, fun m h H σ ρ Q' S t => by
  unfold dVar at t
  split at t
  · rename_i d e1
    obtain ⟨v, e2, r⟩ := S.sl i _ e1
    exact ⟨v, e2, t.here S.hr r⟩
  · exact t.elim⟩
theorem we_int {i j} : WE X K CA W (.Constant (.int i) j pos) (L2.tC (.int i)) (dC (.int i)) := ⟨pe_int, fun m h H σ ρ Q' S t => t.here S.hr (.int i)⟩
theorem we_bl {i j} : WE X K CA W (.Constant (.bool i) j pos) (L2.tC (.bl i)) (dC (.bl i)) := ⟨pe_bl, fun m h H σ ρ Q' S t => t.here S.hr (.bl i)⟩
theorem we_non {j} : WE X K CA W (.Constant .none j pos) (L2.tC .non) (dC .non) := ⟨pe_non, fun m h H σ ρ Q' S t => t.here S.hr .non⟩
theorem we_str {x j} : WE X K CA W (.Constant (.str x) j pos) (L2.tC (.str x)) (dC (.str x)) := ⟨pe_str, fun m h H σ ρ Q' S t => t.here S.hr (.str x)⟩
theorem we_ty {n : String} (h : PE X e (L2.tC (.ty n))) : WE X K CA W e (L2.tC (.ty n)) (dC (.ty n)) := ⟨h, fun m h H σ ρ Q' S t => t.here S.hr (.ty n)⟩
theorem sim_op {r : R2} {f : F2} {tH tH' : TE} (hs : SimR K CA r f) (ha : SimE K CA W tH ta) (hb : SimE K CA W tH' tb) : SimE K CA W (L2.tOp r tH tH') (dOp f ta tb) :=
  fun m h H σ ρ Q' S t => ha m h H σ ρ _ S (t.bind fun x h1 m1 v H1 s1 S1 r1 t1 =>
    hb m1 h1 H1 σ ρ _ (S.move s1 S1) (t1.bind fun y h2 m2 w H2 s2 S2 r2 t2 => hs W σ m2 h2 H2 v w x y Q' S2 (r1.move s2) r2 t2))
theorem we_op {op : Operator} {r : R2} {f : F2} (ho : OpR X (binaryOp op) r) (s : SimR K CA r f) (xa : WE X K CA W a ha ta) (xb : WE X K CA W b hb tb) : WE X K CA W (.BinOp a op b pos) (L2.tOp r ha hb) (dOp f ta tb) :=
  ⟨pe_op ho xa.pe xb.pe, sim_op s xa.sim xb.sim⟩
theorem we_cmp {op : CmpOp} {r : R2} {f : F2} (ho : OpR X (compareOp op) r) (s : SimR K CA r f) (xa : WE X K CA W a ha ta) (xb : WE X K CA W b hb tb) (hm : behindInMarks op b = false) : WE X K CA W (.Compare a [op] [b] pos) (L2.tOp r ha hb) (dOp f ta tb) :=
  ⟨pe_cmpR ho xa.pe xb.pe hm, sim_op s xa.sim xb.sim⟩
theorem asB_inv {m : Mp} {h : CH} {H : Hp} {σ : L2.St} {x : D} {v : V} {Q : Bool → Hp → Prop} (r : Rp K CA m h H v x) (S : HR K CA m h H) (t : PostT K CA W m h H σ Q (asB x h)) : ∃ b, x = .bl b ∧ v = .bl b ∧ Q b H := by
  cases r <;> first
    | exact t.elim
    | exact ⟨_, rfl, rfl, t.here S rfl⟩
theorem sim_B {tH : TE} (h : SimE K CA W tH ta) : SimT K CA W (fun σ H Q => tH σ H fun x H' => ∃ k, x = .bl k ∧ Q k H') (dB ta) := fun m hh H σ ρ Q' S t =>
  h m hh H σ ρ _ S (t.bind fun x h1 m1 v H1 s1 S1 r1 t1 => by
    obtain ⟨b, _, e, q⟩ := asB_inv r1 S1 t1
    exact ⟨b, e, q⟩)
theorem wt_cmp {op : CmpOp} {r : R2} {f : F2} (ho : OpR X (compareOp op) r) (s : SimR K CA r f) (xa : WE X K CA W a ha ta) (xb : WE X K CA W b hb tb) (hm : behindInMarks op b = false) : WT X K CA W (.Compare a [op] [b] pos) (tTest (L2.tOp r ha hb)) (dB (dOp f ta tb)) :=
  ⟨pt_cmpR ho xa.pe xb.pe hm, sim_B (sim_op s xa.sim xb.sim)⟩
theorem wt_val (h : WE X K CA W e ha ta) (he : ∀ whole, isTrue e X.env whole = (do let v ← whole; standAt e.pos; holding [v] (truthy v)) := by intro _; rfl) : WT X K CA W e (L2.tB ha) (dB ta) := ⟨pt_val h.pe he, sim_B h.sim⟩
theorem asB_bind {α β : Type} {RR : Mp → CH → Hp → β → α → Prop} {m : Mp} {h : CH} {H : Hp} {σ : L2.St} {x : D} {v : V} {Q : β → Hp → Prop} {k : Bool → CH → R α} (r : Rp K CA m h H v x) (t : PostG K CA W RR m h H σ Q ((asB x h).bind k)) : ∃ b, x = .bl b ∧ v = .bl b ∧ PostG K CA W RR m h H σ Q (k b h) := by
  cases r <;> first
    | exact t.elim
    | exact ⟨_, rfl, rfl, t⟩
theorem sim_chain {r r' : R2} {f f' : F2} {t1 t2 t3 : TE} (hs : SimR K CA r f) (hs' : SimR K CA r' f') (ha : SimE K CA W t1 ta) (hb : SimE K CA W t2 tb) (hc : SimE K CA W t3 tc) :
    SimE K CA W (L2.tChain r r' t1 t2 t3) (dChain f f' ta tb tc) :=
  fun m h H σ ρ Q' S t => ha m h H σ ρ _ S (t.bind fun x h1 m1 v H1 s1 S1 r1 t1 =>
    hb m1 h1 H1 σ ρ _ (S.move s1 S1) (t1.bind fun y h2 m2 w H2 s2 S2 r2 t2 => hs W σ m2 h2 H2 v w x y _ S2 (r1.move s2) r2 (t2.bind fun z h3 m3 u H3 s3 S3 r3 t3 => by
      obtain ⟨k, rfl, e, t4⟩ := asB_bind r3 t3
      refine ⟨k, e, ?_⟩
      cases k with
      | true => exact hc m3 h3 H3 σ ρ _ (((S.move s1 S1).move s2 S2).move s3 S3) (t4.bind fun q h4 m4 q' H4 s4 S4 r4 t5 => hs' W σ m4 h4 H4 w q' y q Q' S4 ((r2.move s3).move s4) r4 t5)
      | false => exact t4.here S3 (.bl false))))
theorem wt_chain {op op' : CmpOp} {r r' : R2} {f f' : F2} (s : SimR K CA r f) (s' : SimR K CA r' f') (xa : WE X K CA W a ha ta) (xb : WE X K CA W b hb tb) (xc : WE X K CA W c hc tc)
    (h : PE X a ha → PE X b hb → PE X c hc → PT X (.Compare a [op, op'] [b, c] pos) (tTest (L2.tChain r r' ha hb hc))) : WT X K CA W (.Compare a [op, op'] [b, c] pos) (tTest (L2.tChain r r' ha hb hc)) (dB (dChain f f' ta tb tc)) :=
  ⟨h xa.pe xb.pe xc.pe, sim_B (sim_chain s s' xa.sim xb.sim xc.sim)⟩
theorem WW.wt (h : WW X K CA W e hA tA) : WT X K CA W e hA tA := ⟨h.pe.pt, h.sim⟩
theorem ww_and1 (h : WT X K CA W a hA tA) : WW X K CA W (.BoolOp .And [a] pos) hA tA := ⟨pw_and1 h.pe, h.sim⟩
theorem ww_or1 (h : WT X K CA W a hA tA) : WW X K CA W (.BoolOp .Or [a] pos) hA tA := ⟨pw_or1 h.pe, h.sim⟩
theorem ww_and (h : WT X K CA W a hA tA) (h' : WW X K CA W (.BoolOp .And (b :: rest) pos) hB tB) : WW X K CA W (.BoolOp .And (a :: b :: rest) pos) (L2.tAnd hA hB) (dAnd tA tB) := by
  refine ⟨pw_and h.pe h'.pe, fun m hh H σ ρ Q' S t => h.sim m hh H σ ρ _ S (t.bind fun k h1 m1 k' H1 s1 S1 r1 t1 => ?_)⟩
  cases (show k' = k from r1)
  cases k with
  | true => exact h'.sim m1 h1 H1 σ ρ Q' (S.move s1 S1) t1
  | false => exact t1.here S1 rfl
theorem ww_or (h : WT X K CA W a hA tA) (h' : WW X K CA W (.BoolOp .Or (b :: rest) pos) hB tB) : WW X K CA W (.BoolOp .Or (a :: b :: rest) pos) (L2.tOr hA hB) (dOr tA tB) := by
  refine ⟨pw_or h.pe h'.pe, fun m hh H σ ρ Q' S t => h.sim m hh H σ ρ _ S (t.bind fun k h1 m1 k' H1 s1 S1 r1 t1 => ?_)⟩
  cases (show k' = k from r1)
  cases k with
  | false => exact h'.sim m1 h1 H1 σ ρ Q' (S.move s1 S1) t1
  | true => exact t1.here S1 rfl
theorem wt_not (h : WT X K CA W a hA tA) : WT X K CA W (.UnaryOp .Not a pos) (L2.tNot hA) (dNot tA) :=
  ⟨pt_not h.pe, fun m hh H σ ρ Q' S t => h.sim m hh H σ ρ _ S (t.bind fun k h1 m1 k' H1 s1 S1 r1 t1 => by
    cases (show k' = k from r1)
    exact t1.here S1 rfl)⟩
theorem we_one {op} (h : WE X K CA W a ha ta) : WE X K CA W (.BoolOp op [a] pos) ha ta := ⟨pe_one h.pe, h.sim⟩
theorem we_and (h : WE X K CA W a ha ta) (h' : WE X K CA W (.BoolOp .And (b :: rest) pos) hb tb) : WE X K CA W (.BoolOp .And (a :: b :: rest) pos) (L2.tAndV ha hb) (dAndV ta tb) := by
  refine ⟨pe_and h.pe h'.pe, fun m hh H σ ρ Q' S t => h.sim m hh H σ ρ _ S (t.bind fun x h1 m1 v H1 s1 S1 r1 t1 => ?_)⟩
  obtain ⟨k, rfl, e, t2⟩ := asB_bind r1 t1
  refine ⟨k, e, ?_⟩
  cases k with
  | true => exact h'.sim m1 h1 H1 σ ρ Q' (S.move s1 S1) t2
  | false => exact t2.here S1 (.bl false)
theorem we_not (h : WE X K CA W a ha ta) : WE X K CA W (.UnaryOp .Not a pos) (L2.tNotV ha) (dNotV ta) := by
  refine ⟨pe_not h.pe, fun m hh H σ ρ Q' S t => h.sim m hh H σ ρ _ S (t.bind fun x h1 m1 v H1 s1 S1 r1 t1 => ?_)⟩
  obtain ⟨k, rfl, e, t2⟩ := asB_bind r1 t1
  exact ⟨k, e, t2.here S1 (.bl _)⟩
theorem we_ifExp (h0 : WT X K CA W c hA tA) (h : WE X K CA W a ha ta) (h' : WE X K CA W b hb tb) : WE X K CA W (.IfExp c a b pos) (L2.tIf hA ha hb) (dIf tA ta tb) := by
  refine ⟨pe_ifExp h0.pe h.pe h'.pe, fun m hh H σ ρ Q' S t => h0.sim m hh H σ ρ _ S (t.bind fun k h1 m1 k' H1 s1 S1 r1 t1 => ?_)⟩
  cases (show k' = k from r1)
  cases k with
  | true => exact h.sim m1 h1 H1 σ ρ Q' (S.move s1 S1) t1
  | false => exact h'.sim m1 h1 H1 σ ρ Q' (S.move s1 S1) t1
theorem wa_nil : WA X K CA W [] L2.tNil dNil := ⟨pa_nil, fun m h H σ ρ Q' S t => t.here S.hr .nil⟩
theorem sim_cons (h : SimE K CA W ha ta) (h' : SimA K CA W hs ts) : SimA K CA W (L2.tCons ha hs) (dCons ta ts) := fun m hh H σ ρ Q' S t =>
  h m hh H σ ρ _ S (t.bind fun x h1 m1 v H1 s1 S1 r1 t1 => h' m1 h1 H1 σ ρ _ (S.move s1 S1) (t1.bind fun xs h2 m2 vs H2 s2 S2 r2 t2 => t2.here S2 (.cons (r1.move s2) r2)))
theorem wa_cons (h : WE X K CA W e ha ta) (h' : WA X K CA W es hs ts) (hst : starEach (e :: es) X.env = (false, eval e X.env) :: starEach es X.env := by rfl) : WA X K CA W (e :: es) (L2.tCons ha hs) (dCons ta ts) :=
  ⟨pa_cons h.pe h'.pe hst, sim_cons h.sim h'.sim⟩
theorem post_ite {α β : Type} {RR : Mp → CH → Hp → β → α → Prop} {m : Mp} {h : CH} {H : Hp} {σ : L2.St} {Q : β → Hp → Prop} {c : Prop} [Decidable c] {r : R α} (t : PostG K CA W RR m h H σ Q (if c then r else .no)) : c ∧ PostG K CA W RR m h H σ Q r := by
  by_cases q : c
  · rw [if_pos q] at t; exact ⟨q, t⟩
  · rw [if_neg q] at t; exact t.elim
theorem we_tup {x1} (h : WA X K CA W es hs ts) : WE X K CA W (.Tuple es x1 pos) (L2.tTup hs) (dTup ts) := by
  refine ⟨pe_tup h.pe, fun m hh H σ ρ Q' S t => h.sim m hh H σ ρ _ S (t.bind fun xs h1 m1 vs H1 s1 S1 r1 t1 => ?_)⟩
  obtain ⟨l, t1⟩ := post_ite t1
  exact ⟨by rw [r1.length]; exact l, fun p n => t1.laid S1 n (.tup (S1.fresh n) upd_same (rps_laid S1 n r1))⟩
theorem we_lst (nm : Bool) (h : WA X K CA W es hs ts) : WE X K CA W (.List es pos) (L2.tLst hs) (dLst nm ts) := by
  refine ⟨pe_lst h.pe, fun m hh H σ ρ Q' S t => h.sim m hh H σ ρ _ S (t.bind fun xs h1 m1 vs H1 s1 S1 r1 t1 => ?_)⟩
  obtain ⟨l, t1⟩ := post_ite t1
  exact ⟨by rw [r1.length]; exact l, fun p n => mkL_post S1 n r1 t1⟩
theorem sim_CB {r : List V → Hp → VK → Prop} {f : FD} {tH : TA} (hs : SimC K CA r f) (ha : SimA K CA W tH ts) : SimE K CA W (tCB r tH) (dCB f ts) := fun m h H σ ρ Q' S t =>
  ha m h H σ ρ _ S (t.bind fun xs h1 m1 vs H1 s1 S1 r1 t1 => hs W σ m1 h1 H1 vs xs Q' S1 r1 t1)
theorem we_cb {r : List V → Hp → VK → Prop} {f : FD} (s : SimC K CA r f) (x : WA X K CA W es hs ts) (h : PA X es hs → PE X e (tCB r hs)) : WE X K CA W e (tCB r hs) (dCB f ts) := ⟨h x.pe, sim_CB s x.sim⟩
theorem we_ix {r : R2} {f : F2} (hr : IxR X r) (s : SimR K CA r f) (xa : WE X K CA W a ha ta) (xb : WE X K CA W b hb tb) (hp : PlainIx b := by exact fun _ _ => rfl) : WE X K CA W (.Subscript a b pos) (L2.tOp r ha hb) (dOp f ta tb) :=
  ⟨pe_ix hr xa.pe xb.pe hp, sim_op s xa.sim xb.sim⟩
def fz : D → CH → R D
  | .ref k, h => match h.ob k with
    | some (.lst ds) => .ok (.lst ds) (h.del k)
    | some (.dct kvs) => .ok (.dct kvs) (h.del k)
    | some (.obj c fs) => .ok (.obj c fs) (h.del k)
    | _ => .no
  | _, _ => .no
theorem fz_post {m : Mp} {h : CH} {H : Hp} {σ : L2.St} {v : V} {x : D} {Q' : VK} (S : HR K CA m h H) (r : Rp K CA m h H v x) (t : PostE K CA W m h H σ Q' (fz x h)) : Q' v H := by
  cases r with
  | @ref k l =>
    unfold fz at t
    simp only at t
    have nl : ∀ o, h.ob k = some o → ¬ Live m (h.del k) (m k) := fun o e z => (live_del S e z).2 rfl
    split at t
    · rename_i ds e
      have x := (S.ob k _ e).2
      cases x with
      | lst q r => exact t m _ H (stp_del S e trivial) (S.del e trivial) (.lst (nl _ e) q (r.move (stp_del S e trivial)))
    · rename_i ds e
      have x := (S.ob k _ e).2
      cases x with
      | dct q en r => exact t m _ H (stp_del S e trivial) (S.del e trivial) (.dct (nl _ e) q rfl en (r.move (stp_del S e trivial)))
    · rename_i c ds e
      have x := (S.ob k _ e).2
      cases x with
      | obj q en r => exact t m _ H (stp_del S e trivial) (S.del e trivial) (.obj (nl _ e) q en (r.move (stp_del S e trivial)))
    · exact t.elim
  | _ => exact t.elim
end
def lstOf (h : CH) : D → Option (List D)
  | .lst ds => some ds
  | .ref k => match h.ob k with
    | some (.lst ds) => some ds
    | some (.lkl ds) => some ds
    | _ => none
  | _ => none
def seqOf (h : CH) : D → Option (List D)
  | .lst ds => some ds
  | .tup ds => some ds
  | .ref k => match h.ob k with
    | some (.lst ds) => some ds
    | some (.lkl ds) => some ds
    | _ => none
  | _ => none
def dctOf (h : CH) : D → Option (List (Key × D))
  | .dct kvs => some kvs
  | .ref k => match h.ob k with
    | some (.dct kvs) => some kvs
    | some (.lck kvs) => some kvs
    | _ => none
  | _ => none
def flatD : D → Bool
  | .non | .bl _ | .int _ | .str _ => true
  | _ => false
def eqF : D → D → Bool
  | .non, .non => true
  | .bl a, .bl b => a == b
  | .bl a, .int j => (if a then 1 else 0) == j
  | .int i, .bl b => i == (if b then 1 else 0)
  | .int i, .int j => i == j
  | .str x, .str y => x == y
  | _, _ => false
def scalD : D → D → Bool
  | .int _, .bl _ => false
  | .bl _, .int _ => false
  | x, y => flatD x && flatD y
def toP (h : CH) : Nat → D → Option PyData
  | 0, _ => none
  | n + 1, d => match d with
    | .non => some .none
    | .bl b => some (.bool b)
    | .int i => some (.int i)
    | .str x => some (.str x)
    | .lst xs => (xs.mapM (toP h n)).map .list
    | .tup xs => (xs.mapM (toP h n)).map .tuple
    | .ref k => match h.ob k with
      | some (.lst xs) => (xs.mapM (toP h n)).map .list
      | _ => none
    | _ => none
def keyD : D → Option Key
  | .int i => some (.inl i)
  | .str x => some (.inr x)
  | _ => none
def dGet (kvs : List (Key × D)) (k : Key) : Option D := (kvs.find? fun kv => decide (kv.1 = k)).map (·.2)
def dPut (ps : List (Key × D)) (k : Key) (d : D) : List (Key × D) :=
  if (ps.any fun p => decide (p.1 = k)) = true then ps.map (fun p => if p.1 = k then (p.1, d) else p)
  else ps ++ [(k, d)]
section
variable {K : PySem.W.Frag} {CA : CAs} {m : Mp} {h : CH} {H : Hp} {v : V} {d : D}
theorem sq_emp {a : Addr} {xs : List V} (h : SqT K (fun _ => none) a xs) : SqT K H a xs := by
  rcases h with h | h
  · rcases h with h | ⟨o, h⟩ <;> cases h
  · exact .inr h
theorem sl_emp {a : Addr} {xs : List V} (h : SqL K (fun _ => none) a xs) : SqL K H a xs := by
  rcases h with h | h
  · rcases h with h | ⟨o, h⟩ <;> cases h
  · exact .inr h
theorem rp_lst (S : HR K CA m h H) {ds : List D} (r : Rp K CA m h H v d) (e : lstOf h d = some ds) : ∃ a xs, v = .ref a ∧ H a = some (.lst xs) ∧ RpAll K CA m h H xs ds := by
  cases r with
  | lst n e1 r => cases e; exact ⟨_, _, rfl, e1, r⟩
  | ref l =>
    simp only [lstOf] at e
    split at e
    · rename_i q
      cases e
      have x := (S.ob _ _ q).2
      cases x with
      | lst e1 r => exact ⟨_, _, rfl, e1, r⟩
    · rename_i q
      cases e
      have x := (S.ob _ _ q).2
      cases x with
      | lkl e1 r => exact ⟨_, _, rfl, e1, r⟩
    · cases e
  | _ => cases e
theorem rp_tup {ds : List D} (r : Rp K CA m h H v (.tup ds)) : ∃ a xs, v = .ref a ∧ SqT K H a xs ∧ RpAll K CA m h H xs ds := by
  cases r with
  | tup n e r => exact ⟨_, _, rfl, .of e, r⟩
  | ktup e r => exact ⟨_, _, rfl, sq_emp e, r⟩
theorem rp_seq (S : HR K CA m h H) {ds : List D} (r : Rp K CA m h H v d) (e : seqOf h d = some ds) : ∃ a xs, v = .ref a ∧ (SqL K H a xs ∨ SqT K H a xs) ∧ RpAll K CA m h H xs ds := by
  cases d with
  | tup es =>
    cases e
    obtain ⟨a, xs, e1, e2, r2⟩ := rp_tup r
    exact ⟨a, xs, e1, .inr e2, r2⟩
  | lst es =>
    obtain ⟨a, xs, e1, e2, r2⟩ := rp_lst S r (show lstOf h (.lst es) = some ds from e)
    exact ⟨a, xs, e1, .inl (.of e2), r2⟩
  | ref k =>
    obtain ⟨a, xs, e1, e2, r2⟩ := rp_lst S r (show lstOf h (.ref k) = some ds from e)
    exact ⟨a, xs, e1, .inl (.of e2), r2⟩
  | _ => cases e
theorem rp_dct (S : HR K CA m h H) {ds : List (Key × D)} (r : Rp K CA m h H v d) (e : dctOf h d = some ds) : ∃ a o kvs, v = .ref a ∧ H a = some o ∧ core o = .dK kvs ∧ kvs.map (·.1) = ds.map (·.1) ∧ RpAll K CA m h H (kvs.map (·.2)) (ds.map (·.2)) := by
  cases r with
  | dct n e1 c en r => cases e; exact ⟨_, _, _, rfl, e1, c, en, r⟩
  | ref l =>
    simp only [dctOf] at e
    split at e
    · rename_i q
      cases e
      have x := (S.ob _ _ q).2
      cases x with
      | dct e1 en r => exact ⟨_, _, _, rfl, e1, rfl, en, r⟩
    · rename_i q
      cases e
      have x := (S.ob _ _ q).2
      cases x with
      | lck e1 en r => exact ⟨_, _, _, rfl, e1, rfl, en, r⟩
    · cases e
  | _ => cases e
theorem dget_core {a : Addr} {o : HO} {kvs : List (Key × V)} {k : Key} (e : H a = some o) (c : core o = .dK kvs) : DGet H a (kV k) (valV kvs k) := by
  rcases core_dK c with rfl | ⟨ob, rfl⟩
  · exact .inl ⟨kvs, k, .inl e, rfl, rfl⟩
  · exact .inl ⟨kvs, k, .inr ⟨ob, e⟩, rfl, rfl⟩
theorem rp_key {y : D} {k : Key} (r : Rp K CA m h H v y) (e : keyD y = some k) : v = kV k := by
  cases r <;> first | (cases e; rfl) | cases e
theorem rp_flat (r : Rp K CA m h H v d) (f : flatD d = true) : flatV v = true := by cases r <;> first | rfl | cases f
theorem rp_flats {vs : List V} {ds : List D} (r : RpAll K CA m h H vs ds) (f : ds.all flatD = true) : vs.all flatV = true := by
  induction vs generalizing ds with
  | nil => rfl
  | cons x vs ih => cases r with
    | cons h1 h2 =>
      rw [List.all_cons, Bool.and_eq_true] at f ⊢
      exact ⟨rp_flat h1 f.1, ih h2 f.2⟩
theorem rp_eqV {y x : V} {e c : D} (r : Rp K CA m h H y e) (r' : Rp K CA m h H x c) (f : flatD e = true) (f' : flatD c = true) : eqV y x = eqF e c := by
  cases r <;> first
    | (cases f; done)
    | (cases r' <;> first | rfl | (cases f'; done))
theorem rp_inV {x : V} {c : D} {vs : List V} {ds : List D} (r : RpAll K CA m h H vs ds) (r' : Rp K CA m h H x c) (f : ds.all flatD = true) (f' : flatD c = true) : inV x vs = ds.any fun e => eqF e c := by
  unfold inV
  induction vs generalizing ds with
  | nil => cases r; rfl
  | cons y vs ih => cases r with
    | cons h1 h2 =>
      rw [List.all_cons, Bool.and_eq_true] at f
      rw [List.any_cons, List.any_cons, ih h2 f.2, rp_eqV h1 r' f.1 f']
theorem rp_scal {y x : V} {e c : D} (r : Rp K CA m h H y e) (r' : Rp K CA m h H x c) (s : scalD e c = true) : scal y x = true ∧ decide (y = x) = eqF e c := by
  cases r <;> first
    | (cases r' <;> first
      | exact ⟨rfl, rfl⟩
      | exact ⟨rfl, dec_int⟩
      | exact ⟨rfl, dec_bl⟩
      | exact ⟨rfl, dec_str⟩
      | cases s)
    | (cases s; done)
    | (cases c <;> cases s; done)
theorem rp_dget {k : Key} : ∀ {kvs : List (Key × V)} {ds : List (Key × D)}, kvs.map (·.1) = ds.map (·.1) → RpAll K CA m h H (kvs.map (·.2)) (ds.map (·.2)) →
    (∃ v d, valV kvs k = some v ∧ dGet ds k = some d ∧ Rp K CA m h H v d) ∨ (valV kvs k = none ∧ dGet ds k = none)
  | [], [], _, _ => .inr ⟨rfl, rfl⟩
  | [], _ :: _, e, _ => by simp at e
  | _ :: _, [], e, _ => by simp at e
  | p :: kvs, q :: ds, e, r => by
    obtain ⟨pk, pv⟩ := p
    obtain ⟨qk, qv⟩ := q
    simp only [List.map_cons, List.cons.injEq] at e
    obtain ⟨e1, e2⟩ := e
    subst e1
    cases r with
    | cons r1 r2 =>
      by_cases h : pk = k
      · subst h
        exact .inl ⟨pv, qv, by simp [valV], by simp [dGet], r1⟩
      · rcases rp_dget (k := k) e2 r2 with ⟨v, d, h1, h2, h3⟩ | ⟨h1, h2⟩
        · exact .inl ⟨v, d, by rw [valV_neg h]; exact h1, by simp only [dGet, List.find?_cons, decide_eq_false h]; exact h2, h3⟩
        · exact .inr ⟨by rw [valV_neg h]; exact h1, by simp only [dGet, List.find?_cons, decide_eq_false h]; exact h2⟩
theorem keys_any {κ α β : Type} {k : κ} [DecidableEq κ] : ∀ {kvs : List (κ × α)} {ds : List (κ × β)}, kvs.map (·.1) = ds.map (·.1) → (kvs.any fun kv => decide (kv.1 = k)) = (ds.any fun kv => decide (kv.1 = k))
  | [], [], _ => rfl
  | [], _ :: _, e => by simp at e
  | _ :: _, [], e => by simp at e
  | p :: kvs, q :: ds, e => by
    simp only [List.map_cons, List.cons.injEq] at e
    rw [List.any_cons, List.any_cons, e.1, keys_any e.2]
theorem rp_dput {k : Key} {kvs : List (Key × V)} {ds : List (Key × D)} (e : kvs.map (·.1) = ds.map (·.1)) (r : RpAll K CA m h H (kvs.map (·.2)) (ds.map (·.2))) (r' : Rp K CA m h H v d) :
    (putK kvs k v).map (·.1) = (dPut ds k d).map (·.1) ∧ RpAll K CA m h H ((putK kvs k v).map (·.2)) ((dPut ds k d).map (·.2)) := by
  unfold putK dPut
  rw [keys_any e]
  by_cases q : (ds.any fun kv => decide (kv.1 = k)) = true
  · rw [if_pos q, if_pos q]
    clear q
    induction kvs generalizing ds with
    | nil => cases ds with
      | nil => exact ⟨rfl, .nil⟩
      | cons => simp at e
    | cons p kvs ih => cases ds with
      | nil => simp at e
      | cons q ds =>
        simp only [List.map_cons, List.cons.injEq] at e
        cases r with
        | cons r1 r2 =>
          obtain ⟨i1, i2⟩ := ih e.2 r2
          simp only [List.map_cons]
          by_cases hk : q.1 = k
          · rw [if_pos (e.1.trans hk), if_pos hk]
            exact ⟨by rw [i1, e.1], .cons r' i2⟩
          · rw [if_neg (fun z => hk (e.1.symm.trans z)), if_neg hk]
            exact ⟨by rw [i1, e.1], .cons r1 i2⟩
  · rw [if_neg q, if_neg q]
    simp only [List.map_append, List.map_cons, List.map_nil]
    exact ⟨by rw [e], r.append (.cons r' .nil)⟩
theorem rp_dps_of {f : D → Option PyData} (ih : ∀ (d : D) (v : V) (p : PyData), Rp K CA m h H v d → f d = some p → Dp K H v p) : ∀ (ds : List D) (vs : List V) (ps : List PyData), RpAll K CA m h H vs ds → ds.mapM f = some ps → DpAll K H vs ps
  | [], _, _, r, e => by cases r; simp at e; subst e; exact .nil
  | d :: ds, _, _, r, e => by
    cases r with
    | cons h1 h2 =>
      simp only [List.mapM_cons, Option.bind_eq_bind, Option.bind_eq_some_iff, Option.pure_def, Option.some.injEq] at e
      obtain ⟨p, e1, ps, e2, rfl⟩ := e
      exact .cons (ih d _ p h1 e1) (rp_dps_of ih ds _ ps h2 e2)
theorem rp_dp (S : HR K CA m h H) : ∀ (n : Nat) (d : D) (v : V) (p : PyData), Rp K CA m h H v d → toP h n d = some p → Dp K H v p
  | 0, d, _, _, _, e => by cases d <;> cases e
  | n + 1, .non, _, _, r, e => by cases r; simp only [toP, Option.some.injEq] at e; subst e; exact .non
  | n + 1, .bl b, _, _, r, e => by cases r; simp only [toP, Option.some.injEq] at e; subst e; exact .bl b
  | n + 1, .int b, _, _, r, e => by cases r; simp only [toP, Option.some.injEq] at e; subst e; exact .int b
  | n + 1, .str b, _, _, r, e => by cases r; simp only [toP, Option.some.injEq] at e; subst e; exact .str b
  | n + 1, .lst ds, _, _, r, e => by
    simp only [toP, Option.map_eq_some_iff] at e
    obtain ⟨ps, e1, rfl⟩ := e
    obtain ⟨a, xs, rfl, e2, r2⟩ := rp_lst S r rfl
    exact .lst (.of e2) (rp_dps_of (rp_dp S n) ds xs ps r2 e1)
  | n + 1, .tup ds, _, _, r, e => by
    simp only [toP, Option.map_eq_some_iff] at e
    obtain ⟨ps, e1, rfl⟩ := e
    obtain ⟨a, xs, rfl, e2, r2⟩ := rp_tup r
    exact .tup e2 (rp_dps_of (rp_dp S n) ds xs ps r2 e1)
  | n + 1, .ref k, _, _, r, e => by
    simp only [toP] at e
    split at e
    · rename_i ds q
      simp only [Option.map_eq_some_iff] at e
      obtain ⟨ps, e1, rfl⟩ := e
      obtain ⟨a, xs, rfl, e2, r2⟩ := rp_lst S r (show lstOf h (.ref k) = some ds by simp only [lstOf, q])
      exact .lst (.of e2) (rp_dps_of (rp_dp S n) ds xs ps r2 e1)
    · cases e
  | n + 1, .dct _, _, _, _, e => by simp [toP] at e
  | n + 1, .obj _ _, _, _, _, e => by simp [toP] at e
  | n + 1, .scr _, _, _, _, e => by simp [toP] at e
  | n + 1, .ty _, _, _, _, e => by simp [toP] at e
  | n + 1, .cls _, _, _, _, e => by simp [toP] at e
  | n + 1, .exc _ _, _, _, _, e => by simp [toP] at e
end
def fAdd (nm : Bool) : F2 := fun x y h => match x, y with
  | .int i, .int j => .ok (.int (i + j)) h
  | .str a, .str b => if a.length + b.length ≤ sizeLine then .ok (.str (a ++ b)) h else .no
  | .tup a, .tup b => if a ≠ [] ∧ a.length + b.length ≤ sizeLine then .ok (.tup (a ++ b)) h else .no
  | x, y => match lstOf h x, lstOf h y with
    | some a, some b => if a.length + b.length ≤ sizeLine then mkL nm (a ++ b) h else .no
    | _, _ => .no
def fSubI : F2 := fun x y h => match x, y with
  | .int i, .int j => .ok (.int (i - j)) h
  | _, _ => .no
def fMul (nm : Bool) : F2 := fun x y h => match x, y with
  | .int i, .int j => if CMul i j then .ok (.int (i * j)) h else .no
  | x, .int k => match lstOf h x with
    | some ds => if -(2 ^ 63) ≤ k ∧ k < 2 ^ 63 ∧ ds.length * k.toNat ≤ sizeLine then mkL nm (List.replicate k.toNat ds).flatten h else .no
    | none => .no
  | _, _ => .no
def fDiv : F2 := fun x y h => match x, y with
  | .int i, .int j => if CDiv i j then .ok (.int (i / j)) h else .no
  | _, _ => .no
def fMod : F2 := fun x y h => match x, y with
  | .int i, .int j => if 0 < j then .ok (.int (i % j)) h else .no
  | _, _ => .no
def fPow : F2 := fun x y h => match x, y with
  | .int i, .int j => if CPow i j then .ok (.int (i ^ j.toNat)) h else .no
  | _, _ => .no
def fB (f : Int → Int → Bool) : F2 := fun x y h => match x, y with
  | .int i, .int j => .ok (.bl (f i j)) h
  | _, _ => .no
def bneg (neg b : Bool) : Bool := if neg then !b else b
def fEq (neg : Bool) : F2 := fun x y h => if scalD x y = true then .ok (.bl (bneg neg (eqF x y))) h else match toP h 10 x, toP h 10 y with
  | some p, some q => if SeqAt.shaped p = true ∧ SeqAt.shaped q = true then .ok (.bl (bneg neg (PyData.eqv p q))) h else .no
  | _, _ => .no
def isNon : D → Bool
  | .non => true
  | _ => false
def fIsN (neg : Bool) : F2 := fun x y h => match y with
  | .non => .ok (.bl (bneg neg (isNon x))) h
  | _ => .no
def fIn (neg : Bool) : F2 := fun x y h => match seqOf h y with
  | some ds => if flatD x = true ∧ ds.all flatD = true then .ok (.bl (bneg neg (ds.any fun e => eqF e x))) h else .no
  | none => match dctOf h y, keyD x with
    | some kvs, some k => .ok (.bl (bneg neg (dGet kvs k).isSome)) h
    | _, _ => .no
def fIx : F2 := fun x y h => match x, y with
  | .str z, .int i => if z.length ≤ sizeLine then (match atI z.cps.toList i with
    | some c => .ok (.str ⟨#[c]⟩) h
    | none => .no) else .no
  | x, y => match seqOf h x, y with
    | some ds, .int i => (match atI ds i with
      | some v => .ok v h
      | none => .no)
    | _, _ => match dctOf h x, keyD y with
      | some kvs, some k => (match dGet kvs k with
        | some v => .ok v h
        | none => .no)
      | _, _ => .no
section
variable {X : Cx} {K : PySem.W.Frag} {CA : CAs} {W : WX} {m : Mp} {h : CH} {H : Hp} {σ : L2.St}
abbrev rAddU (K : PySem.W.Frag) : R2 := fun x y H Q => (rI0 (fun i j => .int (i + j)) x y H Q) ∨ (rCat x y H Q) ∨ (rCatT K x y H Q) ∨ (∃ i j, x = .str i ∧ y = .str j ∧ i.length + j.length ≤ sizeLine ∧ Q (.str (i ++ j)) H)
theorem add_lst {nm : Bool} {x y : D} {v w : V} {Q' : VK} (S : HR K CA m h H) (rx : Rp K CA m h H v x) (ry : Rp K CA m h H w y)
    (t : PostE K CA W m h H σ Q' (match lstOf h x, lstOf h y with | some a, some b => if a.length + b.length ≤ sizeLine then mkL nm (a ++ b) h else .no | _, _ => .no)) : rCat v w H Q' := by
  split at t
  · rename_i a b e1 e2
    obtain ⟨l, t⟩ := post_ite t
    obtain ⟨a, xs, rfl, e1, r1⟩ := rp_lst S rx e1
    obtain ⟨b, ys, rfl, e2, r2⟩ := rp_lst S ry e2
    exact ⟨a, b, xs, ys, rfl, rfl, e1, e2, by rw [r1.length, r2.length]; exact l, fun p n => mkL_post S n (r1.append r2) t⟩
  · exact t.elim
theorem sim_add {nm : Bool} : SimR K CA (rAddU K) (fAdd nm) := by
  intro W σ m h H x y dx dy Q' S rx ry t
  unfold fAdd at t
  split at t
  · cases rx; cases ry; exact .inl ⟨_, _, rfl, rfl, t.here S (.int _)⟩
  · cases rx; cases ry
    obtain ⟨l, t⟩ := post_ite t
    exact .inr (.inr (.inr ⟨_, _, rfl, rfl, l, t.here S (.str _)⟩))
  · obtain ⟨⟨l1, l2⟩, t⟩ := post_ite t
    obtain ⟨a, xs, rfl, e1, r1⟩ := rp_tup rx
    obtain ⟨b, ys, rfl, e2, r2⟩ := rp_tup ry
    refine .inr (.inr (.inl ⟨a, b, xs, ys, rfl, rfl, e1, e2, fun z => l1 ?_, by rw [r1.length, r2.length]; exact l2, fun z => ?_, fun _ p n => ?_⟩))
    · subst z; cases r1; rfl
    · subst z; cases r2
      rw [List.append_nil] at t
      exact t.here S rx
    · exact t.laid S n (.tup (S.fresh n) upd_same (rps_laid S n (r1.append r2)))
  · exact .inr (.inl (add_lst S rx ry t))
theorem op_addU (hK : X.K = K := by rfl) : OpR X (binaryOp .Add) (rAddU K) := by subst hK; exact op_add.or (op_cat.or (op_catT.or op_add_str))
theorem sim_subI : SimR K CA (rI0 fun i j => .int (i - j)) fSubI := by
  intro W σ m h H x y dx dy Q' S rx ry t
  unfold fSubI at t
  split at t
  · cases rx; cases ry; exact ⟨_, _, rfl, rfl, t.here S (.int _)⟩
  · exact t.elim
theorem op_mulU : OpR X (binaryOp .Mult) (fun x y H Q => rI CMul (fun i j => .int (i * j)) x y H Q ∨ rRep x y H Q) := op_mul.or op_rep
theorem rp_rep {vs : List V} {ds : List D} (r : RpAll K CA m h H vs ds) : ∀ n : Nat, RpAll K CA m h H (List.replicate n vs).flatten (List.replicate n ds).flatten
  | 0 => by simp; exact .nil
  | n + 1 => by
    rw [List.replicate_succ, List.replicate_succ, List.flatten_cons, List.flatten_cons]
    exact r.append (rp_rep r n)
theorem sim_mul {nm : Bool} : SimR K CA (fun x y H Q => rI CMul (fun i j => .int (i * j)) x y H Q ∨ rRep x y H Q) (fMul nm) := by
  intro W σ m h H x y dx dy Q' S rx ry t
  unfold fMul at t
  split at t
  · obtain ⟨c, t⟩ := post_ite t
    cases rx; cases ry; exact .inl ⟨_, _, rfl, rfl, c, t.here S (.int _)⟩
  · split at t
    · rename_i e
      obtain ⟨⟨c1, c2, c3⟩, t⟩ := post_ite t
      obtain ⟨a, xs, rfl, e1, r1⟩ := rp_lst S rx e
      cases ry
      exact .inr ⟨a, _, xs, rfl, rfl, e1, c1, c2, by rw [r1.length]; exact c3, fun p n => mkL_post S n (rp_rep r1 _) t⟩
    · exact t.elim
  · exact t.elim
theorem sim_div : SimR K CA (rI CDiv fun i j => .int (i / j)) fDiv := by
  intro W σ m h H x y dx dy Q' S rx ry t
  unfold fDiv at t
  split at t
  · obtain ⟨c, t⟩ := post_ite t
    cases rx; cases ry; exact ⟨_, _, rfl, rfl, c, t.here S (.int _)⟩
  · exact t.elim
theorem sim_mod : SimR K CA (rI (fun _ j => 0 < j) fun i j => .int (i % j)) fMod := by
  intro W σ m h H x y dx dy Q' S rx ry t
  unfold fMod at t
  split at t
  · obtain ⟨c, t⟩ := post_ite t
    cases rx; cases ry; exact ⟨_, _, rfl, rfl, c, t.here S (.int _)⟩
  · exact t.elim
theorem sim_pow : SimR K CA (rI CPow fun i j => .int (i ^ j.toNat)) fPow := by
  intro W σ m h H x y dx dy Q' S rx ry t
  unfold fPow at t
  split at t
  · obtain ⟨c, t⟩ := post_ite t
    cases rx; cases ry; exact ⟨_, _, rfl, rfl, c, t.here S (.int _)⟩
  · exact t.elim
theorem sim_cB {f : Int → Int → Bool} : SimR K CA (rI0 fun i j => .bl (f i j)) (fB f) := by
  intro W σ m h H x y dx dy Q' S rx ry t
  unfold fB at t
  split at t
  · cases rx; cases ry; exact ⟨_, _, rfl, rfl, t.here S (.bl _)⟩
  · exact t.elim
theorem sim_eq : SimR K CA (fun x y H Q => rEq x y H Q ∨ rEqD K x y H Q) (fEq false) := by
  intro W σ m h H x y dx dy Q' S rx ry t
  unfold fEq at t
  split at t
  · rename_i c
    obtain ⟨s, e⟩ := rp_scal rx ry c
    exact .inl ⟨s, by rw [e]; exact t.here S (.bl _)⟩
  · split at t
    · rename_i p q e1 e2
      obtain ⟨⟨c1, c2⟩, t⟩ := post_ite t
      exact .inr ⟨p, q, rp_dp S _ dx x p rx e1, rp_dp S _ dy y q ry e2, c1, c2, t.here S (.bl _)⟩
    · exact t.elim
theorem op_eqU (hu : X.A.units + 64 < cLine) (hK : X.K = K := by rfl) : OpR X (compareOp .Eq) (fun x y H Q => rEq x y H Q ∨ rEqD K x y H Q) := by subst hK; exact op_eq.or (op_eqD hu)
theorem sim_ne : SimR K CA (fun x y H Q => rNe x y H Q ∨ rNeD K x y H Q) (fEq true) := by
  intro W σ m h H x y dx dy Q' S rx ry t
  unfold fEq at t
  split at t
  · rename_i c
    obtain ⟨s, e⟩ := rp_scal rx ry c
    exact .inl ⟨s, by rw [e]; exact t.here S (.bl _)⟩
  · split at t
    · rename_i p q e1 e2
      obtain ⟨⟨c1, c2⟩, t⟩ := post_ite t
      exact .inr ⟨p, q, rp_dp S _ dx x p rx e1, rp_dp S _ dy y q ry e2, c1, c2, t.here S (.bl _)⟩
    · exact t.elim
theorem op_neU (hu : X.A.units + 64 < cLine) (hK : X.K = K := by rfl) : OpR X (compareOp .NotEq) (fun x y H Q => rNe x y H Q ∨ rNeD K x y H Q) := by subst hK; exact op_ne.or (op_neD hu)
theorem sim_isN : SimR K CA (fun x y H Q => y = .non ∧ Q (.bl (decide (x = .non))) H) (fIsN false) := by
  intro W σ m h H x y dx dy Q' S rx ry t
  unfold fIsN at t
  split at t
  · cases ry
    refine ⟨rfl, ?_⟩
    cases rx <;> exact t.here S (.bl _)
  · exact t.elim
def rDIn (neg : Bool) : R2 := fun y x H Q => ∃ a o, x = .ref a ∧ DGet H a y o ∧ Q (.bl (if neg then !o.isSome else o.isSome)) H
theorem op_notInDct (hu : X.A.units + 1 < cLine) : OpR X (compareOp .NotIn) (rDIn true) := by
  intro pins s σ H y x u v Q I ry rx h
  obtain ⟨a, o, rfl, g, q⟩ := h
  cases rx
  exact d_notIn hu I g ry fun s3 I3 => ⟨.bl (!o.isSome), H, I3, rfl, q⟩
theorem sim_in {neg : Bool} : SimR K CA (fun x y H Q => rIn K neg x y H Q ∨ rDIn neg x y H Q) (fIn neg) := by
  intro W σ m h H x y dx dy Q' S rx ry t
  unfold fIn at t
  split at t
  · rename_i ds e
    obtain ⟨⟨f, fs⟩, t⟩ := post_ite t
    obtain ⟨a, xs, rfl, e1, r1⟩ := rp_seq S ry e
    refine .inl ⟨a, xs, rfl, e1, rp_flat rx f, rp_flats r1 fs, ?_⟩
    rw [rp_inV r1 rx fs f]
    exact t.here S (.bl _)
  · split at t
    · rename_i kvs k e ek
      obtain ⟨a, o, hk, rfl, e1, c, en, r⟩ := rp_dct S ry e
      have ek := rp_key rx ek
      subst ek
      refine .inr ⟨a, valV hk k, rfl, dget_core e1 c, ?_⟩
      rcases rp_dget (k := k) en r with ⟨v, d, h1, h2, _⟩ | ⟨h1, h2⟩
      · rw [h1]; rw [h2] at t; exact t.here S (.bl _)
      · rw [h1]; rw [h2] at t; exact t.here S (.bl _)
    · exact t.elim
theorem op_notInU (hu : X.A.units + 1 < cLine) (hK : X.K = K := by rfl) : OpR X (compareOp .NotIn) (fun x y H Q => rIn K true x y H Q ∨ rDIn true x y H Q) := by subst hK; exact op_notIn_seq.or (op_notInDct hu)
theorem ix_dct (hu : X.A.units + 1 < cLine) : IxR X (fun x y H Q => ∃ a v, x = .ref a ∧ DGet H a y (some v) ∧ Q v H) := by
  intro value slice pins s σ H x y v u Q I rx ry h hs
  obtain ⟨a, z, rfl, g, q⟩ := h
  cases rx
  exact tail_any (dict_typeIs I g) PySem.F.slot_dict_getitem.lookup (d_getItem hu I g ry fun w' s3 I3 rw' => ⟨z, H, I3, rw', q⟩) hs
abbrev rIxU (K : PySem.W.Frag) : R2 := fun x y H Q => rIx K x y H Q ∨ ∃ a v, x = .ref a ∧ DGet H a y (some v) ∧ Q v H
theorem ixU (hu : X.A.units + 1 < cLine) (hK : X.K = K := by rfl) : IxR X (rIxU K) := by subst hK; exact ix_seq.or (ix_dct hu)
theorem atI_rp {vs : List V} {ds : List D} {i : Int} {d : D} (r : RpAll K CA m h H vs ds) (e : atI ds i = some d) : ∃ v, atI vs i = some v ∧ Rp K CA m h H v d := by
  unfold atI at e ⊢
  rw [r.length]
  cases q : ixN ds.length i with
  | none => rw [q] at e; cases e
  | some j =>
    rw [q] at e
    exact r.getD e
theorem sim_ix : SimR K CA (rIxU K) fIx := by
  intro W σ m h H x y dx dy Q' S rx ry t
  unfold fIx at t
  split at t
  · obtain ⟨l, t⟩ := post_ite t
    split at t
    · rename_i c e
      cases rx; cases ry
      exact .inl (.inr (.inr ⟨_, _, c, rfl, rfl, l, e, t.here S (.str _)⟩))
    · exact t.elim
  · split at t
    · rename_i ds i e _
      split at t
      · rename_i d ea
        obtain ⟨a, xs, rfl, e1, r1⟩ := rp_seq S rx e
        cases ry
        obtain ⟨w, e2, r2⟩ := atI_rp r1 ea
        rcases e1 with e1 | e1
        · exact .inl (.inl ⟨a, xs, _, w, rfl, rfl, e1, e2, t.here S r2⟩)
        · exact .inl (.inr (.inl ⟨a, xs, _, w, rfl, rfl, e1, e2, t.here S r2⟩))
      · exact t.elim
    · split at t
      · rename_i kvs k e ek
        split at t
        · rename_i d eg
          obtain ⟨a, o, hk, rfl, e1, c, en, r⟩ := rp_dct S rx e
          have e2 := rp_key ry ek
          subst e2
          rcases rp_dget (k := k) en r with ⟨w, d, h1, h2, h3⟩ | ⟨_, h2⟩
          · rw [h2] at eg
            cases eg
            refine .inr ⟨a, w, rfl, ?_, t.here S h3⟩
            rw [← h1]
            exact dget_core e1 c
          · rw [h2] at eg; cases eg
        · exact t.elim
      · exact t.elim
end
section
variable (K : PySem.W.Frag) (CA : CAs) (W : WX)
def PostS (m : Mp) (h : CH) (H : Hp) (D' : Ends) : RS → Prop
  | .nx ρ' h' => ∀ m' σ' H', Stp m h H m' h' H' → SO K CA m' h' H' σ' ρ' → D'.nx σ' H'
  | .rt d h' => ∀ m' v H', Stp m h H m' h' H' → HR K CA m' h' H' → Rp K CA m' h' H' v d → D'.rt v H'
  | .bk ρ' h' => ∀ m' σ' H', Stp m h H m' h' H' → SO K CA m' h' H' σ' ρ' → D'.bk σ' H'
  | .ct ρ' h' => ∀ m' σ' H', Stp m h H m' h' H' → SO K CA m' h' H' σ' ρ' → D'.ct σ' H'
  | .ex ρ' c fs h' => ∀ m' cls dd σ' H', Stp m h H m' h' H' → SO K CA m' h' H' σ' ρ' → XR K CA m' h' H' cls dd c fs → W cls dd σ' H'
  | .no => False
def SimS (tS : TS) (u : SD) : Prop := ∀ (m : Mp) (h : CH) (H : Hp) (σ : L2.St) (ρ : DE) (D' : Ends), SO K CA m h H σ ρ → PostS K CA W m h H D' (u ρ h) → tS D' σ H
end
section
variable (X : Cx) (K : PySem.W.Frag) (CA : CAs) (W : WX)
structure WS (st : Stmt) (tS : TS) (u : SD) : Prop where
  pe : PS X st tS
  sim : SimS K CA W tS u
structure WSs (st : List Stmt) (tS : TS) (u : SD) : Prop where
  pe : PSs X st tS
  sim : SimS K CA W tS u
end
section
variable {K : PySem.W.Frag} {CA : CAs} {W : WX} {m m1 : Mp} {h h1 : CH} {H H1 : Hp} {σ : L2.St} {ρ : DE} {D' : Ends} {α β : Type} {RR : Mp → CH → Hp → β → α → Prop} {Q1 : β → Hp → Prop}
theorem PostS.from {r : RS} (q : PostS K CA W m h H D' r) (s : Stp m h H m1 h1 H1) : PostS K CA W m1 h1 H1 D' r := by
  cases r with
  | nx ρ' h' => exact fun m' σ' H' s' => q m' σ' H' (s.trans s')
  | rt d h' => exact fun m' v H' s' => q m' v H' (s.trans s')
  | bk ρ' h' => exact fun m' σ' H' s' => q m' σ' H' (s.trans s')
  | ct ρ' h' => exact fun m' σ' H' s' => q m' σ' H' (s.trans s')
  | ex ρ' c fs h' => exact fun m' cls dd σ' H' s' => q m' cls dd σ' H' (s.trans s')
  | no => exact q
theorem PostS.bind {r : R α} {k : α → CH → RS} (S : SO K CA m h H σ ρ) (q : PostS K CA W m h H D' (r.toS ρ k))
    (f : ∀ a h1 m1 b H1, Stp m h H m1 h1 H1 → HR K CA m1 h1 H1 → RR m1 h1 H1 b a → PostS K CA W m1 h1 H1 D' (k a h1) → Q1 b H1) : PostG K CA W RR m h H σ Q1 r := by
  cases r with
  | ok a h1 => exact fun m1 b H1 s S1 rr => f a h1 m1 b H1 s S1 rr (q.from s)
  | ex c fs h1 => exact fun m' cls dd H' s S1 x => q m' cls dd σ H' s (S.move s S1) x
  | no => exact q
end
def dNext : SD := fun ρ h => .nx ρ h
def RS.bind (r : RS) (w : SD) : RS := match r with
  | .nx ρ h => w ρ h
  | r => r
def dSeq (u w : SD) : SD := fun ρ h => (u ρ h).bind w
def dIfS (c : TB) (u w : SD) : SD := fun ρ h => (c ρ h).toS ρ fun b h => if b = true then u ρ h else w ρ h
def dRet (t : TD) : SD := fun ρ h => (t ρ h).toS ρ fun d h => .rt d h
def dCont : SD := fun ρ h => .ct ρ h
def dDrop (t : TD) : SD := fun ρ h => (t ρ h).toS ρ fun _ h => .nx ρ h
def dNever : SD := fun _ _ => .no
def gdName (i : Nat) : TGD := fun d ρ h => .ok (ρ.set i (some d)) h
def gdNil : TGDs := fun ds ρ h => match ds with
  | [] => .ok ρ h
  | _ => .no
def gdCons (t : TGD) (u : TGDs) : TGDs := fun ds ρ h => match ds with
  | d :: r => (t d ρ h).bind fun ρ h => u r ρ h
  | [] => .no
def gdTup (n : Nat) (t : TGDs) : TGD := fun d ρ h => match d with
  | .tup ds => if ds.length = n then t ds ρ h else .no
  | _ => .no
def R.put (r : R DE) (k : SD) : RS := match r with
  | .ok ρ h => k ρ h
  | _ => .no
def dAsg (t : TD) (tg : TGD) : SD := fun ρ h => (t ρ h).toS ρ fun d h => (tg d ρ h).put fun ρ h => .nx ρ h
def dPar (i j : Nat) (ts : TDs) : SD := fun ρ h => (ts ρ h).toS ρ fun ds h => match ds with
  | [x, y] => .nx ((ρ.set i (some x)).set j (some y)) h
  | _ => .no
def dPar3 (i j l : Nat) (ts : TDs) : SD := fun ρ h => (ts ρ h).toS ρ fun ds h => match ds with
  | [x, y, z] => .nx (((ρ.set i (some x)).set j (some y)).set l (some z)) h
  | _ => .no
def dForL (tg : TGD) (u : SD) : List D → SD
  | [], ρ, h => .nx ρ h
  | d :: r, ρ, h => (tg d ρ h).put fun ρ1 h1 => match u ρ1 h1 with
    | .nx ρ2 h2 => dForL tg u r ρ2 h2
    | .ct ρ2 h2 => dForL tg u r ρ2 h2
    | .bk ρ2 h2 => .nx ρ2 h2
    | x => x
abbrev Unl := Option (Nat × MO)
def unlH : Unl → CH → CH
  | none, h => h
  | some (k, o), h => h.put k o
def RS.unl (u : Unl) : RS → RS
  | .nx ρ h => .nx ρ (unlH u h)
  | .rt d h => .rt d (unlH u h)
  | .bk ρ h => .bk ρ (unlH u h)
  | .ct ρ h => .ct ρ (unlH u h)
  | r => r
def R.unl {α : Type} (u : Unl) : R α → R α
  | .ok a h => .ok a (unlH u h)
  | r => r
abbrev TDw := DE → CH → R (List D × Unl)
def dFor (t : TDw) (tg : TGD) (u : SD) : SD := fun ρ h => (t ρ h).toS ρ fun w h => (dForL tg u w.1 ρ h).unl w.2
section
variable {K : PySem.W.Frag} {CA : CAs} {W : WX} {t t' : TS} {u w : SD} {tH : TE} {tT : TT} {d : TD} {tB : TB}
theorem sim_next : SimS K CA W tNext dNext := fun m h H σ ρ D' S q => q m σ H .refl S
theorem sim_seq (x : SimS K CA W t u) (y : SimS K CA W t' w) : SimS K CA W (tSeq t t') (dSeq u w) := fun m h H σ ρ D' S q =>
  x m h H σ ρ { D' with nx := t' D' } S (by
    unfold dSeq at q
    cases e : u ρ h with
    | nx ρ' h' => rw [e] at q; exact fun m' σ' H' s S' => y m' h' H' σ' ρ' D' S' (PostS.from (show PostS K CA W m h H D' (w ρ' h') from q) s)
    | rt d h' => rw [e] at q; exact q
    | bk d h' => rw [e] at q; exact q
    | ct d h' => rw [e] at q; exact q
    | ex ρ' c fs h' => rw [e] at q; exact q
    | no => rw [e] at q; exact q)
theorem sim_ifS (hc : SimT K CA W tT tB) (x : SimS K CA W t u) (y : SimS K CA W t' w) : SimS K CA W (tIfS tT t t') (dIfS tB u w) := fun m h H σ ρ D' S q =>
  hc m h H σ ρ _ S (PostS.bind S q fun b h1 m1 b' H1 s1 S1 e q1 => by
    cases (show b' = b from e)
    cases b with
    | true => exact x m1 h1 H1 σ ρ D' (S.move s1 S1) q1
    | false => exact y m1 h1 H1 σ ρ D' (S.move s1 S1) q1)
theorem sim_ret (x : SimE K CA W tH d) : SimS K CA W (tRet tH) (dRet d) := fun m h H σ ρ D' S q =>
  x m h H σ ρ _ S (PostS.bind S q fun a h1 m1 v H1 s1 S1 r q1 => q1 m1 v H1 .refl S1 r)
theorem sim_drop (x : SimE K CA W tH d) : SimS K CA W (tDrop tH) (dDrop d) := fun m h H σ ρ D' S q =>
  x m h H σ ρ _ S (PostS.bind S q fun a h1 m1 v H1 s1 S1 r q1 => q1 m1 σ H1 .refl (S.move s1 S1))
end
section
variable (K : PySem.W.Frag) (CA : CAs) (W : WX)
def SimG (sl : List Nat) (gH : TG) (tg : TGD) : Prop := ∀ (m : Mp) (h : CH) (H : Hp) (σ : L2.St) (ρ : DE) (v : V) (d : D) (Q' : L2.St → Hp → Prop), SO K CA m h H σ ρ → Rp K CA m h H v d → PostT' K CA m h H σ sl Q' (tg d ρ h) → gH v σ H Q'
def SimGs (sl : List Nat) (gH : TGs) (tg : TGDs) : Prop := ∀ (m : Mp) (h : CH) (H : Hp) (σ : L2.St) (ρ : DE) (vs : List V) (ds : List D) (Q' : L2.St → Hp → Prop), SO K CA m h H σ ρ → RpAll K CA m h H vs ds → PostT' K CA m h H σ sl Q' (tg ds ρ h) → gH vs σ H Q'
end
section
variable (X : Cx) (K : PySem.W.Frag) (CA : CAs) (W : WX)
structure WG (e : Expr) (sl : List Nat) (gH : TG) (tg : TGD) : Prop where
  pe : PG X e gH
  sim : SimG K CA sl gH tg
structure WGs (es : List Expr) (sl : List Nat) (gH : TGs) (tg : TGDs) : Prop where
  pe : PGs X es gH
  sim : SimGs K CA sl gH tg
end
section
variable {X : Cx} {K : PySem.W.Frag} {CA : CAs} {W : WX} {e a b c : Expr} {es : List Expr} {gH : TG} {tg : TGD} {gHs : TGs} {tgs : TGDs} {pos : Pos} {st : Stmt} {sts rest x y : List Stmt} {tu tw : TS} {u w : SD} {ha : TE} {ta : TD} {hs : TA} {ts : TDs} {hB : TT} {tB : TB}
theorem sim_gName {i : Nat} : SimG K CA [i] (gName i) (gdName i) := fun m h H σ ρ v d Q' S r k => k m _ H .refl (S.set i r) (by simp) fun j hj => List.getElem?_set_ne (fun z => hj (by simp [z]))
theorem wg_name {i : Nat} (h : PG X e (gName i)) : WG X K CA e [i] (gName i) (gdName i) := ⟨h, sim_gName⟩
theorem wgs_nil : WGs X K CA [] [] gNil gdNil := ⟨pgs_nil, fun m h H σ ρ vs ds Q' S r k => by
  cases r with
  | nil => exact ⟨rfl, k m σ H .refl S rfl fun _ _ => rfl⟩
  | cons => exact k.elim⟩
theorem wgs_cons {s1 s2 : List Nat} (h : WG X K CA e s1 gH tg) (h' : WGs X K CA es s2 gHs tgs) (hst : (assignEach (e :: es) X.env).map (·.2) = assign e X.env :: (assignEach es X.env).map (·.2) := by rfl) : WGs X K CA (e :: es) (s1 ++ s2) (gCons gH gHs) (gdCons tg tgs) := by
  refine ⟨pgs_cons h.pe h'.pe hst, fun m hh H σ ρ vs ds Q' S r q => ?_⟩
  cases r with
  | nil => exact q.elim
  | @cons v vs d ds r1 r2 =>
    refine ⟨v, vs, rfl, h.sim m hh H σ ρ v d _ S r1 ?_⟩
    simp only [gdCons] at q
    cases e : tg d ρ hh with
    | ok ρ' h1 =>
      rw [e] at q
      exact fun m1 σ1 H1 st1 S1 l1 k1 => h'.sim m1 h1 H1 σ1 ρ' vs ds Q' S1 (r2.move st1) (PostT'.mono (show PostT' K CA m hh H σ (s1 ++ s2) Q' (tgs ds ρ' h1) from q) st1 l1 (fun j hj => k1 j fun z => hj (List.mem_append_left _ z)) fun j hj => List.mem_append_right _ hj)
    | ex c fs h1 => rw [e] at q; exact q
    | no => rw [e] at q; exact q
theorem wg_tup {n k : Nat} {sl : List Nat} (hc : X.calm = true) (h : WGs X K CA es sl gHs tgs) (hn : (assignEach es X.env).length = n := by rfl) (hst : (assignEach es X.env).findIdx? (·.1) = none := by rfl) (hK : X.K = K := by rfl) : WG X K CA (.Tuple es k pos) sl (gTup K n gHs) (gdTup n tgs) := by
  subst hK
  refine ⟨pg_tup hc h.pe hn hst, fun m hh H σ ρ v d Q' S r q => ?_⟩
  cases d with
  | tup ds =>
    simp only [gdTup] at q
    by_cases hl : ds.length = n
    · rw [if_pos hl] at q
      obtain ⟨a, xs, rfl, e1, r1⟩ := rp_tup r
      exact ⟨a, xs, rfl, e1, r1.length.trans hl, h.sim m hh H σ ρ xs ds Q' S r1 q⟩
    · rw [if_neg hl] at q; exact q.elim
  | _ => exact q.elim
theorem wss_nil : WSs X K CA W [] tNext dNext := ⟨pss_nil, sim_next⟩
theorem wss_cons (h : WS X K CA W st tu u) (h' : WSs X K CA W rest tw w) : WSs X K CA W (st :: rest) (tSeq tu tw) (dSeq u w) := ⟨pss_cons h.pe h'.pe, sim_seq h.sim h'.sim⟩
theorem wss_one (h : WS X K CA W st tu u) : WSs X K CA W [st] tu u := ⟨pss_one h.pe, h.sim⟩
theorem ws_never : WS X K CA W st tNever dNever := ⟨ps_never, fun m h H σ ρ D' S q => q.elim⟩
theorem ws_expr (h : WE X K CA W e ha ta) (hsw : swapsWith e none pos.line X.env = pure false := by rfl) : WS X K CA W (.Expr e pos) (tDrop ha) (dDrop ta) := ⟨ps_expr h.pe hsw, sim_drop h.sim⟩
theorem ws_ret (h : WE X K CA W e ha ta) : WS X K CA W (.Return (some e) pos) (tRet ha) (dRet ta) := ⟨ps_ret h.pe, sim_ret h.sim⟩
theorem ws_if (h0 : WT X K CA W c hB tB) (h : WSs X K CA W x tu u) (h' : WSs X K CA W y tw w) : WS X K CA W (.If c x y pos) (tIfS hB tu tw) (dIfS tB u w) := ⟨ps_if h0.pe h.pe h'.pe, sim_ifS h0.sim h.sim h'.sim⟩
theorem put_post {sl : List Nat} {m : Mp} {h : CH} {H : Hp} {σ : L2.St} {D' : Ends} {r : R DE} {k : SD} {Q' : L2.St → Hp → Prop} (q : PostS K CA W m h H D' (r.put k)) (f : ∀ ρ' h' m' σ' H', Stp m h H m' h' H' → SO K CA m' h' H' σ' ρ' → PostS K CA W m' h' H' D' (k ρ' h') → Q' σ' H') : PostT' K CA m h H σ sl Q' r := by
  cases r with
  | ok ρ' h2 => exact fun m2 σ2 H2 s2 S2 _ _ => f ρ' h2 m2 σ2 H2 s2 S2 (PostS.from (show PostS K CA W m h H D' (k ρ' h2) from q) s2)
  | ex c fs h2 => exact q
  | no => exact q
theorem sim_asg {sl : List Nat} (h : SimE K CA W ha ta) (hg : SimG K CA sl gH tg) : SimS K CA W (tAsg ha gH) (dAsg ta tg) := fun m hh H σ ρ D' S q =>
  h m hh H σ ρ _ S (PostS.bind S q fun d h1 m1 v H1 s1 S1 r q1 => hg m1 h1 H1 σ ρ v d _ (S.move s1 S1) r (put_post q1 fun ρ' h' m' σ' H' s' S' q' => q' m' σ' H' .refl S'))
theorem ws_asg {sl : List Nat} (h : WE X K CA W e ha ta) (hg : WG X K CA a sl gH tg) (hsw : swapsWithSole [a] e pos.line X.env = pure false := by rfl) (hw : swappedStores [a] e X.env = pure none := by rfl)
    (h1 : (assignEach [a] X.env).map (·.2) = [assign a X.env] := by rfl) : WS X K CA W (.Assign [a] e pos) (tAsg ha gH) (dAsg ta tg) := ⟨ps_asg h.pe hg.pe hsw hw h1, sim_asg h.sim hg.sim⟩
theorem ws_set {i : Nat} (h : WE X K CA W e ha ta) (hp : PE X e ha → PS X st (tAsg ha (gName i))) : WS X K CA W st (tAsg ha (gName i)) (dAsg ta (gdName i)) :=
  ⟨hp h.pe, sim_asg h.sim sim_gName⟩
theorem ws_par {i j : Nat} (h : WA X K CA W es hs ts) (hp : PA X es hs → PS X st (tPar i j hs)) : WS X K CA W st (tPar i j hs) (dPar i j ts) := by
  refine ⟨hp h.pe, fun m hh H σ ρ D' S q => h.sim m hh H σ ρ _ S (PostS.bind S q fun ds h1 m1 vs H1 s1 S1 r q1 => ?_)⟩
  split at q1
  · cases r with
    | @cons v _ _ _ r1 r2 =>
      cases r2 with
      | @cons v' _ _ _ r2 r3 =>
        cases r3
        exact ⟨v, v', rfl, q1 m1 _ H1 .refl (((S.move s1 S1).set i r1).set j r2)⟩
  · exact q1.elim
theorem ws_par3 {i j l : Nat} (h : WA X K CA W es hs ts) (hp : PA X es hs → PS X st (tPar3 i j l hs)) : WS X K CA W st (tPar3 i j l hs) (dPar3 i j l ts) := by
  refine ⟨hp h.pe, fun m hh H σ ρ D' S q => h.sim m hh H σ ρ _ S (PostS.bind S q fun ds h1 m1 vs H1 s1 S1 r q1 => ?_)⟩
  split at q1
  · cases r with
    | @cons v _ _ _ r1 r2 =>
      cases r2 with
      | @cons v' _ _ _ r2 r3 =>
        cases r3 with
        | @cons v2 _ _ _ r3 r4 =>
          cases r4
          exact ⟨v, v', v2, rfl, q1 m1 _ H1 .refl ((((S.move s1 S1).set i r1).set j r2).set l r3)⟩
  · exact q1.elim
end
section
variable (K : PySem.W.Frag) (CA : CAs) (W : WX)
structure Wk (m : Mp) (h : CH) (H : Hp) (J : It) (ds : List D) : Prop where
  go : ∀ (i : Nat) (m' : Mp) (h' : CH) (H' : Hp) (d : D), Sz m h H m' h' H' → HR K CA m' h' H' → ds[i]? = some d → J.go i H' ∧ ∀ x H2, J.yld i H' x H2 → (∀ a u, H' a = some u → H2 a = some u) ∧ Rp K CA m' h' H2 x d
  stop : ∀ (m' : Mp) (h' : CH) (H' : Hp), Sz m h H m' h' H' → HR K CA m' h' H' → J.stop ds.length H'
def UnlOk (H0 : Hp) (m : Mp) (h : CH) (H : Hp) (m' : Mp) (h' : CH) (H' : Hp) : Unl → Prop
  | none => True
  | some (k, o) => ∀ m2 h2 H2, Stp m' h' H' m2 h2 H2 → HR K CA m2 h2 H2 → ∃ o' H3, h2.ob k = some o' ∧ (H3 = H2 ∨ ∃ od hk, H2 (m2 k) = some (.frz od (.dK hk)) ∧ (∀ o' u', H0 (m2 k) ≠ some (.frz o' u')) ∧ H3 = upd H2 (m2 k) (.dK hk)) ∧
      Stp m h H m2 (h2.put k o) H3 ∧ HR K CA m2 (h2.put k o) H3
def PostI (H0 : Hp) (m : Mp) (h : CH) (H : Hp) (σ : L2.St) (R' : It → Hp → Prop) : R (List D × Unl) → Prop
  | .ok w h' => ∀ m' J H', Stp m h H m' h' H' → HR K CA m' h' H' → Wk K CA m' h' H' J w.1 → UnlOk K CA H0 m h H m' h' H' w.2 → R' J H'
  | .ex c fs h' => ∀ m' cls dd H', Stp m h H m' h' H' → HR K CA m' h' H' → XR K CA m' h' H' cls dd c fs → W cls dd σ H'
  | .no => False
def SimI (H0 : Hp) (wH : TI) (t : TDw) : Prop := ∀ (m : Mp) (h : CH) (H : Hp) (σ : L2.St) (ρ : DE) (R' : It → Hp → Prop), SO K CA m h H σ ρ → PostI K CA W H0 m h H σ R' (t ρ h) → wH σ H R'
end
section
variable (X : Cx) (K : PySem.W.Frag) (CA : CAs) (W : WX)
structure WI (tg iter : Expr) (wH : TI) (t : TDw) : Prop where
  pe : PI X tg iter wH
  sim : SimI K CA W X.H_0 wH t
end
def UnlP (X : Cx) (P : Hp → Prop) (H : Hp) : Prop := P H ∨ ∃ d od u, H d = some (.frz od u) ∧ (∀ o' u', X.H_0 d ≠ some (.frz o' u')) ∧ P (upd H d u)
def unlE (X : Cx) (D : Ends) : Ends := ⟨fun σ => UnlP X (D.nx σ), fun v => UnlP X (D.rt v), fun σ => UnlP X (D.bk σ), fun σ => UnlP X (D.ct σ)⟩
theorem unl_inv {X : Cx} {pins : List (Addr × Obj)} {σ : L2.St} {H : Hp} {s : Shared} {P : Hp → Prop} (I : Inv X pins σ H s) (q : UnlP X P H) : ∃ H', Inv X pins σ H' s ∧ P H' := by
  rcases q with q | ⟨d, od, u, e, n, q⟩
  · exact ⟨H, I, q⟩
  · exact ⟨_, I.unlock e n, q⟩
theorem ps_unl {X : Cx} {st : Stmt} {t : TS} (x : PS X st t) : PS X st (fun D σ H => t (unlE X D) σ H) := by
  refine ⟨fun pins s σ H D I hw => thn (x.run pins s σ H _ I hw) fun f s1 q => ?_⟩
  cases f with
  | next => obtain ⟨σ', H', I2, q⟩ := q; obtain ⟨H2, I3, q⟩ := unl_inv I2 q; exact ⟨σ', H2, I3, q⟩
  | brk => obtain ⟨σ', H', I2, q⟩ := q; obtain ⟨H2, I3, q⟩ := unl_inv I2 q; exact ⟨σ', H2, I3, q⟩
  | cont => obtain ⟨σ', H', I2, q⟩ := q; obtain ⟨H2, I3, q⟩ := unl_inv I2 q; exact ⟨σ', H2, I3, q⟩
  | ret v => obtain ⟨y, σ', H', I2, r, q⟩ := q; obtain ⟨H2, I3, q⟩ := unl_inv I2 q; exact ⟨y, σ', H2, I3, r, q⟩
theorem pe_unl {X : Cx} {e : Expr} {t : TE} (x : PE X e t) : PE X e (fun σ H Q => t σ H fun v => UnlP X (Q v)) := by
  refine ⟨fun pins s σ H Q I hw => thn (x.run pins s σ H _ I hw) fun v s1 q => ?_⟩
  obtain ⟨y, H1, I2, r, q⟩ := q
  obtain ⟨H2, I3, q⟩ := unl_inv I2 q
  exact ⟨y, H2, I3, r, q⟩
def itemsD (h : CH) : D → Option (List D)
  | .lst ds => some ds
  | .tup ds => some ds
  | .scr ns => some (ns.map D.int)
  | _ => none
def lockD (d : D) (h : CH) : R (List D × Unl) := match d with
  | .ref k => match h.ob k with
    | some (.lst ds) => .ok (ds, some (k, .lst ds)) (h.put k (.lkl ds))
    | some (.lkl ds) => .ok (ds, none) h
    | _ => .no
  | _ => .no
def dSeqI (t : TD) : TDw := fun ρ h => (t ρ h).bind fun d h => match itemsD h d with
  | some ds => .ok (ds, none) h
  | none => lockD d h
def rgD (a : Int) (n : Nat) : List D := (List.range n).map fun (i : Nat) => D.int (a + (i : Int))
def dRng1 (ts : TDs) : TDw := fun ρ h => (ts ρ h).bind fun ds h => match ds with
  | [.int n] => if -(2 ^ 62) ≤ n ∧ n < 2 ^ 62 then .ok (rgD 0 n.toNat, none) h else .no
  | _ => .no
def dRng2 (ts : TDs) : TDw := fun ρ h => (ts ρ h).bind fun ds h => match ds with
  | [.int a, .int b] => if -(2 ^ 62) ≤ a ∧ a < 2 ^ 62 ∧ -(2 ^ 62) ≤ b ∧ b < 2 ^ 62 then .ok (rgD a (b - a).toNat, none) h else .no
  | _ => .no
def enD : Nat → List D → List D
  | _, [] => []
  | i, d :: r => .tup [.int (i : Int), d] :: enD (i + 1) r
def dEnum (ts : TDs) : TDw := fun ρ h => (ts ρ h).bind fun ds h => match ds with
  | [.lst xs] => .ok (enD 0 xs, none) h
  | _ => .no
section
variable {X : Cx} {K : PySem.W.Frag} {CA : CAs} {W : WX} {e a b l c tge iter : Expr} {es : List Expr} {gH : TG} {tg : TGD} {pos p : Pos} {st : Stmt} {sts rest body : List Stmt} {tb : TS} {u w : SD} {ha : TE} {ta : TD} {hs : TA} {wH : TI} {ts : TDs} {ti : TDw} {hB : TT} {tB : TB}
theorem sim_forL {sl : List Nat} (s' : SimG K CA sl gH tg) (s'' : SimS K CA W tb u) {m : Mp} {h : CH} {H : Hp} {σ : L2.St} {ρ : DE} {D' : Ends} {J : It} {ds : List D} (S : SO K CA m h H σ ρ) (wk : Wk K CA m h H J ds) (q : PostS K CA W m h H D' (dForL tg u ds ρ h)) :
    ∃ (Wl : Nat → Nat → L2.St → Hp → Prop), (∃ n, Wl 0 n σ H) ∧ ∀ i n σ' H', Wl i n σ' H' → (J.stop i H' ∧ D'.nx σ' H') ∨ (J.go i H' ∧ ∃ Nx : L2.St → Hp → Prop, (∀ σ3 H3, Nx σ3 H3 → ∃ n', n' < n ∧ Wl (i + 1) n' σ3 H3) ∧
      ∀ x H2, J.yld i H' x H2 → gH x σ' H2 fun σ2 H2' => tb { D' with nx := Nx, ct := Nx, bk := D'.nx } σ2 H2') := by
  refine ⟨fun i n σ' H' => n + i = ds.length ∧ ∃ m' h' ρ', Stp m h H m' h' H' ∧ SO K CA m' h' H' σ' ρ' ∧ PostS K CA W m' h' H' D' (dForL tg u (ds.drop i) ρ' h'), ⟨ds.length, rfl, m, h, ρ, .refl, S, q⟩, ?_⟩
  rintro i n σ' H' ⟨hm, m', h', ρ', st', S', q'⟩
  cases hd : ds[i]? with
  | none =>
    have hlen : ds.length ≤ i := List.getElem?_eq_none_iff.mp hd
    obtain rfl : i = ds.length := by omega
    rw [List.drop_length] at q'
    exact .inl ⟨wk.stop m' h' H' st'.toSz S'.hr, q' m' σ' H' .refl S'⟩
  | some d =>
    obtain ⟨hlt, ed⟩ := List.getElem?_eq_some_iff.mp hd
    rw [List.drop_eq_getElem_cons hlt, ed] at q'
    obtain ⟨go, yl⟩ := wk.go i m' h' H' d st'.toSz S'.hr hd
    refine .inr ⟨go, fun σ3 H3 => ∃ m3 h3 ρ3, Stp m h H m3 h3 H3 ∧ SO K CA m3 h3 H3 σ3 ρ3 ∧ PostS K CA W m3 h3 H3 D' (dForL tg u (ds.drop (i + 1)) ρ3 h3), fun σ3 H3 n3 => ⟨n - 1, by omega, by omega, n3⟩, fun x H2 y2 => ?_⟩
    obtain ⟨gr, r2⟩ := yl x H2 y2
    have a2 := stp_grow S'.hr gr
    have w2 := S'.hr.grow gr
    have q2 := q'.from a2
    unfold dForL at q2
    refine s' m' h' H2 σ' ρ' x d _ (S'.move a2 w2) r2 (put_post q2 fun ρ4 h4 m4 σ4 H4 s4 S4 q4 => ?_)
    refine s'' m4 h4 H4 σ4 ρ4 _ S4 ?_
    have stp4 : Stp m h H m4 h4 H4 := (st'.trans a2).trans s4
    cases e : u ρ4 h4 with
    | nx ρ5 h5 => rw [e] at q4; exact fun m5 σ5 H5 s5 S5 => ⟨m5, h5, ρ5, stp4.trans s5, S5, q4.from s5⟩
    | ct ρ5 h5 => rw [e] at q4; exact fun m5 σ5 H5 s5 S5 => ⟨m5, h5, ρ5, stp4.trans s5, S5, q4.from s5⟩
    | bk ρ5 h5 => rw [e] at q4; exact q4
    | rt d5 h5 => rw [e] at q4; exact q4
    | ex ρ5 c fs h5 => rw [e] at q4; exact q4
    | no => rw [e] at q4; exact q4
theorem PostI.bindS {m : Mp} {h : CH} {H : Hp} {σ : L2.St} {ρ : DE} {D' : Ends} {H0 : Hp} {r : R (List D × Unl)} {k : List D × Unl → CH → RS} {R' : It → Hp → Prop} (S : SO K CA m h H σ ρ) (q : PostS K CA W m h H D' (r.toS ρ k))
    (f : ∀ w h1 m1 J H1, Stp m h H m1 h1 H1 → HR K CA m1 h1 H1 → Wk K CA m1 h1 H1 J w.1 → UnlOk K CA H0 m h H m1 h1 H1 w.2 → PostS K CA W m h H D' (k w h1) → R' J H1) : PostI K CA W H0 m h H σ R' r := by
  cases r with
  | ok w h1 => exact fun m1 J H1 s S1 wk uo => f w h1 m1 J H1 s S1 wk uo q
  | ex c fs h1 => exact fun m' cls dd H' s S1 x => q m' cls dd σ H' s (S.move s S1) x
  | no => exact q
theorem unl_at {m m1 m2 : Mp} {h h1 h2 : CH} {H H1 H2 : Hp} {u : Unl} {P : Hp → Prop} (s : Stp m h H m1 h1 H1) (uo : UnlOk K CA X.H_0 m h H m1 h1 H1 u) (s2 : Stp m1 h1 H1 m2 h2 H2) (S2 : HR K CA m2 h2 H2)
    (f : ∀ H3, Stp m h H m2 (unlH u h2) H3 → HR K CA m2 (unlH u h2) H3 → (∀ v d, Rp K CA m2 h2 H2 v d → Rp K CA m2 (unlH u h2) H3 v d) → P H3) : UnlP X P H2 := by
  cases u with
  | none => exact .inl (f H2 (s.trans s2) S2 fun _ _ r => r)
  | some p =>
    obtain ⟨k, kvs⟩ := p
    obtain ⟨o', H3, eo, e, s3, S3⟩ := uo m2 h2 H2 s2 S2
    rcases e with rfl | ⟨od, hk, e, n, rfl⟩
    · refine .inl (f _ s3 S3 fun _ _ r => ?_)
      obtain ⟨u, q⟩ := (S2.ob _ _ eo).2.some
      have := r.mv (mv_put (o' := kvs) (u := u) eo)
      rw [upd_eq q] at this
      exact this
    · exact .inr ⟨m2 k, od, _, e, n, f _ s3 S3 fun _ _ r => r.mv (mv_put eo)⟩
theorem post_unl {m m1 : Mp} {h h1 : CH} {H H1 : Hp} {D' : Ends} {r : RS} {u : Unl} (s : Stp m h H m1 h1 H1) (uo : UnlOk K CA X.H_0 m h H m1 h1 H1 u) (q : PostS K CA W m h H D' (r.unl u)) : PostS K CA W m1 h1 H1 (unlE X D') r := by
  have so : ∀ {m2 : Mp} {h2 : CH} {H2 H3 : Hp} {σ : L2.St} {ρ : DE}, SO K CA m2 h2 H2 σ ρ → HR K CA m2 (unlH u h2) H3 → (∀ v d, Rp K CA m2 h2 H2 v d → Rp K CA m2 (unlH u h2) H3 v d) → SO K CA m2 (unlH u h2) H3 σ ρ := fun S2 S3 k => ⟨S3, S2.len, fun i d e => let ⟨v, e1, q⟩ := S2.sl i d e; ⟨v, e1, k v d q⟩⟩
  cases r with
  | nx ρ' h' => exact fun m2 σ2 H2 s2 S2 => unl_at s uo s2 S2.hr fun H3 s3 S3 k => q m2 σ2 H3 s3 (so S2 S3 k)
  | rt d h' => exact fun m2 v H2 s2 S2 r => unl_at s uo s2 S2 fun H3 s3 S3 k => q m2 v H3 s3 S3 (k v d r)
  | bk ρ' h' => exact fun m2 σ2 H2 s2 S2 => unl_at s uo s2 S2.hr fun H3 s3 S3 k => q m2 σ2 H3 s3 (so S2 S3 k)
  | ct ρ' h' => exact fun m2 σ2 H2 s2 S2 => unl_at s uo s2 S2.hr fun H3 s3 S3 k => q m2 σ2 H3 s3 (so S2 S3 k)
  | ex ρ' c fs h' => exact fun m2 cls dd σ2 H2 s2 S2 x => q m2 cls dd σ2 H2 (s.trans s2) S2 x
  | no => exact q
abbrev tForU (X : Cx) (wH : TI) (gH : TG) (tb : TS) : TS := fun D σ H => tFor wH gH tb (unlE X D) σ H
theorem ws_for {sl : List Nat} (hi : WI X K CA W a iter wH ti) (hg : WG X K CA a sl gH tg) (hb : WSs X K CA W body tb u)
    (hp : PI X a iter wH → PG X a gH → PSs X body tb → PS X st (tFor wH gH tb)) : WS X K CA W st (tForU X wH gH tb) (dFor ti tg u) :=
  ⟨ps_unl (hp hi.pe hg.pe hb.pe), fun m h H σ ρ D' S q => hi.sim m h H σ ρ _ S (PostI.bindS S q fun w h1 m1 J H1 s1 S1 wk uo q1 => by
    obtain ⟨Wl, w0, w1⟩ := sim_forL hg.sim hb.sim (S.move s1 S1) wk (post_unl s1 uo q1)
    refine ⟨Wl, w0, fun i n σ' H' hw => ?_⟩
    rcases w1 i n σ' H' hw with z | ⟨z, Nx, z1, z2⟩
    · exact .inl z
    · exact .inr ⟨z, Nx, z1, z2⟩)⟩
theorem PostI.bind {α β : Type} {RR : Mp → CH → Hp → β → α → Prop} {Q1 : β → Hp → Prop} {m : Mp} {h : CH} {H : Hp} {σ : L2.St} {H0 : Hp} {r : R α} {k : α → CH → R (List D × Unl)} {R' : It → Hp → Prop} (q : PostI K CA W H0 m h H σ R' (r.bind k))
    (f : ∀ a h1 m1 b H1, Stp m h H m1 h1 H1 → HR K CA m1 h1 H1 → RR m1 h1 H1 b a → PostI K CA W H0 m h H σ R' (k a h1) → Q1 b H1) : PostG K CA W RR m h H σ Q1 r := by
  cases r with
  | ok a h1 => exact fun m1 b H1 s S rr => f a h1 m1 b H1 s S rr q
  | ex c fs h1 => exact q
  | no => exact q
theorem postI_ite {m : Mp} {h : CH} {H : Hp} {σ : L2.St} {H0 : Hp} {R' : It → Hp → Prop} {c : Prop} [Decidable c] {r : R (List D × Unl)} (t : PostI K CA W H0 m h H σ R' (if c then r else .no)) : c ∧ PostI K CA W H0 m h H σ R' r := by
  by_cases q : c
  · rw [if_pos q] at t; exact ⟨q, t⟩
  · rw [if_neg q] at t; exact t.elim
theorem PostI.walk {m m1 : Mp} {h h1 : CH} {H H1 : Hp} {σ : L2.St} {H0 : Hp} {ds : List D} {J : It} {R' : It → Hp → Prop} (q : PostI K CA W H0 m h H σ R' (.ok (ds, none) h1)) (s : Stp m h H m1 h1 H1) (S : HR K CA m1 h1 H1) (wk : Wk K CA m1 h1 H1 J ds) : R' J H1 := q m1 J H1 s S wk trivial
def iSeq (K : PySem.W.Frag) (tl : TE) : TI := fun σ H R => tl σ H fun x H1 => ∃ a, x = .ref a ∧ (((∃ xs, SqL K H1 a xs) ∧ R (Itl K a) H1) ∨ ((∃ xs, SqT K H1 a xs) ∧ R (Itt K a) H1))
theorem pi_seq {tl : TE} (hl : PE X l tl) (hK : X.K = K := by rfl) : PI X tge l (iSeq K tl) := by
  subst hK
  refine ⟨fun pins s σ H R I q => thn (hl.run pins s σ H _ I q) fun v s1 hv => ?_⟩
  obtain ⟨x, H1, I1, r1, a, rfl, hq⟩ := hv
  cases r1
  have new : ∀ o, Inv X pins σ H1 { s1 with heap := s1.heap.push o } := fun o => I1.kept (t' := s1.toks) fun b o e => Heap.get?_push_of_some _ e
  have fp : ∀ b ∈ [s1.heap.objs.size], FpOk X pins H1 b := fun b hb => by
    rw [List.mem_singleton] at hb
    rw [hb]
    exact I1.fpOk (Nat.le_refl _) (I1.hok.fresh (Nat.le_refl _))
  rcases hq with ⟨⟨xs, hx⟩, q⟩ | ⟨⟨xs, hx⟩, q⟩
  · obtain ⟨its, _, pl, _⟩ := I1.list hx
    exact wpAny_pyIter_list pl.isList ⟨_, _, _, _, H1, rfl, new _, turn_list a _, ⟨_, Heap.get?_push_size _ rfl, rfl, rfl⟩, fp, q⟩
  · obtain ⟨its, _, pl, _⟩ := I1.tuple hx
    exact wpAny_pyIter_tuple (show s1.heap.IsTuple a its.toArray from pl) ⟨_, _, _, _, H1, rfl, new _, turn_tuple a _, ⟨_, Heap.get?_push_size _ rfl, rfl, rfl⟩, fp, q⟩
section
variable {m : Mp} {h : CH} {H : Hp} {ds : List D} {xs : List V}
theorem wk_list {a : Addr} (k : ∀ m' h' H', Sz m h H m' h' H' → SqL K H' a xs) (r : RpAll K CA m h H xs ds) : Wk K CA m h H (Itl K a) ds :=
  ⟨fun i m' h' H' d s S hd => by
    obtain ⟨v, hv, rv⟩ := r.getD hd
    have e' := k m' h' H' s
    refine ⟨⟨xs, v, e', hv⟩, fun x H2 y => ?_⟩
    obtain ⟨rfl, hy⟩ := y
    have ex := (hy xs e').symm.trans hv
    cases ex
    exact ⟨fun _ _ q => q, rv.mv s.toMv⟩, fun m' h' H' s S => ⟨xs, k m' h' H' s, by rw [r.length]; exact Nat.le_refl _⟩⟩
theorem wk_tup {a : Addr} (k : ∀ m' h' H', Sz m h H m' h' H' → SqT K H' a xs) (r : RpAll K CA m h H xs ds) : Wk K CA m h H (Itt K a) ds :=
  ⟨fun i m' h' H' d s S hd => by
    obtain ⟨v, hv, rv⟩ := r.getD hd
    have e' := k m' h' H' s
    refine ⟨⟨xs, v, e', hv⟩, fun x H2 y => ?_⟩
    obtain ⟨rfl, hy⟩ := y
    have ex := (hy xs e').symm.trans hv
    cases ex
    exact ⟨fun _ _ q => q, rv.mv s.toMv⟩, fun m' h' H' s S => ⟨xs, k m' h' H' s, by rw [r.length]; exact Nat.le_refl _⟩⟩
theorem keep_lst {a : Addr} (n : ¬ Live m h a) (e : H a = some (.lst xs)) : ∀ m' h' H', Sz m h H m' h' H' → SqL K H' a xs := fun m' h' H' s => by
  obtain ⟨_, o, e', l⟩ := s.kp a _ n e trivial
  exact .of (by rw [e', core_lst l.core])
theorem keep_tup {a : Addr} (n : ¬ Live m h a) (e : H a = some (.tup xs)) : ∀ m' h' H', Sz m h H m' h' H' → SqT K H' a xs := fun m' h' H' s => by
  obtain ⟨_, o, e', l⟩ := s.kp a _ n e trivial
  exact .of (by rw [e', core_tup l.core])
theorem all_ints : ∀ ns : List Int, RpAll K CA m h H (ns.map V.int) (ns.map D.int)
  | [] => .nil
  | n :: ns => .cons (.int n) (all_ints ns)
end
theorem wi_seq (h : WE X K CA W l ha ta) (hK : X.K = K := by rfl) : WI X K CA W tge l (iSeq K ha) (dSeqI ta) := by
  refine ⟨pi_seq h.pe hK, fun m hh H σ ρ R' S t => h.sim m hh H σ ρ _ S (PostI.bind t fun d h1 m1 v H1 s1 S1 r1 t1 => ?_)⟩
  cases r1 with
  | lst n e r => exact ⟨_, rfl, .inl ⟨⟨_, .of e⟩, t1.walk s1 S1 (wk_list (keep_lst n e) r)⟩⟩
  | tup n e r => exact ⟨_, rfl, .inr ⟨⟨_, .of e⟩, t1.walk s1 S1 (wk_tup (keep_tup n e) r)⟩⟩
  | ktup e r => exact ⟨_, rfl, .inr ⟨⟨_, sq_emp e⟩, t1.walk s1 S1 (wk_tup (fun _ _ _ _ => sq_emp e) r)⟩⟩
  | scr n e => exact ⟨_, rfl, .inl ⟨⟨_, .inl (.inr ⟨_, e⟩)⟩, t1.walk s1 S1 (wk_list (fun m' h' H' s => by
      obtain ⟨_, o, e', l⟩ := s.kp _ _ n e trivial
      exact .inl (.inr ⟨_, by rw [e', l.frz]⟩)) (all_ints _))⟩⟩
  | kscr e => exact ⟨_, rfl, .inl ⟨⟨_, sl_emp e⟩, t1.walk s1 S1 (wk_list (fun _ _ _ _ => sl_emp e) (all_ints _))⟩⟩
  | @ref k lt =>
    replace t1 : PostI K CA W X.H_0 m hh H σ R' (lockD (.ref k) h1) := t1
    unfold lockD at t1
    simp only at t1
    split at t1
    · rename_i ds eo
      obtain ⟨xs, eH, r, s2, S2⟩ := lockL_ok S1 eo
      refine ⟨m1 k, rfl, .inl ⟨⟨xs, .of eH⟩, t1 m1 _ H1 (s1.trans s2) S2 (wk_list (fun m' h' H' s => ?_) (r.move s2)) ?_⟩⟩
      · obtain ⟨_, q⟩ := s.lk k _ lt put_same id
        exact .of (q.trans eH)
      · intro m2 h2 H2 s3 S3
        obtain ⟨q1, q2, q3⟩ := unlockL_ok S1 eo s3 S3
        exact ⟨_, H2, q1, .inl rfl, s1.trans q2, q3⟩
    · rename_i ds eo
      have x := (S1.ob k _ eo).2
      cases x with
      | @lkl xs _ eH r =>
        refine ⟨m1 k, rfl, .inl ⟨⟨xs, .of eH⟩, t1.walk s1 S1 (wk_list (fun m' h' H' s => ?_) r)⟩⟩
        obtain ⟨_, q⟩ := s.lk k _ lt eo id
        exact .of (q.trans eH)
    · exact t1.elim
  | _ => exact t1.elim
theorem wk_range {m : Mp} {h : CH} {H : Hp} (lo : Int) (n : Nat) : Wk K CA m h H (Itr lo n) (rgD lo n) :=
  ⟨fun i m' h' H' d s S hd => by
    unfold rgD at hd
    rw [List.getElem?_map] at hd
    cases hr : (List.range n)[i]? with
    | none => rw [hr] at hd; cases hd
    | some j =>
      rw [hr] at hd
      obtain ⟨hlt, ej⟩ := List.getElem?_eq_some_iff.mp hr
      rw [List.getElem_range] at ej
      subst ej
      cases hd
      refine ⟨by show i < n; simpa using hlt, fun x H2 y => ?_⟩
      obtain ⟨rfl, rfl⟩ := y
      exact ⟨fun _ _ q => q, .int _⟩, fun m' h' H' s S => by
    show n ≤ (rgD lo n).length
    unfold rgD
    rw [List.length_map, List.length_range]
    exact Nat.le_refl _⟩
theorem wi_rng1 (h : WA X K CA W es hs ts) (hp : PA X es hs → PI X tge l (iRng1 hs)) : WI X K CA W tge l (iRng1 hs) (dRng1 ts) := by
  refine ⟨hp h.pe, fun m hh H σ ρ R' S t => h.sim m hh H σ ρ _ S (PostI.bind t fun ds h1 m1 vs H1 s1 S1 r1 t1 => ?_)⟩
  split at t1
  · rename_i n
    obtain ⟨⟨c1, c2⟩, t1⟩ := postI_ite t1
    cases r1 with
    | cons r1 r2 =>
      cases r1
      cases r2
      exact ⟨n, rfl, c1, c2, t1.walk s1 S1 (wk_range 0 n.toNat)⟩
  · exact t1.elim
theorem wi_rng2 (h : WA X K CA W es hs ts) (hp : PA X es hs → PI X tge l (iRng2 hs)) : WI X K CA W tge l (iRng2 hs) (dRng2 ts) := by
  refine ⟨hp h.pe, fun m hh H σ ρ R' S t => h.sim m hh H σ ρ _ S (PostI.bind t fun ds h1 m1 vs H1 s1 S1 r1 t1 => ?_)⟩
  split at t1
  · rename_i i j
    obtain ⟨c, t1⟩ := postI_ite t1
    cases r1 with
    | cons r1 r2 =>
      cases r1
      cases r2 with
      | cons r2 r3 =>
        cases r2
        cases r3
        exact ⟨i, j, rfl, c, t1.walk s1 S1 (wk_range i (j - i).toNat)⟩
  · exact t1.elim
theorem enD_get : ∀ (xs : List D) (k i : Nat) (d : D), (enD k xs)[i]? = some d → ∃ x, xs[i]? = some x ∧ d = .tup [.int ((k + i : Nat) : Int), x]
  | [], k, i, d, h => by simp [enD] at h
  | x :: xs, k, 0, d, h => by simp [enD] at h; exact ⟨x, rfl, by rw [← h]; rfl⟩
  | x :: xs, k, i + 1, d, h => by
    obtain ⟨y, h1, h2⟩ := enD_get xs (k + 1) i d (by simpa [enD] using h)
    exact ⟨y, by simpa using h1, by rw [h2]; congr 4; omega⟩
theorem enD_length : ∀ (xs : List D) (k : Nat), (enD k xs).length = xs.length
  | [], _ => rfl
  | _ :: xs, k => by simp [enD, enD_length xs (k + 1)]
theorem wk_enum {m : Mp} {h : CH} {H : Hp} {a : Addr} {xs : List V} {ds : List D} (n : ¬ Live m h a) (e : H a = some (.lst xs)) (r : RpAll K CA m h H xs ds) : Wk K CA m h H (Ite K a) (enD 0 ds) :=
  ⟨fun i m' h' H' d s S hd => by
    obtain ⟨y, hy, rfl⟩ := enD_get ds 0 i d hd
    obtain ⟨v, hv, rv⟩ := r.getD hy
    have e' := keep_lst (K := K) n e m' h' H' s
    refine ⟨⟨xs, v, e', hv⟩, fun x H2 yl => ?_⟩
    obtain ⟨T, z, rfl, nT, rfl, hz⟩ := yl
    have ex := (hz xs e').symm.trans hv
    cases ex
    have ri : ((0 + i : Nat) : Int) = ((i : Nat) : Int) := by omega
    rw [ri]
    exact ⟨upd_new nT, .tup (S.fresh nT) upd_same (.cons (.int _) (.cons ((rv.mv s.toMv).move (stp_laid S nT)) .nil))⟩, fun m' h' H' s S => ⟨xs, keep_lst n e m' h' H' s, by rw [enD_length, r.length]; exact Nat.le_refl _⟩⟩
theorem wi_enum (h : WA X K CA W es hs ts) (hp : PA X es hs → PI X tge l (iEnum K hs)) : WI X K CA W tge l (iEnum K hs) (dEnum ts) := by
  refine ⟨hp h.pe, fun m hh H σ ρ R' S t => h.sim m hh H σ ρ _ S (PostI.bind t fun ds h1 m1 vs H1 s1 S1 r1 t1 => ?_)⟩
  split at t1
  · cases r1 with
    | cons r1 r2 =>
      cases r1 with
      | lst n e r =>
        cases r2
        exact ⟨_, _, rfl, .of e, t1.walk s1 S1 (wk_enum n e r)⟩
  · exact t1.elim
end
def tLk (X : Cx) (td : TE) : TE := fun σ H Q => td σ H fun x H1 => ∃ d, x = .ref d ∧ ((∃ u, H1 d = some u ∧ Mut (some u) ∧ ∀ od, (∀ o' u', X.H_0 d ≠ some (.frz o' u')) → Q x (upd H1 d (.frz od u))) ∨ Q x H1)
theorem pe_lockA {X : Cx} {e : Expr} {td : TE} (x : PE X e td) : PE X e (tLk X td) := by
  refine ⟨fun pins s σ H Q I hw => thn (x.run pins s σ H _ I hw) fun v s1 q => ?_⟩
  obtain ⟨y, H1, I1, r, d, rfl, q⟩ := q
  rcases q with ⟨u, hd, mu, q⟩ | q
  · obtain ⟨od, I2⟩ := I1.lock hd mu
    exact ⟨_, _, I2, r, q od (I1.nofrz hd mu)⟩
  · exact ⟨_, H1, I1, r, q⟩
def kD : Key → D
  | .inl i => .int i
  | .inr x => .str x
def keysD (kvs : List (Key × D)) : List D := kvs.map fun kv => kD kv.1
def dDictI (its : List (Key × D) → List D) (t : TD) : TDw := fun ρ h => (t ρ h).bind fun d h => match d with
  | .dct kvs => .ok (its kvs, none) h
  | .ref k => match h.ob k with
    | some (.dct kvs) => .ok (its kvs, some (k, .dct kvs)) (h.put k (.lck kvs))
    | some (.lck kvs) => .ok (its kvs, none) h
    | _ => .no
  | _ => .no
def DIt (K : PySem.W.Frag) (CA : CAs) (mk : Addr → Obj → List (Key × V) → It) (its : List (Key × D) → List D) : Prop :=
  ∀ (m : Mp) (h : CH) (H : Hp) (a : Addr) (od : Obj) (hk : List (Key × V)) (kvs : List (Key × D)), (∀ m' h' H', Sz m h H m' h' H' → H' a = some (.frz od (.dK hk))) → hk.map (·.1) = kvs.map (·.1) → RpAll K CA m h H (hk.map (·.2)) (kvs.map (·.2)) → Wk K CA m h H (mk a od hk) (its kvs)
section
variable {X : Cx} {K : PySem.W.Frag} {CA : CAs} {W : WX} {e tge iter : Expr} {ha : TE} {ta : TD} {m : Mp} {h : CH} {H : Hp}
theorem rp_kD (k : Key) : Rp K CA m h H (kV k) (kD k) := by
  cases k with
  | inl i => exact .int i
  | inr x => exact .str x
theorem kv_at {hk : List (Key × V)} {kvs : List (Key × D)} {i : Nat} {k : Key} {d : D} (en : hk.map (·.1) = kvs.map (·.1)) (r : RpAll K CA m h H (hk.map (·.2)) (kvs.map (·.2))) (e : kvs[i]? = some (k, d)) : ∃ v, hk[i]? = some (k, v) ∧ Rp K CA m h H v d := by
  have e2 : (kvs.map (·.2))[i]? = some d := by rw [List.getElem?_map, e]; rfl
  obtain ⟨v, e3, rv⟩ := r.getD e2
  have e1 : (hk.map (·.1))[i]? = some k := by rw [en, List.getElem?_map, e]; rfl
  rw [List.getElem?_map] at e1 e3
  cases q : hk[i]? with
  | none => rw [q] at e1; cases e1
  | some p =>
    rw [q] at e1 e3
    cases e1; cases e3
    exact ⟨_, rfl, rv⟩
theorem len_of {hk : List (Key × V)} {kvs : List (Key × D)} (en : hk.map (·.1) = kvs.map (·.1)) : hk.length = kvs.length := by simpa using congrArg List.length en
theorem dit_keys : DIt K CA Itk keysD := fun m h H a od hk kvs keep en r =>
  ⟨fun i m' h' H' d s S hd => by
    unfold keysD at hd
    rw [List.getElem?_map] at hd
    cases q : kvs[i]? with
    | none => rw [q] at hd; cases hd
    | some p =>
      rw [q] at hd
      cases hd
      obtain ⟨v, e, rv⟩ := kv_at en r q
      have hi := (List.getElem?_eq_some_iff.mp e).1
      refine ⟨⟨keep m' h' H' s, hi⟩, fun x H2 y => ?_⟩
      obtain ⟨rfl, k, v', e', rfl⟩ := y
      rw [e] at e'; cases e'
      exact ⟨fun _ _ q => q, rp_kD _⟩, fun m' h' H' s S => ⟨keep m' h' H' s, by rw [len_of en]; unfold keysD; rw [List.length_map]; exact Nat.le_refl _⟩⟩
theorem frozen_lock {a : Addr} {hk : List (Key × V)} (S : HR K CA m h H) (nl : ¬ Live m h a) (e : H a = some (.dK hk)) (od : Obj) : Stp m h H m h (upd H a (.frz od (.dK hk))) ∧ HR K CA m h (upd H a (.frz od (.dK hk))) := by
  have s2 : Stp m h H m h (upd H a (.frz od (.dK hk))) := by
    refine .mk' ⟨Nat.le_refl _, fun _ _ => rfl, fun b w l q _ => ⟨l, ?_⟩⟩ (fun k kv _ q _ => ⟨q, upd_ne fun z => nl (.inl ⟨k, _, q, z⟩)⟩) rfl fun b l => upd_ne fun z => nl (.inr (by rw [← z]; exact l))
    by_cases hb : b = a
    · subst hb; rw [e] at q; cases q; exact ⟨_, upd_same, .inr (.inl ⟨od, hk, rfl, rfl⟩)⟩
    · exact ⟨w, by rw [upd_ne hb]; exact q, .inl rfl⟩
  refine ⟨s2, fun k w q => ⟨(S.ob k w q).1, (S.ob k w q).2.move s2 (upd_ne fun z => nl (.inl ⟨k, _, q, z⟩))⟩, S.inj, S.zn, fun b l => ?_, tabs_upd S.tb e trivial⟩
  obtain ⟨w, q, nt⟩ := S.zh b l
  exact ⟨w, by rw [upd_ne (fun z => nl (.inr (by rw [← z]; exact l)))]; exact q, nt⟩
theorem wi_dict {mk : Addr → Obj → List (Key × V) → It} {its : List (Key × D) → List D} {G : V → Hp → (It → Hp → Prop) → Prop} (hd : DIt K CA mk its) (x : WE X K CA W e ha ta) (pi : PE X e (tLk X ha) → PI X tge iter (fun σ H R => tLk X ha σ H fun x H1 => G x H1 R))
    (hw : ∀ x H1 R', (∃ d o kvs, x = .ref d ∧ H1 d = some (.frz o (.dK kvs)) ∧ R' (mk d o kvs) H1) → G x H1 R') : WI X K CA W tge iter (fun σ H R => tLk X ha σ H fun x H1 => G x H1 R) (dDictI its ta) := by
  refine ⟨pi (pe_lockA x.pe), fun m hh H σ ρ R' S t => x.sim m hh H σ ρ _ S (PostI.bind t fun d h1 m1 v H1 s1 S1 r1 t1 => ?_)⟩
  cases r1 with
  | @dct a o hk kvs nl e c en r =>
    rcases core_dK c with rfl | ⟨ob, rfl⟩
    · refine ⟨a, rfl, .inl ⟨_, e, trivial, fun od nf => hw _ _ _ ⟨a, od, hk, rfl, upd_same, ?_⟩⟩⟩
      obtain ⟨s2, S2⟩ := frozen_lock S1 nl e od
      refine t1.walk (s1.trans s2) S2 (hd m1 h1 _ a od hk kvs (fun m' h' H' s => ?_) en (r.move s2))
      obtain ⟨_, o', e', l⟩ := s.kp a _ nl upd_same trivial
      rw [e', l.frz]
    · refine ⟨a, rfl, .inr (hw _ _ _ ⟨a, ob, hk, rfl, e, t1.walk s1 S1 (hd m1 h1 _ a ob hk kvs (fun m' h' H' s => ?_) en r)⟩)⟩
      obtain ⟨_, o', e', l⟩ := s.kp a _ nl e trivial
      rw [e', l.frz]
  | @ref k lt =>
    simp only at t1
    split at t1
    · rename_i kvs eo
      obtain ⟨hk, eH, lk⟩ := lock_ok S1 eo
      refine ⟨m1 k, rfl, .inl ⟨_, eH, trivial, fun od nf => hw _ _ _ ⟨m1 k, od, hk, rfl, upd_same, ?_⟩⟩⟩
      obtain ⟨s2, S2⟩ := lk od
      refine t1 m1 _ _ (s1.trans s2) S2 (hd m1 _ _ (m1 k) od hk kvs (fun m' h' H' s => ?_) ?_ ?_) ?_
      · obtain ⟨_, q⟩ := s.lk k _ lt put_same id
        rw [q, upd_same]
      · have x := (S1.ob k _ eo).2
        cases x with
        | dct q en r => rw [eH] at q; cases q; exact en
      · have x := (S1.ob k _ eo).2
        cases x with
        | dct q en r => rw [eH] at q; cases q; exact r.move s2
      · intro m2 h2 H2 s3 S3
        obtain ⟨q1, q2, q3⟩ := unlock_ok S1 eo s3 S3
        have mk : m2 k = m1 k := s3.mp k lt
        exact ⟨_, _, (s3.lk k _ lt put_same id).1, .inr ⟨od, hk, q1, by rw [mk]; exact nf, rfl⟩, s1.trans q2, q3⟩
    · rename_i kvs eo
      have x := (S1.ob k _ eo).2
      cases x with
      | @lck ob hk _ q en r =>
        refine ⟨m1 k, rfl, .inr (hw _ _ _ ⟨m1 k, ob, hk, rfl, q, t1.walk s1 S1 (hd m1 h1 _ (m1 k) ob hk kvs (fun m' h' H' s => ?_) en r)⟩)⟩
        obtain ⟨_, q2⟩ := s.lk k _ lt eo id
        rw [q2, q]
    · exact t1.elim
  | _ => exact t1.elim
theorem wi_keys (x : WE X K CA W e ha ta) : WI X K CA W tge e (iKeys (tLk X ha)) (dDictI keysD ta) := wi_dict (G := fun x H1 R => ∃ d o, x = .ref d ∧ ((∃ kvs, H1 d = some (.frz o (.dK kvs)) ∧ R (Itk d o kvs) H1) ∨ ∃ kvs, H1 d = some (.frz o (.dT kvs)) ∧ R (Itkt d o kvs) H1)) dit_keys x pi_keys fun _ _ _ ⟨d, o, kvs, e, e1, q⟩ => ⟨d, o, e, .inl ⟨kvs, e1, q⟩⟩
def wipeD (ρ : DE) : List Nat → DE
  | [] => ρ
  | v :: vs => (wipeD ρ vs).set v none
def dYes : TB := fun _ h => .ok true h
def dLcL (tg : TGD) (tt : TB) (te : TD) (ρ0 : DE) : List D → CH → R (List D)
  | [], h => .ok [] h
  | d :: r, h => (tg d ρ0 h).calm fun ρ2 h => (tt ρ2 h).calm fun b h => if b = true then (te ρ2 h).calm fun y h => (dLcL tg tt te ρ0 r h).bind fun ys h => .ok (y :: ys) h
    else dLcL tg tt te ρ0 r h
def dLc (nm : Bool) (ti : TDw) (tg : TGD) (tt : TB) (te : TD) (vs : List Nat) : TD := fun ρ h => (ti ρ h).bind fun w h => if w.1.length ≤ sizeLine then ((dLcL tg tt te (wipeD ρ vs) w.1 h).bind fun ys h => mkL nm ys h).unl w.2 else .no
section
variable {m m1 m2 : Mp} {h1 h2 : CH} {H1 H2 : Hp} {σ : L2.St} {ρ : DE} {p : Addr} {Q' : VK}
theorem wipe_at {σ : L2.St} {vs : List Nat} {j : Nat} (h : j ∉ vs) : (wipe σ vs)[j]? = σ[j]? := by
  induction vs with
  | nil => rfl
  | cons v vs ih =>
    simp only [List.mem_cons, not_or] at h
    unfold wipe
    rw [List.getElem?_set_ne (Ne.symm h.1)]
    exact ih h.2
theorem wipeD_len (ρ : DE) (vs : List Nat) : (wipeD ρ vs).length = ρ.length := by
  induction vs with
  | nil => rfl
  | cons v vs ih => unfold wipeD; rw [List.length_set, ih]
theorem wipeD_some {ρ : DE} {vs : List Nat} {j : Nat} {s : D} (h : (wipeD ρ vs)[j]? = some (some s)) : j ∉ vs ∧ ρ[j]? = some (some s) := by
  induction vs with
  | nil => exact ⟨by simp, h⟩
  | cons v vs ih =>
    unfold wipeD at h
    rcases set_some h with ⟨_, q⟩ | ⟨n, q⟩
    · cases q
    · obtain ⟨h1, h2⟩ := ih q
      exact ⟨by simp [n, h1], h2⟩
theorem SO.wiped (S : SO K CA m h H σ ρ) (vs : List Nat) : SO K CA m h H (wipe σ vs) (wipeD ρ vs) :=
  ⟨S.hr, by rw [wipe_length, wipeD_len]; exact S.len, fun j s e => by
    obtain ⟨h1, h2⟩ := wipeD_some e
    obtain ⟨v, e1, r⟩ := S.sl j s h2
    exact ⟨v, by rw [wipe_at h1]; exact e1, r⟩⟩
abbrev W0 : WX := fun _ _ _ _ => False
theorem wipe_none {σ : L2.St} {vs : List Nat} {j : Nat} (h : j ∈ vs) : (wipe σ vs)[j]? = none ∨ (wipe σ vs)[j]? = some none := by
  induction vs with
  | nil => cases h
  | cons w ws ih =>
    unfold wipe
    by_cases q : w = j
    · subst q
      by_cases l : w < (wipe σ ws).length
      · exact .inr (List.getElem?_set_self l)
      · exact .inl (by rw [List.getElem?_eq_none_iff, List.length_set]; omega)
    · rw [List.getElem?_set_ne q]
      rcases List.mem_cons.mp h with z | z
      · exact absurd z.symm q
      · exact ih z
theorem wipe_eq {σ σ' : L2.St} {vs : List Nat} (hl : σ'.length = σ.length) (h : ∀ j, j ∉ vs → σ'[j]? = σ[j]?) : wipe σ' vs = wipe σ vs := by
  apply List.ext_getElem?
  intro j
  by_cases hj : j ∈ vs
  · have l1 := wipe_length σ' vs
    have l2 := wipe_length σ vs
    by_cases lt : j < σ.length
    · have k1 := wipe_none (σ := σ') hj
      have k2 := wipe_none (σ := σ) hj
      have n1 : (wipe σ' vs)[j]? ≠ none := fun z => by have := List.getElem?_eq_none_iff.mp z; omega
      have n2 : (wipe σ vs)[j]? ≠ none := fun z => by have := List.getElem?_eq_none_iff.mp z; omega
      rw [k1.resolve_left n1, k2.resolve_left n2]
    · rw [List.getElem?_eq_none_iff.mpr (by omega), List.getElem?_eq_none_iff.mpr (by omega)]
  · rw [wipe_at hj, wipe_at hj]
    exact h j hj
theorem named_kp {zs : List Addr} (S2 : HR K CA m2 h2 H2) (z2 : m2.z = p :: zs) {o : MO} : ∀ a w, ¬ Live m2 h2 a → H2 a = some w → NoTb w → ¬ Live (mpNew ⟨m2.f, zs⟩ h2 p) (h2.new o) a ∧ ∃ o', H2 a = some o' ∧ Lk w o' := fun a w l e _ => ⟨fun z => l (by
    rcases z with ⟨k, u, q, rfl⟩ | z
    · unfold CH.new at q
      by_cases c : k = h2.nx
      · subst c
        have e2 : (mpNew ⟨m2.f, zs⟩ h2 p) h2.nx = p := mpNew_nx
        exact .inr (by rw [z2, e2]; exact List.mem_cons_self ..)
      · simp only [if_neg c] at q
        have e2 : (mpNew ⟨m2.f, zs⟩ h2 p) k = m2 k := mpNew_lt (m := ⟨m2.f, zs⟩) (S2.ob k u q).1
        exact .inl ⟨k, u, q, e2.symm⟩
    · exact .inr (by rw [z2]; exact List.mem_cons_of_mem _ z)), w, e, .inl rfl⟩
theorem RpAll.named {zs : List Addr} (S2 : HR K CA m2 h2 H2) (z2 : m2.z = p :: zs) {o : MO} {vs : List V} {ds : List D} (r : RpAll K CA m2 h2 H2 vs ds) : RpAll K CA (mpNew ⟨m2.f, zs⟩ h2 p) (h2.new o) H2 vs ds :=
  RpAll.mv0 (m := m2) (h := h2) (H := H2) (m' := mpNew ⟨m2.f, zs⟩ h2 p) (h' := h2.new o) (H' := H2) (Nat.le_succ _) (fun k l => mpNew_lt (m := ⟨m2.f, zs⟩) l) (named_kp S2 z2) r
theorem done_named (S : HR K CA m1 h1 H1) (n : H1 p = none) {u : HO} (s : Sc p (m1.add p) h1 (upd H1 p u) m2 h2 H2) (S2 : HR K CA m2 h2 H2) {o : MO} (x : MOk K CA (mpNew ⟨m2.f, m1.z⟩ h2 p) (h2.new o) H2 p o) :
    Stp m1 h1 H1 (mpNew ⟨m2.f, m1.z⟩ h2 p) (h2.new o) H2 ∧ HR K CA (mpNew ⟨m2.f, m1.z⟩ h2 p) (h2.new o) H2 := by
  have z2 : m2.z = p :: m1.z := s.z
  have sd := stp_done S n s
  have key : ∀ j u, (h2.new o).ob j = some u → (j = h2.nx ∧ u = o) ∨ (j < h2.nx ∧ h2.ob j = some u) := fun j u e => by
    unfold CH.new at e
    by_cases q : j = h2.nx
    · simp only [if_pos q] at e; cases e; exact .inl ⟨q, rfl⟩
    · simp only [if_neg q] at e
      exact .inr ⟨(S2.ob j u e).1, e⟩
  have pz : p ∈ m2.z := by rw [z2]; exact List.mem_cons_self ..
  have off : ∀ j u, h2.ob j = some u → m2 j ≠ p := fun j u e z => S2.zn j u e (by rw [z]; exact pz)
  have at0 : (mpNew ⟨m2.f, m1.z⟩ h2 p) h2.nx = p := mpNew_nx
  have at1 : ∀ k, k < h2.nx → (mpNew ⟨m2.f, m1.z⟩ h2 p) k = m2 k := fun k l => mpNew_lt (m := ⟨m2.f, m1.z⟩) l
  refine ⟨.mk' ⟨Nat.le_trans sd.nx (Nat.le_succ _), fun k l => (at1 k (Nat.lt_of_lt_of_le l sd.nx)).trans (sd.mp k l), fun a w l e nt => ?_⟩ (fun k kvs l e ld => ?_) rfl (fun a l => sd.zk a l), ⟨fun j w e => ?_, fun i j u w e1 e2 e3 => ?_, fun j w e => ?_, fun a l => ?_, S2.tb⟩⟩
  · have ne : a ≠ p := ne_of_none e n
    obtain ⟨l2, o', e', lk⟩ := s.kp a w (fun z => by
      rcases z with ⟨k, u, q, rfl⟩ | z
      · exact l (.inl ⟨k, u, q, rfl⟩)
      · rcases List.mem_cons.mp z with z | z
        · exact ne z
        · exact l (.inr z)) (by rw [upd_ne ne]; exact e) nt
    exact ⟨(named_kp S2 z2 a o' l2 e' (lk_nt lk nt)).1, o', e', lk⟩
  · obtain ⟨a1, a2⟩ := sd.lk k kvs l e ld
    refine ⟨?_, a2⟩
    unfold CH.new
    simp only [if_neg (Nat.ne_of_lt (Nat.lt_of_lt_of_le l sd.nx))]
    exact a1
  · rcases key j w e with ⟨rfl, rfl⟩ | ⟨l, q⟩
    · exact ⟨Nat.lt_succ_self _, by rw [at0]; exact x⟩
    · refine ⟨Nat.lt_succ_of_lt l, ?_⟩
      rw [at1 j l]
      exact (S2.ob j w q).2.mv ⟨Nat.le_succ _, at1, named_kp S2 z2⟩ rfl
  · rcases key i u e1 with ⟨rfl, rfl⟩ | ⟨l1, q1⟩
    · rcases key j w e2 with ⟨rfl, rfl⟩ | ⟨l2, q2⟩
      · rfl
      · rw [at0, at1 j l2] at e3
        exact absurd e3.symm (off j w q2)
    · rcases key j w e2 with ⟨rfl, rfl⟩ | ⟨l2, q2⟩
      · rw [at0, at1 i l1] at e3
        exact absurd e3 (off i u q1)
      · rw [at1 i l1, at1 j l2] at e3
        exact S2.inj i j u w q1 q2 e3
  · rcases key j w e with ⟨rfl, rfl⟩ | ⟨l, q⟩
    · rw [at0]; exact fun z => S.fresh n (.inr z)
    · rw [at1 j l]; exact fun z => S2.zn j w q (by rw [z2]; exact List.mem_cons_of_mem _ z)
  · exact S2.zh a (by rw [z2]; exact List.mem_cons_of_mem _ l)
theorem done_data (S : HR K CA m1 h1 H1) (n : H1 p = none) {u : HO} (s : Sc p (m1.add p) h1 (upd H1 p u) m2 h2 H2) (S2 : HR K CA m2 h2 H2) : ¬ Live ⟨m2.f, m1.z⟩ h2 p := fun z => by
  have z2 : m2.z = p :: m1.z := s.z
  rcases z with ⟨k, o, e, q⟩ | z
  · exact S2.zn k o e (by rw [z2]; have q' : m2 k = p := q; rw [q']; exact List.mem_cons_self ..)
  · exact S.fresh n (.inr z)
theorem doneL {nm : Bool} {acc : List V} {ds : List D} {Q1 : VK} {mb : Mp} {hb : CH} {Hb : Hp} (sb : Stp mb hb Hb m1 h1 H1) (S : HR K CA m1 h1 H1) (n : H1 p = none) {u : HO} (s : Sc p (m1.add p) h1 (upd H1 p u) m2 h2 H2) (S2 : HR K CA m2 h2 H2) (e : H2 p = some (.lst acc)) (r : RpAll K CA m2 h2 H2 acc ds) {un : Unl}
    (uo : UnlOk K CA X.H_0 mb hb Hb m1 h1 H1 un) (t : PostE K CA W mb hb Hb σ Q1 ((mkL nm ds h2).unl un)) : UnlP X (Q1 (.ref p)) H2 := by
  have z2 : m2.z = p :: m1.z := s.z
  cases nm with
  | true =>
    obtain ⟨s3, S3⟩ := done_named (o := .lst ds) S n s S2 (.lst e (r.named S2 z2))
    refine unl_at sb uo s3 S3 fun H3 s4 S4 k => t _ _ H3 s4 S4 (k _ _ ?_)
    have := Rp.ref (K := K) (CA := CA) (m := mpNew ⟨m2.f, m1.z⟩ h2 p) (h := h2.new (.lst ds)) (H := H2) (k := h2.nx) (Nat.lt_succ_self _)
    rw [show (mpNew ⟨m2.f, m1.z⟩ h2 p) h2.nx = p from mpNew_nx] at this
    exact this
  | false => exact unl_at sb uo (stp_done S n s) (S2.done z2) fun H3 s4 S4 k => t _ _ H3 s4 S4 (k _ _ (.lst (done_data S n s S2) e (r.done z2)))
theorem doneD {nm : Bool} {acc : List (Key × V)} {ds : List (Key × D)} {Q1 : VK} {mb : Mp} {hb : CH} {Hb : Hp} (sb : Stp mb hb Hb m1 h1 H1) (S : HR K CA m1 h1 H1) (n : H1 p = none) {u : HO} (s : Sc p (m1.add p) h1 (upd H1 p u) m2 h2 H2) (S2 : HR K CA m2 h2 H2) (e : H2 p = some (.dK acc)) (en : acc.map (·.1) = ds.map (·.1)) (r : RpAll K CA m2 h2 H2 (acc.map (·.2)) (ds.map (·.2))) {un : Unl}
    (uo : UnlOk K CA X.H_0 mb hb Hb m1 h1 H1 un) (t : PostE K CA W mb hb Hb σ Q1 ((mkD nm ds h2).unl un)) : UnlP X (Q1 (.ref p)) H2 := by
  have z2 : m2.z = p :: m1.z := s.z
  cases nm with
  | true =>
    obtain ⟨s3, S3⟩ := done_named (o := .dct ds) S n s S2 (.dct e en (r.named S2 z2))
    refine unl_at sb uo s3 S3 fun H3 s4 S4 k => t _ _ H3 s4 S4 (k _ _ ?_)
    have := Rp.ref (K := K) (CA := CA) (m := mpNew ⟨m2.f, m1.z⟩ h2 p) (h := h2.new (.dct ds)) (H := H2) (k := h2.nx) (Nat.lt_succ_self _)
    rw [show (mpNew ⟨m2.f, m1.z⟩ h2 p) h2.nx = p from mpNew_nx] at this
    exact this
  | false => exact unl_at sb uo (stp_done S n s) (S2.done z2) fun H3 s4 S4 k => t _ _ H3 s4 S4 (k _ _ (.dct (done_data S n s S2) e rfl en (r.done z2)))
end
theorem PostI.bindE {α β : Type} {RR : Mp → CH → Hp → β → α → Prop} {m : Mp} {h : CH} {H : Hp} {σ : L2.St} {H0 : Hp} {r : R (List D × Unl)} {k : List D × Unl → CH → R α} {Q2 : β → Hp → Prop} {R' : It → Hp → Prop} (q : PostG K CA W RR m h H σ Q2 (r.bind k))
    (f : ∀ w h1 m1 J H1, Stp m h H m1 h1 H1 → HR K CA m1 h1 H1 → Wk K CA m1 h1 H1 J w.1 → UnlOk K CA H0 m h H m1 h1 H1 w.2 → PostG K CA W RR m h H σ Q2 (k w h1) → R' J H1) : PostI K CA W H0 m h H σ R' r := by
  cases r with
  | ok w h1 => exact fun m1 J H1 s S1 wk uo => f w h1 m1 J H1 s S1 wk uo q
  | ex c fs h1 => exact q
  | no => exact q
abbrev tLcU (X : Cx) (wH : TI) (gH : TG) (hT : TT) (he : TE) (vs : List Nat) : TE := fun σ H Q => tLc wH gH hT he vs σ H fun v => UnlP X (Q v)
theorem sim_lc {nm : Bool} {gH : TG} {tg : TGD} {hT : TT} {tt : TB} {te : TD} {he : TE} {wH : TI} {ti : TDw} {vs sl : List Nat} (hi : SimI K CA W X.H_0 wH ti) (hg : SimG K CA sl gH tg) (ht : SimT K CA W0 hT tt) (hel : SimE K CA W0 he te) (ho : ∀ j, j ∈ sl → j ∈ vs) : SimE K CA W (tLcU X wH gH hT he vs) (dLc nm ti tg tt te vs) := by
  intro m h H σ ρ Q' S t
  refine hi m h H σ ρ _ S (PostI.bindE t fun w h1 m1 J H1 s1 S1 wk uo t1 => ?_)
  obtain ⟨hsz, t1⟩ := post_ite t1
  intro D0 n
  have S2 := S1.add (u := .lst []) n
  have SO2 : SO K CA (m1.add D0) h1 (upd H1 D0 (.lst [])) σ ρ := ⟨S2, S.len, fun i d e => let ⟨v, e1, q⟩ := (S.move s1 S1).sl i d e; ⟨v, e1, q.add n⟩⟩
  refine ⟨fun i k H' => k + i = w.1.length ∧ ∃ acc dacc m' h', Sc D0 (m1.add D0) h1 (upd H1 D0 (.lst [])) m' h' H' ∧ SO K CA m' h' H' σ ρ ∧ H' D0 = some (.lst acc) ∧ dacc.length ≤ i ∧ RpAll K CA m' h' H' acc dacc ∧ PostE K CA W m h H σ Q' (((dLcL tg tt te (wipeD ρ vs) (w.1.drop i) h').bind fun ys h => mkL nm (dacc ++ ys) h).unl w.2),
    ⟨w.1.length, rfl, [], [], m1.add D0, h1, Stp.sc .refl, SO2, upd_same, Nat.le_refl _, .nil, t1⟩, ?_⟩
  rintro i k H' ⟨hk, acc, dacc, m', h', st', S', eD, hl, ra, q'⟩
  have sz0 := sz_add (u := .lst []) S1 n
  cases hd : w.1[i]? with
  | none =>
    have hlen : w.1.length ≤ i := List.getElem?_eq_none_iff.mp hd
    obtain rfl : i = w.1.length := by omega
    rw [List.drop_length] at q'
    refine .inl ⟨wk.stop m' h' H' (sz0.trans st'.toSz) S'.hr, doneL (W := W) (σ := σ) (nm := nm) s1 S1 n st' S'.hr eD ra uo ?_⟩
    have q2 : PostE K CA W m h H σ Q' ((mkL nm (dacc ++ []) h').unl w.2) := q'
    rw [List.append_nil] at q2
    exact q2
  | some d =>
    obtain ⟨hlt, ed⟩ := List.getElem?_eq_some_iff.mp hd
    rw [List.drop_eq_getElem_cons hlt, ed] at q'
    obtain ⟨go, yl⟩ := wk.go i m' h' H' d (sz0.trans st'.toSz) S'.hr hd
    refine .inr ⟨go, fun H3 => ∃ acc dacc m' h', Sc D0 (m1.add D0) h1 (upd H1 D0 (.lst [])) m' h' H3 ∧ SO K CA m' h' H3 σ ρ ∧ H3 D0 = some (.lst acc) ∧ dacc.length ≤ i + 1 ∧ RpAll K CA m' h' H3 acc dacc ∧ PostE K CA W m h H σ Q' (((dLcL tg tt te (wipeD ρ vs) (w.1.drop (i + 1)) h').bind fun ys h => mkL nm (dacc ++ ys) h).unl w.2),
      fun H3 n3 => ⟨k - 1, by omega, by omega, n3⟩, fun x H2 y2 => ?_⟩
    obtain ⟨gr, r2⟩ := yl x H2 y2
    have a2 := stp_grow S'.hr gr
    have S3 := S'.move a2 (S'.hr.grow gr)
    have st3 := st'.trans (a2.sc (p := D0))
    have eD3 := gr _ _ eD
    have ra3 := ra.move a2
    have pz : D0 ∈ m'.z := by rw [st'.z]; exact List.mem_cons_self ..
    have wip : wipe (wipe σ vs) vs = wipe σ vs := wipe_eq (wipe_length _ _) fun j hj => wipe_at hj
    refine hg m' h' H2 (wipe σ vs) (wipeD ρ vs) x d _ (S3.wiped vs) r2 ?_
    unfold dLcL at q'
    cases eg : tg d (wipeD ρ vs) h' with
    | ex c fs h4 => rw [eg] at q'; exact q'.elim
    | no => rw [eg] at q'; exact q'.elim
    | ok ρ2 h4 =>
      rw [eg] at q'
      intro m4 σ4 H4 s4 S4 hl4 hn4
      refine ⟨(wipe_eq hl4 fun j hj => hn4 j fun z => hj (ho j z)).trans wip, ht m4 h4 H4 σ4 ρ2 _ S4 ?_⟩
      have eD4 := (s4.zk D0 pz).trans eD3
      have ra4 := ra3.move s4
      have S4' := S3.move s4 S4.hr
      have pz4 : D0 ∈ m4.z := by rw [s4.z]; exact pz
      replace q' : PostE K CA W m h H σ Q' ((((tt ρ2 h4).calm fun b h => if b = true then (te ρ2 h).calm fun y h => (dLcL tg tt te (wipeD ρ vs) (w.1.drop (i + 1)) h).bind fun ys h => .ok (y :: ys) h else dLcL tg tt te (wipeD ρ vs) (w.1.drop (i + 1)) h).bind fun ys h => mkL nm (dacc ++ ys) h).unl w.2) := q'
      cases et : tt ρ2 h4 with
      | ex c fs h5 => rw [et] at q'; exact q'.elim
      | no => rw [et] at q'; exact q'.elim
      | ok b h5 =>
        rw [et] at q'
        intro m5 b' H5 s5 S5 eb
        cases (show b' = b from eb)
        have eD5 := (s5.zk D0 pz4).trans eD4
        have ra5 := ra4.move s5
        have S5' := S4'.move s5 S5
        have pz5 : D0 ∈ m5.z := by rw [s5.z]; exact pz4
        have st5 := (st3.trans (s4.sc (p := D0))).trans (s5.sc (p := D0))
        cases b with
        | false => exact ⟨acc, dacc, m5, h5, st5, S5', eD5, Nat.le_succ_of_le hl, ra5, q'⟩
        | true =>
          refine hel m5 h5 H5 σ4 ρ2 _ (S4.move s5 S5) ?_
          replace q' : PostE K CA W m h H σ Q' ((((te ρ2 h5).calm fun y h => (dLcL tg tt te (wipeD ρ vs) (w.1.drop (i + 1)) h).bind fun ys h => .ok (y :: ys) h).bind fun ys h => mkL nm (dacc ++ ys) h).unl w.2) := q'
          cases ee : te ρ2 h5 with
          | ex c fs h6 => rw [ee] at q'; exact q'.elim
          | no => rw [ee] at q'; exact q'.elim
          | ok y h6 =>
            rw [ee] at q'
            intro m6 v6 H6 s6 S6 r6
            have eD6 := (s6.zk D0 pz5).trans eD5
            have pz6 : D0 ∈ m6.z := by rw [s6.z]; exact pz5
            have ra6 := (ra5.move s6).append (.cons r6 .nil)
            have S6' := S5'.move s6 S6
            have sm := sc_made (u := .lst (acc ++ [v6])) S6 pz6
            refine ⟨acc, eD6, by rw [ra.length]; omega, acc ++ [v6], dacc ++ [y], m6, h6, (st5.trans (s6.sc (p := D0))).trans sm, ⟨S6.made pz6, S6'.len, fun j dj ej => ?_⟩, upd_same, by simp; exact hl, ra6.mv sm.toMv, ?_⟩
            · obtain ⟨vj, e1, q⟩ := S6'.sl j dj ej
              exact ⟨vj, e1, q.mv sm.toMv⟩
            · have e3 : ∀ r : R (List D), (r.bind fun ys h => R.ok (y :: ys) h).bind (fun ys h => mkL nm (dacc ++ ys) h) = r.bind fun ys h => mkL nm ((dacc ++ [y]) ++ ys) h := fun r => by
                cases r with
                | ok ys h7 => show mkL nm (dacc ++ (y :: ys)) h7 = mkL nm ((dacc ++ [y]) ++ ys) h7; rw [List.append_assoc]; rfl
                | ex c fs h7 => rfl
                | no => rfl
              rw [← e3]
              exact q'
structure WTs (X : Cx) (K : PySem.W.Frag) (CA : CAs) (W : WX) (ifs : List Expr) (tH : TT) (t : TB) : Prop where
  pe : PTs X ifs tH
  sim : SimT K CA W tH t
theorem wts_nil : WTs X K CA W [] L2.tYes dYes := ⟨pts_nil, fun m h H σ ρ Q' S t => t.here S.hr rfl⟩
theorem wts_one {c : Expr} {hB : TT} {tB : TB} (h : WT X K CA W c hB tB) : WTs X K CA W [c] hB tB := ⟨pts_one h.pe, h.sim⟩
section
variable {elt kx vx : Expr} {ifs : List Expr} {pos : Pos} {gH : TG} {tg : TGD} {hT : TT} {tt : TB} {he hk hv : TE} {te tk tv : TD} {wH : TI} {ti : TDw} {st : Stmt}
theorem we_lc (nm : Bool) {scope : Scope} {own : List (Str × Nat)} {sl : List Nat} (hc : X.calm = true) (hN : X.N.Nodup) (hi : WI X K CA W tge iter wH ti) (ok : BlkOk X.N X.env.scope scope own)
    (hg : ∀ (s : Shared) (H : Hp) (C : Addr) (cl : List (Str × Addr)) (fp : List Addr), WG (X.blk s H scope (compEnvC scope cl C X.env) fp) K CA tge sl gH tg)
    (ht : ∀ (s : Shared) (H : Hp) (C : Addr) (cl : List (Str × Addr)) (fp : List Addr), WTs (X.blk s H scope (compEnvC scope cl C X.env) fp) K CA W0 ifs hT tt)
    (hel : ∀ (s : Shared) (H : Hp) (C : Addr) (cl : List (Str × Addr)) (fp : List Addr), WE (X.blk s H scope (compEnvC scope cl C X.env) fp) K CA W0 elt he te)
    (ho : ∀ j, j ∈ sl → j ∈ own.map (·.2)) (hs : ∀ x, foldedSetIterable iter X.env x = pure x := by intro _; rfl) : WE X K CA W (.ListComp elt [⟨tge, iter, ifs, 0⟩] scope pos) (tLcU X wH gH hT he (own.map (·.2))) (dLc nm ti tg tt te (own.map (·.2))) :=
  ⟨pe_unl (pe_lc hc hN hi.pe ok (fun s H C cl fp => (hg s H C cl fp).pe) (fun s H C cl fp => (ht s H C cl fp).pe) (fun s H C cl fp => (hel s H C cl fp).pe) hs), sim_lc hi.sim (hg X.s_0 X.H_0 0 [] []).sim (ht X.s_0 X.H_0 0 [] []).sim (hel X.s_0 X.H_0 0 [] []).sim ho⟩
theorem ws_setLc (nm : Bool) {i : Nat} {y : Str} {py spos : Pos} {scope : Scope} {own : List (Str × Nat)} {sl : List Nat} (hc : X.calm = true) (hN : X.N.Nodup) (hy : X.N[i]? = some y) (hyl : X.env.scope.names.lookup y = some .local)
    (hi : WI X K CA W tge iter wH ti) (ok : BlkOk X.N X.env.scope scope own)
    (hg : ∀ (s : Shared) (H : Hp) (C : Addr) (cl : List (Str × Addr)) (fp : List Addr), WG (X.blk s H scope (compEnvC scope cl C X.env) fp) K CA tge sl gH tg)
    (ht : ∀ (s : Shared) (H : Hp) (C : Addr) (cl : List (Str × Addr)) (fp : List Addr), WTs (X.blk s H scope (compEnvC scope cl C X.env) fp) K CA W0 ifs hT tt)
    (hel : ∀ (s : Shared) (H : Hp) (C : Addr) (cl : List (Str × Addr)) (fp : List Addr), WE (X.blk s H scope (compEnvC scope cl C X.env) fp) K CA W0 elt he te)
    (ho : ∀ j, j ∈ sl → j ∈ own.map (·.2)) (hsw : swapsWith (.ListComp elt [⟨tge, iter, ifs, 0⟩] scope pos) (some (.Name y py)) spos.line X.env = pure true := by rfl) (hs : ∀ x, foldedSetIterable iter X.env x = pure x := by intro _; rfl) :
    WS X K CA W (.Assign [.Name y py] (.ListComp elt [⟨tge, iter, ifs, 0⟩] scope pos) spos) (fun D σ H => tAsg (tLc wH gH hT he (own.map (·.2))) (gName i) (unlE X D) σ H) (dAsg (dLc nm ti tg tt te (own.map (·.2))) (gdName i)) :=
  ⟨ps_unl (ps_setLc hc hN hy hyl hsw hi.pe ok (fun s H C cl fp => (hg s H C cl fp).pe) (fun s H C cl fp => (ht s H C cl fp).pe) (fun s H C cl fp => (hel s H C cl fp).pe) hs),
    sim_asg (sim_lc hi.sim (hg X.s_0 X.H_0 0 [] []).sim (ht X.s_0 X.H_0 0 [] []).sim (hel X.s_0 X.H_0 0 [] []).sim ho) sim_gName⟩
end
end
section
variable {K : PySem.W.Frag} {CA : CAs} {W : WX} {m : Mp} {h : CH} {H : Hp} {σ : L2.St} {Q' : VK} {k : Nat} {o o' : MO} {u : HO} {d : D} {v : V}
theorem PostG.put (t : PostE K CA W m h H σ Q' (.ok d (h.put k o'))) (S : HR K CA m h H) (e : h.ob k = some o) (nl : NotLck o) (x : MOk K CA m (h.put k o') (upd H (m k) u) (m k) o') (r : Rp K CA m h H v d) : Q' v (upd H (m k) u) :=
  t m v _ (stp_put S e nl) (S.put e x) (r.move (stp_put S e nl))
theorem rp_ref (r : Rp K CA m h H v (.ref k)) : v = .ref (m k) := by cases r; rfl
theorem mo_lst {ds : List D} (S : HR K CA m h H) (e : h.ob k = some (.lst ds)) : ∃ xs, H (m k) = some (.lst xs) ∧ RpAll K CA m h H xs ds := by
  have x := (S.ob k _ e).2
  cases x with
  | lst q r => exact ⟨_, q, r⟩
theorem mo_dct {ds : List (Key × D)} (S : HR K CA m h H) (e : h.ob k = some (.dct ds)) : ∃ xs, H (m k) = some (.dK xs) ∧ xs.map (·.1) = ds.map (·.1) ∧ RpAll K CA m h H (xs.map (·.2)) (ds.map (·.2)) := by
  have x := (S.ob k _ e).2
  cases x with
  | dct q en r => exact ⟨_, q, en, r⟩
theorem mo_obj {c : Nat} {ds : List (Str × D)} (S : HR K CA m h H) (e : h.ob k = some (.obj c ds)) : ∃ dx xs, H (m k) = some (.ins (CA c) dx xs) ∧ xs.map (·.1) = ds.map (·.1) ∧ RpAll K CA m h H (xs.map (·.2)) (ds.map (·.2)) := by
  have x := (S.ob k _ e).2
  cases x with
  | obj q en r => exact ⟨_, _, q, en, r⟩
theorem mo_dctT {ds : List (List Key × D)} (S : HR K CA m h H) (e : h.ob k = some (.dctT ds)) : ∃ xs, H (m k) = some (.dT xs) ∧ xs.map (·.1) = ds.map (·.1) ∧ RpAll K CA m h H (xs.map (·.2)) (ds.map (·.2)) := by
  have x := (S.ob k _ e).2
  cases x with
  | dctT q en r => exact ⟨_, q, en, r⟩
end
abbrev FM := D → List D → CH → R D
def isTy (T : String) (x : D) (h : CH) : Bool := match T with
  | "list" => (lstOf h x).isSome
  | "dict" => match x with
    | .ref k => match h.ob k with
      | some (.dct _) => true
      | _ => false
    | _ => false
  | "str" => match x with
    | .str _ => true
    | _ => false
  | _ => false
def dBM (T : String) (f : FM) (to : TD) (ts : TDs) : TD := fun ρ h => (to ρ h).bind fun x h => if isTy T x h = true then (ts ρ h).bind fun xs h => f x xs h else .no
def dBM0 (T : String) (f : FM) (to : TD) : TD := fun ρ h => (to ρ h).bind fun x h => if isTy T x h = true then f x [] h else .no
def SimM (K : PySem.W.Frag) (CA : CAs) (r : V → List V → Hp → VK → Prop) (f : FM) : Prop := ∀ (W : WX) (σ : L2.St) (m : Mp) (h : CH) (H : Hp) (x : V) (dx : D) (xs : List V) (ds : List D) (Q' : VK), HR K CA m h H → Rp K CA m h H x dx → RpAll K CA m h H xs ds → PostE K CA W m h H σ Q' (f dx ds h) → r x xs H Q'
section
variable {X : Cx} {K : PySem.W.Frag} {CA : CAs} {W : WX} {m : Mp} {h : CH} {H : Hp} {e o : Expr} {es : List Expr} {T : String} {r : V → List V → Hp → VK → Prop} {f : FM} {ha : TE} {ta : TD} {hs : TA} {ts : TDs}
theorem isTy_ok {x : V} {d : D} (S : HR K CA m h H) (r : Rp K CA m h H x d) (t : isTy T d h = true) : tyV K T x H := by
  unfold isTy at t
  split at t
  · obtain ⟨ds, e⟩ := Option.isSome_iff_exists.mp t
    obtain ⟨a, xs, rfl, e1, _⟩ := rp_lst S r e
    exact .inl ⟨rfl, xs, .of e1⟩
  · split at t
    · split at t
      · rename_i e
        obtain ⟨xs, q, _⟩ := mo_dct S e
        cases r
        exact .inr (.inr (.inl ⟨rfl, .inl ⟨_, q⟩⟩))
      · cases t
    · cases t
  · split at t
    · cases r; rfl
    · cases t
  · cases t
theorem we_bm (s : SimM K CA r f) (x : WE X K CA W o ha ta) (y : WA X K CA W es hs ts) (hp : PE X o ha → PA X es hs → PE X e (tBM K T r ha hs)) : WE X K CA W e (tBM K T r ha hs) (dBM T f ta ts) :=
  ⟨hp x.pe y.pe, fun m h H σ ρ Q' S t => x.sim m h H σ ρ _ S (t.bind fun d h1 m1 v H1 s1 S1 r1 t1 => by
    obtain ⟨c, t1⟩ := post_ite t1
    exact ⟨isTy_ok S1 r1 c, y.sim m1 h1 H1 σ ρ _ (S.move s1 S1) (t1.bind fun ds h2 m2 vs H2 s2 S2 r2 t2 => s W σ m2 h2 H2 v d vs ds Q' S2 (r1.move s2) r2 t2)⟩)⟩
end
def fAppend : FM := fun x xs h => match x, xs with
  | .ref k, [y] => match h.ob k with
    | some (.lst ds) => if ds.length < sizeLine then .ok .non (h.put k (.lst (ds ++ [y]))) else .no
    | _ => .no
  | _, _ => .no
def fExtend : FM := fun x xs h => match x, xs with
  | .ref k, [y] => match h.ob k, lstOf h y with
    | some (.lst ds), some es => if ds.length + es.length ≤ sizeLine then .ok .non (h.put k (.lst (ds ++ es))) else .no
    | _, _ => .no
  | _, _ => .no
def fPopAt : FM := fun x xs h => match x, xs with
  | .ref k, [.int i] => match h.ob k with
    | some (.lst ds) => if -(2 ^ 63) ≤ i ∧ i < 2 ^ 63 then (match seqIndex? i ds.length with
      | some j => (match ds[j]? with
        | some y => .ok y (h.put k (.lst (ds.eraseIdx j)))
        | none => .no)
      | none => .no) else .no
    | _ => .no
  | _, _ => .no
section
variable {K : PySem.W.Frag} {CA : CAs}
theorem sim_append : SimM K CA rAppend fAppend := by
  intro W σ m h H x dx xs ds Q' S rx rs t
  unfold fAppend at t
  split at t
  · split at t
    · rename_i e
      obtain ⟨l, t⟩ := post_ite t
      obtain ⟨ys, q, r⟩ := mo_lst S e
      cases rs with
      | @cons v _ _ _ r1 r2 =>
        cases r2
        exact ⟨_, ys, v, rp_ref rx, rfl, q, by rw [r.length]; exact l, t.put S e trivial (.lst upd_same ((r.append (.cons r1 .nil)).mv (mv_put e))) .non⟩
    · exact t.elim
  · exact t.elim
theorem sim_extend : SimM K CA rExtend fExtend := by
  intro W σ m h H x dx xs ds Q' S rx rs t
  unfold fExtend at t
  split at t
  · split at t
    · rename_i e e2
      obtain ⟨l, t⟩ := post_ite t
      obtain ⟨ys, q, r⟩ := mo_lst S e
      cases rs with
      | cons r1 r2 =>
        cases r2
        obtain ⟨b, zs, rfl, q2, rz⟩ := rp_lst S r1 e2
        exact ⟨_, b, ys, zs, rp_ref rx, rfl, q, q2, by rw [r.length, rz.length]; exact l, t.put S e trivial (.lst upd_same ((r.append rz).mv (mv_put e))) .non⟩
    · exact t.elim
  · exact t.elim
theorem sim_popAt : SimM K CA rPopAt fPopAt := by
  intro W σ m h H x dx xs ds Q' S rx rs t
  unfold fPopAt at t
  split at t
  · split at t
    · rename_i e
      obtain ⟨⟨l1, l2⟩, t⟩ := post_ite t
      obtain ⟨ys, q, r⟩ := mo_lst S e
      cases rs with
      | cons r1 r2 =>
        cases r2
        cases r1
        split at t
        · rename_i j ej
          split at t
          · rename_i ey
            obtain ⟨v, ev, rv⟩ := r.getD ey
            exact ⟨_, ys, _, j, v, rp_ref rx, rfl, q, l1, l2, by rw [r.length]; exact ej, ev, t.put S e trivial (.lst upd_same ((r.eraseIdx _).mv (mv_put e))) rv⟩
          · exact t.elim
        · exact t.elim
    · exact t.elim
  · exact t.elim
end
def refOf : D → Option Nat
  | .ref r => some r
  | _ => none
theorem refOf_eq {d : D} {r : Nat} (e : refOf d = some r) : d = .ref r := by cases d <;> first | (cases e; rfl) | cases e
def dPairs : List (TD × TD) → DE → CH → R (List (D × D))
  | [], _, h => .ok [] h
  | (tk, tv) :: r, ρ, h => (tk ρ h).bind fun x h => (tv ρ h).bind fun y h => (dPairs r ρ h).bind fun ps h => .ok ((x, y) :: ps) h
def keysOf : List (D × D) → Option (List (Key × D))
  | [] => some []
  | (x, y) :: r => match keyD x, keysOf r with
    | some k, some ks => some ((k, y) :: ks)
    | _, _ => none
def mergeD (kvs more : List (Key × D)) : List (Key × D) := more.foldl (fun acc kv => dPut acc kv.1 kv.2) kvs
def dDisp (nm : Bool) (ts : List (TD × TD)) : TD := fun ρ h => (dPairs ts ρ h).bind fun ps h => match keysOf ps with
  | some kvs => if kvs.length ≤ 15 then mkD nm (mergeD [] kvs) h else .no
  | none => .no
def dDNew (nm : Bool) : TD := fun _ h => mkD nm [] h
def RPs (K : PySem.W.Frag) (CA : CAs) : Mp → CH → Hp → List (V × V) → List (D × D) → Prop := fun m h H ps qs => RpAll K CA m h H (ps.map (·.1)) (qs.map (·.1)) ∧ RpAll K CA m h H (ps.map (·.2)) (qs.map (·.2))
def SimP (K : PySem.W.Frag) (CA : CAs) (W : WX) (trs : List (TE × TE)) (ts : List (TD × TD)) : Prop := ∀ (m : Mp) (h : CH) (H : Hp) (σ : L2.St) (ρ : DE) (Q' : List (V × V) → Hp → Prop), SO K CA m h H σ ρ → PostG K CA W (RPs K CA) m h H σ Q' (dPairs ts ρ h) → tPairs trs σ H Q'
structure WP (X : Cx) (K : PySem.W.Frag) (CA : CAs) (W : WX) (pos : Pos) (keys : List (Option Expr)) (values : List Expr) (trs : List (TE × TE)) (ts : List (TD × TD)) : Prop where
  pe : PPs X pos keys values trs
  sim : SimP K CA W trs ts
section
variable {X : Cx} {K : PySem.W.Frag} {CA : CAs} {W : WX} {m : Mp} {h : CH} {H : Hp} {a b : Expr} {hk hv : TE} {tk tv : TD} {pos : Pos}
theorem wp_nil : WP X K CA W pos [] [] [] [] := ⟨pps_nil, fun m h H σ ρ Q' S t => t.here S.hr ⟨.nil, .nil⟩⟩
theorem wp_cons {ks : List (Option Expr)} {vs : List Expr} {trs : List (TE × TE)} {ts : List (TD × TD)} (x : WE X K CA W a hk tk) (y : WE X K CA W b hv tv) (z : WP X K CA W pos ks vs trs ts) : WP X K CA W pos (some a :: ks) (b :: vs) ((hk, hv) :: trs) ((tk, tv) :: ts) :=
  ⟨pps_cons x.pe y.pe z.pe, fun m h H σ ρ Q' S t => x.sim m h H σ ρ _ S (t.bind fun d1 h1 m1 v1 H1 s1 S1 r1 t1 => y.sim m1 h1 H1 σ ρ _ (S.move s1 S1) (t1.bind fun d2 h2 m2 v2 H2 s2 S2 r2 t2 =>
    z.sim m2 h2 H2 σ ρ _ ((S.move s1 S1).move s2 S2) (t2.bind fun qs h3 m3 ps H3 s3 S3 r3 t3 => t3.here S3 ⟨.cons ((r1.move s2).move s3) r3.1, .cons (r2.move s3) r3.2⟩)))⟩
theorem keys_rel : ∀ (ps : List (V × V)) (qs : List (D × D)) (ks : List (Key × D)), RpAll K CA m h H (ps.map (·.1)) (qs.map (·.1)) → RpAll K CA m h H (ps.map (·.2)) (qs.map (·.2)) → keysOf qs = some ks →
    ∃ kvs : List (Key × V), ps = kvs.map (fun kv => (kV kv.1, kv.2)) ∧ kvs.map (·.1) = ks.map (·.1) ∧ RpAll K CA m h H (kvs.map (·.2)) (ks.map (·.2))
  | [], [], ks, _, _, h => by cases h; exact ⟨[], rfl, rfl, .nil⟩
  | [], _ :: _, _, h, _, _ => by cases h
  | _ :: _, [], _, h, _, _ => by cases h
  | (x, y) :: ps, (d1, d2) :: qs, ks, h1, h2, h => by
    cases h1 with
    | cons a1 b1 =>
      cases h2 with
      | cons a2 b2 =>
        simp only [keysOf] at h
        cases hk : keyD d1 with
        | none => rw [hk] at h; cases h
        | some k =>
          cases hr : keysOf qs with
          | none => rw [hk, hr] at h; cases h
          | some r =>
            rw [hk, hr] at h
            cases h
            obtain ⟨kvs, e1, e2, e3⟩ := keys_rel ps qs r b1 b2 hr
            exact ⟨(k, y) :: kvs, by rw [List.map_cons, ← e1]; have ek : x = kV k := rp_key a1 hk; rw [ek], by rw [List.map_cons, List.map_cons, e2], .cons a2 e3⟩
theorem merge_rel : ∀ (more : List (Key × V)) (dmore : List (Key × D)) (kvs : List (Key × V)) (ds : List (Key × D)), more.map (·.1) = dmore.map (·.1) → RpAll K CA m h H (more.map (·.2)) (dmore.map (·.2)) → kvs.map (·.1) = ds.map (·.1) → RpAll K CA m h H (kvs.map (·.2)) (ds.map (·.2)) →
    (mergeK kvs more).map (·.1) = (mergeD ds dmore).map (·.1) ∧ RpAll K CA m h H ((mergeK kvs more).map (·.2)) ((mergeD ds dmore).map (·.2))
  | [], [], kvs, ds, _, _, e, r => ⟨e, r⟩
  | [], _ :: _, _, _, h, _, _, _ => by simp at h
  | _ :: _, [], _, _, h, _, _, _ => by simp at h
  | (k, y) :: more, (k', d) :: dmore, kvs, ds, h, h', e, r => by
    simp only [List.map_cons, List.cons.injEq] at h
    obtain ⟨rfl, h⟩ := h
    cases h' with
    | cons a b =>
      obtain ⟨e2, r2⟩ := rp_dput (k := k) e r a
      exact merge_rel more dmore _ _ h b e2 r2
theorem doneD0 {σ : L2.St} {m1 m2 : Mp} {h1 h2 : CH} {H1 H2 : Hp} {p : Addr} {nm : Bool} {acc : List (Key × V)} {ds : List (Key × D)} {Q1 : VK} {mb : Mp} {hb : CH} {Hb : Hp} (sb : Stp mb hb Hb m1 h1 H1) (S : HR K CA m1 h1 H1) (n : H1 p = none) {u : HO} (s : Sc p (m1.add p) h1 (upd H1 p u) m2 h2 H2) (S2 : HR K CA m2 h2 H2) (e : H2 p = some (.dK acc)) (en : acc.map (·.1) = ds.map (·.1)) (r : RpAll K CA m2 h2 H2 (acc.map (·.2)) (ds.map (·.2)))
    (t : PostE K CA W mb hb Hb σ Q1 (mkD nm ds h2)) : Q1 (.ref p) H2 := by
  have z2 : m2.z = p :: m1.z := s.z
  cases nm with
  | true =>
    obtain ⟨s3, S3⟩ := done_named (o := .dct ds) S n s S2 (.dct e en (r.named S2 z2))
    refine t _ _ H2 (sb.trans s3) S3 ?_
    have := Rp.ref (K := K) (CA := CA) (m := mpNew ⟨m2.f, m1.z⟩ h2 p) (h := h2.new (.dct ds)) (H := H2) (k := h2.nx) (Nat.lt_succ_self _)
    rw [show (mpNew ⟨m2.f, m1.z⟩ h2 p) h2.nx = p from mpNew_nx] at this
    exact this
  | false => exact t _ _ H2 (sb.trans (stp_done S n s)) (S2.done z2) (.dct (done_data S n s S2) e rfl en (r.done z2))
theorem we_dnew (nm : Bool) : WE X K CA W (.Dict [] [] pos) tDNewK (dDNew nm) := ⟨pe_dnewK, fun m h H σ ρ Q' S t p n => mkD_post S.hr n rfl .nil t⟩
theorem we_disp (nm : Bool) {ks : List (Option Expr)} {vs : List Expr} {trs : List (TE × TE)} {ts : List (TD × TD)} (x : WP X K CA W pos ks vs trs ts) (hall : ks.all (·.isSome) = true) (hl : ks.length = vs.length) (h0 : ks ≠ []) (h15 : ks.length ≤ 15) : WE X K CA W (.Dict ks vs pos) (tDisp trs) (dDisp nm ts) := by
  refine ⟨pe_disp x.pe hall hl h0 h15, fun m hh H σ ρ Q' S t p n => ?_⟩
  have S2 := S.hr.add (u := .dK []) n
  have SO2 : SO K CA (m.add p) hh (upd H p (.dK [])) σ ρ := ⟨S2, S.len, fun i d e => let ⟨v, e1, q⟩ := S.sl i d e; ⟨v, e1, q.add n⟩⟩
  have pz : p ∈ (m.add p).z := List.mem_cons_self ..
  refine x.sim (m.add p) hh _ σ ρ _ SO2 ?_
  unfold dDisp at t
  cases ep : dPairs ts ρ hh with
  | no => rw [ep] at t; exact t.elim
  | ex c fs h1 =>
    rw [ep] at t
    intro m1 cls dd H1 s1 S1 xr
    have z2 : m1.z = p :: m.z := s1.z
    refine t ⟨m1.f, m.z⟩ cls dd H1 (stp_done S.hr n s1.sc) (S1.done z2) ?_
    obtain ⟨x1, x2⟩ := xr
    refine ⟨x1, x2.imp id ?_⟩
    rintro ⟨y, hf, e1, e2, e3, e4, e5⟩
    exact ⟨y, hf, e1, (Mp.done_kp z2 y _ e2 e3 trivial).1, e3, e4, e5.done z2⟩
  | ok qs h1 =>
    rw [ep] at t
    intro m1 ps H1 s1 S1 rr
    replace t : PostE K CA W m hh H σ Q' (match keysOf qs with
      | some kvs => if kvs.length ≤ 15 then mkD nm (mergeD [] kvs) h1 else .no
      | none => .no) := t
    cases ek : keysOf qs with
    | none => rw [ek] at t; exact t.elim
    | some kvs =>
      rw [ek] at t
      obtain ⟨l, t⟩ := post_ite t
      obtain ⟨hkv, e1, e2, e3⟩ := keys_rel ps qs kvs rr.1 rr.2 ek
      have pz1 : p ∈ m1.z := by rw [s1.z]; exact pz
      obtain ⟨m3, m4⟩ := merge_rel hkv kvs [] [] e2 e3 rfl .nil
      refine ⟨(s1.zk p pz).trans upd_same, hkv, e1, by rw [len_of e2]; exact l, ?_⟩
      have sm := sc_made (u := .dK (mergeK [] hkv)) S1 pz1
      exact doneD0 .refl S.hr n (s1.sc.trans sm) (S1.made pz1) upd_same m3 (m4.mv sm.toMv) t
end
def putD (f : Str) (v : D) : List (Str × D) → List (Str × D)
  | [] => [(f, v)]
  | (g, x) :: r => if g = f then (g, v) :: r else (g, x) :: putD f v r
def objOf (h : CH) : D → Option (Nat × List (Str × D))
  | .obj c fs => some (c, fs)
  | .ref k => match h.ob k with
    | some (.obj c fs) => some (c, fs)
    | _ => none
  | _ => none
def fFld (cs : List Nat) (f : Str) : F1 := fun d h => match objOf h d with
  | some (c, fs) => if c ∈ cs then (match fs.lookup f with
    | some x => .ok x h
    | none => .no) else .no
  | none => .no
theorem FldOf.one {K : PySem.W.Frag} {CA : CAs} {c : Nat} {f : Str} (h1 : Cls K (CA c)) (h2 : NoAttr K (CA c) f) : FldOf K CA [c] f := fun x hx => by
  rw [List.mem_singleton] at hx
  subst hx
  exact ⟨h1, h2⟩
section
variable {X : Cx} {K : PySem.W.Frag} {CA : CAs} {W : WX} {m : Mp} {h : CH} {H : Hp} {e o i : Expr} {ha hi : TE} {ta ti : TD} {pos : Pos} {f : Str} {cs : List Nat}
theorem rp_obj {v : V} {d : D} {c : Nat} {fs : List (Str × D)} (S : HR K CA m h H) (r : Rp K CA m h H v d) (e : objOf h d = some (c, fs)) : ∃ a dx hf, v = .ref a ∧ H a = some (.ins (CA c) dx hf) ∧ hf.map (·.1) = fs.map (·.1) ∧ RpAll K CA m h H (hf.map (·.2)) (fs.map (·.2)) := by
  cases r with
  | obj n e1 en r => cases e; exact ⟨_, _, _, rfl, e1, en, r⟩
  | ref l =>
    simp only [objOf] at e
    split at e
    · rename_i q
      cases e
      obtain ⟨dx, xs, q1, q2, q3⟩ := mo_obj S q
      exact ⟨_, dx, xs, rfl, q1, q2, q3⟩
    · cases e
  | _ => cases e
theorem rp_look {d : D} : ∀ {fs : List (Str × V)} {dfs : List (Str × D)}, fs.map (·.1) = dfs.map (·.1) → RpAll K CA m h H (fs.map (·.2)) (dfs.map (·.2)) → dfs.lookup f = some d → ∃ v, fs.lookup f = some v ∧ Rp K CA m h H v d
  | [], [], _, _, h => by cases h
  | [], _ :: _, e, _, _ => by simp at e
  | _ :: _, [], e, _, _ => by simp at e
  | (g, v) :: fs, (g', d') :: dfs, e, r, h => by
    simp only [List.map_cons, List.cons.injEq] at e
    obtain ⟨rfl, e⟩ := e
    cases r with
    | cons r1 r2 =>
      rw [List.lookup_cons] at h ⊢
      cases q : f == g with
      | true => rw [q] at h; simp only [Option.some.injEq] at h; subst h; exact ⟨v, rfl, r1⟩
      | false => rw [q] at h; exact rp_look e r2 h
theorem look_none : ∀ {fs : List (Str × V)} {dfs : List (Str × D)}, fs.map (·.1) = dfs.map (·.1) → dfs.lookup f = none → fs.lookup f = none
  | [], [], _, _ => rfl
  | [], _ :: _, e, _ => by simp at e
  | _ :: _, [], e, _ => by simp at e
  | (g, v) :: fs, (g', d') :: dfs, e, h => by
    simp only [List.map_cons, List.cons.injEq] at e
    obtain ⟨rfl, e⟩ := e
    rw [List.lookup_cons] at h ⊢
    cases q : f == g with
    | true => rw [q] at h; cases h
    | false => rw [q] at h; exact look_none e h
theorem rp_putF {v : V} {d : D} (r' : Rp K CA m h H v d) : ∀ {fs : List (Str × V)} {dfs : List (Str × D)}, fs.map (·.1) = dfs.map (·.1) → RpAll K CA m h H (fs.map (·.2)) (dfs.map (·.2)) →
    (putF f v fs).map (·.1) = (putD f d dfs).map (·.1) ∧ RpAll K CA m h H ((putF f v fs).map (·.2)) ((putD f d dfs).map (·.2))
  | [], [], _, _ => ⟨rfl, .cons r' .nil⟩
  | [], _ :: _, e, _ => by simp at e
  | _ :: _, [], e, _ => by simp at e
  | (g, x) :: fs, (g', y) :: dfs, e, r => by
    simp only [List.map_cons, List.cons.injEq] at e
    obtain ⟨rfl, e⟩ := e
    cases r with
    | cons r1 r2 =>
      obtain ⟨i1, i2⟩ := rp_putF r' e r2
      unfold putF putD
      by_cases q : g = f
      · rw [if_pos q, if_pos q]
        exact ⟨by simp [e], .cons r' r2⟩
      · rw [if_neg q, if_neg q]
        exact ⟨by simp only [List.map_cons]; rw [i1], .cons r1 i2⟩
theorem we_fld (hf : FldOf K CA cs f) (x : WE X K CA W e ha ta) (hb : attributeBase e f X.env (eval e X.env) = eval e X.env := by rfl) (hK : X.K = K := by rfl) : WE X K CA W (.Attribute e f pos) (tFld K ha f) (dUn (fFld cs f) ta) := by
  subst hK
  refine ⟨pe_fld x.pe hb, fun m h H σ ρ Q' S t => x.sim m h H σ ρ _ S (t.bind fun d h1 m1 v H1 s1 S1 r1 t1 => ?_)⟩
  unfold fFld at t1
  split at t1
  · rename_i c fs eo
    by_cases hc : c ∈ cs
    · rw [if_pos hc] at t1
      split at t1
      · rename_i y el
        obtain ⟨a, dx, hfs, rfl, q1, q2, q3⟩ := rp_obj S1 r1 eo
        obtain ⟨u, hu, ru⟩ := rp_look q2 q3 el
        exact ⟨a, _, dx, hfs, u, rfl, q1, (hf c hc).1, (hf c hc).2, hu, t1.here S1 ru⟩
      · exact t1.elim
    · rw [if_neg hc] at t1; exact t1.elim
  · exact t1.elim
def gFldH (K : PySem.W.Frag) (to : TE) (f : Str) : TG := fun v σ H Q => to σ H fun x H1 => ∃ a C dx fs, x = .ref a ∧ H1 a = some (.ins C dx fs) ∧ Cls K C ∧ NoAttr K C f ∧ fs.length < 1000 ∧ Q σ (upd H1 a (.ins C dx (putF f v fs)))
theorem pg_fld {to : TE} (ho : PE X o to) : PG X (.Attribute o f pos) (gFldH X.K to f) := by
  refine ⟨fun pins s σ H v u Q I r hq => ?_⟩
  show wpAny _ X.A (do
    let ov ← holding [u] (eval o X.env)
    standAt pos.atName
    holding [u, ov] (setAttr ov f u)
    release [u, ov] []) _ _ s
  refine wpAny_bind (wpAny_holding (thn (ho.run pins s σ H _ I hq) fun ov s1 q => ?_))
  obtain ⟨x, H1, I1, r1, a, C, dx, fs, rfl, ea, c, n, l, q⟩ := q
  obtain rfl : ov = Value.ref a := r1
  refine wpAny_bind (wpAny_standAt (wpAny_bind (wpAny_holding (setattr_ok I1 ea c n l r fun s3 I3 => ?_))))
  exact wpAny_release ⟨σ, _, I3, q⟩
def gdFld (cs : List Nat) (f : Str) (to : TD) : TGD := fun d ρ h => (to ρ h).calm fun x h => match refOf x with
  | some k => match h.ob k with
    | some (.obj c fs) => if c ∈ cs ∧ fs.length < 1000 then .ok ρ (h.put k (.obj c (putD f d fs))) else .no
    | _ => .no
  | none => .no
theorem wg_fld (hf : FldOf K CA cs f) (x : WE X K CA W o ha ta) (hK : X.K = K := by rfl) : WG X K CA (.Attribute o f pos) [] (gFldH K ha f) (gdFld cs f ta) := by
  subst hK
  refine ⟨pg_fld x.pe, fun m hh H σ ρ v d Q' S r q => x.sim m hh H σ ρ _ S (PostT'.calm q fun a h1 m1 w H1 s1 S1 r1 q1 => ?_)⟩
  split at q1
  · rename_i k er
    have er := refOf_eq er
    subst er
    split at q1
    · rename_i c fs eo
      by_cases hc : c ∈ cs ∧ fs.length < 1000
      · rw [if_pos hc] at q1
        obtain ⟨dx, hfs, e1, en, rr⟩ := mo_obj S1 eo
        obtain ⟨i1, i2⟩ := rp_putF (f := f) (r.move s1) en rr
        refine ⟨_, _, dx, hfs, rp_ref r1, e1, (hf c hc.1).1, (hf c hc.1).2, by have := congrArg List.length en; simp at this; omega, ?_⟩
        have sp := stp_put (o' := .obj c (putD f d fs)) (u := .ins (CA c) dx (putF f v hfs)) S1 eo trivial
        exact q1 m1 σ _ sp ((S.move s1 S1).move sp (S1.put eo (.obj upd_same i1 (i2.mv (mv_put eo))))) rfl fun _ _ => rfl
      · rw [if_neg hc] at q1; exact q1.elim
    · exact q1.elim
  · exact q1.elim
def rSetU : V → V → V → Hp → (Hp → Prop) → Prop := fun o i v H Q => rSetL o i v H Q ∨ ∃ a H', o = .ref a ∧ DPut H a i v H' ∧ Q H'
theorem set_U (hu : X.A.units + 1 < cLine) : PSet X rSetU := by
  intro pins s σ H o i v ov iv u Q I ro ri rv hq
  rcases hq with hq | ⟨a, H', rfl, dp, q⟩
  · exact set_list pins s σ H o i v ov iv u Q I ro ri rv hq
  · obtain rfl : ov = Value.ref a := ro
    exact d_setItem hu I dp ri rv fun s4 I4 => ⟨H', I4, q⟩
def gdSub (to ti : TD) : TGD := fun d ρ h => (to ρ h).calm fun x h => (ti ρ h).calm fun y h => match refOf x with
  | some k => match h.ob k with
    | some (.lst ds) => (match y with
      | .int i => (match ixN ds.length i with
        | some j => .ok ρ (h.put k (.lst (ds.set j d)))
        | none => .no)
      | _ => .no)
    | some (.dct kvs) => (match keyD y with
      | some key => if kvs.length < sizeLine then .ok ρ (h.put k (.dct (dPut kvs key d))) else .no
      | none => .no)
    | _ => .no
  | none => .no
theorem wg_sub (hu : X.A.units + 1 < cLine) (x : WE X K CA W o ha ta) (y : WE X K CA W i hi ti) (hp : PE X o ha → PE X i hi → PSet X rSetU → PG X e (gSub ha hi rSetU)) : WG X K CA e [] (gSub ha hi rSetU) (gdSub ta ti) := by
  refine ⟨hp x.pe y.pe (set_U hu), fun m hh H σ ρ v d Q' S r q => x.sim m hh H σ ρ _ S (PostT'.calm q fun a h1 m1 w H1 s1 S1 r1 q1 => y.sim m1 h1 H1 σ ρ _ (S.move s1 S1) (PostT'.calm q1 fun b h2 m2 w2 H2 s2 S2 r2 q2 => ?_))⟩
  split at q2
  · rename_i k er
    have er := refOf_eq er
    subst er
    have ew := rp_ref (r1.move s2)
    have rv := (r.move s1).move s2
    have SS := (S.move s1 S1).move s2 S2
    split at q2
    · rename_i ds eo
      split at q2
      · split at q2
        · rename_i j ej
          obtain ⟨ys, e1, rr⟩ := mo_lst S2 eo
          cases r2
          have sp := stp_put (o' := .lst (ds.set j d)) (u := .lst (ys.set j v)) S2 eo trivial
          exact .inl ⟨_, ys, _, j, ew, rfl, e1, by rw [rr.length]; exact ej, q2 m2 σ _ sp (SS.move sp (S2.put eo (.lst upd_same ((rr.set j rv).mv (mv_put eo))))) rfl fun _ _ => rfl⟩
        · exact q2.elim
      · exact q2.elim
    · rename_i kvs eo
      split at q2
      · rename_i key ek
        by_cases hz : kvs.length < sizeLine
        · rw [if_pos hz] at q2
          obtain ⟨hkv, e1, en, rr⟩ := mo_dct S2 eo
          have ey := rp_key r2 ek
          subst ey
          obtain ⟨i1, i2⟩ := rp_dput (k := key) en rr rv
          have sp := stp_put (o' := .dct (dPut kvs key d)) (u := .dK (putK hkv key v)) S2 eo trivial
          exact .inr ⟨_, _, ew, DPut.k e1 (by rw [len_of en]; exact hz), q2 m2 σ _ sp (SS.move sp (S2.put eo (.dct upd_same i1 (i2.mv (mv_put eo))))) rfl fun _ _ => rfl⟩
        · rw [if_neg hz] at q2; exact q2.elim
      · exact q2.elim
    · exact q2.elim
  · exact q2.elim
end
def dFldAug (cs : List Nat) (f : Str) (to tv : TD) : SD := fun ρ h => (to ρ h).toS ρ fun x h => match refOf x with
  | some k => match h.ob k with
    | some (.obj c fs) => if c ∈ cs ∧ fs.length < 1000 then (match fs.lookup f with
      | some (.int i) => (tv ρ h).toS ρ fun y h2 => (match y with
        | .int j => (match h2.ob k with
          | some (.obj c2 fs2) => if c2 = c ∧ fs2.length < 1000 then .nx ρ (h2.put k (.obj c (putD f (.int (i + j)) fs2))) else .no
          | _ => .no)
        | _ => .no)
      | _ => .no) else .no
    | _ => .no
  | none => .no
def cutD (xs : List D) (lo hi : Option Int) : List D := (xs.drop (HT.sIx xs.length 0 lo)).take (HT.sIx xs.length xs.length hi - HT.sIx xs.length 0 lo)
theorem rp_cut {K : PySem.W.Frag} {CA : CAs} {m : Mp} {h : CH} {H : Hp} {vs : List V} {ds : List D} {lo hi : Option Int} (r : RpAll K CA m h H vs ds) : RpAll K CA m h H (cutV vs lo hi) (cutD ds lo hi) := by
  unfold cutV cutD
  rw [r.length]
  exact (r.drop _).take _
abbrev TDo := DE → CH → R (Option Int)
def dNoPart : TDo := fun _ h => .ok none h
def dPart (t : TD) : TDo := fun ρ h => (t ρ h).bind fun d h => match d with
  | .int i => .ok (some i) h
  | _ => .no
def dSl (nm : Bool) (ta : TD) (tl th : TDo) : TD := fun ρ h => (ta ρ h).bind fun x h => (tl ρ h).bind fun l h => (th ρ h).bind fun u h => match x with
  | .tup ds => .ok (.tup (cutD ds l u)) h
  | x => match lstOf h x with
    | some ds => mkL nm (cutD ds l u) h
    | none => .no
def RO : Mp → CH → Hp → Option Int → Option Int → Prop := fun _ _ _ b a => b = a
def SimO (K : PySem.W.Frag) (CA : CAs) (W : WX) (tH : TO) (t : TDo) : Prop := ∀ (m : Mp) (h : CH) (H : Hp) (σ : L2.St) (ρ : DE) (Q' : Option Int → Hp → Prop), SO K CA m h H σ ρ → PostG K CA W RO m h H σ Q' (t ρ h) → tH σ H Q'
structure WO (X : Cx) (K : PySem.W.Frag) (CA : CAs) (W : WX) (e : Option Expr) (tH : TO) (t : TDo) : Prop where
  pe : PO X e tH
  sim : SimO K CA W tH t
section
variable {X : Cx} {K : PySem.W.Frag} {CA : CAs} {W : WX} {e a : Expr} {lo hi : Option Expr} {ha : TE} {ta : TD} {hl hh : TO} {tl th : TDo} {pos p2 : Pos}
theorem wo_none : WO X K CA W none tNoPart dNoPart := ⟨po_none, fun m h H σ ρ Q' S t => t.here S.hr rfl⟩
theorem wo_some (x : WE X K CA W e ha ta) : WO X K CA W (some e) (tPart ha) (dPart ta) := ⟨po_some x.pe, fun m h H σ ρ Q' S t => x.sim m h H σ ρ _ S (t.bind fun d h1 m1 v H1 s1 S1 r1 t1 => by
  split at t1
  · cases r1; exact ⟨_, rfl, t1.here S1 rfl⟩
  · exact t1.elim)⟩
abbrev rSlU (K : PySem.W.Frag) : V → Option Int → Option Int → Hp → VK → Prop := fun x lo hi H Q => rSlL K x lo hi H Q ∨ rSlA K x lo hi H Q
theorem cut_whole {xs : List D} {lo hi : Option Int} (h1 : HT.sIx xs.length 0 lo = 0) (h2 : HT.sIx xs.length xs.length hi = xs.length) : cutD xs lo hi = xs := by
  unfold cutD
  rw [h1, h2]
  simp
theorem we_slice (nm : Bool) (x : WE X K CA W a ha ta) (y : WO X K CA W lo hl tl) (z : WO X K CA W hi hh th) (hK : X.K = K := by rfl) : WE X K CA W (.Subscript a (.Slice lo hi none p2) pos) (tSl (rSlU K) ha hl hh) (dSl nm ta tl th) := by
  subst hK
  refine ⟨pe_slice (sl_list.or sl_tupA) x.pe y.pe z.pe, fun m h H σ ρ Q' S t => x.sim m h H σ ρ _ S (t.bind fun d h1 m1 v H1 s1 S1 r1 t1 => ?_)⟩
  refine y.sim m1 h1 H1 σ ρ _ (S.move s1 S1) (t1.bind fun l h2 m2 l' H2 s2 S2 e2 t2 => ?_)
  cases (show l' = l from e2)
  refine z.sim m2 h2 H2 σ ρ _ ((S.move s1 S1).move s2 S2) (t2.bind fun u h3 m3 u' H3 s3 S3 e3 t3 => ?_)
  cases (show u' = u from e3)
  have r3 := (r1.move s2).move s3
  split at t3
  · obtain ⟨b, xs, rfl, e1, r2⟩ := rp_tup r3
    refine .inr ⟨b, xs, rfl, e1, fun z => ?_, fun _ p n => t3.laid S3 n (.tup (S3.fresh n) upd_same (rps_laid S3 n (rp_cut r2)))⟩
    rename_i ds
    have e : cutD ds l u = ds := cut_whole (by rw [← r2.length]; exact z.1) (by rw [← r2.length]; exact z.2)
    rw [e] at t3
    exact t3.here S3 r3
  · split at t3
    · rename_i ds ed
      obtain ⟨b, xs, rfl, e1, r2⟩ := rp_lst S3 r3 ed
      exact .inl ⟨b, xs, rfl, .of e1, fun p n => mkL_post S3 n (rp_cut r2) t3⟩
    · exact t3.elim
end
abbrev cxD (P : Program) (w : World) (K : PySem.W.Frag) (mg : Str → Option Value) (base : Heap) (N : List Str) (qual : Str) (st : Stmt) (f : Addr) (cd : Value) (A : Around) (outer : List Env) (s : Shared) (H : Hp) (E : XK) : Cx :=
  cxOf (L2.CX P w) P w K mg base N qual (defScope st) f cd A outer s H E
section
variable {P : Program} {w : World} {K : PySem.W.Frag} {mg : Str → Option Value} {base : Heap} {CA : CAs} {g : Bool}
theorem FnG.mk' {nm qual : Str} {st : Stmt} {f : Addr} {fd : FuncData} {N ps : List Str} {k : Nat} {sp : Sp} (F : Fun K nm qual st f fd) (S : FnScope N ps (defScope st)) (ln : ∀ vs H Q E, sp vs H Q E → vs.length = ps.length)
    (body : ∀ (cd : Value) (A : Around) (outer : List Env) (s : Shared) (H : Hp) (vs : List V) (Q : VK) (E : XK), (g = true → A.guards = some []) → Room k (A.deeper (envOfC qual (defScope st) s.heap.objs.size f cd)) → sp vs H Q E →
      ∃ t, PSs (cxD P w K mg base N qual st f cd A outer s H E) (defBody st) t ∧ t { nx := fun _ H2 => Q .non H2, rt := Q } (start N vs) H) : FnG P w K mg base g (k + 1) f fd ps sp := by
  obtain ⟨x1, x2, x3, x4, x5, x6, cd, x8, x9, rfl, look, code⟩ := F.ex
  refine ⟨ln, fun A outer s H args us vs Q E hg room e0 bd rv hs => ?_⟩
  have len1 := ln _ _ _ _ hs
  have kin : K.In s.heap := e0.mod.kin.keeps fun b o e => (e0.bs b o e).1
  have nl : s.heap.NoLimit := e0.mod.nolimit.keeps fun b o e => (e0.bs b o e).1
  have kinds : ∀ y, y ∈ ps.zip us → (defScope st).names.lookup y.1 = some .local ∨ ((defScope st).names.lookup y.1 = some .cell ∧ ((cellsFrom (s.heap.objs.size + 1) (defScope st).names []).lookup y.1).isSome = true) := by
    rintro ⟨a, b⟩ hm
    exact (S.par a (List.of_mem_zip hm).1).imp id fun q => ⟨q, PySem.W.cellsFrom_some _ _ _ (.inl q)⟩
  refine codeAny_call_function room.depth (kin _ _ look) rfl S.co S.gen rfl (PySem.W.codeRec_of kin code) (bd _ _ _ _ (wpAny_newFunctionEnv_cells S.kind kinds fun env ee s1 hc => ?_))
  cases ee
  refine ⟨nl.keeps hc.toInCall.keep, codeAny_func ?_⟩
  obtain ⟨t, ht, hq⟩ := body cd A outer s H vs Q E hg (room.deeper _) hs
  have inv : Inv (cxD P w K mg base N qual st f cd A outer s H E) [] (start N vs) H s1 := inv_start S room.hd e0 len1 rv hc
  have back : ∀ {σ' : L2.St} {H2 : Hp} {v : V} {u : Value} {s2 : Shared}, Inv (cxD P w K mg base N qual st f cd A outer s H E) [] σ' H2 s2 → RelV v u → Q v H2 → CE outer P w H s Q u s2 := fun {_ H2 v _ _} J r q => ⟨v, H2, J.os, J.bare, J.base, J.hok, r, q⟩
  refine wpAny_mono (ht.run [] s1 (start N vs) H _ inv hq) (fun fl s2 h2 => ?_) fun _ _ z => z
  rcases fl with _ | _ | _ | u
  · obtain ⟨_, _, J, q⟩ := h2
    exact back (v := V.non) (u := Value.none) J rfl q
  · obtain ⟨_, _, _, q⟩ := h2; exact False.elim q
  · obtain ⟨_, _, _, q⟩ := h2; exact False.elim q
  · obtain ⟨_, _, _, J, r, q⟩ := h2
    exact back J r q
def startD (N : Nat) (ds : List D) : DE := ds.map some ++ List.replicate (N - ds.length) none
def RS.res : RS → R D
  | .nx _ h => .ok .non h
  | .rt d h => .ok d h
  | .ex _ c fs h => .ex c fs h
  | _ => .no
def bodyF (N : Nat) (u : SD) : FD := fun ds h => (u (startD N ds) h).res
theorem so_start {m : Mp} {h : CH} {H : Hp} {vs : List V} {ds : List D} (N : List Str) (hl : vs.length ≤ N.length) (S : HR K CA m h H) (r : RpAll K CA m h H vs ds) : SO K CA m h H (start N vs) (startD N.length ds) := by
  have hds := r.length
  refine ⟨S, by simp [L2.start, startD, hds], fun i s e => ?_⟩
  unfold startD at e
  by_cases hi : i < ds.length
  · rw [List.getElem?_append_left (by simpa using hi), List.getElem?_map] at e
    cases q : ds[i]? with
    | none => rw [q] at e; cases e
    | some d =>
      rw [q] at e; cases e
      obtain ⟨v, e2, rv⟩ := r.getD q
      refine ⟨v, ?_, rv⟩
      unfold L2.start
      have hi := (List.getElem?_eq_some_iff.mp e2).1
      rw [List.getElem?_append_left (by simpa using hi), List.getElem?_map, e2]
      rfl
  · rw [List.getElem?_append_right (by simpa using hi), List.getElem?_replicate] at e
    split at e <;> cases e
theorem res_post {E : XK} {m : Mp} {h : CH} {H : Hp} {Q : VK} {r : RS} {σ : L2.St} (t : PostE K CA (wxD E) m h H σ Q r.res) : PostS K CA (wxD E) m h H { nx := fun _ H2 => Q .non H2, rt := Q } r := by
  cases r with
  | nx ρ' h' => exact fun m' σ' H' s S => t m' .non H' s S.hr .non
  | rt d h' => exact t
  | bk ρ' h' => exact t.elim
  | ct ρ' h' => exact t.elim
  | ex ρ' c fs h' => exact fun m' cls dd σ' H' s S x => t m' cls dd H' s S.hr x
  | no => exact t
theorem okD {nm qual : Str} {st : Stmt} {f : Addr} {fd : FuncData} {N ps : List Str} {k n l : Nat} {u : SD} (F : Fun K nm qual st f fd) (S : FnScope N ps (defScope st)) (hm : ps.length = l) (hn : N.length = n)
    (hb : ∀ (cd : Value) (A : Around) (outer : List Env) (s : Shared) (H : Hp) (E : XK), (g = true → A.guards = some []) → Room k (A.deeper (envOfC qual (defScope st) s.heap.objs.size f cd)) →
      Takes (cxD P w K mg base N qual st f cd A outer s H E) (wxD E) → ∃ tS, WSs (cxD P w K mg base N qual st f cd A outer s H E) K CA (wxD E) (defBody st) tS u) : FnG P w K mg base g (k + 1) f fd ps (spD K CA l (bodyF n u)) := by
  subst hm hn
  refine FnG.mk' F S (fun vs H Q E h => h.1) fun cd A outer s H vs Q E hg hr h => ?_
  obtain ⟨hl, m, ch, ds, hR, r, q⟩ := h
  obtain ⟨t, ws⟩ := hb cd A outer s H E hg hr (takes_of rfl rfl rfl rfl)
  have hle : vs.length ≤ N.length := by
    have := congrArg List.length S.pre
    rw [List.length_take] at this
    omega
  exact ⟨t, ws.pe, ws.sim m ch H _ _ _ (so_start N hle hR r) (res_post q)⟩
end
def pickD (ds zs : List D) : List Src → List D
  | [] => []
  | .p i :: r => ds.getD i .non :: pickD ds zs r
  | .k i :: r => zs.getD i .non :: pickD ds zs r
  | .c d :: r => d :: pickD ds zs r
section
variable {K : PySem.W.Frag} {CA : CAs} {m : Mp} {h : CH} {H : Hp}
theorem getP_rel {vs : List V} {us : List Value} {ds : List D} (r : Vals vs us) (rd : RpAll K CA m h H vs ds) (i : Nat) : ∃ v, RelV v (us.getD i .none) ∧ Rp K CA m h H v (ds.getD i .non) := by
  induction r generalizing ds i with
  | nil => cases rd; exact ⟨.non, rfl, .non⟩
  | cons a _ ih =>
    cases rd with
    | cons b rd =>
      cases i with
      | zero => exact ⟨_, a, b⟩
      | succ i => exact ih rd i
theorem pick_rel {vs zs : List V} {us ws : List Value} {ds es : List D} (r : Vals vs us) (rd : RpAll K CA m h H vs ds) (rz : Vals zs ws) (re : RpAll K CA m h H zs es) : ∀ {src : List Src} {cs : List Value}, Paired (Ever K CA) cs (consts src) →
    ∃ xs, Vals xs (pickL us ws src cs) ∧ RpAll K CA m h H xs (pickD ds es src)
  | [], _, _ => ⟨[], .nil, .nil⟩
  | .p i :: src, cs, q => by
    obtain ⟨xs, h1, h2⟩ := pick_rel r rd rz re (src := src) (cs := cs) q
    obtain ⟨v, h3, h4⟩ := getP_rel r rd i
    exact ⟨v :: xs, .cons h3 h1, .cons h4 h2⟩
  | .k i :: src, cs, q => by
    obtain ⟨xs, h1, h2⟩ := pick_rel r rd rz re (src := src) (cs := cs) q
    obtain ⟨v, h3, h4⟩ := getP_rel rz re i
    exact ⟨v :: xs, .cons h3 h1, .cons h4 h2⟩
  | .c d :: src, cs, q => by
    cases q with
    | cons a q =>
      obtain ⟨xs, h1, h2⟩ := pick_rel r rd rz re (src := src) q
      obtain ⟨v, h3, h4⟩ := a
      exact ⟨v :: xs, .cons h3 h1, .cons (h4 m h H) h2⟩
end
def dCallN (n l : Nat) (src : List Src) (F : FD) (ts tk : TDs) : TD := fun ρ h => (ts ρ h).bind fun ds h => (tk ρ h).bind fun zs h => if ds.length = n ∧ zs.length = l then F (pickD ds zs src) h else .no
def dCall (n : Nat) (F : FD) (ts : TDs) : TD := fun ρ h => (ts ρ h).bind fun ds h => if ds.length = n then F ds h else .no
def tCallN (K : PySem.W.Frag) (CA : CAs) (W : WX) (n l : Nat) (G : List D → List D → CH → R D) (t tk : TA) : TE := fun σ H Q => t σ H fun vs H1 => tk σ H1 fun zs H2 => vs.length = n ∧ zs.length = l ∧ ∃ (m : Mp) (h : CH) (ds es : List D), HR K CA m h H2 ∧ RpAll K CA m h H2 vs ds ∧ RpAll K CA m h H2 zs es ∧ PostE K CA W m h H2 σ Q (G ds es h)
section
variable {X : Cx} {K : PySem.W.Frag} {CA : CAs} {W : WX} {o e : Expr} {es : List Expr} {kws : List Keyword} {pos apos p : Pos} {ha : TE} {ta : TD} {hs hk : TA} {ts tk : TDs} {x nm : Str} {g : Bool} {k n l c0 : Nat} {ps ks : List Str} {src : List Src} {F : FD} {f : Addr} {fd : FuncData}
theorem run_fnG {sp : Sp} {Ex : L2.St → XK} {pins : List (Addr × Obj)} {σ : L2.St} {H : Hp} {s : Shared} {Q : VK} {args : Args} {us : List Value} {vs : List V} (G : FnG X.prog X.w X.K X.mg X.base g k f fd ps sp) (hG : g = true → X.A.guards = some []) (hr : Room k X.A)
    (hb : us.length = ps.length → BindsTo s fd args (ps.zip us)) (hx : PassesAt (L2.CX X.prog X.w) X σ (Ex σ)) (I : Inv X pins σ H s) (r : Vals vs us) (h : sp vs H Q (Ex σ)) : codeAny (model X.prog X.w) X.A (.call (.ref f) args) (fun r s' => match r with | .ok (.ret u) => EP X pins σ Q u s' | .ok _ => False | .error e => X.xe e s') s := by
  refine codeAny_mono (G.go X.A X.stack s H args us vs Q (Ex σ) hG hr I.env0 (hb (by rw [← r.length]; exact G.ln _ _ _ _ h)) r h) fun r s' hq => ?_
  rcases r with e | fl
  · exact hx pins H s e s' I hq
  · rcases fl with _ | _ | _ | u
    · exact hq.elim
    · exact hq.elim
    · exact hq.elim
    · exact I.after hq
theorem post_at {m : Mp} {h : CH} {H : Hp} {σ : L2.St} {Q : VK} {r : R D} (t : PostE K CA W m h H σ Q r) : PostE K CA (wxD (L2.WE W σ)) m h H [] Q r := by
  cases r with
  | ok d h' => exact t
  | ex c fs h' => exact t
  | no => exact t
theorem end_call {A : Around} {σ : L2.St} {pins : List (Addr × Obj)} {Q : VK} {u : Value} {args : List Value} {kw : List (Str × Value)} {s : Shared} (h : codeAny (model X.prog X.w) A (.call u ⟨args, kw⟩) (fun r s' => match r with | .ok (.ret u) => EP X pins σ Q u s' | .ok _ => False | .error e => X.xe e s') s) :
    wpAny (model X.prog X.w) A (call u args kw) (EP X pins σ Q) X.xe s := by
  refine wpAny_call (codeAny_mono h fun r s' hq => ?_)
  rcases r with e | fl
  · exact hq
  · rcases fl with _ | _ | _ | u <;> exact hq
theorem run_callN {pins : List (Addr × Obj)} {σ : L2.St} {H : Hp} {s : Shared} {Q : VK} {us ws : List Value} {vs zs : List V} {m : Mp} {h : CH} {ds es : List D} (G : FnG X.prog X.w X.K X.mg X.base g k f fd ps (spD X.K CA ps.length F)) (hG : g = true → X.A.guards = some []) (hr : Room k X.A) (B : KwB X.K CA fd ps n ks src) (tk : Takes X W)
    (I : Inv X pins σ H s) (r : Vals vs us) (rz : Vals zs ws) (l1 : vs.length = n) (l2 : zs.length = ks.length) (hR : HR X.K CA m h H) (rd : RpAll X.K CA m h H vs ds) (re : RpAll X.K CA m h H zs es) (hl : src.length = ps.length) (q : PostE X.K CA W m h H σ Q (F (pickD ds es src) h)) :
    wpAny (model X.prog X.w) X.A (call (.ref f) us (ks.zip ws)) (EP X pins σ Q) X.xe s := by
  obtain ⟨cs, hc, hb⟩ := B.ex
  obtain ⟨xs, h1, h2⟩ := pick_rel r rd rz re hc
  have hlen : ∀ {src : List Src}, (pickD ds es src).length = src.length := fun {src} => by
    induction src with
    | nil => rfl
    | cons a src ih => cases a <;> simp [pickD, ih]
  exact end_call (run_fnG G hG hr (fun _ => hb s us ws I.kIn (r.length.symm.trans l1) (rz.length.symm.trans l2)) (passAt tk σ) I h1 ⟨by rw [h2.length, hlen]; exact hl, m, h, _, hR, h2, post_at q⟩)
theorem sim_callN (s : SimA K CA W hs ts) (s' : SimA K CA W hk tk) : SimE K CA W (tCallN K CA W n l (fun ds es => F (pickD ds es src)) hs hk) (dCallN n l src F ts tk) := fun m h H σ ρ Q' S t =>
  s m h H σ ρ _ S (t.bind fun ds h1 m1 vs H1 s1 S1 r1 t1 => s' m1 h1 H1 σ ρ _ (S.move s1 S1) (t1.bind fun es h2 m2 zs H2 s2 S2 r2 t2 => by
    obtain ⟨⟨c1, c2⟩, t2⟩ := post_ite t2
    exact ⟨r1.length.trans c1, r2.length.trans c2, m2, h2, ds, es, S2, r1.move s2, r2, t2⟩))
theorem sim_call (s : SimA K CA W hs ts) : SimE K CA W (tCallN K CA W n 0 (fun ds _ => F ds) hs L2.tNil) (dCall n F ts) := fun m h H σ ρ Q' S t =>
  s m h H σ ρ _ S (t.bind fun ds h1 m1 vs H1 s1 S1 r1 t1 => by
    obtain ⟨c1, t1⟩ := post_ite t1
    exact ⟨r1.length.trans c1, rfl, m1, h1, ds, [], S1, r1, .nil, t1⟩)
structure WK (X : Cx) (K : PySem.W.Frag) (CA : CAs) (W : WX) (kws : List Keyword) (hs : TA) (ts : TDs) : Prop where
  pe : PK X kws hs
  sim : SimA K CA W hs ts
theorem wk_nil : WK X K CA W [] L2.tNil dNil := ⟨pk_nil, fun m h H σ ρ Q' S t => t.here S.hr .nil⟩
theorem wk_cons {nm : Option Str} {kpos : Pos} (h : WE X K CA W e ha ta) (h' : WK X K CA W kws hs ts) : WK X K CA W (⟨nm, e, kpos⟩ :: kws) (L2.tCons ha hs) (dCons ta ts) :=
  ⟨pk_cons h.pe h'.pe, sim_cons h.sim h'.sim⟩
theorem we_callK0 (D : Df X.prog X.w X.K X.mg X.base CA x g k ps F f fd) (hG : g = true → X.A.guards = some []) (hr : Room k X.A) (tk' : Takes X W) (h' : WK X K CA W kws hk tk) (B : KwB K CA fd ps 0 ks src) (hl : src.length = ps.length := by rfl) (hg : Gl X x := by rfl) (hK : X.K = K := by rfl)
    (hall : (backToKw pos (keywordEach kws X.env)).all (·.1.isSome) = true := by rfl) (hks : (backToKw pos (keywordEach kws X.env)).filterMap (·.1) = ks := by rfl) (hdb : (x == ("__debug__" : Str)) = false := by decide)
    (hpl : ((backTo pos (starEach [] X.env)).any (·.1) || (backToKw pos (keywordEach kws X.env)).any (·.1.isNone)) = false := by rfl) :
    WE X K CA W (.Call (.Name x p) [] kws pos) (tCallN K CA W 0 ks.length (fun ds es => F (pickD ds es src)) L2.tNil hk) (dCallN 0 ks.length src F dNil tk) := by
  subst hK
  refine ⟨⟨fun pins s σ H Q I hq => wpAny_Call_Name_kw (ld_glob I hg D.hm ?_ hdb)⟩, sim_callN (fun m h H σ ρ Q' S t => t.here S.hr .nil) h'.sim⟩
  refine PySem.W.callWith_KW0 (h₀ := X.base) I.ok.mod.kin D.hk hall (thn (h'.pe.run pos pins s σ H _ I hq) fun ws s1 ⟨zs, H1, I1, rz, l1, l2, m, h, ds, es, hR, rd, re, q⟩ => ⟨I1.kIn, ?_⟩) hpl
  rw [hks]
  exact run_callN (us := []) (vs := []) D.G hG hr B tk' I1 .nil rz l1 l2 hR rd re hl q
end
def dMethN (c0 : Nat) (nm : Str) (n l : Nat) (src : List Src) (F : FD) (ta : TD) (ts tk : TDs) : TD := fun ρ h => (ta ρ h).bind fun d h => match objOf h d with
  | some (c, fs) => if c = c0 ∧ (fs.lookup nm).isNone = true then (ts ρ h).bind fun ds h => (tk ρ h).bind fun zs h => if ds.length + 1 = n ∧ zs.length = l then F (pickD (d :: ds) zs src) h else .no else .no
  | none => .no
def tMethN (K : PySem.W.Frag) (CA : CAs) (W : WX) (c0 : Nat) (nm : Str) (n l : Nat) (G : List D → List D → CH → R D) (ta : TE) (t tk : TA) : TE := fun σ H Q => ta σ H fun x H1 => ∃ a dx fs, x = .ref a ∧ H1 a = some (.ins (CA c0) dx fs) ∧ fs.lookup nm = none ∧
  t σ H1 fun vs H2 => tk σ H2 fun zs H3 => vs.length + 1 = n ∧ zs.length = l ∧ ∃ (m : Mp) (h : CH) (ds es : List D), HR K CA m h H3 ∧ RpAll K CA m h H3 (.ref a :: vs) ds ∧ RpAll K CA m h H3 zs es ∧ PostE K CA W m h H3 σ Q (G ds es h)
section
variable {X : Cx} {K : PySem.W.Frag} {CA : CAs} {W : WX} {o e : Expr} {es : List Expr} {kws : List Keyword} {pos apos p : Pos} {ha : TE} {ta : TD} {hs hk : TA} {ts tk : TDs} {x nm : Str} {g : Bool} {k n l c0 : Nat} {ps ks : List Str} {src : List Src} {F : FD} {f : Addr} {fd : FuncData}
theorem sim_methN (s0 : SimE K CA W ha ta) (s : SimA K CA W hs ts) (s' : SimA K CA W hk tk) : SimE K CA W (tMethN K CA W c0 nm n l (fun ds es => F (pickD ds es src)) ha hs hk) (dMethN c0 nm n l src F ta ts tk) := fun m h H σ ρ Q' S t =>
  s0 m h H σ ρ _ S (t.bind fun d h1 m1 v H1 s1 S1 r1 t1 => by
    split at t1
    · rename_i c fs eo
      obtain ⟨⟨ec, hl⟩, t3⟩ := post_ite t1
      subst ec
      obtain ⟨a, dx, hfs, rfl, q1, q2, q3⟩ := rp_obj S1 r1 eo
      refine ⟨a, dx, hfs, rfl, q1, look_none q2 (Option.isNone_iff_eq_none.mp hl), s m1 h1 H1 σ ρ _ (S.move s1 S1) (t3.bind fun ds h2 m2 vs H2 s2 S2 r2 t2 => s' m2 h2 H2 σ ρ _ ((S.move s1 S1).move s2 S2) (t2.bind fun es h3 m3 zs H3 s3 S3 r3 t4 => ?_))⟩
      obtain ⟨⟨c1, c2⟩, t4⟩ := post_ite t4
      exact ⟨by rw [r2.length]; exact c1, r3.length.trans c2, m3, h3, d :: ds, es, S3, .cons ((r1.move s2).move s3) (r2.move s3), r3, t4⟩
    · exact t1.elim)
abbrev MethAt (X : Cx) (o : Expr) (nm : Str) (apos pos : Pos) (es : List Expr) (kws : List Keyword) (pl : Sem Bool) : Prop := eval (.Call (.Attribute o nm apos) es kws pos) X.env = (do
      let ov ← eval o X.env
      standAt apos.atName
      let (f, first) ← holding [ov] (getMethod ov nm pl)
      callWith pos f first (backTo pos (starEach es X.env)) (backToKw pos (keywordEach kws X.env)))
theorem we_meth {pl : Sem Bool} (M : Mtd X.prog X.w X.K X.mg X.base CA c0 nm g k ps F f fd) (hG : g = true → X.A.guards = some []) (hr : Room k X.A) (tk' : Takes X W) (h0 : WE X K CA W o ha ta) (h : WA X K CA W (e :: es) hs ts) (B : KwB K CA fd ps n [] src) (hl : src.length = ps.length := by rfl) (hK : X.K = K := by rfl)
    (he : starEach (e :: es) X.env = (false, eval e X.env) :: starEach es X.env := by rfl) (hpl : (backTo pos (starEach es X.env)).any (·.1) = false := by rfl) (ht : MethAt X o nm apos pos (e :: es) [] pl := by rfl) :
    WE X K CA W (.Call (.Attribute o nm apos) (e :: es) [] pos) (tMethN K CA W c0 nm n 0 (fun ds es => F (pickD ds es src)) ha hs L2.tNil) (dMethN c0 nm n 0 src F ta ts dNil) := by
  subst hK
  refine ⟨⟨fun pins s σ H Q I hq => PySem.W.methodCall_KW (pl := pl) (thn (h0.pe.run pins s σ H _ I hq) fun u s1 ⟨x, H1, I1, rx, a, dx, fs, ex, ea, ln, q⟩ => ?_) ht⟩, sim_methN h0.sim h.sim fun m h H σ ρ Q' S t => t.here S.hr .nil⟩
  subst ex
  obtain rfl : u = Value.ref a := rx
  refine getmeth_ok I1 ea M.cl M.mt ln ?_
  refine PySem.W.callWith_K (first := [.ref a]) (h₀ := X.base) I.ok.mod.kin M.mt.kp (thn (h.pe.run pos pins s1 σ H1 _ I1 q) fun us s2 ⟨vs, H2, I2, r, l1, l2, m, h, ds, es, hR, rd, re, q2⟩ => ⟨I2.kIn, ?_⟩) he hpl
  exact run_callN (us := .ref a :: us) (vs := .ref a :: vs) (ws := []) M.G hG hr B tk' I2 (.cons rfl r) .nil l1 l2 hR rd re hl q2
end
def dMakeN (c0 : Nat) (fr : Bool) (n l : Nat) (src : List Src) (F : FD) (ts tk : TDs) : TD := fun ρ h => (ts ρ h).bind fun ds h => (tk ρ h).bind fun zs h => if ds.length + 1 = n ∧ zs.length = l then (F (pickD (.ref h.nx :: ds) zs src) (h.new (.obj c0 []))).bind fun r h2 => match r with
  | .non => if fr = true then fz (.ref h.nx) h2 else .ok (.ref h.nx) h2
  | _ => .no
  else .no
def tMakeN (K : PySem.W.Frag) (CA : CAs) (W : WX) (c0 : Nat) (n l : Nat) (G : List D → List D → CH → R D) (t tk : TA) : TE := fun σ H Q => t σ H fun vs H1 => tk σ H1 fun zs H2 => vs.length + 1 = n ∧ zs.length = l ∧ ∀ a da, H2 a = none → H2 da = none → da ≠ a →
  ∃ (m : Mp) (h : CH) (ds es : List D), HR K CA m h (upd (upd H2 da (.own a)) a (.ins (CA c0) da [])) ∧ RpAll K CA m h (upd (upd H2 da (.own a)) a (.ins (CA c0) da [])) (.ref a :: vs) ds ∧ RpAll K CA m h (upd (upd H2 da (.own a)) a (.ins (CA c0) da [])) zs es ∧
    PostE K CA W m h (upd (upd H2 da (.own a)) a (.ins (CA c0) da [])) σ (fun v H3 => v = .non ∧ Q (.ref a) H3) (G ds es h)
section
variable {X : Cx} {K : PySem.W.Frag} {CA : CAs} {W : WX} {e : Expr} {es : List Expr} {kws : List Keyword} {pos p : Pos} {hs hk : TA} {ts tk : TDs} {x : Str} {k n l c0 : Nat} {ps ks : List Str} {src : List Src} {F : FD} {f : Addr} {fd : FuncData} {fr : Bool}
theorem sim_makeN (s : SimA K CA W hs ts) (s' : SimA K CA W hk tk) : SimE K CA W (tMakeN K CA W c0 n l (fun ds es => F (pickD ds es src)) hs hk) (dMakeN c0 fr n l src F ts tk) := fun m h H σ ρ Q' S t =>
  s m h H σ ρ _ S (t.bind fun ds h1 m1 vs H1 s1 S1 r1 t1 => s' m1 h1 H1 σ ρ _ (S.move s1 S1) (t1.bind fun es h2 m2 zs H2 s2 S2 r2 t2 => by
    obtain ⟨⟨c1, c2⟩, t2⟩ := post_ite t2
    refine ⟨by rw [r1.length]; exact c1, r2.length.trans c2, fun a da na nd ne => ?_⟩
    have gr : ∀ b u, H2 b = some u → (upd (upd H2 da (.own a)) a (.ins (CA c0) da [])) b = some u := fun b u e => by
      rw [upd_ne (ne_of_none e na), upd_ne (ne_of_none e nd)]; exact e
    have sN := stp_new (o := .obj c0 []) S2 na gr
    have SN := S2.new (o := .obj c0 []) na gr (.obj upd_same rfl .nil)
    have ra := Rp.ref (K := K) (CA := CA) (m := mpNew m2 h2 a) (h := h2.new (.obj c0 [])) (H := upd (upd H2 da (.own a)) a (.ins (CA c0) da [])) (k := h2.nx) (Nat.lt_succ_self _)
    rw [mpNew_nx] at ra
    refine ⟨mpNew m2 h2 a, h2.new (.obj c0 []), .ref h2.nx :: ds, es, SN, .cons ra ((r1.move s2).move sN), r2.move sN, ?_⟩
    show PostE K CA W _ _ _ σ _ (F (pickD (.ref h2.nx :: ds) es src) (h2.new (.obj c0 [])))
    cases ef : F (pickD (.ref h2.nx :: ds) es src) (h2.new (.obj c0 [])) with
    | no => rw [ef] at t2; exact t2.elim
    | ex c fs h' => rw [ef] at t2; exact fun m' cls dd H' s' S' xr => t2 m' cls dd H' (sN.trans s') S' xr
    | ok d h' =>
      rw [ef] at t2
      intro m' v H' s' S' rv
      have mk : m' h2.nx = a := by
        have := s'.mp h2.nx (Nat.lt_succ_self _)
        rw [mpNew_nx] at this
        exact this
      have rk : Rp K CA m' h' H' (.ref a) (.ref h2.nx) := by
        rw [← mk]
        exact .ref (Nat.lt_of_lt_of_le (Nat.lt_succ_self _) s'.nx)
      cases d with
      | non =>
        cases rv
        refine ⟨rfl, ?_⟩
        have t3 : PostE K CA W m2 h2 H2 σ Q' (if fr = true then fz (.ref h2.nx) h' else .ok (.ref h2.nx) h') := t2
        cases fr with
        | true => exact fz_post S' rk (t3.from (sN.trans s'))
        | false => exact t3 m' _ H' (sN.trans s') S' rk
      | _ => exact t2.elim))
theorem run_makeN' {pins : List (Addr × Obj)} {σ : L2.St} {H : Hp} {s : Shared} {Q : VK} {us ws : List Value} {vs zs : List V} (D : Mkd X.prog X.w X.K X.mg X.base CA c0 x k ps F f fd) (hr : Room (k + 1) X.A) (B : KwB X.K CA fd ps n ks src) (tk' : Takes X W) (hl : src.length = ps.length)
    (I : Inv X pins σ H s) (r : Vals vs us) (rz : Vals zs ws) (l1 : vs.length + 1 = n) (l2 : zs.length = ks.length)
    (q : ∀ a da, H a = none → H da = none → da ≠ a → ∃ (m : Mp) (h : CH) (ds es : List CM.D), HR X.K CA m h (upd (upd H da (.own a)) a (.ins (CA c0) da [])) ∧ RpAll X.K CA m h (upd (upd H da (.own a)) a (.ins (CA c0) da [])) (.ref a :: vs) ds ∧ RpAll X.K CA m h (upd (upd H da (.own a)) a (.ins (CA c0) da [])) zs es ∧
      PostE X.K CA W m h (upd (upd H da (.own a)) a (.ins (CA c0) da [])) σ (fun v H3 => v = .non ∧ Q (.ref a) H3) (F (pickD ds es src) h)) :
    wpAny (model X.prog X.w) X.A (call (.ref (CA c0)) us (ks.zip ws)) (EP X pins σ Q) X.xe s := by
  obtain ⟨m, h, ds, es, hR, rd, re, q⟩ := q (s.heap.objs.size + 1) s.heap.objs.size (I.hok.fresh (Nat.le_succ _)) (I.hok.fresh (Nat.le_refl _)) (Nat.ne_of_lt (Nat.lt_succ_self _))
  have I2 := Inv.made (C := CA c0) I
  have r1 : Vals (V.ref (s.heap.objs.size + 1) :: vs) (Value.ref (s.heap.objs.size + 1) :: us) := .cons rfl r
  obtain ⟨cs, hc, hb⟩ := B.ex
  obtain ⟨xs, h1, h2⟩ := pick_rel r1 rd rz re hc
  have hlen : ∀ {src : List Src}, (pickD ds es src).length = src.length := fun {src} => by
    induction src with
    | nil => rfl
    | cons a src ih => cases a <;> simp [pickD, ih]
  have n1 : (Value.ref (s.heap.objs.size + 1) :: us).length = n := by rw [← r1.length]; exact l1
  refine wpAny_call (make_map (f := f) I.kIn D.mkd.makes D.mkd.init (beq_iff_eq.mp D.mkd.fn) (codeAny_mono (D.G.go _ X.stack _ _ ⟨Value.ref (s.heap.objs.size + 1) :: us, ks.zip ws⟩ _ xs _ (L2.WE W σ) (fun z => nomatch z) (hr.make (CA c0) us (ks.zip ws))
    (I2.env0.make (CA c0) us (ks.zip ws)) (hb _ (Value.ref (s.heap.objs.size + 1) :: us) ws I2.kIn n1 (rz.length.symm.trans l2)) h1 ⟨by rw [h2.length, hlen]; exact hl, m, h, _, hR, h2, post_at q⟩) fun r s' hq' => ?_))
  rcases r with er | fl
  · exact passAt tk' σ pins _ _ er s' I2 hq'
  · rcases fl with _ | _ | _ | u
    · exact False.elim hq'
    · exact False.elim hq'
    · exact False.elim hq'
    · obtain ⟨v, H', I3, rv, ev, q3⟩ := I2.after hq'
      subst ev
      exact ⟨rv, ⟨V.ref (s.heap.objs.size + 1), H', I3, rfl, q3⟩⟩
theorem we_make (fr : Bool) (D : Mkd X.prog X.w X.K X.mg X.base CA c0 x k ps F f fd) (hr : Room (k + 1) X.A) (tk' : Takes X W) (h : WA X K CA W (e :: es) hs ts) (B : KwB K CA fd ps n [] src) (hl : src.length = ps.length := by rfl) (hg : Gl X x := by rfl) (hK : X.K = K := by rfl)
    (hdb : (x == ("__debug__" : Str)) = false := by decide) (he : starEach (e :: es) X.env = (false, eval e X.env) :: starEach es X.env := by rfl) (hpl : (backTo pos (starEach es X.env)).any (·.1) = false := by rfl) :
    WE X K CA W (.Call (.Name x p) (e :: es) [] pos) (tMakeN K CA W c0 n 0 (fun ds es => F (pickD ds es src)) hs L2.tNil) (dMakeN c0 fr n 0 src F ts dNil) := by
  subst hK
  refine ⟨⟨fun pins s σ H Q I hq => wpAny_Call_Name_kw (ld_glob I hg D.hm ?_ hdb)⟩, sim_makeN h.sim fun m h H σ ρ Q' S t => t.here S.hr .nil⟩
  refine PySem.W.callWith_K (h₀ := X.base) I.ok.mod.kin D.mkd.kp (thn (h.pe.run pos pins s σ H _ I hq) fun us s1 ⟨vs, H1, I1, r, l1, l2, q⟩ => ⟨I1.kIn, ?_⟩) he hpl
  exact run_makeN' (ws := []) D hr B tk' hl I1 r .nil l1 l2 q
end
section
variable {X : Cx} {K : PySem.W.Frag} {CA : CAs} {W : WX} {x : Str} {d : D} {p : Pos} {mg : Str → Option Value}
theorem we_gv (G : GV K CA X.mg x d) (hg : Gl X x := by rfl) (hd : (x == ("__debug__" : Str)) = false := by decide) : WE X K CA W (.Name x p) (L2.tC G.v) (dC d) := by
  have h : ∃ u, X.mg x = some u ∧ RelV G.v u ∧ ∀ m h H, Rp K CA m h H G.v d := Classical.choose_spec G
  obtain ⟨u, h1, h2, h3⟩ := h
  exact ⟨pe_glob hg h1 h2 hd, fun m h H σ ρ Q' S t => t.here S.hr (h3 m h H)⟩
theorem gv_int {i : Int} {t : Tok} (h : mg x = some (.int i t)) : GV K CA mg x (.int i) := ⟨.int i, _, h, ⟨t, rfl⟩, fun _ _ _ => .int i⟩
inductive WrV (K : PySem.W.Frag) : Value → D → Prop
  | str (x : Str) (t : Tok) : WrV K (.str x t) (.str x)
  | int (i : Int) (t : Tok) : WrV K (.int i t) (.int i)
  | bl (b : Bool) : WrV K (.bool b) (.bl b)
  | non : WrV K .none .non
  | tup {a : Addr} {dd : Option Addr} {us : List Value} {n : Nat} {sl : Array (Option Value)} {ds : List D} : K.lookup a = some ⟨.type "tuple", dd, .seq us.toArray n, sl⟩ → Paired (WrV K) us ds → us.length ≤ sizeLine → WrV K (.ref a) (.tup ds)
end
def fLen : FD := fun ds h => match ds with
  | [.str z] => if z.length ≤ sizeLine then .ok (.int z.length) h else .no
  | [.scr ns] => .ok (.int ns.length) h
  | [d] => match seqOf h d with
    | some xs => .ok (.int xs.length) h
    | none => match dctOf h d with
      | some kvs => .ok (.int kvs.length) h
      | none => .no
  | _ => .no
def rLenU (K : PySem.W.Frag) : List V → Hp → VK → Prop := fun xs H Q => (∃ p ys, xs = [V.ref p] ∧ (SqL K H p ys ∨ SqT K H p ys) ∧ Q (.int ys.length) H) ∨ ((∃ z, xs = [V.str z] ∧ z.length ≤ sizeLine ∧ Q (.int z.length) H) ∨ ∃ a kvs, xs = [V.ref a] ∧ Rd H a (.dK kvs) ∧ Q (.int kvs.length) H)
section
variable {X : Cx} {K : PySem.W.Frag} {CA : CAs} {W : WX}
theorem call_lenU (hK : X.K = K := by rfl) (hl : CallR X (.builtin "len") (fun xs H Q => ∃ a kvs, xs = [V.ref a] ∧ Rd H a (.dK kvs) ∧ Q (.int kvs.length) H)) : CallR X (.builtin "len") (rLenU K) := by subst hK; exact call_len_seq.or (call_len_str.or hl)
theorem sim_len : SimC K CA (rLenU K) fLen := by
  intro W σ m h H xs ds Q' S r t
  unfold fLen at t
  split at t
  · obtain ⟨l, t⟩ := post_ite t
    cases r with
    | cons r1 r2 => cases r1; cases r2; exact .inr (.inl ⟨_, rfl, l, t.here S (.int _)⟩)
  · cases r with
    | cons r1 r2 =>
      cases r2
      cases r1 with
      | scr n e => exact .inl ⟨_, _, rfl, .inl (.inl (.inr ⟨_, e⟩)), by rw [List.length_map]; exact t.here S (.int _)⟩
      | kscr e => exact .inl ⟨_, _, rfl, .inl (sl_emp e), by rw [List.length_map]; exact t.here S (.int _)⟩
  · cases r with
    | cons r1 r2 =>
      cases r2
      split at t
      · rename_i xs e
        obtain ⟨a, ys, rfl, e1, rr⟩ := rp_seq S r1 e
        exact .inl ⟨a, ys, rfl, e1, by rw [rr.length]; exact t.here S (.int _)⟩
      · split at t
        · rename_i kvs e
          obtain ⟨a, o, hk, rfl, e1, c, en, rr⟩ := rp_dct S r1 e
          refine .inr (.inr ⟨a, hk, rfl, ?_, by rw [len_of en]; exact t.here S (.int _)⟩)
          rcases core_dK c with rfl | ⟨ob, rfl⟩
          · exact .inl e1
          · exact .inr ⟨ob, e1⟩
        · exact t.elim
  · exact t.elim
end
def tgOf (h : CH) : D → Option Tg
  | .non => some (.b "NoneType") | .bl _ => some (.b "bool") | .int _ => some (.b "int") | .str _ => some (.b "str") | .lst _ => some (.b "list") | .tup _ => some (.b "tuple") | .dct _ => some (.b "dict")
  | .obj c _ => some (.o c)
  | .scr _ => some (.b "list")
  | .ref k => match h.ob k with
    | some (.lst _) => some (.b "list")
    | some (.dct _) => some (.b "dict")
    | some (.lck _) => some (.b "dict")
    | some (.lkl _) => some (.b "list")
    | some (.obj c _) => some (.o c)
    | _ => none
  | _ => none
def clsOf : D → Option Tg
  | .ty n => some (.b n)
  | .cls c => some (.o c)
  | _ => none
def clssOf : List D → Option (List Tg)
  | [] => some []
  | d :: ds => match clsOf d, clssOf ds with
    | some t, some ts => some (t :: ts)
    | _, _ => none
abbrev KT := Tg → Tg → Option Bool
structure KtOk (K : PySem.W.Frag) (CA : CAs) (own : List Nat) (kt : KT) : Prop where
  one : ∀ a b r, kt a b = some r → PySem.W.kitOne K (a.v CA) (b.v CA) = some r
  ins : ∀ c, c ∈ own → Cls K (CA c) ∧ PySem.W.findIn K (.ref (CA c)) "__class__" = some (some (.builtin "object.__class__")) ∧ PySem.W.specialIn K (.builtin "object.__class__") "__get__" = some (some (.builtin "getset_descriptor.__get__")) ∧ PySem.W.takesIn K (.builtin "object.__class__") = some true ∧ PySem.W.mroIn K (CA c) (.type "object") = some true
def okTg (own : List Nat) : Tg → Bool
  | .b _ => true
  | .o c => decide (c ∈ own)
def fIsi (own : List Nat) (kt : KT) : FD := fun ds h => match ds with
  | [d, t] => match tgOf h d, clsOf t with
    | some a, some b => if okTg own a = true then (match kt a b with
      | some r => .ok (.bl r) h
      | none => .no) else .no
    | _, _ => .no
  | _ => .no
def ktAny (kt : KT) (a : Tg) : List Tg → Option Bool
  | [] => some false
  | b :: bs => match kt a b with
    | some true => some true
    | some false => ktAny kt a bs
    | none => none
def fIsT (own : List Nat) (kt : KT) : FD := fun ds h => match ds with
  | [d, .tup ts] => match tgOf h d, clssOf ts with
    | some a, some bs => if okTg own a = true then (match ktAny kt a bs with
      | some r => .ok (.bl r) h
      | none => .no) else .no
    | _, _ => .no
  | _ => .no
section
variable {X : Cx} {K : PySem.W.Frag} {CA : CAs} {W : WX} {m : Mp} {h : CH} {H : Hp} {own : List Nat} {kt : KT}
theorem rp_tg {v : V} {d : D} {a : Tg} (kk : KtOk K CA own kt) (S : HR K CA m h H) (r : Rp K CA m h H v d) (e : tgOf h d = some a) (ok : okTg own a = true) : TyX K H v (a.v CA) := by
  have io : ∀ {c : Nat} {p dx : Addr} {fs : List (Str × V)}, H p = some (.ins (CA c) dx fs) → okTg own (.o c) = true → TyX K H (.ref p) ((Tg.o c).v CA) := fun {c p dx fs} e ok => by
    obtain ⟨h1, h2, h3, h4, h5⟩ := kk.ins c (by simpa [okTg] using ok)
    exact .base (.ins e h1 h2 h3 h4 h5)
  cases r with
  | non => cases e; exact .base .non
  | bl b => cases e; exact .base (.bl b)
  | int b => cases e; exact .base (.int b)
  | str b => cases e; exact .base (.str b)
  | lst _ q _ => cases e; exact .base (.lst q)
  | tup _ q _ => cases e; exact .base (.tup q)
  | ktup q _ =>
    cases e
    rcases q with q | ⟨o, its, n, hk, hc, _⟩
    · rcases q with q | ⟨o, q⟩ <;> cases q
    · exact .kTuple hk hc
  | dct _ q c _ _ =>
    cases e
    rcases core_dK c with rfl | ⟨ob, rfl⟩
    · exact .base (.dK q)
    · exact .fDict q
  | obj _ q _ _ => cases e; exact io q ok
  | scr _ q => cases e; exact .base (.frz q)
  | kscr q =>
    cases e
    rcases q with q | ⟨o, its, n, hk, hc, _⟩
    · rcases q with q | ⟨o, q⟩ <;> cases q
    · exact .kList hk hc
  | ref l =>
    simp only [tgOf] at e
    split at e
    · rename_i q
      obtain ⟨xs, q1, _⟩ := mo_lst S q
      cases e; exact .base (.lst q1)
    · rename_i q
      obtain ⟨xs, q1, _⟩ := mo_dct S q
      cases e; exact .base (.dK q1)
    · rename_i q
      have x := (S.ob _ _ q).2
      cases x with
      | lck q1 en r => cases e; exact .fDict q1
    · rename_i q
      have x := (S.ob _ _ q).2
      cases x with
      | lkl q1 r => cases e; exact .base (.lst q1)
    · rename_i q
      obtain ⟨dx, xs, q1, _⟩ := mo_obj S q
      cases e; exact io q1 ok
    · cases e
  | ty => cases e
  | cls => cases e
  | exc => cases e
theorem rp_cls {v : V} {d : D} {b : Tg} (r : Rp K CA m h H v d) (e : clsOf d = some b) : ClsV v (b.v CA) := by
  cases r with
  | ty n => cases e; exact .ty n
  | cls c => cases e; exact .own _
  | _ => cases e
theorem rp_clss {vs : List V} {ds : List D} {bs : List Tg} (r : RpAll K CA m h H vs ds) (e : clssOf ds = some bs) : Paired ClsV vs (bs.map (Tg.v CA)) := by
  induction vs generalizing ds bs with
  | nil => cases r; cases e; exact .nil
  | cons v vs ih =>
    cases r with
    | cons r1 r2 =>
      simp only [clssOf] at e
      split at e
      · rename_i t ts e1 e2
        cases e
        exact .cons (rp_cls r1 e1) (ih r2 e2)
      · cases e
theorem kt_any {a : Tg} (kk : KtOk K CA own kt) : ∀ {bs : List Tg} {r : Bool}, ktAny kt a bs = some r → PySem.W.kitAny K (a.v CA) (bs.map (Tg.v CA)) = some r
  | [], r, e => by cases e; rfl
  | b :: bs, r, e => by
    simp only [ktAny] at e
    simp only [List.map_cons, PySem.W.kitAny]
    split at e
    · rename_i q
      rw [kk.one a b _ q]
      exact e
    · rename_i q
      rw [kk.one a b _ q]
      exact kt_any kk e
    · cases e
theorem call_isiU (hK : X.K = K := by rfl) : CallR X (.builtin "isinstance") (rIsi K) := by subst hK; exact call_isi
theorem sim_isi (kk : KtOk K CA own kt) : SimC K CA (rIsi K) (fIsi own kt) := by
  intro W σ m h H xs ds Q' S r t
  unfold fIsi at t
  split at t
  · split at t
    · rename_i a b ea eb
      obtain ⟨ok, t⟩ := post_ite t
      split at t
      · rename_i r' ek
        cases r with
        | cons r1 r2 => cases r2 with
          | cons r2 r3 => cases r3; exact ⟨_, _, _, _, _, rfl, rp_cls r2 eb, rp_tg kk S r1 ea ok, kk.one _ _ _ ek, t.here S (.bl _)⟩
      · exact t.elim
    · exact t.elim
  · exact t.elim
def rIsiU (K : PySem.W.Frag) : List V → Hp → VK → Prop := fun xs H Q => rIsiT K xs H Q ∨ rIsiK K xs H Q
theorem call_isiTU (hK : X.K = K := by rfl) : CallR X (.builtin "isinstance") (rIsiU K) := by subst hK; exact call_isiT.or call_isiK
theorem sim_isT (kk : KtOk K CA own kt) : SimC K CA (rIsiU K) (fIsT own kt) := by
  intro W σ m h H xs ds Q' S r t
  unfold fIsT at t
  split at t
  · split at t
    · rename_i a bs ea eb
      obtain ⟨ok, t⟩ := post_ite t
      split at t
      · rename_i r' ek
        cases r with
        | cons r1 r2 => cases r2 with
          | cons r2 r3 =>
            cases r3
            cases r2 with
            | tup n2 e2 ra => exact .inl ⟨_, _, _, _, _, _, rfl, e2, rp_clss ra eb, rp_tg kk S r1 ea ok, kt_any kk ek, t.here S (.bl _)⟩
            | ktup hk ra =>
              have hp := rp_clss ra eb
              have ha := kt_any kk ek
              rcases hk with hk | ⟨ob, its, m2, h1, h2, h3, h4, h5⟩
              · rcases hk with hk | ⟨_, hk⟩ <;> cases hk
              · have e3 := ClsV.all hp h5
                obtain ⟨oc, od, dt, sl⟩ := ob
                simp only at h2 h3
                subst h2 h3
                refine .inr ⟨_, _, od, _, m2, sl, _, _, rfl, ?_, rp_tg kk S r1 ea ok, ha, t.here S (.bl _)⟩
                rw [h1, ← e3]
      · exact t.elim
    · exact t.elim
  · exact t.elim
end
section
variable {X : Cx} {K : PySem.W.Frag} {CA : CAs} {W : WX} {m : Mp} {h : CH} {H : Hp}
def fListOf (nm : Bool) : FD := fun ds h => match ds with
  | [d] => match seqOf h d with
    | some xs => mkL nm xs h
    | none => .no
  | _ => .no
def fTupOf : FD := fun ds h => match ds with
  | [.tup xs] => .ok (.tup xs) h
  | [d] => match lstOf h d with
    | some xs => .ok (.tup xs) h
    | none => .no
  | _ => .no
def rListOf (K : PySem.W.Frag) : List V → Hp → VK → Prop := fun xs H Q => ∃ p ys, xs = [V.ref p] ∧ (SqL K H p ys ∨ SqT K H p ys) ∧ ∀ l, H l = none → Q (.ref l) (upd H l (.lst ys))
def rTupOf (K : PySem.W.Frag) : List V → Hp → VK → Prop := fun xs H Q => ∃ p ys, xs = [V.ref p] ∧ ((SqL K H p ys ∧ ∀ l, H l = none → Q (.ref l) (upd H l (.tup ys))) ∨ (SqT K H p ys ∧ Q (.ref p) H))
theorem call_listOf (hK : X.K = K := by rfl) : CallR X (.type "list") (rListOf K) := by subst hK; exact call_list_of
theorem call_tupOf (hK : X.K = K := by rfl) : CallR X (.type "tuple") (rTupOf K) := by subst hK; exact call_tuple_of
theorem sim_listOf {nm : Bool} : SimC K CA (rListOf K) (fListOf nm) := by
  intro W σ m h H xs ds Q' S r t
  unfold fListOf at t
  split at t
  · split at t
    · rename_i xs e
      cases r with
      | cons r1 r2 =>
        cases r2
        obtain ⟨a, ys, rfl, e1, rr⟩ := rp_seq S r1 e
        exact ⟨a, ys, rfl, e1, fun l n => mkL_post S n rr t⟩
    · exact t.elim
  · exact t.elim
theorem sim_tupOf : SimC K CA (rTupOf K) fTupOf := by
  intro W σ m h H xs ds Q' S r t
  unfold fTupOf at t
  split at t
  · cases r with
    | cons r1 r2 =>
      cases r2
      obtain ⟨a, ys, rfl, e1, rr⟩ := rp_tup r1
      exact ⟨a, ys, rfl, .inr ⟨e1, t.here S r1⟩⟩
  · split at t
    · rename_i xs e
      cases r with
      | cons r1 r2 =>
        cases r2
        obtain ⟨a, ys, rfl, e1, rr⟩ := rp_lst S r1 e
        exact ⟨a, ys, rfl, .inl ⟨.of e1, fun l n => t.laid S n (.tup (S.fresh n) upd_same (rps_laid S n rr))⟩⟩
    · exact t.elim
  · exact t.elim
def fMin : FD := fun ds h => match ds with
  | [.int i, .int j] => .ok (.int (if j < i then j else i)) h
  | _ => .no
def fAbs : FD := fun ds h => match ds with
  | [.int i] => .ok (.int (if i < 0 then -i else i)) h
  | _ => .no
def fInt : FD := fun ds h => match ds with
  | [.int i] => .ok (.int i) h
  | [.bl k] => .ok (.int (if k then 1 else 0)) h
  | _ => .no
def fNeg : F1 := fun d h => match d with
  | .int i => .ok (.int (-i)) h
  | _ => .no
def rMin : List V → Hp → VK → Prop := fun xs H Q => ∃ i j, xs = [V.int i, V.int j] ∧ Q (.int (if j < i then j else i)) H
def rMax : List V → Hp → VK → Prop := fun xs H Q => ∃ i j, xs = [V.int i, V.int j] ∧ Q (.int (if j > i then j else i)) H
def rAbs : List V → Hp → VK → Prop := fun xs H Q => ∃ i, xs = [V.int i] ∧ Q (.int (if i < 0 then -i else i)) H
def rInt : List V → Hp → VK → Prop := fun xs H Q => (∃ i, xs = [V.int i] ∧ Q (.int i) H) ∨ ∃ k, xs = [V.bl k] ∧ Q (.int (if k then 1 else 0)) H
theorem call_minU (hc : X.calm = true := by rfl) : CallR X (.builtin "min") rMin := call_min2 hc
theorem sim_min : SimC K CA rMin fMin := by
  intro W σ m h H xs ds Q' S r t
  unfold fMin at t
  split at t
  · cases r with
    | cons r1 r2 => cases r2 with
      | cons r2 r3 => cases r1; cases r2; cases r3; exact ⟨_, _, rfl, t.here S (.int _)⟩
  · exact t.elim
theorem sim_abs : SimC K CA rAbs fAbs := by
  intro W σ m h H xs ds Q' S r t
  unfold fAbs at t
  split at t
  · cases r with
    | cons r1 r2 => cases r1; cases r2; exact ⟨_, rfl, t.here S (.int _)⟩
  · exact t.elim
theorem sim_int : SimC K CA rInt fInt := by
  intro W σ m h H xs ds Q' S r t
  unfold fInt at t
  split at t
  · cases r with
    | cons r1 r2 => cases r1; cases r2; exact .inl ⟨_, rfl, t.here S (.int _)⟩
  · cases r with
    | cons r1 r2 => cases r1; cases r2; exact .inr ⟨_, rfl, t.here S (.int _)⟩
  · exact t.elim
end
def intsOf : List D → Option (List Int)
  | [] => some []
  | .int i :: r => match intsOf r with
    | some is => some (i :: is)
    | none => none
  | _ => none
def blsOf : List D → Option (List Bool)
  | [] => some []
  | .bl i :: r => match blsOf r with
    | some is => some (i :: is)
    | none => none
  | _ => none
def fAllB (neg : Bool) : FD := fun ds h => match ds with
  | [d] => match lstOf h d with
    | some xs => match blsOf xs with
      | some bs => .ok (.bl (if neg then bs.any id else bs.all id)) h
      | none => .no
    | none => .no
  | _ => .no
section
variable {X : Cx} {K : PySem.W.Frag} {CA : CAs} {W : WX} {m : Mp} {h : CH} {H : Hp} {e : Expr} {pos : Pos} {ha : TE} {ta : TD}
theorem rp_ints : ∀ {ds : List D} {is : List Int} {vs : List V}, RpAll K CA m h H vs ds → intsOf ds = some is → vs = is.map V.int ∧ ds = is.map D.int
  | [], is, vs, r, e => by cases r; cases e; exact ⟨rfl, rfl⟩
  | d :: ds, is, vs, r, e => by
    cases r with
    | cons r1 r2 =>
      cases r1 with
      | int i =>
        simp only [intsOf] at e
        split at e
        · rename_i is' e'
          cases e
          obtain ⟨e1, e2⟩ := rp_ints r2 e'
          exact ⟨by rw [e1]; rfl, by rw [e2]; rfl⟩
        · cases e
      | _ => simp [intsOf] at e
theorem rp_bls : ∀ {ds : List D} {is : List Bool} {vs : List V}, RpAll K CA m h H vs ds → blsOf ds = some is → vs = is.map V.bl ∧ ds = is.map D.bl
  | [], is, vs, r, e => by cases r; cases e; exact ⟨rfl, rfl⟩
  | d :: ds, is, vs, r, e => by
    cases r with
    | cons r1 r2 =>
      cases r1 with
      | bl i =>
        simp only [blsOf] at e
        split at e
        · rename_i is' e'
          cases e
          obtain ⟨e1, e2⟩ := rp_bls r2 e'
          exact ⟨by rw [e1]; rfl, by rw [e2]; rfl⟩
        · cases e
      | _ => simp [blsOf] at e
theorem call_allU (hc : X.calm = true := by rfl) (hK : X.K = K := by rfl) : CallR X (.builtin "all") (rAll K) := by subst hK; exact cr_all hc
theorem sim_all : SimC K CA (rAll K) (fAllB false) := by
  intro W σ m h H xs ds Q' S r t
  unfold fAllB at t
  split at t
  · split at t
    · rename_i xs e
      split at t
      · rename_i bs eb
        cases r with
        | cons r1 r2 =>
          cases r2
          obtain ⟨a, ys, rfl, e1, rr⟩ := rp_lst S r1 e
          obtain ⟨q1, q2⟩ := rp_bls rr eb
          subst q1
          exact ⟨a, bs, rfl, .of e1, t.here S (.bl _)⟩
      · exact t.elim
    · exact t.elim
  · exact t.elim
theorem we_neg (x : WE X K CA W e ha ta) : WE X K CA W (.UnaryOp .USub e pos) (tUn (rU fun i => .int (-i)) ha) (dUn fNeg ta) :=
  ⟨pe_un un_neg x.pe, fun m h H σ ρ Q' S t => x.sim m h H σ ρ _ S (t.bind fun d h1 m1 v H1 s1 S1 r1 t1 => by
    unfold fNeg at t1
    split at t1
    · cases r1; exact ⟨_, rfl, t1.here S1 (.int _)⟩
    · exact t1.elim)⟩
end
def SM (base : Heap) : Prop := ∃ o es ep, base.get? sysModules = some o ∧ o.data = .dict es ep
def LawF (F : FD) : Prop := ∀ ns : List Int, ns.length ≤ 63 → ∃ h, F [.scr ns] CH.emp = .ok (.bl true) h
theorem boot_lenU : bootBuiltins "len" = some (.builtin "len") := by rfl
theorem boot_isinstanceU : bootBuiltins "isinstance" = some (.builtin "isinstance") := by rfl
theorem boot_minU : bootBuiltins "min" = some (.builtin "min") := by rfl
theorem boot_maxU : bootBuiltins "max" = some (.builtin "max") := by rfl
theorem boot_absU : bootBuiltins "abs" = some (.builtin "abs") := by rfl
theorem boot_reprU : bootBuiltins "repr" = some (.builtin "repr") := by rfl
theorem boot_allU : bootBuiltins "all" = some (.builtin "all") := by rfl
theorem boot_sortedU : bootBuiltins "sorted" = some (.builtin "sorted") := by rfl
theorem boot_intU : bootBuiltins "int" = some (.type "int") := by rfl
theorem boot_boolU : bootBuiltins "bool" = some (.type "bool") := by rfl
theorem boot_strU : bootBuiltins "str" = some (.type "str") := by rfl
theorem boot_tupleU : bootBuiltins "tuple" = some (.type "tuple") := by rfl
theorem boot_listU : bootBuiltins "list" = some (.type "list") := by rfl
theorem boot_dictU : bootBuiltins "dict" = some (.type "dict") := by rfl
theorem call_lenRd {X : Cx} : CallR X (.builtin "len") (fun xs H Q => ∃ a kvs, xs = [V.ref a] ∧ Rd H a (.dK kvs) ∧ Q (.int kvs.length) H) := by
  rintro pins s σ H xs us Q I r ⟨a, kvs, rfl, rd, q⟩
  obtain ⟨u, rfl, ru⟩ := vals1 r
  cases ru
  exact d_len I rd fun t s2 I2 => ⟨V.int kvs.length, H, I2, ⟨t, rfl⟩, q⟩
section
variable {P : Program} {w : World} {K : PySem.W.Frag} {mg : Str → Option Value} {base : Heap} {CA : CAs}
theorem WrV.rel : ∀ {u : Value} {d : D}, WrV K u d → ∃ v, RelV v u ∧ ∀ m h H, Rp K CA m h H v d := fun {u d} w => by
  refine WrV.rec (motive_1 := fun u d _ => ∃ v, RelV v u ∧ ∀ m h H, Rp K CA m h H v d) (motive_2 := fun us ds _ => ∃ vs, Vals vs us ∧ ∀ m h H, RpAll K CA m h H vs ds) ?_ ?_ ?_ ?_ ?_ ?_ ?_ w
  · exact fun x t => ⟨.str x, ⟨t, rfl⟩, fun _ _ _ => .str x⟩
  · exact fun x t => ⟨.int x, ⟨t, rfl⟩, fun _ _ _ => .int x⟩
  · exact fun b => ⟨.bl b, rfl, fun _ _ _ => .bl b⟩
  · exact ⟨.non, rfl, fun _ _ _ => .non⟩
  · intro a dd us n sl ds hk _ hl ⟨vs, h1, h2⟩
    exact ⟨.ref a, rfl, fun m h H => .ktup (.inr ⟨_, us.toArray, n, hk, rfl, rfl, by rw [List.size_toArray]; exact hl, by simpa using h1⟩) (h2 m h H)⟩
  · exact ⟨[], .nil, fun _ _ _ => .nil⟩
  · intro u d us ds _ _ ⟨v, h1, h2⟩ ⟨vs, h3, h4⟩
    exact ⟨v :: vs, .cons h1 h3, fun m h H => .cons (h2 m h H) (h4 m h H)⟩
theorem gv_wr {x : Str} {u : Value} {d : D} (h : mg x = some u) (w : WrV K u d) : GV K CA mg x d := by
  obtain ⟨v, h1, h2⟩ := w.rel (CA := CA)
  exact ⟨v, u, h, h1, h2⟩
end
def ktB : KT := fun a b => match a, b with
  | .b a, .b b => if a ∈ tys ∧ b ∈ tys then some (a == b || (a == "bool" && b == "int")) else none
  | _, _ => none
theorem kitB_tys : ∀ a, a ∈ tys → ∀ b, b ∈ tys → kitB a b = some (a == b || (a == "bool" && b == "int")) := by decide +kernel
theorem ktB_ok {K : PySem.W.Frag} {CA : CAs} : KtOk K CA [] ktB := by
  refine ⟨fun a b r e => ?_, fun c hc => (nomatch hc)⟩
  cases a with
  | b a => cases b with
    | b b =>
      simp only [ktB] at e
      by_cases c : a ∈ tys ∧ b ∈ tys
      · rw [if_pos c] at e
        rw [← e]
        exact kit_ty (kitB_tys a c.1 b c.2)
      · rw [if_neg c] at e; cases e
    | o c => cases e
  | o c => cases e
abbrev eSet (w : World) : Obj := { cls := .type "set", dict := none, data := .set #[] 0 (.fresh 0 0 (!w.params.followText "set-order")) }
section
variable {P : Program} {w : World} {A : Around} {E : Value → Shared → Prop} {s : Shared}
theorem set_by_list {l : Addr} {its : Array Value} {Post : Heap → Prop} {Q : Value → Shared → Prop} (calm : A.handled = none) (hl : s.heap.IsList l its)
    (fill : ∀ (R : Result → Shared → Prop) (I : Addr) (St : Nat → Shared → Prop) (s1 : Shared), s.heap.objs.size ∉ [I, l] → WalksS P w A.in1.in1.in1 I [I, l] [I] (fun a b => b = a) its.size (fun i v => its[i]? = some v) St → St 0 s1 →
      s1.heap.get? s.heap.objs.size = some (eSet w) → (∀ s2, Moved [s.heap.objs.size, I] (fun a b => b = a) s1 s2 → Post s2.heap → R (.ok (.ret .none)) s2) → codeAny (model P w) A.in1.in1 (.builtin "set.update.loop" ⟨[.ref s.heap.objs.size, .ref I], []⟩) R s1)
    (done : ∀ (h2 : Heap) (tk : Nat), Post h2 → (∀ b o, s.heap.get? b = some o → h2.get? b = some o) → Q (.ref s.heap.objs.size) { s with heap := h2, toks := tk }) :
    wpAny (model P w) A (call (.type "set") [.ref l]) Q E s := by
  obtain ⟨_, _, f_mro⟩ := PySem.F.called_set.mro
  have f_made := PySem.F.called_set.made
  have f_sub := PySem.F.called_set.sub
  refine wpAny_call (codeAny_of_tree ?_)
  show wpAny _ _ (callAny (.type "set") _) _ _ _
  refine wpAny_pure ⟨Code.quiet_builtin _ (by decide +kernel), codeAny_builtin PySem.F.entry_type_call ?_⟩
  rw [Around.under_plain (weight_type_call_type "set" [.ref l] []) rfl]
  have f_1 := PySem.F.called_set.notType
  have f_2 := PySem.F.called_set.canCreate
  have f_3 := PySem.F.typeCall_set_1 (.ref l)
  repeat any_goals (first | assumption | wp_step)
  refine codeAny_mono (code_set_led1 (.ref l) (E := E) (Q₁ := fun ob s1 => ob = .ref s.heap.objs.size ∧ s1 = { s with heap := s.heap.push (eSet w) }) ⟨rfl, rfl⟩) fun r s1 hr => ?_
  rcases r with e | fl
  · exact hr
  · rcases fl with _ | _ | _ | ob
    · exact hr.elim
    · exact hr.elim
    · exact hr.elim
    · obtain ⟨rfl, rfl⟩ := hr
      have atS : (s.heap.push (eSet w)).get? s.heap.objs.size = some (eSet w) := Heap.get?_push_size _ rfl
      have tyS : Shared.TypeIs { s with heap := s.heap.push (eSet w) } (.ref s.heap.objs.size) "set" := ⟨_, atS, rfl⟩
      have f_4 := PySem.F.called_set.init.lookup
      have f_5 := PySem.F.called_set.init.bind (.ref s.heap.objs.size)
      repeat any_goals (first | assumption | wp_step)
      refine codeAny_mono (codeAny_call_builtin (R := wants (fun r s2 => r = .none ∧ ∃ h2 tk, s2 = { s with heap := h2, toks := tk } ∧ Post h2 ∧ (∀ b o, s.heap.get? b = some o → h2.get? b = some o)) E)
        PySem.F.called_set.init.plain PySem.F.entry_set_init (check_set_init_1 tyS ?_)) fun r2 s2 hr2 => ?_
      · obtain ⟨ol, look, ec, nl, ed⟩ := hl
        obtain ⟨oc, od, oda, osl⟩ := ol
        dsimp only at ec ed
        subst ec ed
        have look2 : (s.heap.push (eSet w)).get? l = some { cls := .type "list", dict := od, data := .seq its nl, slots := osl } := Heap.get?_push_of_some _ look
        have f_6 := PySem.F.sub_list_set
        have f_7 := PySem.F.sub_list_frozenset
        have f_8 : (Value.type "list" == Value.type "dict") = false := by decide
        have is2 : (s.heap.push (eSet w)).IsList l its := ⟨_, look2, rfl, nl, rfl⟩
        unfold Builtin.«set.__init__» noKeywords Builtin.Frozenset.updateFrom
        generalize ePI : pyIter = PI
        wp_walk
        subst ePI
        refine wpAny_pyIter_list is2 ?_
        refine wpAny_bind (wpAny_runValue ?_)
        have lts : l < s.heap.objs.size := Heap.lt_size look
        have calm3 : A.in1.in1.in1.handled = none := by simp [calm]
        have sz : (s.heap.push (eSet w)).objs.size = s.heap.objs.size + 1 := Heap.size_push ..
        have neI : l ≠ (s.heap.push (eSet w)).objs.size := by rw [sz]; exact Nat.ne_of_lt (Nat.lt_succ_of_lt lts)
        have nin : s.heap.objs.size ∉ [(s.heap.push (eSet w)).objs.size, l] := by
          rw [sz]
          intro z
          rcases List.mem_cons.mp z with z | z
          · exact absurd z (Nat.ne_of_lt (Nat.lt_succ_self _))
          · exact absurd (List.mem_singleton.mp z) (Nat.ne_of_gt lts)
        refine fill _ _ _ _ nin ((Walks.list calm3 _ l neI its).toS) ⟨⟨_, Heap.get?_push_size _ rfl, rfl, rfl⟩, is2.push _⟩ (Heap.get?_push_of_some _ atS) fun s3 mv p3 => ?_
        obtain ⟨h3, g3, d3, tk3, os3⟩ := s3
        obtain rfl : g3 = s.gens := mv.gens
        obtain rfl : d3 = s.drawn := mv.drawn
        obtain rfl : os3 = s.os := mv.os
        show wpAny _ _ _ _ _ _
        refine wpAny_pure ?_
        show wpAny _ _ (ret Value.none) _ _ _
        refine wpAny_pure ⟨rfl, h3, tk3, rfl, p3, fun b o e => ?_⟩
        have ltb := Heap.lt_size e
        refine mv.heap b o (fun z => ?_) (Heap.get?_push_of_some _ (Heap.get?_push_of_some _ e))
        rcases List.mem_cons.mp z with z | z
        · exact absurd z (Nat.ne_of_lt ltb)
        · exact absurd (List.mem_singleton.mp z) (by rw [sz]; exact Nat.ne_of_lt (Nat.lt_succ_of_lt ltb))
      · rcases r2 with e | fl2
        · exact hr2
        · rcases fl2 with _ | _ | _ | u
          · exact hr2.elim
          · exact hr2.elim
          · exact hr2.elim
          · obtain ⟨rfl, h2, tk, rfl, p2, k2⟩ := hr2
            repeat any_goals (first | assumption | wp_step)
            exact done _ _ p2 k2
theorem set_by_tuple {l : Addr} {its : Array Value} {Post : Heap → Prop} {Q : Value → Shared → Prop} (calm : A.handled = none) (hl : s.heap.IsTuple l its)
    (fill : ∀ (R : Result → Shared → Prop) (I : Addr) (St : Nat → Shared → Prop) (s1 : Shared), s.heap.objs.size ∉ [I, l] → WalksS P w A.in1.in1.in1 I [I, l] [I] (fun a b => b = a) its.size (fun i v => its[i]? = some v) St → St 0 s1 →
      s1.heap.get? s.heap.objs.size = some (eSet w) → (∀ s2, Moved [s.heap.objs.size, I] (fun a b => b = a) s1 s2 → Post s2.heap → R (.ok (.ret .none)) s2) → codeAny (model P w) A.in1.in1 (.builtin "set.update.loop" ⟨[.ref s.heap.objs.size, .ref I], []⟩) R s1)
    (done : ∀ (h2 : Heap) (tk : Nat), Post h2 → (∀ b o, s.heap.get? b = some o → h2.get? b = some o) → Q (.ref s.heap.objs.size) { s with heap := h2, toks := tk }) :
    wpAny (model P w) A (call (.type "set") [.ref l]) Q E s := by
  obtain ⟨_, _, f_mro⟩ := PySem.F.called_set.mro
  have f_made := PySem.F.called_set.made
  have f_sub := PySem.F.called_set.sub
  refine wpAny_call (codeAny_of_tree ?_)
  show wpAny _ _ (callAny (.type "set") _) _ _ _
  refine wpAny_pure ⟨Code.quiet_builtin _ (by decide +kernel), codeAny_builtin PySem.F.entry_type_call ?_⟩
  rw [Around.under_plain (weight_type_call_type "set" [.ref l] []) rfl]
  have f_1 := PySem.F.called_set.notType
  have f_2 := PySem.F.called_set.canCreate
  have f_3 := PySem.F.typeCall_set_1 (.ref l)
  repeat any_goals (first | assumption | wp_step)
  refine codeAny_mono (code_set_led1 (.ref l) (E := E) (Q₁ := fun ob s1 => ob = .ref s.heap.objs.size ∧ s1 = { s with heap := s.heap.push (eSet w) }) ⟨rfl, rfl⟩) fun r s1 hr => ?_
  rcases r with e | fl
  · exact hr
  · rcases fl with _ | _ | _ | ob
    · exact hr.elim
    · exact hr.elim
    · exact hr.elim
    · obtain ⟨rfl, rfl⟩ := hr
      have atS : (s.heap.push (eSet w)).get? s.heap.objs.size = some (eSet w) := Heap.get?_push_size _ rfl
      have tyS : Shared.TypeIs { s with heap := s.heap.push (eSet w) } (.ref s.heap.objs.size) "set" := ⟨_, atS, rfl⟩
      have f_4 := PySem.F.called_set.init.lookup
      have f_5 := PySem.F.called_set.init.bind (.ref s.heap.objs.size)
      repeat any_goals (first | assumption | wp_step)
      refine codeAny_mono (codeAny_call_builtin (R := wants (fun r s2 => r = .none ∧ ∃ h2 tk, s2 = { s with heap := h2, toks := tk } ∧ Post h2 ∧ (∀ b o, s.heap.get? b = some o → h2.get? b = some o)) E)
        PySem.F.called_set.init.plain PySem.F.entry_set_init (check_set_init_1 tyS ?_)) fun r2 s2 hr2 => ?_
      · obtain ⟨ol, look, ec, nl, ed⟩ := hl
        obtain ⟨oc, od, oda, osl⟩ := ol
        dsimp only at ec ed
        subst ec ed
        have look2 : (s.heap.push (eSet w)).get? l = some { cls := .type "tuple", dict := od, data := .seq its nl, slots := osl } := Heap.get?_push_of_some _ look
        have f_6 := PySem.F.sub_tuple_set
        have f_7 := PySem.F.sub_tuple_frozenset
        have f_8 : (Value.type "tuple" == Value.type "dict") = false := by decide
        have is2 : (s.heap.push (eSet w)).IsTuple l its := ⟨_, look2, rfl, nl, rfl⟩
        unfold Builtin.«set.__init__» noKeywords Builtin.Frozenset.updateFrom
        generalize ePI : pyIter = PI
        wp_walk
        subst ePI
        refine wpAny_pyIter_tuple is2 ?_
        refine wpAny_bind (wpAny_runValue ?_)
        have lts : l < s.heap.objs.size := Heap.lt_size look
        have calm3 : A.in1.in1.in1.handled = none := by simp [calm]
        have sz : (s.heap.push (eSet w)).objs.size = s.heap.objs.size + 1 := Heap.size_push ..
        have neI : l ≠ (s.heap.push (eSet w)).objs.size := by rw [sz]; exact Nat.ne_of_lt (Nat.lt_succ_of_lt lts)
        have nin : s.heap.objs.size ∉ [(s.heap.push (eSet w)).objs.size, l] := by
          rw [sz]
          intro z
          rcases List.mem_cons.mp z with z | z
          · exact absurd z (Nat.ne_of_lt (Nat.lt_succ_self _))
          · exact absurd (List.mem_singleton.mp z) (Nat.ne_of_gt lts)
        refine fill _ _ _ _ nin ((Walks.tuple calm3 _ l neI its).toS) ⟨⟨_, Heap.get?_push_size _ rfl, rfl, rfl⟩, is2.push _⟩ (Heap.get?_push_of_some _ atS) fun s3 mv p3 => ?_
        obtain ⟨h3, g3, d3, tk3, os3⟩ := s3
        obtain rfl : g3 = s.gens := mv.gens
        obtain rfl : d3 = s.drawn := mv.drawn
        obtain rfl : os3 = s.os := mv.os
        show wpAny _ _ _ _ _ _
        refine wpAny_pure ?_
        show wpAny _ _ (ret Value.none) _ _ _
        refine wpAny_pure ⟨rfl, h3, tk3, rfl, p3, fun b o e => ?_⟩
        have ltb := Heap.lt_size e
        refine mv.heap b o (fun z => ?_) (Heap.get?_push_of_some _ (Heap.get?_push_of_some _ e))
        rcases List.mem_cons.mp z with z | z
        · exact absurd z (Nat.ne_of_lt ltb)
        · exact absurd (List.mem_singleton.mp z) (by rw [sz]; exact Nat.ne_of_lt (Nat.lt_succ_of_lt ltb))
      · rcases r2 with e | fl2
        · exact hr2
        · rcases fl2 with _ | _ | _ | u
          · exact hr2.elim
          · exact hr2.elim
          · exact hr2.elim
          · obtain ⟨rfl, h2, tk, rfl, p2, k2⟩ := hr2
            repeat any_goals (first | assumption | wp_step)
            exact done _ _ p2 k2
end
def insU (x : Int) : List Int → List Int
  | [] => [x]
  | y :: r => if x < y then x :: y :: r else if x = y then y :: r else y :: insU x r
def sortU : List Int → List Int
  | [] => []
  | x :: r => insU x (sortU r)
theorem mem_insU (x z : Int) : ∀ l, z ∈ insU x l ↔ z = x ∨ z ∈ l
  | [] => by simp [insU]
  | y :: r => by
    unfold insU
    split
    · simp
    · split
      · rename_i e
        subst e
        simp
      · rw [List.mem_cons, mem_insU x z r, List.mem_cons]
        constructor
        · rintro (a | a | a)
          · exact .inr (.inl a)
          · exact .inl a
          · exact .inr (.inr a)
        · rintro (a | a | a)
          · exact .inr (.inl a)
          · exact .inl a
          · exact .inr (.inr a)
theorem mem_sortU (z : Int) : ∀ l, z ∈ sortU l ↔ z ∈ l
  | [] => by simp [sortU]
  | x :: r => by rw [sortU, mem_insU, mem_sortU z r, List.mem_cons]
theorem insU_lt (x : Int) : ∀ l : List Int, l.Pairwise (· < ·) → (insU x l).Pairwise (· < ·)
  | [], _ => by simp [insU]
  | y :: r, h => by
    unfold insU
    have h' := List.pairwise_cons.mp h
    split
    · rename_i c
      refine List.pairwise_cons.mpr ⟨fun z hz => ?_, h⟩
      rcases List.mem_cons.mp hz with e | e
      · omega
      · have := h'.1 z e; omega
    · split
      · exact h
      · refine List.pairwise_cons.mpr ⟨fun z hz => ?_, insU_lt x r h'.2⟩
        rcases (mem_insU x z r).mp hz with e | e
        · omega
        · exact h'.1 z e
theorem sortU_lt : ∀ l : List Int, (sortU l).Pairwise (· < ·)
  | [] => .nil
  | x :: r => insU_lt x _ (sortU_lt r)
theorem lt_same : ∀ {l l' : List Int}, l.Pairwise (· < ·) → l'.Pairwise (· < ·) → (∀ z, z ∈ l ↔ z ∈ l') → l = l'
  | [], [], _, _, _ => rfl
  | [], y :: r, _, _, e => by have := (e y).mpr (List.mem_cons_self ..); cases this
  | y :: r, [], _, _, e => by have := (e y).mp (List.mem_cons_self ..); cases this
  | x :: r, y :: t, h1, h2, e => by
    have a1 := List.pairwise_cons.mp h1
    have a2 := List.pairwise_cons.mp h2
    have exy : x = y := by
      rcases List.mem_cons.mp ((e x).mp (List.mem_cons_self ..)) with z | z
      · exact z
      · rcases List.mem_cons.mp ((e y).mpr (List.mem_cons_self ..)) with u | u
        · exact u.symm
        · have := a2.1 x z; have := a1.1 y u; omega
    subst exy
    rw [lt_same a1.2 a2.2 fun z => ?_]
    constructor
    · intro hz
      rcases List.mem_cons.mp ((e z).mp (List.mem_cons_of_mem _ hz)) with u | u
      · have := a1.1 z hz; omega
      · exact u
    · intro hz
      rcases List.mem_cons.mp ((e z).mpr (List.mem_cons_of_mem _ hz)) with u | u
      · have := a2.1 z hz; omega
      · exact u
def fSortSet (nm : Bool) : F1 := fun d h => match seqOf h d with
  | some xs => match intsOf xs with
    | some is => if is.length < 64 then mkL nm ((sortU is).map D.int) h else .no
    | none => .no
  | none => .no
def tSortSet (K : PySem.W.Frag) (ta : TE) : TE := fun σ H Q => ta σ H fun x H1 => ∃ a ns, x = V.ref a ∧ (SqL K H1 a (ns.map V.int) ∨ SqT K H1 a (ns.map V.int)) ∧ ns.length < 64 ∧ ∀ p, H1 p = none → Q (.ref p) (upd H1 p (.lst ((sortU ns).map V.int)))
section
variable {X : Cx} {K : PySem.W.Frag} {CA : CAs} {W : WX} {e : Expr} {p p2 q pos : Pos} {ha : TE} {ta : TD}
theorem valsI_of {ns : List Int} {its : List Value} (hi : IntsAre its ns) : ∀ (i : Nat) (v : Value), its.toArray[i]? = some v → ∃ k t, ns[i]? = some k ∧ v = .int k t := fun i v hv => by
  have hv' : its[i]? = some v := by simpa using hv
  obtain ⟨t, e⟩ := PyProof.Rows.IntsAre.int_at hi i v hv'
  have lt : i < ns.length := by
    rw [← IntsAre.length hi]
    exact (List.getElem?_eq_some_iff.mp hv').1
  refine ⟨ns[i], t, List.getElem?_eq_getElem lt, ?_⟩
  rw [e, List.getD_eq_getElem?_getD, List.getElem?_eq_getElem lt]
  rfl
theorem pe_sortSet (hc : X.calm = true) (hg : Gl X "sorted") (hm : X.mg "sorted" = none) (hg2 : Gl X "set") (hm2 : X.mg "set" = none) (ha' : PE X e ha) (hK : X.K = K := by rfl)
    (na : starEach [e] X.env = (false, eval e X.env) :: starEach [] X.env := by rfl) : PE X (.Call (.Name "sorted" p) [.Call (.Name "set" p2) [e] [] q] [] pos) (tSortSet K ha) := by
  subst hK
  refine ⟨fun pins s σ H Q I h => ?_⟩
  refine Call_ (ld_blt I hg hm boot_sortedU ?_)
  refine PyProof.Rows.callWith_builtin1 (PyProof.Rows.args_cons ?_ rfl) rfl rfl
  refine Call_ (ld_blt I hg2 hm2 boot_set ?_)
  refine PyProof.Rows.callWith_type1 (PyProof.Rows.args_cons (thn (ha'.run pins s σ H _ I h) fun v s1 ⟨x, H1, I1, r1, q1⟩ => PyProof.Rows.args_nil ?_) na) na rfl
  obtain ⟨a, ns, rfl, hs, l3, q2⟩ := q1
  cases r1
  have room : ns.length + 1 < scanBound := by unfold scanBound; omega
  have last : ∀ (h2 : Heap) (tk : Nat), (∃ c, c ≤ ns.length ∧ SetR X.w h2 s1.heap.objs.size (fun j => decide (j ∈ ns)) c) → (∀ b o, s1.heap.get? b = some o → h2.get? b = some o) →
      wpAny (model X.prog X.w) X.A (spliced (backTo pos (starEach [] X.env))) (fun vs s₂ => wpAny (model X.prog X.w) X.A (call (.builtin "sorted") (Value.ref s1.heap.objs.size :: vs)) (EP X pins σ Q) X.xe s₂) X.xe { s1 with heap := h2, toks := tk } := fun h2 tk ⟨c, lc, R⟩ kp => by
    refine PyProof.Rows.args_nil ?_
    have I2 : Inv X pins σ H1 { s1 with heap := h2, toks := tk } := I1.kept kp
    refine sorted_set (P := X.prog) R (I1.ok.hd hc) (by omega) fun s3 pp out cc l k3 g3 o3 lp atp isI pw mem len => ?_
    have el : l = sortU ns := lt_same pw (sortU_lt ns) fun z => by rw [mem, mem_sortU]; simp
    have nP := I2.hok.fresh lp
    have lz : (l.map V.int).length ≤ sizeLine := by rw [List.length_map, len]; exact Nat.le_trans lc (Nat.le_trans (Nat.le_of_lt l3) (by decide))
    have I3 : Inv X pins σ (upd H1 pp (.lst (l.map V.int))) s3 :=
      I2.call' (ch := []) o3 (Un.laid k3 lp nP) (I2.hok.laid k3 lp ⟨lz, out.toList, cc, vals_of_ints isI, by rw [Array.toArray_toList]; exact atp⟩) (by rw [g3]; exact I2.bare) (fun _ z => nomatch z)
    subst el
    exact ⟨.ref pp, _, I3, rfl, q2 pp (I2.hok.fresh lp)⟩
  have fill : ∀ {its : List Value} (hi : IntsAre its ns) (R : Result → Shared → Prop) (I : Addr) (St : Nat → Shared → Prop) (s2 : Shared), s1.heap.objs.size ∉ [I, a] → WalksS X.prog X.w X.A.in1.in1.in1 I [I, a] [I] (fun a b => b = a) its.toArray.size (fun i v => its.toArray[i]? = some v) St → St 0 s2 →
      s2.heap.get? s1.heap.objs.size = some (eSet X.w) → (∀ s3, Moved [s1.heap.objs.size, I] (fun a b => b = a) s2 s3 → (∃ c, c ≤ ns.length ∧ SetR X.w s3.heap s1.heap.objs.size (fun j => decide (j ∈ ns)) c) → R (.ok (.ret .none)) s3) →
      codeAny (model X.prog X.w) X.A.in1.in1 (.builtin "set.update.loop" ⟨[.ref s1.heap.objs.size, .ref I], []⟩) R s2 := fun {its} hi R I St s2 nin Wk st at0 fin => by
    have en : its.toArray.size = ns.length := by rw [List.size_toArray]; exact IntsAre.length hi
    exact set_update_ints Wk _ nin ns en room (valsI_of hi) _ 0 s2 rfl (Nat.zero_le _) st ⟨0, Nat.le_refl _, setR_new_at at0⟩ fun s3 c mv lc hS => fin s3 mv ⟨c, by rw [← en]; exact lc, hS⟩
  rcases hs with hs | hs
  · obtain ⟨its, rv, pl, hz⟩ := I1.list hs
    exact set_by_list (I1.ok.hd hc) pl.isList (fill rv.ints) last
  · obtain ⟨its, rv, pl, hz⟩ := I1.tuple hs
    exact set_by_tuple (I1.ok.hd hc) pl (fill rv.ints) last
theorem we_sortSet (nm : Bool) (x : WE X K CA W e ha ta) (hm : X.mg "sorted" = none) (hm2 : X.mg "set" = none) (hc : X.calm = true := by rfl) (hg : Gl X "sorted" := by rfl) (hg2 : Gl X "set" := by rfl) (hK : X.K = K := by rfl)
    (na : starEach [e] X.env = (false, eval e X.env) :: starEach [] X.env := by rfl) : WE X K CA W (.Call (.Name "sorted" p) [.Call (.Name "set" p2) [e] [] q] [] pos) (tSortSet K ha) (dUn (fSortSet nm) ta) :=
  ⟨pe_sortSet hc hg hm hg2 hm2 x.pe hK na, fun m h H σ ρ Q' S t => x.sim m h H σ ρ _ S (t.bind fun d h1 m1 v H1 s1 S1 r1 t1 => by
    unfold fSortSet at t1
    split at t1
    · rename_i xs e
      split at t1
      · rename_i ss es
        obtain ⟨l3, t2⟩ := post_ite t1
        obtain ⟨a, zs, rfl, e1, rr⟩ := rp_seq S1 r1 e
        obtain ⟨q1, q2⟩ := rp_ints rr es
        subst q1
        exact ⟨a, ss, rfl, e1, l3, fun p n => mkL_post S1 n (all_ints _) t2⟩
      · exact t1.elim
    · exact t1.elim)⟩
end
theorem noG {p : Prop} : (false = true) → p := fun z => nomatch z
theorem pick_cons (d : D) (ds zs : List D) : ∀ (n i : Nat), pickD (d :: ds) zs (srcP (i + 1) n) = pickD ds zs (srcP i n)
  | 0, _ => rfl
  | n + 1, i => by
    show (d :: ds).getD (i + 1) .non :: pickD (d :: ds) zs (srcP (i + 1 + 1) n) = ds.getD i .non :: pickD ds zs (srcP (i + 1) n)
    rw [pick_cons d ds zs n (i + 1)]
    rfl
theorem pick_srcP (zs : List D) : ∀ ds : List D, pickD ds zs (srcP 0 ds.length) = ds
  | [] => rfl
  | d :: ds => by
    show (d :: ds).getD 0 .non :: pickD (d :: ds) zs (srcP 1 ds.length) = d :: ds
    rw [pick_cons, pick_srcP zs ds]
    rfl
theorem srcP_length : ∀ (n i : Nat), (srcP i n).length = n
  | 0, _ => rfl
  | n + 1, i => by rw [srcP, List.length_cons, srcP_length n]
section
variable {X : Cx} {K : PySem.W.Frag} {CA : CAs} {W : WX} {e : Expr} {es : List Expr} {pos p : Pos} {hs : TA} {ts : TDs} {x : Str} {g : Bool} {k : Nat} {ps : List Str} {F : FD} {f : Addr} {fd : FuncData}
theorem we_callP (D : Df X.prog X.w X.K X.mg X.base CA x g k ps F f fd) (hG : g = true → X.A.guards = some []) (hr : Room k X.A) (tk' : Takes X W) (h : WA X K CA W (e :: es) hs ts) (B : KwB K CA fd ps ps.length [] (srcP 0 ps.length)) (hg : Gl X x := by rfl) (hK : X.K = K := by rfl)
    (hdb : (x == ("__debug__" : Str)) = false := by decide) (he : starEach (e :: es) X.env = (false, eval e X.env) :: starEach es X.env := by rfl) (hpl : (backTo pos (starEach es X.env)).any (·.1) = false := by rfl) :
    WE X K CA W (.Call (.Name x p) (e :: es) [] pos) (tCallN K CA W ps.length 0 (fun ds _ => F ds) hs L2.tNil) (dCall ps.length F ts) := by
  subst hK
  refine ⟨⟨fun pins s σ H Q I hq => wpAny_Call_Name_kw (ld_glob I hg D.hm ?_ hdb)⟩, sim_call h.sim⟩
  refine PySem.W.callWith_K (h₀ := X.base) I.ok.mod.kin D.hk (thn (h.pe.run pos pins s σ H _ I hq) fun us s1 ⟨vs, H1, I1, r, l1, l2, m, h, ds, es, hR, rd, re, q⟩ => ⟨I1.kIn, ?_⟩) he hpl
  refine run_callN (ws := []) D.G hG hr B tk' I1 r .nil l1 l2 hR rd re (srcP_length _ _) ?_
  have e : pickD ds es (srcP 0 ps.length) = ds := by rw [← l1, rd.length]; exact pick_srcP es ds
  rw [e]
  exact q
end
theorem clsB_ok {K : PySem.W.Frag} {C : Addr} (h : clsB K C = true) : ClsOk K C := by
  unfold clsB at h
  simp only [Bool.and_eq_true, decide_eq_true_eq] at h
  obtain ⟨h1, h2, h3, h4, h5, h6, h7, h8⟩ := h
  exact ⟨⟨h1, h2, h3, h4⟩, h5, h6, h7, h8⟩
theorem noB_ok {K : PySem.W.Frag} {C : Addr} {fs : List Str} (h : noB K C fs = true) {f : Str} (hf : f ∈ fs) : NoAttr K C f := by
  have := List.all_eq_true.mp h f hf
  have e : PySem.W.findIn K (.ref C) f = some none := by simpa using this
  exact e
def ktT (sup : List (List Tg)) (bs : List String) : KT := fun a b => match a, b with
  | .b x, .b y => ktB (.b x) (.b y)
  | .b x, .o d => if x ∈ tys ∧ d < sup.length then some false else none
  | .o c, b => match sup[c]? with
    | some l => if (match b with | .b y => decide (y ∈ bs) | .o d => decide (d < sup.length)) = true then some (decide (b ∈ l)) else none
    | none => none
theorem ktT_ok {K : PySem.W.Frag} {CA : CAs} {sup : List (List Tg)} {bs : List String} {own : List Nat} (h : ktChk K CA sup bs = true) (hc : ∀ c, c ∈ own → ClsOk K (CA c)) : KtOk K CA own (ktT sup bs) := by
  have look : ∀ c, c < sup.length → (tys.all fun x => decide (PySem.W.kitOne K (.type x) (.ref (CA c)) = some false)) = true ∧ (bs.all fun y => decide (PySem.W.kitOne K (.ref (CA c)) (.type y) = some (decide (Tg.b y ∈ sup.getD c [])))) = true ∧
      (List.range sup.length).all (fun d => decide (PySem.W.kitOne K (.ref (CA c)) (.ref (CA d)) = some (decide (Tg.o d ∈ sup.getD c [])))) = true := fun c lt => by
    have := List.all_eq_true.mp h c (List.mem_range.mpr lt)
    rw [Bool.and_eq_true, Bool.and_eq_true] at this
    exact ⟨this.1, this.2.1, this.2.2⟩
  refine ⟨fun a b r e => ?_, fun c hm => ⟨(hc c hm).cl, (hc c hm).i1, (hc c hm).i2, (hc c hm).i3, (hc c hm).i4⟩⟩
  cases a with
  | b x =>
    cases b with
    | b y => exact (ktB_ok (K := K) (CA := CA)).one _ _ r e
    | o d =>
      simp only [ktT] at e
      by_cases q : x ∈ tys ∧ d < sup.length
      · rw [if_pos q] at e
        cases e
        exact of_decide_eq_true (List.all_eq_true.mp (look d q.2).1 x q.1)
      · rw [if_neg q] at e; cases e
  | o c =>
    simp only [ktT] at e
    split at e
    · rename_i l el
      have lt : c < sup.length := (List.getElem?_eq_some_iff.mp el).1
      have gl : sup.getD c [] = l := by rw [List.getD_eq_getElem?_getD, el]; rfl
      have lk := look c lt
      rw [gl] at lk
      cases b with
      | b y =>
        by_cases q : y ∈ bs
        · simp only [q, decide_true, if_true] at e
          cases e
          exact of_decide_eq_true (List.all_eq_true.mp lk.2.1 y q)
        · simp [q] at e
      | o d =>
        by_cases q : d < sup.length
        · simp only [q, decide_true, if_true] at e
          cases e
          exact of_decide_eq_true (List.all_eq_true.mp lk.2.2 d (List.mem_range.mpr q))
        · simp [q] at e
    · cases e
section
variable {P : Program} {w : World} {K : PySem.W.Frag} {mg : Str → Option Value} {base : Heap} {CA : CAs} {c0 k : Nat} {ps : List Str} {F : FD} {f p : Addr} {fd : FuncData} {nm nmf qual : Str} {st : Stmt}
end
def keyP : Key → PyData
  | .inl i => .int i
  | .inr x => .str x
section
variable {X : Cx} {pins : List (Addr × Obj)} {σ : L2.St} {H : Hp} {s : Shared}
theorem keys_reads {P : Program} {w : World} {h : Heap} : ∀ {kvs : List (Key × Value)} {es : List DictEntry}, Pairs (mixKind P w) es kvs → ReadsAll h (es.map (·.key)) (kvs.map fun p => keyP p.1) []
  | [], _, r => by cases r; exact .nil
  | (k, v) :: kvs, _, r => by
    cases r with
    | @cons e _ es _ h1 h2 h3 =>
      have ih := keys_reads (h := h) h3
      have hk : Reads h e.key (keyP k) [] := by
        have h1' : keyIs k e.key = true := h1
        rcases keyIs_shape h1' with ⟨i, t, rfl, q⟩ | ⟨x, t, rfl, q⟩
        · rw [q]; exact .int i t
        · rw [q]; exact .str x t
      exact ReadsAll.cons (as := []) (bs := []) hk ih
theorem vals_pairs {P : Program} {w : World} : ∀ {kvs : List (Key × V)} {vs : List (Key × Value)} {es : List DictEntry}, KV kvs vs → Pairs (mixKind P w) es vs → Vals (kvs.map (·.2)) (es.map (·.val)) ∧ kvs.map (·.1) = vs.map (·.1)
  | [], _, _, r, p => by cases r; cases p; exact ⟨.nil, rfl⟩
  | kv :: kvs, _, _, r, p => by
    cases r with
    | cons a r =>
      cases p with
      | cons h1 h2 h3 =>
        obtain ⟨q1, q2⟩ := vals_pairs r h3
        have hv : L2.RelV kv.2 _ := a.2
        rw [← h2] at hv
        exact ⟨.cons hv q1, by simp only [List.map_cons, q2, a.1]⟩
theorem sm_ne (I : Inv X pins σ H s) (sm : SM X.base) {a : Addr} {o : Obj} {vs : Array Value} {n : Nat} (e : s.heap.get? a = some o) (d : o.data = .seq vs n) : a ≠ sysModules := fun z => by
  obtain ⟨o', es, ep, e', d'⟩ := sm
  have e2 := I.bk _ _ e'
  rw [← z, e] at e2
  cases e2
  rw [d] at d'
  cases d'
mutual
theorem DpD.reads (I : Inv X pins σ H s) (sm : SM X.base) : ∀ (d : PyData) (v : V) (u : Value), DpD X.K H v d → RelV v u → ∃ as, Reads s.heap u d as ∧ sysModules ∉ as
  | .none, _, _, h, r => by cases h; cases r; exact ⟨_, Reads.none, by simp⟩
  | .bool b, _, _, h, r => by cases h; cases r; exact ⟨_, Reads.bool b, by simp⟩
  | .int i, _, _, h, r => by cases h; obtain ⟨t, rfl⟩ := r; exact ⟨_, Reads.int i t, by simp⟩
  | .str x, _, _, h, r => by cases h; obtain ⟨t, rfl⟩ := r; exact ⟨_, Reads.str x t, by simp⟩
  | .list ds, _, _, h, r => by
    cases h with
    | lst hs ha =>
      cases r
      obtain ⟨its, rv, ⟨o, n, ho, hc, _, hd⟩, _⟩ := I.list hs
      obtain ⟨as, hr, na⟩ := DpDs.reads I sm ds _ its ha rv
      refine ⟨_, Reads.list ho hc hd hr, fun z => ?_⟩
      rcases List.mem_cons.mp z with z | z
      · exact sm_ne I sm ho hd z.symm
      · exact na z
  | .tuple ds, _, _, h, r => by
    cases h with
    | tup hs ha =>
      cases r
      obtain ⟨its, rv, ⟨o, ho, hc, n, hd⟩, _⟩ := I.tuple hs
      obtain ⟨as, hr, na⟩ := DpDs.reads I sm ds _ its ha rv
      exact ⟨_, Reads.tuple ho hc hd hr, na⟩
  | .dict kvs0, _, _, h, r => by
    cases h with
    | @dct a kvs ks ds hr ek ha =>
      cases r
      obtain ⟨z, lo, vs, rel, o, es, ep, ho, hx, hd, _, pr, _⟩ := dk_rd I.hok hr
      obtain ⟨q1, q2⟩ := vals_pairs rel pr
      have kr := keys_reads (h := s.heap) pr
      have ll := ha.length
      have ek2 : ks = vs.map fun p => keyP p.1 := by
        rw [ek]
        have : (fun p : Key × V => (match p.1 with | .inl i => PyData.int i | .inr x => PyData.str x)) = fun p => keyP p.1 := by
          funext p
          obtain ⟨k, v⟩ := p
          cases k <;> rfl
        rw [this]
        have e3 : (kvs.map (·.1)).map keyP = (vs.map (·.1)).map keyP := by rw [q2]
        rw [List.map_map, List.map_map] at e3
        exact e3
      have lk : ks.length = ds.length := by rw [ek, List.length_map, ← ll, List.length_map]
      have m1 : (ks.zip ds).map (·.1) = ks := by rw [List.map_fst_zip]; omega
      have m2 : (ks.zip ds).map (·.2) = ds := by rw [List.map_snd_zip]; omega
      have sz : ∀ p ∈ ks.zip ds, p.2 ∈ ds := fun p hp => (List.of_mem_zip hp).2
      obtain ⟨as, hr2, na⟩ := DpDs.readsZ I sm (ks.zip ds) ds _ _ m2 ha q1
      refine ⟨_, Reads.dict ho hx.1 hd (by rw [m1, ek2]; exact kr) (by rw [m2]; exact hr2), fun z => ?_⟩
      simp only [List.append_nil, List.cons_append, List.mem_cons, List.nil_append] at z
      rcases z with z | z
      · rw [z] at lo; simp at lo
      · exact na z
theorem DpDs.reads (I : Inv X pins σ H s) (sm : SM X.base) : ∀ (ds : List PyData) (vs : List V) (us : List Value), DpDs X.K H vs ds → Vals vs us → ∃ as, ReadsAll s.heap us ds as ∧ sysModules ∉ as
  | [], _, _, h, r => by cases h; cases r; exact ⟨_, ReadsAll.nil, by simp⟩
  | d :: ds, _, _, h, r => by
    cases h with
    | cons h1 h2 =>
      cases r with
      | cons r1 r2 =>
        obtain ⟨as, q1, n1⟩ := DpD.reads I sm d _ _ h1 r1
        obtain ⟨bs, q2, n2⟩ := DpDs.reads I sm ds _ _ h2 r2
        exact ⟨_, ReadsAll.cons q1 q2, by simp [n1, n2]⟩
theorem DpDs.readsZ (I : Inv X pins σ H s) (sm : SM X.base) : ∀ (zs : List (PyData × PyData)) (ds : List PyData) (vs : List V) (us : List Value), zs.map (·.2) = ds → DpDs X.K H vs ds → Vals vs us → ∃ as, ReadsAll s.heap us ds as ∧ sysModules ∉ as
  | [], _, _, _, e, h, r => by subst e; cases h; cases r; exact ⟨_, ReadsAll.nil, by simp⟩
  | (k, d) :: zs, _, _, _, e, h, r => by
    subst e
    cases h with
    | cons h1 h2 =>
      cases r with
      | cons r1 r2 =>
        obtain ⟨as, q1, n1⟩ := DpD.reads I sm d _ _ h1 r1
        obtain ⟨bs, q2, n2⟩ := DpDs.readsZ I sm zs _ _ _ rfl h2 r2
        exact ⟨_, ReadsAll.cons q1 q2, by simp [n1, n2]⟩
end
end
def toQ (h : CH) : Nat → D → Option PyData
  | 0, _ => none
  | n + 1, d => match d with
    | .non => some .none
    | .bl b => some (.bool b)
    | .int i => some (.int i)
    | .str x => some (.str x)
    | .lst xs => (xs.mapM (toQ h n)).map .list
    | .tup xs => (xs.mapM (toQ h n)).map .tuple
    | .dct kvs => ((kvs.map (·.2)).mapM (toQ h n)).map fun ds => .dict ((kvs.map fun p => keyP p.1).zip ds)
    | .ref k => match h.ob k with
      | some (.lst xs) => (xs.mapM (toQ h n)).map .list
      | some (.dct kvs) => ((kvs.map (·.2)).mapM (toQ h n)).map fun ds => .dict ((kvs.map fun p => keyP p.1).zip ds)
      | _ => none
    | _ => none
section
variable {X : Cx} {K : PySem.W.Frag} {CA : CAs} {W : WX} {m : Mp} {h : CH} {H : Hp}
theorem rp_dpq_of {f : D → Option PyData} (ih : ∀ (d : D) (v : V) (p : PyData), Rp K CA m h H v d → f d = some p → DpD K H v p) : ∀ (ds : List D) (vs : List V) (ps : List PyData), RpAll K CA m h H vs ds → ds.mapM f = some ps → DpDs K H vs ps
  | [], _, _, r, e => by cases r; simp at e; subst e; exact .nil
  | d :: ds, _, _, r, e => by
    cases r with
    | cons h1 h2 =>
      simp only [List.mapM_cons, Option.bind_eq_bind, Option.bind_eq_some_iff, Option.pure_def, Option.some.injEq] at e
      obtain ⟨p, e1, ps, e2, rfl⟩ := e
      exact .cons (ih d _ p h1 e1) (rp_dpq_of ih ds _ ps h2 e2)
theorem dct_dpq {n : Nat} {v : V} {d : D} {kvs : List (Key × D)} {p : PyData} (S : HR K CA m h H) (ih : ∀ (d : D) (v : V) (p : PyData), Rp K CA m h H v d → toQ h n d = some p → DpD K H v p) (r : Rp K CA m h H v d) (ed : dctOf h d = some kvs)
    (e : ((kvs.map (·.2)).mapM (toQ h n)).map (fun ds => PyData.dict ((kvs.map fun p => keyP p.1).zip ds)) = some p) : DpD K H v p := by
  simp only [Option.map_eq_some_iff] at e
  obtain ⟨ps, e1, rfl⟩ := e
  obtain ⟨a, o, hk, rfl, ea, ec, en, r2⟩ := rp_dct S r ed
  have hrd : Rd H a (.dK hk) := by
    rcases core_dK ec with rfl | ⟨ob, rfl⟩
    · exact .inl ea
    · exact .inr ⟨ob, ea⟩
  refine .dct hrd ?_ (rp_dpq_of ih _ _ ps r2 e1)
  have e3 : (kvs.map (·.1)).map keyP = (hk.map (·.1)).map keyP := by rw [en]
  have this : (fun p : Key × V => (match p.1 with | .inl i => PyData.int i | .inr x => PyData.str x)) = fun p => keyP p.1 := by
    funext p
    obtain ⟨k, v⟩ := p
    cases k <;> rfl
  rw [this]
  rw [List.map_map, List.map_map] at e3
  exact e3
theorem rp_dpq (S : HR K CA m h H) : ∀ (n : Nat) (d : D) (v : V) (p : PyData), Rp K CA m h H v d → toQ h n d = some p → DpD K H v p
  | 0, d, _, _, _, e => by cases d <;> cases e
  | n + 1, .non, _, _, r, e => by cases r; simp only [toQ, Option.some.injEq] at e; subst e; exact .non
  | n + 1, .bl b, _, _, r, e => by cases r; simp only [toQ, Option.some.injEq] at e; subst e; exact .bl b
  | n + 1, .int b, _, _, r, e => by cases r; simp only [toQ, Option.some.injEq] at e; subst e; exact .int b
  | n + 1, .str b, _, _, r, e => by cases r; simp only [toQ, Option.some.injEq] at e; subst e; exact .str b
  | n + 1, .lst ds, _, _, r, e => by
    simp only [toQ, Option.map_eq_some_iff] at e
    obtain ⟨ps, e1, rfl⟩ := e
    obtain ⟨a, xs, rfl, e2, r2⟩ := rp_lst S r rfl
    exact .lst (.of e2) (rp_dpq_of (rp_dpq S n) ds xs ps r2 e1)
  | n + 1, .tup ds, _, _, r, e => by
    simp only [toQ, Option.map_eq_some_iff] at e
    obtain ⟨ps, e1, rfl⟩ := e
    obtain ⟨a, xs, rfl, e2, r2⟩ := rp_tup r
    exact .tup e2 (rp_dpq_of (rp_dpq S n) ds xs ps r2 e1)
  | n + 1, .dct kvs, v, p, r, e => dct_dpq S (rp_dpq S n) r rfl (by simpa only [toQ] using e)
  | n + 1, .ref k, v, p, r, e => by
    simp only [toQ] at e
    split at e
    · rename_i ds q
      simp only [Option.map_eq_some_iff] at e
      obtain ⟨ps, e1, rfl⟩ := e
      obtain ⟨a, xs, rfl, e2, r2⟩ := rp_lst S r (show lstOf h (.ref k) = some ds by simp only [lstOf, q])
      exact .lst (.of e2) (rp_dpq_of (rp_dpq S n) ds xs ps r2 e1)
    · rename_i kvs q
      exact dct_dpq S (rp_dpq S n) r (show dctOf h (.ref k) = some kvs by simp only [dctOf, q]) e
    · cases e
  | n + 1, .obj _ _, _, _, _, e => by simp [toQ] at e
  | n + 1, .scr _, _, _, _, e => by simp [toQ] at e
  | n + 1, .ty _, _, _, _, e => by simp [toQ] at e
  | n + 1, .cls _, _, _, _, e => by simp [toQ] at e
  | n + 1, .exc _ _, _, _, _, e => by simp [toQ] at e
def boxed (h : CH) (d : D) : Bool := (seqOf h d).isSome || (dctOf h d).isSome
def fRep : FD := fun ds h => match ds with
  | [.int i] => if i.natAbs.log2 < 1920 then .ok (.str (toString i)) h else .no
  | [d] => match toQ h 14 d with
    | some p => if boxed h d = true ∧ p.showable = true ∧ p.depth ≤ 60 ∧ p.shown.length ≤ sizeLine then .ok (.str p.shown) h else .no
    | none => .no
  | _ => .no
def rRep (K : PySem.W.Frag) : List V → Hp → VK → Prop := fun xs H Q => (∃ i, xs = [.int i] ∧ i.natAbs.log2 < 1920 ∧ Q (.str (toString i)) H) ∨
  ∃ a p, xs = [V.ref a] ∧ DpD K H (V.ref a) p ∧ p.showable = true ∧ p.depth ≤ 60 ∧ p.shown.length ≤ sizeLine ∧ Q (.str p.shown) H
theorem call_rep (sm : SM X.base) (hG : X.A.guards = some []) (hu : X.A.units + 64 < cLine) (hK : X.K = K := by rfl) : CallR X (.builtin "repr") (rRep K) := by
  subst hK
  rintro pins s σ H xs us Q I r (⟨i, rfl, l, q⟩ | ⟨a, p, rfl, dp, sh, dep, sz, q⟩)
  · exact SkE.call_repr_int pins s σ H _ us Q I r ⟨i, rfl, l, q⟩
  · obtain ⟨u, rfl, rx⟩ := vals1 r
    cases (show u = Value.ref a from rx)
    obtain ⟨as, rd, na⟩ := DpD.reads I sm p (V.ref a) _ dp rfl
    exact repr_of_reads' rd sh (fun _ => na) hG (by omega) (fun _ _ e => e) (fun h' u tk hk => ⟨.str p.shown, H, I.kept hk, ⟨u, rfl⟩, q⟩) sz
theorem sim_rep : SimC K CA (rRep K) fRep := by
  intro W σ m h H xs ds Q' S r t
  unfold fRep at t
  split at t
  · cases r with
    | cons r1 r2 =>
      cases r1
      cases r2
      obtain ⟨c, t⟩ := post_ite t
      exact .inl ⟨_, rfl, c, t.here S (.str _)⟩
  · rename_i d _
    split at t
    · rename_i p e2
      obtain ⟨⟨c0, c1, c2, c3⟩, t⟩ := post_ite t
      cases r with
      | cons r1 r2 =>
        cases r2
        unfold boxed at c0
        cases e1 : seqOf h d with
        | some ys =>
          obtain ⟨a, zs, rfl, _, _⟩ := rp_seq S r1 e1
          exact .inr ⟨a, p, rfl, rp_dpq S _ _ _ p r1 e2, c1, c2, c3, t.here S (.str _)⟩
        | none =>
          rw [e1] at c0
          cases e3 : dctOf h d with
          | none => rw [e3] at c0; simp at c0
          | some kvs =>
            obtain ⟨a, o, hk, rfl, _⟩ := rp_dct S r1 e3
            exact .inr ⟨a, p, rfl, rp_dpq S _ _ _ p r1 e2, c1, c2, c3, t.here S (.str _)⟩
    · exact t.elim
  · exact t.elim
end
open PySem PySem.Spec PySem.Calls PyProof.Rows L2
open PySem PySem.Spec PySem.Calls PyProof.Rows L2 PySem.HandSPX
section
variable {P : Program} {w : World} {K : PySem.W.Frag} {CA : CAs} {mg mb : Str → Option Value} {k : Nat} {fa a : Addr} {fd : FuncData} {sh : Shared} {vs : List Value} {ns : List Int} {F : FD} {cs : List (Addr × Addr)}
theorem law_endT (kin : K.In sh.heap) (gl : sh.heap.Ns mainGlobals mg) (bl : sh.heap.Ns builtinsNs mb)
    (blt : ∀ x : Str, x ≠ "__name__" → mb x = bootBuiltins x) (nl : sh.heap.NoLimit) (gens : sh.gens = #[]) (ha : sh.heap.get? a = some { cls := .type "list", data := .seq vs.toArray }) (hi : IntsAre vs ns) (hl : ns.length ≤ 63) (hr : Room k callerA) (hF : LawF F) (sm : SM sh.heap)
    (hT : ∀ p ∈ cs, sh.heap.get? p.2 = some { cls := .none, data := .fields #[] }) (nT : ∀ p ∈ cs, K.lookup p.2 = none) (hC : ∀ p ∈ cs, PySem.W.CodeHd sh.heap p.1 p.2)
    (hbm : ∃ (bm : Addr) (ob : Obj), mg "__builtins__" = some (.ref bm) ∧ bm ≠ builtinsNs ∧ sh.heap.get? bm = some ob ∧ ob.cls = .type "module" ∧ ob.dict = some builtinsNs ∧ ob.data = .plain) (T0 : ∀ p ∈ CA.T, ∃ c, (c, p.1) ∈ cs)
    (G : ∀ base : Heap, K.In base → base.Ns mainGlobals mg → SM base → (∀ p ∈ cs, LamX.TabB base mg p.1 p.2) → FnG P w K mg base true k fa fd ["_law_script"] (spD K CA 1 F)) (bind : ∀ (s : Shared) (u : Value), BindsTo s fd ⟨[u], []⟩ [("_law_script", u)]) :
    codeAny (model P w) callerA (.call (.ref fa) ⟨[.ref a], []⟩) (fun r s' => r = .ok (.ret (.bool true)) ∧ OldK sh.heap s'.heap ∧ s'.os = sh.os ∧ AllBare s'.gens) sh := by
  have rv := vals_ints hi
  have hv := hi.length
  have isT : ∀ b : Addr, b ∈ cs.map (·.2) → sh.heap.get? b = some { cls := .none, data := .fields #[] } := fun b hb => by
    obtain ⟨p, hp, e⟩ := List.mem_map.mp hb
    rw [← e]
    exact hT p hp
  have memT : ∀ p ∈ cs, p.2 ∈ cs.map (·.2) := fun p hp => List.mem_map.mpr ⟨p, hp, rfl⟩
  have aT : a ∉ cs.map (·.2) := fun z => by
    have q := isT a z
    rw [ha] at q
    have z' : Data.seq vs.toArray _ = Data.fields #[] := congrArg Obj.data (Option.some.inj q)
    cases z'
  suffices main : ∀ H : Hp, (∀ b, H b = none ∨ (b = a ∧ ∃ o xs, H b = some (.frz o (.lst xs))) ∨ (b ∈ cs.map (·.2) ∧ H b = some (.tbl #[]))) → (∀ p ∈ cs, H p.2 = some (.tbl #[])) → Rp K CA ⟨fun _ => 0, []⟩ CH.emp H (.ref a) (.scr ns) → HOk P w H sh.heap → (H a ≠ none → K.lookup a = none) →
      codeAny (model P w) callerA (.call (.ref fa) ⟨[.ref a], []⟩) (fun r s' => r = .ok (.ret (.bool true)) ∧ OldK sh.heap s'.heap ∧ s'.os = sh.os ∧ AllBare s'.gens) sh by
    have nlive : ∀ b, ¬ Live ⟨fun _ => 0, []⟩ CH.emp b := fun b z => by
      rcases z with ⟨k, o, e, _⟩ | z
      · cases e
      · cases z
    cases hk : K.lookup a with
    | some o =>
      have e := kin a o hk
      rw [ha] at e
      cases e
      refine main (fun b => if b ∈ cs.map (·.2) then some (.tbl #[]) else none) (fun b => ?_) (fun p hp => if_pos (memT p hp)) (.kscr (.inr ⟨_, vs.toArray, _, hk, rfl, rfl, rfl, ?_, by simpa using rv⟩)) (fun b u z => ?_) fun z => absurd (if_neg aT) z
      · by_cases h : b ∈ cs.map (·.2)
        · exact .inr (.inr ⟨h, if_pos h⟩)
        · exact .inl (if_neg h)
      · rw [List.size_toArray, hv]
        exact Nat.le_trans hl (by decide)
      · by_cases h : b ∈ cs.map (·.2)
        · have z' := (if_pos h).symm.trans z
          cases z'
          exact isT b h
        · have z' := (if_neg h).symm.trans z
          cases z'
    | none =>
      refine main (fun b => if b = a then some (.frz { cls := .type "list", data := .seq vs.toArray } (.lst (ns.map V.int))) else if b ∈ cs.map (·.2) then some (.tbl #[]) else none) (fun b => ?_) (fun p hp => (if_neg (show ¬ p.2 = a from fun z => aT (by rw [← z]; exact memT p hp))).trans (if_pos (memT p hp)))
        (.scr (nlive a) (if_pos rfl)) (fun b u z => ?_) fun _ => hk
      · by_cases h : b = a
        · exact .inr (.inl ⟨h, _, _, if_pos h⟩)
        · by_cases h2 : b ∈ cs.map (·.2)
          · exact .inr (.inr ⟨h2, (if_neg h).trans (if_pos h2)⟩)
          · exact .inl ((if_neg h).trans (if_neg h2))
      · by_cases h : b = a
        · cases (if_pos h).symm.trans z
          subst h
          exact ⟨ha, by rw [List.length_map]; exact Nat.le_trans hl (by decide), vs, _, rv, ha⟩
        · have z1 := (if_neg h).symm.trans z
          by_cases h2 : b ∈ cs.map (·.2)
          · have z' := (if_pos h2).symm.trans z1
            cases z'
            exact isT b h2
          · have z' := (if_neg h2).symm.trans z1
            cases z'
  intro H only hH rp hok hK
  have noD : ∀ {b : Addr} {o : Obj}, sh.heap.get? b = some o → (∀ vs n, o.data ≠ .seq vs n) → o.data ≠ .fields #[] → H b = none := fun {b o} e h1 h2 => by
    rcases only b with q | ⟨q, _⟩ | ⟨q, _⟩
    · exact q
    · rw [q, ha] at e
      cases e
      exact (h1 _ _ rfl).elim
    · rw [isT b q] at e
      cases e
      exact (h2 rfl).elim
  have offA : ∀ {b : Addr} {o : Obj}, sh.heap.get? b = some o → H b = none → (hidT sh.heap H).get? b = some o := fun {b o} e n => hidT_get e n
  have noDict : ∀ {b : Addr} {o : Obj} {es : Array DictEntry} {ep : Nat}, sh.heap.get? b = some o → o.data = .dict es ep → H b = none := fun {b o es ep} e d => by
    refine noD e (fun vs n z => ?_) fun z => ?_
    · rw [d] at z
      cases z
    · rw [d] at z
      cases z
  have ns' : ∀ {b : Addr} {m : Str → Option Value}, sh.heap.Ns b m → (hidT sh.heap H).Ns b m := fun {b m} ⟨o, es, ep, e, d, r⟩ => ⟨o, es, ep, offA e (noDict e d), d, r⟩
  have kb : K.In (hidT sh.heap H) := fun b o e => offA (kin b o e) (by
    rcases only b with q | ⟨q, _⟩ | ⟨q, _⟩
    · exact q
    · by_cases h : H b = none
      · exact h
      · rw [q] at h e
        rw [hK h] at e
        cases e
    · obtain ⟨p, hp, ep⟩ := List.mem_map.mp q
      rw [← ep, nT p hp] at e
      cases e)
  have TB : ∀ p ∈ cs, LamX.TabB (hidT sh.heap H) mg p.1 p.2 := fun p hp => by
    have hTp := hT p hp
    refine ⟨?_, ?_, fun z => ?_⟩
    · obtain ⟨o, us, file, tf, flags, tg, inF, text, tt, e1, r1, r2, r3, rest⟩ := hC p hp
      refine ⟨o, us, file, tf, flags, tg, inF, text, tt, offA e1 (noD e1 (fun vs n z => ?_) fun z => ?_), r1, r2, r3, rest⟩
      · rw [r2] at z
        cases z
      · rw [r2] at z
        cases z
        simp at r3
    · obtain ⟨bm, ob, b1, b2, b3, b4, b5, b6⟩ := hbm
      have nG : bm ≠ mainGlobals := fun q => by
        obtain ⟨o, es, ep, e, hd, _⟩ := gl
        rw [q, e] at b3
        cases b3
        rw [hd] at b6
        cases b6
      have nP : bm ≠ p.2 := fun q => by
        rw [q, hTp] at b3
        cases b3
        cases b6
      refine ⟨bm, ob, b1, b2, nG, nP, offA b3 (noD b3 (fun vs n z => ?_) fun z => ?_), b4, b5, b6⟩
      · rw [b6] at z
        cases z
      · rw [b6] at z
        cases z
    · obtain ⟨o, es, ep, e, hd, _⟩ := gl
      rw [z, hTp] at e
      cases e
      cases hd
  have env : Env0 P w K mg (hidT sh.heap H) callerA [] sh H := ⟨rfl, ⟨kb, ns' gl, ⟨mb, ns' bl, blt⟩, nl.imp fun mc h => ⟨ns' h.1, h.2⟩⟩, fun b o e => of_hidT e, Nat.le_of_eq (hidT_size _ _), trivial, fun b hb => absurd hb List.not_mem_nil, hok, .of_eq gens⟩
  have hR : HR K CA ⟨fun _ => 0, []⟩ CH.emp H := ⟨fun k o e => (nomatch e), fun k j o u e => (nomatch e), fun k o e => (nomatch e), fun a l => (nomatch l), fun p hp => by
    obtain ⟨c, hc⟩ := T0 p hp
    exact LamX.TabS.nil (hH _ hc)⟩
  have smB : SM (hidT sh.heap H) := by
    obtain ⟨o, es, ep, e, d⟩ := sm
    exact ⟨o, es, ep, offA e (noDict e d), d⟩
  obtain ⟨hf, eF⟩ := hF ns hl
  refine codeAny_mono ((G _ kb (ns' gl) smB TB).go callerA [] sh H ⟨[.ref a], []⟩ [.ref a] [.ref a] (fun v _ => v = .bl true) (fun _ _ _ => False) (fun _ => rfl) hr env (bind sh (.ref a)) (.cons rfl .nil) ⟨rfl, ⟨fun _ => 0, []⟩, CH.emp, [.scr ns], hR, .cons rp .nil, by
    rw [eF]
    intro m' v H' s S r
    cases r
    rfl⟩) fun r s' h => ?_
  rcases r with e | fl
  · obtain ⟨_, _, _, _, _, _, _, _, _, _, _, _, z⟩ := h
    exact z.elim
  · rcases fl with _ | _ | _ | u
    · exact False.elim h
    · exact False.elim h
    · exact False.elim h
    · obtain ⟨v, H2, os, bare, un, hok2, r2, q⟩ := h
      obtain rfl : v = .bl true := q
      obtain rfl : u = Value.bool true := r2
      have key : ∀ b o, b ∉ cs.map (·.2) → sh.heap.get? b = some o → s'.heap.get? b = some o := fun b o nb e => by
        rcases only b with z | ⟨_, ob, xs, z⟩ | ⟨z, _⟩
        · exact un.keep b o e z (fun y => absurd y List.not_mem_nil) (by simp)
        · obtain ⟨e1, _⟩ := hok b _ z
          obtain ⟨e2, _⟩ := hok2 b _ (un.frzs b ob _ z)
          rw [e] at e1
          cases e1
          exact e2
        · exact absurd z nb
      have grown : ∀ p ∈ cs, ∃ more : Array Value, s'.heap.get? p.2 = some { cls := .none, data := .fields more } := fun p hp => by
        obtain ⟨more, z⟩ := un.tbls p.2 #[] (hH p hp)
        exact ⟨_, hok2 p.2 _ z⟩
      refine ⟨rfl, ⟨fun b o e => ?_, fun b o e => ?_⟩, os, bare⟩
      · by_cases hb : b ∈ cs.map (·.2)
        · obtain ⟨p, hp, ep⟩ := List.mem_map.mp hb
          obtain ⟨more, hm⟩ := grown p hp
          rw [← ep] at e ⊢
          rw [hT p hp] at e
          cases e
          exact .inr (.inl ⟨((hC p hp).tab (hT p hp)).isCodeTable, rfl, #[], more, rfl, by rw [Array.empty_append]; exact hm⟩)
        · exact .inl (key b o hb e)
      · by_cases hb : b ∈ cs.map (·.2)
        · obtain ⟨p, hp, ep⟩ := List.mem_map.mp hb
          obtain ⟨more, hm⟩ := grown p hp
          rw [← ep]
          exact ⟨_, hm⟩
        · exact ⟨o, key b o hb e⟩
end
def dStar (ta : TD) (ts : TDs) : TDs := fun ρ h => (ta ρ h).bind fun d h => match seqOf h d with
  | some xs => (ts ρ h).bind fun ys h => .ok (xs ++ ys) h
  | none => .no
section
variable {X : Cx} {K : PySem.W.Frag} {CA : CAs} {W : WX} {e : Expr} {es : List Expr} {pos p sp_ : Pos} {ha : TE} {ta : TD} {hs : TA} {ts : TDs}
theorem rps_app {m : Mp} {h : CH} {H : Hp} : ∀ {xs ys : List V} {ds es : List D}, RpAll K CA m h H xs ds → RpAll K CA m h H ys es → RpAll K CA m h H (xs ++ ys) (ds ++ es)
  | [], _, _, _, a, b => by cases a; exact b
  | x :: xs, _, _, _, a, b => by
    cases a with
    | cons a1 a2 => exact .cons a1 (rps_app a2 b)
theorem wa_star (x : WE X K CA W e ha ta) (y : WA X K CA W es hs ts) (hK : X.K = K := by rfl) (hst : starEach (.Starred e sp_ :: es) X.env = (true, eval e X.env) :: starEach es X.env := by rfl) : WA X K CA W (.Starred e sp_ :: es) (StX.tStar K ha hs) (dStar ta ts) := by
  subst hK
  refine ⟨StX.pa_star x.pe y.pe hst, fun m h H σ ρ Q' S t => x.sim m h H σ ρ _ S (t.bind fun d h1 m1 v H1 s1 S1 r1 t1 => ?_)⟩
  split at t1
  · rename_i xs e1
    obtain ⟨a, zs, rfl, q, rr⟩ := rp_seq S1 r1 e1
    refine ⟨a, zs, rfl, q.symm, y.sim m1 h1 H1 σ ρ _ (S.move s1 S1) (t1.bind fun ys h2 m2 ws H2 s2 S2 r2 t2 => ?_)⟩
    exact t2.here S2 (rps_app (rr.move s2) r2)
  · exact t1.elim
end
section
variable {X : Cx} {K : PySem.W.Frag} {CA : CAs} {W : WX} {e : Expr} {es : List Expr} {pos p : Pos} {ha : TE} {ta : TD} {hs : TA} {ts : TDs} {x : Str} {g : Bool} {k : Nat} {ps : List Str} {F : FD} {f : Addr} {fd : FuncData}
theorem we_callS (D : Df X.prog X.w X.K X.mg X.base CA x g k ps F f fd) (hG : g = true → X.A.guards = some []) (hr : Room k X.A) (tk' : Takes X W) (h : WA X K CA W (e :: es) hs ts) (B : KwB K CA fd ps ps.length [] (srcP 0 ps.length)) (hg : Gl X x := by rfl) (hK : X.K = K := by rfl)
    (hdb : (x == ("__debug__" : Str)) = false := by decide) (he : starEach (e :: es) X.env = (false, eval e X.env) :: starEach es X.env := by rfl) (hst : (backTo pos (starEach es X.env)).any (·.1) = true := by rfl) :
    WE X K CA W (.Call (.Name x p) (e :: es) [] pos) (tCallN K CA W ps.length 0 (fun ds _ => F ds) hs L2.tNil) (dCall ps.length F ts) := by
  subst hK
  refine ⟨⟨fun pins s σ H Q I hq => wpAny_Call_Name_kw (ld_glob I hg D.hm ?_ hdb)⟩, sim_call h.sim⟩
  refine PySem.W.callWith_S2 (h₀ := X.base) I.ok.mod.kin D.hk (thn (h.pe.run pos pins s σ H _ I hq) fun us s1 ⟨vs, H1, I1, r, l1, l2, m, h, ds, es, hR, rd, re, q⟩ => ⟨I1.kIn, ?_⟩) he hst
  refine run_callN (ws := []) D.G hG hr B tk' I1 r .nil l1 l2 hR rd re (srcP_length _ _) ?_
  have e : pickD ds es (srcP 0 ps.length) = ds := by rw [← l1, rd.length]; exact pick_srcP es ds
  rw [e]
  exact q
end
def dTupR (ta : TD) : TD := fun ρ h => (ta ρ h).bind fun d h => match d with
  | .int n => if 0 ≤ n ∧ n ≤ 100000 then .ok (.tup (rgD 0 n.toNat)) h else .no
  | _ => .no
section
variable {X : Cx} {K : PySem.W.Frag} {CA : CAs} {W : WX} {e : Expr} {pos p p2 pos2 : Pos} {ha : TE} {ta : TD}
theorem rp_ints_l {m : Mp} {h : CH} {H : Hp} : ∀ (l : List Nat), RpAll K CA m h H (l.map fun i : Nat => V.int (0 + (i : Int))) (l.map fun i : Nat => D.int (0 + (i : Int)))
  | [] => .nil
  | i :: l => .cons (.int _) (rp_ints_l l)
theorem we_tupR (x : WE X K CA W e ha ta) (hm : X.mg "tuple" = none) (hm2 : X.mg "range" = none) (hc : X.calm = true := by rfl) (hg : Gl X "tuple" := by rfl) (hg2 : Gl X "range" := by rfl) (n1 : starEach [e] X.env = (false, eval e X.env) :: starEach [] X.env := by rfl)
    (n2 : starEach [Expr.Call (.Name "range" p2) [e] [] pos2] X.env = (false, eval (Expr.Call (.Name "range" p2) [e] [] pos2) X.env) :: starEach [] X.env := by rfl) :
    WE X K CA W (.Call (.Name "tuple" p) [.Call (.Name "range" p2) [e] [] pos2] [] pos) (tTupRg (tRg1 ha)) (dTupR ta) :=
  ⟨pe_tupRg hc hg hm (prg_1 hg2 hm2 x.pe n1) n2, fun m h H σ ρ Q' S t => x.sim m h H σ ρ _ S (t.bind fun d h1 m1 v H1 s1 S1 r1 t1 => by
    split at t1
    · rename_i n
      obtain ⟨⟨c1, c2⟩, t2⟩ := post_ite t1
      cases r1
      refine ⟨n, rfl, ⟨by omega, by omega, by omega, by omega, by omega⟩, fun q nq => ?_⟩
      have e1 : rgV 0 n = (List.range n.toNat).map fun i : Nat => V.int (0 + (i : Int)) := by
        unfold rgV
        rw [Int.sub_zero]
      rw [e1]
      exact t2.laid S1 nq (.tup (S1.fresh nq) upd_same (rps_laid S1 nq (rp_ints_l _)))
    · exact t1.elim)⟩
end
def keysL (ds : List D) : Option (List Key) := ds.mapM keyD
def dGetT (kvs : List (List Key × D)) (k : List Key) : Option D := (kvs.find? fun kv => decide (kv.1 = k)).map (·.2)
def dPutT (ps : List (List Key × D)) (k : List Key) (d : D) : List (List Key × D) :=
  if (ps.any fun p => decide (p.1 = k)) = true then ps.map (fun p => if p.1 = k then (p.1, d) else p) else ps ++ [(k, d)]
section
variable {K : PySem.W.Frag} {CA : CAs} {m : Mp} {h : CH} {H : Hp} {v : V} {d : D}
theorem rp_keysL : ∀ {vs : List V} {ds : List D} {ks : List Key}, RpAll K CA m h H vs ds → keysL ds = some ks → vs = ks.map kV
  | [], _, _, r, e => by
    cases r
    unfold keysL at e
    simp at e
    subst e
    rfl
  | v :: vs, _, _, r, e => by
    cases r with
    | cons r1 r2 =>
      unfold keysL at e
      simp only [List.mapM_cons, Option.bind_eq_bind, Option.bind_eq_some_iff, Option.pure_def, Option.some.injEq] at e
      obtain ⟨k, e1, ks, e2, rfl⟩ := e
      rw [List.map_cons, rp_key r1 e1, rp_keysL r2 (show keysL _ = some ks from e2)]
theorem rp_dgetT {k : List Key} : ∀ {kvs : List (List Key × V)} {ds : List (List Key × D)} {d : D}, kvs.map (·.1) = ds.map (·.1) → RpAll K CA m h H (kvs.map (·.2)) (ds.map (·.2)) → dGetT ds k = some d → ∃ v, valV kvs k = some v ∧ Rp K CA m h H v d
  | [], [], _, _, _, g => by cases g
  | [], _ :: _, _, e, _, _ => by simp at e
  | _ :: _, [], _, e, _, _ => by simp at e
  | p :: kvs, q :: ds, d, e, r, g => by
    obtain ⟨pk, pv⟩ := p
    obtain ⟨qk, qv⟩ := q
    simp only [List.map_cons, List.cons.injEq] at e
    obtain ⟨e1, e2⟩ := e
    subst e1
    cases r with
    | cons r1 r2 =>
      by_cases c : pk = k
      · subst c
        have : d = qv := by simpa [dGetT] using g.symm
        exact ⟨pv, by simp [valV], by rw [this]; exact r1⟩
      · obtain ⟨w, h1, h2⟩ := rp_dgetT (k := k) e2 r2 (show dGetT ds k = some d by simpa only [dGetT, List.find?_cons, decide_eq_false c] using g)
        exact ⟨w, by rw [valV_neg c]; exact h1, h2⟩
theorem rp_dputT {k : List Key} {kvs : List (List Key × V)} {ds : List (List Key × D)} (e : kvs.map (·.1) = ds.map (·.1)) (r : RpAll K CA m h H (kvs.map (·.2)) (ds.map (·.2))) (r' : Rp K CA m h H v d) :
    (putK kvs k v).map (·.1) = (dPutT ds k d).map (·.1) ∧ RpAll K CA m h H ((putK kvs k v).map (·.2)) ((dPutT ds k d).map (·.2)) := by
  unfold putK dPutT
  rw [keys_any e]
  by_cases q : (ds.any fun kv => decide (kv.1 = k)) = true
  · rw [if_pos q, if_pos q]
    clear q
    induction kvs generalizing ds with
    | nil => cases ds with
      | nil => exact ⟨rfl, .nil⟩
      | cons => simp at e
    | cons p kvs ih => cases ds with
      | nil => simp at e
      | cons q ds =>
        simp only [List.map_cons, List.cons.injEq] at e
        cases r with
        | cons r1 r2 =>
          obtain ⟨i1, i2⟩ := ih e.2 r2
          simp only [List.map_cons]
          by_cases hk : q.1 = k
          · rw [if_pos (e.1.trans hk), if_pos hk]
            exact ⟨by rw [i1, e.1], .cons r' i2⟩
          · rw [if_neg (fun z => hk (e.1.symm.trans z)), if_neg hk]
            exact ⟨by rw [i1, e.1], .cons r1 i2⟩
  · rw [if_neg q, if_neg q]
    simp only [List.map_append, List.map_cons, List.map_nil]
    exact ⟨by rw [e], r.append (.cons r' .nil)⟩
end
def dIxT (ta : TD) (ts : TDs) : TD := fun ρ h => (ta ρ h).bind fun x h => (ts ρ h).bind fun ds h => match x with
  | .ref k => match h.ob k, keysL ds with
    | some (.dctT kvs), some ks => if ds.length ≤ sizeLine then (match dGetT kvs ks with
      | some d => .ok d h
      | none => .no) else .no
    | _, _ => .no
  | _ => .no
def gdSubT (ta : TD) (ts : TDs) : TGD := fun d ρ h => (ta ρ h).calm fun x h => (ts ρ h).calm fun ds h => match x with
  | .ref k => match h.ob k, keysL ds with
    | some (.dctT kvs), some ks => if ds.length ≤ sizeLine ∧ kvs.length < sizeLine then .ok ρ (h.put k (.dctT (dPutT kvs ks d))) else .no
    | _, _ => .no
  | _ => .no
section
variable {X : Cx} {K : PySem.W.Frag} {CA : CAs} {W : WX} {a o e : Expr} {es : List Expr} {x1 : Nat} {pos p2 : Pos} {ha : TE} {ta : TD} {hs : TA} {ts : TDs}
theorem we_ixT (hu : X.A.units + 1 < cLine) (x : WE X K CA W a ha ta) (y : WA X K CA W es hs ts) (hK : X.K = K := by rfl) (hp : PlainIx (.Tuple es x1 p2) := by exact fun _ _ => rfl) : WE X K CA W (.Subscript a (.Tuple es x1 p2) pos) (L2.tOp (rIxU K) ha (L2.tTup hs)) (dIxT ta ts) := by
  refine ⟨pe_ix (ixU hu hK) x.pe (pe_tup y.pe) hp, fun m h H σ ρ Q' S t => x.sim m h H σ ρ _ S (t.bind fun d h1 m1 v H1 s1 S1 r1 t1 => y.sim m1 h1 H1 σ ρ _ (S.move s1 S1) (t1.bind fun ds h2 m2 vs H2 s2 S2 r2 t2 => ?_))⟩
  split at t2
  · rename_i k
    split at t2
    · rename_i kvs ks eo ek
      obtain ⟨l, t3⟩ := post_ite t2
      split at t3
      · rename_i d eg
        have ev := rp_ref (r1.move s2)
        subst ev
        obtain ⟨xs, e1, en, rr⟩ := mo_dctT S2 eo
        obtain ⟨w, g1, g2⟩ := rp_dgetT en rr eg
        have evs := rp_keysL r2 ek
        refine ⟨by rw [r2.length]; exact l, fun p n => .inr ⟨_, w, rfl, ?_, t3 m2 w _ (stp_laid S2 n) (S2.laid n) (g2.move (stp_laid S2 n))⟩⟩
        rw [← g1]
        exact DGet.t (by rw [upd_ne (ne_of_none e1 n)]; exact e1) (by rw [upd_same, evs])
      · exact t3.elim
    · exact t2.elim
  · exact t2.elim
theorem wg_subT (hu : X.A.units + 1 < cLine) (x : WE X K CA W a ha ta) (y : WA X K CA W es hs ts) (hp : PE X a ha → PE X (.Tuple es x1 p2) (L2.tTup hs) → PSet X rSetU → PG X e (gSub ha (L2.tTup hs) rSetU)) : WG X K CA e [] (gSub ha (L2.tTup hs) rSetU) (gdSubT ta ts) := by
  refine ⟨hp x.pe (pe_tup y.pe) (set_U hu), fun m hh H σ ρ v d Q' S r q => x.sim m hh H σ ρ _ S (PostT'.calm q fun a h1 m1 w H1 s1 S1 r1 q1 => y.sim m1 h1 H1 σ ρ _ (S.move s1 S1) (PostT'.calm q1 fun ds h2 m2 vs H2 s2 S2 r2 q2 => ?_))⟩
  split at q2
  · rename_i k
    split at q2
    · rename_i kvs ks eo ek
      by_cases c : ds.length ≤ sizeLine ∧ kvs.length < sizeLine
      · rw [if_pos c] at q2
        have ev := rp_ref (r1.move s2)
        subst ev
        have evs := rp_keysL r2 ek
        have SS := (S.move s1 S1).move s2 S2
        have rv := (r.move s1).move s2
        refine ⟨by rw [r2.length]; exact c.1, fun p n => ?_⟩
        have sL := stp_laid (u := .tup vs) S2 n
        have S3 := S2.laid (u := .tup vs) n
        obtain ⟨xs, e1, en, rr⟩ := mo_dctT S3 eo
        obtain ⟨i1, i2⟩ := rp_dputT (k := ks) en rr (rv.move sL)
        have sp := stp_put (o' := .dctT (dPutT kvs ks d)) (u := .dT (putK xs ks v)) S3 eo trivial
        have lx : xs.length = kvs.length := by simpa using congrArg List.length en
        exact .inr ⟨_, _, rfl, DPut.t e1 (by rw [upd_same, evs]) (by rw [lx]; exact c.2), q2 m2 σ _ (sL.trans sp) ((SS.move sL S3).move sp (S3.put eo (.dctT upd_same i1 (i2.mv (mv_put eo))))) rfl fun _ _ => rfl⟩
      · rw [if_neg c] at q2; exact q2.elim
    · exact q2.elim
  · exact q2.elim
end
abbrev NoE : Value → Shared → Prop := fun _ _ => False
abbrev tests (ifs : List Expr) (env : Env) : Sem Bool := forIn ifs true fun c r => if r = true then do let ok ← isTrue c env (eval c env); pure (ForInStep.yield ok) else pure (ForInStep.yield r)
def TurnIs (E : Expr) (c : Nat) (tg iter : Expr) (ifs : List Expr) (it acc : Value) (env : Env) (bk : Sem Fin → Sem Fin) : Prop :=
  compTurn E c it acc env = (standAt iter.pos >>= fun _ => pyNext it >>= fun r => match r with
    | none => pure (.done .next)
    | some v => letOwnedTupleGo tg it v >>= fun _ => assign tg env v >>= fun _ => tests ifs env >>= fun ok => if ok = true then bk (again (.compLoop E c it acc env)) else again (.compLoop E c it acc env))
section
variable {prog : Program} {w : World} {A : Around} {R : Result → Shared → Prop} {s : Shared} {kx vx tg iter : Expr} {gens : List Comprehension} {scope : Scope} {pos : Pos} {ifs : List Expr} {c : Nat} {it acc : Value} {env : Env} {bk : Sem Fin → Sem Fin} {Wsh : (Shared → Prop) → Shared → Prop}
theorem g_loop (eq : TurnIs (.DictComp kx vx gens scope pos) c tg iter ifs it acc env bk)
    (hbk : ∀ (P : Shared → Prop) (k : Sem Fin) (Q : Fin → Shared → Prop) (E' : Value → Shared → Prop) (s : Shared), Wsh P s → (∀ s', P s' → wpAny (model prog w) A k Q E' s') → wpAny (model prog w) A (bk k) Q E' s) (I : Nat → Shared → Prop)
    (turn : ∀ n s, I n s → wpAny (model prog w) A (pyNext it) (fun r s1 => match r with
      | none => R (.ok .next) s1
      | some v => wpAny (model prog w) A (letOwnedTupleGo tg it v) (fun _ s2 => wpAny (model prog w) A (assign tg env v) (fun _ s3 => wpAny (model prog w) A (tests ifs env)
          (fun ok s4 => if ok = true then Wsh (fun s5 => ∃ m, m < n ∧ I m s5) s4 else ∃ m, m < n ∧ I m s4) NoE s3) NoE s2) NoE s1) NoE s)
    (n : Nat) (h : I n s) : codeAny (model prog w) A (.compLoop (.DictComp kx vx gens scope pos) c it acc env) R s := by
  have up : ∀ {α : Type} {t : Sem α} {Q Q' : α → Shared → Prop} {E' : Value → Shared → Prop} {s : Shared}, wpAny (model prog w) A t Q NoE s → (∀ a s, Q a s → Q' a s) → wpAny (model prog w) A t Q' E' s := fun h hQ => wpAny_mono h hQ fun _ _ z => z.elim
  refine codeAny_loop rfl I (fun n s hI => ?_) n h
  show wpAny _ A ((compTurn (.DictComp kx vx gens scope pos) c it acc env).onRaise (fun x => do noteFrame x env; theTreesLotGoes x)) _ _ s
  refine wpAny_noted ?_
  rw [show compTurn (.DictComp kx vx gens scope pos) c it acc env = _ from eq]
  refine wpAny_bind (wpAny_standAt (wpAny_bind (up (turn n s hI) fun r s1 q1 => ?_)))
  cases r with
  | none => exact wpAny_pure q1
  | some v =>
    refine wpAny_bind (up q1 fun _ s2 q2 => wpAny_bind (up q2 fun _ s3 q3 => wpAny_bind (up q3 fun ok s4 q4 => ?_)))
    cases ok with
    | false => exact wpAny_pure ⟨rfl, q4⟩
    | true => exact hbk _ _ _ _ _ q4 fun s5 q5 => wpAny_pure ⟨rfl, q5⟩
end
abbrev putB (kx vx : Expr) (D : Addr) (env : Env) : Sem Unit := do
      let kv ← eval kx env
      let vv ← holding [kv] (eval vx env)
      standAt { kx.pos with endLine := vx.pos.endLine, endCol := vx.pos.endCol }
      holding [kv, vv] (dictSet D kv vv)
theorem turn_one {kx vx tg iter : Expr} {ifs : List Expr} {scope : Scope} {pos : Pos} {it : Value} {D : Addr} {env : Env} :
    TurnIs (.DictComp kx vx [⟨tg, iter, ifs, 0⟩] scope pos) 0 tg iter ifs it (.ref D) env (fun k => putB kx vx D env >>= fun _ => k) := by
  unfold TurnIs
  rfl
theorem turn_in {kx vx t0 i0 tg iter : Expr} {ifs0 ifs : List Expr} {scope : Scope} {pos : Pos} {it : Value} {D : Addr} {env : Env} :
    TurnIs (.DictComp kx vx [⟨t0, i0, ifs0, 0⟩, ⟨tg, iter, ifs, 0⟩] scope pos) 1 tg iter ifs it (.ref D) env (fun k => putB kx vx D env >>= fun _ => k) := by
  unfold TurnIs
  rfl
theorem turn_out {kx vx t0 i0 tg iter : Expr} {ifs0 ifs : List Expr} {scope : Scope} {pos : Pos} {it : Value} {D : Addr} {env : Env} :
    TurnIs (.DictComp kx vx [⟨t0, i0, ifs0, 0⟩, ⟨tg, iter, ifs, 0⟩] scope pos) 0 t0 i0 ifs0 it (.ref D) env (fun k => eval iter env >>= fun x => standAt iter.pos >>= fun _ => foldedSetIterable iter env x >>= fun x => holding [x] (pyIter x) >>= fun i =>
      runOwn (.compStart (.DictComp kx vx [⟨t0, i0, ifs0, 0⟩, ⟨tg, iter, ifs, 0⟩] scope pos) 1 i (.ref D) env) env >>= fun _ => k) := by
  unfold TurnIs
  rfl
def wPut (P : Program) (w : World) (A : Around) (kx vx : Expr) (D : Addr) (env : Env) (P1 : Shared → Prop) (s : Shared) : Prop :=
  wpAny (model P w) A (eval kx env) (fun kv s1 => wpAny (model P w) A (eval vx env) (fun vv s2 => wpAny (model P w) A (dictSet D kv vv) (fun _ s3 => P1 s3) NoE s2) NoE s1) NoE s
theorem bk_put {P : Program} {w : World} {A : Around} {kx vx : Expr} {D : Addr} {env : Env} (P1 : Shared → Prop) (k : Sem Fin) (Q : Fin → Shared → Prop) (E' : Value → Shared → Prop) (s : Shared) (h : wPut P w A kx vx D env P1 s) (hk : ∀ s', P1 s' → wpAny (model P w) A k Q E' s') :
    wpAny (model P w) A (putB kx vx D env >>= fun _ => k) Q E' s := by
  have up : ∀ {α : Type} {t : Sem α} {Q Q' : α → Shared → Prop} {E' : Value → Shared → Prop} {s : Shared}, wpAny (model P w) A t Q NoE s → (∀ a s, Q a s → Q' a s) → wpAny (model P w) A t Q' E' s := fun h hQ => wpAny_mono h hQ fun _ _ z => z.elim
  refine wpAny_bind (wpAny_bind (up h fun kv s1 q1 => wpAny_bind (wpAny_holding (up q1 fun vv s2 q2 => wpAny_bind (wpAny_standAt (wpAny_holding (up q2 fun _ s3 q3 => hk s3 q3)))))))
def wOut (P : Program) (w : World) (A : Around) (E iter : Expr) (D : Addr) (env : Env) (P1 : Shared → Prop) (s : Shared) : Prop :=
  wpAny (model P w) A (eval iter env) (fun x s1 => wpAny (model P w) A (pyIter x) (fun i s2 => codeAny (model P w) A (.compStart E 1 i (.ref D) env) (fun r s' => match r with
    | .ok _ => P1 s'
    | .error _ => False) s2) NoE s1) NoE s
theorem bk_out {P : Program} {w : World} {A : Around} {E iter : Expr} {D : Addr} {env : Env} (hs : ∀ x, foldedSetIterable iter env x = pure x) (P1 : Shared → Prop) (k : Sem Fin) (Q : Fin → Shared → Prop) (E' : Value → Shared → Prop) (s : Shared) (h : wOut P w A E iter D env P1 s) (hk : ∀ s', P1 s' → wpAny (model P w) A k Q E' s') :
    wpAny (model P w) A (eval iter env >>= fun x => standAt iter.pos >>= fun _ => foldedSetIterable iter env x >>= fun x => holding [x] (pyIter x) >>= fun i => runOwn (.compStart E 1 i (.ref D) env) env >>= fun _ => k) Q E' s := by
  have up : ∀ {α : Type} {t : Sem α} {Q Q' : α → Shared → Prop} {E' : Value → Shared → Prop} {s : Shared}, wpAny (model P w) A t Q NoE s → (∀ a s, Q a s → Q' a s) → wpAny (model P w) A t Q' E' s := fun h hQ => wpAny_mono h hQ fun _ _ z => z.elim
  refine wpAny_bind (up h fun x s1 q1 => wpAny_bind (wpAny_standAt (wpAny_bind (wpAny_of_eq (hs x) (wpAny_bind (wpAny_holding (up q1 fun i s2 q2 => wpAny_bind (wpAny_runOwn ?_))))))))
  rw [Around.mark_none]
  refine codeAny_mono q2 fun r s' hr => ?_
  cases r with
  | ok f => exact hk s' hr
  | error e => exact hr.elim
section
variable {Y : Cx} {pins : List (Addr × Obj)} {σb : L2.St} {vs : List Nat} {J : It} {fp : List Addr} {ia : Addr} {tn : Nat → Heap → Prop} {g : TG} {tt : TT} {tb : L2.St → Hp → (Hp → Prop) → Prop} {W : Nat → Nat → Hp → Prop} {Done : Hp → Prop}
  {R : Result → Shared → Prop} {kx vx tg iter : Expr} {gens : List Comprehension} {scope : Scope} {pos : Pos} {ifs : List Expr} {c : Nat} {acc : Value} {bk : Sem Fin → Sem Fin} {Wsh : (Shared → Prop) → Shared → Prop}
theorem b_loop (hc : Y.calm = true) (hx : Y.xe = NoE) (T : Turn Y.prog Y.w Y.K tg J fp ia tn) (eq : TurnIs (.DictComp kx vx gens scope pos) c tg iter ifs (.ref ia) acc Y.env bk)
    (hbk : ∀ (P : Shared → Prop) (k : Sem Fin) (Q : Fin → Shared → Prop) (E' : Value → Shared → Prop) (s : Shared), Wsh P s → (∀ s', P s' → wpAny (model Y.prog Y.w) Y.A k Q E' s') → wpAny (model Y.prog Y.w) Y.A (bk k) Q E' s)
    (hm : ∀ (P P' : Shared → Prop) (s : Shared), (∀ s', P s' → P' s') → Wsh P s → Wsh P' s) (pg : PG Y tg g) (pt : PTs Y ifs tt)
    (hb : ∀ (pl : List (Addr × Obj)) (s : Shared) (σ2 : L2.St) (H : Hp) (Nx : Hp → Prop), Inv Y pl σ2 H s → wipe σ2 vs = wipe σb vs → tb σ2 H Nx → Wsh (fun s' => ∃ σ3 H', Inv Y pl σ3 H' s' ∧ σ3.length = σ2.length ∧ (∀ (j : Nat) v, (wipe σb vs)[j]? = some (some v) → σ3[j]? = some (some v)) ∧ Nx H') s)
    (fpo : ∀ {σ' : L2.St} {H' : Hp} {s' : Shared}, Inv Y pins σ' H' s' → (∀ b ∈ fp, H' b = none) → ∀ b ∈ fp, FpOk Y pins H' b)
    (turn : ∀ i m H, W i m H → (J.stop i H ∧ Done H) ∨ (J.go i H ∧ ∃ Nx : Hp → Prop, (∀ H', Nx H' → ∃ m', m' < m ∧ W (i + 1) m' H') ∧ ∀ x H', J.yld i H x H' → g x (wipe σb vs) H' fun σ2 H2 => wipe σ2 vs = wipe σb vs ∧ tt σ2 H2 fun b H3 => if b = true then tb σ2 H3 Nx else Nx H3))
    (hR : ∀ s' H', Inv Y pins (wipe σb vs) H' s' → Done H' → R (.ok .next) s') {m0 : Nat} {H0 : Hp} {s0 : Shared} (I0 : Inv Y pins (wipe σb vs) H0 s0) (st0 : tn 0 s0.heap) (n0 : ∀ b ∈ fp, H0 b = none) (w0 : W 0 m0 H0) :
    codeAny (model Y.prog Y.w) Y.A (.compLoop (.DictComp kx vx gens scope pos) c (.ref ia) acc Y.env) R s0 := by
  refine g_loop eq hbk (fun n s' => ∃ i H', Inv Y pins (wipe σb vs) H' s' ∧ tn i s'.heap ∧ (∀ b ∈ fp, H' b = none) ∧ W i n H') ?_ m0 ⟨0, H0, I0, st0, n0, w0⟩
  rintro n s5 ⟨i, H5, I5, st5, n5, w5⟩
  rcases turn i n H5 w5 with ⟨stop, dn⟩ | ⟨go, Nx, hNx, step⟩
  · refine wpAny_mono (T.done Y rfl rfl rfl hc i pins s5 _ H5 NoE I5 (fpo I5 n5) st5 stop) (fun r s6 q => ?_) (fun _ _ z => z)
    obtain ⟨rfl, I6⟩ := q
    exact hR _ _ I6 dn
  · refine wpAny_mono (T.item Y rfl rfl rfl hc i pins s5 _ H5 NoE I5 (fpo I5 n5) st5 go) (fun r s6 q => ?_) (fun _ _ z => z)
    obtain ⟨u, rfl, h6⟩ := q
    refine wpAny_mono h6 (fun _ s7 q => ?_) (fun _ _ z => z)
    obtain ⟨x, H7, I7, r7, y7, st7, n7⟩ := q
    have IP := I7.pinned (fpo I7 n7) (T.obj _ _ st7)
    have hpg := pg.run _ s7 _ H7 x u _ IP r7 (step x H7 y7)
    rw [hx] at hpg
    refine wpAny_mono hpg (fun _ s8 q => ?_) (fun _ _ z => z)
    obtain ⟨σ8, H8, I8, hw8, q8⟩ := q
    have hpt := pt.run _ s8 σ8 H8 _ I8 q8
    rw [hx] at hpt
    refine wpAny_mono hpt (fun b s9 q => ?_) (fun _ _ z => z)
    obtain ⟨H9, I9, q9⟩ := q
    have l8 : σ8.length = (wipe σb vs).length := by rw [← hw8, wipe_length]
    have fin : ∀ {s' : Shared}, (∃ σ3 H', Inv Y (pins ++ pinsAt fp s7.heap) σ3 H' s' ∧ σ3.length = σ8.length ∧ (∀ (j : Nat) v, (wipe σb vs)[j]? = some (some v) → σ3[j]? = some (some v)) ∧ Nx H') →
        ∃ m, m < n ∧ ∃ i H', Inv Y pins (wipe σb vs) H' s' ∧ tn i s'.heap ∧ (∀ b ∈ fp, H' b = none) ∧ W i m H' := fun {s'} q => by
      obtain ⟨σ3, H', I', hl, hk, nx⟩ := q
      obtain ⟨m', hm, w'⟩ := hNx H' nx
      have stay : ∀ b ∈ fp, ∀ o, s7.heap.get? b = some o → s'.heap.get? b = some o ∧ H' b = none := fun b hb o e => by
        obtain ⟨z1, z2, _⟩ := I'.pin (b, o) (List.mem_append_right _ (List.mem_append_right _ (mem_pinsAt hb e)))
        exact ⟨z1, z2⟩
      refine ⟨m', hm, i + 1, H', I'.unpinned.weak (by rw [hl, l8]) hk, T.keep _ _ _ st7 fun b hb o e => (stay b hb o e).1, fun b hb => ?_, w'⟩
      obtain ⟨o, e, _⟩ := T.obj _ _ st7 b hb
      exact (stay b hb o e).2
    cases b with
    | false =>
      rw [if_neg Bool.false_ne_true] at q9 ⊢
      exact fin ⟨σ8, H9, I9, rfl, fun j v e => (wipe_some (by rw [hw8]; exact e)).1, q9⟩
    | true =>
      rw [if_pos rfl] at q9 ⊢
      exact hm _ _ _ (fun s' => fin) (hb _ s9 σ8 H9 Nx I9 hw8 q9)
end
theorem c_start1 {P : Program} {w : World} {A : Around} {R : Result → Shared → Prop} {s : Shared} {kx vx t0 i0 tg iter : Expr} {ifs0 ifs : List Expr} {scope : Scope} {pos : Pos} {it acc : Value} {env : Env}
    (h0 : codeAny (model P w) A (.compLoop (.DictComp kx vx [⟨t0, i0, ifs0, 0⟩, ⟨tg, iter, ifs, 0⟩] scope pos) 1 it acc env) R s)
    (h : wpAny (model P w) A (pyIter it) (fun i s' => codeAny (model P w) A (.compLoop (.DictComp kx vx [⟨t0, i0, ifs0, 0⟩, ⟨tg, iter, ifs, 0⟩] scope pos) 1 i acc env) R s') NoE s) :
    codeAny (model P w) A (.compStart (.DictComp kx vx [⟨t0, i0, ifs0, 0⟩, ⟨tg, iter, ifs, 0⟩] scope pos) 1 it acc env) R s := by
  refine codeAny_of_tree ?_
  show wpAny _ A ((compStart (.DictComp kx vx [⟨t0, i0, ifs0, 0⟩, ⟨tg, iter, ifs, 0⟩] scope pos) 1 it acc env).onRaise (fun x => do noteFrame x env; standAt theWindowsPlace)) _ _ s
  refine wpAny_notedAt ?_
  unfold compStart
  show wpAny _ A (ask >>= _) _ _ s
  refine wpAny_bind (wpAny_askSetting (wpAny_ite ?_))
  have go : ∀ {E' : Value → Shared → Prop}, wpAny (model P w) A (pyIter it) (fun i s' => codeAny (model P w) A (.compLoop (.DictComp kx vx [⟨t0, i0, ifs0, 0⟩, ⟨tg, iter, ifs, 0⟩] scope pos) 1 i acc env) R s') E' s := fun {E'} => wpAny_mono h (fun _ _ z => z) fun _ _ z => z.elim
  split
  · first
      | exact wpAny_bind (wpAny_pure (wpAny_pure ⟨rfl, h0⟩))
      | exact wpAny_pure ⟨rfl, h0⟩
  · first
      | exact wpAny_bind (wpAny_rule (wpAny_bind (wpAny_standAt (wpAny_bind (wpAny_mono go (fun i s' q => wpAny_pure ⟨rfl, q⟩) fun _ _ z => z)))))
      | (refine wpAny_bind (wpAny_rule ?_); show wpAny _ _ (standAt iter.pos >>= _) _ _ s; exact wpAny_bind (wpAny_standAt (wpAny_bind (wpAny_mono go (fun i s' q => wpAny_pure ⟨rfl, q⟩) fun _ _ z => z))))
def tDcG (u0 : HO) (wi : TI) (g : TG) (tt : TT) (tb : Addr → L2.St → Hp → (Hp → Prop) → Prop) (vs : List Nat) : TE := fun σ H Q => wi σ H fun J H1 => ∀ D, H1 D = none → ∃ W : Nat → Nat → Hp → Prop, (∃ m, W 0 m (upd H1 D u0)) ∧ ∀ i m H, W i m H →
  (J.stop i H ∧ Q (.ref D) H) ∨ (J.go i H ∧ ∃ Nx : Hp → Prop, (∀ H', Nx H' → ∃ m', m' < m ∧ W (i + 1) m' H') ∧ ∀ x H', J.yld i H x H' → g x (wipe σ vs) H' fun σ2 H2 => wipe σ2 vs = wipe σ vs ∧ tt σ2 H2 fun b H3 => if b = true then tb D σ2 H3 Nx else Nx H3)
section
variable {X : Cx} {kx vx tg iter : Expr} {ifs : List Expr} {rest : List Comprehension} {scope : Scope} {own : List (Str × Nat)} {pos : Pos} {wi : TI} {g : TG} {tt : TT} {tb : Addr → L2.St → Hp → (Hp → Prop) → Prop} {u0 : HO} {bk : Addr → Env → Sem Fin → Sem Fin} {Wsh : Addr → Env → (Shared → Prop) → Shared → Prop}
theorem dcG_core {use : Option (Value → Sem Unit)} {Qf : Value → Shared → Prop} {pins : List (Addr × Obj)} {s : Shared} {σ : L2.St} {H : Hp} {Q : VK} {pos' : Pos} (hc : X.calm = true) (hN : X.N.Nodup) (hi : PI X tg iter wi) (ok : BlkOk X.N X.env.scope scope own) (eq : ∀ (D : Addr) (it : Value) (env : Env), TurnIs (.DictComp kx vx (⟨tg, iter, ifs, 0⟩ :: rest) scope pos) 0 tg iter ifs it (.ref D) env (bk D env))
    (hbk : ∀ (D : Addr) (env : Env) (P : Shared → Prop) (k : Sem Fin) (Q : Fin → Shared → Prop) (E' : Value → Shared → Prop) (s : Shared), Wsh D env P s → (∀ s', P s' → wpAny (model X.prog X.w) X.A k Q E' s') → wpAny (model X.prog X.w) X.A (bk D env k) Q E' s)
    (hm : ∀ (D : Addr) (env : Env) (P P' : Shared → Prop) (s : Shared), (∀ s', P s' → P' s') → Wsh D env P s → Wsh D env P' s)
    (hg : ∀ (s : Shared) (H : Hp) (C : Addr) (cl : List (Str × Addr)) (fp : List Addr), PG (X.blk s H scope (compEnvC scope cl C X.env) fp) tg g) (ht : ∀ (s : Shared) (H : Hp) (C : Addr) (cl : List (Str × Addr)) (fp : List Addr), PTs (X.blk s H scope (compEnvC scope cl C X.env) fp) ifs tt)
    (hb : ∀ (s0 : Shared) (H0 : Hp) (C : Addr) (cl : List (Str × Addr)) (fp : List Addr) (D : Addr) (pl : List (Addr × Obj)) (s : Shared) (σb σ2 : L2.St) (H : Hp) (Nx : Hp → Prop), Inv (X.blk s0 H0 scope (compEnvC scope cl C X.env) fp) pl σ2 H s → wipe σ2 (own.map (·.2)) = wipe σb (own.map (·.2)) → tb D σ2 H Nx →
      Wsh D (compEnvC scope cl C X.env) (fun s' => ∃ σ3 H', Inv (X.blk s0 H0 scope (compEnvC scope cl C X.env) fp) pl σ3 H' s' ∧ σ3.length = σ2.length ∧ (∀ (j : Nat) v, (wipe σb (own.map (·.2)))[j]? = some (some v) → σ3[j]? = some (some v)) ∧ Nx H') s)
    (h0 : ∀ (H : Hp) (h : Heap), sysModules < h.objs.size → ObjOk X.prog X.w H (h.push { cls := .type "dict", data := .dict #[] }) h.objs.size u0) (hs : ∀ x, foldedSetIterable iter X.env x = pure x)
    (I : Inv X pins σ H s) (h : tDcG u0 wi g tt tb (own.map (·.2)) σ H Q) (hRR : ∀ D C s' m H', Inv X pins σ H' s' → Q (.ref D) H' → s'.heap.Ns C m → FpOk X pins H' C → compPost (model X.prog X.w) X.A X.xe use Qf (.ref D) C (.ok .next) s') :
    wpAny (model X.prog X.w) X.A (comprehension (.DictComp kx vx (⟨tg, iter, ifs, 0⟩ :: rest) scope pos) scope X.env pos' newDict false (eval iter X.env) use) Qf X.xe s := by
  have fr : ∀ y ∈ scope.names, y.2 = .free → ∃ c, X.env.cells.lookup y.1 = some c := fun y hy e => (ok.free y hy e).elim (fun k => I.ok.has _ (.inl k)) fun k => I.ok.has _ (.inr k)
  refine wpAny_comprehension_free (use := use) rfl hs (closure_ok fr) ok.kind (fun y hy e => by rw [ok.uniq y hy, e]) (thn (hi.run pins s σ H _ I h) fun xv s1 hx => thn hx fun itv s2 pe => ?_)
  obtain ⟨ia, fp, tn, J, H2, rfl, I2, T, st2, f2, q⟩ := pe
  refine wpAny_newObj_type (newEnv_comp ?_)
  obtain ⟨W, ⟨m0, w0⟩, turn⟩ := q s2.heap.objs.size (I2.hok.fresh (Nat.le_refl _))
  generalize eH3 : upd H2 s2.heap.objs.size u0 = H3 at w0
  generalize es3 : ({ s2 with heap := s2.heap.push { cls := .type "dict", data := .dict #[] } } : Shared) = s3
  have k3 : ∀ b o, s2.heap.get? b = some o → s3.heap.get? b = some o := fun b o e => by rw [← es3]; exact Heap.get?_push_of_some _ e
  have I3 : Inv X pins σ H3 s3 := by
    rw [← es3, ← eH3]
    exact I2.laid (t' := s2.toks) (fun b o e => Heap.get?_push_of_some _ e) (Nat.le_refl _) (h0 _ _ I2.big)
  have sz3 : s3.heap.objs.size = s2.heap.objs.size + 1 := by rw [← es3]; exact Heap.size_push _ _
  have low : ∀ b ∈ fp, b < s2.heap.objs.size := fun b hb => by
    obtain ⟨o, e, _⟩ := T.obj _ _ st2 b hb
    exact Heap.lt_size e
  have f3 : ∀ b ∈ fp, FpOk X pins H3 b ∧ b < s3.heap.objs.size := fun b hb => ⟨⟨by rw [← eH3, upd_ne (Nat.ne_of_lt (low b hb))]; exact (f2 b hb).1, (f2 b hb).2⟩, by rw [sz3]; exact Nat.lt_succ_of_lt (low b hb)⟩
  have st3 : tn 0 s3.heap := T.keep _ _ _ st2 fun b _ o e => k3 b o e
  have I4 := block_start I3 ok hN f3
  show codeAny _ _ (.compStart (.DictComp kx vx (⟨tg, iter, ifs, 0⟩ :: rest) scope pos) 0 (.ref ia) (.ref s2.heap.objs.size) (compEnvC scope (cellsFrom (s3.heap.objs.size + 1) scope.names (cloFrom X.env.cells scope.names [])) s3.heap.objs.size X.env)) _ { s3 with heap := pushCells (s3.heap.push { cls := .type "dict", data := .dict #[] }) scope.names }
  generalize ecl : cellsFrom (s3.heap.objs.size + 1) scope.names (cloFrom X.env.cells scope.names []) = cl at I4 ⊢
  have hg' := hg s3 H3 s3.heap.objs.size cl fp
  have ht' := ht s3 H3 s3.heap.objs.size cl fp
  have hb' := hb s3 H3 s3.heap.objs.size cl fp s2.heap.objs.size
  generalize es4 : ({ s3 with heap := pushCells (s3.heap.push { cls := .type "dict", data := .dict #[] }) scope.names } : Shared) = s4 at I4 ⊢
  have st4 : tn 0 s4.heap := T.keep _ _ _ st3 fun b _ o e => by rw [← es4]; exact pushCells_keeps _ _ _ _ (Heap.get?_push_of_some _ e)
  have loop : codeAny (model X.prog X.w) X.A (.compLoop (.DictComp kx vx (⟨tg, iter, ifs, 0⟩ :: rest) scope pos) 0 (.ref ia) (.ref s2.heap.objs.size) (compEnvC scope cl s3.heap.objs.size X.env)) (compPost (model X.prog X.w) X.A X.xe use Qf (.ref s2.heap.objs.size) s3.heap.objs.size) s4 := by
    refine b_loop (Y := X.blk s3 H3 scope (compEnvC scope cl s3.heap.objs.size X.env) fp) (pins := []) (vs := own.map (·.2)) (σb := σ) (Done := Q (.ref s2.heap.objs.size)) hc rfl T (eq _ _ _) (hbk _ _) (hm _ _) hg' ht' (fun pl s σ2 H Nx I' hw q => hb' pl s σ σ2 H Nx I' hw q) (fun {σ' H' s'} I' hn b hb => ?_) turn (fun s' H' I' dn => ?_) I4 st4 (fun b hb => (f3 b hb).1.1) w0
    · exact ⟨hn b hb, (I'.ok.exf b hb).1, I'.ok.exfs b hb, .inl hb, fun x c e => (I'.ok.exf b hb).2 x c e, fun p hp => absurd (show p ∈ ([] : List (Addr × Obj)) ++ [] from hp) (by simp)⟩
    · have I7 : Inv X pins σ H' s' := I3.call' (ch := fp) I'.os I'.base I'.hok I'.bare fun b hb => ⟨(f3 b hb).1.2.2.2.1, (f3 b hb).1.2.1, (f3 b hb).1.2.2.2.2.1, (f3 b hb).1.2.2.2.2.2⟩
      have nC : H' s3.heap.objs.size = none := I'.free
      obtain ⟨m, hn, _⟩ := I'.loc
      exact hRR _ _ s' m H' I7 dn hn (I3.fpOk (Nat.le_refl _) nC)
  exact codeAny_compStart_dict loop (T.self X.A 0 _ _ _ st4 loop)
theorem pe_dcG (hc : X.calm = true) (hN : X.N.Nodup) (hi : PI X tg iter wi) (ok : BlkOk X.N X.env.scope scope own) (eq : ∀ (D : Addr) (it : Value) (env : Env), TurnIs (.DictComp kx vx (⟨tg, iter, ifs, 0⟩ :: rest) scope pos) 0 tg iter ifs it (.ref D) env (bk D env))
    (hbk : ∀ (D : Addr) (env : Env) (P : Shared → Prop) (k : Sem Fin) (Q : Fin → Shared → Prop) (E' : Value → Shared → Prop) (s : Shared), Wsh D env P s → (∀ s', P s' → wpAny (model X.prog X.w) X.A k Q E' s') → wpAny (model X.prog X.w) X.A (bk D env k) Q E' s)
    (hm : ∀ (D : Addr) (env : Env) (P P' : Shared → Prop) (s : Shared), (∀ s', P s' → P' s') → Wsh D env P s → Wsh D env P' s)
    (hg : ∀ (s : Shared) (H : Hp) (C : Addr) (cl : List (Str × Addr)) (fp : List Addr), PG (X.blk s H scope (compEnvC scope cl C X.env) fp) tg g) (ht : ∀ (s : Shared) (H : Hp) (C : Addr) (cl : List (Str × Addr)) (fp : List Addr), PTs (X.blk s H scope (compEnvC scope cl C X.env) fp) ifs tt)
    (hb : ∀ (s0 : Shared) (H0 : Hp) (C : Addr) (cl : List (Str × Addr)) (fp : List Addr) (D : Addr) (pl : List (Addr × Obj)) (s : Shared) (σb σ2 : L2.St) (H : Hp) (Nx : Hp → Prop), Inv (X.blk s0 H0 scope (compEnvC scope cl C X.env) fp) pl σ2 H s → wipe σ2 (own.map (·.2)) = wipe σb (own.map (·.2)) → tb D σ2 H Nx →
      Wsh D (compEnvC scope cl C X.env) (fun s' => ∃ σ3 H', Inv (X.blk s0 H0 scope (compEnvC scope cl C X.env) fp) pl σ3 H' s' ∧ σ3.length = σ2.length ∧ (∀ (j : Nat) v, (wipe σb (own.map (·.2)))[j]? = some (some v) → σ3[j]? = some (some v)) ∧ Nx H') s)
    (h0 : ∀ (H : Hp) (h : Heap), sysModules < h.objs.size → ObjOk X.prog X.w H (h.push { cls := .type "dict", data := .dict #[] }) h.objs.size u0) (hs : ∀ x, foldedSetIterable iter X.env x = pure x := by intro _; rfl) :
    PE X (.DictComp kx vx (⟨tg, iter, ifs, 0⟩ :: rest) scope pos) (tDcG u0 wi g tt tb (own.map (·.2))) := by
  refine ⟨fun pins s σ H Q I h => ?_⟩
  rw [arm_eval_DictComp]
  refine dcG_core (bk := bk) (Wsh := Wsh) hc hN hi ok eq hbk hm hg ht hb h0 hs I h fun D C s' m H' I' q hn f => ⟨m, hn, fun h'' sb => ?_⟩
  obtain ⟨f0, f1, f2, f3, f4, f5⟩ := f
  exact ⟨.ref D, H', I'.turned (t' := s'.toks) (fun b o hb e => (sb.2 b hb).trans e) f0 f1 f3 f4 f5, rfl, q⟩
theorem ps_setDcG {i : Nat} {y : Str} {py spos : Pos} (hy : X.N[i]? = some y) (hyl : X.env.scope.names.lookup y = some .local) (hsw : swapsWith (.DictComp kx vx (⟨tg, iter, ifs, 0⟩ :: rest) scope pos) (some (.Name y py)) spos.line X.env = pure true) (hc : X.calm = true) (hN : X.N.Nodup) (hi : PI X tg iter wi) (ok : BlkOk X.N X.env.scope scope own) (eq : ∀ (D : Addr) (it : Value) (env : Env), TurnIs (.DictComp kx vx (⟨tg, iter, ifs, 0⟩ :: rest) scope pos) 0 tg iter ifs it (.ref D) env (bk D env))
    (hbk : ∀ (D : Addr) (env : Env) (P : Shared → Prop) (k : Sem Fin) (Q : Fin → Shared → Prop) (E' : Value → Shared → Prop) (s : Shared), Wsh D env P s → (∀ s', P s' → wpAny (model X.prog X.w) X.A k Q E' s') → wpAny (model X.prog X.w) X.A (bk D env k) Q E' s)
    (hm : ∀ (D : Addr) (env : Env) (P P' : Shared → Prop) (s : Shared), (∀ s', P s' → P' s') → Wsh D env P s → Wsh D env P' s)
    (hg : ∀ (s : Shared) (H : Hp) (C : Addr) (cl : List (Str × Addr)) (fp : List Addr), PG (X.blk s H scope (compEnvC scope cl C X.env) fp) tg g) (ht : ∀ (s : Shared) (H : Hp) (C : Addr) (cl : List (Str × Addr)) (fp : List Addr), PTs (X.blk s H scope (compEnvC scope cl C X.env) fp) ifs tt)
    (hb : ∀ (s0 : Shared) (H0 : Hp) (C : Addr) (cl : List (Str × Addr)) (fp : List Addr) (D : Addr) (pl : List (Addr × Obj)) (s : Shared) (σb σ2 : L2.St) (H : Hp) (Nx : Hp → Prop), Inv (X.blk s0 H0 scope (compEnvC scope cl C X.env) fp) pl σ2 H s → wipe σ2 (own.map (·.2)) = wipe σb (own.map (·.2)) → tb D σ2 H Nx →
      Wsh D (compEnvC scope cl C X.env) (fun s' => ∃ σ3 H', Inv (X.blk s0 H0 scope (compEnvC scope cl C X.env) fp) pl σ3 H' s' ∧ σ3.length = σ2.length ∧ (∀ (j : Nat) v, (wipe σb (own.map (·.2)))[j]? = some (some v) → σ3[j]? = some (some v)) ∧ Nx H') s)
    (h0 : ∀ (H : Hp) (h : Heap), sysModules < h.objs.size → ObjOk X.prog X.w H (h.push { cls := .type "dict", data := .dict #[] }) h.objs.size u0) (hs : ∀ x, foldedSetIterable iter X.env x = pure x) :
    PS X (.Assign [.Name y py] (.DictComp kx vx (⟨tg, iter, ifs, 0⟩ :: rest) scope pos) spos) (tAsg (tDcG u0 wi g tt tb (own.map (·.2))) (gName i)) := by
  refine ⟨fun pins s σ H D I h => ?_⟩
  rw [exec_Assign_Name_used _ _ _ _ hsw]
  refine wpAny_bind (wpAny_standAt (wpAny_bind ?_))
  show wpAny _ X.A (do let _ ← comprehension (.DictComp kx vx (⟨tg, iter, ifs, 0⟩ :: rest) scope pos) scope X.env (firstIterPos (⟨tg, iter, ifs, 0⟩ :: rest) pos) newDict false (eval iter X.env) (some (assign (.Name y py) X.env))) _ _ s
  have hq : tDcG u0 wi g tt tb (own.map (·.2)) σ H (fun x H1 => gName i x σ H1 D.nx) := h
  refine wpAny_bind (thn (dcG_core (bk := bk) (Wsh := Wsh) (Qf := fun _ s' => SP X pins D .next s') hc hN hi ok eq hbk hm hg ht hb h0 hs I hq fun L C s' m H' I' q hn f => ?_) fun _ s' z => wpAny_pure (wpAny_pure z))
  show wpAny _ _ (assign (.Name y py) X.env (.ref L)) _ _ _
  obtain ⟨f0, f1, f2, f3, f4, f5⟩ := f
  refine wpAny_assign_Name (store_ok2 (v := V.ref L) I' hN hy (.inl hyl) rfl (fun s2 I2 ⟨a, sb, ha⟩ => ?_) (.inr hyl))
  have ne : C ≠ a := ha.elim (fun z => by rw [z]; exact f1) fun z e => f4 y a z e.symm
  exact ⟨m, hn.sameBut sb ne, fun h3 sb3 => ⟨_, H', I2.turned (t' := s2.toks) (fun b o hb e => (sb3.2 b hb).trans e) f0 f1 f3 f4 f5, q⟩⟩
end
def dGL {α : Type} (tg : TGD) (tt : TB) (body : α → DE → CH → R α) (ρ0 : DE) : α → List D → CH → R α
  | acc, [], h => .ok acc h
  | acc, d :: r, h => (tg d ρ0 h).calm fun ρ2 h => (tt ρ2 h).calm fun b h => if b = true then (body acc ρ2 h).calm fun acc h => dGL tg tt body ρ0 acc r h else dGL tg tt body ρ0 acc r h
section
variable {K : PySem.W.Frag} {CA : CAs} {α : Type}
theorem so_sc {a : Addr} {m m2 : Mp} {h h2 : CH} {H H2 : Hp} {σ : L2.St} {ρ : DE} (S : SO K CA m h H σ ρ) (s : Sc a m h H m2 h2 H2) (S2 : HR K CA m2 h2 H2) : SO K CA m2 h2 H2 σ ρ :=
  ⟨S2, S.len, fun j d e => let ⟨v, e1, q⟩ := S.sl j d e; ⟨v, e1, q.mv s.toMv⟩⟩
def Moves (RA : Addr → α → Mp → CH → Hp → Prop) : Prop := ∀ (a : Addr) (x : α) (m : Mp) (h : CH) (H : Hp) (m' : Mp) (h' : CH) (H' : Hp), RA a x m h H → Stp m h H m' h' H' → a ∈ m.z → RA a x m' h' H'
def SimB (K : PySem.W.Frag) (CA : CAs) (RA : Addr → α → Mp → CH → Hp → Prop) (tb : Addr → L2.St → Hp → (Hp → Prop) → Prop) (body : α → DE → CH → R α) : Prop :=
  ∀ (a : Addr) (m : Mp) (h : CH) (H : Hp) (σ : L2.St) (ρ : DE) (x : α) (Nx : Hp → Prop), SO K CA m h H σ ρ → a ∈ m.z → RA a x m h H → PB K CA a m h H (fun y m' h' H' => RA a y m' h' H' → Nx H') (body x ρ h) → tb a σ H Nx
variable {RA : Addr → α → Mp → CH → Hp → Prop} {tb : Addr → L2.St → Hp → (Hp → Prop) → Prop} {body : α → DE → CH → R α} {gH : TG} {tg : TGD} {hT : TT} {tt : TB} {vs sl : List Nat} {J : It} {ds : List D} {m0 m1 : Mp} {h0 h1 : CH} {H0 H1 : Hp} {σ : L2.St} {ρ : DE} {a : Addr} {x : α} {Done : Hp → Prop}
theorem loop_sim (hg : SimG K CA sl gH tg) (ht : SimT K CA W0 hT tt) (hb : SimB K CA RA tb body) (mv : Moves RA) (ho : ∀ j, j ∈ sl → j ∈ vs) (wk : Wk K CA m0 h0 H0 J ds) (sz : Sz m0 h0 H0 m1 h1 H1) (S : SO K CA m1 h1 H1 σ ρ) (pz : a ∈ m1.z) (ra : RA a x m1 h1 H1)
    (fin : PB K CA a m1 h1 H1 (fun y m' h' H' => RA a y m' h' H' → Done H') (dGL tg tt body (wipeD ρ vs) x ds h1)) :
    ∃ W : Nat → Nat → Hp → Prop, (∃ n, W 0 n H1) ∧ ∀ i n H, W i n H → (J.stop i H ∧ Done H) ∨ (J.go i H ∧ ∃ Nx : Hp → Prop, (∀ H', Nx H' → ∃ n', n' < n ∧ W (i + 1) n' H') ∧ ∀ v H', J.yld i H v H' → gH v (wipe σ vs) H' fun σ2 H2 => wipe σ2 vs = wipe σ vs ∧ hT σ2 H2 fun b H3 => if b = true then tb a σ2 H3 Nx else Nx H3) := by
  refine ⟨fun i n H' => n + i = ds.length ∧ ∃ y m' h', Sc a m1 h1 H1 m' h' H' ∧ SO K CA m' h' H' σ ρ ∧ RA a y m' h' H' ∧ PB K CA a m' h' H' (fun y m' h' H' => RA a y m' h' H' → Done H') (dGL tg tt body (wipeD ρ vs) y (ds.drop i) h'), ⟨ds.length, rfl, x, m1, h1, Stp.sc .refl, S, ra, fin⟩, ?_⟩
  rintro i n H' ⟨hn, y, m', h', st, S', ra', q⟩
  have sz' := sz.trans st.toSz
  have pz' : a ∈ m'.z := by rw [st.z]; exact pz
  cases hd : ds[i]? with
  | none =>
    have hl : ds.length ≤ i := List.getElem?_eq_none_iff.mp hd
    obtain rfl : i = ds.length := by omega
    rw [List.drop_length] at q
    exact .inl ⟨wk.stop m' h' H' sz' S'.hr, q m' H' (Stp.sc .refl) S'.hr ra'⟩
  | some d =>
    obtain ⟨hlt, ed⟩ := List.getElem?_eq_some_iff.mp hd
    rw [List.drop_eq_getElem_cons hlt, ed] at q
    obtain ⟨go, yl⟩ := wk.go i m' h' H' d sz' S'.hr hd
    refine .inr ⟨go, fun H3 => ∃ y m' h', Sc a m1 h1 H1 m' h' H3 ∧ SO K CA m' h' H3 σ ρ ∧ RA a y m' h' H3 ∧ PB K CA a m' h' H3 (fun y m' h' H' => RA a y m' h' H' → Done H') (dGL tg tt body (wipeD ρ vs) y (ds.drop (i + 1)) h'), fun H3 n3 => ⟨n - 1, by omega, by omega, n3⟩, fun v H2 y2 => ?_⟩
    obtain ⟨gr, r2⟩ := yl v H2 y2
    have a2 := stp_grow S'.hr gr
    have S3 := S'.move a2 (S'.hr.grow gr)
    have st3 := st.trans (a2.sc (p := a))
    have ra3 := mv _ _ _ _ _ _ _ _ ra' a2 pz'
    have q3 := q.base (a2.sc (p := a))
    have wip : wipe (wipe σ vs) vs = wipe σ vs := wipe_eq (wipe_length _ _) fun j hj => wipe_at hj
    refine hg m' h' H2 (wipe σ vs) (wipeD ρ vs) v d _ (S3.wiped vs) r2 ?_
    unfold dGL at q3
    obtain ⟨ρ2, h4, eg, q4⟩ := q3.calm
    rw [eg]
    intro m4 σ4 H4 s4 S4 hl4 hn4
    refine ⟨(wipe_eq hl4 fun j hj => hn4 j fun z => hj (ho j z)).trans wip, ht m4 h4 H4 σ4 ρ2 _ S4 ?_⟩
    obtain ⟨b, h5, et, q5⟩ := (q4.base (s4.sc (p := a))).calm
    rw [et]
    have ra4 := mv _ _ _ _ _ _ _ _ ra3 s4 pz'
    have pz4 : a ∈ m4.z := by rw [s4.z]; exact pz'
    intro m5 b' H5 s5 S5 eb
    cases (show b' = b from eb)
    have ra5 := mv _ _ _ _ _ _ _ _ ra4 s5 pz4
    have pz5 : a ∈ m5.z := by rw [s5.z]; exact pz4
    have st5 := (st3.trans (s4.sc (p := a))).trans (s5.sc (p := a))
    have So5 := (S3.move s4 S4.hr).move s5 S5
    have q6 := q5.base (s5.sc (p := a))
    cases b with
    | false => exact ⟨y, m5, h5, st5, So5, ra5, q6⟩
    | true =>
      refine hb a m5 h5 H5 σ4 ρ2 y _ (S4.move s5 S5) pz5 ra5 ?_
      rw [if_pos rfl] at q6
      obtain ⟨y', h6, ee, q7⟩ := q6.calm
      rw [ee]
      exact fun m6 H6 s6 S6 ra6 => ⟨y', m6, h6, st5.trans s6, so_sc So5 s6 S6, ra6, q7.base s6⟩
end
section
variable {K : PySem.W.Frag} {CA : CAs}
def RK (K : PySem.W.Frag) (CA : CAs) : Addr → List (Key × D) → Mp → CH → Hp → Prop := fun a acc m h H => ∃ kv, H a = some (.dK kv) ∧ kv.map (·.1) = acc.map (·.1) ∧ RpAll K CA m h H (kv.map (·.2)) (acc.map (·.2))
def RT (K : PySem.W.Frag) (CA : CAs) : Addr → List (List Key × D) → Mp → CH → Hp → Prop := fun a acc m h H => ∃ kv, H a = some (.dT kv) ∧ kv.map (·.1) = acc.map (·.1) ∧ RpAll K CA m h H (kv.map (·.2)) (acc.map (·.2))
theorem mv_RK : Moves (RK K CA) := fun a x m h H m' h' H' ⟨kv, e, en, r⟩ s z => ⟨kv, (s.zk a z).trans e, en, r.move s⟩
theorem mv_RT : Moves (RT K CA) := fun a x m h H m' h' H' ⟨kv, e, en, r⟩ s z => ⟨kv, (s.zk a z).trans e, en, r.move s⟩
def bK (tk tv : TD) : List (Key × D) → DE → CH → R (List (Key × D)) := fun acc ρ h => (tk ρ h).calm fun y h => (tv ρ h).calm fun z h => match keyD y with
  | some k => if acc.length < sizeLine then .ok (dPut acc k z) h else .no
  | none => .no
def tbK (hk hv : TE) : Addr → L2.St → Hp → (Hp → Prop) → Prop := fun a σ H Nx => hk σ H fun y H4 => hv σ H4 fun z H5 => ∃ kvs k, y = kV k ∧ H5 a = some (.dK kvs) ∧ kvs.length < sizeLine ∧ Nx (upd H5 a (.dK (putK kvs k z)))
variable {hk hv : TE} {tk tv : TD} {hs : TA} {ts : TDs}
theorem sim_bK (sk : SimE K CA W0 hk tk) (sv : SimE K CA W0 hv tv) : SimB K CA (RK K CA) (tbK hk hv) (bK tk tv) := fun a m h H σ ρ acc Nx S pz ra q => by
  unfold bK at q
  obtain ⟨y, h1, e1, q1⟩ := q.calm
  refine sk m h H σ ρ _ S ?_
  rw [e1]
  intro m1 v1 H1 s1 S1 r1
  obtain ⟨z, h2, e2, q2⟩ := (q1.base (s1.sc (p := a))).calm
  refine sv m1 h1 H1 σ ρ _ (S.move s1 S1) ?_
  rw [e2]
  intro m2 v2 H2 s2 S2 r2
  have q3 := q2.base (s2.sc (p := a))
  have pz1 : a ∈ m1.z := by rw [s1.z]; exact pz
  have pz2 : a ∈ m2.z := by rw [s2.z]; exact pz1
  obtain ⟨kv, ea, en, rr⟩ := mv_RK _ _ _ _ _ _ _ _ (mv_RK _ _ _ _ _ _ _ _ ra s1 pz) s2 pz1
  split at q3
  · rename_i k ek
    by_cases hz : acc.length < sizeLine
    · rw [if_pos hz] at q3
      have ey := rp_key r1 ek
      obtain ⟨en', rr'⟩ := rp_dput (k := k) en rr r2
      have sm := sc_made (u := .dK (putK kv k v2)) S2 pz2
      exact ⟨kv, k, ey, ea, by rw [len_of en]; exact hz, q3 _ _ sm (S2.made pz2) ⟨_, upd_same, en', rr'.mv sm.toMv⟩⟩
    · rw [if_neg hz] at q3
      exact q3.elim
  · exact q3.elim
def bT (ts : TDs) (tv : TD) : List (List Key × D) → DE → CH → R (List (List Key × D)) := fun acc ρ h => (ts ρ h).calm fun ds h => (tv ρ h).calm fun z h => match keysL ds with
  | some ks => if ds.length ≤ sizeLine ∧ acc.length < sizeLine then .ok (dPutT acc ks z) h else .no
  | none => .no
def tbT (hs : TA) (hv : TE) : Addr → L2.St → Hp → (Hp → Prop) → Prop := fun a σ H Nx => L2.tTup hs σ H fun y H4 => hv σ H4 fun z H5 => ∃ kvs k b, y = .ref b ∧ H5 b = some (.tup (k.map kV)) ∧ H5 a = some (.dT kvs) ∧ kvs.length < sizeLine ∧ Nx (upd H5 a (.dT (putK kvs k z)))
theorem lk_tup {vs : List V} {o : HO} (l : Lk (.tup vs) o) : o = .tup vs := by
  rcases l with e | ⟨ob, kvs, e, _⟩ | ⟨ps, qs, e, _⟩
  · exact e
  · rcases e with e | e <;> cases e
  · cases e
theorem sim_bT (sk : SimA K CA W0 hs ts) (sv : SimE K CA W0 hv tv) : SimB K CA (RT K CA) (tbT hs hv) (bT ts tv) := fun a m h H σ ρ acc Nx S pz ra q => by
  unfold bT at q
  obtain ⟨ds, h1, e1, q1⟩ := q.calm
  refine sk m h H σ ρ _ S ?_
  rw [e1]
  intro m1 vs H1 s1 S1 r1
  have q1 := q1.base (s1.sc (p := a))
  have lz : ds.length ≤ sizeLine := by
    obtain ⟨z, h2, _, q2⟩ := q1.calm
    split at q2
    · by_cases c : ds.length ≤ sizeLine ∧ acc.length < sizeLine
      · exact c.1
      · rw [if_neg c] at q2; exact q2.elim
    · exact q2.elim
  refine ⟨by rw [r1.length]; exact lz, fun p n => ?_⟩
  have sL := stp_laid (u := .tup vs) S1 n
  have SL := S1.laid (u := .tup vs) n
  obtain ⟨z, h2, e2, q2⟩ := (q1.base (sL.sc (p := a))).calm
  refine sv m1 h1 _ σ ρ _ ((S.move s1 S1).move sL SL) ?_
  rw [e2]
  intro m2 v2 H2 s2 S2 r2
  have q3 := q2.base (s2.sc (p := a))
  have pz1 : a ∈ m1.z := by rw [s1.z]; exact pz
  have pz2 : a ∈ m2.z := by rw [s2.z]; exact pz1
  obtain ⟨kv, ea, en, rr⟩ := mv_RT _ _ _ _ _ _ _ _ (mv_RT _ _ _ _ _ _ _ _ (mv_RT _ _ _ _ _ _ _ _ ra s1 pz) sL pz1) s2 pz1
  obtain ⟨_, o', e3, lk⟩ := s2.kp p _ (S1.fresh n) upd_same trivial
  have e4 := lk_tup lk
  subst e4
  split at q3
  · rename_i ks ek
    by_cases hz : ds.length ≤ sizeLine ∧ acc.length < sizeLine
    · rw [if_pos hz] at q3
      have evs := rp_keysL r1 ek
      obtain ⟨en', rr'⟩ := rp_dputT (k := ks) en rr r2
      have sm := sc_made (u := .dT (putK kv ks v2)) S2 pz2
      have lx : kv.length = acc.length := by simpa using congrArg List.length en
      exact ⟨kv, ks, p, rfl, by rw [e3, evs], ea, by rw [lx]; exact hz.2, q3 _ _ sm (S2.made pz2) ⟨_, upd_same, en', rr'.mv sm.toMv⟩⟩
    · rw [if_neg hz] at q3
      exact q3.elim
  · exact q3.elim
end
section
variable {X : Cx} {pins : List (Addr × Obj)} {σ : L2.St} {H : Hp} {s : Shared} {E : Value → Shared → Prop} {a b : Addr} {kvs : List (List Key × V)} {k : List Key} {v : V} {r : Value} {Q : Unit → Shared → Prop}
theorem d_dictSetT (hu : X.A.units + 1 < cLine) (I : Inv X pins σ H s) (e : H a = some (.dT kvs)) (eb : H b = some (.tup (k.map kV))) (l : kvs.length < sizeLine) (rv : RelV v r) (h : ∀ s', Inv X pins σ (upd H a (.dT (putK kvs k v))) s' → Q () s') : wpAny (model X.prog X.w) X.A (dictSet a (.ref b) r) Q E s := by
  obtain ⟨z, hd, xs, rel, dd⟩ := dt_of I.hok e
  have hz : xs.length ≤ sizeLine := by rw [← Paired.length rel]; exact z
  have hl : (putK kvs k v).length ≤ sizeLine := by have := length_putK kvs k v; omega
  refine wpAny_dictSet_heap (hsz := hz) (show (tupleKind (mixKind X.prog X.w)).room X.A from Nat.lt_of_succ_lt hu) (key_of I.hok eb) dd fun h' dd' hs => h _ ?_
  obtain ⟨q, es, ep, hq, h2, h3, h4, _, h5⟩ := dd'
  refine d_write I (by rw [e]; exact True.intro) hs ⟨q, hq⟩ ⟨hl, hd, _, (rel.put k eb rv).keeps fun c ys ec => ?_, q, es, ep, hq, h2, h3, h4, h5⟩
  rw [upd_ne (ne_of ec e (fun z => nomatch z))]
  exact ec
end
section
variable {Y : Cx} {pl : List (Addr × Obj)} {σ2 σb : L2.St} {vs : List Nat} {H : Hp} {s : Shared} {Nx : Hp → Prop} {D : Addr} {kx vx : Expr} {hk hv : TE} {hs : TA} {es : List Expr} {x1 : Nat} {p2 : Pos}
theorem know_of (hw : wipe σ2 vs = wipe σb vs) : ∀ (j : Nat) v, (wipe σb vs)[j]? = some (some v) → σ2[j]? = some (some v) := fun j v e => (wipe_some (vs := vs) (by rw [hw]; exact e)).1
theorem put_K (hx : Y.xe = NoE) (pk : PE Y kx hk) (pv : PE Y vx hv) (I : Inv Y pl σ2 H s) (hw : wipe σ2 vs = wipe σb vs) (q : tbK hk hv D σ2 H Nx) :
    wPut Y.prog Y.w Y.A kx vx D Y.env (fun s' => ∃ σ3 H', Inv Y pl σ3 H' s' ∧ σ3.length = σ2.length ∧ (∀ (j : Nat) v, (wipe σb vs)[j]? = some (some v) → σ3[j]? = some (some v)) ∧ Nx H') s := by
  have h1 := pk.run pl s σ2 H _ I q
  rw [hx] at h1
  refine wpAny_mono h1 (fun kv s1 z => ?_) (fun _ _ z => z)
  obtain ⟨y, H1, I1, r1, q1⟩ := z
  have h2 := pv.run pl s1 σ2 H1 _ I1 q1
  rw [hx] at h2
  refine wpAny_mono h2 (fun vv s2 z => ?_) (fun _ _ z => z)
  obtain ⟨y2, H2, I2, r2, kvs, k, ek, e, hz, nx⟩ := z
  subst ek
  exact d_dictSet I2 e hz r1 r2 fun s3 I3 => ⟨σ2, _, I3, rfl, know_of hw, nx⟩
theorem put_T (hu : Y.A.units + 1 < cLine) (hx : Y.xe = NoE) (pk : PA Y es hs) (pv : PE Y vx hv) (I : Inv Y pl σ2 H s) (hw : wipe σ2 vs = wipe σb vs) (q : tbT hs hv D σ2 H Nx) :
    wPut Y.prog Y.w Y.A (.Tuple es x1 p2) vx D Y.env (fun s' => ∃ σ3 H', Inv Y pl σ3 H' s' ∧ σ3.length = σ2.length ∧ (∀ (j : Nat) v, (wipe σb vs)[j]? = some (some v) → σ3[j]? = some (some v)) ∧ Nx H') s := by
  have h1 := (pe_tup (x1 := x1) (pos := p2) pk).run pl s σ2 H _ I q
  rw [hx] at h1
  refine wpAny_mono h1 (fun kv s1 z => ?_) (fun _ _ z => z)
  obtain ⟨y, H1, I1, r1, q1⟩ := z
  have h2 := pv.run pl s1 σ2 H1 _ I1 q1
  rw [hx] at h2
  refine wpAny_mono h2 (fun vv s2 z => ?_) (fun _ _ z => z)
  obtain ⟨y2, H2, I2, r2, kvs, k, b, ek, eb, e, hz, nx⟩ := z
  subst ek
  obtain rfl : kv = Value.ref b := r1
  exact d_dictSetT hu I2 e eb hz r2 fun s3 I3 => ⟨σ2, _, I3, rfl, know_of hw, nx⟩
theorem wPut_mono {P : Program} {w : World} {A : Around} {env : Env} (P1 P2 : Shared → Prop) (s : Shared) (h : ∀ s', P1 s' → P2 s') (x : wPut P w A kx vx D env P1 s) : wPut P w A kx vx D env P2 s :=
  wpAny_mono x (fun _ _ z => wpAny_mono z (fun _ _ z => wpAny_mono z (fun _ _ z => h _ z) fun _ _ z => z) fun _ _ z => z) fun _ _ z => z
theorem wOut_mono {P : Program} {w : World} {A : Around} {E iter : Expr} {env : Env} (P1 P2 : Shared → Prop) (s : Shared) (h : ∀ s', P1 s' → P2 s') (x : wOut P w A E iter D env P1 s) : wOut P w A E iter D env P2 s :=
  wpAny_mono x (fun _ _ z => wpAny_mono z (fun _ _ z => codeAny_mono z fun r s' q => by
    cases r with
    | ok f => exact h _ q
    | error e => exact q) fun _ _ z => z) fun _ _ z => z
end
def tb2 (wi : TI) (g : TG) (tt : TT) (hk hv : TE) (vs1 : List Nat) : Addr → L2.St → Hp → (Hp → Prop) → Prop := fun a σ H Nx => wi σ H fun J H4 => ∃ W : Nat → Nat → Hp → Prop, (∃ m, W 0 m H4) ∧ ∀ j k H, W j k H →
  (J.stop j H ∧ Nx H) ∨ (J.go j H ∧ ∃ Nx1 : Hp → Prop, (∀ H', Nx1 H' → ∃ k', k' < k ∧ W (j + 1) k' H') ∧ ∀ x H', J.yld j H x H' → g x (wipe σ vs1) H' fun σ3 H5 => wipe σ3 vs1 = wipe σ vs1 ∧ tt σ3 H5 fun b H6 => if b = true then tbK hk hv a σ3 H6 Nx1 else Nx1 H6)
section
variable {Y : Cx} {pl : List (Addr × Obj)} {σ2 σb : L2.St} {vs vs1 : List Nat} {H : Hp} {s : Shared} {Nx : Hp → Prop} {D : Addr} {kx vx t0 i0 tg iter : Expr} {ifs0 ifs : List Expr} {scope : Scope} {pos : Pos} {hk hv : TE} {wi : TI} {g : TG} {tt : TT}
theorem out_K (hc : Y.calm = true) (hx : Y.xe = NoE) (hi : PI Y tg iter wi) (pg : PG Y tg g) (pt : PTs Y ifs tt) (pk : PE Y kx hk) (pv : PE Y vx hv) (hv1 : ∀ i ∈ vs1, i ∈ vs) (I : Inv Y pl σ2 H s) (hw : wipe σ2 vs = wipe σb vs) (q : tb2 wi g tt hk hv vs1 D σ2 H Nx) :
    wOut Y.prog Y.w Y.A (.DictComp kx vx [⟨t0, i0, ifs0, 0⟩, ⟨tg, iter, ifs, 0⟩] scope pos) iter D Y.env (fun s' => ∃ σ3 H', Inv Y pl σ3 H' s' ∧ σ3.length = σ2.length ∧ (∀ (j : Nat) v, (wipe σb vs)[j]? = some (some v) → σ3[j]? = some (some v)) ∧ Nx H') s := by
  have h1 := hi.run pl s σ2 H _ I q
  rw [hx] at h1
  refine wpAny_mono h1 (fun xv s1 z => wpAny_mono z (fun itv s2 pe => ?_) fun _ _ z => z) (fun _ _ z => z)
  obtain ⟨ia, fp, tn, J, H1, rfl, I1, T, st, f, W, ⟨m, w0⟩, turn⟩ := pe
  have kn : ∀ (j : Nat) v, (wipe σb vs)[j]? = some (some v) → (wipe σ2 vs1)[j]? = some (some v) := fun j v e => by
    rw [← hw] at e
    obtain ⟨e1, e2⟩ := wipe_some e
    rw [wipe_out fun z => e2 (hv1 j z)]
    exact e1
  have loop : codeAny (model Y.prog Y.w) Y.A (.compLoop (.DictComp kx vx [⟨t0, i0, ifs0, 0⟩, ⟨tg, iter, ifs, 0⟩] scope pos) 1 (.ref ia) (.ref D) Y.env) (fun r s' => match r with
      | .ok _ => ∃ σ3 H', Inv Y pl σ3 H' s' ∧ σ3.length = σ2.length ∧ (∀ (j : Nat) v, (wipe σb vs)[j]? = some (some v) → σ3[j]? = some (some v)) ∧ Nx H'
      | .error _ => False) s2 :=
    b_loop (Y := Y) (pins := pl) (σb := σ2) (vs := vs1) (Done := Nx) hc hx T turn_in bk_put wPut_mono pg pt (fun pl s σ3 H Nx I hw q => put_K hx pk pv I hw q) (fun {σ' H' s'} I' hn b hb => ⟨hn b hb, (f b hb).2⟩) turn
      (fun s' H' I' nx => ⟨_, H', I', wipe_length _ _, kn, nx⟩) (I1.weak (wipe_length _ _) fun j v e => (wipe_some e).1) st (fun b hb => (f b hb).1) w0
  exact c_start1 loop (T.self Y.A 0 _ _ _ st loop)
end
theorem calm_ex {α β : Type} {r : R α} {k : α → CH → R β} {c : Nat} {fs : List (Str × D)} {h : CH} (e : r.calm k = .ex c fs h) : ∃ b h', r = .ok b h' ∧ k b h' = .ex c fs h := by
  cases r with
  | ok b h' => exact ⟨b, h', rfl, e⟩
  | ex => cases e
  | no => cases e
theorem dGL_noex {α : Type} {tg : TGD} {tt : TB} {body : α → DE → CH → R α} {ρ0 : DE} {c : Nat} {fs : List (Str × D)} {h' : CH} : ∀ {ds : List D} {x : α} {h : CH}, dGL tg tt body ρ0 x ds h ≠ .ex c fs h'
  | [], x, h => fun z => nomatch z
  | d :: r, x, h => fun z => by
    unfold dGL at z
    obtain ⟨ρ2, h2, _, z⟩ := calm_ex z
    obtain ⟨b, h3, _, z⟩ := calm_ex z
    cases b with
    | true =>
      rw [if_pos rfl] at z
      obtain ⟨y, h4, _, z⟩ := calm_ex z
      exact dGL_noex z
    | false =>
      rw [if_neg Bool.false_ne_true] at z
      exact dGL_noex z
def b2 (ti : TDw) (tg : TGD) (tt : TB) (tk tv : TD) (vs1 : List Nat) : List (Key × D) → DE → CH → R (List (Key × D)) := fun acc ρ h => (ti ρ h).calm fun w h => match w.2 with
  | none => dGL tg tt (bK tk tv) (wipeD ρ vs1) acc w.1 h
  | some _ => .no
section
variable {X : Cx} {K : PySem.W.Frag} {CA : CAs} {W : WX} {H0 : Hp}
theorem sim_b2 {ti : TDw} {tg : TGD} {tt : TB} {tk tv : TD} {vs1 sl : List Nat} {wi : TI} {g : TG} {hT : TT} {hk hv : TE} (hi : SimI K CA W0 H0 wi ti) (hg : SimG K CA sl g tg) (ht : SimT K CA W0 hT tt) (sk : SimE K CA W0 hk tk) (sv : SimE K CA W0 hv tv) (ho : ∀ j, j ∈ sl → j ∈ vs1) :
    SimB K CA (RK K CA) (tb2 wi g hT hk hv vs1) (b2 ti tg tt tk tv vs1) := fun a m h H σ ρ acc Nx S pz ra q => by
  unfold b2 at q
  obtain ⟨w, h1, e1, q1⟩ := q.calm
  refine hi m h H σ ρ _ S ?_
  rw [e1]
  intro m1 J H1 s1 S1 wk uo
  split at q1
  · have q2 := q1.base (s1.sc (p := a))
    exact loop_sim hg ht (sim_bK sk sv) mv_RK ho wk Stp.refl.toSz (S.move s1 S1) (by rw [s1.z]; exact pz) (mv_RK _ _ _ _ _ _ _ _ ra s1 pz) q2
  · exact q1.elim
theorem sim_dcG {α : Type} {RA : Addr → α → Mp → CH → Hp → Prop} {tb : Addr → L2.St → Hp → (Hp → Prop) → Prop} {body : α → DE → CH → R α} {u0 : HO} {x0 : α} {mk : α → CH → R D} {gH : TG} {tg : TGD} {hT : TT} {tt : TB} {wH : TI} {ti : TDw} {vs sl : List Nat} (hi : SimI K CA W X.H_0 wH ti) (hg : SimG K CA sl gH tg) (ht : SimT K CA W0 hT tt)
    (hb : SimB K CA RA tb body) (mv : Moves RA) (ho : ∀ j, j ∈ sl → j ∈ vs) (nt : NTab u0) (r0 : ∀ (m : Mp) (h : CH) (H : Hp) (a : Addr), RA a x0 (m.add a) h (upd H a u0))
    (dn : ∀ {mb : Mp} {hb : CH} {Hb : Hp} {m1 : Mp} {h1 : CH} {H1 : Hp} {m2 : Mp} {h2 : CH} {H2 : Hp} {p : Addr} {un : Unl} {σ : L2.St} {Q1 : VK} {y : α}, Stp mb hb Hb m1 h1 H1 → HR K CA m1 h1 H1 → H1 p = none → Sc p (m1.add p) h1 (upd H1 p u0) m2 h2 H2 → HR K CA m2 h2 H2 → RA p y m2 h2 H2 → UnlOk K CA X.H_0 mb hb Hb m1 h1 H1 un →
      PostE K CA W mb hb Hb σ Q1 ((mk y h2).unl un) → UnlP X (Q1 (.ref p)) H2) :
    SimE K CA W (fun σ H Q => tDcG u0 wH gH hT tb vs σ H fun v => UnlP X (Q v)) (fun ρ h => (ti ρ h).bind fun w h => ((dGL tg tt body (wipeD ρ vs) x0 w.1 h).bind fun y h => mk y h).unl w.2) := by
  intro m h H σ ρ Q' S t
  refine hi m h H σ ρ _ S (PostI.bindE t fun w h1 m1 J H1 s1 S1 wk uo t1 => ?_)
  intro a n
  have S2 := S1.add (u := u0) n nt
  have So : SO K CA (m1.add a) h1 (upd H1 a u0) σ ρ := ⟨S2, S.len, fun i d e => let ⟨v, e1, q⟩ := (S.move s1 S1).sl i d e; ⟨v, e1, q.add n⟩⟩
  refine loop_sim hg ht hb mv ho wk (sz_add (u := u0) S1 n) So (List.mem_cons_self ..) (r0 _ _ _ _) ?_
  cases er : dGL tg tt body (wipeD ρ vs) x0 w.1 h1 with
  | ex c fs h2 => exact absurd er dGL_noex
  | no => rw [er] at t1; exact t1.elim
  | ok y h2 =>
    rw [er] at t1
    exact fun m2 H2 st S3 ra => dn s1 S1 n st S3 ra uo t1
end
def mkT (y : List (List Key × D)) (h : CH) : R D := .ok (.ref h.nx) (h.new (.dctT y))
def dDcT (ti : TDw) (tg : TGD) (tt : TB) (ts : TDs) (tv : TD) (vs : List Nat) : TD := fun ρ h => (ti ρ h).bind fun w h => ((dGL tg tt (bT ts tv) (wipeD ρ vs) [] w.1 h).bind fun y h => mkT y h).unl w.2
def dDc2 (nm : Bool) (ti : TDw) (tg : TGD) (tt : TB) (ti1 : TDw) (tg1 : TGD) (tt1 : TB) (tk tv : TD) (vs vs1 : List Nat) : TD := fun ρ h => (ti ρ h).bind fun w h => ((dGL tg tt (b2 ti1 tg1 tt1 tk tv vs1) (wipeD ρ vs) [] w.1 h).bind fun y h => mkD nm y h).unl w.2
section
variable {X : Cx} {K : PySem.W.Frag} {CA : CAs} {W : WX} {mb : Mp} {hb : CH} {Hb : Hp} {m1 : Mp} {h1 : CH} {H1 : Hp} {m2 : Mp} {h2 : CH} {H2 : Hp} {p : Addr} {un : Unl} {σ : L2.St}
theorem doneT {ds : List (List Key × D)} {Q1 : VK} {u : HO} (sb : Stp mb hb Hb m1 h1 H1) (S : HR K CA m1 h1 H1) (n : H1 p = none) (s : Sc p (m1.add p) h1 (upd H1 p u) m2 h2 H2) (S2 : HR K CA m2 h2 H2) (ra : RT K CA p ds m2 h2 H2) (uo : UnlOk K CA X.H_0 mb hb Hb m1 h1 H1 un) (t : PostE K CA W mb hb Hb σ Q1 ((mkT ds h2).unl un)) : UnlP X (Q1 (.ref p)) H2 := by
  obtain ⟨kv, e, en, r⟩ := ra
  have z2 : m2.z = p :: m1.z := s.z
  obtain ⟨s3, S3⟩ := done_named (o := .dctT ds) S n s S2 (.dctT e en (r.named S2 z2))
  refine unl_at sb uo s3 S3 fun H3 s4 S4 k => t _ _ H3 s4 S4 (k _ _ ?_)
  have q := Rp.ref (K := K) (CA := CA) (m := mpNew ⟨m2.f, m1.z⟩ h2 p) (h := h2.new (.dctT ds)) (H := H2) (k := h2.nx) (Nat.lt_succ_self _)
  rw [show (mpNew ⟨m2.f, m1.z⟩ h2 p) h2.nx = p from mpNew_nx] at q
  exact q
end
section
variable {X : Cx} {K : PySem.W.Frag} {CA : CAs} {W : WX} {kx vx tge iter tg1e iter1 : Expr} {ifs ifs1 : List Expr} {es : List Expr} {x1 : Nat} {pos p2 : Pos} {gH g1H : TG} {tg tg1 : TGD} {hT h1T : TT} {tt tt1 : TB} {hk hv : TE} {tk tv : TD} {hs_ : TA} {ts : TDs} {wH w1H : TI} {ti ti1 : TDw}
theorem ws_setDcT (hu : X.A.units + 1 < cLine) {i : Nat} {y : Str} {py spos : Pos} {scope : Scope} {own : List (Str × Nat)} {sl : List Nat} (hc : X.calm = true) (hN : X.N.Nodup) (hy : X.N[i]? = some y) (hyl : X.env.scope.names.lookup y = some .local) (hi : WI X K CA W tge iter wH ti) (ok : BlkOk X.N X.env.scope scope own)
    (hg : ∀ (s : Shared) (H : Hp) (C : Addr) (cl : List (Str × Addr)) (fp : List Addr), WG (X.blk s H scope (compEnvC scope cl C X.env) fp) K CA tge sl gH tg)
    (ht : ∀ (s : Shared) (H : Hp) (C : Addr) (cl : List (Str × Addr)) (fp : List Addr), WTs (X.blk s H scope (compEnvC scope cl C X.env) fp) K CA W0 ifs hT tt)
    (hek : ∀ (s : Shared) (H : Hp) (C : Addr) (cl : List (Str × Addr)) (fp : List Addr), WA (X.blk s H scope (compEnvC scope cl C X.env) fp) K CA W0 es hs_ ts)
    (hev : ∀ (s : Shared) (H : Hp) (C : Addr) (cl : List (Str × Addr)) (fp : List Addr), WE (X.blk s H scope (compEnvC scope cl C X.env) fp) K CA W0 vx hv tv)
    (ho : ∀ j, j ∈ sl → j ∈ own.map (·.2)) (hsw : swapsWith (.DictComp (.Tuple es x1 p2) vx [⟨tge, iter, ifs, 0⟩] scope pos) (some (.Name y py)) spos.line X.env = pure true := by rfl) (hs : ∀ x, foldedSetIterable iter X.env x = pure x := by intro _; rfl) :
    WS X K CA W (.Assign [.Name y py] (.DictComp (.Tuple es x1 p2) vx [⟨tge, iter, ifs, 0⟩] scope pos) spos) (fun D σ H => tAsg (tDcG (.dT []) wH gH hT (tbT hs_ hv) (own.map (·.2))) (gName i) (unlE X D) σ H) (dAsg (dDcT ti tg tt ts tv (own.map (·.2))) (gdName i)) :=
  ⟨ps_unl (ps_setDcG (bk := fun D env k => putB (.Tuple es x1 p2) vx D env >>= fun _ => k) (Wsh := fun D env => wPut X.prog X.w X.A (.Tuple es x1 p2) vx D env) hy hyl hsw hc hN hi.pe ok (fun D it env => turn_one) (fun D env => bk_put) (fun D env => wPut_mono)
      (fun s H C cl fp => (hg s H C cl fp).pe) (fun s H C cl fp => (ht s H C cl fp).pe) (fun s0 H0 C cl fp D pl s σb σ2 H Nx I hw q => put_T (Y := X.blk s0 H0 scope (compEnvC scope cl C X.env) fp) hu rfl (hek s0 H0 C cl fp).pe (hev s0 H0 C cl fp).pe I hw q) (fun H h b => dt_empty h b) hs),
    sim_asg (sim_dcG (X := X) (u0 := .dT []) (x0 := ([] : List (List Key × D))) (RA := RT K CA) (mk := mkT) hi.sim (hg X.s_0 X.H_0 0 [] []).sim (ht X.s_0 X.H_0 0 [] []).sim (sim_bT (hek X.s_0 X.H_0 0 [] []).sim (hev X.s_0 X.H_0 0 [] []).sim) mv_RT ho trivial (fun m h H a => ⟨[], upd_same, rfl, .nil⟩) fun sb S n s S2 ra uo t => doneT sb S n s S2 ra uo t) sim_gName⟩
theorem we_dc2 (nm : Bool) {scope : Scope} {own : List (Str × Nat)} {sl sl1 vs1 : List Nat} (hc : X.calm = true) (hN : X.N.Nodup) (hi : WI X K CA W tge iter wH ti) (ok : BlkOk X.N X.env.scope scope own)
    (hg : ∀ (s : Shared) (H : Hp) (C : Addr) (cl : List (Str × Addr)) (fp : List Addr), WG (X.blk s H scope (compEnvC scope cl C X.env) fp) K CA tge sl gH tg)
    (ht : ∀ (s : Shared) (H : Hp) (C : Addr) (cl : List (Str × Addr)) (fp : List Addr), WTs (X.blk s H scope (compEnvC scope cl C X.env) fp) K CA W0 ifs hT tt)
    (hi1 : ∀ (s : Shared) (H : Hp) (C : Addr) (cl : List (Str × Addr)) (fp : List Addr), WI (X.blk s H scope (compEnvC scope cl C X.env) fp) K CA W0 tg1e iter1 w1H ti1)
    (hg1 : ∀ (s : Shared) (H : Hp) (C : Addr) (cl : List (Str × Addr)) (fp : List Addr), WG (X.blk s H scope (compEnvC scope cl C X.env) fp) K CA tg1e sl1 g1H tg1)
    (ht1 : ∀ (s : Shared) (H : Hp) (C : Addr) (cl : List (Str × Addr)) (fp : List Addr), WTs (X.blk s H scope (compEnvC scope cl C X.env) fp) K CA W0 ifs1 h1T tt1)
    (hek : ∀ (s : Shared) (H : Hp) (C : Addr) (cl : List (Str × Addr)) (fp : List Addr), WE (X.blk s H scope (compEnvC scope cl C X.env) fp) K CA W0 kx hk tk)
    (hev : ∀ (s : Shared) (H : Hp) (C : Addr) (cl : List (Str × Addr)) (fp : List Addr), WE (X.blk s H scope (compEnvC scope cl C X.env) fp) K CA W0 vx hv tv)
    (ho : ∀ j, j ∈ sl → j ∈ own.map (·.2)) (ho1 : ∀ j, j ∈ sl1 → j ∈ vs1) (hv1 : ∀ i ∈ vs1, i ∈ own.map (·.2)) (hs : ∀ x, foldedSetIterable iter X.env x = pure x := by intro _; rfl) (hs1 : ∀ env x, foldedSetIterable iter1 env x = pure x := by intro _ _; rfl) :
    WE X K CA W (.DictComp kx vx [⟨tge, iter, ifs, 0⟩, ⟨tg1e, iter1, ifs1, 0⟩] scope pos) (fun σ H Q => tDcG (.dK []) wH gH hT (tb2 w1H g1H h1T hk hv vs1) (own.map (·.2)) σ H fun v => UnlP X (Q v)) (dDc2 nm ti tg tt ti1 tg1 tt1 tk tv (own.map (·.2)) vs1) :=
  ⟨pe_unl (pe_dcG (Wsh := fun D env => wOut X.prog X.w X.A (.DictComp kx vx [⟨tge, iter, ifs, 0⟩, ⟨tg1e, iter1, ifs1, 0⟩] scope pos) iter1 D env) hc hN hi.pe ok (fun D it env => turn_out) (fun D env => bk_out (hs1 env)) (fun D env => wOut_mono)
      (fun s H C cl fp => (hg s H C cl fp).pe) (fun s H C cl fp => (ht s H C cl fp).pe) (fun s0 H0 C cl fp D pl s σb σ2 H Nx I hw q => out_K (Y := X.blk s0 H0 scope (compEnvC scope cl C X.env) fp) hc rfl (hi1 s0 H0 C cl fp).pe (hg1 s0 H0 C cl fp).pe (ht1 s0 H0 C cl fp).pe (hek s0 H0 C cl fp).pe (hev s0 H0 C cl fp).pe hv1 I hw q) (fun H h b => dk_empty h b) hs),
    sim_dcG (mk := fun y h => mkD nm y h) hi.sim (hg X.s_0 X.H_0 0 [] []).sim (ht X.s_0 X.H_0 0 [] []).sim (sim_b2 (hi1 X.s_0 X.H_0 0 [] []).sim (hg1 X.s_0 X.H_0 0 [] []).sim (ht1 X.s_0 X.H_0 0 [] []).sim (hek X.s_0 X.H_0 0 [] []).sim (hev X.s_0 X.H_0 0 [] []).sim ho1) mv_RK ho trivial (fun m h H a => ⟨[], upd_same, rfl, .nil⟩)
      fun sb S n s S2 ra uo t => let ⟨kv, e, en, r⟩ := ra; doneD sb S n s S2 e en r uo t⟩
end
def rListK : List V → Hp → VK → Prop := fun xs H Q => ∃ p kvs, xs = [V.ref p] ∧ Rd H p (.dK kvs) ∧ ∀ q, H q = none → Q (.ref q) (upd H q (.lst (kvs.map fun kv => kV kv.1)))
theorem call_listK {X : Cx} (hc : X.calm = true := by rfl) : CallR X (.type "list") rListK := by
  intro pins s σ H xs us Q I r h
  obtain ⟨p, kvs, rfl, rd, q⟩ := h
  obtain ⟨u, rfl, rx⟩ := vals1 r
  obtain rfl : u = Value.ref p := rx
  obtain ⟨z, lo, vs, rel, dof⟩ := dk_rd I.hok rd
  obtain ⟨ep, dat⟩ := dof.dictAt
  have hl : kvs.length = vs.length := Paired.length rel
  refine PySem.W.kdl_call (PySem.W.kdl_dict (knd := mixKind X.prog X.w) (kvs := vs) (ep := ep) lo) (I.ok.hd hc) dat (by rw [← hl]; exact z) fun h' tk acc c' hk hS hacc => ?_
  refine ⟨.ref _, upd H _ (.lst (kvs.map fun kv => kV kv.1)), I.laid hk (Nat.le_refl _) (show ObjOk X.prog X.w _ _ _ (.lst (kvs.map fun kv => kV kv.1)) from ⟨by rw [List.length_map]; exact z, acc.toList, c', ?_, by rw [Array.toArray_toList]; exact hS⟩), rfl, q _ (I.hok.fresh (Nat.le_refl _))⟩
  have el : acc.toList.length = acc.size := by simp
  refine vals_of_at (by rw [List.length_map, el, hacc.1, hl]) fun j x w h1 h2 => ?_
  obtain ⟨k, y, hky, hi⟩ := hacc.2 j w (by rw [← Array.getElem?_toList]; exact h2)
  have e1 : (kvs.map (·.1))[j]? = some k := by
    rw [KV.keys rel, List.getElem?_map, hky] <;> rfl
  have e2 : (kvs.map fun kv => kV kv.1)[j]? = some (kV k) := by
    rw [show (kvs.map fun kv => kV kv.1) = (kvs.map (·.1)).map kV by rw [List.map_map] <;> rfl, List.getElem?_map, e1] <;> rfl
  rw [e2] at h1
  cases h1
  exact keyIs_rel hi
def fListK (nm : Bool) : FD := fun ds h => match ds with
  | [d] => match dctOf h d with
    | some kvs => mkL nm (kvs.map fun kv => kD kv.1) h
    | none => .no
  | _ => .no
def minL : List Int → Int
  | [] => 0
  | [i] => i
  | i :: r => if minL r < i then minL r else i
section
variable {K : PySem.W.Frag} {CA : CAs}
theorem rp_keysA {m : Mp} {h : CH} {H : Hp} : ∀ {hk : List (Key × V)} {kvs : List (Key × D)}, hk.map (·.1) = kvs.map (·.1) → RpAll K CA m h H (hk.map fun kv => kV kv.1) (kvs.map fun kv => kD kv.1)
  | [], [], _ => .nil
  | [], _ :: _, e => by simp at e
  | _ :: _, [], e => by simp at e
  | p :: hk, q :: kvs, e => by
    simp only [List.map_cons, List.cons.injEq] at e
    obtain ⟨pk, pv⟩ := p
    obtain ⟨qk, qv⟩ := q
    obtain ⟨e1, e2⟩ := e
    cases e1
    refine .cons ?_ (rp_keysA e2)
    cases pk with
    | inl i => exact .int i
    | inr x => exact .str x
theorem sim_listK {nm : Bool} : SimC K CA rListK (fListK nm) := by
  intro W σ m h H xs ds Q' S r t
  unfold fListK at t
  split at t
  · split at t
    · rename_i kvs ek
      cases r with
      | cons r1 r2 =>
        cases r2
        obtain ⟨a, o, hk, rfl, e1, c, en, rr⟩ := rp_dct S r1 ek
        have rd : Rd H a (.dK hk) := by
          rcases core_dK c with rfl | ⟨ob, rfl⟩
          · exact .inl e1
          · exact .inr ⟨ob, e1⟩
        exact ⟨a, hk, rfl, rd, fun p n => mkL_post S n (rp_keysA en) t⟩
    · exact t.elim
  · exact t.elim
theorem minL_mem : ∀ {is : List Int}, is ≠ [] → minL is ∈ is ∧ ∀ j ∈ is, minL is ≤ j
  | [], h => absurd rfl h
  | [i], _ => ⟨List.mem_cons_self .., fun j hj => by rw [List.mem_singleton.mp hj]; exact Int.le_refl _⟩
  | i :: k :: r, _ => by
    obtain ⟨h1, h2⟩ := minL_mem (is := k :: r) (by simp)
    unfold minL
    by_cases c : minL (k :: r) < i
    · rw [if_pos c]
      exact ⟨List.mem_cons_of_mem _ h1, fun j hj => (List.mem_cons.mp hj).elim (fun e => by rw [e]; omega) fun q => h2 j q⟩
    · rw [if_neg c]
      exact ⟨List.mem_cons_self .., fun j hj => (List.mem_cons.mp hj).elim (fun e => by rw [e]; omega) fun q => by have := h2 j q; omega⟩
def fMinL : FD := fun ds h => match ds with
  | [d] => match lstOf h d with
    | some xs => match intsOf xs with
      | some is => if 0 < is.length then .ok (.int (minL is)) h else .no
      | none => .no
    | none => .no
  | _ => .no
theorem call_minL {X : Cx} (hc : X.calm = true := by rfl) (hK : X.K = K := by rfl) : CallR X (.builtin "min") (L2.rMin K) := by subst hK; exact cr_min hc
theorem sim_minL : SimC K CA (L2.rMin K) fMinL := by
  intro W σ m h H xs ds Q' S r t
  unfold fMinL at t
  split at t
  · split at t
    · rename_i ys e
      split at t
      · rename_i is ei
        obtain ⟨l, t⟩ := post_ite t
        cases r with
        | cons r1 r2 =>
          cases r2
          obtain ⟨a, zs, rfl, e1, rr⟩ := rp_lst S r1 e
          obtain ⟨q1, q2⟩ := rp_ints rr ei
          subst q1
          have ne : is ≠ [] := List.length_pos_iff.mp l
          obtain ⟨a1, a2⟩ := minL_mem ne
          refine ⟨a, is, rfl, .of e1, l, fun m' h1 h2 => ?_⟩
          have em : m' = minL is := by
            have := h2 _ a1
            have := a2 _ h1
            omega
          rw [em]
          exact t.here S (.int _)
      · exact t.elim
    · exact t.elim
  · exact t.elim
end
def pairsL : List D → Option (List (Key × D))
  | [] => some []
  | .tup [x, y] :: r => match keyD x, pairsL r with
    | some k, some ks => some ((k, y) :: ks)
    | _, _ => none
  | _ => none
def rDctP (K : PySem.W.Frag) : List V → Hp → VK → Prop := fun xs H Q => ∃ (a : Addr) (ps : List Addr) (kvs : List (Key × V)), xs = [.ref a] ∧ SqL K H a (ps.map V.ref) ∧ Paired (fun p kv => SqT K H p [kV kv.1, kv.2]) ps kvs ∧
    ∀ p, H p = none → Q (.ref p) (upd H p (.dK (mergeK [] kvs)))
def fDctP (nm : Bool) : FD := fun ds h => match ds with
  | [d] => match lstOf h d with
    | some xs => match pairsL xs with
      | some kvs => mkD nm (mergeD [] kvs) h
      | none => .no
    | none => .no
  | _ => .no
section
variable {X : Cx} {K : PySem.W.Frag} {CA : CAs} {m : Mp} {h : CH} {H : Hp}
theorem call_dctP (hc : X.calm = true := by rfl) (hK : X.K = K := by rfl) : CallR X (.type "dict") (rDctP K) := by subst hK; exact call_dictP hc
theorem pairs_rel : ∀ {vs : List V} {ds : List D} {ks : List (Key × D)}, RpAll K CA m h H vs ds → pairsL ds = some ks →
    ∃ (ps : List Addr) (kvs : List (Key × V)), vs = ps.map V.ref ∧ Paired (fun p kv => SqT K H p [kV kv.1, kv.2]) ps kvs ∧ kvs.map (·.1) = ks.map (·.1) ∧ RpAll K CA m h H (kvs.map (·.2)) (ks.map (·.2))
  | [], [], ks, r, e => by cases e; exact ⟨[], [], rfl, .nil, rfl, .nil⟩
  | [], _ :: _, _, r, _ => by cases r
  | _ :: _, [], _, r, _ => by cases r
  | v :: vs, d :: ds, ks, r, e => by
    cases r with
    | cons r1 r2 =>
      unfold pairsL at e
      split at e
      · rename_i heq; cases heq
      · rename_i x y r' heq
        cases heq
        cases hk : keyD x with
        | none => rw [hk] at e; cases e
        | some k =>
          cases hr : pairsL ds with
          | none => rw [hk, hr] at e; cases e
          | some q =>
            rw [hk, hr] at e
            cases e
            obtain ⟨ps, kvs, e1, e2, e3, e4⟩ := pairs_rel r2 hr
            obtain ⟨a, ys, rfl, sq, ry⟩ := rp_tup r1
            cases ry with
            | cons ra rb =>
              cases rb with
              | cons rb rc =>
                cases rc
                have ek := rp_key ra hk
                subst ek
                exact ⟨a :: ps, (k, _) :: kvs, by rw [e1]; rfl, .cons sq e2, by rw [List.map_cons, List.map_cons, e3], .cons rb e4⟩
      · cases e
theorem sim_dctP {nm : Bool} : SimC K CA (rDctP K) (fDctP nm) := by
  intro W σ m h H xs ds Q' S r t
  unfold fDctP at t
  split at t
  · split at t
    · rename_i ys e
      split at t
      · rename_i ks ek
        cases r with
        | cons r1 r2 =>
          cases r2
          obtain ⟨a, zs, rfl, e1, rr⟩ := rp_lst S r1 e
          obtain ⟨ps, kvs, rfl, pp, en, rv⟩ := pairs_rel rr ek
          obtain ⟨m1, m2⟩ := merge_rel kvs ks [] [] en rv rfl .nil
          exact ⟨a, ps, kvs, rfl, .of e1, pp, fun p n => mkD_post S n m1 m2 t⟩
      · exact t.elim
    · exact t.elim
  · exact t.elim
end
def maxL : List Int → Int
  | [] => 0
  | [i] => i
  | i :: r => if i < maxL r then maxL r else i
def fMaxL : FD := fun ds h => match ds with
  | [d] => match lstOf h d with
    | some xs => match intsOf xs with
      | some is => if 0 < is.length then .ok (.int (maxL is)) h else .no
      | none => .no
    | none => .no
  | _ => .no
section
variable {K : PySem.W.Frag} {CA : CAs}
theorem maxL_mem : ∀ {is : List Int}, is ≠ [] → maxL is ∈ is ∧ ∀ j ∈ is, j ≤ maxL is
  | [], h => absurd rfl h
  | [i], _ => ⟨List.mem_cons_self .., fun j hj => by rw [List.mem_singleton.mp hj]; exact Int.le_refl _⟩
  | i :: k :: r, _ => by
    obtain ⟨h1, h2⟩ := maxL_mem (is := k :: r) (by simp)
    unfold maxL
    by_cases c : i < maxL (k :: r)
    · rw [if_pos c]
      exact ⟨List.mem_cons_of_mem _ h1, fun j hj => (List.mem_cons.mp hj).elim (fun e => by rw [e]; omega) fun q => h2 j q⟩
    · rw [if_neg c]
      exact ⟨List.mem_cons_self .., fun j hj => (List.mem_cons.mp hj).elim (fun e => by rw [e]; omega) fun q => by have := h2 j q; omega⟩
theorem call_maxL {X : Cx} (hc : X.calm = true := by rfl) (hK : X.K = K := by rfl) : CallR X (.builtin "max") (L2.rMax K) := by subst hK; exact cr_max hc
theorem sim_maxL : SimC K CA (L2.rMax K) fMaxL := by
  intro W σ m h H xs ds Q' S r t
  unfold fMaxL at t
  split at t
  · split at t
    · rename_i ys e
      split at t
      · rename_i is ei
        obtain ⟨l, t⟩ := post_ite t
        cases r with
        | cons r1 r2 =>
          cases r2
          obtain ⟨a, zs, rfl, e1, rr⟩ := rp_lst S r1 e
          obtain ⟨q1, q2⟩ := rp_ints rr ei
          subst q1
          have ne : is ≠ [] := List.length_pos_iff.mp l
          obtain ⟨a1, a2⟩ := maxL_mem ne
          refine ⟨a, is, rfl, .of e1, l, fun m' h1 h2 => ?_⟩
          have em : m' = maxL is := by
            have := h2 _ a1
            have := a2 _ h1
            omega
          rw [em]
          exact t.here S (.int _)
      · exact t.elim
    · exact t.elim
  · exact t.elim
end
def dFzV (i : Nat) : SD := fun ρ h => match ρ[i]? with
  | some (some (.ref k)) => (fz (.ref k) h).toS ρ fun d' h' => .nx (ρ.set i (some d')) h'
  | _ => .no
section
variable {X : Cx} {K : PySem.W.Frag} {CA : CAs} {W : WX} {m : Mp} {h : CH} {H : Hp} {σ : L2.St} {ρ : DE} {D' : Ends} {st : Stmt} {tS : TS} {u : SD}
theorem fzV_post {i : Nat} (S : SO K CA m h H σ ρ) (t : PostS K CA W m h H D' (dFzV i ρ h)) : D'.nx σ H := by
  unfold dFzV at t
  split at t
  · rename_i k e
    obtain ⟨v, e1, r⟩ := S.sl i _ e
    refine fz_post (W := W) (σ := σ) (Q' := fun b H' => σ[i]? = some (some b) → D'.nx σ H') S.hr r (PostS.bind S t fun d' h1 m1 b H1 s1 S1 r1 t1 => fun eb => t1 m1 σ H1 .refl ⟨S1, by rw [List.length_set]; exact S.len, fun j d ej => ?_⟩) e1
    by_cases z : j = i
    · subst z
      have lt : j < ρ.length := by
        rcases Nat.lt_or_ge j ρ.length with l | l
        · exact l
        · rw [List.getElem?_eq_none l] at e; cases e
      rw [List.getElem?_set_self lt] at ej
      cases ej
      exact ⟨b, eb, r1⟩
    · rw [List.getElem?_set_ne (Ne.symm z)] at ej
      exact (S.move s1 S1).sl j d ej
  · exact t.elim
theorem ws_fz (i : Nat) (x : WS X K CA W st tS u) : WS X K CA W st tS (dSeq u (dFzV i)) := by
  refine ⟨x.pe, fun m h H σ ρ D' S t => x.sim m h H σ ρ D' S ?_⟩
  have t : PostS K CA W m h H D' ((u ρ h).bind (dFzV i)) := t
  cases e : u ρ h with
  | nx ρ' h' =>
    rw [e] at t
    exact fun m' σ' H' s S' => fzV_post S' (t.from s)
  | rt d h' => rw [e] at t; exact t
  | bk ρ' h' => rw [e] at t; exact t
  | ct ρ' h' => rw [e] at t; exact t
  | ex ρ' c fs h' => rw [e] at t; exact t
  | no => rw [e] at t; exact t
end
theorem noTab {P : Program} {w : World} {h : Heap} {K : PySem.W.Frag} {mg : Str → Option Value} {n : Nat} {fa : Addr} {F : FD} {Bd : FuncData → Prop} (e : ∃ (fd : FuncData) (CA : CAs), CA.T = [] ∧ Bd fd ∧ ∀ base : Heap, K.In base → base.Ns mainGlobals mg → SM base → FnG P w K mg base true n fa fd ["_law_script"] (spD K CA 1 F)) :
    ∃ (fd : FuncData) (CA : CAs) (cs : List (Addr × Addr)), (∀ p ∈ CA.T, ∃ c, (c, p.1) ∈ cs) ∧ (∀ p ∈ cs, h.get? p.2 = some { cls := .none, data := .fields #[] }) ∧ (∀ p ∈ cs, K.lookup p.2 = none) ∧ (∀ p ∈ cs, PySem.W.CodeHd h p.1 p.2) ∧ Bd fd ∧ ∀ base : Heap, K.In base → base.Ns mainGlobals mg → SM base → (∀ p ∈ cs, LamX.TabB base mg p.1 p.2) → FnG P w K mg base true n fa fd ["_law_script"] (spD K CA 1 F) := by
  obtain ⟨fd, CA, e1, e2, e3⟩ := e
  exact ⟨fd, CA, [], fun p hp => (by rw [e1] at hp; cases hp), fun p hp => (by cases hp), fun p hp => (by cases hp), fun p hp => (by cases hp), e2, fun base a b c _ => e3 base a b c⟩
end CM
namespace PySem
open Sem (wp)
theorem cm_meets_enum {v : Value} {o : Obj} {H : Heap → Prop} (B : Begins v o H) :
    Meets (Builtin.«enumerate.__new__» ⟨[.type "enumerate", v], []⟩) (fun _ R s => H s.heap ∧
      R (.ok (.ret (.ref (s.heap.push o).objs.size))) { s with heap := (s.heap.push o).push { cls := .type "enumerate", data := .fields #[.none, .bool false, .ref s.heap.objs.size, rawInt 0, .none, .none] } }) :=
  .of_wp fun prog w A R s h => by
    obtain ⟨hp, g, d, tk, os⟩ := s; obtain ⟨h1, h⟩ := h
    have hsub := sub_enumerate
    have q1 : ∀ {A' : Around} {E : Value → Shared → Prop} {Q : Value → Shared → Prop}, Q (.ref hp.objs.size) ⟨hp.push o, g, d, tk, os⟩ → wpAny (model prog w) A' (pyIter v) Q E ⟨hp, g, d, tk, os⟩ :=
      fun q => B.iter prog w _ _ ⟨hp, g, d, tk, os⟩ _ h1 q
    wp_walk using q1
    refine wpAny_stack_any fun st => wpAny_pure ?_
    split
    · rename_i c _ _ _ _ _
      cases (c == Value.type "enumerate")
      · wp_walk using q1
        exact ⟨_, rfl, h⟩
      · wp_walk using q1
        exact ⟨_, rfl, h⟩
    · wp_walk using q1
      exact ⟨_, rfl, h⟩
section
variable {prog : Program} {w : World} {A : Around} {E : Value → Shared → Prop} {s : Shared}
theorem cm_enum_begins {v : Value} {o : Obj} {H : Heap → Prop} {Q : Value → Shared → Prop} (B : Begins v o H) (h1 : H s.heap)
    (h : ∀ h', IsEnum h' (s.heap.objs.size + 1) s.heap.objs.size 0 .none → h'.get? s.heap.objs.size = some o → h'.objs.size = s.heap.objs.size + 2 →
      (∀ b o, s.heap.get? b = some o → h'.get? b = some o) → Q (.ref (s.heap.objs.size + 1)) { s with heap := h' }) :
    wpAny (model prog w) A (call (.type "enumerate") [v]) Q E s := by
  refine callType_new F.called_enumerate (by decide) (F.typeCall_enumerate_1 _) (F.newCall_enumerate_1 _) (fun obj => F.args_object_init_2 obj _) F.entry_enumerate_new
    (cm_meets_enum B) ⟨h1, ?_⟩
  have hz : (s.heap.push o).objs.size = s.heap.objs.size + 1 := Heap.size_push ..
  show _ ∧ _
  rw [hz]
  have he : IsEnum ((s.heap.push o).push { cls := .type "enumerate", data := .fields #[.none, .bool false, .ref s.heap.objs.size, rawInt 0, .none, .none] }) (s.heap.objs.size + 1) s.heap.objs.size 0 .none := by
    have := Heap.get?_push_size (s.heap.push o) (o := { cls := .type "enumerate", data := .fields #[.none, .bool false, .ref s.heap.objs.size, rawInt 0, .none, .none] }) rfl
    rw [hz] at this; exact this
  refine ⟨⟨_, he, rfl⟩, h _ he (Heap.get?_push_of_some _ (Heap.get?_push_size _ B.free)) (by rw [Heap.size_push, hz]) fun b o x => Heap.get?_push_of_some _ (Heap.get?_push_of_some _ x)⟩
theorem cm_enum_end {e it t : Addr} {n : Nat} {items : Array Value} {i : Int} {old : Value} {Q : Option Value → Shared → Prop} (hh : A.handled = none)
    (he : IsEnum s.heap e it i old) (hit : s.heap.IsTupleIter it t n) (ht : s.heap.IsTuple t items) (hx : items[n]? = none)
    (hQ : ∀ h', Heap.ExtBut it s.heap h' → Q none { s with heap := h' }) : wpAny (model prog w) A (pyNext (.ref e)) Q E s := by
  have hT : s.TypeIs (.ref e) "enumerate" := ⟨_, he, rfl⟩
  unfold pyNext
  refine wpAny_bind (wpAny_attempt (wpAny_callSpecial?_slot (name := Str.ofString "__next__") hT F.slot_enumerate_next
    (wpAny_call_entry F.slot_enumerate_next hT F.entry_enumerate_next ?_ (F.args_enumerate_next_1 _))))
  show wpAny _ _ (field (.ref e) 2 >>= _) _ _ _
  refine wpAny_bind (wpAny_field he rfl (x := .ref it) rfl ?_)
  refine wpAny_bind (wpAny_nextOf_tuple_end (A := A.in1) hh hit ht hx fun h' x he' hx' => ?_)
  obtain ⟨o, ho, hc⟩ := hx'
  refine wpAny_bind (wpAny_isInstance (T := "StopIteration") (b := true) ⟨o, ho, hc⟩ isSubtype_stop ?_)
  exact wpAny_pure (hQ _ he')
end
end PySem
namespace L2
open PySem PySem.Spec PyProof.Rows
def Itet (K : PySem.W.Frag) (a : Addr) : It :=
  ⟨fun i H => ∃ (xs : List V) (x : V), SqT K H a xs ∧ xs[i]? = some x, fun i H v H' => ∃ T x, v = .ref T ∧ H T = none ∧ H' = upd H T (.tup [.int (i : Nat), x]) ∧ ∀ xs, SqT K H a xs → xs[i]? = some x, fun i H => ∃ xs : List V, SqT K H a xs ∧ xs.length ≤ i⟩
theorem turn_enumT {P : Program} {w : World} {K : PySem.W.Frag} {elts : List Expr} {kk : Nat} {tpos : Pos} (a e it : Addr) :
    Turn P w K (.Tuple elts kk tpos) (Itet K a) [e, it] e (fun i h => (∃ old, IsEnum h e it ((i : Nat) : Int) old) ∧ h.IsTupleIter it a i ∧ e ≠ it) where
  mem := by simp
  obj := fun i h st b hb => by
    obtain ⟨⟨old, he⟩, ⟨o, ho, hc, hd⟩, _⟩ := st
    have e' : b = e ∨ b = it := by simpa using hb
    rcases e' with z | z
    · rw [z]; exact ⟨_, he, fun v q => nomatch q⟩
    · rw [z]; exact ⟨o, ho, fun v q => by rw [hd] at q; cases q⟩
  keep := fun i h h' st k => let ⟨⟨old, he⟩, hi, hne⟩ := st; ⟨⟨old, k e (by simp) _ he⟩, hi.at fun o q => k it (by simp) o q, hne⟩
  item := by
    intro X hP hw hK hc i pins s σ H E I hf st hg
    subst hP hw hK
    obtain ⟨⟨old, he⟩, hit, hne⟩ := st
    obtain ⟨xs, x, hq, hx⟩ := hg
    obtain ⟨its, rv, p, hz⟩ := I.tuple hq
    obtain ⟨u, hu, ru⟩ := rv.get hx
    have pt : s.heap.IsTuple a its.toArray := p
    obtain ⟨ot, hot, hct, _⟩ := id pt
    obtain ⟨oi, hoi, hci, _⟩ := id hit
    have ha1 : a ≠ it := fun z => by
      subst z
      rw [hoi] at hot
      cases hot
      rw [hci] at hct
      exact absurd hct (by decide)
    have ha2 : e ≠ a := fun z => by
      subst z
      have he' := he
      unfold IsEnum at he'
      rw [hot] at he'
      cases he'
      exact absurd hct (by simp)
    have hel : e < s.heap.objs.size := Heap.lt_size he
    have hil : it < s.heap.objs.size := Heap.lt_size hoi
    have hl : i < its.toArray.size := by
      have := (List.getElem?_eq_some_iff.mp hu).1
      simpa using this
    have D := Draws.tuple (prog := X.prog) (w := X.w) (A := X.A.in1) (I.ok.hd hc) it a ha1 its.toArray
    refine wpAny_pyNext_enum_itemD D he ⟨hit, pt⟩ hl hne (by simp [hne, ha2]) fun x' h' tk hPx ho hst' hT hsz hk => ?_
    have ex : x' = u := by
      have h1 : its.toArray[i]? = some x' := hPx
      have h2 : its.toArray[i]? = some u := by simpa using hu
      rw [h1] at h2
      exact Option.some.inj h2
    subst ex
    refine ⟨_, rfl, wpAny_letOwnedTupleGo_enum (s := { s with heap := h', toks := tk + 1 }) ho fun h'' he' sb => ?_⟩
    have hT2 : h''.get? s.heap.objs.size = some { cls := .type "tuple", data := .seq #[.int i tk, x'] } := (sb.2 _ (Nat.ne_of_gt hel)).trans hT
    have new : ObjOk X.prog X.w (upd H s.heap.objs.size (.tup [.int (i : Nat), x])) h'' s.heap.objs.size (.tup [.int (i : Nat), x]) :=
      ⟨by show 2 ≤ sizeLine; decide, [.int i tk, x'], .cons ⟨_, rfl⟩ (.cons ru .nil), ⟨_, hT2, rfl, _, rfl⟩⟩
    have I1 : Inv X pins σ (upd H s.heap.objs.size (.tup [.int (i : Nat), x])) { s with heap := h'', toks := tk + 1 } :=
      I.turnedNew (ch := [e, it]) (fun b ob hb q => (sb.2 b (fun z => hb (by simp [z]))).trans (hk b ob (fun z => hb (by simp [z])) (fun z => hb (by simp [z])) q)) hf (Nat.le_refl _) new
    refine ⟨.ref s.heap.objs.size, _, I1, rfl, ⟨_, x, rfl, I.hok.fresh (Nat.le_refl _), rfl, fun ys hy => by rw [I.tuple_inj hy hq]; exact hx⟩, ⟨⟨x', ?_⟩, hst'.1.at fun o q => (sb.2 it (Ne.symm hne)).trans q, hne⟩, fun b hb => ?_⟩
    · have e1 : ((i + 1 : Nat) : Int) = (i : Int) + 1 := by omega
      rw [e1]; exact he'
    · have hb' : b < s.heap.objs.size := by
        have e' : b = e ∨ b = it := by simpa using hb
        rcases e' with z | z
        · rw [z]; exact hel
        · rw [z]; exact hil
      rw [upd_ne (Nat.ne_of_lt hb')]
      exact (hf b hb).1
  done := by
    intro X hP hw hK hc i pins s σ H E I hf st hg
    subst hP hw hK
    obtain ⟨⟨old, he⟩, hit, hne⟩ := st
    obtain ⟨xs, hq, hx⟩ := hg
    obtain ⟨its, rv, p, hz⟩ := I.tuple hq
    obtain ⟨f0, f1, f2, f3, f4, f5⟩ := hf it (by simp)
    have hl := rv.length
    have pt : s.heap.IsTuple a its.toArray := p
    exact cm_enum_end (I.ok.hd hc) he hit pt (by simp; omega) fun h' eb => ⟨rfl, I.turned (t' := s.toks) (fun b o hb q => eb b o hb q) f0 f1 f3 f4 f5⟩
  self := fun A i s Q E st h => let ⟨⟨_, he⟩, _⟩ := st; wpAny_pyIter_enum he h
def iEnumT (K : PySem.W.Frag) (ta : TA) : TI := fun σ H R => ta σ H fun vs H1 => (∃ a xs, vs = [.ref a] ∧ SqL K H1 a xs ∧ R (Ite K a) H1) ∨ ∃ a xs, vs = [.ref a] ∧ SqT K H1 a xs ∧ R (Itet K a) H1
theorem pi_enumT {X : Cx} {e : Expr} {ta : TA} {p pos tpos : Pos} {elts : List Expr} {kk : Nat} (hg : Gl X "enumerate") (hm : X.mg "enumerate" = none) (ha : PA X [e] ta) (hs : starEach [e] X.env = [(false, eval e X.env)] := by rfl) :
    PI X (.Tuple elts kk tpos) (.Call (.Name "enumerate" p) [e] [] pos) (iEnumT X.K ta) := by
  refine ⟨fun pins s σ H R I h => ?_⟩
  refine Call_ (ld_blt I hg hm boot_enumerate (PyProof.Rows.callWith_type1 (thn (ha.run pos pins s σ H _ I h) fun us s1 ⟨vs, H1, I1, r1, q1⟩ => ?_) hs rfl))
  rcases q1 with ⟨a, xs, ex, hq, q⟩ | ⟨a, xs, ex, hq, q⟩
  · subst ex
    cases r1 with
    | cons r rr =>
      cases rr
      cases r
      obtain ⟨its, rv, p', hz⟩ := I1.list hq
      refine call_enumerate_list p'.isList fun h' he hit hsz hk => wpAny_pyIter_enum he ?_
      have I2 : Inv X pins σ H1 { s1 with heap := h' } := I1.kept (t' := s1.toks) hk
      refine ⟨s1.heap.objs.size + 1, [s1.heap.objs.size + 1, s1.heap.objs.size], _, _, H1, rfl, I2, turn_enum a (s1.heap.objs.size + 1) s1.heap.objs.size, ⟨⟨.none, he⟩, hit, Nat.succ_ne_self _⟩, fun b hb => ?_, q⟩
      have e' : b = s1.heap.objs.size + 1 ∨ b = s1.heap.objs.size := by simpa using hb
      have hle : s1.heap.objs.size ≤ b := by
        rcases e' with z | z
        · rw [z]; exact Nat.le_add_right _ _
        · rw [z]; exact Nat.le_refl _
      exact I1.fpOk hle (I1.hok.fresh hle)
  · subst ex
    cases r1 with
    | cons r rr =>
      cases rr
      cases r
      obtain ⟨its, rv, p', hz⟩ := I1.tuple hq
      refine cm_enum_begins (begins_tuple a its.toArray) p' fun h' he hit hsz hk => wpAny_pyIter_enum he ?_
      have I2 : Inv X pins σ H1 { s1 with heap := h' } := I1.kept (t' := s1.toks) hk
      refine ⟨s1.heap.objs.size + 1, [s1.heap.objs.size + 1, s1.heap.objs.size], _, _, H1, rfl, I2, turn_enumT a (s1.heap.objs.size + 1) s1.heap.objs.size, ⟨⟨.none, he⟩, ⟨_, hit, rfl, rfl⟩, Nat.succ_ne_self _⟩, fun b hb => ?_, q⟩
      have e' : b = s1.heap.objs.size + 1 ∨ b = s1.heap.objs.size := by simpa using hb
      have hle : s1.heap.objs.size ≤ b := by
        rcases e' with z | z
        · rw [z]; exact Nat.le_add_right _ _
        · rw [z]; exact Nat.le_refl _
      exact I1.fpOk hle (I1.hok.fresh hle)
end L2
namespace CM
open PySem PySem.Spec PySem.Calls PyProof.Rows L2
def dEnumT (ts : TDs) : TDw := fun ρ h => (ts ρ h).bind fun ds h => match ds with
  | [.lst xs] => .ok (enD 0 xs, none) h
  | [.tup xs] => .ok (enD 0 xs, none) h
  | _ => .no
section
variable {X : Cx} {K : PySem.W.Frag} {CA : CAs} {W : WX} {es : List Expr} {tge l : Expr} {hs : TA} {ts : TDs}
theorem wk_enumT {m : Mp} {h : CH} {H : Hp} {a : Addr} {xs : List V} {ds : List D} (k : ∀ m' h' H', Sz m h H m' h' H' → SqT K H' a xs) (r : RpAll K CA m h H xs ds) : Wk K CA m h H (Itet K a) (enD 0 ds) :=
  ⟨fun i m' h' H' d s S hd => by
    obtain ⟨y, hy, rfl⟩ := enD_get ds 0 i d hd
    obtain ⟨v, hv, rv⟩ := r.getD hy
    have e' := k m' h' H' s
    refine ⟨⟨xs, v, e', hv⟩, fun x H2 yl => ?_⟩
    obtain ⟨T, z, rfl, nT, rfl, hz⟩ := yl
    have ex := (hz xs e').symm.trans hv
    cases ex
    have ri : ((0 + i : Nat) : Int) = ((i : Nat) : Int) := by omega
    rw [ri]
    exact ⟨upd_new nT, .tup (S.fresh nT) upd_same (.cons (.int _) (.cons ((rv.mv s.toMv).move (stp_laid S nT)) .nil))⟩, fun m' h' H' s S => ⟨xs, k m' h' H' s, by rw [enD_length, r.length]; exact Nat.le_refl _⟩⟩
theorem wi_enumT (h : WA X K CA W es hs ts) (hp : PA X es hs → PI X tge l (iEnumT K hs)) : WI X K CA W tge l (iEnumT K hs) (dEnumT ts) := by
  refine ⟨hp h.pe, fun m hh H σ ρ R' S t => h.sim m hh H σ ρ _ S (PostI.bind t fun ds h1 m1 vs H1 s1 S1 r1 t1 => ?_)⟩
  split at t1
  · cases r1 with
    | cons r1 r2 =>
      cases r1 with
      | lst n e r =>
        cases r2
        exact .inl ⟨_, _, rfl, .of e, t1.walk s1 S1 (wk_enum n e r)⟩
  · cases r1 with
    | cons r1 r2 =>
      cases r2
      cases r1 with
      | tup n e r => exact .inr ⟨_, _, rfl, .of e, t1.walk s1 S1 (wk_enumT (keep_tup n e) r)⟩
      | ktup e r => exact .inr ⟨_, _, rfl, sq_emp e, t1.walk s1 S1 (wk_enumT (fun _ _ _ _ => sq_emp e) r)⟩
  · exact t1.elim
end
open PySem PySem.Spec PyProof.Rows L2
section
variable {X : Cx} {K : PySem.W.Frag} {CA : CAs} {W : WX} {m : Mp} {h : CH} {H : Hp} {σ : L2.St}
theorem rp_dctR2 {v : V} {d : D} {ds : List (Key × D)} (S : HR K CA m h H) (r : Rp K CA m h H v d) (e : dctOf h d = some ds) : ∃ a kvs, v = .ref a ∧ Rd H a (.dK kvs) ∧ kvs.map (·.1) = ds.map (·.1) ∧ RpAll K CA m h H (kvs.map (·.2)) (ds.map (·.2)) := by
  obtain ⟨a, o, kvs, rfl, e1, c, en, al⟩ := rp_dct S r e
  refine ⟨a, kvs, rfl, ?_, en, al⟩
  rcases core_dK c with rfl | ⟨ob, rfl⟩
  · exact .inl e1
  · exact .inr ⟨ob, e1⟩
end
structure LamF (X : Cx) (f c' : Addr) (k : Nat) (tl : XK → Hp → VK → Prop) (st0 : List Env) (s0 : Shared) (H0 : Hp) : Prop where
  ex : ∃ (pins : List (Addr × Obj)) (σ : L2.St) (H : Hp) (s : Shared) (params : Arguments) (body : Expr) (scope : Scope) (pm ctv : Value) (t : XK → TE), Inv X pins σ H s ∧ LamX.LamS X.env.scope scope ∧
    s.heap.get? f = some (PySem.W.kla_obj "<lambda>" (X.env.qual ++ "<lambda>") params body scope (cloFrom X.env.cells scope.names []) pm c' ctv) ∧ H f = none ∧ f ∉ frs X.stack ∧
    bindArgs (PySem.W.kla_fn "<lambda>" (X.env.qual ++ "<lambda>") params body scope (cloFrom X.env.cells scope.names []) pm (.ref c') ctv) ⟨[], []⟩ = pure [] ∧
    (∀ (A : Around) (outer : List Env) (s : Shared) (H : Hp) (E : XK), Room k (A.deeper (LamX.lamEnv X scope s.heap.objs.size f c')) → PE (LamX.lamCx X A outer s H E scope f c') body (t E)) ∧
    (tl = fun E HZ Q => t E σ HZ Q) ∧
    (∀ (HZ : Hp) (s1 : Shared), s1.os = s0.os → AllBare s1.gens → HOk X.prog X.w HZ s1.heap → Un (frs st0) [] H0 HZ s0.heap s1.heap → Un (frs X.stack) [] H HZ s.heap s1.heap)
section
variable {X : Cx} {f c' : Addr} {k : Nat} {tl : XK → Hp → VK → Prop} {st0 : List Env} {s0 : Shared} {H0 : Hp}
theorem LamF.deeper (F : LamF X f c' k tl st0 s0 H0) {CX1 : CXT} {E1 : XK} {N1 : List Str} {q1 : Str} {sg1 : Scope} {g1 : Addr} {cd1 : Value} {A0 : Around} {pins1 : List (Addr × Obj)} {σ1 : L2.St} {H1 : Hp} {s1 : Shared}
    (I1 : Inv (cxOf CX1 X.prog X.w X.K X.mg X.base N1 q1 sg1 g1 cd1 A0 st0 s0 H0 E1) pins1 σ1 H1 s1) : LamF X f c' k tl (envOfC q1 sg1 s0.heap.objs.size g1 cd1 :: st0) s1 H1 := by
  obtain ⟨pins, σ, H, s, params, body, scope, pm, ctv, t, I, L, hf, hfn, hfr, hbind, hbody, e, hun⟩ := F.ex
  refine ⟨pins, σ, H, s, params, body, scope, pm, ctv, t, I, L, hf, hfn, hfr, hbind, hbody, e, fun HZ s3 os bare hok un => ?_⟩
  have J := I1.call' os un hok bare (fun b hb => absurd hb (by simp))
  exact hun HZ s3 J.os bare hok J.base
end
def dSeqP (t : TD) : TDw := fun ρ h => (t ρ h).bind fun d h => match itemsD h d with
  | some ds => .ok (ds, none) h
  | none => .no
section
variable {X : Cx} {K : PySem.W.Frag} {CA : CAs} {W : WX} {ha : TE} {ta : TD}
theorem sim_seqP {H0 : Hp} (s : SimE K CA W ha ta) : SimI K CA W H0 (iSeq K ha) (dSeqP ta) := fun m hh H σ ρ R' S t => s m hh H σ ρ _ S (PostI.bind t fun d h1 m1 v H1 s1 S1 r1 t1 => by
  cases r1 with
  | lst n e r => exact ⟨_, rfl, .inl ⟨⟨_, .of e⟩, t1.walk s1 S1 (wk_list (keep_lst n e) r)⟩⟩
  | tup n e r => exact ⟨_, rfl, .inr ⟨⟨_, .of e⟩, t1.walk s1 S1 (wk_tup (keep_tup n e) r)⟩⟩
  | ktup e r => exact ⟨_, rfl, .inr ⟨⟨_, sq_emp e⟩, t1.walk s1 S1 (wk_tup (fun _ _ _ _ => sq_emp e) r)⟩⟩
  | scr n e => exact ⟨_, rfl, .inl ⟨⟨_, .inl (.inr ⟨_, e⟩)⟩, t1.walk s1 S1 (wk_list (fun m' h' H' s => by
      obtain ⟨_, o, e', l⟩ := s.kp _ _ n e trivial
      exact .inl (.inr ⟨_, by rw [e', l.frz]⟩)) (all_ints _))⟩⟩
  | kscr e => exact ⟨_, rfl, .inl ⟨⟨_, sl_emp e⟩, t1.walk s1 S1 (wk_list (fun _ _ _ _ => sl_emp e) (all_ints _))⟩⟩
  | _ => exact t1.elim)
end
section
variable {X : Cx} {K : PySem.W.Frag} {CA : CAs} {W : WX} {elt iter tge : Expr} {ifs : List Expr} {pos : Pos} {gH : TG} {tg : TGD} {hT : TT} {tt : TB} {he ha : TE} {te ta : TD}
theorem unl_frz {o : Obj} {P : Hp → Prop} (e : X.H_0 = fun _ => some (.frz o (.lst []))) : UnlP X P = P := by
  funext H
  refine propext ⟨fun q => ?_, .inl⟩
  rcases q with q | ⟨d, _, _, _, n, _⟩
  · exact q
  · rw [e] at n
    exact absurd rfl (n _ _)
theorem sim_lcP (X : Cx) {nm : Bool} {vs sl : List Nat} (s : SimE K CA W ha ta) (hg : SimG K CA sl gH tg) (ht : SimT K CA W0 hT tt) (hel : SimE K CA W0 he te) (ho : ∀ j, j ∈ sl → j ∈ vs) : SimE K CA W (tLc (iSeq K ha) gH hT he vs) (dLc nm (dSeqP ta) tg tt te vs) := by
  have h := sim_lc (X := { X with H_0 := fun _ => some (.frz default (.lst [])) }) (W := W) (nm := nm) (sim_seqP s) hg ht hel ho
  have e : tLcU { X with H_0 := fun _ => some (.frz default (.lst [])) } (iSeq K ha) gH hT he vs = tLc (iSeq K ha) gH hT he vs := by
    funext σ H Q
    show tLc (iSeq K ha) gH hT he vs σ H (fun v => UnlP { X with H_0 := fun _ => some (.frz default (.lst [])) } (Q v)) = _
    congr 1
    funext v
    exact unl_frz rfl
  rw [e] at h
  exact h
theorem we_lcP {scope : Scope} {own : List (Str × Nat)} {sl : List Nat} (hc : X.calm = true) (hN : X.N.Nodup) (hi : WE X K CA W iter ha ta) (hK : X.K = K) (ok : BlkOk X.N X.env.scope scope own)
    (hg : ∀ (s : Shared) (H : Hp) (C : Addr) (cl : List (Str × Addr)) (fp : List Addr), WG (X.blk s H scope (compEnvC scope cl C X.env) fp) K CA tge sl gH tg)
    (ht : ∀ (s : Shared) (H : Hp) (C : Addr) (cl : List (Str × Addr)) (fp : List Addr), WTs (X.blk s H scope (compEnvC scope cl C X.env) fp) K CA W0 ifs hT tt)
    (hel : ∀ (s : Shared) (H : Hp) (C : Addr) (cl : List (Str × Addr)) (fp : List Addr), WE (X.blk s H scope (compEnvC scope cl C X.env) fp) K CA W0 elt he te)
    (ho : ∀ j, j ∈ sl → j ∈ own.map (·.2)) (hs : ∀ x, foldedSetIterable iter X.env x = pure x := by intro _; rfl) : WE X K CA W (.ListComp elt [⟨tge, iter, ifs, 0⟩] scope pos) (tLc (iSeq K ha) gH hT he (own.map (·.2))) (dLc false (dSeqP ta) tg tt te (own.map (·.2))) :=
  ⟨pe_lc hc hN (pi_seq hi.pe hK) ok (fun s H C cl fp => (hg s H C cl fp).pe) (fun s H C cl fp => (ht s H C cl fp).pe) (fun s H C cl fp => (hel s H C cl fp).pe) hs, sim_lcP X hi.sim (hg X.s_0 X.H_0 0 [] []).sim (ht X.s_0 X.H_0 0 [] []).sim (hel X.s_0 X.H_0 0 [] []).sim ho⟩
end
end CM
namespace L2
open PySem PySem.Spec PyProof.Rows
end L2
namespace CM
open PySem PySem.Spec PySem.Calls PyProof.Rows L2
open PySem PySem.Spec PyProof.Rows L2
section
variable {P : Program} {w : World} {K : PySem.W.Frag} {H : Hp} {h : Heap}
end
def dPutN (kvs : List (D × D)) (x : D) (k : NestedKey) (d : D) : List (D × D) :=
  if (kvs.any fun p => decide (nkD 8 p.1 = some k)) = true then kvs.map (fun p => if nkD 8 p.1 = some k then (p.1, d) else p) else kvs ++ [(x, d)]
section
variable {K : PySem.W.Frag} {CA : CAs} {m m' : Mp} {h h' : CH} {H H' : Hp} {v : V} {d x : D} {k : NestedKey} {xs : List (NestedKey × Addr × Value)} {kvs : List (D × D)} {a b : Addr} {u : Value} {j : Nat}
theorem DNs.from : ∀ {xs : List (NestedKey × Addr × Value)} {kvs : List (D × D)} {vs : List V}, xs.map (fun x => some x.1) = kvs.map (fun p => nkD 8 p.1) → RpAll K CA m h H (xs.map fun x => V.ref x.2.1) (kvs.map (·.1)) → Vals vs (xs.map (·.2.2)) → RpAll K CA m h H vs (kvs.map (·.2)) → DNs K CA m h H xs kvs
  | [], [], _, _, _, _, _ => .nil
  | [], _ :: _, _, e, _, _, _ => by simp at e
  | _ :: _, [], _, e, _, _, _ => by simp at e
  | (k, b, u) :: xs, (x, d) :: kvs, vs, e, r1, rv, r2 => by
    simp only [List.map_cons, List.cons.injEq] at e
    cases r1 with
    | cons r1 r1' => cases rv with
      | cons rv rv' => cases r2 with
        | cons r2 r2' => exact .cons e.1.symm r1 rv r2 (DNs.from e.2 r1' rv' r2')
theorem DNs.mv (s : Mv m h H m' h' H') (r : DNs K CA m h H xs kvs) : DNs K CA m' h' H' xs kvs := by
  induction r with
  | nil => exact .nil
  | cons e r1 rv r2 _ ih => exact .cons e (r1.mv s) rv (r2.mv s) ih
theorem DNs.append {ys : List (NestedKey × Addr × Value)} {ls : List (D × D)} (r : DNs K CA m h H xs kvs) (r' : DNs K CA m h H ys ls) : DNs K CA m h H (xs ++ ys) (kvs ++ ls) := by
  induction r with
  | nil => exact r'
  | cons e r1 rv r2 _ ih => exact .cons e r1 rv r2 ih
theorem DNs.any (r : DNs K CA m h H xs kvs) : (kvs.any fun p => decide (nkD 8 p.1 = some k)) = (atKey xs k).isSome := by
  induction r with
  | nil => rfl
  | @cons k1 b u v x d xs kvs e r1 rv r2 _ ih =>
    by_cases c : k1 = k
    · subst c
      simp [atKey, e]
    · simp only [List.any_cons, e, Option.some.injEq, decide_eq_false c, Bool.false_or, ih]
      simp [atKey, c]
theorem DNs.put (r : DNs K CA m h H xs kvs) (ek : nkD 8 x = some k) (rk : Rp K CA m h H (.ref b) x) (rv : RelV v u) (rd : Rp K CA m h H v d) : DNs K CA m h H (storedH xs k b u) (dPutN kvs x k d) := by
  unfold storedH dPutN
  rw [r.any]
  split
  · rename_i c0
    clear c0 ek rk
    induction r with
    | nil => exact .nil
    | @cons k1 b1 u1 v1 x1 d1 xs kvs e r1 rv1 r2 _ ih =>
      simp only [List.map_cons]
      by_cases c : k1 = k
      · subst c
        rw [if_pos e, show putAt k1 u (k1, b1, u1) = (k1, b1, u) from if_pos rfl]
        exact .cons e r1 rv rd ih
      · rw [if_neg (by rw [e]; simpa using c), show putAt k u (k1, b1, u1) = (k1, b1, u1) from if_neg c]
        exact .cons e r1 rv1 r2 ih
  · exact r.append (.cons ek rk rv rd .nil)
end
open PySem PySem.Spec PySem.Calls PyProof.Rows L2 PySem.W
def EqV (K : PySem.W.Frag) (H : Hp) : Nat → V → V → Prop
  | 0, _, _ => False
  | n + 1, x, y => (x = y ∧ flatB x = true) ∨ (∃ a b xs ys, x = .ref a ∧ y = .ref b ∧ ((SqL K H a xs ∧ SqL K H b ys) ∨ (SqT K H a xs ∧ SqT K H b ys)) ∧ xs.length = ys.length ∧ ∀ (j : Nat) (u v : V), xs[j]? = some u → ys[j]? = some v → EqV K H n u v) ∨
    (∃ a b ks ls, x = .ref a ∧ y = .ref b ∧ Rd H a (.dK ks) ∧ Rd H b (.dK ls) ∧ ks.length = ls.length ∧ ∀ p ∈ ks, ∃ v, valV ls p.1 = some v ∧ EqV K H n p.2 v)
section
variable {X : Cx} {K : PySem.W.Frag} {pins : List (Addr × Obj)} {σ : L2.St} {H : Hp} {s : Shared}
theorem kv_mem {ks : List (Key × V)} {va : List (Key × Value)} (r : KV ks va) : ∀ {k : Key} {v : Value}, (k, v) ∈ va → ∃ x, (k, x) ∈ ks ∧ RelV x v := by
  unfold KV at r
  induction r with
  | nil => intro k v h; cases h
  | @cons p q ps qs h t ih =>
    intro k v hm
    rcases List.mem_cons.mp hm with e | hm
    · cases e
      obtain ⟨h1, h2⟩ := h
      exact ⟨p.2, List.mem_cons.mpr (.inl (by rw [← show p.1 = k from h1])), h2⟩
    · obtain ⟨x, h1, h2⟩ := ih hm
      exact ⟨x, List.mem_cons_of_mem _ h1, h2⟩
theorem all_t {α : Type} : ∀ l : List α, (l.all fun _ => true) = true := fun l => List.all_eq_true.mpr fun _ _ => rfl
theorem EqV.dd {n : Nat} (I : Inv X pins σ H s) (ih : ∀ x y u v, EqV X.K H n x y → RelV x u → RelV y v → PySem.W.EqTree X.prog X.w s n u v true) {ks ls : List (Key × V)} {va vb : List (Key × Value)} (ra : KV ks va) (rb : KV ls vb) (hp : ∀ p ∈ ks, ∃ v, valV ls p.1 = some v ∧ EqV X.K H n p.2 v) (hl : ks.length = ls.length) :
    (∀ k v y, (k, v) ∈ va → valueAt vb k = some y → PySem.W.EqTree X.prog X.w s n v y true) ∧ (va.length == vb.length && va.all fun p => (valueAt vb p.1).isSome && true) = true := by
  have ll : va.length = vb.length := by rw [← ra.length, ← rb.length]; exact hl
  have one : ∀ k v, (k, v) ∈ va → ∃ y, valueAt vb k = some y ∧ PySem.W.EqTree X.prog X.w s n v y true := fun k v hm => by
    obtain ⟨x, hx, rx⟩ := kv_mem ra hm
    obtain ⟨z, hz, ez⟩ := hp _ hx
    have rr := rb.val k
    rw [show valV ls k = some z from hz] at rr
    obtain ⟨y, hy, ry⟩ := rr.some_of
    exact ⟨y, hy, ih _ _ _ _ ez rx ry⟩
  refine ⟨fun k v y hm hy => ?_, ?_⟩
  · obtain ⟨y', hy', t⟩ := one k v hm
    rw [hy] at hy'
    cases hy'
    exact t
  · rw [Bool.and_eq_true]
    refine ⟨by rw [ll]; exact beq_self_eq_true _, List.all_eq_true.mpr fun p hm => ?_⟩
    obtain ⟨y, hy, _⟩ := one p.1 p.2 hm
    rw [hy]
    rfl
theorem EqV.ss {n : Nat} (ih : ∀ x y u v, EqV X.K H n x y → RelV x u → RelV y v → PySem.W.EqTree X.prog X.w s n u v true) {xs ys : List V} {us vs : List Value} (ra : Vals xs us) (rb : Vals ys vs) (hp : ∀ (j : Nat) (u v : V), xs[j]? = some u → ys[j]? = some v → EqV X.K H n u v) (hl : xs.length = ys.length) :
    us.toArray.size = vs.toArray.size ∧ ∀ j (h1 : j < us.toArray.size) (h2 : j < vs.toArray.size), PySem.W.EqTree X.prog X.w s n us.toArray[j] vs.toArray[j] true := by
  have e1 := ra.length
  have e2 := rb.length
  refine ⟨by simp only [List.size_toArray]; omega, fun j h1 h2 => ?_⟩
  simp only [List.size_toArray] at h1 h2
  obtain ⟨u, hu, ru⟩ := ra.get (i := j) (x := xs[j]'(by omega)) (by simp)
  obtain ⟨v, hv, rv⟩ := rb.get (i := j) (x := ys[j]'(by omega)) (by simp)
  have q1 : us.toArray[j] = u := by
    have := List.getElem?_eq_some_iff.mp hu
    obtain ⟨_, z⟩ := this
    simpa using z
  have q2 : vs.toArray[j] = v := by
    have := List.getElem?_eq_some_iff.mp hv
    obtain ⟨_, z⟩ := this
    simpa using z
  rw [q1, q2]
  exact ih _ _ _ _ (hp j _ _ (by simp) (by simp)) ru rv
theorem EqV.tree (I : Inv X pins σ H s) : ∀ (n : Nat) (x y : V) (u v : Value), EqV X.K H n x y → RelV x u → RelV y v → PySem.W.EqTree X.prog X.w s n u v true
  | 0, _, _, _, _, e, _, _ => e.elim
  | n + 1, x, y, u, v, e, rx, ry => by
    have ih := EqV.tree I n
    rcases e with ⟨rfl, f⟩ | ⟨a, b, xs, ys, rfl, rfl, hs, hl, hp⟩ | ⟨a, b, ks, ls, rfl, rfl, ea, eb, hl, hp⟩
    · exact .leaf fun A hu => eqAt_same rx ry f
    · cases rx
      cases ry
      by_cases z : a = b
      · subst z; exact .same
      · rcases hs with ⟨h1, h2⟩ | ⟨h1, h2⟩
        · obtain ⟨us, ra, ⟨o, k, ho, hc, _, hd⟩, _⟩ := I.list h1
          obtain ⟨vs, rb, ⟨o', k', ho', hc', _, hd'⟩, _⟩ := I.list h2
          obtain ⟨sz, t⟩ := EqV.ss ih ra rb hp hl
          have q := PySem.W.EqTree.lists (e := fun _ => true) z ⟨o, ho, hc, k, hd⟩ ⟨o', ho', hc', k', hd'⟩ sz t
          rw [all_t] at q
          exact q
        · obtain ⟨us, ra, ⟨o, ho, hc, k, hd⟩, _⟩ := I.tuple h1
          obtain ⟨vs, rb, ⟨o', ho', hc', k', hd'⟩, _⟩ := I.tuple h2
          obtain ⟨sz, t⟩ := EqV.ss ih ra rb hp hl
          have q := PySem.W.EqTree.tuples (e := fun _ => true) z ⟨o, ho, hc, k, hd⟩ ⟨o', ho', hc', k', hd'⟩ t
          rw [all_t, sz, beq_self_eq_true] at q
          exact q
    · cases rx
      cases ry
      by_cases z : a = b
      · subst z; exact .same
      · obtain ⟨_, ya, va, ra, da⟩ := dk_rd I.hok ea
        obtain ⟨_, yb, vb, rb, db⟩ := dk_rd I.hok eb
        obtain ⟨t, q1⟩ := EqV.dd I ih ra rb hp hl
        have q := PySem.W.EqTree.dicts (e := fun _ => true) z ya yb da db t
        rw [q1] at q
        exact q
def rEqN (K : PySem.W.Frag) (neg : Bool) : R2 := fun x y H Q => ∃ a b ks ls, x = .ref a ∧ y = .ref b ∧ Rd H a (.dK ks) ∧ Rd H b (.dK ls) ∧ ks.length = ls.length ∧ (∀ p ∈ ks, ∃ v, valV ls p.1 = some v ∧ EqV K H 8 p.2 v) ∧ Q (.bl (bneg neg true)) H
theorem op_eqN (hu : X.A.units + 64 < cLine) (hK : X.K = K := by rfl) : OpR X (compareOp .Eq) (rEqN K false) := by
  subst hK
  intro pins s σ H x y v u Q I rx ry h
  obtain ⟨a, b, ks, ls, rfl, rfl, ea, eb, hl, hp, q⟩ := h
  cases (show v = Value.ref a from rx)
  cases (show u = Value.ref b from ry)
  obtain ⟨_, ya, va, ra, da⟩ := dk_rd I.hok ea
  obtain ⟨_, yb, vb, rb, db⟩ := dk_rd I.hok eb
  obtain ⟨t, q1⟩ := EqV.dd I (EqV.tree I 8) ra rb hp hl
  exact PySem.W.eq_dictsT (e := fun _ => true) ya yb da db t (by omega) (fin_bl I q (by rw [q1]; rfl))
end
section
variable {K : PySem.W.Frag} {CA : CAs} {H0 : Hp} {he : TE} {te : TD}
def RL (K : PySem.W.Frag) (CA : CAs) : Addr → List D → Mp → CH → Hp → Prop := fun a acc m h H => ∃ xs, H a = some (.lst xs) ∧ RpAll K CA m h H xs acc
theorem mv_RL : Moves (RL K CA) := fun a x m h H m' h' H' ⟨xs, e, r⟩ s z => ⟨xs, (s.zk a z).trans e, r.move s⟩
def bL (te : TD) : List D → DE → CH → R (List D) := fun acc ρ h => (te ρ h).calm fun y h => if acc.length < sizeLine then .ok (acc ++ [y]) h else .no
def tbL (he : TE) : Addr → L2.St → Hp → (Hp → Prop) → Prop := fun a σ H Nx => he σ H fun y H7 => ∃ acc, H7 a = some (.lst acc) ∧ acc.length < sizeLine ∧ Nx (upd H7 a (.lst (acc ++ [y])))
theorem sim_bL (sv : SimE K CA W0 he te) : SimB K CA (RL K CA) (tbL he) (bL te) := fun a m h H σ ρ acc Nx S pz ra q => by
  unfold bL at q
  obtain ⟨y, h1, e1, q1⟩ := q.calm
  refine sv m h H σ ρ _ S ?_
  rw [e1]
  intro m1 v1 H1 s1 S1 r1
  have q3 := q1.base (s1.sc (p := a))
  have pz1 : a ∈ m1.z := by rw [s1.z]; exact pz
  obtain ⟨xs, ea, rr⟩ := mv_RL _ _ _ _ _ _ _ _ ra s1 pz
  by_cases hz : acc.length < sizeLine
  · rw [if_pos hz] at q3
    have sm := sc_made (u := .lst (xs ++ [v1])) S1 pz1
    exact ⟨xs, ea, by rw [rr.length]; exact hz, q3 _ _ sm (S1.made pz1) ⟨_, upd_same, (rr.append (.cons r1 .nil)).mv sm.toMv⟩⟩
  · rw [if_neg hz] at q3
    exact q3.elim
def tb2L (wi : TI) (g : TG) (tt : TT) (he : TE) (vs1 : List Nat) : Addr → L2.St → Hp → (Hp → Prop) → Prop := fun a σ H Nx => wi σ H fun J H4 => ∃ W : Nat → Nat → Hp → Prop, (∃ m, W 0 m H4) ∧ ∀ j k H, W j k H →
  (J.stop j H ∧ Nx H) ∨ (J.go j H ∧ ∃ Nx1 : Hp → Prop, (∀ H', Nx1 H' → ∃ k', k' < k ∧ W (j + 1) k' H') ∧ ∀ x H', J.yld j H x H' → g x (wipe σ vs1) H' fun σ3 H5 => wipe σ3 vs1 = wipe σ vs1 ∧ tt σ3 H5 fun b H6 => if b = true then tbL he a σ3 H6 Nx1 else Nx1 H6)
def b2L (ti : TDw) (tg : TGD) (tt : TB) (te : TD) (vs1 : List Nat) : List D → DE → CH → R (List D) := fun acc ρ h => (ti ρ h).calm fun w h => match w.2 with
  | none => dGL tg tt (bL te) (wipeD ρ vs1) acc w.1 h
  | some _ => .no
theorem sim_b2L {ti : TDw} {tg : TGD} {tt : TB} {vs1 sl : List Nat} {wi : TI} {g : TG} {hT : TT} (hi : SimI K CA W0 H0 wi ti) (hg : SimG K CA sl g tg) (ht : SimT K CA W0 hT tt) (sv : SimE K CA W0 he te) (ho : ∀ j, j ∈ sl → j ∈ vs1) :
    SimB K CA (RL K CA) (tb2L wi g hT he vs1) (b2L ti tg tt te vs1) := fun a m h H σ ρ acc Nx S pz ra q => by
  unfold b2L at q
  obtain ⟨w, h1, e1, q1⟩ := q.calm
  refine hi m h H σ ρ _ S ?_
  rw [e1]
  intro m1 J H1 s1 S1 wk uo
  split at q1
  · have q2 := q1.base (s1.sc (p := a))
    exact loop_sim hg ht (sim_bL sv) mv_RL ho wk Stp.refl.toSz (S.move s1 S1) (by rw [s1.z]; exact pz) (mv_RL _ _ _ _ _ _ _ _ ra s1 pz) q2
  · exact q1.elim
end
def dLc2 (nm : Bool) (ti : TDw) (tg : TGD) (tt : TB) (ti1 : TDw) (tg1 : TGD) (tt1 : TB) (te : TD) (vs vs1 : List Nat) : TD := fun ρ h => (ti ρ h).bind fun w h => ((dGL tg tt (b2L ti1 tg1 tt1 te vs1) (wipeD ρ vs) [] w.1 h).bind fun y h => mkL nm y h).unl w.2
section
variable {X : Cx} {K : PySem.W.Frag} {CA : CAs} {W : WX} {elt tge iter tg1e iter1 : Expr} {ifs ifs1 : List Expr} {pos : Pos} {gH g1H : TG} {tg tg1 : TGD} {hT h1T : TT} {tt tt1 : TB} {he : TE} {te : TD} {wH w1H : TI} {ti ti1 : TDw}
theorem we_lc2 (nm : Bool) {scope : Scope} {own : List (Str × Nat)} {sl sl1 vs1 : List Nat} (hc : X.calm = true) (hN : X.N.Nodup) (hi : WI X K CA W tge iter wH ti) (ok : BlkOk X.N X.env.scope scope own)
    (hg : ∀ (s : Shared) (H : Hp) (C : Addr) (cl : List (Str × Addr)) (fp : List Addr), WG (X.blk s H scope (compEnvC scope cl C X.env) fp) K CA tge sl gH tg)
    (ht : ∀ (s : Shared) (H : Hp) (C : Addr) (cl : List (Str × Addr)) (fp : List Addr), WTs (X.blk s H scope (compEnvC scope cl C X.env) fp) K CA W0 ifs hT tt)
    (hi1 : ∀ (s : Shared) (H : Hp) (C : Addr) (cl : List (Str × Addr)) (fp : List Addr), WI (X.blk s H scope (compEnvC scope cl C X.env) fp) K CA W0 tg1e iter1 w1H ti1)
    (hg1 : ∀ (s : Shared) (H : Hp) (C : Addr) (cl : List (Str × Addr)) (fp : List Addr), WG (X.blk s H scope (compEnvC scope cl C X.env) fp) K CA tg1e sl1 g1H tg1)
    (ht1 : ∀ (s : Shared) (H : Hp) (C : Addr) (cl : List (Str × Addr)) (fp : List Addr), WTs (X.blk s H scope (compEnvC scope cl C X.env) fp) K CA W0 ifs1 h1T tt1)
    (hel : ∀ (s : Shared) (H : Hp) (C : Addr) (cl : List (Str × Addr)) (fp : List Addr), WE (X.blk s H scope (compEnvC scope cl C X.env) fp) K CA W0 elt he te)
    (ho : ∀ j, j ∈ sl → j ∈ own.map (·.2)) (ho1 : ∀ j, j ∈ sl1 → j ∈ vs1) (hv1 : ∀ i ∈ vs1, i ∈ own.map (·.2)) (hs : ∀ x, foldedSetIterable iter X.env x = pure x := by intro _; rfl) (hs1 : ∀ env x, foldedSetIterable iter1 env x = pure x := by intro _ _; rfl) :
    WE X K CA W (.ListComp elt [⟨tge, iter, ifs, 0⟩, ⟨tg1e, iter1, ifs1, 0⟩] scope pos) (fun σ H Q => tDcG (.lst []) wH gH hT (tb2L w1H g1H h1T he vs1) (own.map (·.2)) σ H fun v => UnlP X (Q v)) (dLc2 nm ti tg tt ti1 tg1 tt1 te (own.map (·.2)) vs1) :=
  ⟨pe_unl (t := tDcG (.lst []) wH gH hT (tb2L w1H g1H h1T he vs1) (own.map (·.2))) (pe_lc2 hc hN hi.pe ok hv1 (fun s H C cl fp => (hg s H C cl fp).pe) (fun s H C cl fp => (ht s H C cl fp).pe) (fun s H C cl fp => (hi1 s H C cl fp).pe) (fun s H C cl fp => (hg1 s H C cl fp).pe) (fun s H C cl fp => (ht1 s H C cl fp).pe) (fun s H C cl fp => (hel s H C cl fp).pe) hs hs1),
    sim_dcG (mk := fun y h => mkL nm y h) hi.sim (hg X.s_0 X.H_0 0 [] []).sim (ht X.s_0 X.H_0 0 [] []).sim (sim_b2L (hi1 X.s_0 X.H_0 0 [] []).sim (hg1 X.s_0 X.H_0 0 [] []).sim (ht1 X.s_0 X.H_0 0 [] []).sim (hel X.s_0 X.H_0 0 [] []).sim ho1) mv_RL ho trivial (fun m h H a => ⟨[], upd_same, .nil⟩)
      fun sb S n s S2 ra uo t => let ⟨kv, e, r⟩ := ra; doneL sb S n s S2 e r uo t⟩
end
section
variable {X : Cx} {pins : List (Addr × Obj)} {σ : L2.St} {H : Hp} {s : Shared} {a b : Addr} {kvs more : List (Key × V)} {A : Around} {E : Value → Shared → Prop}
theorem d_update {Q : Value → Shared → Prop} (I : Inv X pins σ H s) (e : H a = some (.dK kvs)) (e2 : Rd H b (.dK more)) (ne : a ≠ b) (l : kvs.length + more.length ≤ sizeLine) (h : ∀ s', Inv X pins σ (upd H a (.dK (mergeK kvs more))) s' → Q .none s') :
    wpAny (model X.prog X.w) A (call (.builtin "dict.update") [.ref a, .ref b]) Q E s := by
  obtain ⟨z, hd, vs, rel, dd⟩ := dk_of I.hok e
  obtain ⟨z2, hd2, vs2, rel2, dd2⟩ := dk_rd I.hok e2
  refine call_meetsIn PySem.F.slot_dict_update dd.typeIs PySem.F.entry_dict_update (PySem.F.args_dict_update_2 _ _) (meets_dict_update (mixKind X.prog X.w) a b ne hd2)
    ⟨vs, vs2, dd, dd2, by rw [← rel.length, ← rel2.length]; exact l, fun h' dd' _ hs => h _ ?_⟩
  have he : ∃ q, h'.get? a = some q := let ⟨q, _, _, hq, _⟩ := dd'; ⟨q, hq⟩
  exact d_write (t' := s.toks) I (by rw [e]; exact True.intro) hs he (dk_new (Nat.le_trans (length_mergeK more kvs) l) hd (KV.merge rel2 rel) dd')
end
abbrev rDUpd : V → List V → Hp → VK → Prop := fun x vs H Q => ∃ (a b : Addr) (kvs more : List (Key × V)), x = .ref a ∧ vs = [.ref b] ∧ H a = some (.dK kvs) ∧ Rd H b (.dK more) ∧ a ≠ b ∧ kvs.length + more.length ≤ sizeLine ∧ Q .non (upd H a (.dK (mergeK kvs more)))
theorem mt_dupd {X : Cx} : MtM X "dict.update" rDUpd := by
  intro pins s σ H x vs v us Q I rx rv h
  obtain ⟨a, b, kvs, more, rfl, rfl, e, e2, ne, l, q⟩ := h
  cases rx
  obtain ⟨u, rfl, ru⟩ := vals1 rv
  cases ru
  exact d_update I e e2 ne l fun s' I' => ⟨.non, _, I', rfl, q⟩
def fDUpd : FM := fun x xs h => match x, xs with
  | .ref k, [.dct more] => match h.ob k with
    | some (.dct kvs) => if kvs.length + more.length ≤ sizeLine then .ok .non (h.put k (.dct (mergeD kvs more))) else .no
    | _ => .no
  | _, _ => .no
section
variable {K : PySem.W.Frag} {CA : CAs}
theorem sim_dupd : SimM K CA rDUpd fDUpd := by
  intro W σ m h H x dx xs ds Q' S rx rs t
  unfold fDUpd at t
  split at t
  · rename_i k more
    split at t
    · rename_i kvs e
      obtain ⟨l, t⟩ := post_ite t
      obtain ⟨hk, q, en, r⟩ := mo_dct S e
      have er := rp_ref rx
      subst er
      cases rs with
      | cons r1 r2 =>
        cases r2
        cases r1 with
        | @dct a o hm _ nl e1 c en2 rr2 =>
          obtain ⟨en3, rr3⟩ := merge_rel hm more hk kvs en2 rr2 en r
          have rd : Rd H a (.dK hm) := by
            rcases core_dK c with rfl | ⟨ob, rfl⟩
            · exact .inl e1
            · exact .inr ⟨ob, e1⟩
          have l1 := congrArg List.length en
          have l2 := congrArg List.length en2
          simp only [List.length_map] at l1 l2
          exact ⟨m k, a, hk, hm, rfl, rfl, q, rd, fun z => nl (.inl ⟨k, _, e, z⟩), by omega, t.put S e trivial (.dct upd_same en3 (rr3.mv (mv_put e))) .non⟩
    · exact t.elim
  · exact t.elim
end
section
variable {X : Cx} {K : PySem.W.Frag} {CA : CAs} {W : WX} {o value : Expr} {f : Str} {pos tpos : Pos} {ha hv : TE} {ta tv : TD} {cs : List Nat}
theorem ws_fldAug (hf : FldOf K CA cs f) (x : WE X K CA W o ha ta) (y : WE X K CA W value hv tv) (hK : X.K = K := by rfl) : WS X K CA W (.AugAssign (.Attribute o f tpos) .Add value pos) (sFldAug K ha hv rAdd f) (dFldAug cs f ta tv) := by
  subst hK
  refine ⟨ps_fldaug x.pe y.pe in_add, fun m hh H σ ρ D' S q => x.sim m hh H σ ρ _ S (PostS.bind S q fun d h1 m1 v H1 s1 S1 r q1 => ?_)⟩
  split at q1
  · rename_i k er
    have er := refOf_eq er
    subst er
    split at q1
    · rename_i c fs eo
      by_cases hc : c ∈ cs ∧ fs.length < 1000
      · rw [if_pos hc] at q1
        split at q1
        · rename_i i el
          obtain ⟨dx, hfs, e1, en, rr⟩ := mo_obj S1 eo
          obtain ⟨u, hu, ru⟩ := rp_look en rr el
          cases ru
          refine ⟨_, _, dx, hfs, _, rp_ref r, e1, (hf c hc.1).1, (hf c hc.1).2, hu, y.sim m1 h1 H1 σ ρ _ (S.move s1 S1) (PostS.bind (S.move s1 S1) q1 fun d2 h2 m2 v2 H2 s2 S2 r2 q2 => ?_)⟩
          split at q2
          · rename_i j
            cases r2
            refine ⟨i, j, rfl, rfl, ?_⟩
            split at q2
            · rename_i c' fs' eo2
              by_cases hc2 : c' = c ∧ fs'.length < 1000
              · rw [if_pos hc2] at q2
                obtain ⟨rfl, hl⟩ := hc2
                obtain ⟨dx2, hfs2, e2, en2, rr2⟩ := mo_obj S2 eo2
                have em : m1 k = m2 k := by
                  have := rp_ref (r.move s2)
                  rw [rp_ref r] at this
                  exact V.ref.inj this
                obtain ⟨i1, i2⟩ := rp_putF (f := f) (Rp.int (K := X.K) (CA := CA) (m := m2) (h := h2) (H := H2) (i + j)) en2 rr2
                refine ⟨dx2, hfs2, by rw [em]; exact e2, by have := congrArg List.length en2; simp at this; omega, ?_⟩
                have sp := stp_put (o' := .obj c' (putD f (.int (i + j)) fs')) (u := .ins (CA c') dx2 (putF f (V.int (i + j)) hfs2)) S2 eo2 trivial
                rw [em]
                exact q2 m2 σ _ sp (((S.move s1 S1).move s2 S2).move sp (S2.put eo2 (.obj upd_same i1 (i2.mv (mv_put eo2)))))
              · rw [if_neg hc2] at q2; exact q2.elim
            · exact q2.elim
          · exact q2.elim
        · exact q1.elim
      · rw [if_neg hc] at q1; exact q1.elim
    · exact q1.elim
  · exact q1.elim
end
section
open PySem.SeqAt PySem.AutoSeq1 PySem.MeetsSeq PySem.MeetsSeq2 PySem.MeetsSeq3
variable {prog : Program} {w : World}
theorem all_eq_loop {l b : Addr} {xs ys : Array Value} {n n2 : Nat} {dd dd2 : Option Addr} {sl sl2 : Array (Option Value)} (hsz : xs.size = ys.size) : ∀ (k i : Nat), xs.size - i = k → MeetsIn prog w (Builtin.«list.__eq__.loop» ⟨[.ref l, .ref b, rawInt i, rawInt 3], []⟩)
      (fun A R s => s.heap.get? l = some { cls := .type "list", dict := dd, data := .seq xs n, slots := sl } ∧ s.heap.get? b = some { cls := .type "list", dict := dd2, data := .seq ys n2, slots := sl2 } ∧
        (∀ j (h1 : j < xs.size) (h2 : j < ys.size), EqIn prog w A.in1 s xs[j] ys[j] true) ∧ R (.ok (.ret (.bool false))) s)
  | 0, i, hk => fun A R s h => by
    obtain ⟨hp, g, d, tk, os⟩ := s
    obtain ⟨hl, hb, he, h⟩ := h
    wp_walk using wpAny_loadPart' hl, wpAny_loadPart' hb
    have e1 : xs[((i : Nat) : Int).toNat]? = none := by simp; omega
    have e2 : ys[((i : Nat) : Int).toNat]? = none := by simp; omega
    rw [e1, e2]
    wp_walk using wpAny_loadPart' hl, wpAny_loadPart' hb
    show R (.ok (.ret (.bool (xs.size != ys.size)))) _
    rw [show (xs.size != ys.size) = false by simp [hsz]]
    exact h
  | k + 1, i, hk => fun A R s h => by
    have ih := all_eq_loop (l := l) (b := b) (n := n) (n2 := n2) (dd := dd) (dd2 := dd2) (sl := sl) (sl2 := sl2) hsz k (i + 1) (by omega)
    obtain ⟨hp, g, d, tk, os⟩ := s
    obtain ⟨hl, hb, he, h⟩ := h
    wp_walk using wpAny_loadPart' hl, wpAny_loadPart' hb
    have h1 : i < xs.size := by omega
    have h2 : i < ys.size := by omega
    have e1 : xs[((i : Nat) : Int).toNat]? = some xs[i] := by simp [h1]
    have e2 : ys[((i : Nat) : Int).toNat]? = some ys[i] := by simp [h2]
    have hc : ((i : Int) + 1) = ((i + 1 : Nat) : Int) := by push_cast; rfl
    rw [e1, e2]
    refine wpAny_bind (he i h1 h2 _ _ ?_)
    wp_walk
    rw [hc]
    exact ⟨plainId_quiet plain_eq_loop _, codeAny_builtin entry_eq_loop (by
      rw [Around.under_plainId plain_eq_loop _]
      exact ih A R _ ⟨hl, hb, he, h⟩)⟩
theorem list_same_ne {l b : Addr} {xs ys : Array Value} {n n2 : Nat} {dd dd2 : Option Addr} {sl sl2 : Array (Option Value)} (hsz : xs.size = ys.size) :
    MeetsIn prog w (Builtin.«list.__ne__» ⟨[.ref l, .ref b], []⟩)
      (fun A R s => s.heap.get? l = some { cls := .type "list", dict := dd, data := .seq xs n, slots := sl } ∧ s.heap.get? b = some { cls := .type "list", dict := dd2, data := .seq ys n2, slots := sl2 } ∧
        (∀ j (h1 : j < xs.size) (h2 : j < ys.size), EqIn prog w A.in1 s xs[j] ys[j] true) ∧ R (.ok (.ret (.bool false))) s) := by
  intro A R s h
  obtain ⟨hp, g, d, tk, os⟩ := s
  obtain ⟨hl, hb, he, h⟩ := h
  have f3 := AutoSeq1.sub_list_list
  have hne : ¬ (xs.size != ys.size) = true := by simp [hsz]
  wp_walk using wpAny_loadPart' hl, wpAny_loadPart' hb
  exact ⟨plainId_quiet plain_eq_loop _, codeAny_builtin entry_eq_loop (by
    rw [Around.under_plainId plain_eq_loop _]
    exact all_eq_loop hsz _ 0 rfl A R _ ⟨hl, hb, he, h⟩)⟩
theorem ne_lists_same {A : Around} {s : Shared} {E : Value → Shared → Prop} {l b : Addr} {xs ys : Array Value} {Q : Value → Shared → Prop} (hl : s.heap.IsList l xs) (hb : s.heap.IsList b ys) (hsz : xs.size = ys.size) (hu : A.units < cLine)
    (he : ∀ j (h1 : j < xs.size) (h2 : j < ys.size), EqIn prog w A.in1 s xs[j] ys[j] true) (h : Q (.bool false) s) : wpAny (model prog w) A (richCompare .NotEq (.ref l) (.ref b)) Q E s := by
  obtain ⟨⟨cls, dd, data, sl⟩, ho, hc, n, hd⟩ := id hl
  obtain ⟨⟨cls2, dd2, data2, sl2⟩, ho2, hc2, n2, hd2⟩ := id hb
  simp only at hc hd hc2 hd2
  subst hc hd hc2 hd2
  exact wpAny_richCompare_same_room (T := "list") (op := .NotEq) ⟨_, ho, rfl⟩ ⟨_, ho2, rfl⟩ F.slot_list_ne (call_meetsIn F.slot_list_ne ⟨_, ho, rfl⟩ F.entry_list_ne (F.args_list_ne_2 _ _) (list_same_ne hsz)
    ⟨ho, ho2, he, show Value.bool false ≠ Value.notImplemented ∧ Q (.bool false) s from ⟨(fun x => nomatch x), h⟩⟩) hu
end
def sameH (h : CH) : Nat → D → D → Bool
  | 0, _, _ => false
  | n + 1, x, y => match x, y with
    | .non, .non => true
    | .bl a, .bl b => a == b
    | .int a, .int b => a == b
    | .str a, .str b => decide (a = b)
    | .tup xs, .tup ys => xs.length == ys.length && (xs.zip ys).all fun p => sameH h n p.1 p.2
    | x, y => match lstOf h x, lstOf h y with
      | some xs, some ys => xs.length == ys.length && (xs.zip ys).all fun p => sameH h n p.1 p.2
      | _, _ => match dctOf h x, dctOf h y with
        | some ks, some ls => ks.length == ls.length && ks.all fun p => match dGet ls p.1 with
          | some z => sameH h n p.2 z
          | none => false
        | _, _ => false
def fEqH (neg : Bool) : F2 := fun x y h => match dctOf h x, dctOf h y with
  | some ks, some ls => if (ks.length == ls.length && ks.all fun p => match dGet ls p.1 with
      | some z => sameH h 8 p.2 z
      | none => false) = true then .ok (.bl (bneg neg true)) h else .no
  | _, _ => .no
def fEqHL (neg : Bool) : F2 := fun x y h => match lstOf h x, lstOf h y with
  | some xs, some ys => if (xs.length == ys.length && (xs.zip ys).all fun p => sameH h 8 p.1 p.2) = true then .ok (.bl (bneg neg true)) h else .no
  | _, _ => .no
section
variable {X : Cx} {K : PySem.W.Frag}
def rEqHL (K : PySem.W.Frag) (neg : Bool) : R2 := fun x y H Q => ∃ a b xs ys, x = .ref a ∧ y = .ref b ∧ SqL K H a xs ∧ SqL K H b ys ∧ xs.length = ys.length ∧ (∀ (j : Nat) (u v : V), xs[j]? = some u → ys[j]? = some v → EqV K H 8 u v) ∧ Q (.bl (bneg neg true)) H
theorem op_neHL (hu : X.A.units + 64 < cLine) (hK : X.K = K := by rfl) : OpR X (compareOp .NotEq) (rEqHL K true) := by
  subst hK
  intro pins s σ H x y v u Q I rx ry h
  obtain ⟨a, b, xs, ys, rfl, rfl, h1, h2, hl, hp, q⟩ := h
  cases (show v = Value.ref a from rx)
  cases (show u = Value.ref b from ry)
  obtain ⟨us, ra, ⟨o, k, ho, hc, _, hd⟩, _⟩ := I.list h1
  obtain ⟨vs, rb, ⟨o', k', ho', hc', _, hd'⟩, _⟩ := I.list h2
  obtain ⟨sz, t⟩ := EqV.ss (EqV.tree I 8) ra rb hp hl
  exact ne_lists_same ⟨o, ho, hc, k, hd⟩ ⟨o', ho', hc', k', hd'⟩ sz (by omega) (fun j h1 h2 => (t j h1 h2).at X.A.in1 (by show X.A.units + 1 + _ < cLine; omega)) (fin_bl I q rfl)
end
section
variable {K : PySem.W.Frag} {CA : CAs} {m : Mp} {h : CH} {H : Hp}
theorem sameHS {n : Nat} (ih : ∀ (x y : D) (u v : V), sameH h n x y = true → Rp K CA m h H u x → Rp K CA m h H v y → EqV K H n u v) {xs ys : List D} {us vs : List V} (t : (xs.length == ys.length && (xs.zip ys).all fun p => sameH h n p.1 p.2) = true) (r1 : RpAll K CA m h H us xs) (r2 : RpAll K CA m h H vs ys) :
    us.length = vs.length ∧ ∀ (j : Nat) (u v : V), us[j]? = some u → vs[j]? = some v → EqV K H n u v := by
  rw [Bool.and_eq_true] at t
  have l := eq_of_beq t.1
  refine ⟨by rw [r1.length, r2.length]; exact l, fun j u v eu ev => ?_⟩
  obtain ⟨d, ed, rd⟩ := r1.get eu
  obtain ⟨e, ee, re⟩ := r2.get ev
  refine ih _ _ _ _ (List.all_eq_true.mp t.2 (d, e) ?_) rd re
  refine List.mem_of_getElem? (i := j) ?_
  rw [List.getElem?_zip_eq_some]
  exact ⟨ed, ee⟩
theorem sameHD {n : Nat} (ih : ∀ (x y : D) (u v : V), sameH h n x y = true → Rp K CA m h H u x → Rp K CA m h H v y → EqV K H n u v) {la : List (Key × V)} {da : List (Key × D)} (el : la.map (·.1) = da.map (·.1)) (rl : RpAll K CA m h H (la.map (·.2)) (da.map (·.2))) : ∀ {kvs : List (Key × V)} {ds : List (Key × D)}, kvs.map (·.1) = ds.map (·.1) → RpAll K CA m h H (kvs.map (·.2)) (ds.map (·.2)) →
    (ds.all fun p => match dGet da p.1 with | some z => sameH h n p.2 z | none => false) = true → ∀ p ∈ kvs, ∃ v, valV la p.1 = some v ∧ EqV K H n p.2 v
  | [], _, _, _, _ => fun p hp => by cases hp
  | _ :: _, [], e, _, _ => by simp at e
  | p :: kvs, q :: ds, e, r, t => by
    obtain ⟨pk, pv⟩ := p
    obtain ⟨qk, qv⟩ := q
    simp only [List.map_cons, List.cons.injEq] at e
    obtain ⟨e1, e2⟩ := e
    subst e1
    rw [List.all_cons, Bool.and_eq_true] at t
    obtain ⟨t1, t2⟩ := t
    cases r with
    | cons r1 r2 =>
      intro p hp
      rcases List.mem_cons.mp hp with rfl | hp
      · rcases rp_dget (k := pk) el rl with ⟨v, d, h1, h2, h3⟩ | ⟨h1, h2⟩
        · simp only [h2] at t1
          exact ⟨v, h1, ih _ _ _ _ t1 r1 h3⟩
        · simp only [h2] at t1
          cases t1
      · exact sameHD ih el rl e2 r2 t2 p hp
theorem same_eqH (S : HR K CA m h H) : ∀ (n : Nat) (x y : D) (u v : V), sameH h n x y = true → Rp K CA m h H u x → Rp K CA m h H v y → EqV K H n u v
  | 0, _, _, _, _, t, _, _ => by cases t
  | n + 1, x, y, u, v, t, r1, r2 => by
    have ih := same_eqH S n
    unfold sameH at t
    split at t
    · cases r1; cases r2; exact .inl ⟨rfl, rfl⟩
    · cases r1; cases r2; exact .inl ⟨by rw [eq_of_beq t], rfl⟩
    · cases r1; cases r2; exact .inl ⟨by rw [eq_of_beq t], rfl⟩
    · cases r1; cases r2; exact .inl ⟨by rw [of_decide_eq_true t], rfl⟩
    · rename_i xs ys
      obtain ⟨a, us, rfl, e1, q1⟩ := rp_tup r1
      obtain ⟨b, vs, rfl, e2, q2⟩ := rp_tup r2
      obtain ⟨l, hp⟩ := sameHS ih t q1 q2
      exact .inr (.inl ⟨a, b, us, vs, rfl, rfl, .inr ⟨e1, e2⟩, l, hp⟩)
    · split at t
      · rename_i xs ys ex ey
        obtain ⟨a, us, rfl, e1, q1⟩ := rp_lst S r1 ex
        obtain ⟨b, vs, rfl, e2, q2⟩ := rp_lst S r2 ey
        obtain ⟨l, hp⟩ := sameHS ih t q1 q2
        exact .inr (.inl ⟨a, b, us, vs, rfl, rfl, .inl ⟨.of e1, .of e2⟩, l, hp⟩)
      · split at t
        · rename_i ks ls ex ey
          obtain ⟨a, ka, rfl, h1, q1, w1⟩ := rp_dctR2 S r1 ex
          obtain ⟨b, kb, rfl, h2, q2, w2⟩ := rp_dctR2 S r2 ey
          rw [Bool.and_eq_true] at t
          refine .inr (.inr ⟨a, b, ka, kb, rfl, rfl, h1, h2, ?_, sameHD ih q2 w2 q1 w1 t.2⟩)
          have l1 := congrArg List.length q1
          have l2 := congrArg List.length q2
          have l3 := eq_of_beq t.1
          simp only [List.length_map] at l1 l2
          omega
        · cases t
theorem sim_eqH {neg : Bool} : SimR K CA (rEqN K neg) (fEqH neg) := by
  intro W σ m h H x y dx dy Q' S rx ry t
  unfold fEqH at t
  split at t
  · rename_i ks ls ex ey
    obtain ⟨c, t⟩ := post_ite t
    obtain ⟨a, ka, rfl, h1, q1, w1⟩ := rp_dctR2 S rx ex
    obtain ⟨b, kb, rfl, h2, q2, w2⟩ := rp_dctR2 S ry ey
    rw [Bool.and_eq_true] at c
    refine ⟨a, b, ka, kb, rfl, rfl, h1, h2, ?_, sameHD (same_eqH S 8) q2 w2 q1 w1 c.2, t.here S (.bl _)⟩
    have l1 := congrArg List.length q1
    have l2 := congrArg List.length q2
    have l3 := eq_of_beq c.1
    simp only [List.length_map] at l1 l2
    omega
  · exact t.elim
theorem sim_eqHL {neg : Bool} : SimR K CA (rEqHL K neg) (fEqHL neg) := by
  intro W σ m h H x y dx dy Q' S rx ry t
  unfold fEqHL at t
  split at t
  · rename_i xs ys ex ey
    obtain ⟨c, t⟩ := post_ite t
    obtain ⟨a, us, rfl, e1, q1⟩ := rp_lst S rx ex
    obtain ⟨b, vs, rfl, e2, q2⟩ := rp_lst S ry ey
    obtain ⟨l, hp⟩ := sameHS (same_eqH S 8) c q1 q2
    exact ⟨a, b, us, vs, rfl, rfl, .of e1, .of e2, l, hp, t.here S (.bl _)⟩
  · exact t.elim
end
def dEnumN (ts : TDs) : TDw := fun ρ h => (ts ρ h).bind fun ds h => match ds with
  | [.ref k] => match h.ob k with
    | some (.lst xs) => .ok (enD 0 xs, some (k, .lst xs)) (h.put k (.lkl xs))
    | _ => .no
  | _ => .no
section
variable {X : Cx} {K : PySem.W.Frag} {CA : CAs} {W : WX} {es : List Expr} {tge l : Expr} {hs : TA} {ts : TDs}
theorem wk_enumN {m : Mp} {h : CH} {H : Hp} {a : Addr} {xs : List V} {ds : List D} (k : ∀ m' h' H', Sz m h H m' h' H' → SqL K H' a xs) (r : RpAll K CA m h H xs ds) : Wk K CA m h H (Ite K a) (enD 0 ds) :=
  ⟨fun i m' h' H' d s S hd => by
    obtain ⟨y, hy, rfl⟩ := enD_get ds 0 i d hd
    obtain ⟨v, hv, rv⟩ := r.getD hy
    have e' := k m' h' H' s
    refine ⟨⟨xs, v, e', hv⟩, fun x H2 yl => ?_⟩
    obtain ⟨T, z, rfl, nT, rfl, hz⟩ := yl
    have ex := (hz xs e').symm.trans hv
    cases ex
    have ri : ((0 + i : Nat) : Int) = ((i : Nat) : Int) := by omega
    rw [ri]
    exact ⟨upd_new nT, .tup (S.fresh nT) upd_same (.cons (.int _) (.cons ((rv.mv s.toMv).move (stp_laid S nT)) .nil))⟩, fun m' h' H' s S => ⟨xs, k m' h' H' s, by rw [enD_length, r.length]; exact Nat.le_refl _⟩⟩
theorem wi_enumN (h : WA X K CA W es hs ts) (hp : PA X es hs → PI X tge l (iEnum K hs)) : WI X K CA W tge l (iEnum K hs) (dEnumN ts) := by
  refine ⟨hp h.pe, fun m hh H σ ρ R' S t => h.sim m hh H σ ρ _ S (PostI.bind t fun ds h1 m1 vs H1 s1 S1 r1 t1 => ?_)⟩
  split at t1
  · rename_i k
    cases r1 with
    | cons r1 r2 =>
      cases r2
      cases r1 with
      | @ref k lt =>
        split at t1
        · rename_i xs eo
          obtain ⟨vs, eH, r, s2, S2⟩ := lockL_ok S1 eo
          refine ⟨m1 k, vs, rfl, .of eH, t1 m1 _ H1 (s1.trans s2) S2 (wk_enumN (fun m' h' H' s => ?_) (r.move s2)) ?_⟩
          · obtain ⟨_, q⟩ := s.lk k _ lt put_same id
            exact .of (q.trans eH)
          · intro m2 h2 H2 s3 S3
            obtain ⟨q1, q2, q3⟩ := unlockL_ok S1 eo s3 S3
            exact ⟨_, H2, q1, .inl rfl, s1.trans q2, q3⟩
        · exact t1.elim
  · exact t1.elim
end
section
variable (K : PySem.W.Frag) (a : Addr)
def seqN : Nat := match (objD K a).data with
  | .seq _ n => n
  | _ => 0
end
section
variable {K : PySem.W.Frag} {a : Addr} {name qual : Str} {st : Stmt}
theorem fnO_ok (e : fnO K a = fnE name qual st) : K.lookup a = some ⟨(objD K a).cls, (objD K a).dict, .func (PySem.W.fnOf name qual (defArgs st) (defBody st) (defScope st) .none (fdD K a).kwdefaults (fdD K a).doc (fdD K a).pyModule (fdD K a).annotations (fdD K a).code (fdD K a).closureTuple), (objD K a).slots⟩ := by
  unfold fnO at e
  cases q : K.lookup a with
  | none => rw [q] at e; cases e
  | some o =>
    obtain ⟨oc, od, dt, osl⟩ := o
    have eo : objD K a = ⟨oc, od, dt, osl⟩ := by unfold objD; rw [q]; rfl
    rw [q] at e
    cases dt with
    | func fd =>
      have ef : fdD K a = fd := by unfold fdD; rw [eo]
      rw [eo, ef]
      obtain ⟨n1, n2, n3, n4, n5, n6, n7, n8, n9, n10, n11, n12, n13, n14, n15⟩ := fd
      simp only [fnE, Option.some.injEq, Prod.mk.injEq, List.map_eq_nil_iff] at e
      obtain ⟨h1, h2, h3, h4, h5, h6, h7, h8, h9⟩ := e
      subst h1 h2 h3 h4 h5 h6 h7 h8 h9
      rfl
    | _ => cases e
theorem knd_ex {n : Nat} (e : decide (kndD K a = n) = true) (n0 : n ≠ 0) : ∃ o, K.lookup a = some o ∧ objD K a = o ∧ (match o.data with
    | .func _ => 1
    | .fields _ => 2
    | .seq _ _ => 3
    | .dict _ _ => 4
    | .cell _ => 5
    | _ => 0) = n := by
  have e := of_decide_eq_true e
  unfold kndD at e
  cases q : K.lookup a with
  | none => rw [q] at e; exact absurd e.symm n0
  | some o => rw [q] at e; exact ⟨o, rfl, by unfold objD; rw [q]; rfl, e⟩
theorem seq_ok (e : decide (kndD K a = 3) = true) : K.lookup a = some ⟨(objD K a).cls, (objD K a).dict, .seq (seqD K a) (seqN K a), (objD K a).slots⟩ := by
  obtain ⟨⟨c, d, dt, sl⟩, h1, h2, h3⟩ := knd_ex e (by decide)
  unfold seqD seqN
  rw [h1, h2]
  cases dt <;> first | rfl | (simp at h3)
theorem tup_ok {vs : List Value} (e : decide (kndD K a = 3) = true) (c : decide ((objD K a).cls = .type "tuple") = true) (v : decide ((seqD K a).toList = vs) = true) : K.lookup a = some ⟨.type "tuple", (objD K a).dict, .seq vs.toArray (seqN K a), (objD K a).slots⟩ := by
  rw [seq_ok e, of_decide_eq_true c]
  have : seqD K a = vs.toArray := by rw [← of_decide_eq_true v]
  rw [this]
end
theorem ckF {l : List Bool} (h : l.all id = true) (i : Nat) {b : Bool} (e : l[i]? = some b) : b = true := List.all_eq_true.mp h b (List.mem_of_getElem? e)
theorem fnF {X : SpecX} {K : PySem.W.Frag} (e : X.fn K = X.fe) (i : Nat) {a b : FnV} (ea : (X.fn K)[i]? = some a) (eb : X.fe[i]? = some b) : a = b := by
  rw [e, eb] at ea
  exact (Option.some.inj ea).symm
theorem walkGX {l : PySem.W.OpenLaw} {k : Nat} {q : Program} {loose : List Str} {XP : (Str → Option Value) → Heap → Prop} {YP : World → Heap → Prop} {d : DefRec} {F : FD} (hF : LawF F) (hi : importsNone q = true) (hn : l.most = some 63) (hdf : d.params.defaults = []) (hr : Room k callerA)
    (G0 : ∀ (w : World) (mg : Str → Option Value) (fa : Addr) (h : Heap), YP w h → h.Ns mainGlobals mg → mg d.name = some (.ref fa) → ∃ K : PySem.W.Frag, K.In h ∧ ∃ (fd : FuncData) (CA : CAs) (cs : List (Addr × Addr)), (∀ p ∈ CA.T, ∃ c, (c, p.1) ∈ cs) ∧ (∀ p ∈ cs, h.get? p.2 = some { cls := .none, data := .fields #[] }) ∧ (∀ p ∈ cs, K.lookup p.2 = none) ∧ (∀ p ∈ cs, PySem.W.CodeHd h p.1 p.2) ∧
      (∀ (s : Shared) (u : Value), BindsTo s fd ⟨[u], []⟩ [("_law_script", u)]) ∧
      ∀ base : Heap, K.In base → base.Ns mainGlobals mg → SM base → (∀ p ∈ cs, LamX.TabB base mg p.1 p.2) → FnG l.prog w K mg base true k fa fd ["_law_script"] (spD K CA 1 F)) : PySem.W.WalkO q loose XP YP l.row.toRowW d [] (fun f vs => PySem.call f vs) := by
  refine Att.attach_callB hn hdf fun w s0 s1 mg mb fa o pm cd doc a vs ns G Y _ _ _ hm ha his hl _ gens => ?_
  obtain ⟨mm, hm2, _⟩ := (G.T.seer hi).mods
  have sm : SM s1.heap := by
    obtain ⟨o, es, ep, e, d, _⟩ := hm2
    exact ⟨o, es, ep, e, d⟩
  obtain ⟨K, KX, fd, CA, cs, T0, hT, nT, hC, bd, G1⟩ := G0 w mg fa _ Y G.T.g hm
  exact law_endT KX G.T.g G.T.b G.T.builtins G.T.nolimit gens ha his hl hr hF sm hT nT hC G.T.bmain T0 G1 bd
end CM
namespace CM
open PySem PySem.Spec PyProof.Rows L2
section
variable {α β : Type} {a : α} {h : CH} {c : Nat} {fs : List (Str × D)} {f : α → CH → R β} {g : α → CH → RS} {ρ : DE} {w : SD} {d : D}
@[simp] theorem bind_ok : (R.ok a h).bind f = f a h := rfl
@[simp] theorem bind_ex : (R.ex c fs h : R α).bind f = .ex c fs h := rfl
@[simp] theorem bind_no : (R.no : R α).bind f = .no := rfl
@[simp] theorem calm_ok : (R.ok a h).calm f = f a h := rfl
@[simp] theorem calm_no : (R.no : R α).calm f = .no := rfl
@[simp] theorem toS_ok : (R.ok a h).toS ρ g = g a h := rfl
@[simp] theorem toS_ex : (R.ex c fs h : R α).toS ρ g = .ex ρ c fs h := rfl
@[simp] theorem toS_no : (R.no : R α).toS ρ g = .no := rfl
@[simp] theorem sbind_nx : (RS.nx ρ h).bind w = w ρ h := rfl
@[simp] theorem sbind_rt : (RS.rt d h).bind w = .rt d h := rfl
@[simp] theorem sbind_bk : (RS.bk ρ h).bind w = .bk ρ h := rfl
@[simp] theorem sbind_ct : (RS.ct ρ h).bind w = .ct ρ h := rfl
@[simp] theorem sbind_ex : (RS.ex ρ c fs h).bind w = .ex ρ c fs h := rfl
@[simp] theorem sbind_no : (RS.no).bind w = .no := rfl
@[simp] theorem res_nx : (RS.nx ρ h).res = .ok .non h := rfl
@[simp] theorem res_rt : (RS.rt d h).res = .ok d h := rfl
@[simp] theorem res_ex : (RS.ex ρ c fs h).res = .ex c fs h := rfl
@[simp] theorem put_ok {ρ : DE} {k : SD} : (R.ok ρ h).put k = k ρ h := rfl
@[simp] theorem unl_nx : (RS.nx ρ h).unl none = .nx ρ h := rfl
@[simp] theorem unl_none {r : RS} : r.unl none = r := by cases r <;> rfl
@[simp] theorem runl_none {r : R α} : r.unl none = r := by cases r <;> rfl
end
section
variable {ta tb tc : TD} {ts : TDs} {t u : TB} {ρ : DE} {h : CH} {d : D} {f : F2} {f1 : F1} {F : FD} {FMm : FM} {n i : Nat} {nm : Bool} {T : String}
@[simp] theorem e_C : dC d ρ h = .ok d h := rfl
@[simp] theorem e_op : dOp f ta tb ρ h = (ta ρ h).bind fun x h => (tb ρ h).bind fun y h => f x y h := rfl
@[simp] theorem e_un : dUn f1 ta ρ h = (ta ρ h).bind f1 := rfl
@[simp] theorem e_nil : dNil ρ h = .ok [] h := rfl
@[simp] theorem e_cons : dCons ta ts ρ h = (ta ρ h).bind fun x h => (ts ρ h).bind fun xs h => .ok (x :: xs) h := rfl
@[simp] theorem e_tup : dTup ts ρ h = (ts ρ h).bind fun xs h => if xs.length ≤ sizeLine then .ok (.tup xs) h else .no := rfl
@[simp] theorem e_lst : dLst nm ts ρ h = (ts ρ h).bind fun xs h => if xs.length ≤ sizeLine then mkL nm xs h else .no := rfl
@[simp] theorem e_B : dB ta ρ h = (ta ρ h).bind asB := rfl
@[simp] theorem e_and : dAnd t u ρ h = (t ρ h).bind fun c h => if c = true then u ρ h else .ok false h := rfl
@[simp] theorem e_or : dOr t u ρ h = (t ρ h).bind fun c h => if c = true then .ok true h else u ρ h := rfl
@[simp] theorem e_not : dNot t ρ h = (t ρ h).bind fun c h => .ok (!c) h := rfl
@[simp] theorem e_andV : dAndV ta tb ρ h = (ta ρ h).bind fun x h => (asB x h).bind fun c h => if c = true then tb ρ h else .ok (.bl false) h := rfl
@[simp] theorem e_orV : dOrV ta tb ρ h = (ta ρ h).bind fun x h => (asB x h).bind fun c h => if c = true then .ok (.bl true) h else tb ρ h := rfl
@[simp] theorem e_notV : dNotV ta ρ h = (ta ρ h).bind fun x h => (asB x h).bind fun c h => .ok (.bl (!c)) h := rfl
@[simp] theorem e_if : dIf t ta tb ρ h = (t ρ h).bind fun c h => if c = true then ta ρ h else tb ρ h := rfl
@[simp] theorem e_CB : dCB F ts ρ h = (ts ρ h).bind F := rfl
@[simp] theorem e_call : dCall n F ts ρ h = (ts ρ h).bind fun ds h => if ds.length = n then F ds h else .no := rfl
@[simp] theorem asB_bl {b : Bool} : asB (.bl b) h = .ok b h := rfl
@[simp] theorem e_var : dVar i ρ h = match ρ[i]? with
  | some (some d) => .ok d h
  | _ => .no := rfl
@[simp] theorem e_BM : dBM T FMm ta ts ρ h = (ta ρ h).bind fun x h => if isTy T x h = true then (ts ρ h).bind fun xs h => FMm x xs h else .no := rfl
@[simp] theorem e_BM0 : dBM0 T FMm ta ρ h = (ta ρ h).bind fun x h => if isTy T x h = true then FMm x [] h else .no := rfl
end
section
variable {ta : TD} {tg : TGD} {tgs : TGDs} {u w : SD} {ρ : DE} {h : CH} {t : TB} {ts : TDs} {i j : Nat} {d : D} {ds : List D} {N : Nat} {ti : TDw}
@[simp] theorem s_next : dNext ρ h = .nx ρ h := rfl
@[simp] theorem s_seq : dSeq u w ρ h = (u ρ h).bind w := rfl
@[simp] theorem s_if : dIfS t u w ρ h = (t ρ h).toS ρ fun b h => if b = true then u ρ h else w ρ h := rfl
@[simp] theorem s_ret : dRet ta ρ h = (ta ρ h).toS ρ fun d h => .rt d h := rfl
@[simp] theorem s_cont : dCont ρ h = .ct ρ h := rfl
@[simp] theorem s_drop : dDrop ta ρ h = (ta ρ h).toS ρ fun _ h => .nx ρ h := rfl
@[simp] theorem s_asg : dAsg ta tg ρ h = (ta ρ h).toS ρ fun d h => (tg d ρ h).put fun ρ h => .nx ρ h := rfl
@[simp] theorem s_par : dPar i j ts ρ h = (ts ρ h).toS ρ fun ds h => match ds with
  | [x, y] => .nx ((ρ.set i (some x)).set j (some y)) h
  | _ => .no := rfl
@[simp] theorem g_name : gdName i d ρ h = .ok (ρ.set i (some d)) h := rfl
@[simp] theorem s_for : dFor ti tg u ρ h = (ti ρ h).toS ρ fun w h => (dForL tg u w.1 ρ h).unl w.2 := rfl
@[simp] theorem e_seqI : dSeqI ta ρ h = (ta ρ h).bind fun d h => match itemsD h d with
  | some ds => .ok (ds, none) h
  | none => lockD d h := rfl
end
def Fr (S : List Nat) (h h' : CH) : Prop := h.nx ≤ h'.nx ∧ ∀ k, k < h.nx → k ∉ S → h'.ob k = h.ob k
theorem Fr.refl {S : List Nat} {h : CH} : Fr S h h := ⟨Nat.le_refl _, fun _ _ _ => rfl⟩
theorem Fr.trans {S : List Nat} {h h1 h2 : CH} (a : Fr S h h1) (b : Fr S h1 h2) : Fr S h h2 := ⟨Nat.le_trans a.1 b.1, fun k l n => (b.2 k (Nat.lt_of_lt_of_le l a.1) n).trans (a.2 k l n)⟩
theorem s_wc : ("wide" : Str) ≠ "cells" := by decide +kernel
theorem s_wr : ("wide" : Str) ≠ "rest" := by decide +kernel
theorem s_wt : ("wide" : Str) ≠ "turn" := by decide +kernel
theorem s_cr : ("cells" : Str) ≠ "rest" := by decide +kernel
theorem s_ct : ("cells" : Str) ≠ "turn" := by decide +kernel
theorem s_rt : ("rest" : Str) ≠ "turn" := by decide +kernel
def drKvs (w : Nat) (cs : List Int) (x t : Int) : List (Key × D) := [(.inr "wide", .ref w), (.inr "cells", .lst (cs.map D.int)), (.inr "rest", .int x), (.inr "turn", .int t)]
section
variable {w : Nat} {cs : List Int} {x t z : Int}
theorem dr_wide : dGet (drKvs w cs x t) (.inr "wide") = some (.ref w) := by simp [dGet, drKvs]
theorem dr_cells : dGet (drKvs w cs x t) (.inr "cells") = some (.lst (cs.map D.int)) := by simp [dGet, drKvs, s_wc]
theorem dr_rest : dGet (drKvs w cs x t) (.inr "rest") = some (.int x) := by simp [dGet, drKvs, s_wr, s_cr]
theorem dr_turn : dGet (drKvs w cs x t) (.inr "turn") = some (.int t) := by simp [dGet, drKvs, s_wt, s_ct, s_rt]
theorem dr_putR : dPut (drKvs w cs x t) (.inr "rest") (.int z) = drKvs w cs z t := by simp [dPut, drKvs, s_wr, s_cr, s_rt.symm]
theorem dr_putT : dPut (drKvs w cs x t) (.inr "turn") (.int z) = drKvs w cs x z := by simp [dPut, drKvs, s_wt, s_ct, s_rt]
end
structure DrawAt (r w : Nat) (n : Nat) (ws cs : List Int) (x t : Int) (h : CH) : Prop where
  or_ : h.ob r = some (.dct (drKvs w cs x t))
  ow : h.ob w = some (.lst (ws.map D.int))
  ne : r ≠ w
  lr : r < h.nx
  lw : w < h.nx
  cs_ : ∀ c, c ∈ cs → 0 ≤ c ∧ c < 2147483629
  lws : ws.length ≤ 63
  lcs : cs.length ≤ 63
  t0 : 0 ≤ t
  tn : t + (n : Int) ≤ 1000000000
def DrawOk (r w n : Nat) (h : CH) : Prop := ∃ ws cs x t, DrawAt r w n ws cs x t h
def u__law_begun : SD := dSeq (dAsg (dLc true (dSeqI (dVar 0)) (gdName 2) (dB (dOp (fB fun i j => decide (i ≥ j)) (dCB fAbs (dCons (dVar 2) (dNil))) (dOp fPow (dC (.int 10)) (dC (.int 18))))) (dOp fSubI (dCB fAbs (dCons (dVar 2) (dNil))) (dOp fPow (dC (.int 10)) (dC (.int 18)))) [2]) (gdName 1)) (dRet (dDisp true [(dC (.str "wide"), dVar 1), (dC (.str "cells"), dLc false (dSeqI (dVar 0)) (gdName 2) (dYes) (dOp fMod (dCB fInt (dCons (dCB fAbs (dCons (dVar 2) (dNil))) (dNil))) (dC (.int 2147483629))) [2]), (dC (.str "rest"), dC (.int 0)), (dC (.str "turn"), dC (.int 0))]))
def F__law_begun : FD := bodyF 3 u__law_begun
def u__law_mixed : SD := dSeq (dPar 1 2 (dCons (dOp (fAdd false) (dOp fIx (dVar 0) (dC (.str "turn"))) (dC (.int 1))) (dCons (dC (.int 0)) (dNil)))) (dSeq (dAsg (dVar 1) (gdSub (dVar 0) (dC (.str "turn")))) (dSeq (dFor (dSeqI (dLst false (dCons (dC (.int 2147483629)) (dCons (dC (.int 2147483587)) (dCons (dC (.int 2147483579)) (dCons (dC (.int 2147483563)) (dNil))))))) (gdName 3) (dSeq (dAsg (dOp (fAdd false) (dOp (fMul false) (dC (.int 61441)) (dVar 1)) (dOp fDiv (dVar 3) (dC (.int 19)))) (gdName 4)) (dSeq (dFor (dSeqI (dOp fIx (dVar 0) (dC (.str "cells")))) (gdName 5) (dAsg (dOp fMod (dCB fInt (dCons (dOp (fAdd false) (dOp (fAdd false) (dOp (fMul false) (dVar 4) (dC (.int 48271))) (dVar 5)) (dVar 1)) (dNil))) (dVar 3)) (gdName 4))) (dAsg (dOp (fAdd false) (dOp (fMul false) (dVar 2) (dC (.int 2147483647))) (dOp fMod (dCB fInt (dCons (dOp fPow (dVar 4) (dC (.int 5))) (dNil))) (dVar 3))) (gdName 2))))) (dRet (dVar 2))))
def F__law_mixed : FD := bodyF 6 u__law_mixed
def u__law_take : SD := dSeq (dIfS (dB (dOp (fEq false) (dOp fIx (dVar 0) (dC (.str "rest"))) (dC (.int 0)))) (dAsg (dIf (dB (dOp (fEq true) (dOp fIx (dVar 0) (dC (.str "wide"))) (dLst false (dNil)))) (dBM "list" fPopAt (dOp fIx (dVar 0) (dC (.str "wide"))) (dCons (dC (.int 0)) (dNil))) (dCall 1 F__law_mixed (dCons (dVar 0) (dNil)))) (gdSub (dVar 0) (dC (.str "rest")))) (dNext)) (dSeq (dAsg (dOp fMod (dCB fInt (dCons (dOp fIx (dVar 0) (dC (.str "rest"))) (dNil))) (dVar 1)) (gdName 2)) (dSeq (dAsg (dOp fDiv (dOp fIx (dVar 0) (dC (.str "rest"))) (dVar 1)) (gdSub (dVar 0) (dC (.str "rest")))) (dRet (dVar 2))))
def F__law_take : FD := bodyF 3 u__law_take
def u__law_pick : SD := dRet (dOp fIx (dVar 1) (dCall 2 F__law_take (dCons (dVar 0) (dCons (dCB fLen (dCons (dVar 1) (dNil))) (dNil)))))
def F__law_pick : FD := bodyF 2 u__law_pick
section
variable {r w n : Nat} {ws cs : List Int} {x t : Int} {h : CH}
abbrev mixBody : SD := dAsg (dOp fMod (dCB fInt (dCons (dOp (fAdd false) (dOp (fAdd false) (dOp (fMul false) (dVar 4) (dC (.int 48271))) (dVar 5)) (dVar 1)) (dNil))) (dVar 3)) (gdName 4)
theorem mix_in {d0 f : D} {tn p : Int} (hp : 0 < p) : ∀ (cs : List Int) (b : Int) (y : Option D), ∃ (b' : Int) (y' : Option D), dForL (gdName 5) mixBody (cs.map D.int) [some d0, some (.int tn), some f, some (.int p), some (.int b), y] h = .nx [some d0, some (.int tn), some f, some (.int p), some (.int b'), y'] h ∧ ((cs = [] ∧ b' = b) ∨ (0 ≤ b' ∧ b' < p))
  | [], b, y => ⟨b, y, rfl, .inl ⟨rfl, rfl⟩⟩
  | c :: cs, b, y => by
    obtain ⟨b', y', e, q⟩ := mix_in hp cs ((b * 48271 + c + tn) % p) (some (.int c))
    refine ⟨b', y', ?_, .inr ?_⟩
    · have cm : CMul b 48271 := .inr ⟨by decide, by decide⟩
      simp only [List.map_cons, dForL]
      simp [fMul, fAdd, fInt, fMod, hp, cm]
      exact e
    · rcases q with ⟨_, rfl⟩ | q
      · exact ⟨Int.emod_nonneg _ (by omega), Int.emod_lt_of_pos _ hp⟩
      · exact q
theorem ix_dr {k : Key} {d : D} {kd : D} (hk : keyD kd = some k) (e : h.ob r = some (.dct (drKvs w cs x t))) (g : dGet (drKvs w cs x t) k = some d) (ni : ∀ i, kd ≠ .int i) : fIx (.ref r) kd h = .ok d h := by
  cases kd with
  | str z => cases hk; simp [fIx, seqOf, dctOf, e, keyD, g]
  | _ => first | (cases hk; done) | exact absurd rfl (ni _)
abbrev outBody : SD := dSeq (dAsg (dOp (fAdd false) (dOp (fMul false) (dC (.int 61441)) (dVar 1)) (dOp fDiv (dVar 3) (dC (.int 19)))) (gdName 4)) (dSeq (dFor (dSeqI (dOp fIx (dVar 0) (dC (.str "cells")))) (gdName 5) mixBody) (dAsg (dOp (fAdd false) (dOp (fMul false) (dVar 2) (dC (.int 2147483647))) (dOp fMod (dCB fInt (dCons (dOp fPow (dVar 4) (dC (.int 5))) (dNil))) (dVar 3))) (gdName 2)))
theorem mix_one {f p tn : Int} {y4 y5 : Option D} (e : h.ob r = some (.dct (drKvs w cs x t))) (hp : 0 < p) (hp2 : p < 2147483648) (h1 : 0 ≤ tn) (h2 : tn ≤ 1000000000) :
    ∃ (f' : Int) (y4' y5' : Option D), outBody [some (.ref r), some (.int tn), some (.int f), some (.int p), y4, y5] h = .nx [some (.ref r), some (.int tn), some (.int f'), some (.int p), y4', y5'] h := by
  obtain ⟨b', y', ei, q⟩ := mix_in (h := h) (d0 := .ref r) (f := .int f) (tn := tn) hp cs (61441 * tn + p / 19) y5
  have c1 : CMul 61441 tn := .inl ⟨by decide, by decide⟩
  have c2 : CDiv p 19 := ⟨by decide, by decide⟩
  have c3 : CMul f 2147483647 := .inr ⟨by decide, by decide⟩
  have c4 : CPow b' 5 := by
    refine ⟨by decide, by decide, ?_⟩
    rcases q with ⟨_, rfl⟩ | q <;> omega
  have ic := ix_dr (kd := .str "cells") rfl e dr_cells (fun i => by simp)
  refine ⟨f * 2147483647 + b' ^ (5 : Int).toNat % p, some (.int b'), y', ?_⟩
  simp [outBody, c1, c2, fMul, fAdd, fDiv, ic, itemsD]
  rw [ei]
  simp [c3, c4, fMul, fAdd, fPow, fInt, fMod, hp]
theorem mixed_ok (A : DrawAt r w (n + 1) ws cs x t h) : ∃ v : Int, F__law_mixed [.ref r] h = .ok (.int v) (h.put r (.dct (drKvs w cs x (t + 1)))) := by
  have it := ix_dr (kd := .str "turn") rfl A.or_ dr_turn (fun i => by simp)
  have tn := A.tn
  have t0 := A.t0
  have e1 : (h.put r (.dct (drKvs w cs x (t + 1)))).ob r = some (.dct (drKvs w cs x (t + 1))) := put_same
  obtain ⟨f1, y1, z1, q1⟩ := mix_one (f := 0) (p := 2147483629) (tn := t + 1) (y4 := none) (y5 := none) e1 (by decide) (by decide) (by omega) (by omega)
  obtain ⟨f2, y2, z2, q2⟩ := mix_one (f := f1) (p := 2147483587) (tn := t + 1) (y4 := y1) (y5 := z1) e1 (by decide) (by decide) (by omega) (by omega)
  obtain ⟨f3, y3, z3, q3⟩ := mix_one (f := f2) (p := 2147483579) (tn := t + 1) (y4 := y2) (y5 := z2) e1 (by decide) (by decide) (by omega) (by omega)
  obtain ⟨f4, y4, z4, q4⟩ := mix_one (f := f3) (p := 2147483563) (tn := t + 1) (y4 := y3) (y5 := z3) e1 (by decide) (by decide) (by omega) (by omega)
  refine ⟨f4, ?_⟩
  have kl : (drKvs w cs x t).length < sizeLine := by show 4 < sizeLine; decide
  have l4 : 4 ≤ sizeLine := by decide
  have L : dForL (gdName 3) outBody [.int 2147483629, .int 2147483587, .int 2147483579, .int 2147483563] [some (.ref r), some (.int (t + 1)), some (.int 0), none, none, none] (h.put r (.dct (drKvs w cs x (t + 1)))) = .nx [some (.ref r), some (.int (t + 1)), some (.int f4), some (.int 2147483563), y4, z4] (h.put r (.dct (drKvs w cs x (t + 1)))) := by
    simp only [dForL, g_name, put_ok, List.set_cons_zero, List.set_cons_succ]
    rw [q1]
    simp only [List.set_cons_zero, List.set_cons_succ]
    rw [q2]
    simp only [List.set_cons_zero, List.set_cons_succ]
    rw [q3]
    simp only [List.set_cons_zero, List.set_cons_succ]
    rw [q4]
  simp only [F__law_mixed, bodyF, startD, u__law_mixed]
  simp [it, fAdd, gdSub, refOf, A.or_, keyD, kl, dr_putT, mkL, itemsD, l4]
  rw [L]
  simp
theorem toP_ints {k : Nat} : ∀ ns : List Int, (ns.map D.int).mapM (toP h (k + 1)) = some (ns.map PyData.int)
  | [] => rfl
  | n :: ns => by
    rw [List.map_cons, List.mapM_cons, toP_ints ns]
    rfl
theorem toP_ref {k n : Nat} {xs : List D} (e : h.ob k = some (.lst xs)) : toP h (n + 1) (.ref k) = (xs.mapM (toP h n)).map .list := by simp only [toP, e]
theorem lay_ints : ∀ ns : List Int, PyData.canLayAll0 (ns.map PyData.int) = true
  | [] => rfl
  | n :: ns => by simp only [List.map_cons, PyData.canLayAll0, PyData.canLay0, lay_ints ns, Bool.and_self]
theorem dep_ints : ∀ ns : List Int, PyData.depthAll (ns.map PyData.int) = 0
  | [] => rfl
  | n :: ns => by simp only [List.map_cons, PyData.depthAll, PyData.depth, dep_ints ns]; rfl
theorem shaped_ints (ns : List Int) : SeqAt.shaped (.list (ns.map PyData.int)) = true := by
  simp only [SeqAt.shaped, PyData.canLay0, lay_ints, PyData.depth, dep_ints, Bool.true_and]
  decide
theorem ne_nil_ints {k : Nat} (e : h.ob k = some (.lst (ws.map D.int))) : fEq true (.ref k) (.lst []) h = .ok (.bl (!ws.isEmpty)) h := by
  have e1 : toP h 10 (.ref k) = some (.list (ws.map PyData.int)) := by
    rw [toP_ref (n := 9) e, toP_ints (h := h) (k := 8) ws]
    rfl
  have e2 : toP h 10 (.lst []) = some (.list []) := rfl
  have e3 : SeqAt.shaped (.list []) = true := shaped_ints []
  have e4 : PyData.eqv (.list (ws.map PyData.int)) (.list []) = ws.isEmpty := by
    cases ws with
    | nil => rfl
    | cons a l => rfl
  have e5 : scalD (.ref k) (.lst []) = false := rfl
  unfold fEq
  rw [e5, e1, e2]
  simp [shaped_ints, e3, e4, bneg]
theorem eq0_int {i j : Int} : fEq false (.int i) (.int j) h = .ok (.bl (i == j)) h := by simp [fEq, scalD, flatD, eqF, bneg]
def DrFr (r w : Nat) (h h' : CH) : Prop := h'.nx = h.nx ∧ ∀ k, k ≠ r → k ≠ w → h'.ob k = h.ob k
theorem DrFr.refl : DrFr r w h h := ⟨rfl, fun _ _ _ => rfl⟩
theorem DrFr.trans {h1 h2 : CH} (a : DrFr r w h h1) (b : DrFr r w h1 h2) : DrFr r w h h2 := ⟨b.1.trans a.1, fun k n m => (b.2 k n m).trans (a.2 k n m)⟩
theorem DrFr.putR {o : MO} : DrFr r w h (h.put r o) := ⟨rfl, fun k n _ => put_ne n⟩
theorem DrFr.putW {o : MO} : DrFr r w h (h.put w o) := ⟨rfl, fun k _ n => put_ne n⟩
theorem DrawAt.setR {x' t' : Int} {m : Nat} (A : DrawAt r w n ws cs x t h) (t0 : 0 ≤ t') (tn : t' + (m : Int) ≤ 1000000000) : DrawAt r w m ws cs x' t' (h.put r (.dct (drKvs w cs x' t'))) :=
  ⟨put_same, by rw [put_ne A.ne.symm]; exact A.ow, A.ne, A.lr, A.lw, A.cs_, A.lws, A.lcs, t0, tn⟩
theorem take_first (A : DrawAt r w (n + 1) ws cs x t h) {s : Int} : ∃ (ws' : List Int) (x' t' : Int) (h' : CH), (dIfS (dB (dOp (fEq false) (dOp fIx (dVar 0) (dC (.str "rest"))) (dC (.int 0)))) (dAsg (dIf (dB (dOp (fEq true) (dOp fIx (dVar 0) (dC (.str "wide"))) (dLst false (dNil)))) (dBM "list" fPopAt (dOp fIx (dVar 0) (dC (.str "wide"))) (dCons (dC (.int 0)) (dNil))) (dCall 1 F__law_mixed (dCons (dVar 0) (dNil)))) (gdSub (dVar 0) (dC (.str "rest")))) (dNext)) [some (.ref r), some (.int s), none] h = .nx [some (.ref r), some (.int s), none] h' ∧ DrawAt r w n ws' cs x' t' h' ∧ DrFr r w h h' := by
  have ir := ix_dr (kd := .str "rest") rfl A.or_ dr_rest (fun i => by simp)
  have iw := ix_dr (kd := .str "wide") rfl A.or_ dr_wide (fun i => by simp)
  have kl : ∀ y z, (drKvs w cs y z).length < sizeLine := fun y z => by show 4 < sizeLine; decide
  have A1 : DrawAt r w n ws cs x t h := ⟨A.or_, A.ow, A.ne, A.lr, A.lw, A.cs_, A.lws, A.lcs, A.t0, by have := A.tn; omega⟩
  by_cases hx : x = 0
  · cases ws with
    | nil =>
      obtain ⟨v, ev⟩ := mixed_ok A
      have A2 : DrawAt r w n [] cs x (t + 1) (h.put r (.dct (drKvs w cs x (t + 1)))) := A.setR (by have := A.t0; omega) (by have := A.tn; omega)
      refine ⟨[], v, t + 1, _, ?_, A2.setR A2.t0 A2.tn, DrFr.putR.trans DrFr.putR⟩
      simp [ir, iw, eq0_int, hx, ne_nil_ints A.ow, mkL]
      have ev' := ev
      rw [hx] at ev'
      rw [ev']
      simp [gdSub, refOf, keyD, put_same, kl, dr_putR]
    | cons a ws =>
      have e1 : h.ob w = some (.lst (D.int a :: ws.map D.int)) := A.ow
      have ne := A.ne
      have o1 : (h.put w (.lst (ws.map D.int))).ob r = some (.dct (drKvs w cs x t)) := by rw [put_ne ne]; exact A.or_
      refine ⟨ws, a, t, (h.put w (.lst (ws.map D.int))).put r (.dct (drKvs w cs a t)), ?_, ⟨put_same, by rw [put_ne ne.symm]; exact put_same, ne, A.lr, A.lw, A.cs_, Nat.le_of_succ_le A.lws, A.lcs, A.t0, A1.tn⟩, DrFr.putW.trans DrFr.putR⟩
      have si : seqIndex? 0 (ws.length + 1) = some 0 := by simp [seqIndex?]
      simp [ir, iw, eq0_int, hx, ne_nil_ints A.ow, mkL, isTy, lstOf, fPopAt, e1, si]
      rw [hx] at o1
      simp [gdSub, refOf, keyD, o1, kl, dr_putR]
  · refine ⟨ws, x, t, h, ?_, A1, .refl⟩
    simp [ir, eq0_int, hx]
theorem take_ok (A : DrawOk r w (n + 1) h) {s : Int} (hs : 0 < s) (hs2 : s < 1073741824) : ∃ (v : Int) (h' : CH), F__law_take [.ref r, .int s] h = .ok (.int v) h' ∧ 0 ≤ v ∧ v < s ∧ DrawOk r w n h' ∧ DrFr r w h h' := by
  obtain ⟨ws, cs, x, t, A⟩ := A
  obtain ⟨ws', x', t', h1, e1, A1, f1⟩ := take_first A (s := s)
  have ir := ix_dr (kd := .str "rest") rfl A1.or_ dr_rest (fun i => by simp)
  have kl : ∀ y z, (drKvs w cs y z).length < sizeLine := fun y z => by show 4 < sizeLine; decide
  have cd : CDiv x' s := ⟨hs, hs2⟩
  refine ⟨x' % s, h1.put r (.dct (drKvs w cs (x' / s) t')), ?_, Int.emod_nonneg _ (by omega), Int.emod_lt_of_pos _ hs, ⟨ws', cs, _, t', A1.setR A1.t0 A1.tn⟩, f1.trans DrFr.putR⟩
  simp only [F__law_take, bodyF, startD, u__law_take]
  rw [s_seq]
  show ((_ : RS).bind _).res = _
  simp only [List.map_cons, List.map_nil, List.length_cons, List.length_nil, List.cons_append, List.nil_append]
  show (((dIfS _ _ _) [some (D.ref r), some (D.int s), none] h).bind _).res = _
  rw [e1]
  simp [ir, fInt, fMod, hs, fDiv, cd, gdSub, refOf, A1.or_, keyD, kl, dr_putR]
theorem pick_ok (A : DrawOk r w (n + 1) h) {xs : D} {ds : List D} (e : xs = .lst ds ∨ xs = .tup ds) (h0 : ds ≠ []) (h1 : ds.length < 1073741824) : ∃ (d : D) (h' : CH), F__law_pick [.ref r, xs] h = .ok d h' ∧ d ∈ ds ∧ DrawOk r w n h' ∧ DrFr r w h h' := by
  have hp : 0 < ds.length := List.length_pos_iff.mpr h0
  obtain ⟨v, h', e1, l1, l2, A', f⟩ := take_ok A (s := (ds.length : Int)) (by omega) (by omega)
  have sq : ∀ hh, seqOf hh xs = some ds := fun hh => by rcases e with rfl | rfl <;> rfl
  have hv : v.toNat < ds.length := by omega
  have ai : atI ds v = some ds[v.toNat] := by
    have : ixN ds.length v = some v.toNat := by
      unfold ixN
      rw [if_pos (by omega), if_pos l2]
    unfold atI
    rw [this]
    exact List.getElem?_eq_getElem hv
  refine ⟨ds[v.toNat], h', ?_, List.getElem_mem hv, A', f⟩
  have len : fLen [xs] h = .ok (.int ds.length) h := by
    rcases e with rfl | rfl <;> rfl
  have ix : fIx xs (.int v) h' = .ok ds[v.toNat] h' := by
    rcases e with rfl | rfl <;> simp [fIx, seqOf, ai]
  simp [F__law_pick, bodyF, startD, u__law_pick, len, e1, ix]
theorem b1_loop {a : D} : ∀ ns : List Int, ∃ ws : List Int, ws.length ≤ ns.length ∧ dLcL (gdName 2) (dB (dOp (fB fun i j => decide (i ≥ j)) (dCB fAbs (dCons (dVar 2) (dNil))) (dOp fPow (dC (.int 10)) (dC (.int 18))))) (dOp fSubI (dCB fAbs (dCons (dVar 2) (dNil))) (dOp fPow (dC (.int 10)) (dC (.int 18)))) [some a, none, none] (ns.map D.int) h = .ok (ws.map D.int) h
  | [] => ⟨[], Nat.le_refl _, rfl⟩
  | c :: ns => by
    obtain ⟨ws, l, e⟩ := b1_loop ns
    have cp : CPow 10 18 := by decide
    by_cases q : (if c < 0 then -c else c) ≥ 10 ^ (18 : Int).toNat
    · refine ⟨((if c < 0 then -c else c) - 10 ^ (18 : Int).toNat) :: ws, by simp; exact l, ?_⟩
      simp only [List.map_cons, dLcL]
      simp only [g_name, calm_ok, e_B, e_op, e_CB, e_cons, e_var, e_nil, e_C, List.set_cons_zero, List.set_cons_succ, List.getElem?_cons_zero, List.getElem?_cons_succ, bind_ok, fAbs, fPow, fB, if_pos cp, asB_bl, decide_eq_true q, if_true, fSubI]
      rw [e]
      rfl
    · refine ⟨ws, Nat.le_succ_of_le l, ?_⟩
      simp only [List.map_cons, dLcL]
      simp only [g_name, calm_ok, e_B, e_op, e_CB, e_cons, e_var, e_nil, e_C, List.set_cons_zero, List.set_cons_succ, List.getElem?_cons_zero, List.getElem?_cons_succ, bind_ok, fAbs, fPow, fB, if_pos cp, asB_bl, decide_eq_false q, Bool.false_eq_true, if_false]
      exact e
theorem b2_loop {a b : D} : ∀ ns : List Int, ∃ cs : List Int, cs.length = ns.length ∧ (∀ c, c ∈ cs → 0 ≤ c ∧ c < 2147483629) ∧ dLcL (gdName 2) dYes (dOp fMod (dCB fInt (dCons (dCB fAbs (dCons (dVar 2) (dNil))) (dNil))) (dC (.int 2147483629))) [some a, some b, none] (ns.map D.int) h = .ok (cs.map D.int) h
  | [] => ⟨[], rfl, fun _ h => (nomatch h), rfl⟩
  | c :: ns => by
    obtain ⟨cs, l, hc, e⟩ := b2_loop ns
    refine ⟨((if c < 0 then -c else c) % 2147483629) :: cs, by simp [l], fun y hy => ?_, ?_⟩
    · rcases List.mem_cons.mp hy with rfl | hy
      · exact ⟨Int.emod_nonneg _ (by decide), Int.emod_lt_of_pos _ (by decide)⟩
      · exact hc y hy
    · simp only [List.map_cons, dLcL, dYes]
      simp only [g_name, calm_ok, e_op, e_CB, e_cons, e_var, e_nil, e_C, List.set_cons_zero, List.set_cons_succ, List.getElem?_cons_zero, List.getElem?_cons_succ, bind_ok, fAbs, fInt, fMod, if_true, show ((0 : Int) < 2147483629) from by decide]
      rw [e]
      rfl
theorem begun_ok {ns : List Int} (hn : ns.length ≤ 63) : ∃ h', F__law_begun [.scr ns] h = .ok (.ref (h.nx + 1)) h' ∧ DrawOk (h.nx + 1) h.nx 1000000000 h' ∧ h'.nx = h.nx + 2 ∧ ∀ k, k < h.nx → h'.ob k = h.ob k := by
  obtain ⟨ws, lw, e1⟩ := b1_loop (h := h) (a := .scr ns) ns
  obtain ⟨cs, lc, hc, e2⟩ := b2_loop (h := h.new (.lst (ws.map D.int))) (a := .scr ns) (b := .ref h.nx) ns
  have sz : ns.length ≤ sizeLine := Nat.le_trans hn (by decide)
  refine ⟨(h.new (.lst (ws.map D.int))).new (.dct (drKvs h.nx cs 0 0)), ?_, ⟨ws, cs, 0, 0, ?_, ?_, by omega, by show h.nx + 1 < h.nx + 2; omega, by show h.nx < h.nx + 2; omega, hc, by omega, by omega, by decide, by decide⟩, rfl, fun k hk => ?_⟩
  · simp only [F__law_begun, bodyF, startD, u__law_begun]
    have i1 : itemsD h (.scr ns) = some (ns.map D.int) := rfl
    have i2 : itemsD (h.new (.lst (ws.map D.int))) (.scr ns) = some (ns.map D.int) := rfl
    have me : mergeD [] (drKvs h.nx cs 0 0) = drKvs h.nx cs 0 0 := by simp [mergeD, dPut, drKvs, s_wc, s_wr, s_wt, s_cr, s_ct, s_rt]
    simp only [List.map_cons, List.map_nil, List.length_cons, List.length_nil, List.cons_append, List.nil_append, s_seq, s_asg, dLc, e_seqI, e_var, List.getElem?_cons_zero, bind_ok, i1, List.length_map, if_pos sz, wipeD, List.replicate, List.set_cons_zero, List.set_cons_succ, e1, runl_none, mkL, toS_ok, g_name, put_ok, sbind_nx, s_ret, dDisp, dPairs, e_C, List.getElem?_cons_succ, i2, e2, keysOf, keyD]
    show ((if 4 ≤ 15 then mkD true (mergeD [] (drKvs h.nx cs 0 0)) _ else R.no).toS _ _).res = _
    rw [me]
    rfl
  · show (if h.nx + 1 = h.nx + 1 then _ else _) = _
    rw [if_pos rfl]
  · show (if h.nx = h.nx + 1 then _ else (if h.nx = h.nx then _ else _)) = _
    rw [if_neg (by omega), if_pos rfl]
  · show (if k = h.nx + 1 then _ else (if k = h.nx then _ else _)) = _
    rw [if_neg (by omega), if_neg (by omega)]
end
def R.sat {α : Type} (r : R α) (Q : α → CH → Prop) : Prop := match r with
  | .ok a h => Q a h
  | _ => False
def RS.sat (r : RS) (N : DE → CH → Prop) (T : D → CH → Prop) : Prop := match r with
  | .nx ρ h => N ρ h
  | .rt d h => T d h
  | _ => False
def Kont (w : SD) (N : DE → CH → Prop) (T : D → CH → Prop) (ρ : DE) (h : CH) : Prop := (w ρ h).sat N T
section
variable {α β : Type} {a : α} {h : CH} {m : R α} {f : α → CH → R β} {g : α → CH → RS} {ρ : DE} {w u : SD} {d : D} {Q : β → CH → Prop} {P P' : α → CH → Prop} {N : DE → CH → Prop} {T : D → CH → Prop} {r : RS}
@[simp] theorem sat_ok : (R.ok a h).sat P = P a h := rfl
@[simp] theorem sat_no : (R.no : R α).sat P = False := rfl
@[simp] theorem sat_bind : (m.bind f).sat Q = m.sat fun a h => (f a h).sat Q := by cases m <;> rfl
@[simp] theorem sat_calm : (m.calm f).sat Q = m.sat fun a h => (f a h).sat Q := by cases m <;> rfl
@[simp] theorem sat_toS : (m.toS ρ g).sat N T = m.sat fun a h => (g a h).sat N T := by cases m <;> rfl
@[simp] theorem sat_put {m : R DE} : (m.put w).sat N T = m.sat fun ρ h => (w ρ h).sat N T := by cases m <;> rfl
@[simp] theorem sat_ite {c : Prop} [Decidable c] {m m' : R α} : (if c then m else m').sat P = if c then m.sat P else m'.sat P := by split <;> rfl
@[simp] theorem sat_iteS {c : Prop} [Decidable c] {r' : RS} : (if c then r else r').sat N T = if c then r.sat N T else r'.sat N T := by split <;> rfl
@[simp] theorem sat_nx : (RS.nx ρ h).sat N T = N ρ h := rfl
@[simp] theorem sat_rt : (RS.rt d h).sat N T = T d h := rfl
@[simp] theorem sat_noS : (RS.no).sat N T = False := rfl
@[simp] theorem sat_bindS : (r.bind w).sat N T = r.sat (Kont w N T) T := by cases r <;> rfl
@[simp] theorem sat_res {Q : D → CH → Prop} : r.res.sat Q = r.sat (fun _ h => Q .non h) Q := by cases r <;> rfl
@[simp] theorem sat_unl : (r.unl none).sat N T = r.sat N T := by rw [unl_none]
@[simp] theorem sat_unlR : (m.unl none).sat P = m.sat P := by rw [runl_none]
theorem R.sat.mono (x : m.sat P) (k : ∀ a h, P a h → P' a h) : m.sat P' := by
  cases m with
  | ok a h => exact k a h x
  | ex => exact x.elim
  | no => exact x.elim
theorem R.sat.ex (x : m.sat P) : ∃ a h, m = .ok a h ∧ P a h := by
  cases m with
  | ok a h => exact ⟨a, h, rfl, x⟩
  | ex => exact x.elim
  | no => exact x.elim
theorem sat_of {a : α} {h : CH} (e : m = .ok a h) (p : P a h) : m.sat P := by rw [e]; exact p
theorem RS.sat.mono {N' : DE → CH → Prop} {T' : D → CH → Prop} (x : r.sat N T) (k : ∀ ρ h, N ρ h → N' ρ h) (k' : ∀ d h, T d h → T' d h) : r.sat N' T' := by
  cases r with
  | nx => exact k _ _ x
  | rt => exact k' _ _ x
  | _ => exact x.elim
theorem sat_lcl {tg : TGD} {tt : TB} {te : TD} {ρ0 : DE} {Q : List D → CH → Prop} (I : List D → List D → CH → Prop) (step : ∀ d r ys h, I (d :: r) ys h → (tg d ρ0 h).sat fun ρ2 h => (tt ρ2 h).sat fun b h => if b = true then (te ρ2 h).sat fun y h => I r (ys ++ [y]) h else I r ys h) :
    ∀ {ds ys : List D} {h : CH}, I ds ys h → (∀ zs h, I [] zs h → ∀ l, zs = ys ++ l → Q l h) → (dLcL tg tt te ρ0 ds h).sat Q
  | [], ys, h, i, k => k ys h i [] (by simp)
  | d :: r, ys, h, i, k => by
    have st := step d r ys h i
    obtain ⟨ρ2, h1, e1, st⟩ := st.ex
    obtain ⟨b, h2, e2, st⟩ := st.ex
    show ((tg d ρ0 h).calm _).sat Q
    rw [sat_calm, e1]
    show ((tt ρ2 h1).calm _).sat Q
    rw [sat_calm, e2]
    cases b with
    | true =>
      obtain ⟨y, h3, e3, st⟩ := R.sat.ex (show (te ρ2 h2).sat _ from st)
      show (if true = true then (te ρ2 h2).calm _ else _ : R (List D)).sat Q
      rw [if_pos rfl, sat_calm, e3]
      show ((dLcL tg tt te ρ0 r h3).bind _).sat Q
      rw [sat_bind]
      exact sat_lcl I step st fun zs h i l e => k zs h i (y :: l) (by rw [e]; simp)
    | false =>
      show (if false = true then _ else dLcL tg tt te ρ0 r h2 : R (List D)).sat Q
      rw [if_neg Bool.false_ne_true]
      exact sat_lcl I step st k
end
section
variable {r w n m : Nat} {h h1 : CH}
theorem DrawOk.mono (A : DrawOk r w n h) (l : m ≤ n) : DrawOk r w m h := by
  obtain ⟨ws, cs, x, t, A⟩ := A
  exact ⟨ws, cs, x, t, A.or_, A.ow, A.ne, A.lr, A.lw, A.cs_, A.lws, A.lcs, A.t0, by have := A.tn; omega⟩
theorem DrawOk.keep (A : DrawOk r w n h) (nx : h.nx ≤ h1.nx) (k : ∀ j, j = r ∨ j = w → h1.ob j = h.ob j) : DrawOk r w n h1 := by
  obtain ⟨ws, cs, x, t, A⟩ := A
  exact ⟨ws, cs, x, t, by rw [k r (.inl rfl)]; exact A.or_, by rw [k w (.inr rfl)]; exact A.ow, A.ne, Nat.lt_of_lt_of_le A.lr nx, Nat.lt_of_lt_of_le A.lw nx, A.cs_, A.lws, A.lcs, A.t0, A.tn⟩
theorem DrawOk.lt (A : DrawOk r w n h) : r < h.nx ∧ w < h.nx := by
  obtain ⟨ws, cs, x, t, A⟩ := A
  exact ⟨A.lr, A.lw⟩
theorem take_sat (A : DrawOk r w (n + 1) h) {s : Int} (hs : 0 < s) (hs2 : s < 1073741824) : (F__law_take [.ref r, .int s] h).sat fun d h1 => ∃ v, d = .int v ∧ 0 ≤ v ∧ v < s ∧ DrawOk r w n h1 ∧ DrFr r w h h1 := by
  obtain ⟨v, h1, e, p⟩ := take_ok A hs hs2
  exact sat_of e ⟨v, rfl, p⟩
theorem pick_sat (A : DrawOk r w (n + 1) h) {xs : D} {ds : List D} (e : xs = .lst ds ∨ xs = .tup ds) (h0 : ds ≠ []) (h1 : ds.length < 1073741824) : (F__law_pick [.ref r, xs] h).sat fun d h1 => d ∈ ds ∧ DrawOk r w n h1 ∧ DrFr r w h h1 := by
  obtain ⟨d, h1, e, p⟩ := pick_ok A e h0 h1
  exact sat_of e p
end
abbrev stL (l : List Str) : List D := l.map D.str
def SeqS (h : CH) (X : D) (l : List Str) : Prop := (∃ k, X = .ref k ∧ h.ob k = some (.lst (stL l))) ∨ X = .lst (stL l) ∨ X = .tup (stL l)
section
variable {h : CH} {X : D} {l ws : List Str}
theorem SeqS.seq (s : SeqS h X l) : seqOf h X = some (stL l) := by
  rcases s with ⟨k, rfl, e⟩ | rfl | rfl
  · simp only [seqOf, e]
  · rfl
  · rfl
theorem CH.ext' {h h' : CH} (a : h.nx = h'.nx) (b : ∀ k, h.ob k = h'.ob k) : h = h' := by
  obtain ⟨n, o⟩ := h
  obtain ⟨n', o'⟩ := h'
  cases a
  have : o = o' := funext b
  rw [this]
theorem put_id {k : Nat} {o : MO} (e : h.ob k = some o) : h.put k o = h := CH.ext' rfl fun j => by
  by_cases z : j = k
  · subst z; rw [put_same, e]
  · rw [put_ne z]
theorem put_put {k : Nat} {o o' : MO} : (h.put k o).put k o' = h.put k o' := CH.ext' rfl fun j => by
  by_cases z : j = k
  · subst z; rw [put_same, put_same]
  · rw [put_ne z, put_ne z, put_ne z]
end
end CM
namespace W_whilemerged_k64_deeds_for_plans
open PySem PySem.Spec PyProof.Rows L2 CM
structure Txt (mg : Str → Option Value) : Prop where
  z_abs : mg "abs" = none
  z_int : mg "int" = none
  z_len : mg "len" = none
  z_tuple : mg "tuple" = none
  z_range : mg "range" = none
  z_isinstance : mg "isinstance" = none
  z_bool : mg "bool" = none
  z_all : mg "all" = none
  z_list : mg "list" = none
  z_sorted : mg "sorted" = none
  z_set : mg "set" = none
  z_str : mg "str" = none
  z_max : mg "max" = none
  z_enumerate : mg "enumerate" = none
  z_min : mg "min" = none
  z_dict : mg "dict" = none
  z_repr : mg "repr" = none
structure Cst (K : PySem.W.Frag) (CA : CAs) (mg : Str → Option Value) : Prop where
  g_MOST_LAYERS : GV K CA mg "MOST_LAYERS" (.int 8)
  g_KINDS : GV K CA mg "KINDS" (.tup [.str "down", .str "up"])
structure Fld (K : PySem.W.Frag) (CA : CAs) : Prop where
  x_line : FldOf K CA [0] "line"
  x_cells_there : FldOf K CA [0] "cells_there"
  x_begun_jobs : FldOf K CA [0] "begun_jobs"
def u__law_owned : SD := dSeq (dAsg (dCall 2 F__law_take (dCons (dVar 0) (dCons (dC (.int 6)) (dNil)))) (gdName 2)) (dSeq (dIfS (dB (dOp (fEq false) (dVar 2) (dC (.int 0)))) (dRet (dTup (dNil))) (dNext)) (dSeq (dIfS (dB (dOp (fEq false) (dVar 2) (dC (.int 1)))) (dRet (dTupR (dVar 1))) (dNext)) (dRet (dCB fTupOf (dCons (dLc false (dRng1 (dCons (dVar 1) (dNil))) (gdName 3) (dB (dOp (fEq false) (dCall 2 F__law_take (dCons (dVar 0) (dCons (dIf (dB (dOp (fB fun i j => decide (i < j)) (dVar 2) (dC (.int 5)))) (dC (.int 2)) (dC (.int 4))) (dNil)))) (dC (.int 0)))) (dVar 3) [3]) (dNil))))))
def F__law_owned : FD := bodyF 4 u__law_owned
def u__law_chain : SD := dSeq (dAsg (dCall 2 F__law_pick (dCons (dVar 0) (dCons (dLst false (dCons (dC (.int 1)) (dCons (dC (.int 3)) (dCons (dC (.int 6)) (dCons (dC (.int 10)) (dNil)))))) (dNil)))) (gdName 3)) (dRet (dLc false (dRng1 (dCons (dOp (fAdd false) (dVar 1) (dCall 2 F__law_take (dCons (dVar 0) (dCons (dOp (fAdd false) (dOp fSubI (dVar 2) (dVar 1)) (dC (.int 1))) (dNil))))) (dNil))) (gdName 4) (dYes) (dCall 2 F__law_owned (dCons (dVar 0) (dCons (dVar 3) (dNil)))) [4]))
def F__law_chain : FD := bodyF 5 u__law_chain
def u__law_plan (R_ : FD) : SD := dSeq (dIfS (dB (dOp (fEq false) (dVar 1) (dVar 2))) (dRet (dVar 1)) (dNext)) (dSeq (dAsg (dOp (fAdd false) (dVar 1) (dCall 2 F__law_take (dCons (dVar 0) (dCons (dOp fSubI (dVar 2) (dVar 1)) (dNil))))) (gdName 3)) (dSeq (dAsg (dCall 2 F__law_pick (dCons (dVar 0) (dCons (dLst false (dCons (dC (.str "up")) (dCons (dC (.str "down")) (dNil)))) (dNil)))) (gdName 4)) (dRet (dTup (dCons (dVar 4) (dCons (dCall 3 R_ (dCons (dVar 0) (dCons (dVar 1) (dCons (dVar 3) (dNil))))) (dCons (dCall 3 R_ (dCons (dVar 0) (dCons (dOp (fAdd false) (dVar 3) (dC (.int 1))) (dCons (dVar 2) (dNil))))) (dNil))))))))
def F__law_plan_ : Nat → FD
  | 0 => fun _ _ => .no
  | k + 1 => bodyF 5 (u__law_plan (F__law_plan_ k))
def F__law_plan : FD := F__law_plan_ 9
def u_is_cell : SD := dRet (dAndV (dCB (fIsi [0] (ktT [[.o 0]] tys)) (dCons (dVar 0) (dCons (dC (.ty "int")) (dNil)))) (dAndV (dNotV (dCB (fIsi [0] (ktT [[.o 0]] tys)) (dCons (dVar 0) (dCons (dC (.ty "bool")) (dNil))))) (dOp (fB fun i j => decide (i ≥ j)) (dVar 0) (dC (.int 0)))))
def F_is_cell : FD := bodyF 1 u_is_cell
def u_is_owned : SD := dSeq (dIfS (dOr (dNot (dB (dCB (fIsi [0] (ktT [[.o 0]] tys)) (dCons (dVar 0) (dCons (dC (.ty "tuple")) (dNil)))))) (dNot (dB (dCB (fAllB false) (dCons (dLc false (dSeqI (dVar 0)) (gdName 1) (dYes) (dCall 1 F_is_cell (dCons (dVar 1) (dNil))) [1]) (dNil)))))) (dRet (dC (.bl false))) (dNext)) (dRet (dOp (fEq false) (dCB (fListOf false) (dCons (dVar 0) (dNil))) (dUn (fSortSet false) (dVar 0))))
def F_is_owned : FD := bodyF 2 u_is_owned
def u_need_chain : SD := dSeq (dIfS (dOr (dNot (dB (dCB (fIsT [0] (ktT [[.o 0]] tys)) (dCons (dVar 0) (dCons (dTup (dCons (dC (.ty "list")) (dCons (dC (.ty "tuple")) (dNil)))) (dNil)))))) (dNot (dB (dChain (fB fun i j => decide (i ≤ j)) (fB fun i j => decide (i ≤ j)) (dC (.int 1)) (dCB fLen (dCons (dVar 0) (dNil))) (dC (.int 8)))))) (dNever) (dNext)) (dIfS (dNot (dB (dCB (fAllB false) (dCons (dLc false (dSeqI (dVar 0)) (gdName 1) (dYes) (dCall 1 F_is_owned (dCons (dVar 1) (dNil))) [1]) (dNil))))) (dNever) (dNext))
def F_need_chain : FD := bodyF 2 u_need_chain
def u_span_of (R_ : FD) : SD := dSeq (dIfS (dB (dCall 1 F_is_cell (dCons (dVar 1) (dNil)))) (dRet (dIf (dB (dOp (fB fun i j => decide (i < j)) (dVar 1) (dVar 0))) (dTup (dCons (dVar 1) (dCons (dVar 1) (dNil)))) (dC .non))) (dNext)) (dSeq (dIfS (dOr (dNot (dB (dCB (fIsi [0] (ktT [[.o 0]] tys)) (dCons (dVar 1) (dCons (dC (.ty "tuple")) (dNil)))))) (dOr (dB (dOp (fEq true) (dCB fLen (dCons (dVar 1) (dNil))) (dC (.int 3)))) (dOr (dNot (dB (dCB (fIsi [0] (ktT [[.o 0]] tys)) (dCons (dOp fIx (dVar 1) (dC (.int 0))) (dCons (dC (.ty "str")) (dNil)))))) (dB (dOp (fIn true) (dOp fIx (dVar 1) (dC (.int 0))) (dC (.tup [.str "down", .str "up"]))))))) (dRet (dC .non)) (dNext)) (dSeq (dPar 2 3 (dCons (dCall 2 R_ (dCons (dVar 0) (dCons (dOp fIx (dVar 1) (dC (.int 1))) (dNil)))) (dCons (dCall 2 R_ (dCons (dVar 0) (dCons (dOp fIx (dVar 1) (dC (.int 2))) (dNil)))) (dNil)))) (dSeq (dIfS (dOr (dB (dOp (fIsN false) (dVar 2) (dC .non))) (dOr (dB (dOp (fIsN false) (dVar 3) (dC .non))) (dB (dOp (fEq true) (dOp (fAdd false) (dOp fIx (dVar 2) (dC (.int 1))) (dC (.int 1))) (dOp fIx (dVar 3) (dC (.int 0))))))) (dRet (dC .non)) (dNext)) (dRet (dTup (dCons (dOp fIx (dVar 2) (dC (.int 0))) (dCons (dOp fIx (dVar 3) (dC (.int 1))) (dNil))))))))
def F_span_of_ : Nat → FD
  | 0 => fun _ _ => .no
  | k + 1 => bodyF 4 (u_span_of (F_span_of_ k))
def F_span_of : FD := F_span_of_ 9
def u_is_plan : SD := dSeq (dDrop (dCall 1 F_need_chain (dCons (dVar 0) (dNil)))) (dRet (dOp (fEq false) (dCall 2 F_span_of (dCons (dCB fLen (dCons (dVar 0) (dNil))) (dCons (dVar 1) (dNil)))) (dTup (dCons (dC (.int 0)) (dCons (dOp fSubI (dCB fLen (dCons (dVar 0) (dNil))) (dC (.int 1))) (dNil))))))
def F_is_plan : FD := bodyF 2 u_is_plan
def u_need_plan : SD := dIfS (dNot (dB (dCall 2 F_is_plan (dCons (dVar 0) (dCons (dVar 1) (dNil)))))) (dNever) (dNext)
def F_need_plan : FD := bodyF 2 u_need_plan
def u_Work_merged (R_ : FD) : SD := dSeq (dIfS (dB (dCall 1 F_is_cell (dCons (dVar 1) (dNil)))) (dRet (dOp (fAdd false) (dVar 1) (dC (.int 1)))) (dNext)) (dSeq (dPar 2 3 (dCons (dMethN 0 "merged" 2 0 (srcP 0 2) R_ (dVar 0) (dCons (dOp fIx (dVar 1) (dC (.int 1))) (dNil)) (dNil)) (dCons (dMethN 0 "merged" 2 0 (srcP 0 2) R_ (dVar 0) (dCons (dOp fIx (dVar 1) (dC (.int 2))) (dNil)) (dNil)) (dNil)))) (dSeq (dDrop (dBM "list" fAppend (dUn (fFld [0] "line") (dVar 0)) (dCons (dTup (dCons (dC (.str "begin")) (dCons (dOp fIx (dVar 1) (dC (.int 0))) (dCons (dVar 3) (dNil))))) (dNil)))) (dSeq (dDrop (dBM "list" fExtend (dUn (fFld [0] "line") (dVar 0)) (dCons (dLc false (dRng1 (dCons (dOp (fAdd false) (dUn (fFld [0] "cells_there") (dVar 0)) (dC (.int 1))) (dNil))) (gdName 4) (dYes) (dTup (dCons (dC (.str "step")) (dCons (dUn (fFld [0] "begun_jobs") (dVar 0)) (dNil)))) [4]) (dNil)))) (dSeq (dFldAug [0] "begun_jobs" (dVar 0) (dC (.int 1))) (dRet (dIf (dB (dOp (fEq false) (dOp fIx (dVar 1) (dC (.int 0))) (dC (.str "up")))) (dVar 3) (dVar 2)))))))
def F_Work_merged_ : Nat → FD
  | 0 => fun _ _ => .no
  | k + 1 => bodyF 5 (u_Work_merged (F_Work_merged_ k))
def F_Work_merged : FD := F_Work_merged_ 9
def u_Work_init : SD := dSeq (dAsg (dVar 1) (gdFld [0] "cells_there" (dVar 0))) (dSeq (dAsg (dLst true (dNil)) (gdFld [0] "line" (dVar 0))) (dAsg (dC (.int 0)) (gdFld [0] "begun_jobs" (dVar 0))))
def F_Work_init : FD := bodyF 2 u_Work_init
def u_cells_of : SD := dSeq (dDrop (dCall 1 F_need_chain (dCons (dVar 0) (dNil)))) (dRet (dCB fMaxL (dCons (dOp (fAdd false) (dLc2 false (dSeqI (dVar 0)) (gdName 1) (dYes) (dSeqI (dVar 1)) (gdName 2) (dYes) (dOp (fAdd false) (dVar 2) (dC (.int 1))) [1, 2] [2]) (dLst false (dCons (dC (.int 1)) (dNil)))) (dNil))))
def F_cells_of : FD := bodyF 3 u_cells_of
def u_deeds_for : SD := dSeq (dDrop (dCall 2 F_need_plan (dCons (dVar 0) (dCons (dVar 1) (dNil))))) (dSeq (dPar 2 3 (dCons (dLst true (dNil)) (dCons (dMakeN 0 false 2 0 (srcP 0 2) F_Work_init (dCons (dCall 1 F_cells_of (dCons (dVar 0) (dNil))) (dNil)) (dNil)) (dNil)))) (dSeq (dFor (dEnumT (dCons (dVar 0) (dNil))) (gdTup 2 (gdCons (gdName 4) (gdCons (gdName 5) (gdNil)))) (dSeq (dDrop (dBM "list" fAppend (dVar 2) (dCons (dTup (dCons (dC (.str "cover")) (dCons (dC (.int 0)) (dNil)))) (dNil)))) (dDrop (dBM "list" fExtend (dVar 2) (dCons (dLc false (dSeqI (dVar 5)) (gdName 6) (dYes) (dTup (dCons (dC (.str "write")) (dCons (dC (.int 0)) (dCons (dVar 6) (dCons (dOp (fAdd false) (dVar 4) (dC (.int 1))) (dNil)))))) [6]) (dNil)))))) (dSeq (dDrop (dMethN 0 "merged" 2 0 (srcP 0 2) F_Work_merged (dVar 3) (dCons (dVar 1) (dNil)) (dNil))) (dRet (dLst true (dStar (dVar 2) (dCons (dTup (dCons (dC (.str "cover")) (dCons (dC (.int 0)) (dNil)))) (dStar (dUn (fFld [0] "line") (dVar 3)) (dNil)))))))))
def F_deeds_for : FD := bodyF 7 u_deeds_for
def u__law_built : SD := dSeq (dAsg (dLst true (dCons (dDNew true) (dNil))) (gdName 1)) (dSeq (dFor (dSeqI (dVar 0)) (gdName 2) (dIfS (dB (dOp (fEq false) (dVar 2) (dTup (dCons (dC (.str "cover")) (dCons (dC (.int 0)) (dNil)))))) (dDrop (dBM "list" fAppend (dVar 1) (dCons (dDNew true) (dNil)))) (dIfS (dAnd (dB (dOp (fEq false) (dCB fLen (dCons (dVar 2) (dNil))) (dC (.int 4)))) (dB (dOp (fEq false) (dSl false (dVar 2) (dNoPart) (dPart (dC (.int 2)))) (dTup (dCons (dC (.str "write")) (dCons (dC (.int 0)) (dNil))))))) (dAsg (dOp fIx (dVar 2) (dC (.int 3))) (gdSub (dOp fIx (dVar 1) (dUn fNeg (dC (.int 1)))) (dOp fIx (dVar 2) (dC (.int 2))))) (dRet (dC .non))))) (dRet (dVar 1)))
def F__law_built : FD := bodyF 3 u__law_built
def u_owned_by : SD := dRet (dCB (fListK false) (dCons (dDc2 false (dSeqI (dSl false (dVar 0) (dPart (dVar 1)) (dPart (dOp (fAdd false) (dVar 2) (dC (.int 1)))))) (gdName 3) (dYes) (dSeqI (dVar 3)) (gdName 4) (dYes) (dVar 4) (dC (.bl true)) [3, 4] [4]) (dNil)))
def F_owned_by : FD := bodyF 5 u_owned_by
def u_copied : SD := dRet (dIf (dB (dOp (fEq false) (dVar 0) (dC (.str "down")))) (dCB fLen (dCons (dVar 2) (dNil))) (dCB fLen (dCons (dLc false (dSeqI (dVar 1)) (gdName 3) (dB (dOp (fIn true) (dVar 3) (dVar 2))) (dVar 3) [3]) (dNil))))
def F_copied : FD := bodyF 4 u_copied
def u_cheapest : SD := dSeq (dDrop (dCall 1 F_need_chain (dCons (dVar 0) (dNil)))) (dSeq (dAsg (dDcT (dRng1 (dCons (dCB fLen (dCons (dVar 0) (dNil))) (dNil))) (gdName 2) (dYes) (dCons (dVar 2) (dCons (dVar 2) (dNil))) (dTup (dCons (dC (.int 0)) (dCons (dVar 2) (dNil)))) [2]) (gdName 1)) (dSeq (dFor (dRng2 (dCons (dC (.int 1)) (dCons (dCB fLen (dCons (dVar 0) (dNil))) (dNil)))) (gdName 3) (dFor (dRng1 (dCons (dOp fSubI (dCB fLen (dCons (dVar 0) (dNil))) (dVar 3)) (dNil))) (gdName 4) (dSeq (dPar 5 6 (dCons (dOp (fAdd false) (dVar 4) (dVar 3)) (dCons (dLst true (dNil)) (dNil)))) (dSeq (dFor (dRng2 (dCons (dVar 4) (dCons (dVar 5) (dNil)))) (gdName 7) (dSeq (dPar 8 9 (dCons (dIxT (dVar 1) (dCons (dVar 4) (dCons (dVar 7) (dNil)))) (dCons (dIxT (dVar 1) (dCons (dOp (fAdd false) (dVar 7) (dC (.int 1))) (dCons (dVar 5) (dNil)))) (dNil)))) (dSeq (dAsg (dTup (dCons (dCall 3 F_owned_by (dCons (dVar 0) (dCons (dVar 4) (dCons (dVar 7) (dNil))))) (dCons (dCall 3 F_owned_by (dCons (dVar 0) (dCons (dOp (fAdd false) (dVar 7) (dC (.int 1))) (dCons (dVar 5) (dNil))))) (dNil)))) (gdName 10)) (dFor (dSeqI (dC (.tup [.str "down", .str "up"]))) (gdName 11) (dDrop (dBM "list" fAppend (dVar 6) (dCons (dTup (dCons (dOp (fAdd false) (dOp (fAdd false) (dOp fIx (dVar 8) (dC (.int 0))) (dOp fIx (dVar 9) (dC (.int 0)))) (dCall 3 F_copied (dCons (dVar 11) (dStar (dVar 10) (dNil))))) (dCons (dTup (dCons (dVar 11) (dCons (dOp fIx (dVar 8) (dC (.int 1))) (dCons (dOp fIx (dVar 9) (dC (.int 1))) (dNil))))) (dNil)))) (dNil)))))))) (dSeq (dAsg (dCB fMinL (dCons (dLc false (dSeqI (dVar 6)) (gdTup 2 (gdCons (gdName 13) (gdCons (gdName 14) (gdNil)))) (dYes) (dVar 13) [13, 14]) (dNil))) (gdName 12)) (dAsg (dOp fIx (dLc false (dSeqI (dVar 6)) (gdName 15) (dB (dOp (fEq false) (dOp fIx (dVar 15) (dC (.int 0))) (dVar 12))) (dVar 15) [15]) (dC (.int 0))) (gdSubT (dVar 1) (dCons (dVar 4) (dCons (dVar 5) (dNil)))))))))) (dRet (dIxT (dVar 1) (dCons (dC (.int 0)) (dCons (dOp fSubI (dCB fLen (dCons (dVar 0) (dNil))) (dC (.int 1))) (dNil)))))))
def F_cheapest : FD := bodyF 16 u_cheapest
def u__law_is_cell : SD := dRet (dAndV (dCB (fIsi [0] (ktT [[.o 0]] tys)) (dCons (dVar 0) (dCons (dC (.ty "int")) (dNil)))) (dAndV (dNotV (dCB (fIsi [0] (ktT [[.o 0]] tys)) (dCons (dVar 0) (dCons (dC (.ty "bool")) (dNil))))) (dOp (fB fun i j => decide (i ≥ j)) (dVar 0) (dC (.int 0)))))
def F__law_is_cell : FD := bodyF 1 u__law_is_cell
def u__law_jobs (R_ : FD) : SD := dSeq (dIfS (dB (dCall 1 F__law_is_cell (dCons (dVar 0) (dNil)))) (dRet (dOp (fAdd false) (dVar 0) (dC (.int 1)))) (dNext)) (dSeq (dPar 2 3 (dCons (dCall 2 R_ (dCons (dOp fIx (dVar 0) (dC (.int 1))) (dCons (dVar 1) (dNil)))) (dCons (dCall 2 R_ (dCons (dOp fIx (dVar 0) (dC (.int 2))) (dCons (dVar 1) (dNil)))) (dNil)))) (dSeq (dDrop (dBM "list" fAppend (dVar 1) (dCons (dTup (dCons (dOp fIx (dVar 0) (dC (.int 0))) (dCons (dVar 3) (dCons (dVar 2) (dNil))))) (dNil)))) (dRet (dIf (dB (dOp (fEq false) (dOp fIx (dVar 0) (dC (.int 0))) (dC (.str "up")))) (dVar 3) (dVar 2)))))
def F__law_jobs_ : Nat → FD
  | 0 => fun _ _ => .no
  | k + 1 => bodyF 4 (u__law_jobs (F__law_jobs_ k))
def F__law_jobs : FD := F__law_jobs_ 9
def u__law_merged : SD := dSeq (dAsg (dTup (dCons (dOp fIx (dVar 0) (dVar 2)) (dCons (dOp fIx (dVar 0) (dVar 3)) (dNil)))) (gdTup 2 (gdCons (gdName 4) (gdCons (gdName 5) (gdNil))))) (dSeq (dIfS (dB (dOp (fEq false) (dVar 1) (dC (.str "up")))) (dSeq (dAsg (dLc false (dDictI keysD (dVar 5)) (gdName 7) (dB (dOp (fIn true) (dVar 7) (dVar 4))) (dVar 7) [7]) (gdName 6)) (dSeq (dFor (dSeqI (dVar 6)) (gdName 7) (dAsg (dOp fIx (dVar 5) (dVar 7)) (gdSub (dVar 4) (dVar 7)))) (dSeq (dAsg (dC .non) (gdSub (dVar 0) (dVar 3))) (dRet (dCB fLen (dCons (dVar 6) (dNil))))))) (dNext)) (dSeq (dFor (dDictI keysD (dVar 4)) (gdName 7) (dAsg (dOp fIx (dVar 4) (dVar 7)) (gdSub (dVar 5) (dVar 7)))) (dSeq (dAsg (dC .non) (gdSub (dVar 0) (dVar 2))) (dRet (dCB fLen (dCons (dVar 4) (dNil)))))))
def F__law_merged : FD := bodyF 8 u__law_merged
def u__law_worth (R_ : FD) : SD := dSeq (dIfS (dB (dCall 1 F__law_is_cell (dCons (dVar 1) (dNil)))) (dRet (dTup (dCons (dC (.int 0)) (dCons (dCB (fListOf false) (dCons (dOp fIx (dVar 0) (dVar 1)) (dNil))) (dNil))))) (dNext)) (dSeq (dAsg (dVar 1) (gdTup 3 (gdCons (gdName 2) (gdCons (gdName 3) (gdCons (gdName 4) (gdNil)))))) (dSeq (dAsg (dTup (dCons (dCall 2 R_ (dCons (dVar 0) (dCons (dVar 3) (dNil)))) (dCons (dCall 2 R_ (dCons (dVar 0) (dCons (dVar 4) (dNil)))) (dNil)))) (gdTup 2 (gdCons (gdName 5) (gdCons (gdName 6) (gdNil))))) (dSeq (dAsg (dIf (dB (dOp (fEq false) (dVar 2) (dC (.str "down")))) (dCB fLen (dCons (dOp fIx (dVar 6) (dC (.int 1))) (dNil))) (dCB fLen (dCons (dLc false (dSeqI (dOp fIx (dVar 5) (dC (.int 1)))) (gdName 8) (dB (dOp (fIn true) (dVar 8) (dOp fIx (dVar 6) (dC (.int 1))))) (dVar 8) [8]) (dNil)))) (gdName 7)) (dRet (dTup (dCons (dOp (fAdd false) (dOp (fAdd false) (dOp fIx (dVar 5) (dC (.int 0))) (dOp fIx (dVar 6) (dC (.int 0)))) (dVar 7)) (dCons (dUn (fSortSet false) (dOp (fAdd false) (dOp fIx (dVar 5) (dC (.int 1))) (dOp fIx (dVar 6) (dC (.int 1))))) (dNil))))))))
def F__law_worth_ : Nat → FD
  | 0 => fun _ _ => .no
  | k + 1 => bodyF 9 (u__law_worth (F__law_worth_ k))
def F__law_worth : FD := F__law_worth_ 9
def u__law_work_right : SD := dSeq (dPar3 4 5 6 (dCons (dLst true (dNil)) (dCons (dCall 1 F_cells_of (dCons (dVar 0) (dNil))) (dCons (dC (.int 0)) (dNil))))) (dSeq (dSeq (dPar 7 8 (dCons (dCall 2 F__law_jobs (dCons (dVar 1) (dCons (dVar 4) (dNil)))) (dCons (dC (.int 0)) (dNil)))) (dFzV 4)) (dSeq (dFor (dEnum (dCons (dVar 4) (dNil))) (gdTup 2 (gdCons (gdName 9) (gdCons (gdTup 3 (gdCons (gdName 10) (gdCons (gdName 11) (gdCons (gdName 12) (gdNil))))) (gdNil)))) (dSeq (dAsg (dOp (fAdd false) (dLst false (dCons (dTup (dCons (dC (.str "begin")) (dCons (dVar 10) (dCons (dVar 11) (dNil))))) (dNil))) (dOp (fMul false) (dLst false (dCons (dTup (dCons (dC (.str "step")) (dCons (dVar 9) (dNil)))) (dNil))) (dOp (fAdd false) (dVar 5) (dC (.int 1))))) (gdName 13)) (dSeq (dIfS (dB (dOp (fEq true) (dCB (fListOf false) (dCons (dSl false (dVar 3) (dPart (dVar 6)) (dPart (dOp (fAdd false) (dOp (fAdd false) (dVar 6) (dVar 5)) (dC (.int 2))))) (dNil))) (dVar 13))) (dRet (dC (.bl false))) (dNext)) (dPar 8 6 (dCons (dOp (fAdd false) (dVar 8) (dCall 4 F__law_merged (dCons (dVar 2) (dCons (dVar 10) (dCons (dVar 11) (dCons (dVar 12) (dNil))))))) (dCons (dOp (fAdd false) (dOp (fAdd false) (dVar 6) (dVar 5)) (dC (.int 2))) (dNil))))))) (dSeq (dAsg (dDNew true) (gdName 14)) (dSeq (dFor (dEnum (dCons (dVar 0) (dNil))) (gdTup 2 (gdCons (gdName 15) (gdCons (gdName 16) (gdNil)))) (dDrop (dBM "dict" fDUpd (dVar 14) (dCons (dCB (fDctP false) (dCons (dLc false (dSeqI (dVar 16)) (gdName 17) (dYes) (dTup (dCons (dVar 17) (dCons (dOp (fAdd false) (dVar 15) (dC (.int 1))) (dNil)))) [17]) (dNil))) (dNil))))) (dRet (dAndV (dOp (fEq false) (dVar 6) (dCB fLen (dCons (dVar 3) (dNil)))) (dAndV (dOp (fEqH false) (dOp fIx (dVar 2) (dVar 7)) (dVar 14)) (dOp (fEq false) (dVar 8) (dOp fIx (dCall 2 F__law_worth (dCons (dVar 0) (dCons (dVar 1) (dNil)))) (dC (.int 0)))))))))))
def F__law_work_right : FD := bodyF 18 u__law_work_right
def u_cost_of (R_ : FD) : SD := dSeq (dIfS (dB (dCall 1 F_is_cell (dCons (dVar 1) (dNil)))) (dRet (dC (.int 0))) (dNext)) (dSeq (dAsg (dVar 1) (gdTup 3 (gdCons (gdName 2) (gdCons (gdName 3) (gdCons (gdName 4) (gdNil)))))) (dSeq (dPar 5 6 (dCons (dCall 2 F_span_of (dCons (dCB fLen (dCons (dVar 0) (dNil))) (dCons (dVar 3) (dNil)))) (dCons (dCall 2 F_span_of (dCons (dCB fLen (dCons (dVar 0) (dNil))) (dCons (dVar 4) (dNil)))) (dNil)))) (dSeq (dAsg (dCall 3 F_copied (dCons (dVar 2) (dCons (dCall 3 F_owned_by (dCons (dVar 0) (dCons (dOp fIx (dVar 5) (dC (.int 0))) (dCons (dOp fIx (dVar 5) (dC (.int 1))) (dNil))))) (dCons (dCall 3 F_owned_by (dCons (dVar 0) (dCons (dOp fIx (dVar 6) (dC (.int 0))) (dCons (dOp fIx (dVar 6) (dC (.int 1))) (dNil))))) (dNil))))) (gdName 7)) (dRet (dOp (fAdd false) (dOp (fAdd false) (dCall 2 R_ (dCons (dVar 0) (dCons (dVar 3) (dNil)))) (dCall 2 R_ (dCons (dVar 0) (dCons (dVar 4) (dNil))))) (dVar 7))))))
def F_cost_of_ : Nat → FD
  | 0 => fun _ _ => .no
  | k + 1 => bodyF 8 (u_cost_of (F_cost_of_ k))
def F_cost_of : FD := F_cost_of_ 9
def u_cost : SD := dSeq (dDrop (dCall 2 F_need_plan (dCons (dVar 0) (dCons (dVar 1) (dNil))))) (dRet (dCall 2 F_cost_of (dCons (dVar 0) (dCons (dVar 1) (dNil)))))
def F_cost : FD := bodyF 2 u_cost
def u_law : SD := dSeq (dAsg (dCall 1 F__law_begun (dCons (dVar 0) (dNil))) (gdName 1)) (dSeq (dFor (dRng1 (dCons (dOp (fAdd false) (dC (.int 3)) (dCB fMin (dCons (dCB fLen (dCons (dVar 0) (dNil))) (dCons (dC (.int 12)) (dNil))))) (dNil))) (gdName 2) (dSeq (dAsg (dCall 3 F__law_chain (dCons (dVar 1) (dCons (dC (.int 1)) (dCons (dC (.int 8)) (dNil))))) (gdName 3)) (dFor (dSeqI (dLst false (dCons (dCall 3 F__law_plan (dCons (dVar 1) (dCons (dC (.int 0)) (dCons (dOp fSubI (dCB fLen (dCons (dVar 3) (dNil))) (dC (.int 1))) (dNil))))) (dCons (dOp fIx (dCall 1 F_cheapest (dCons (dVar 3) (dNil))) (dC (.int 1))) (dNil))))) (gdName 4) (dSeq (dAsg (dCall 2 F_deeds_for (dCons (dVar 3) (dCons (dVar 4) (dNil)))) (gdName 5)) (dSeq (dAsg (dOp (fAdd false) (dLc false (dEnumN (dCons (dVar 5) (dNil))) (gdTup 2 (gdCons (gdName 7) (gdCons (gdName 8) (gdNil)))) (dB (dOp (fEq false) (dOp fIx (dVar 8) (dC (.int 0))) (dC (.str "begin")))) (dVar 7) [7, 8]) (dLst false (dCons (dCB fLen (dCons (dVar 5) (dNil))) (dNil)))) (gdName 6)) (dSeq (dAsg (dCall 1 F__law_built (dCons (dSl false (dVar 5) (dNoPart) (dPart (dOp fIx (dVar 6) (dC (.int 0))))) (dNil))) (gdName 9)) (dSeq (dAsg (dOp (fAdd false) (dOp (fAdd false) (dLst false (dCons (dDNew false) (dNil))) (dLc false (dEnum (dCons (dVar 3) (dNil))) (gdTup 2 (gdCons (gdName 12) (gdCons (gdName 13) (gdNil)))) (dYes) (dCB (fDctP false) (dCons (dLc false (dSeqP (dVar 13)) (gdName 11) (dYes) (dTup (dCons (dVar 11) (dCons (dOp (fAdd false) (dVar 12) (dC (.int 1))) (dNil)))) [11]) (dNil))) [12, 13])) (dLst false (dCons (dDNew false) (dNil)))) (gdName 10)) (dSeq (dIfS (dOr (dNot (dB (dCB (fIsi [0] (ktT [[.o 0]] tys)) (dCons (dVar 5) (dCons (dC (.ty "list")) (dNil)))))) (dB (dOp (fEqHL true) (dVar 9) (dVar 10)))) (dRet (dC (.bl false))) (dNext)) (dSeq (dIfS (dNot (dB (dCall 4 F__law_work_right (dCons (dVar 3) (dCons (dVar 4) (dCons (dVar 9) (dCons (dSl false (dVar 5) (dPart (dOp fIx (dVar 6) (dC (.int 0)))) (dNoPart)) (dNil)))))))) (dRet (dC (.bl false))) (dNext)) (dSeq (dAsg (dCB fRep (dCons (dVar 5) (dNil))) (gdName 14)) (dSeq (dDrop (dBM "list" fAppend (dVar 5) (dCons (dC .non) (dNil)))) (dIfS (dOr (dB (dOp (fEq true) (dCB fRep (dCons (dCallN 0 2 ([.k 1, .k 0]) F_deeds_for (dNil) (dCons (dVar 4) (dCons (dCB fTupOf (dCons (dVar 3) (dNil))) (dNil)))) (dNil))) (dVar 14))) (dB (dOp (fB fun i j => decide (i < j)) (dCall 2 F_cost (dCons (dVar 3) (dCons (dVar 4) (dNil)))) (dC (.int 0))))) (dRet (dC (.bl false))) (dNext))))))))))))) (dRet (dC (.bl true))))
def F_law : FD := bodyF 15 u_law
section
variable {P : Program} {w : World} {K : PySem.W.Frag} {mg : Str → Option Value} {base : Heap} {CA : CAs} {f : Addr} {fd : FuncData}
theorem sc__law_begun : FnScope ["_law_script", "_law_wide", "_law_cell"] ["_law_script"] (defScope s__law_begun) := ⟨rfl, rfl, rfl, by decide +kernel, rfl, by decide +kernel, by decide +kernel⟩
theorem ok__law_begun  (F : Fun K "_law_begun" "_law_begun" s__law_begun f fd) (T : Txt mg) (SMb : SM base) (C : Cst K CA mg) (Fl : Fld K CA) (Kt : KtOk K CA [0] (ktT [[.o 0]] tys))  : FnG P w K mg base false 1 f fd ["_law_script"] (spD K CA 1 (bodyF 3 u__law_begun)) := by
  have nd := (sc__law_begun).nd
  refine okD F sc__law_begun rfl rfl fun cd A outer s H E hg hr tk => ?_
  have Y : WSs (cxD P w K mg base ["_law_script", "_law_wide", "_law_cell"] "_law_begun" s__law_begun f cd A outer s H E) K CA (wxD E) (defBody s__law_begun) _ _ := wss_cons (ws_setLc true (i := 1) rfl nd rfl rfl (own := [("_law_cell", 2)]) (wi_seq (we_var (pv 0))) (blkOk_by (N := ["_law_script", "_law_wide", "_law_cell"]) (sc := defScope s__law_begun) (by decide +kernel)) (fun s_ H_ C_ cl_ fp_ => wg_name (pg_name (i := 2) nd rfl (by first | exact Or.inl rfl | exact Or.inr rfl))) (fun s_ H_ C_ cl_ fp_ => wts_one (wt_cmp op_ge sim_cB (we_cb sim_abs (wa_cons (we_var (pv 2)) (wa_nil)) (fun a => pe_callB call_abs (by rfl) T.z_abs boot_absU a)) (we_op op_pow sim_pow (we_int) (we_int)) (by rfl))) (fun s_ H_ C_ cl_ fp_ => we_op op_sub sim_subI (we_cb sim_abs (wa_cons (we_var (pv 2)) (wa_nil)) (fun a => pe_callB call_abs (by rfl) T.z_abs boot_absU a)) (we_op op_pow sim_pow (we_int) (we_int))) (by decide)) (wss_one (ws_ret (we_disp true (wp_cons (we_str) (we_var (pv 1)) (wp_cons (we_str) (we_lc false rfl nd (own := [("_law_cell", 2)]) (wi_seq (we_var (pv 0))) (blkOk_by (N := ["_law_script", "_law_wide", "_law_cell"]) (sc := defScope s__law_begun) (by decide +kernel)) (fun s_ H_ C_ cl_ fp_ => wg_name (pg_name (i := 2) nd rfl (by first | exact Or.inl rfl | exact Or.inr rfl))) (fun s_ H_ C_ cl_ fp_ => wts_nil) (fun s_ H_ C_ cl_ fp_ => we_op op_mod sim_mod (we_cb sim_int (wa_cons (we_cb sim_abs (wa_cons (we_var (pv 2)) (wa_nil)) (fun a => pe_callB call_abs (by rfl) T.z_abs boot_absU a)) (wa_nil)) (fun a => pe_callTy call_int1 (by rfl) T.z_int boot_intU a)) (we_int)) (by decide)) (wp_cons (we_str) (we_int) (wp_cons (we_str) (we_int) (wp_nil))))) (by rfl) (by rfl) (by decide) (by decide))))
  exact ⟨_, Y⟩
theorem sc__law_mixed : FnScope ["_law_draw", "_law_turn", "_law_found", "_law_prime", "_law_blend", "_law_cell"] ["_law_draw"] (defScope s__law_mixed) := ⟨rfl, rfl, rfl, by decide +kernel, rfl, by decide +kernel, by decide +kernel⟩
theorem ok__law_mixed  (F : Fun K "_law_mixed" "_law_mixed" s__law_mixed f fd) (T : Txt mg) (SMb : SM base) (C : Cst K CA mg) (Fl : Fld K CA) (Kt : KtOk K CA [0] (ktT [[.o 0]] tys))  : FnG P w K mg base false 1 f fd ["_law_draw"] (spD K CA 1 (bodyF 6 u__law_mixed)) := by
  have nd := (sc__law_mixed).nd
  refine okD F sc__law_mixed rfl rfl fun cd A outer s H E hg hr tk => ?_
  have Y : WSs (cxD P w K mg base ["_law_draw", "_law_turn", "_law_found", "_law_prime", "_law_blend", "_law_cell"] "_law_mixed" s__law_mixed f cd A outer s H E) K CA (wxD E) (defBody s__law_mixed) _ _ := wss_cons (ws_par (wa_cons (we_op op_addU (sim_add (nm := false)) (we_ix (ixU (hu_of hr)) sim_ix (we_var (pv 0)) (we_str)) (we_int)) (wa_cons (we_int) (wa_nil))) (fun q => ps_par (i := 1) (j := 2) rfl nd rfl rfl (by decide) rfl rfl q (by rfl))) (wss_cons (ws_asg (we_var (pv 1)) (wg_sub (W := wxD E) (hu_of hr) (we_var (pv 0)) (we_str) (fun a b c => pg_sub a b c))) (wss_cons (ws_for (wi_seq (we_lst false (wa_cons (we_int) (wa_cons (we_int) (wa_cons (we_int) (wa_cons (we_int) (wa_nil))))))) (wg_name (pg_name (i := 3) nd rfl (by first | exact Or.inl rfl | exact Or.inr rfl))) (wss_cons (ws_set (we_op op_addU (sim_add (nm := false)) (we_op op_mulU (sim_mul (nm := false)) (we_int) (we_var (pv 1))) (we_op op_fdiv sim_div (we_var (pv 3)) (we_int))) (fun q => ps_set (i := 4) nd rfl (by first | exact Or.inl rfl | exact Or.inr rfl) q)) (wss_cons (ws_for (wi_seq (we_ix (ixU (hu_of hr)) sim_ix (we_var (pv 0)) (we_str))) (wg_name (pg_name (i := 5) nd rfl (by first | exact Or.inl rfl | exact Or.inr rfl))) (wss_one (ws_set (we_op op_mod sim_mod (we_cb sim_int (wa_cons (we_op op_addU (sim_add (nm := false)) (we_op op_addU (sim_add (nm := false)) (we_op op_mulU (sim_mul (nm := false)) (we_var (pv 4)) (we_int)) (we_var (pv 5))) (we_var (pv 1))) (wa_nil)) (fun a => pe_callTy call_int1 (by rfl) T.z_int boot_intU a)) (we_var (pv 3))) (fun q => ps_set (i := 4) nd rfl (by first | exact Or.inl rfl | exact Or.inr rfl) q))) (fun i g b => ps_for (passes_of rfl) rfl i g b)) (wss_one (ws_set (we_op op_addU (sim_add (nm := false)) (we_op op_mulU (sim_mul (nm := false)) (we_var (pv 2)) (we_int)) (we_op op_mod sim_mod (we_cb sim_int (wa_cons (we_op op_pow sim_pow (we_var (pv 4)) (we_int)) (wa_nil)) (fun a => pe_callTy call_int1 (by rfl) T.z_int boot_intU a)) (we_var (pv 3)))) (fun q => ps_set (i := 2) nd rfl (by first | exact Or.inl rfl | exact Or.inr rfl) q))))) (fun i g b => ps_for (passes_of rfl) rfl i g b)) (wss_one (ws_ret (we_var (pv 2))))))
  exact ⟨_, Y⟩
theorem sc__law_take : FnScope ["_law_draw", "_law_size", "_law_found"] ["_law_draw", "_law_size"] (defScope s__law_take) := ⟨rfl, rfl, rfl, by decide +kernel, rfl, by decide +kernel, by decide +kernel⟩
theorem ok__law_take {f__law_mixed : Addr} {fd__law_mixed : FuncData} (F : Fun K "_law_take" "_law_take" s__law_take f fd) (T : Txt mg) (SMb : SM base) (C : Cst K CA mg) (Fl : Fld K CA) (Kt : KtOk K CA [0] (ktT [[.o 0]] tys)) (B__law_mixed_1 : KwB K CA fd__law_mixed ["_law_draw"] 1 [] (srcP 0 1)) (D__law_mixed : Df P w K mg base CA "_law_mixed" false 1 ["_law_draw"] F__law_mixed f__law_mixed fd__law_mixed) : FnG P w K mg base false 2 f fd ["_law_draw", "_law_size"] (spD K CA 2 (bodyF 3 u__law_take)) := by
  have nd := (sc__law_take).nd
  refine okD F sc__law_take rfl rfl fun cd A outer s H E hg hr tk => ?_
  have Y : WSs (cxD P w K mg base ["_law_draw", "_law_size", "_law_found"] "_law_take" s__law_take f cd A outer s H E) K CA (wxD E) (defBody s__law_take) _ _ := wss_cons (ws_if (wt_cmp (op_eqU hr.units) sim_eq (we_ix (ixU (hu_of hr)) sim_ix (we_var (pv 0)) (we_str)) (we_int) (by rfl)) (wss_one (ws_asg (we_ifExp (wt_cmp (op_neU hr.units) sim_ne (we_ix (ixU (hu_of hr)) sim_ix (we_var (pv 0)) (we_str)) (we_lst false (wa_nil)) (by rfl)) (we_bm (T := "list") (r := rPopAt) sim_popAt (we_ix (ixU (hu_of hr)) sim_ix (we_var (pv 0)) (we_str)) (wa_cons (we_int) (wa_nil)) (fun a b => pe_bm PySem.F.plainAttrs_list PySem.F.slot_list_pop PySem.F.type_list_pop mt_popAt a b)) (we_callP D__law_mixed noG (hr.mono (by decide)) tk (wa_cons (we_var (pv 0)) (wa_nil)) B__law_mixed_1)) (wg_sub (W := wxD E) (hu_of hr) (we_var (pv 0)) (we_str) (fun a b c => pg_sub a b c)))) (wss_nil)) (wss_cons (ws_set (we_op op_mod sim_mod (we_cb sim_int (wa_cons (we_ix (ixU (hu_of hr)) sim_ix (we_var (pv 0)) (we_str)) (wa_nil)) (fun a => pe_callTy call_int1 (by rfl) T.z_int boot_intU a)) (we_var (pv 1))) (fun q => ps_set (i := 2) nd rfl (by first | exact Or.inl rfl | exact Or.inr rfl) q)) (wss_cons (ws_asg (we_op op_fdiv sim_div (we_ix (ixU (hu_of hr)) sim_ix (we_var (pv 0)) (we_str)) (we_var (pv 1))) (wg_sub (W := wxD E) (hu_of hr) (we_var (pv 0)) (we_str) (fun a b c => pg_sub a b c))) (wss_one (ws_ret (we_var (pv 2))))))
  exact ⟨_, Y⟩
theorem sc__law_pick : FnScope ["_law_draw", "_law_some"] ["_law_draw", "_law_some"] (defScope s__law_pick) := ⟨rfl, rfl, rfl, by decide +kernel, rfl, by decide +kernel, by decide +kernel⟩
theorem ok__law_pick {f__law_take : Addr} {fd__law_take : FuncData} (F : Fun K "_law_pick" "_law_pick" s__law_pick f fd) (T : Txt mg) (SMb : SM base) (C : Cst K CA mg) (Fl : Fld K CA) (Kt : KtOk K CA [0] (ktT [[.o 0]] tys)) (B__law_take_2 : KwB K CA fd__law_take ["_law_draw", "_law_size"] 2 [] (srcP 0 2)) (D__law_take : Df P w K mg base CA "_law_take" false 2 ["_law_draw", "_law_size"] F__law_take f__law_take fd__law_take) : FnG P w K mg base false 3 f fd ["_law_draw", "_law_some"] (spD K CA 2 (bodyF 2 u__law_pick)) := by
  have nd := (sc__law_pick).nd
  refine okD F sc__law_pick rfl rfl fun cd A outer s H E hg hr tk => ?_
  have Y : WSs (cxD P w K mg base ["_law_draw", "_law_some"] "_law_pick" s__law_pick f cd A outer s H E) K CA (wxD E) (defBody s__law_pick) _ _ := wss_one (ws_ret (we_ix (ixU (hu_of hr)) sim_ix (we_var (pv 1)) (we_callP D__law_take noG (hr.mono (by decide)) tk (wa_cons (we_var (pv 0)) (wa_cons (we_cb sim_len (wa_cons (we_var (pv 1)) (wa_nil)) (fun a => pe_callB (call_lenU rfl call_lenRd) (by rfl) T.z_len boot_lenU a)) (wa_nil))) B__law_take_2)))
  exact ⟨_, Y⟩
theorem sc__law_owned : FnScope ["_law_draw", "_law_most", "_law_way", "_law_cell"] ["_law_draw", "_law_most"] (defScope s__law_owned) := ⟨rfl, rfl, rfl, by decide +kernel, rfl, by decide +kernel, by decide +kernel⟩
theorem ok__law_owned {f__law_take : Addr} {fd__law_take : FuncData} (F : Fun K "_law_owned" "_law_owned" s__law_owned f fd) (T : Txt mg) (SMb : SM base) (C : Cst K CA mg) (Fl : Fld K CA) (Kt : KtOk K CA [0] (ktT [[.o 0]] tys)) (B__law_take_2 : KwB K CA fd__law_take ["_law_draw", "_law_size"] 2 [] (srcP 0 2)) (D__law_take : Df P w K mg base CA "_law_take" false 2 ["_law_draw", "_law_size"] F__law_take f__law_take fd__law_take) : FnG P w K mg base false 3 f fd ["_law_draw", "_law_most"] (spD K CA 2 (bodyF 4 u__law_owned)) := by
  have nd := (sc__law_owned).nd
  refine okD F sc__law_owned rfl rfl fun cd A outer s H E hg hr tk => ?_
  have Y : WSs (cxD P w K mg base ["_law_draw", "_law_most", "_law_way", "_law_cell"] "_law_owned" s__law_owned f cd A outer s H E) K CA (wxD E) (defBody s__law_owned) _ _ := wss_cons (ws_set (we_callP D__law_take noG (hr.mono (by decide)) tk (wa_cons (we_var (pv 0)) (wa_cons (we_int) (wa_nil))) B__law_take_2) (fun q => ps_set (i := 2) nd rfl (by first | exact Or.inl rfl | exact Or.inr rfl) q)) (wss_cons (ws_if (wt_cmp (op_eqU hr.units) sim_eq (we_var (pv 2)) (we_int) (by rfl)) (wss_one (ws_ret (we_tup (wa_nil)))) (wss_nil)) (wss_cons (ws_if (wt_cmp (op_eqU hr.units) sim_eq (we_var (pv 2)) (we_int) (by rfl)) (wss_one (ws_ret (we_tupR (we_var (pv 1)) T.z_tuple T.z_range))) (wss_nil)) (wss_one (ws_ret (we_cb sim_tupOf (wa_cons (we_lc false rfl nd (own := [("_law_cell", 3)]) (wi_rng1 (wa_cons (we_var (pv 1)) (wa_nil)) (fun a => pi_range1 (by rfl) T.z_range a)) (blkOk_by (N := ["_law_draw", "_law_most", "_law_way", "_law_cell"]) (sc := defScope s__law_owned) (by decide +kernel)) (fun s_ H_ C_ cl_ fp_ => wg_name (pg_name (i := 3) nd rfl (by first | exact Or.inl rfl | exact Or.inr rfl))) (fun s_ H_ C_ cl_ fp_ => wts_one (wt_cmp (op_eqU hr.units) sim_eq (we_callP D__law_take noG (hr.mono (by decide)) takes0 (wa_cons (we_var (pv 0)) (wa_cons (we_ifExp (wt_cmp op_lt sim_cB (we_var (pv 2)) (we_int) (by rfl)) (we_int) (we_int)) (wa_nil))) B__law_take_2) (we_int) (by rfl))) (fun s_ H_ C_ cl_ fp_ => we_var (pv 3)) (by decide)) (wa_nil)) (fun a => pe_callTy call_tupOf (by rfl) T.z_tuple boot_tupleU a))))))
  exact ⟨_, Y⟩
theorem sc__law_chain : FnScope ["_law_draw", "_law_least", "_law_most", "_law_cells", "_law_turn"] ["_law_draw", "_law_least", "_law_most"] (defScope s__law_chain) := ⟨rfl, rfl, rfl, by decide +kernel, rfl, by decide +kernel, by decide +kernel⟩
theorem ok__law_chain {f__law_pick : Addr} {fd__law_pick : FuncData} {f__law_take : Addr} {fd__law_take : FuncData} {f__law_owned : Addr} {fd__law_owned : FuncData} (F : Fun K "_law_chain" "_law_chain" s__law_chain f fd) (T : Txt mg) (SMb : SM base) (C : Cst K CA mg) (Fl : Fld K CA) (Kt : KtOk K CA [0] (ktT [[.o 0]] tys)) (B__law_pick_2 : KwB K CA fd__law_pick ["_law_draw", "_law_some"] 2 [] (srcP 0 2)) (D__law_pick : Df P w K mg base CA "_law_pick" false 3 ["_law_draw", "_law_some"] F__law_pick f__law_pick fd__law_pick) (B__law_take_2 : KwB K CA fd__law_take ["_law_draw", "_law_size"] 2 [] (srcP 0 2)) (D__law_take : Df P w K mg base CA "_law_take" false 2 ["_law_draw", "_law_size"] F__law_take f__law_take fd__law_take) (B__law_owned_2 : KwB K CA fd__law_owned ["_law_draw", "_law_most"] 2 [] (srcP 0 2)) (D__law_owned : Df P w K mg base CA "_law_owned" false 3 ["_law_draw", "_law_most"] F__law_owned f__law_owned fd__law_owned) : FnG P w K mg base false 4 f fd ["_law_draw", "_law_least", "_law_most"] (spD K CA 3 (bodyF 5 u__law_chain)) := by
  have nd := (sc__law_chain).nd
  refine okD F sc__law_chain rfl rfl fun cd A outer s H E hg hr tk => ?_
  have Y : WSs (cxD P w K mg base ["_law_draw", "_law_least", "_law_most", "_law_cells", "_law_turn"] "_law_chain" s__law_chain f cd A outer s H E) K CA (wxD E) (defBody s__law_chain) _ _ := wss_cons (ws_set (we_callP D__law_pick noG (hr.mono (by decide)) tk (wa_cons (we_var (pv 0)) (wa_cons (we_lst false (wa_cons (we_int) (wa_cons (we_int) (wa_cons (we_int) (wa_cons (we_int) (wa_nil)))))) (wa_nil))) B__law_pick_2) (fun q => ps_set (i := 3) nd rfl (by first | exact Or.inl rfl | exact Or.inr rfl) q)) (wss_one (ws_ret (we_lc false rfl nd (own := [("_law_turn", 4)]) (wi_rng1 (wa_cons (we_op op_addU (sim_add (nm := false)) (we_var (pv 1)) (we_callP D__law_take noG (hr.mono (by decide)) tk (wa_cons (we_var (pv 0)) (wa_cons (we_op op_addU (sim_add (nm := false)) (we_op op_sub sim_subI (we_var (pv 2)) (we_var (pv 1))) (we_int)) (wa_nil))) B__law_take_2)) (wa_nil)) (fun a => pi_range1 (by rfl) T.z_range a)) (blkOk_by (N := ["_law_draw", "_law_least", "_law_most", "_law_cells", "_law_turn"]) (sc := defScope s__law_chain) (by decide +kernel)) (fun s_ H_ C_ cl_ fp_ => wg_name (pg_name (i := 4) nd rfl (by first | exact Or.inl rfl | exact Or.inr rfl))) (fun s_ H_ C_ cl_ fp_ => wts_nil) (fun s_ H_ C_ cl_ fp_ => we_callP D__law_owned noG (hr.mono (by decide)) takes0 (wa_cons (we_var (pv 0)) (wa_cons (we_var (pv 3)) (wa_nil))) B__law_owned_2) (by decide))))
  exact ⟨_, Y⟩
theorem sc__law_plan : FnScope ["_law_draw", "_law_first", "_law_last", "_law_middle", "_law_kind"] ["_law_draw", "_law_first", "_law_last"] (defScope s__law_plan) := ⟨rfl, rfl, rfl, by decide +kernel, rfl, by decide +kernel, by decide +kernel⟩
theorem ok__law_plan {f__law_take : Addr} {fd__law_take : FuncData} {f__law_pick : Addr} {fd__law_pick : FuncData} {f__law_plan : Addr} {fd__law_plan : FuncData} (j : Nat) {R_ : FD} (F : Fun K "_law_plan" "_law_plan" s__law_plan f fd) (T : Txt mg) (SMb : SM base) (C : Cst K CA mg) (Fl : Fld K CA) (Kt : KtOk K CA [0] (ktT [[.o 0]] tys)) (B__law_take_2 : KwB K CA fd__law_take ["_law_draw", "_law_size"] 2 [] (srcP 0 2)) (D__law_take : Df P w K mg base CA "_law_take" false 2 ["_law_draw", "_law_size"] F__law_take f__law_take fd__law_take) (B__law_pick_2 : KwB K CA fd__law_pick ["_law_draw", "_law_some"] 2 [] (srcP 0 2)) (D__law_pick : Df P w K mg base CA "_law_pick" false 3 ["_law_draw", "_law_some"] F__law_pick f__law_pick fd__law_pick) (B__law_plan_3 : KwB K CA fd__law_plan ["_law_draw", "_law_first", "_law_last"] 3 [] (srcP 0 3)) (D__law_plan : Df P w K mg base CA "_law_plan" false (3 + j) ["_law_draw", "_law_first", "_law_last"] R_ f__law_plan fd__law_plan) : FnG P w K mg base false (3 + j + 1) f fd ["_law_draw", "_law_first", "_law_last"] (spD K CA 3 (bodyF 5 (u__law_plan R_))) := by
  have nd := (sc__law_plan).nd
  refine okD F sc__law_plan rfl rfl fun cd A outer s H E hg hr tk => ?_
  have Y : WSs (cxD P w K mg base ["_law_draw", "_law_first", "_law_last", "_law_middle", "_law_kind"] "_law_plan" s__law_plan f cd A outer s H E) K CA (wxD E) (defBody s__law_plan) _ _ := wss_cons (ws_if (wt_cmp (op_eqU hr.units) sim_eq (we_var (pv 1)) (we_var (pv 2)) (by rfl)) (wss_one (ws_ret (we_var (pv 1)))) (wss_nil)) (wss_cons (ws_set (we_op op_addU (sim_add (nm := false)) (we_var (pv 1)) (we_callP D__law_take noG (hr.mono (by omega)) tk (wa_cons (we_var (pv 0)) (wa_cons (we_op op_sub sim_subI (we_var (pv 2)) (we_var (pv 1))) (wa_nil))) B__law_take_2)) (fun q => ps_set (i := 3) nd rfl (by first | exact Or.inl rfl | exact Or.inr rfl) q)) (wss_cons (ws_set (we_callP D__law_pick noG (hr.mono (by omega)) tk (wa_cons (we_var (pv 0)) (wa_cons (we_lst false (wa_cons (we_str) (wa_cons (we_str) (wa_nil)))) (wa_nil))) B__law_pick_2) (fun q => ps_set (i := 4) nd rfl (by first | exact Or.inl rfl | exact Or.inr rfl) q)) (wss_one (ws_ret (we_tup (wa_cons (we_var (pv 4)) (wa_cons (we_callP D__law_plan noG (hr.mono (by omega)) tk (wa_cons (we_var (pv 0)) (wa_cons (we_var (pv 1)) (wa_cons (we_var (pv 3)) (wa_nil)))) B__law_plan_3) (wa_cons (we_callP D__law_plan noG (hr.mono (by omega)) tk (wa_cons (we_var (pv 0)) (wa_cons (we_op op_addU (sim_add (nm := false)) (we_var (pv 3)) (we_int)) (wa_cons (we_var (pv 2)) (wa_nil)))) B__law_plan_3) (wa_nil)))))))))
  exact ⟨_, Y⟩
theorem sc_is_cell : FnScope ["thing"] ["thing"] (defScope s_is_cell) := ⟨rfl, rfl, rfl, by decide +kernel, rfl, by decide +kernel, by decide +kernel⟩
theorem ok_is_cell  (F : Fun K "is_cell" "is_cell" s_is_cell f fd) (T : Txt mg) (SMb : SM base) (C : Cst K CA mg) (Fl : Fld K CA) (Kt : KtOk K CA [0] (ktT [[.o 0]] tys))  : FnG P w K mg base false 1 f fd ["thing"] (spD K CA 1 (bodyF 1 u_is_cell)) := by
  have nd := (sc_is_cell).nd
  refine okD F sc_is_cell rfl rfl fun cd A outer s H E hg hr tk => ?_
  have Y : WSs (cxD P w K mg base ["thing"] "is_cell" s_is_cell f cd A outer s H E) K CA (wxD E) (defBody s_is_cell) _ _ := wss_one (ws_ret (we_and (we_cb (sim_isi Kt) (wa_cons (we_var (pv 0)) (wa_cons (we_ty (pe_bltn (by rfl) T.z_int boot_intU rfl)) (wa_nil))) (fun a => pe_callB call_isiU (by rfl) T.z_isinstance boot_isinstanceU a)) (we_and (we_not (we_cb (sim_isi Kt) (wa_cons (we_var (pv 0)) (wa_cons (we_ty (pe_bltn (by rfl) T.z_bool boot_boolU rfl)) (wa_nil))) (fun a => pe_callB call_isiU (by rfl) T.z_isinstance boot_isinstanceU a))) (we_one (we_cmp op_ge sim_cB (we_var (pv 0)) (we_int) (by rfl))))))
  exact ⟨_, Y⟩
theorem sc_is_owned : FnScope ["thing", "cell"] ["thing"] (defScope s_is_owned) := ⟨rfl, rfl, rfl, by decide +kernel, rfl, by decide +kernel, by decide +kernel⟩
theorem ok_is_owned {f_is_cell : Addr} {fd_is_cell : FuncData} (F : Fun K "is_owned" "is_owned" s_is_owned f fd) (T : Txt mg) (SMb : SM base) (C : Cst K CA mg) (Fl : Fld K CA) (Kt : KtOk K CA [0] (ktT [[.o 0]] tys)) (B_is_cell_1 : KwB K CA fd_is_cell ["thing"] 1 [] (srcP 0 1)) (D_is_cell : Df P w K mg base CA "is_cell" false 1 ["thing"] F_is_cell f_is_cell fd_is_cell) : FnG P w K mg base false 2 f fd ["thing"] (spD K CA 1 (bodyF 2 u_is_owned)) := by
  have nd := (sc_is_owned).nd
  refine okD F sc_is_owned rfl rfl fun cd A outer s H E hg hr tk => ?_
  have Y : WSs (cxD P w K mg base ["thing", "cell"] "is_owned" s_is_owned f cd A outer s H E) K CA (wxD E) (defBody s_is_owned) _ _ := wss_cons (ws_if (CM.WW.wt (ww_or (wt_not (wt_val (we_cb (sim_isi Kt) (wa_cons (we_var (pv 0)) (wa_cons (we_ty (pe_bltn (by rfl) T.z_tuple boot_tupleU rfl)) (wa_nil))) (fun a => pe_callB call_isiU (by rfl) T.z_isinstance boot_isinstanceU a)))) (ww_or1 (wt_not (wt_val (we_cb sim_all (wa_cons (we_lc false rfl nd (own := [("cell", 1)]) (wi_seq (we_var (pv 0))) (blkOk_by (N := ["thing", "cell"]) (sc := defScope s_is_owned) (by decide +kernel)) (fun s_ H_ C_ cl_ fp_ => wg_name (pg_name (i := 1) nd rfl (by first | exact Or.inl rfl | exact Or.inr rfl))) (fun s_ H_ C_ cl_ fp_ => wts_nil) (fun s_ H_ C_ cl_ fp_ => we_callP D_is_cell noG (hr.mono (by decide)) takes0 (wa_cons (we_var (pv 1)) (wa_nil)) B_is_cell_1) (by decide)) (wa_nil)) (fun a => pe_callB call_allU (by rfl) T.z_all boot_allU a))))))) (wss_one (ws_ret (we_bl))) (wss_nil)) (wss_one (ws_ret (we_cmp (op_eqU hr.units) sim_eq (we_cb (sim_listOf (nm := false)) (wa_cons (we_var (pv 0)) (wa_nil)) (fun a => pe_callTy call_listOf (by rfl) T.z_list boot_listU a)) (we_sortSet false (we_var (pv 0)) T.z_sorted T.z_set) (by rfl))))
  exact ⟨_, Y⟩
theorem sc_need_chain : FnScope ["chain", "owned"] ["chain"] (defScope s_need_chain) := ⟨rfl, rfl, rfl, by decide +kernel, rfl, by decide +kernel, by decide +kernel⟩
theorem ok_need_chain {f_is_owned : Addr} {fd_is_owned : FuncData} (F : Fun K "need_chain" "need_chain" s_need_chain f fd) (T : Txt mg) (SMb : SM base) (C : Cst K CA mg) (Fl : Fld K CA) (Kt : KtOk K CA [0] (ktT [[.o 0]] tys)) (B_is_owned_1 : KwB K CA fd_is_owned ["thing"] 1 [] (srcP 0 1)) (D_is_owned : Df P w K mg base CA "is_owned" false 2 ["thing"] F_is_owned f_is_owned fd_is_owned) : FnG P w K mg base false 3 f fd ["chain"] (spD K CA 1 (bodyF 2 u_need_chain)) := by
  have nd := (sc_need_chain).nd
  refine okD F sc_need_chain rfl rfl fun cd A outer s H E hg hr tk => ?_
  have Y : WSs (cxD P w K mg base ["chain", "owned"] "need_chain" s_need_chain f cd A outer s H E) K CA (wxD E) (defBody s_need_chain) _ _ := wss_cons (ws_if (CM.WW.wt (ww_or (wt_not (wt_val (we_cb (sim_isT Kt) (wa_cons (we_var (pv 0)) (wa_cons (we_tup (wa_cons (we_ty (pe_bltn (by rfl) T.z_list boot_listU rfl)) (wa_cons (we_ty (pe_bltn (by rfl) T.z_tuple boot_tupleU rfl)) (wa_nil)))) (wa_nil))) (fun a => pe_callB call_isiTU (by rfl) T.z_isinstance boot_isinstanceU a)))) (ww_or1 (wt_not (wt_chain sim_cB sim_cB (we_int) (we_cb sim_len (wa_cons (we_var (pv 0)) (wa_nil)) (fun a => pe_callB (call_lenU rfl call_lenRd) (by rfl) T.z_len boot_lenU a)) (we_gv C.g_MOST_LAYERS) (fun a b c => pt_chain op_le op_le a b c)))))) (wss_one (ws_never)) (wss_nil)) (wss_one (ws_if (wt_not (wt_val (we_cb sim_all (wa_cons (we_lc false rfl nd (own := [("owned", 1)]) (wi_seq (we_var (pv 0))) (blkOk_by (N := ["chain", "owned"]) (sc := defScope s_need_chain) (by decide +kernel)) (fun s_ H_ C_ cl_ fp_ => wg_name (pg_name (i := 1) nd rfl (by first | exact Or.inl rfl | exact Or.inr rfl))) (fun s_ H_ C_ cl_ fp_ => wts_nil) (fun s_ H_ C_ cl_ fp_ => we_callP D_is_owned noG (hr.mono (by decide)) takes0 (wa_cons (we_var (pv 1)) (wa_nil)) B_is_owned_1) (by decide)) (wa_nil)) (fun a => pe_callB call_allU (by rfl) T.z_all boot_allU a)))) (wss_one (ws_never)) (wss_nil)))
  exact ⟨_, Y⟩
theorem sc_span_of : FnScope ["many", "thing", "lower", "upper"] ["many", "thing"] (defScope s_span_of) := ⟨rfl, rfl, rfl, by decide +kernel, rfl, by decide +kernel, by decide +kernel⟩
theorem ok_span_of {f_is_cell : Addr} {fd_is_cell : FuncData} {f_span_of : Addr} {fd_span_of : FuncData} (j : Nat) {R_ : FD} (F : Fun K "span_of" "span_of" s_span_of f fd) (T : Txt mg) (SMb : SM base) (C : Cst K CA mg) (Fl : Fld K CA) (Kt : KtOk K CA [0] (ktT [[.o 0]] tys)) (B_is_cell_1 : KwB K CA fd_is_cell ["thing"] 1 [] (srcP 0 1)) (D_is_cell : Df P w K mg base CA "is_cell" false 1 ["thing"] F_is_cell f_is_cell fd_is_cell) (B_span_of_2 : KwB K CA fd_span_of ["many", "thing"] 2 [] (srcP 0 2)) (D_span_of : Df P w K mg base CA "span_of" false (1 + j) ["many", "thing"] R_ f_span_of fd_span_of) : FnG P w K mg base false (1 + j + 1) f fd ["many", "thing"] (spD K CA 2 (bodyF 4 (u_span_of R_))) := by
  have nd := (sc_span_of).nd
  refine okD F sc_span_of rfl rfl fun cd A outer s H E hg hr tk => ?_
  have Y : WSs (cxD P w K mg base ["many", "thing", "lower", "upper"] "span_of" s_span_of f cd A outer s H E) K CA (wxD E) (defBody s_span_of) _ _ := wss_cons (ws_if (wt_val (we_callP D_is_cell noG (hr.mono (by omega)) tk (wa_cons (we_var (pv 1)) (wa_nil)) B_is_cell_1)) (wss_one (ws_ret (we_ifExp (wt_cmp op_lt sim_cB (we_var (pv 1)) (we_var (pv 0)) (by rfl)) (we_tup (wa_cons (we_var (pv 1)) (wa_cons (we_var (pv 1)) (wa_nil)))) (we_non)))) (wss_nil)) (wss_cons (ws_if (CM.WW.wt (ww_or (wt_not (wt_val (we_cb (sim_isi Kt) (wa_cons (we_var (pv 1)) (wa_cons (we_ty (pe_bltn (by rfl) T.z_tuple boot_tupleU rfl)) (wa_nil))) (fun a => pe_callB call_isiU (by rfl) T.z_isinstance boot_isinstanceU a)))) (ww_or (wt_cmp (op_neU hr.units) sim_ne (we_cb sim_len (wa_cons (we_var (pv 1)) (wa_nil)) (fun a => pe_callB (call_lenU rfl call_lenRd) (by rfl) T.z_len boot_lenU a)) (we_int) (by rfl)) (ww_or (wt_not (wt_val (we_cb (sim_isi Kt) (wa_cons (we_ix (ixU (hu_of hr)) sim_ix (we_var (pv 1)) (we_int)) (wa_cons (we_ty (pe_bltn (by rfl) T.z_str boot_strU rfl)) (wa_nil))) (fun a => pe_callB call_isiU (by rfl) T.z_isinstance boot_isinstanceU a)))) (ww_or1 (wt_cmp (op_notInU (hu_of hr)) (sim_in (neg := true)) (we_ix (ixU (hu_of hr)) sim_ix (we_var (pv 1)) (we_int)) (we_gv C.g_KINDS) (by rfl))))))) (wss_one (ws_ret (we_non))) (wss_nil)) (wss_cons (ws_par (wa_cons (we_callP D_span_of noG (hr.mono (by omega)) tk (wa_cons (we_var (pv 0)) (wa_cons (we_ix (ixU (hu_of hr)) sim_ix (we_var (pv 1)) (we_int)) (wa_nil))) B_span_of_2) (wa_cons (we_callP D_span_of noG (hr.mono (by omega)) tk (wa_cons (we_var (pv 0)) (wa_cons (we_ix (ixU (hu_of hr)) sim_ix (we_var (pv 1)) (we_int)) (wa_nil))) B_span_of_2) (wa_nil))) (fun q => ps_par (i := 2) (j := 3) rfl nd rfl rfl (by decide) rfl rfl q (by rfl))) (wss_cons (ws_if (CM.WW.wt (ww_or (wt_cmp op_isN sim_isN (we_var (pv 2)) (we_non) (by rfl)) (ww_or (wt_cmp op_isN sim_isN (we_var (pv 3)) (we_non) (by rfl)) (ww_or1 (wt_cmp (op_neU hr.units) sim_ne (we_op op_addU (sim_add (nm := false)) (we_ix (ixU (hu_of hr)) sim_ix (we_var (pv 2)) (we_int)) (we_int)) (we_ix (ixU (hu_of hr)) sim_ix (we_var (pv 3)) (we_int)) (by rfl)))))) (wss_one (ws_ret (we_non))) (wss_nil)) (wss_one (ws_ret (we_tup (wa_cons (we_ix (ixU (hu_of hr)) sim_ix (we_var (pv 2)) (we_int)) (wa_cons (we_ix (ixU (hu_of hr)) sim_ix (we_var (pv 3)) (we_int)) (wa_nil)))))))))
  exact ⟨_, Y⟩
theorem sc_is_plan : FnScope ["chain", "thing"] ["chain", "thing"] (defScope s_is_plan) := ⟨rfl, rfl, rfl, by decide +kernel, rfl, by decide +kernel, by decide +kernel⟩
theorem ok_is_plan {f_need_chain : Addr} {fd_need_chain : FuncData} {f_span_of : Addr} {fd_span_of : FuncData} (F : Fun K "is_plan" "is_plan" s_is_plan f fd) (T : Txt mg) (SMb : SM base) (C : Cst K CA mg) (Fl : Fld K CA) (Kt : KtOk K CA [0] (ktT [[.o 0]] tys)) (B_need_chain_1 : KwB K CA fd_need_chain ["chain"] 1 [] (srcP 0 1)) (D_need_chain : Df P w K mg base CA "need_chain" false 3 ["chain"] F_need_chain f_need_chain fd_need_chain) (B_span_of_2 : KwB K CA fd_span_of ["many", "thing"] 2 [] (srcP 0 2)) (D_span_of : Df P w K mg base CA "span_of" false 10 ["many", "thing"] F_span_of f_span_of fd_span_of) : FnG P w K mg base false 11 f fd ["chain", "thing"] (spD K CA 2 (bodyF 2 u_is_plan)) := by
  have nd := (sc_is_plan).nd
  refine okD F sc_is_plan rfl rfl fun cd A outer s H E hg hr tk => ?_
  have Y : WSs (cxD P w K mg base ["chain", "thing"] "is_plan" s_is_plan f cd A outer s H E) K CA (wxD E) (defBody s_is_plan) _ _ := wss_cons (ws_expr (we_callP D_need_chain noG (hr.mono (by decide)) tk (wa_cons (we_var (pv 0)) (wa_nil)) B_need_chain_1)) (wss_one (ws_ret (we_cmp (op_eqU hr.units) sim_eq (we_callP D_span_of noG (hr.mono (by decide)) tk (wa_cons (we_cb sim_len (wa_cons (we_var (pv 0)) (wa_nil)) (fun a => pe_callB (call_lenU rfl call_lenRd) (by rfl) T.z_len boot_lenU a)) (wa_cons (we_var (pv 1)) (wa_nil))) B_span_of_2) (we_tup (wa_cons (we_int) (wa_cons (we_op op_sub sim_subI (we_cb sim_len (wa_cons (we_var (pv 0)) (wa_nil)) (fun a => pe_callB (call_lenU rfl call_lenRd) (by rfl) T.z_len boot_lenU a)) (we_int)) (wa_nil)))) (by rfl))))
  exact ⟨_, Y⟩
theorem sc_need_plan : FnScope ["chain", "plan"] ["chain", "plan"] (defScope s_need_plan) := ⟨rfl, rfl, rfl, by decide +kernel, rfl, by decide +kernel, by decide +kernel⟩
theorem ok_need_plan {f_is_plan : Addr} {fd_is_plan : FuncData} (F : Fun K "need_plan" "need_plan" s_need_plan f fd) (T : Txt mg) (SMb : SM base) (C : Cst K CA mg) (Fl : Fld K CA) (Kt : KtOk K CA [0] (ktT [[.o 0]] tys)) (B_is_plan_2 : KwB K CA fd_is_plan ["chain", "thing"] 2 [] (srcP 0 2)) (D_is_plan : Df P w K mg base CA "is_plan" false 11 ["chain", "thing"] F_is_plan f_is_plan fd_is_plan) : FnG P w K mg base false 12 f fd ["chain", "plan"] (spD K CA 2 (bodyF 2 u_need_plan)) := by
  have nd := (sc_need_plan).nd
  refine okD F sc_need_plan rfl rfl fun cd A outer s H E hg hr tk => ?_
  have Y : WSs (cxD P w K mg base ["chain", "plan"] "need_plan" s_need_plan f cd A outer s H E) K CA (wxD E) (defBody s_need_plan) _ _ := wss_one (ws_if (wt_not (wt_val (we_callP D_is_plan noG (hr.mono (by decide)) tk (wa_cons (we_var (pv 0)) (wa_cons (we_var (pv 1)) (wa_nil))) B_is_plan_2))) (wss_one (ws_never)) (wss_nil))
  exact ⟨_, Y⟩
theorem sc_Work_merged : FnScope ["self", "plan", "lower", "upper", "turn"] ["self", "plan"] (defScope s_Work_merged) := ⟨rfl, rfl, rfl, by decide +kernel, rfl, by decide +kernel, by decide +kernel⟩
theorem ok_Work_merged {f_is_cell : Addr} {fd_is_cell : FuncData} {f_Work_merged : Addr} {fd_Work_merged : FuncData} (j : Nat) {R_ : FD} (F : Fun K "merged" "Work.merged" s_Work_merged f fd) (T : Txt mg) (SMb : SM base) (C : Cst K CA mg) (Fl : Fld K CA) (Kt : KtOk K CA [0] (ktT [[.o 0]] tys)) (B_is_cell_1 : KwB K CA fd_is_cell ["thing"] 1 [] (srcP 0 1)) (D_is_cell : Df P w K mg base CA "is_cell" false 1 ["thing"] F_is_cell f_is_cell fd_is_cell) (B_Work_merged_2 : KwB K CA fd_Work_merged ["self", "plan"] 2 [] (srcP 0 2)) (M_Work_merged : Mtd P w K mg base CA 0 "merged" false (1 + j) ["self", "plan"] R_ f_Work_merged fd_Work_merged) : FnG P w K mg base false (1 + j + 1) f fd ["self", "plan"] (spD K CA 2 (bodyF 5 (u_Work_merged R_))) := by
  have nd := (sc_Work_merged).nd
  refine okD F sc_Work_merged rfl rfl fun cd A outer s H E hg hr tk => ?_
  have Y : WSs (cxD P w K mg base ["self", "plan", "lower", "upper", "turn"] "Work.merged" s_Work_merged f cd A outer s H E) K CA (wxD E) (defBody s_Work_merged) _ _ := wss_cons (ws_if (wt_val (we_callP D_is_cell noG (hr.mono (by omega)) tk (wa_cons (we_var (pv 1)) (wa_nil)) B_is_cell_1)) (wss_one (ws_ret (we_op op_addU (sim_add (nm := false)) (we_var (pv 1)) (we_int)))) (wss_nil)) (wss_cons (ws_par (wa_cons (we_meth M_Work_merged noG (hr.mono (by omega)) tk (we_var (pv 0)) (wa_cons (we_ix (ixU (hu_of hr)) sim_ix (we_var (pv 1)) (we_int)) (wa_nil)) B_Work_merged_2) (wa_cons (we_meth M_Work_merged noG (hr.mono (by omega)) tk (we_var (pv 0)) (wa_cons (we_ix (ixU (hu_of hr)) sim_ix (we_var (pv 1)) (we_int)) (wa_nil)) B_Work_merged_2) (wa_nil))) (fun q => ps_par (i := 2) (j := 3) rfl nd rfl rfl (by decide) rfl rfl q (by rfl))) (wss_cons (ws_expr (we_bm (T := "list") (r := rAppend) sim_append (we_fld Fl.x_line (we_var (pv 0))) (wa_cons (we_tup (wa_cons (we_str) (wa_cons (we_ix (ixU (hu_of hr)) sim_ix (we_var (pv 1)) (we_int)) (wa_cons (we_var (pv 3)) (wa_nil))))) (wa_nil)) (fun a b => pe_bm PySem.F.plainAttrs_list PySem.F.slot_list_append PySem.F.type_list_append mt_append a b))) (wss_cons (ws_expr (we_bm (T := "list") (r := rExtend) sim_extend (we_fld Fl.x_line (we_var (pv 0))) (wa_cons (we_lc false rfl nd (own := [("turn", 4)]) (wi_rng1 (wa_cons (we_op op_addU (sim_add (nm := false)) (we_fld Fl.x_cells_there (we_var (pv 0))) (we_int)) (wa_nil)) (fun a => pi_range1 (by rfl) T.z_range a)) (blkOk_by (N := ["self", "plan", "lower", "upper", "turn"]) (sc := defScope s_Work_merged) (by decide +kernel)) (fun s_ H_ C_ cl_ fp_ => wg_name (pg_name (i := 4) nd rfl (by first | exact Or.inl rfl | exact Or.inr rfl))) (fun s_ H_ C_ cl_ fp_ => wts_nil) (fun s_ H_ C_ cl_ fp_ => we_tup (wa_cons (we_str) (wa_cons (we_fld Fl.x_begun_jobs (we_var (pv 0))) (wa_nil)))) (by decide)) (wa_nil)) (fun a b => pe_bm PySem.F.plainAttrs_list PySem.F.slot_list_extend PySem.F.type_list_extend mt_extend a b))) (wss_cons (ws_fldAug (W := wxD E) Fl.x_begun_jobs (we_var (pv 0)) (we_int)) (wss_one (ws_ret (we_ifExp (wt_cmp (op_eqU hr.units) sim_eq (we_ix (ixU (hu_of hr)) sim_ix (we_var (pv 1)) (we_int)) (we_str) (by rfl)) (we_var (pv 3)) (we_var (pv 2)))))))))
  exact ⟨_, Y⟩
theorem sc_Work_init : FnScope ["self", "cells"] ["self", "cells"] (defScope s_Work_init) := ⟨rfl, rfl, rfl, by decide +kernel, rfl, by decide +kernel, by decide +kernel⟩
theorem ok_Work_init  (F : Fun K "__init__" "Work.__init__" s_Work_init f fd) (T : Txt mg) (SMb : SM base) (C : Cst K CA mg) (Fl : Fld K CA) (Kt : KtOk K CA [0] (ktT [[.o 0]] tys))  : FnG P w K mg base false 1 f fd ["self", "cells"] (spD K CA 2 (bodyF 2 u_Work_init)) := by
  have nd := (sc_Work_init).nd
  refine okD F sc_Work_init rfl rfl fun cd A outer s H E hg hr tk => ?_
  have Y : WSs (cxD P w K mg base ["self", "cells"] "Work.__init__" s_Work_init f cd A outer s H E) K CA (wxD E) (defBody s_Work_init) _ _ := wss_cons (ws_asg (we_var (pv 1)) (wg_fld (W := wxD E) Fl.x_cells_there (we_var (pv 0)))) (wss_cons (ws_asg (we_lst true (wa_nil)) (wg_fld (W := wxD E) Fl.x_line (we_var (pv 0)))) (wss_one (ws_asg (we_int) (wg_fld (W := wxD E) Fl.x_begun_jobs (we_var (pv 0))))))
  exact ⟨_, Y⟩
theorem sc_cells_of : FnScope ["chain", "owned", "cell"] ["chain"] (defScope s_cells_of) := ⟨rfl, rfl, rfl, by decide +kernel, rfl, by decide +kernel, by decide +kernel⟩
theorem ok_cells_of {f_need_chain : Addr} {fd_need_chain : FuncData} (F : Fun K "cells_of" "cells_of" s_cells_of f fd) (T : Txt mg) (SMb : SM base) (C : Cst K CA mg) (Fl : Fld K CA) (Kt : KtOk K CA [0] (ktT [[.o 0]] tys)) (B_need_chain_1 : KwB K CA fd_need_chain ["chain"] 1 [] (srcP 0 1)) (D_need_chain : Df P w K mg base CA "need_chain" false 3 ["chain"] F_need_chain f_need_chain fd_need_chain) : FnG P w K mg base false 4 f fd ["chain"] (spD K CA 1 (bodyF 3 u_cells_of)) := by
  have nd := (sc_cells_of).nd
  refine okD F sc_cells_of rfl rfl fun cd A outer s H E hg hr tk => ?_
  have Y : WSs (cxD P w K mg base ["chain", "owned", "cell"] "cells_of" s_cells_of f cd A outer s H E) K CA (wxD E) (defBody s_cells_of) _ _ := wss_cons (ws_expr (we_callP D_need_chain noG (hr.mono (by decide)) tk (wa_cons (we_var (pv 0)) (wa_nil)) B_need_chain_1)) (wss_one (ws_ret (we_cb sim_maxL (wa_cons (we_op op_addU (sim_add (nm := false)) (we_lc2 false (own := [("owned", 1), ("cell", 2)]) (vs1 := [2]) rfl nd (wi_seq (we_var (pv 0))) (blkOk_by (N := ["chain", "owned", "cell"]) (sc := defScope s_cells_of) (by decide +kernel)) (fun s_ H_ C_ cl_ fp_ => wg_name (pg_name (i := 1) nd rfl (by first | exact Or.inl rfl | exact Or.inr rfl))) (fun s_ H_ C_ cl_ fp_ => wts_nil) (fun s_ H_ C_ cl_ fp_ => wi_seq (we_var (pv 1))) (fun s_ H_ C_ cl_ fp_ => wg_name (pg_name (i := 2) nd rfl (by first | exact Or.inl rfl | exact Or.inr rfl))) (fun s_ H_ C_ cl_ fp_ => wts_nil) (fun s_ H_ C_ cl_ fp_ => we_op op_addU (sim_add (nm := false)) (we_var (pv 2)) (we_int)) (by decide) (by decide) (by decide)) (we_lst false (wa_cons (we_int) (wa_nil)))) (wa_nil)) (fun a => pe_callB call_maxL (by rfl) T.z_max boot_maxU a))))
  exact ⟨_, Y⟩
theorem sc_deeds_for : FnScope ["chain", "plan", "deeds", "work", "at", "owned", "cell"] ["chain", "plan"] (defScope s_deeds_for) := ⟨rfl, rfl, rfl, by decide +kernel, rfl, by decide +kernel, by decide +kernel⟩
theorem ok_deeds_for {f_need_plan : Addr} {fd_need_plan : FuncData} {f_Work_init : Addr} {fd_Work_init : FuncData} {f_cells_of : Addr} {fd_cells_of : FuncData} {f_Work_merged : Addr} {fd_Work_merged : FuncData} (F : Fun K "deeds_for" "deeds_for" s_deeds_for f fd) (T : Txt mg) (SMb : SM base) (C : Cst K CA mg) (Fl : Fld K CA) (Kt : KtOk K CA [0] (ktT [[.o 0]] tys)) (B_need_plan_2 : KwB K CA fd_need_plan ["chain", "plan"] 2 [] (srcP 0 2)) (D_need_plan : Df P w K mg base CA "need_plan" false 12 ["chain", "plan"] F_need_plan f_need_plan fd_need_plan) (B_Work_init_2 : KwB K CA fd_Work_init ["self", "cells"] 2 [] (srcP 0 2)) (N_Work : Mkd P w K mg base CA 0 "Work" 1 ["self", "cells"] F_Work_init f_Work_init fd_Work_init) (B_cells_of_1 : KwB K CA fd_cells_of ["chain"] 1 [] (srcP 0 1)) (D_cells_of : Df P w K mg base CA "cells_of" false 4 ["chain"] F_cells_of f_cells_of fd_cells_of) (B_Work_merged_2 : KwB K CA fd_Work_merged ["self", "plan"] 2 [] (srcP 0 2)) (M_Work_merged : Mtd P w K mg base CA 0 "merged" false 10 ["self", "plan"] F_Work_merged f_Work_merged fd_Work_merged) : FnG P w K mg base false 13 f fd ["chain", "plan"] (spD K CA 2 (bodyF 7 u_deeds_for)) := by
  have nd := (sc_deeds_for).nd
  refine okD F sc_deeds_for rfl rfl fun cd A outer s H E hg hr tk => ?_
  have Y : WSs (cxD P w K mg base ["chain", "plan", "deeds", "work", "at", "owned", "cell"] "deeds_for" s_deeds_for f cd A outer s H E) K CA (wxD E) (defBody s_deeds_for) _ _ := wss_cons (ws_expr (we_callP D_need_plan noG (hr.mono (by decide)) tk (wa_cons (we_var (pv 0)) (wa_cons (we_var (pv 1)) (wa_nil))) B_need_plan_2)) (wss_cons (ws_par (wa_cons (we_lst true (wa_nil)) (wa_cons (we_make false N_Work (hr.mono (by decide)) tk (wa_cons (we_callP D_cells_of noG (hr.mono (by decide)) tk (wa_cons (we_var (pv 0)) (wa_nil)) B_cells_of_1) (wa_nil)) B_Work_init_2) (wa_nil))) (fun q => ps_par (i := 2) (j := 3) rfl nd rfl rfl (by decide) rfl rfl q (by rfl))) (wss_cons (ws_for (wi_enumT (wa_cons (we_var (pv 0)) (wa_nil)) (fun a => pi_enumT (by rfl) T.z_enumerate a)) (wg_tup (n := 2) rfl (wgs_cons (wg_name (pg_name (i := 4) nd rfl (by first | exact Or.inl rfl | exact Or.inr rfl))) (wgs_cons (wg_name (pg_name (i := 5) nd rfl (by first | exact Or.inl rfl | exact Or.inr rfl))) (wgs_nil)))) (wss_cons (ws_expr (we_bm (T := "list") (r := rAppend) sim_append (we_var (pv 2)) (wa_cons (we_tup (wa_cons (we_str) (wa_cons (we_int) (wa_nil)))) (wa_nil)) (fun a b => pe_bm PySem.F.plainAttrs_list PySem.F.slot_list_append PySem.F.type_list_append mt_append a b))) (wss_one (ws_expr (we_bm (T := "list") (r := rExtend) sim_extend (we_var (pv 2)) (wa_cons (we_lc false rfl nd (own := [("cell", 6)]) (wi_seq (we_var (pv 5))) (blkOk_by (N := ["chain", "plan", "deeds", "work", "at", "owned", "cell"]) (sc := defScope s_deeds_for) (by decide +kernel)) (fun s_ H_ C_ cl_ fp_ => wg_name (pg_name (i := 6) nd rfl (by first | exact Or.inl rfl | exact Or.inr rfl))) (fun s_ H_ C_ cl_ fp_ => wts_nil) (fun s_ H_ C_ cl_ fp_ => we_tup (wa_cons (we_str) (wa_cons (we_int) (wa_cons (we_var (pv 6)) (wa_cons (we_op op_addU (sim_add (nm := false)) (we_var (pv 4)) (we_int)) (wa_nil)))))) (by decide)) (wa_nil)) (fun a b => pe_bm PySem.F.plainAttrs_list PySem.F.slot_list_extend PySem.F.type_list_extend mt_extend a b))))) (fun i g b => ps_for (passes_of rfl) rfl i g b)) (wss_cons (ws_expr (we_meth M_Work_merged noG (hr.mono (by decide)) tk (we_var (pv 3)) (wa_cons (we_var (pv 1)) (wa_nil)) B_Work_merged_2)) (wss_one (ws_ret (we_lst true (wa_star (we_var (pv 2)) (wa_cons (we_tup (wa_cons (we_str) (wa_cons (we_int) (wa_nil)))) (wa_star (we_fld Fl.x_line (we_var (pv 3))) (wa_nil))))))))))
  exact ⟨_, Y⟩
theorem sc__law_built : FnScope ["_law_deeds", "_law_layers", "_law_deed"] ["_law_deeds"] (defScope s__law_built) := ⟨rfl, rfl, rfl, by decide +kernel, rfl, by decide +kernel, by decide +kernel⟩
theorem ok__law_built  (F : Fun K "_law_built" "_law_built" s__law_built f fd) (T : Txt mg) (SMb : SM base) (C : Cst K CA mg) (Fl : Fld K CA) (Kt : KtOk K CA [0] (ktT [[.o 0]] tys))  : FnG P w K mg base false 1 f fd ["_law_deeds"] (spD K CA 1 (bodyF 3 u__law_built)) := by
  have nd := (sc__law_built).nd
  refine okD F sc__law_built rfl rfl fun cd A outer s H E hg hr tk => ?_
  have Y : WSs (cxD P w K mg base ["_law_deeds", "_law_layers", "_law_deed"] "_law_built" s__law_built f cd A outer s H E) K CA (wxD E) (defBody s__law_built) _ _ := wss_cons (ws_set (we_lst true (wa_cons (we_dnew true) (wa_nil))) (fun q => ps_set (i := 1) nd rfl (by first | exact Or.inl rfl | exact Or.inr rfl) q)) (wss_cons (ws_for (wi_seq (we_var (pv 0))) (wg_name (pg_name (i := 2) nd rfl (by first | exact Or.inl rfl | exact Or.inr rfl))) (wss_one (ws_if (wt_cmp (op_eqU hr.units) sim_eq (we_var (pv 2)) (we_tup (wa_cons (we_str) (wa_cons (we_int) (wa_nil)))) (by rfl)) (wss_one (ws_expr (we_bm (T := "list") (r := rAppend) sim_append (we_var (pv 1)) (wa_cons (we_dnew true) (wa_nil)) (fun a b => pe_bm PySem.F.plainAttrs_list PySem.F.slot_list_append PySem.F.type_list_append mt_append a b)))) (wss_one (ws_if (CM.WW.wt (ww_and (wt_cmp (op_eqU hr.units) sim_eq (we_cb sim_len (wa_cons (we_var (pv 2)) (wa_nil)) (fun a => pe_callB (call_lenU rfl call_lenRd) (by rfl) T.z_len boot_lenU a)) (we_int) (by rfl)) (ww_and1 (wt_cmp (op_eqU hr.units) sim_eq (we_slice false (we_var (pv 2)) (wo_none) (wo_some (we_int))) (we_tup (wa_cons (we_str) (wa_cons (we_int) (wa_nil)))) (by rfl))))) (wss_one (ws_asg (we_ix (ixU (hu_of hr)) sim_ix (we_var (pv 2)) (we_int)) (wg_sub (W := wxD E) (hu_of hr) (we_ix (ixU (hu_of hr)) sim_ix (we_var (pv 1)) (we_neg (we_int))) (we_ix (ixU (hu_of hr)) sim_ix (we_var (pv 2)) (we_int)) (fun a b c => pg_sub a b c)))) (wss_one (ws_ret (we_non))))))) (fun i g b => ps_for (passes_of rfl) rfl i g b)) (wss_one (ws_ret (we_var (pv 1)))))
  exact ⟨_, Y⟩
theorem sc_owned_by : FnScope ["chain", "first", "last", "owned", "cell"] ["chain", "first", "last"] (defScope s_owned_by) := ⟨rfl, rfl, rfl, by decide +kernel, rfl, by decide +kernel, by decide +kernel⟩
theorem ok_owned_by  (F : Fun K "owned_by" "owned_by" s_owned_by f fd) (T : Txt mg) (SMb : SM base) (C : Cst K CA mg) (Fl : Fld K CA) (Kt : KtOk K CA [0] (ktT [[.o 0]] tys))  : FnG P w K mg base false 1 f fd ["chain", "first", "last"] (spD K CA 3 (bodyF 5 u_owned_by)) := by
  have nd := (sc_owned_by).nd
  refine okD F sc_owned_by rfl rfl fun cd A outer s H E hg hr tk => ?_
  have Y : WSs (cxD P w K mg base ["chain", "first", "last", "owned", "cell"] "owned_by" s_owned_by f cd A outer s H E) K CA (wxD E) (defBody s_owned_by) _ _ := wss_one (ws_ret (we_cb (sim_listK (nm := false)) (wa_cons (we_dc2 false (own := [("owned", 3), ("cell", 4)]) (vs1 := [4]) rfl nd (wi_seq (we_slice false (we_var (pv 0)) (wo_some (we_var (pv 1))) (wo_some (we_op op_addU (sim_add (nm := false)) (we_var (pv 2)) (we_int))))) (blkOk_by (N := ["chain", "first", "last", "owned", "cell"]) (sc := defScope s_owned_by) (by decide +kernel)) (fun s_ H_ C_ cl_ fp_ => wg_name (pg_name (i := 3) nd rfl (by first | exact Or.inl rfl | exact Or.inr rfl))) (fun s_ H_ C_ cl_ fp_ => wts_nil) (fun s_ H_ C_ cl_ fp_ => wi_seq (we_var (pv 3))) (fun s_ H_ C_ cl_ fp_ => wg_name (pg_name (i := 4) nd rfl (by first | exact Or.inl rfl | exact Or.inr rfl))) (fun s_ H_ C_ cl_ fp_ => wts_nil) (fun s_ H_ C_ cl_ fp_ => we_var (pv 4)) (fun s_ H_ C_ cl_ fp_ => we_bl) (by decide) (by decide) (by decide)) (wa_nil)) (fun a => pe_callTy call_listK (by rfl) T.z_list boot_listU a)))
  exact ⟨_, Y⟩
theorem sc_copied : FnScope ["kind", "lower", "upper", "cell"] ["kind", "lower", "upper"] (defScope s_copied) := ⟨rfl, rfl, rfl, by decide +kernel, rfl, by decide +kernel, by decide +kernel⟩
theorem ok_copied  (F : Fun K "copied" "copied" s_copied f fd) (T : Txt mg) (SMb : SM base) (C : Cst K CA mg) (Fl : Fld K CA) (Kt : KtOk K CA [0] (ktT [[.o 0]] tys))  : FnG P w K mg base false 1 f fd ["kind", "lower", "upper"] (spD K CA 3 (bodyF 4 u_copied)) := by
  have nd := (sc_copied).nd
  refine okD F sc_copied rfl rfl fun cd A outer s H E hg hr tk => ?_
  have Y : WSs (cxD P w K mg base ["kind", "lower", "upper", "cell"] "copied" s_copied f cd A outer s H E) K CA (wxD E) (defBody s_copied) _ _ := wss_one (ws_ret (we_ifExp (wt_cmp (op_eqU hr.units) sim_eq (we_var (pv 0)) (we_str) (by rfl)) (we_cb sim_len (wa_cons (we_var (pv 2)) (wa_nil)) (fun a => pe_callB (call_lenU rfl call_lenRd) (by rfl) T.z_len boot_lenU a)) (we_cb sim_len (wa_cons (we_lc false rfl nd (own := [("cell", 3)]) (wi_seq (we_var (pv 1))) (blkOk_by (N := ["kind", "lower", "upper", "cell"]) (sc := defScope s_copied) (by decide +kernel)) (fun s_ H_ C_ cl_ fp_ => wg_name (pg_name (i := 3) nd rfl (by first | exact Or.inl rfl | exact Or.inr rfl))) (fun s_ H_ C_ cl_ fp_ => wts_one (wt_cmp (op_notInU (hu_of hr)) (sim_in (neg := true)) (we_var (pv 3)) (we_var (pv 2)) (by rfl))) (fun s_ H_ C_ cl_ fp_ => we_var (pv 3)) (by decide)) (wa_nil)) (fun a => pe_callB (call_lenU rfl call_lenRd) (by rfl) T.z_len boot_lenU a))))
  exact ⟨_, Y⟩
theorem sc_cheapest : FnScope ["chain", "best", "at", "width", "first", "last", "offers", "middle", "lower", "upper", "sets", "kind", "least", "price", "plan", "offer"] ["chain"] (defScope s_cheapest) := ⟨rfl, rfl, rfl, by decide +kernel, rfl, by decide +kernel, by decide +kernel⟩
theorem ok_cheapest {f_need_chain : Addr} {fd_need_chain : FuncData} {f_owned_by : Addr} {fd_owned_by : FuncData} {f_copied : Addr} {fd_copied : FuncData} (F : Fun K "cheapest" "cheapest" s_cheapest f fd) (T : Txt mg) (SMb : SM base) (C : Cst K CA mg) (Fl : Fld K CA) (Kt : KtOk K CA [0] (ktT [[.o 0]] tys)) (B_need_chain_1 : KwB K CA fd_need_chain ["chain"] 1 [] (srcP 0 1)) (D_need_chain : Df P w K mg base CA "need_chain" false 3 ["chain"] F_need_chain f_need_chain fd_need_chain) (B_owned_by_3 : KwB K CA fd_owned_by ["chain", "first", "last"] 3 [] (srcP 0 3)) (D_owned_by : Df P w K mg base CA "owned_by" false 1 ["chain", "first", "last"] F_owned_by f_owned_by fd_owned_by) (B_copied_3 : KwB K CA fd_copied ["kind", "lower", "upper"] 3 [] (srcP 0 3)) (D_copied : Df P w K mg base CA "copied" false 1 ["kind", "lower", "upper"] F_copied f_copied fd_copied) : FnG P w K mg base false 4 f fd ["chain"] (spD K CA 1 (bodyF 16 u_cheapest)) := by
  have nd := (sc_cheapest).nd
  refine okD F sc_cheapest rfl rfl fun cd A outer s H E hg hr tk => ?_
  have Y : WSs (cxD P w K mg base ["chain", "best", "at", "width", "first", "last", "offers", "middle", "lower", "upper", "sets", "kind", "least", "price", "plan", "offer"] "cheapest" s_cheapest f cd A outer s H E) K CA (wxD E) (defBody s_cheapest) _ _ := wss_cons (ws_expr (we_callP D_need_chain noG (hr.mono (by decide)) tk (wa_cons (we_var (pv 0)) (wa_nil)) B_need_chain_1)) (wss_cons (ws_setDcT (hu_of hr) (i := 1) rfl nd rfl rfl (own := [("at", 2)]) (wi_rng1 (wa_cons (we_cb sim_len (wa_cons (we_var (pv 0)) (wa_nil)) (fun a => pe_callB (call_lenU rfl call_lenRd) (by rfl) T.z_len boot_lenU a)) (wa_nil)) (fun a => pi_range1 (by rfl) T.z_range a)) (blkOk_by (N := ["chain", "best", "at", "width", "first", "last", "offers", "middle", "lower", "upper", "sets", "kind", "least", "price", "plan", "offer"]) (sc := defScope s_cheapest) (by decide +kernel)) (fun s_ H_ C_ cl_ fp_ => wg_name (pg_name (i := 2) nd rfl (by first | exact Or.inl rfl | exact Or.inr rfl))) (fun s_ H_ C_ cl_ fp_ => wts_nil) (fun s_ H_ C_ cl_ fp_ => wa_cons (we_var (pv 2)) (wa_cons (we_var (pv 2)) (wa_nil))) (fun s_ H_ C_ cl_ fp_ => we_tup (wa_cons (we_int) (wa_cons (we_var (pv 2)) (wa_nil)))) (by decide)) (wss_cons (ws_for (wi_rng2 (wa_cons (we_int) (wa_cons (we_cb sim_len (wa_cons (we_var (pv 0)) (wa_nil)) (fun a => pe_callB (call_lenU rfl call_lenRd) (by rfl) T.z_len boot_lenU a)) (wa_nil))) (fun a => pi_range2 (by rfl) T.z_range a)) (wg_name (pg_name (i := 3) nd rfl (by first | exact Or.inl rfl | exact Or.inr rfl))) (wss_one (ws_for (wi_rng1 (wa_cons (we_op op_sub sim_subI (we_cb sim_len (wa_cons (we_var (pv 0)) (wa_nil)) (fun a => pe_callB (call_lenU rfl call_lenRd) (by rfl) T.z_len boot_lenU a)) (we_var (pv 3))) (wa_nil)) (fun a => pi_range1 (by rfl) T.z_range a)) (wg_name (pg_name (i := 4) nd rfl (by first | exact Or.inl rfl | exact Or.inr rfl))) (wss_cons (ws_par (wa_cons (we_op op_addU (sim_add (nm := false)) (we_var (pv 4)) (we_var (pv 3))) (wa_cons (we_lst true (wa_nil)) (wa_nil))) (fun q => ps_par (i := 5) (j := 6) rfl nd rfl rfl (by decide) rfl rfl q (by rfl))) (wss_cons (ws_for (wi_rng2 (wa_cons (we_var (pv 4)) (wa_cons (we_var (pv 5)) (wa_nil))) (fun a => pi_range2 (by rfl) T.z_range a)) (wg_name (pg_name (i := 7) nd rfl (by first | exact Or.inl rfl | exact Or.inr rfl))) (wss_cons (ws_par (wa_cons (we_ixT (hu_of hr) (we_var (pv 1)) (wa_cons (we_var (pv 4)) (wa_cons (we_var (pv 7)) (wa_nil)))) (wa_cons (we_ixT (hu_of hr) (we_var (pv 1)) (wa_cons (we_op op_addU (sim_add (nm := false)) (we_var (pv 7)) (we_int)) (wa_cons (we_var (pv 5)) (wa_nil)))) (wa_nil))) (fun q => ps_par (i := 8) (j := 9) rfl nd rfl rfl (by decide) rfl rfl q (by rfl))) (wss_cons (ws_set (we_tup (wa_cons (we_callP D_owned_by noG (hr.mono (by decide)) tk (wa_cons (we_var (pv 0)) (wa_cons (we_var (pv 4)) (wa_cons (we_var (pv 7)) (wa_nil)))) B_owned_by_3) (wa_cons (we_callP D_owned_by noG (hr.mono (by decide)) tk (wa_cons (we_var (pv 0)) (wa_cons (we_op op_addU (sim_add (nm := false)) (we_var (pv 7)) (we_int)) (wa_cons (we_var (pv 5)) (wa_nil)))) B_owned_by_3) (wa_nil)))) (fun q => ps_set (i := 10) nd rfl (by first | exact Or.inl rfl | exact Or.inr rfl) q)) (wss_one (ws_for (wi_seq (we_gv C.g_KINDS)) (wg_name (pg_name (i := 11) nd rfl (by first | exact Or.inl rfl | exact Or.inr rfl))) (wss_one (ws_expr (we_bm (T := "list") (r := rAppend) sim_append (we_var (pv 6)) (wa_cons (we_tup (wa_cons (we_op op_addU (sim_add (nm := false)) (we_op op_addU (sim_add (nm := false)) (we_ix (ixU (hu_of hr)) sim_ix (we_var (pv 8)) (we_int)) (we_ix (ixU (hu_of hr)) sim_ix (we_var (pv 9)) (we_int))) (we_callS D_copied noG (hr.mono (by decide)) tk (wa_cons (we_var (pv 11)) (wa_star (we_var (pv 10)) (wa_nil))) B_copied_3)) (wa_cons (we_tup (wa_cons (we_var (pv 11)) (wa_cons (we_ix (ixU (hu_of hr)) sim_ix (we_var (pv 8)) (we_int)) (wa_cons (we_ix (ixU (hu_of hr)) sim_ix (we_var (pv 9)) (we_int)) (wa_nil))))) (wa_nil)))) (wa_nil)) (fun a b => pe_bm PySem.F.plainAttrs_list PySem.F.slot_list_append PySem.F.type_list_append mt_append a b)))) (fun i g b => ps_for (passes_of rfl) rfl i g b))))) (fun i g b => ps_for (passes_of rfl) rfl i g b)) (wss_cons (ws_set (we_cb sim_minL (wa_cons (we_lc false rfl nd (own := [("price", 13), ("plan", 14)]) (wi_seq (we_var (pv 6))) (blkOk_by (N := ["chain", "best", "at", "width", "first", "last", "offers", "middle", "lower", "upper", "sets", "kind", "least", "price", "plan", "offer"]) (sc := defScope s_cheapest) (by decide +kernel)) (fun s_ H_ C_ cl_ fp_ => wg_tup (n := 2) rfl (wgs_cons (wg_name (pg_name (i := 13) nd rfl (by first | exact Or.inl rfl | exact Or.inr rfl))) (wgs_cons (wg_name (pg_name (i := 14) nd rfl (by first | exact Or.inl rfl | exact Or.inr rfl))) (wgs_nil)))) (fun s_ H_ C_ cl_ fp_ => wts_nil) (fun s_ H_ C_ cl_ fp_ => we_var (pv 13)) (by decide)) (wa_nil)) (fun a => pe_callB call_minL (by rfl) T.z_min boot_minU a)) (fun q => ps_set (i := 12) nd rfl (by first | exact Or.inl rfl | exact Or.inr rfl) q)) (wss_one (ws_asg (we_ix (ixU (hu_of hr)) sim_ix (we_lc false rfl nd (own := [("offer", 15)]) (wi_seq (we_var (pv 6))) (blkOk_by (N := ["chain", "best", "at", "width", "first", "last", "offers", "middle", "lower", "upper", "sets", "kind", "least", "price", "plan", "offer"]) (sc := defScope s_cheapest) (by decide +kernel)) (fun s_ H_ C_ cl_ fp_ => wg_name (pg_name (i := 15) nd rfl (by first | exact Or.inl rfl | exact Or.inr rfl))) (fun s_ H_ C_ cl_ fp_ => wts_one (wt_cmp (op_eqU hr.units) sim_eq (we_ix (ixU (hu_of hr)) sim_ix (we_var (pv 15)) (we_int)) (we_var (pv 12)) (by rfl))) (fun s_ H_ C_ cl_ fp_ => we_var (pv 15)) (by decide)) (we_int)) (wg_subT (W := wxD E) (hu_of hr) (we_var (pv 1)) (wa_cons (we_var (pv 4)) (wa_cons (we_var (pv 5)) (wa_nil))) (fun a b c => pg_sub a b c))))))) (fun i g b => ps_for (passes_of rfl) rfl i g b))) (fun i g b => ps_for (passes_of rfl) rfl i g b)) (wss_one (ws_ret (we_ixT (hu_of hr) (we_var (pv 1)) (wa_cons (we_int) (wa_cons (we_op op_sub sim_subI (we_cb sim_len (wa_cons (we_var (pv 0)) (wa_nil)) (fun a => pe_callB (call_lenU rfl call_lenRd) (by rfl) T.z_len boot_lenU a)) (we_int)) (wa_nil))))))))
  exact ⟨_, Y⟩
theorem sc__law_is_cell : FnScope ["_law_thing"] ["_law_thing"] (defScope s__law_is_cell) := ⟨rfl, rfl, rfl, by decide +kernel, rfl, by decide +kernel, by decide +kernel⟩
theorem ok__law_is_cell  (F : Fun K "_law_is_cell" "_law_is_cell" s__law_is_cell f fd) (T : Txt mg) (SMb : SM base) (C : Cst K CA mg) (Fl : Fld K CA) (Kt : KtOk K CA [0] (ktT [[.o 0]] tys))  : FnG P w K mg base false 1 f fd ["_law_thing"] (spD K CA 1 (bodyF 1 u__law_is_cell)) := by
  have nd := (sc__law_is_cell).nd
  refine okD F sc__law_is_cell rfl rfl fun cd A outer s H E hg hr tk => ?_
  have Y : WSs (cxD P w K mg base ["_law_thing"] "_law_is_cell" s__law_is_cell f cd A outer s H E) K CA (wxD E) (defBody s__law_is_cell) _ _ := wss_one (ws_ret (we_and (we_cb (sim_isi Kt) (wa_cons (we_var (pv 0)) (wa_cons (we_ty (pe_bltn (by rfl) T.z_int boot_intU rfl)) (wa_nil))) (fun a => pe_callB call_isiU (by rfl) T.z_isinstance boot_isinstanceU a)) (we_and (we_not (we_cb (sim_isi Kt) (wa_cons (we_var (pv 0)) (wa_cons (we_ty (pe_bltn (by rfl) T.z_bool boot_boolU rfl)) (wa_nil))) (fun a => pe_callB call_isiU (by rfl) T.z_isinstance boot_isinstanceU a))) (we_one (we_cmp op_ge sim_cB (we_var (pv 0)) (we_int) (by rfl))))))
  exact ⟨_, Y⟩
theorem sc__law_jobs : FnScope ["_law_plan_of", "_law_found", "_law_low", "_law_high"] ["_law_plan_of", "_law_found"] (defScope s__law_jobs) := ⟨rfl, rfl, rfl, by decide +kernel, rfl, by decide +kernel, by decide +kernel⟩
theorem ok__law_jobs {f__law_is_cell : Addr} {fd__law_is_cell : FuncData} {f__law_jobs : Addr} {fd__law_jobs : FuncData} (j : Nat) {R_ : FD} (F : Fun K "_law_jobs" "_law_jobs" s__law_jobs f fd) (T : Txt mg) (SMb : SM base) (C : Cst K CA mg) (Fl : Fld K CA) (Kt : KtOk K CA [0] (ktT [[.o 0]] tys)) (B__law_is_cell_1 : KwB K CA fd__law_is_cell ["_law_thing"] 1 [] (srcP 0 1)) (D__law_is_cell : Df P w K mg base CA "_law_is_cell" false 1 ["_law_thing"] F__law_is_cell f__law_is_cell fd__law_is_cell) (B__law_jobs_2 : KwB K CA fd__law_jobs ["_law_plan_of", "_law_found"] 2 [] (srcP 0 2)) (D__law_jobs : Df P w K mg base CA "_law_jobs" false (1 + j) ["_law_plan_of", "_law_found"] R_ f__law_jobs fd__law_jobs) : FnG P w K mg base false (1 + j + 1) f fd ["_law_plan_of", "_law_found"] (spD K CA 2 (bodyF 4 (u__law_jobs R_))) := by
  have nd := (sc__law_jobs).nd
  refine okD F sc__law_jobs rfl rfl fun cd A outer s H E hg hr tk => ?_
  have Y : WSs (cxD P w K mg base ["_law_plan_of", "_law_found", "_law_low", "_law_high"] "_law_jobs" s__law_jobs f cd A outer s H E) K CA (wxD E) (defBody s__law_jobs) _ _ := wss_cons (ws_if (wt_val (we_callP D__law_is_cell noG (hr.mono (by omega)) tk (wa_cons (we_var (pv 0)) (wa_nil)) B__law_is_cell_1)) (wss_one (ws_ret (we_op op_addU (sim_add (nm := false)) (we_var (pv 0)) (we_int)))) (wss_nil)) (wss_cons (ws_par (wa_cons (we_callP D__law_jobs noG (hr.mono (by omega)) tk (wa_cons (we_ix (ixU (hu_of hr)) sim_ix (we_var (pv 0)) (we_int)) (wa_cons (we_var (pv 1)) (wa_nil))) B__law_jobs_2) (wa_cons (we_callP D__law_jobs noG (hr.mono (by omega)) tk (wa_cons (we_ix (ixU (hu_of hr)) sim_ix (we_var (pv 0)) (we_int)) (wa_cons (we_var (pv 1)) (wa_nil))) B__law_jobs_2) (wa_nil))) (fun q => ps_par (i := 2) (j := 3) rfl nd rfl rfl (by decide) rfl rfl q (by rfl))) (wss_cons (ws_expr (we_bm (T := "list") (r := rAppend) sim_append (we_var (pv 1)) (wa_cons (we_tup (wa_cons (we_ix (ixU (hu_of hr)) sim_ix (we_var (pv 0)) (we_int)) (wa_cons (we_var (pv 3)) (wa_cons (we_var (pv 2)) (wa_nil))))) (wa_nil)) (fun a b => pe_bm PySem.F.plainAttrs_list PySem.F.slot_list_append PySem.F.type_list_append mt_append a b))) (wss_one (ws_ret (we_ifExp (wt_cmp (op_eqU hr.units) sim_eq (we_ix (ixU (hu_of hr)) sim_ix (we_var (pv 0)) (we_int)) (we_str) (by rfl)) (we_var (pv 3)) (we_var (pv 2)))))))
  exact ⟨_, Y⟩
theorem sc__law_merged : FnScope ["_law_layers", "_law_kind", "_law_upper", "_law_lower", "_law_high", "_law_low", "_law_given", "_law_cell"] ["_law_layers", "_law_kind", "_law_upper", "_law_lower"] (defScope s__law_merged) := ⟨rfl, rfl, rfl, by decide +kernel, rfl, by decide +kernel, by decide +kernel⟩
theorem ok__law_merged  (F : Fun K "_law_merged" "_law_merged" s__law_merged f fd) (T : Txt mg) (SMb : SM base) (C : Cst K CA mg) (Fl : Fld K CA) (Kt : KtOk K CA [0] (ktT [[.o 0]] tys))  : FnG P w K mg base false 1 f fd ["_law_layers", "_law_kind", "_law_upper", "_law_lower"] (spD K CA 4 (bodyF 8 u__law_merged)) := by
  have nd := (sc__law_merged).nd
  refine okD F sc__law_merged rfl rfl fun cd A outer s H E hg hr tk => ?_
  have Y : WSs (cxD P w K mg base ["_law_layers", "_law_kind", "_law_upper", "_law_lower", "_law_high", "_law_low", "_law_given", "_law_cell"] "_law_merged" s__law_merged f cd A outer s H E) K CA (wxD E) (defBody s__law_merged) _ _ := wss_cons (ws_asg (we_tup (wa_cons (we_ix (ixU (hu_of hr)) sim_ix (we_var (pv 0)) (we_var (pv 2))) (wa_cons (we_ix (ixU (hu_of hr)) sim_ix (we_var (pv 0)) (we_var (pv 3))) (wa_nil)))) (wg_tup (n := 2) rfl (wgs_cons (wg_name (pg_name (i := 4) nd rfl (by first | exact Or.inl rfl | exact Or.inr rfl))) (wgs_cons (wg_name (pg_name (i := 5) nd rfl (by first | exact Or.inl rfl | exact Or.inr rfl))) (wgs_nil))))) (wss_cons (ws_if (wt_cmp (op_eqU hr.units) sim_eq (we_var (pv 1)) (we_str) (by rfl)) (wss_cons (ws_setLc false (i := 6) rfl nd rfl rfl (own := [("_law_cell", 7)]) (wi_keys (we_var (pv 5))) (blkOk_by (N := ["_law_layers", "_law_kind", "_law_upper", "_law_lower", "_law_high", "_law_low", "_law_given", "_law_cell"]) (sc := defScope s__law_merged) (by decide +kernel)) (fun s_ H_ C_ cl_ fp_ => wg_name (pg_name (i := 7) nd rfl (by first | exact Or.inl rfl | exact Or.inr rfl))) (fun s_ H_ C_ cl_ fp_ => wts_one (wt_cmp (op_notInU (hu_of hr)) (sim_in (neg := true)) (we_var (pv 7)) (we_var (pv 4)) (by rfl))) (fun s_ H_ C_ cl_ fp_ => we_var (pv 7)) (by decide)) (wss_cons (ws_for (wi_seq (we_var (pv 6))) (wg_name (pg_name (i := 7) nd rfl (by first | exact Or.inl rfl | exact Or.inr rfl))) (wss_one (ws_asg (we_ix (ixU (hu_of hr)) sim_ix (we_var (pv 5)) (we_var (pv 7))) (wg_sub (W := wxD E) (hu_of hr) (we_var (pv 4)) (we_var (pv 7)) (fun a b c => pg_sub a b c)))) (fun i g b => ps_for (passes_of rfl) rfl i g b)) (wss_cons (ws_asg (we_non) (wg_sub (W := wxD E) (hu_of hr) (we_var (pv 0)) (we_var (pv 3)) (fun a b c => pg_sub a b c))) (wss_one (ws_ret (we_cb sim_len (wa_cons (we_var (pv 6)) (wa_nil)) (fun a => pe_callB (call_lenU rfl call_lenRd) (by rfl) T.z_len boot_lenU a))))))) (wss_nil)) (wss_cons (ws_for (wi_keys (we_var (pv 4))) (wg_name (pg_name (i := 7) nd rfl (by first | exact Or.inl rfl | exact Or.inr rfl))) (wss_one (ws_asg (we_ix (ixU (hu_of hr)) sim_ix (we_var (pv 4)) (we_var (pv 7))) (wg_sub (W := wxD E) (hu_of hr) (we_var (pv 5)) (we_var (pv 7)) (fun a b c => pg_sub a b c)))) (fun i g b => ps_for (passes_of rfl) rfl i g b)) (wss_cons (ws_asg (we_non) (wg_sub (W := wxD E) (hu_of hr) (we_var (pv 0)) (we_var (pv 2)) (fun a b c => pg_sub a b c))) (wss_one (ws_ret (we_cb sim_len (wa_cons (we_var (pv 4)) (wa_nil)) (fun a => pe_callB (call_lenU rfl call_lenRd) (by rfl) T.z_len boot_lenU a)))))))
  exact ⟨_, Y⟩
theorem sc__law_worth : FnScope ["_law_chain_of", "_law_plan_of", "_law_kind", "_law_lower", "_law_upper", "_law_low", "_law_high", "_law_more", "_law_cell"] ["_law_chain_of", "_law_plan_of"] (defScope s__law_worth) := ⟨rfl, rfl, rfl, by decide +kernel, rfl, by decide +kernel, by decide +kernel⟩
theorem ok__law_worth {f__law_is_cell : Addr} {fd__law_is_cell : FuncData} {f__law_worth : Addr} {fd__law_worth : FuncData} (j : Nat) {R_ : FD} (F : Fun K "_law_worth" "_law_worth" s__law_worth f fd) (T : Txt mg) (SMb : SM base) (C : Cst K CA mg) (Fl : Fld K CA) (Kt : KtOk K CA [0] (ktT [[.o 0]] tys)) (B__law_is_cell_1 : KwB K CA fd__law_is_cell ["_law_thing"] 1 [] (srcP 0 1)) (D__law_is_cell : Df P w K mg base CA "_law_is_cell" false 1 ["_law_thing"] F__law_is_cell f__law_is_cell fd__law_is_cell) (B__law_worth_2 : KwB K CA fd__law_worth ["_law_chain_of", "_law_plan_of"] 2 [] (srcP 0 2)) (D__law_worth : Df P w K mg base CA "_law_worth" false (1 + j) ["_law_chain_of", "_law_plan_of"] R_ f__law_worth fd__law_worth) : FnG P w K mg base false (1 + j + 1) f fd ["_law_chain_of", "_law_plan_of"] (spD K CA 2 (bodyF 9 (u__law_worth R_))) := by
  have nd := (sc__law_worth).nd
  refine okD F sc__law_worth rfl rfl fun cd A outer s H E hg hr tk => ?_
  have Y : WSs (cxD P w K mg base ["_law_chain_of", "_law_plan_of", "_law_kind", "_law_lower", "_law_upper", "_law_low", "_law_high", "_law_more", "_law_cell"] "_law_worth" s__law_worth f cd A outer s H E) K CA (wxD E) (defBody s__law_worth) _ _ := wss_cons (ws_if (wt_val (we_callP D__law_is_cell noG (hr.mono (by omega)) tk (wa_cons (we_var (pv 1)) (wa_nil)) B__law_is_cell_1)) (wss_one (ws_ret (we_tup (wa_cons (we_int) (wa_cons (we_cb (sim_listOf (nm := false)) (wa_cons (we_ix (ixU (hu_of hr)) sim_ix (we_var (pv 0)) (we_var (pv 1))) (wa_nil)) (fun a => pe_callTy call_listOf (by rfl) T.z_list boot_listU a)) (wa_nil)))))) (wss_nil)) (wss_cons (ws_asg (we_var (pv 1)) (wg_tup (n := 3) rfl (wgs_cons (wg_name (pg_name (i := 2) nd rfl (by first | exact Or.inl rfl | exact Or.inr rfl))) (wgs_cons (wg_name (pg_name (i := 3) nd rfl (by first | exact Or.inl rfl | exact Or.inr rfl))) (wgs_cons (wg_name (pg_name (i := 4) nd rfl (by first | exact Or.inl rfl | exact Or.inr rfl))) (wgs_nil)))))) (wss_cons (ws_asg (we_tup (wa_cons (we_callP D__law_worth noG (hr.mono (by omega)) tk (wa_cons (we_var (pv 0)) (wa_cons (we_var (pv 3)) (wa_nil))) B__law_worth_2) (wa_cons (we_callP D__law_worth noG (hr.mono (by omega)) tk (wa_cons (we_var (pv 0)) (wa_cons (we_var (pv 4)) (wa_nil))) B__law_worth_2) (wa_nil)))) (wg_tup (n := 2) rfl (wgs_cons (wg_name (pg_name (i := 5) nd rfl (by first | exact Or.inl rfl | exact Or.inr rfl))) (wgs_cons (wg_name (pg_name (i := 6) nd rfl (by first | exact Or.inl rfl | exact Or.inr rfl))) (wgs_nil))))) (wss_cons (ws_set (we_ifExp (wt_cmp (op_eqU hr.units) sim_eq (we_var (pv 2)) (we_str) (by rfl)) (we_cb sim_len (wa_cons (we_ix (ixU (hu_of hr)) sim_ix (we_var (pv 6)) (we_int)) (wa_nil)) (fun a => pe_callB (call_lenU rfl call_lenRd) (by rfl) T.z_len boot_lenU a)) (we_cb sim_len (wa_cons (we_lc false rfl nd (own := [("_law_cell", 8)]) (wi_seq (we_ix (ixU (hu_of hr)) sim_ix (we_var (pv 5)) (we_int))) (blkOk_by (N := ["_law_chain_of", "_law_plan_of", "_law_kind", "_law_lower", "_law_upper", "_law_low", "_law_high", "_law_more", "_law_cell"]) (sc := defScope s__law_worth) (by decide +kernel)) (fun s_ H_ C_ cl_ fp_ => wg_name (pg_name (i := 8) nd rfl (by first | exact Or.inl rfl | exact Or.inr rfl))) (fun s_ H_ C_ cl_ fp_ => wts_one (wt_cmp (op_notInU (hu_of hr)) (sim_in (neg := true)) (we_var (pv 8)) (we_ix (ixU (hu_of hr)) sim_ix (we_var (pv 6)) (we_int)) (by rfl))) (fun s_ H_ C_ cl_ fp_ => we_var (pv 8)) (by decide)) (wa_nil)) (fun a => pe_callB (call_lenU rfl call_lenRd) (by rfl) T.z_len boot_lenU a))) (fun q => ps_set (i := 7) nd rfl (by first | exact Or.inl rfl | exact Or.inr rfl) q)) (wss_one (ws_ret (we_tup (wa_cons (we_op op_addU (sim_add (nm := false)) (we_op op_addU (sim_add (nm := false)) (we_ix (ixU (hu_of hr)) sim_ix (we_var (pv 5)) (we_int)) (we_ix (ixU (hu_of hr)) sim_ix (we_var (pv 6)) (we_int))) (we_var (pv 7))) (wa_cons (we_sortSet false (we_op op_addU (sim_add (nm := false)) (we_ix (ixU (hu_of hr)) sim_ix (we_var (pv 5)) (we_int)) (we_ix (ixU (hu_of hr)) sim_ix (we_var (pv 6)) (we_int))) T.z_sorted T.z_set) (wa_nil)))))))))
  exact ⟨_, Y⟩
theorem sc__law_work_right : FnScope ["_law_rows", "_law_plan_of", "_law_layers", "_law_deeds", "_law_jobs_there", "_law_many", "_law_at", "_law_last", "_law_copied_there", "_law_number", "_law_kind", "_law_upper", "_law_lower", "_law_due", "_law_whole", "_law_k", "_law_owned_here", "_law_cell"] ["_law_rows", "_law_plan_of", "_law_layers", "_law_deeds"] (defScope s__law_work_right) := ⟨rfl, rfl, rfl, by decide +kernel, rfl, by decide +kernel, by decide +kernel⟩
theorem ok__law_work_right {f_cells_of : Addr} {fd_cells_of : FuncData} {f__law_jobs : Addr} {fd__law_jobs : FuncData} {f__law_merged : Addr} {fd__law_merged : FuncData} {f__law_worth : Addr} {fd__law_worth : FuncData} (F : Fun K "_law_work_right" "_law_work_right" s__law_work_right f fd) (T : Txt mg) (SMb : SM base) (C : Cst K CA mg) (Fl : Fld K CA) (Kt : KtOk K CA [0] (ktT [[.o 0]] tys)) (B_cells_of_1 : KwB K CA fd_cells_of ["chain"] 1 [] (srcP 0 1)) (D_cells_of : Df P w K mg base CA "cells_of" false 4 ["chain"] F_cells_of f_cells_of fd_cells_of) (B__law_jobs_2 : KwB K CA fd__law_jobs ["_law_plan_of", "_law_found"] 2 [] (srcP 0 2)) (D__law_jobs : Df P w K mg base CA "_law_jobs" false 10 ["_law_plan_of", "_law_found"] F__law_jobs f__law_jobs fd__law_jobs) (B__law_merged_4 : KwB K CA fd__law_merged ["_law_layers", "_law_kind", "_law_upper", "_law_lower"] 4 [] (srcP 0 4)) (D__law_merged : Df P w K mg base CA "_law_merged" false 1 ["_law_layers", "_law_kind", "_law_upper", "_law_lower"] F__law_merged f__law_merged fd__law_merged) (B__law_worth_2 : KwB K CA fd__law_worth ["_law_chain_of", "_law_plan_of"] 2 [] (srcP 0 2)) (D__law_worth : Df P w K mg base CA "_law_worth" false 10 ["_law_chain_of", "_law_plan_of"] F__law_worth f__law_worth fd__law_worth) : FnG P w K mg base false 11 f fd ["_law_rows", "_law_plan_of", "_law_layers", "_law_deeds"] (spD K CA 4 (bodyF 18 u__law_work_right)) := by
  have nd := (sc__law_work_right).nd
  refine okD F sc__law_work_right rfl rfl fun cd A outer s H E hg hr tk => ?_
  have Y : WSs (cxD P w K mg base ["_law_rows", "_law_plan_of", "_law_layers", "_law_deeds", "_law_jobs_there", "_law_many", "_law_at", "_law_last", "_law_copied_there", "_law_number", "_law_kind", "_law_upper", "_law_lower", "_law_due", "_law_whole", "_law_k", "_law_owned_here", "_law_cell"] "_law_work_right" s__law_work_right f cd A outer s H E) K CA (wxD E) (defBody s__law_work_right) _ _ := wss_cons (ws_par3 (wa_cons (we_lst true (wa_nil)) (wa_cons (we_callP D_cells_of noG (hr.mono (by decide)) tk (wa_cons (we_var (pv 0)) (wa_nil)) B_cells_of_1) (wa_cons (we_int) (wa_nil)))) (fun q => ps_par3 (i := 4) (j := 5) (l := 6) rfl nd rfl rfl rfl (by decide) (by decide) (by decide) rfl rfl rfl q (by rfl))) (wss_cons (ws_fz 4 (ws_par (wa_cons (we_callP D__law_jobs noG (hr.mono (by decide)) tk (wa_cons (we_var (pv 1)) (wa_cons (we_var (pv 4)) (wa_nil))) B__law_jobs_2) (wa_cons (we_int) (wa_nil))) (fun q => ps_par (i := 7) (j := 8) rfl nd rfl rfl (by decide) rfl rfl q (by rfl)))) (wss_cons (ws_for (wi_enum (wa_cons (we_var (pv 4)) (wa_nil)) (fun a => pi_enum (by rfl) T.z_enumerate a)) (wg_tup (n := 2) rfl (wgs_cons (wg_name (pg_name (i := 9) nd rfl (by first | exact Or.inl rfl | exact Or.inr rfl))) (wgs_cons (wg_tup (n := 3) rfl (wgs_cons (wg_name (pg_name (i := 10) nd rfl (by first | exact Or.inl rfl | exact Or.inr rfl))) (wgs_cons (wg_name (pg_name (i := 11) nd rfl (by first | exact Or.inl rfl | exact Or.inr rfl))) (wgs_cons (wg_name (pg_name (i := 12) nd rfl (by first | exact Or.inl rfl | exact Or.inr rfl))) (wgs_nil))))) (wgs_nil)))) (wss_cons (ws_set (we_op op_addU (sim_add (nm := false)) (we_lst false (wa_cons (we_tup (wa_cons (we_str) (wa_cons (we_var (pv 10)) (wa_cons (we_var (pv 11)) (wa_nil))))) (wa_nil))) (we_op op_mulU (sim_mul (nm := false)) (we_lst false (wa_cons (we_tup (wa_cons (we_str) (wa_cons (we_var (pv 9)) (wa_nil)))) (wa_nil))) (we_op op_addU (sim_add (nm := false)) (we_var (pv 5)) (we_int)))) (fun q => ps_set (i := 13) nd rfl (by first | exact Or.inl rfl | exact Or.inr rfl) q)) (wss_cons (ws_if (wt_cmp (op_neU hr.units) sim_ne (we_cb (sim_listOf (nm := false)) (wa_cons (we_slice false (we_var (pv 3)) (wo_some (we_var (pv 6))) (wo_some (we_op op_addU (sim_add (nm := false)) (we_op op_addU (sim_add (nm := false)) (we_var (pv 6)) (we_var (pv 5))) (we_int)))) (wa_nil)) (fun a => pe_callTy call_listOf (by rfl) T.z_list boot_listU a)) (we_var (pv 13)) (by rfl)) (wss_one (ws_ret (we_bl))) (wss_nil)) (wss_one (ws_par (wa_cons (we_op op_addU (sim_add (nm := false)) (we_var (pv 8)) (we_callP D__law_merged noG (hr.mono (by decide)) tk (wa_cons (we_var (pv 2)) (wa_cons (we_var (pv 10)) (wa_cons (we_var (pv 11)) (wa_cons (we_var (pv 12)) (wa_nil))))) B__law_merged_4)) (wa_cons (we_op op_addU (sim_add (nm := false)) (we_op op_addU (sim_add (nm := false)) (we_var (pv 6)) (we_var (pv 5))) (we_int)) (wa_nil))) (fun q => ps_par (i := 8) (j := 6) rfl nd rfl rfl (by decide) rfl rfl q (by rfl)))))) (fun i g b => ps_for (passes_of rfl) rfl i g b)) (wss_cons (ws_set (we_dnew true) (fun q => ps_set (i := 14) nd rfl (by first | exact Or.inl rfl | exact Or.inr rfl) q)) (wss_cons (ws_for (wi_enum (wa_cons (we_var (pv 0)) (wa_nil)) (fun a => pi_enum (by rfl) T.z_enumerate a)) (wg_tup (n := 2) rfl (wgs_cons (wg_name (pg_name (i := 15) nd rfl (by first | exact Or.inl rfl | exact Or.inr rfl))) (wgs_cons (wg_name (pg_name (i := 16) nd rfl (by first | exact Or.inl rfl | exact Or.inr rfl))) (wgs_nil)))) (wss_one (ws_expr (we_bm (T := "dict") (r := rDUpd) sim_dupd (we_var (pv 14)) (wa_cons (we_cb (sim_dctP (nm := false)) (wa_cons (we_lc false rfl nd (own := [("_law_cell", 17)]) (wi_seq (we_var (pv 16))) (blkOk_by (N := ["_law_rows", "_law_plan_of", "_law_layers", "_law_deeds", "_law_jobs_there", "_law_many", "_law_at", "_law_last", "_law_copied_there", "_law_number", "_law_kind", "_law_upper", "_law_lower", "_law_due", "_law_whole", "_law_k", "_law_owned_here", "_law_cell"]) (sc := defScope s__law_work_right) (by decide +kernel)) (fun s_ H_ C_ cl_ fp_ => wg_name (pg_name (i := 17) nd rfl (by first | exact Or.inl rfl | exact Or.inr rfl))) (fun s_ H_ C_ cl_ fp_ => wts_nil) (fun s_ H_ C_ cl_ fp_ => we_tup (wa_cons (we_var (pv 17)) (wa_cons (we_op op_addU (sim_add (nm := false)) (we_var (pv 15)) (we_int)) (wa_nil)))) (by decide)) (wa_nil)) (fun a => pe_callTy call_dctP (by rfl) T.z_dict boot_dictU a)) (wa_nil)) (fun a b => pe_bm PySem.F.plainAttrs_dict PySem.F.slot_dict_update PySem.F.type_dict_update mt_dupd a b)))) (fun i g b => ps_for (passes_of rfl) rfl i g b)) (wss_one (ws_ret (we_and (we_cmp (op_eqU hr.units) sim_eq (we_var (pv 6)) (we_cb sim_len (wa_cons (we_var (pv 3)) (wa_nil)) (fun a => pe_callB (call_lenU rfl call_lenRd) (by rfl) T.z_len boot_lenU a)) (by rfl)) (we_and (we_cmp (op_eqN hr.units) (sim_eqH (neg := false)) (we_ix (ixU (hu_of hr)) sim_ix (we_var (pv 2)) (we_var (pv 7))) (we_var (pv 14)) (by rfl)) (we_one (we_cmp (op_eqU hr.units) sim_eq (we_var (pv 8)) (we_ix (ixU (hu_of hr)) sim_ix (we_callP D__law_worth noG (hr.mono (by decide)) tk (wa_cons (we_var (pv 0)) (wa_cons (we_var (pv 1)) (wa_nil))) B__law_worth_2) (we_int)) (by rfl)))))))))))
  exact ⟨_, Y⟩
theorem sc_cost_of : FnScope ["chain", "plan", "kind", "lower", "upper", "low", "high", "last"] ["chain", "plan"] (defScope s_cost_of) := ⟨rfl, rfl, rfl, by decide +kernel, rfl, by decide +kernel, by decide +kernel⟩
theorem ok_cost_of {f_is_cell : Addr} {fd_is_cell : FuncData} {f_span_of : Addr} {fd_span_of : FuncData} {f_copied : Addr} {fd_copied : FuncData} {f_owned_by : Addr} {fd_owned_by : FuncData} {f_cost_of : Addr} {fd_cost_of : FuncData} (j : Nat) {R_ : FD} (F : Fun K "cost_of" "cost_of" s_cost_of f fd) (T : Txt mg) (SMb : SM base) (C : Cst K CA mg) (Fl : Fld K CA) (Kt : KtOk K CA [0] (ktT [[.o 0]] tys)) (B_is_cell_1 : KwB K CA fd_is_cell ["thing"] 1 [] (srcP 0 1)) (D_is_cell : Df P w K mg base CA "is_cell" false 1 ["thing"] F_is_cell f_is_cell fd_is_cell) (B_span_of_2 : KwB K CA fd_span_of ["many", "thing"] 2 [] (srcP 0 2)) (D_span_of : Df P w K mg base CA "span_of" false 10 ["many", "thing"] F_span_of f_span_of fd_span_of) (B_copied_3 : KwB K CA fd_copied ["kind", "lower", "upper"] 3 [] (srcP 0 3)) (D_copied : Df P w K mg base CA "copied" false 1 ["kind", "lower", "upper"] F_copied f_copied fd_copied) (B_owned_by_3 : KwB K CA fd_owned_by ["chain", "first", "last"] 3 [] (srcP 0 3)) (D_owned_by : Df P w K mg base CA "owned_by" false 1 ["chain", "first", "last"] F_owned_by f_owned_by fd_owned_by) (B_cost_of_2 : KwB K CA fd_cost_of ["chain", "plan"] 2 [] (srcP 0 2)) (D_cost_of : Df P w K mg base CA "cost_of" false (10 + j) ["chain", "plan"] R_ f_cost_of fd_cost_of) : FnG P w K mg base false (10 + j + 1) f fd ["chain", "plan"] (spD K CA 2 (bodyF 8 (u_cost_of R_))) := by
  have nd := (sc_cost_of).nd
  refine okD F sc_cost_of rfl rfl fun cd A outer s H E hg hr tk => ?_
  have Y : WSs (cxD P w K mg base ["chain", "plan", "kind", "lower", "upper", "low", "high", "last"] "cost_of" s_cost_of f cd A outer s H E) K CA (wxD E) (defBody s_cost_of) _ _ := wss_cons (ws_if (wt_val (we_callP D_is_cell noG (hr.mono (by omega)) tk (wa_cons (we_var (pv 1)) (wa_nil)) B_is_cell_1)) (wss_one (ws_ret (we_int))) (wss_nil)) (wss_cons (ws_asg (we_var (pv 1)) (wg_tup (n := 3) rfl (wgs_cons (wg_name (pg_name (i := 2) nd rfl (by first | exact Or.inl rfl | exact Or.inr rfl))) (wgs_cons (wg_name (pg_name (i := 3) nd rfl (by first | exact Or.inl rfl | exact Or.inr rfl))) (wgs_cons (wg_name (pg_name (i := 4) nd rfl (by first | exact Or.inl rfl | exact Or.inr rfl))) (wgs_nil)))))) (wss_cons (ws_par (wa_cons (we_callP D_span_of noG (hr.mono (by omega)) tk (wa_cons (we_cb sim_len (wa_cons (we_var (pv 0)) (wa_nil)) (fun a => pe_callB (call_lenU rfl call_lenRd) (by rfl) T.z_len boot_lenU a)) (wa_cons (we_var (pv 3)) (wa_nil))) B_span_of_2) (wa_cons (we_callP D_span_of noG (hr.mono (by omega)) tk (wa_cons (we_cb sim_len (wa_cons (we_var (pv 0)) (wa_nil)) (fun a => pe_callB (call_lenU rfl call_lenRd) (by rfl) T.z_len boot_lenU a)) (wa_cons (we_var (pv 4)) (wa_nil))) B_span_of_2) (wa_nil))) (fun q => ps_par (i := 5) (j := 6) rfl nd rfl rfl (by decide) rfl rfl q (by rfl))) (wss_cons (ws_set (we_callP D_copied noG (hr.mono (by omega)) tk (wa_cons (we_var (pv 2)) (wa_cons (we_callP D_owned_by noG (hr.mono (by omega)) tk (wa_cons (we_var (pv 0)) (wa_cons (we_ix (ixU (hu_of hr)) sim_ix (we_var (pv 5)) (we_int)) (wa_cons (we_ix (ixU (hu_of hr)) sim_ix (we_var (pv 5)) (we_int)) (wa_nil)))) B_owned_by_3) (wa_cons (we_callP D_owned_by noG (hr.mono (by omega)) tk (wa_cons (we_var (pv 0)) (wa_cons (we_ix (ixU (hu_of hr)) sim_ix (we_var (pv 6)) (we_int)) (wa_cons (we_ix (ixU (hu_of hr)) sim_ix (we_var (pv 6)) (we_int)) (wa_nil)))) B_owned_by_3) (wa_nil)))) B_copied_3) (fun q => ps_set (i := 7) nd rfl (by first | exact Or.inl rfl | exact Or.inr rfl) q)) (wss_one (ws_ret (we_op op_addU (sim_add (nm := false)) (we_op op_addU (sim_add (nm := false)) (we_callP D_cost_of noG (hr.mono (by omega)) tk (wa_cons (we_var (pv 0)) (wa_cons (we_var (pv 3)) (wa_nil))) B_cost_of_2) (we_callP D_cost_of noG (hr.mono (by omega)) tk (wa_cons (we_var (pv 0)) (wa_cons (we_var (pv 4)) (wa_nil))) B_cost_of_2)) (we_var (pv 7))))))))
  exact ⟨_, Y⟩
theorem sc_cost : FnScope ["chain", "plan"] ["chain", "plan"] (defScope s_cost) := ⟨rfl, rfl, rfl, by decide +kernel, rfl, by decide +kernel, by decide +kernel⟩
theorem ok_cost {f_need_plan : Addr} {fd_need_plan : FuncData} {f_cost_of : Addr} {fd_cost_of : FuncData} (F : Fun K "cost" "cost" s_cost f fd) (T : Txt mg) (SMb : SM base) (C : Cst K CA mg) (Fl : Fld K CA) (Kt : KtOk K CA [0] (ktT [[.o 0]] tys)) (B_need_plan_2 : KwB K CA fd_need_plan ["chain", "plan"] 2 [] (srcP 0 2)) (D_need_plan : Df P w K mg base CA "need_plan" false 12 ["chain", "plan"] F_need_plan f_need_plan fd_need_plan) (B_cost_of_2 : KwB K CA fd_cost_of ["chain", "plan"] 2 [] (srcP 0 2)) (D_cost_of : Df P w K mg base CA "cost_of" false 19 ["chain", "plan"] F_cost_of f_cost_of fd_cost_of) : FnG P w K mg base false 20 f fd ["chain", "plan"] (spD K CA 2 (bodyF 2 u_cost)) := by
  have nd := (sc_cost).nd
  refine okD F sc_cost rfl rfl fun cd A outer s H E hg hr tk => ?_
  have Y : WSs (cxD P w K mg base ["chain", "plan"] "cost" s_cost f cd A outer s H E) K CA (wxD E) (defBody s_cost) _ _ := wss_cons (ws_expr (we_callP D_need_plan noG (hr.mono (by decide)) tk (wa_cons (we_var (pv 0)) (wa_cons (we_var (pv 1)) (wa_nil))) B_need_plan_2)) (wss_one (ws_ret (we_callP D_cost_of noG (hr.mono (by decide)) tk (wa_cons (we_var (pv 0)) (wa_cons (we_var (pv 1)) (wa_nil))) B_cost_of_2)))
  exact ⟨_, Y⟩
theorem sc_law : FnScope ["_law_script", "_law_draw", "_law_turn", "_law_rows", "_law_plan_of", "_law_deeds", "_law_work", "_law_at", "_law_deed", "_law_layers", "_law_due", "_law_cell", "_law_k", "_law_owned_here", "_law_shown"] ["_law_script"] (defScope s_law) := ⟨rfl, rfl, rfl, by decide +kernel, rfl, by decide +kernel, by decide +kernel⟩
theorem ok_law {f__law_begun : Addr} {fd__law_begun : FuncData} {f__law_chain : Addr} {fd__law_chain : FuncData} {f_cheapest : Addr} {fd_cheapest : FuncData} {f__law_plan : Addr} {fd__law_plan : FuncData} {f_deeds_for : Addr} {fd_deeds_for : FuncData} {f__law_built : Addr} {fd__law_built : FuncData} {f__law_work_right : Addr} {fd__law_work_right : FuncData} {f_cost : Addr} {fd_cost : FuncData} (F : Fun K "law" "law" s_law f fd) (T : Txt mg) (SMb : SM base) (C : Cst K CA mg) (Fl : Fld K CA) (Kt : KtOk K CA [0] (ktT [[.o 0]] tys)) (B__law_begun_1 : KwB K CA fd__law_begun ["_law_script"] 1 [] (srcP 0 1)) (D__law_begun : Df P w K mg base CA "_law_begun" false 1 ["_law_script"] F__law_begun f__law_begun fd__law_begun) (B__law_chain_3 : KwB K CA fd__law_chain ["_law_draw", "_law_least", "_law_most"] 3 [] (srcP 0 3)) (D__law_chain : Df P w K mg base CA "_law_chain" false 4 ["_law_draw", "_law_least", "_law_most"] F__law_chain f__law_chain fd__law_chain) (B_cheapest_1 : KwB K CA fd_cheapest ["chain"] 1 [] (srcP 0 1)) (D_cheapest : Df P w K mg base CA "cheapest" false 4 ["chain"] F_cheapest f_cheapest fd_cheapest) (B__law_plan_3 : KwB K CA fd__law_plan ["_law_draw", "_law_first", "_law_last"] 3 [] (srcP 0 3)) (D__law_plan : Df P w K mg base CA "_law_plan" false 12 ["_law_draw", "_law_first", "_law_last"] F__law_plan f__law_plan fd__law_plan) (B_deeds_for_2 : KwB K CA fd_deeds_for ["chain", "plan"] 2 [] (srcP 0 2)) (D_deeds_for : Df P w K mg base CA "deeds_for" false 13 ["chain", "plan"] F_deeds_for f_deeds_for fd_deeds_for) (B__law_built_1 : KwB K CA fd__law_built ["_law_deeds"] 1 [] (srcP 0 1)) (D__law_built : Df P w K mg base CA "_law_built" false 1 ["_law_deeds"] F__law_built f__law_built fd__law_built) (B__law_work_right_4 : KwB K CA fd__law_work_right ["_law_rows", "_law_plan_of", "_law_layers", "_law_deeds"] 4 [] (srcP 0 4)) (D__law_work_right : Df P w K mg base CA "_law_work_right" false 11 ["_law_rows", "_law_plan_of", "_law_layers", "_law_deeds"] F__law_work_right f__law_work_right fd__law_work_right) (B_deeds_for_0_plan_chain : KwB K CA fd_deeds_for ["chain", "plan"] 0 ["plan", "chain"] ([.k 1, .k 0])) (B_cost_2 : KwB K CA fd_cost ["chain", "plan"] 2 [] (srcP 0 2)) (D_cost : Df P w K mg base CA "cost" false 20 ["chain", "plan"] F_cost f_cost fd_cost) : FnG P w K mg base true 21 f fd ["_law_script"] (spD K CA 1 (bodyF 15 u_law)) := by
  have nd := (sc_law).nd
  refine okD F sc_law rfl rfl fun cd A outer s H E hg hr tk => ?_
  have Y : WSs (cxD P w K mg base ["_law_script", "_law_draw", "_law_turn", "_law_rows", "_law_plan_of", "_law_deeds", "_law_work", "_law_at", "_law_deed", "_law_layers", "_law_due", "_law_cell", "_law_k", "_law_owned_here", "_law_shown"] "law" s_law f cd A outer s H E) K CA (wxD E) (defBody s_law) _ _ := wss_cons (ws_set (we_callP D__law_begun noG (hr.mono (by decide)) tk (wa_cons (we_var (pv 0)) (wa_nil)) B__law_begun_1) (fun q => ps_set (i := 1) nd rfl (by first | exact Or.inl rfl | exact Or.inr rfl) q)) (wss_cons (ws_for (wi_rng1 (wa_cons (we_op op_addU (sim_add (nm := false)) (we_int) (we_cb sim_min (wa_cons (we_cb sim_len (wa_cons (we_var (pv 0)) (wa_nil)) (fun a => pe_callB (call_lenU rfl call_lenRd) (by rfl) T.z_len boot_lenU a)) (wa_cons (we_int) (wa_nil))) (fun a => pe_callB call_minU (by rfl) T.z_min boot_minU a))) (wa_nil)) (fun a => pi_range1 (by rfl) T.z_range a)) (wg_name (pg_name (i := 2) nd rfl (by first | exact Or.inl rfl | exact Or.inr rfl))) (wss_cons (ws_set (we_callP D__law_chain noG (hr.mono (by decide)) tk (wa_cons (we_var (pv 1)) (wa_cons (we_int) (wa_cons (we_int) (wa_nil)))) B__law_chain_3) (fun q => ps_set (i := 3) nd rfl (by first | exact Or.inl rfl | exact Or.inr rfl) q)) (wss_one (ws_for (wi_seq (we_lst false (wa_cons (we_callP D__law_plan noG (hr.mono (by decide)) tk (wa_cons (we_var (pv 1)) (wa_cons (we_int) (wa_cons (we_op op_sub sim_subI (we_cb sim_len (wa_cons (we_var (pv 3)) (wa_nil)) (fun a => pe_callB (call_lenU rfl call_lenRd) (by rfl) T.z_len boot_lenU a)) (we_int)) (wa_nil)))) B__law_plan_3) (wa_cons (we_ix (ixU (hu_of hr)) sim_ix (we_callP D_cheapest noG (hr.mono (by decide)) tk (wa_cons (we_var (pv 3)) (wa_nil)) B_cheapest_1) (we_int)) (wa_nil))))) (wg_name (pg_name (i := 4) nd rfl (by first | exact Or.inl rfl | exact Or.inr rfl))) (wss_cons (ws_set (we_callP D_deeds_for noG (hr.mono (by decide)) tk (wa_cons (we_var (pv 3)) (wa_cons (we_var (pv 4)) (wa_nil))) B_deeds_for_2) (fun q => ps_set (i := 5) nd rfl (by first | exact Or.inl rfl | exact Or.inr rfl) q)) (wss_cons (ws_set (we_op op_addU (sim_add (nm := false)) (we_lc false rfl nd (own := [("_law_at", 7), ("_law_deed", 8)]) (wi_enumN (wa_cons (we_var (pv 5)) (wa_nil)) (fun a => pi_enum (by rfl) T.z_enumerate a)) (blkOk_by (N := ["_law_script", "_law_draw", "_law_turn", "_law_rows", "_law_plan_of", "_law_deeds", "_law_work", "_law_at", "_law_deed", "_law_layers", "_law_due", "_law_cell", "_law_k", "_law_owned_here", "_law_shown"]) (sc := defScope s_law) (by decide +kernel)) (fun s_ H_ C_ cl_ fp_ => wg_tup (n := 2) rfl (wgs_cons (wg_name (pg_name (i := 7) nd rfl (by first | exact Or.inl rfl | exact Or.inr rfl))) (wgs_cons (wg_name (pg_name (i := 8) nd rfl (by first | exact Or.inl rfl | exact Or.inr rfl))) (wgs_nil)))) (fun s_ H_ C_ cl_ fp_ => wts_one (wt_cmp (op_eqU hr.units) sim_eq (we_ix (ixU (hu_of hr)) sim_ix (we_var (pv 8)) (we_int)) (we_str) (by rfl))) (fun s_ H_ C_ cl_ fp_ => we_var (pv 7)) (by decide)) (we_lst false (wa_cons (we_cb sim_len (wa_cons (we_var (pv 5)) (wa_nil)) (fun a => pe_callB (call_lenU rfl call_lenRd) (by rfl) T.z_len boot_lenU a)) (wa_nil)))) (fun q => ps_set (i := 6) nd rfl (by first | exact Or.inl rfl | exact Or.inr rfl) q)) (wss_cons (ws_set (we_callP D__law_built noG (hr.mono (by decide)) tk (wa_cons (we_slice false (we_var (pv 5)) (wo_none) (wo_some (we_ix (ixU (hu_of hr)) sim_ix (we_var (pv 6)) (we_int)))) (wa_nil)) B__law_built_1) (fun q => ps_set (i := 9) nd rfl (by first | exact Or.inl rfl | exact Or.inr rfl) q)) (wss_cons (ws_set (we_op op_addU (sim_add (nm := false)) (we_op op_addU (sim_add (nm := false)) (we_lst false (wa_cons (we_dnew false) (wa_nil))) (we_lc false rfl nd (own := [("_law_k", 12), ("_law_owned_here", 13)]) (wi_enum (wa_cons (we_var (pv 3)) (wa_nil)) (fun a => pi_enum (by rfl) T.z_enumerate a)) (blkOk_by (N := ["_law_script", "_law_draw", "_law_turn", "_law_rows", "_law_plan_of", "_law_deeds", "_law_work", "_law_at", "_law_deed", "_law_layers", "_law_due", "_law_cell", "_law_k", "_law_owned_here", "_law_shown"]) (sc := defScope s_law) (by decide +kernel)) (fun s_ H_ C_ cl_ fp_ => wg_tup (n := 2) rfl (wgs_cons (wg_name (pg_name (i := 12) nd rfl (by first | exact Or.inl rfl | exact Or.inr rfl))) (wgs_cons (wg_name (pg_name (i := 13) nd rfl (by first | exact Or.inl rfl | exact Or.inr rfl))) (wgs_nil)))) (fun s_ H_ C_ cl_ fp_ => wts_nil) (fun s_ H_ C_ cl_ fp_ => we_cb (sim_dctP (nm := false)) (wa_cons (we_lcP rfl nd (own := [("_law_cell", 11)]) (we_var (pv 13)) (rfl) (blkOk_by (N := ["_law_script", "_law_draw", "_law_turn", "_law_rows", "_law_plan_of", "_law_deeds", "_law_work", "_law_at", "_law_deed", "_law_layers", "_law_due", "_law_cell", "_law_k", "_law_owned_here", "_law_shown"]) (by kernel_rfl)) (fun s_ H_ C_ cl_ fp_ => wg_name (pg_name (i := 11) nd rfl (by first | exact Or.inl rfl | exact Or.inr rfl))) (fun s_ H_ C_ cl_ fp_ => wts_nil) (fun s_ H_ C_ cl_ fp_ => we_tup (wa_cons (we_var (pv 11)) (wa_cons (we_op op_addU (sim_add (nm := false)) (we_var (pv 12)) (we_int)) (wa_nil)))) (by decide)) (wa_nil)) (fun a => pe_callTy call_dctP (by rfl) T.z_dict boot_dictU a)) (by decide))) (we_lst false (wa_cons (we_dnew false) (wa_nil)))) (fun q => ps_set (i := 10) nd rfl (by first | exact Or.inl rfl | exact Or.inr rfl) q)) (wss_cons (ws_if (CM.WW.wt (ww_or (wt_not (wt_val (we_cb (sim_isi Kt) (wa_cons (we_var (pv 5)) (wa_cons (we_ty (pe_bltn (by rfl) T.z_list boot_listU rfl)) (wa_nil))) (fun a => pe_callB call_isiU (by rfl) T.z_isinstance boot_isinstanceU a)))) (ww_or1 (wt_cmp (op_neHL hr.units) (sim_eqHL (neg := true)) (we_var (pv 9)) (we_var (pv 10)) (by rfl))))) (wss_one (ws_ret (we_bl))) (wss_nil)) (wss_cons (ws_if (wt_not (wt_val (we_callP D__law_work_right noG (hr.mono (by decide)) tk (wa_cons (we_var (pv 3)) (wa_cons (we_var (pv 4)) (wa_cons (we_var (pv 9)) (wa_cons (we_slice false (we_var (pv 5)) (wo_some (we_ix (ixU (hu_of hr)) sim_ix (we_var (pv 6)) (we_int))) (wo_none)) (wa_nil))))) B__law_work_right_4))) (wss_one (ws_ret (we_bl))) (wss_nil)) (wss_cons (ws_set (we_cb sim_rep (wa_cons (we_var (pv 5)) (wa_nil)) (fun a => pe_callB (call_rep SMb (hg rfl) hr.units) (by rfl) T.z_repr boot_reprU a)) (fun q => ps_set (i := 14) nd rfl (by first | exact Or.inl rfl | exact Or.inr rfl) q)) (wss_cons (ws_expr (we_bm (T := "list") (r := rAppend) sim_append (we_var (pv 5)) (wa_cons (we_non) (wa_nil)) (fun a b => pe_bm PySem.F.plainAttrs_list PySem.F.slot_list_append PySem.F.type_list_append mt_append a b))) (wss_one (ws_if (CM.WW.wt (ww_or (wt_cmp (op_neU hr.units) sim_ne (we_cb sim_rep (wa_cons (we_callK0 D_deeds_for noG (hr.mono (by decide)) tk (wk_cons (we_var (pv 4)) (wk_cons (we_cb sim_tupOf (wa_cons (we_var (pv 3)) (wa_nil)) (fun a => pe_callTy call_tupOf (by rfl) T.z_tuple boot_tupleU a)) (wk_nil))) B_deeds_for_0_plan_chain) (wa_nil)) (fun a => pe_callB (call_rep SMb (hg rfl) hr.units) (by rfl) T.z_repr boot_reprU a)) (we_var (pv 14)) (by rfl)) (ww_or1 (wt_cmp op_lt sim_cB (we_callP D_cost noG (hr.mono (by decide)) tk (wa_cons (we_var (pv 3)) (wa_cons (we_var (pv 4)) (wa_nil))) B_cost_2) (we_int) (by rfl))))) (wss_one (ws_ret (we_bl))) (wss_nil))))))))))) (fun i g b => ps_for (passes_of rfl) rfl i g b)))) (fun i g b => ps_for (passes_of rfl) rfl i g b)) (wss_one (ws_ret (we_bl))))
  exact ⟨_, Y⟩
theorem all_mk {l : PySem.W.OpenLaw} {h : Heap} {fa : Addr} {C0 : Addr} {f0 : Addr} {od0 an0 : Option Addr} {sl0 : Array (Option Value)} {oc0 kV0 dc0 pm0 cd0 ct0 : Value} {f1 : Addr} {od1 an1 : Option Addr} {sl1 : Array (Option Value)} {oc1 kV1 dc1 pm1 cd1 ct1 : Value} {f2 : Addr} {od2 an2 : Option Addr} {sl2 : Array (Option Value)} {oc2 kV2 dc2 pm2 cd2 ct2 : Value} {f3 : Addr} {od3 an3 : Option Addr} {sl3 : Array (Option Value)} {oc3 kV3 dc3 pm3 cd3 ct3 : Value} {f4 : Addr} {od4 an4 : Option Addr} {sl4 : Array (Option Value)} {oc4 kV4 dc4 pm4 cd4 ct4 : Value} {f5 : Addr} {od5 an5 : Option Addr} {sl5 : Array (Option Value)} {oc5 kV5 dc5 pm5 cd5 ct5 : Value} {f6 : Addr} {od6 an6 : Option Addr} {sl6 : Array (Option Value)} {oc6 kV6 dc6 pm6 cd6 ct6 : Value} {f7 : Addr} {od7 an7 : Option Addr} {sl7 : Array (Option Value)} {oc7 kV7 dc7 pm7 cd7 ct7 : Value} {f8 : Addr} {od8 an8 : Option Addr} {sl8 : Array (Option Value)} {oc8 kV8 dc8 pm8 cd8 ct8 : Value} {f9 : Addr} {od9 an9 : Option Addr} {sl9 : Array (Option Value)} {oc9 kV9 dc9 pm9 cd9 ct9 : Value} {f10 : Addr} {od10 an10 : Option Addr} {sl10 : Array (Option Value)} {oc10 kV10 dc10 pm10 cd10 ct10 : Value} {f11 : Addr} {od11 an11 : Option Addr} {sl11 : Array (Option Value)} {oc11 kV11 dc11 pm11 cd11 ct11 : Value} {f12 : Addr} {od12 an12 : Option Addr} {sl12 : Array (Option Value)} {oc12 kV12 dc12 pm12 cd12 ct12 : Value} {f13 : Addr} {od13 an13 : Option Addr} {sl13 : Array (Option Value)} {oc13 kV13 dc13 pm13 cd13 ct13 : Value} {f14 : Addr} {od14 an14 : Option Addr} {sl14 : Array (Option Value)} {oc14 kV14 dc14 pm14 cd14 ct14 : Value} {f15 : Addr} {od15 an15 : Option Addr} {sl15 : Array (Option Value)} {oc15 kV15 dc15 pm15 cd15 ct15 : Value} {f16 : Addr} {od16 an16 : Option Addr} {sl16 : Array (Option Value)} {oc16 kV16 dc16 pm16 cd16 ct16 : Value} {f17 : Addr} {od17 an17 : Option Addr} {sl17 : Array (Option Value)} {oc17 kV17 dc17 pm17 cd17 ct17 : Value} {f18 : Addr} {od18 an18 : Option Addr} {sl18 : Array (Option Value)} {oc18 kV18 dc18 pm18 cd18 ct18 : Value} {f19 : Addr} {od19 an19 : Option Addr} {sl19 : Array (Option Value)} {oc19 kV19 dc19 pm19 cd19 ct19 : Value} {f20 : Addr} {od20 an20 : Option Addr} {sl20 : Array (Option Value)} {oc20 kV20 dc20 pm20 cd20 ct20 : Value} {f21 : Addr} {od21 an21 : Option Addr} {sl21 : Array (Option Value)} {oc21 kV21 dc21 pm21 cd21 ct21 : Value} {f22 : Addr} {od22 an22 : Option Addr} {sl22 : Array (Option Value)} {oc22 kV22 dc22 pm22 cd22 ct22 : Value} {f23 : Addr} {od23 an23 : Option Addr} {sl23 : Array (Option Value)} {oc23 kV23 dc23 pm23 cd23 ct23 : Value} {f24 : Addr} {od24 an24 : Option Addr} {sl24 : Array (Option Value)} {oc24 kV24 dc24 pm24 cd24 ct24 : Value} {f25 : Addr} {od25 an25 : Option Addr} {sl25 : Array (Option Value)} {oc25 kV25 dc25 pm25 cd25 ct25 : Value} {f26 : Addr} {od26 an26 : Option Addr} {sl26 : Array (Option Value)} {oc26 kV26 dc26 pm26 cd26 ct26 : Value} {f27 : Addr} {od27 an27 : Option Addr} {sl27 : Array (Option Value)} {oc27 kV27 dc27 pm27 cd27 ct27 : Value} {f28 : Addr} {od28 an28 : Option Addr} {sl28 : Array (Option Value)} {oc28 kV28 dc28 pm28 cd28 ct28 : Value} {t_MOST_LAYERS : Tok} {t_KINDS0 t_KINDS1 : Tok} {p_KINDS : Addr} {dd_KINDS : Option Addr} {n_KINDS : Nat} {sl_KINDS : Array (Option Value)} (X : K.In h) (G : h.Ns mainGlobals mg) (hfa : mg "law" = some (.ref fa))
    (ac0 : PySem.W.nsIn K mainGlobals "Work" = some (some (.ref C0)))
    (a0 : PySem.W.nsIn K mainGlobals "_law_begun" = some (some (.ref f0)))
    (l0 : K.lookup f0 = some ⟨oc0, od0, .func (PySem.W.fnOf "_law_begun" "_law_begun" (defArgs s__law_begun) (defBody s__law_begun) (defScope s__law_begun) .none kV0 dc0 pm0 an0 cd0 ct0), sl0⟩)
    (c0 : PySem.W.codeIn K cd0 "_law_begun" = true)
    (k0 : PySem.W.keepIn K (.ref f0) = true)
    (a1 : PySem.W.nsIn K mainGlobals "_law_mixed" = some (some (.ref f1)))
    (l1 : K.lookup f1 = some ⟨oc1, od1, .func (PySem.W.fnOf "_law_mixed" "_law_mixed" (defArgs s__law_mixed) (defBody s__law_mixed) (defScope s__law_mixed) .none kV1 dc1 pm1 an1 cd1 ct1), sl1⟩)
    (c1 : PySem.W.codeIn K cd1 "_law_mixed" = true)
    (k1 : PySem.W.keepIn K (.ref f1) = true)
    (a2 : PySem.W.nsIn K mainGlobals "_law_take" = some (some (.ref f2)))
    (l2 : K.lookup f2 = some ⟨oc2, od2, .func (PySem.W.fnOf "_law_take" "_law_take" (defArgs s__law_take) (defBody s__law_take) (defScope s__law_take) .none kV2 dc2 pm2 an2 cd2 ct2), sl2⟩)
    (c2 : PySem.W.codeIn K cd2 "_law_take" = true)
    (k2 : PySem.W.keepIn K (.ref f2) = true)
    (a3 : PySem.W.nsIn K mainGlobals "_law_pick" = some (some (.ref f3)))
    (l3 : K.lookup f3 = some ⟨oc3, od3, .func (PySem.W.fnOf "_law_pick" "_law_pick" (defArgs s__law_pick) (defBody s__law_pick) (defScope s__law_pick) .none kV3 dc3 pm3 an3 cd3 ct3), sl3⟩)
    (c3 : PySem.W.codeIn K cd3 "_law_pick" = true)
    (k3 : PySem.W.keepIn K (.ref f3) = true)
    (a4 : PySem.W.nsIn K mainGlobals "_law_owned" = some (some (.ref f4)))
    (l4 : K.lookup f4 = some ⟨oc4, od4, .func (PySem.W.fnOf "_law_owned" "_law_owned" (defArgs s__law_owned) (defBody s__law_owned) (defScope s__law_owned) .none kV4 dc4 pm4 an4 cd4 ct4), sl4⟩)
    (c4 : PySem.W.codeIn K cd4 "_law_owned" = true)
    (k4 : PySem.W.keepIn K (.ref f4) = true)
    (a5 : PySem.W.nsIn K mainGlobals "_law_chain" = some (some (.ref f5)))
    (l5 : K.lookup f5 = some ⟨oc5, od5, .func (PySem.W.fnOf "_law_chain" "_law_chain" (defArgs s__law_chain) (defBody s__law_chain) (defScope s__law_chain) .none kV5 dc5 pm5 an5 cd5 ct5), sl5⟩)
    (c5 : PySem.W.codeIn K cd5 "_law_chain" = true)
    (k5 : PySem.W.keepIn K (.ref f5) = true)
    (a6 : PySem.W.nsIn K mainGlobals "_law_plan" = some (some (.ref f6)))
    (l6 : K.lookup f6 = some ⟨oc6, od6, .func (PySem.W.fnOf "_law_plan" "_law_plan" (defArgs s__law_plan) (defBody s__law_plan) (defScope s__law_plan) .none kV6 dc6 pm6 an6 cd6 ct6), sl6⟩)
    (c6 : PySem.W.codeIn K cd6 "_law_plan" = true)
    (k6 : PySem.W.keepIn K (.ref f6) = true)
    (a7 : PySem.W.nsIn K mainGlobals "is_cell" = some (some (.ref f7)))
    (l7 : K.lookup f7 = some ⟨oc7, od7, .func (PySem.W.fnOf "is_cell" "is_cell" (defArgs s_is_cell) (defBody s_is_cell) (defScope s_is_cell) .none kV7 dc7 pm7 an7 cd7 ct7), sl7⟩)
    (c7 : PySem.W.codeIn K cd7 "is_cell" = true)
    (k7 : PySem.W.keepIn K (.ref f7) = true)
    (a8 : PySem.W.nsIn K mainGlobals "is_owned" = some (some (.ref f8)))
    (l8 : K.lookup f8 = some ⟨oc8, od8, .func (PySem.W.fnOf "is_owned" "is_owned" (defArgs s_is_owned) (defBody s_is_owned) (defScope s_is_owned) .none kV8 dc8 pm8 an8 cd8 ct8), sl8⟩)
    (c8 : PySem.W.codeIn K cd8 "is_owned" = true)
    (k8 : PySem.W.keepIn K (.ref f8) = true)
    (a9 : PySem.W.nsIn K mainGlobals "need_chain" = some (some (.ref f9)))
    (l9 : K.lookup f9 = some ⟨oc9, od9, .func (PySem.W.fnOf "need_chain" "need_chain" (defArgs s_need_chain) (defBody s_need_chain) (defScope s_need_chain) .none kV9 dc9 pm9 an9 cd9 ct9), sl9⟩)
    (c9 : PySem.W.codeIn K cd9 "need_chain" = true)
    (k9 : PySem.W.keepIn K (.ref f9) = true)
    (a10 : PySem.W.nsIn K mainGlobals "span_of" = some (some (.ref f10)))
    (l10 : K.lookup f10 = some ⟨oc10, od10, .func (PySem.W.fnOf "span_of" "span_of" (defArgs s_span_of) (defBody s_span_of) (defScope s_span_of) .none kV10 dc10 pm10 an10 cd10 ct10), sl10⟩)
    (c10 : PySem.W.codeIn K cd10 "span_of" = true)
    (k10 : PySem.W.keepIn K (.ref f10) = true)
    (a11 : PySem.W.nsIn K mainGlobals "is_plan" = some (some (.ref f11)))
    (l11 : K.lookup f11 = some ⟨oc11, od11, .func (PySem.W.fnOf "is_plan" "is_plan" (defArgs s_is_plan) (defBody s_is_plan) (defScope s_is_plan) .none kV11 dc11 pm11 an11 cd11 ct11), sl11⟩)
    (c11 : PySem.W.codeIn K cd11 "is_plan" = true)
    (k11 : PySem.W.keepIn K (.ref f11) = true)
    (a12 : PySem.W.nsIn K mainGlobals "need_plan" = some (some (.ref f12)))
    (l12 : K.lookup f12 = some ⟨oc12, od12, .func (PySem.W.fnOf "need_plan" "need_plan" (defArgs s_need_plan) (defBody s_need_plan) (defScope s_need_plan) .none kV12 dc12 pm12 an12 cd12 ct12), sl12⟩)
    (c12 : PySem.W.codeIn K cd12 "need_plan" = true)
    (k12 : PySem.W.keepIn K (.ref f12) = true)
    (a13 : PySem.W.findIn K (.ref C0) "merged" = some (some (.ref f13)))
    (fn13 : PySem.W.isFn K (.ref f13) = true)
    (l13 : K.lookup f13 = some ⟨oc13, od13, .func (PySem.W.fnOf "merged" "Work.merged" (defArgs s_Work_merged) (defBody s_Work_merged) (defScope s_Work_merged) .none kV13 dc13 pm13 an13 cd13 ct13), sl13⟩)
    (c13 : PySem.W.codeIn K cd13 "Work.merged" = true)
    (k13 : PySem.W.keepIn K (.ref f13) = true)
    (a14 : PySem.W.findIn K (.ref C0) "__init__" = some (some (.ref f14)))
    (fn14 : PySem.W.isFn K (.ref f14) = true)
    (mk14 : PySem.W.makesIn K C0 = true)
    (kc14 : PySem.W.keepIn K (.ref C0) = true)
    (l14 : K.lookup f14 = some ⟨oc14, od14, .func (PySem.W.fnOf "__init__" "Work.__init__" (defArgs s_Work_init) (defBody s_Work_init) (defScope s_Work_init) .none kV14 dc14 pm14 an14 cd14 ct14), sl14⟩)
    (c14 : PySem.W.codeIn K cd14 "Work.__init__" = true)
    (k14 : PySem.W.keepIn K (.ref f14) = true)
    (a15 : PySem.W.nsIn K mainGlobals "cells_of" = some (some (.ref f15)))
    (l15 : K.lookup f15 = some ⟨oc15, od15, .func (PySem.W.fnOf "cells_of" "cells_of" (defArgs s_cells_of) (defBody s_cells_of) (defScope s_cells_of) .none kV15 dc15 pm15 an15 cd15 ct15), sl15⟩)
    (c15 : PySem.W.codeIn K cd15 "cells_of" = true)
    (k15 : PySem.W.keepIn K (.ref f15) = true)
    (a16 : PySem.W.nsIn K mainGlobals "deeds_for" = some (some (.ref f16)))
    (l16 : K.lookup f16 = some ⟨oc16, od16, .func (PySem.W.fnOf "deeds_for" "deeds_for" (defArgs s_deeds_for) (defBody s_deeds_for) (defScope s_deeds_for) .none kV16 dc16 pm16 an16 cd16 ct16), sl16⟩)
    (c16 : PySem.W.codeIn K cd16 "deeds_for" = true)
    (k16 : PySem.W.keepIn K (.ref f16) = true)
    (a17 : PySem.W.nsIn K mainGlobals "_law_built" = some (some (.ref f17)))
    (l17 : K.lookup f17 = some ⟨oc17, od17, .func (PySem.W.fnOf "_law_built" "_law_built" (defArgs s__law_built) (defBody s__law_built) (defScope s__law_built) .none kV17 dc17 pm17 an17 cd17 ct17), sl17⟩)
    (c17 : PySem.W.codeIn K cd17 "_law_built" = true)
    (k17 : PySem.W.keepIn K (.ref f17) = true)
    (a18 : PySem.W.nsIn K mainGlobals "owned_by" = some (some (.ref f18)))
    (l18 : K.lookup f18 = some ⟨oc18, od18, .func (PySem.W.fnOf "owned_by" "owned_by" (defArgs s_owned_by) (defBody s_owned_by) (defScope s_owned_by) .none kV18 dc18 pm18 an18 cd18 ct18), sl18⟩)
    (c18 : PySem.W.codeIn K cd18 "owned_by" = true)
    (k18 : PySem.W.keepIn K (.ref f18) = true)
    (a19 : PySem.W.nsIn K mainGlobals "copied" = some (some (.ref f19)))
    (l19 : K.lookup f19 = some ⟨oc19, od19, .func (PySem.W.fnOf "copied" "copied" (defArgs s_copied) (defBody s_copied) (defScope s_copied) .none kV19 dc19 pm19 an19 cd19 ct19), sl19⟩)
    (c19 : PySem.W.codeIn K cd19 "copied" = true)
    (k19 : PySem.W.keepIn K (.ref f19) = true)
    (a20 : PySem.W.nsIn K mainGlobals "cheapest" = some (some (.ref f20)))
    (l20 : K.lookup f20 = some ⟨oc20, od20, .func (PySem.W.fnOf "cheapest" "cheapest" (defArgs s_cheapest) (defBody s_cheapest) (defScope s_cheapest) .none kV20 dc20 pm20 an20 cd20 ct20), sl20⟩)
    (c20 : PySem.W.codeIn K cd20 "cheapest" = true)
    (k20 : PySem.W.keepIn K (.ref f20) = true)
    (a21 : PySem.W.nsIn K mainGlobals "_law_is_cell" = some (some (.ref f21)))
    (l21 : K.lookup f21 = some ⟨oc21, od21, .func (PySem.W.fnOf "_law_is_cell" "_law_is_cell" (defArgs s__law_is_cell) (defBody s__law_is_cell) (defScope s__law_is_cell) .none kV21 dc21 pm21 an21 cd21 ct21), sl21⟩)
    (c21 : PySem.W.codeIn K cd21 "_law_is_cell" = true)
    (k21 : PySem.W.keepIn K (.ref f21) = true)
    (a22 : PySem.W.nsIn K mainGlobals "_law_jobs" = some (some (.ref f22)))
    (l22 : K.lookup f22 = some ⟨oc22, od22, .func (PySem.W.fnOf "_law_jobs" "_law_jobs" (defArgs s__law_jobs) (defBody s__law_jobs) (defScope s__law_jobs) .none kV22 dc22 pm22 an22 cd22 ct22), sl22⟩)
    (c22 : PySem.W.codeIn K cd22 "_law_jobs" = true)
    (k22 : PySem.W.keepIn K (.ref f22) = true)
    (a23 : PySem.W.nsIn K mainGlobals "_law_merged" = some (some (.ref f23)))
    (l23 : K.lookup f23 = some ⟨oc23, od23, .func (PySem.W.fnOf "_law_merged" "_law_merged" (defArgs s__law_merged) (defBody s__law_merged) (defScope s__law_merged) .none kV23 dc23 pm23 an23 cd23 ct23), sl23⟩)
    (c23 : PySem.W.codeIn K cd23 "_law_merged" = true)
    (k23 : PySem.W.keepIn K (.ref f23) = true)
    (a24 : PySem.W.nsIn K mainGlobals "_law_worth" = some (some (.ref f24)))
    (l24 : K.lookup f24 = some ⟨oc24, od24, .func (PySem.W.fnOf "_law_worth" "_law_worth" (defArgs s__law_worth) (defBody s__law_worth) (defScope s__law_worth) .none kV24 dc24 pm24 an24 cd24 ct24), sl24⟩)
    (c24 : PySem.W.codeIn K cd24 "_law_worth" = true)
    (k24 : PySem.W.keepIn K (.ref f24) = true)
    (a25 : PySem.W.nsIn K mainGlobals "_law_work_right" = some (some (.ref f25)))
    (l25 : K.lookup f25 = some ⟨oc25, od25, .func (PySem.W.fnOf "_law_work_right" "_law_work_right" (defArgs s__law_work_right) (defBody s__law_work_right) (defScope s__law_work_right) .none kV25 dc25 pm25 an25 cd25 ct25), sl25⟩)
    (c25 : PySem.W.codeIn K cd25 "_law_work_right" = true)
    (k25 : PySem.W.keepIn K (.ref f25) = true)
    (a26 : PySem.W.nsIn K mainGlobals "cost_of" = some (some (.ref f26)))
    (l26 : K.lookup f26 = some ⟨oc26, od26, .func (PySem.W.fnOf "cost_of" "cost_of" (defArgs s_cost_of) (defBody s_cost_of) (defScope s_cost_of) .none kV26 dc26 pm26 an26 cd26 ct26), sl26⟩)
    (c26 : PySem.W.codeIn K cd26 "cost_of" = true)
    (k26 : PySem.W.keepIn K (.ref f26) = true)
    (a27 : PySem.W.nsIn K mainGlobals "cost" = some (some (.ref f27)))
    (l27 : K.lookup f27 = some ⟨oc27, od27, .func (PySem.W.fnOf "cost" "cost" (defArgs s_cost) (defBody s_cost) (defScope s_cost) .none kV27 dc27 pm27 an27 cd27 ct27), sl27⟩)
    (c27 : PySem.W.codeIn K cd27 "cost" = true)
    (k27 : PySem.W.keepIn K (.ref f27) = true)
    (a28 : PySem.W.nsIn K mainGlobals "law" = some (some (.ref f28)))
    (l28 : K.lookup f28 = some ⟨oc28, od28, .func (PySem.W.fnOf "law" "law" (defArgs s_law) (defBody s_law) (defScope s_law) .none kV28 dc28 pm28 an28 cd28 ct28), sl28⟩)
    (c28 : PySem.W.codeIn K cd28 "law" = true)
    (k28 : PySem.W.keepIn K (.ref f28) = true)
    (g_MOST_LAYERS : PySem.W.nsIn K mainGlobals "MOST_LAYERS" = some (some (.int 8 t_MOST_LAYERS)))
    (g_KINDS : PySem.W.nsIn K mainGlobals "KINDS" = some (some (.ref p_KINDS)))
    (h_KINDS : K.lookup p_KINDS = some ⟨.type "tuple", dd_KINDS, .seq [.str "down" t_KINDS0, .str "up" t_KINDS1].toArray n_KINDS, sl_KINDS⟩)
    (z_abs : PySem.W.nsIn K mainGlobals "abs" = some none)
    (z_int : PySem.W.nsIn K mainGlobals "int" = some none)
    (z_len : PySem.W.nsIn K mainGlobals "len" = some none)
    (z_tuple : PySem.W.nsIn K mainGlobals "tuple" = some none)
    (z_range : PySem.W.nsIn K mainGlobals "range" = some none)
    (z_isinstance : PySem.W.nsIn K mainGlobals "isinstance" = some none)
    (z_bool : PySem.W.nsIn K mainGlobals "bool" = some none)
    (z_all : PySem.W.nsIn K mainGlobals "all" = some none)
    (z_list : PySem.W.nsIn K mainGlobals "list" = some none)
    (z_sorted : PySem.W.nsIn K mainGlobals "sorted" = some none)
    (z_set : PySem.W.nsIn K mainGlobals "set" = some none)
    (z_str : PySem.W.nsIn K mainGlobals "str" = some none)
    (z_max : PySem.W.nsIn K mainGlobals "max" = some none)
    (z_enumerate : PySem.W.nsIn K mainGlobals "enumerate" = some none)
    (z_min : PySem.W.nsIn K mainGlobals "min" = some none)
    (z_dict : PySem.W.nsIn K mainGlobals "dict" = some none)
    (z_repr : PySem.W.nsIn K mainGlobals "repr" = some none)
    (bc0 : clsB K C0 = true)
    (bf0 : noB K C0 ["line", "cells_there", "begun_jobs"] = true)
    (bk : ktChk K (⟨fun n => [C0].getD n 0, [], w⟩ : CAs) [[.o 0]] tys = true)
    : ∃ (fd : FuncData) (CA : CAs), CA.T = [] ∧ (∀ (s : Shared) (v : Value), BindsTo s fd ⟨[v], []⟩ [("_law_script", v)]) ∧ ∀ base : Heap, K.In base → base.Ns mainGlobals mg → SM base → FnG l.prog w K mg base true 21 fa fd ["_law_script"] (spD K CA 1 F_law) := by
  have e := hfa.symm.trans (PySem.W.mg_of X G a28)
  cases e
  have T : Txt mg := ⟨PySem.W.mg_none_of X G z_abs, PySem.W.mg_none_of X G z_int, PySem.W.mg_none_of X G z_len, PySem.W.mg_none_of X G z_tuple, PySem.W.mg_none_of X G z_range, PySem.W.mg_none_of X G z_isinstance, PySem.W.mg_none_of X G z_bool, PySem.W.mg_none_of X G z_all, PySem.W.mg_none_of X G z_list, PySem.W.mg_none_of X G z_sorted, PySem.W.mg_none_of X G z_set, PySem.W.mg_none_of X G z_str, PySem.W.mg_none_of X G z_max, PySem.W.mg_none_of X G z_enumerate, PySem.W.mg_none_of X G z_min, PySem.W.mg_none_of X G z_dict, PySem.W.mg_none_of X G z_repr⟩
  let CA : CAs := (⟨fun n => [C0].getD n 0, [], w⟩ : CAs)
  have K0 : ClsOk K (CA 0) := clsB_ok bc0
  have C : Cst K CA mg := ⟨gv_int (PySem.W.mg_of X G g_MOST_LAYERS), gv_wr (PySem.W.mg_of X G g_KINDS) (.tup h_KINDS (.cons (.str "down" _) (.cons (.str "up" _) (.nil))) (show 2 ≤ sizeLine by decide))⟩
  have Fl : Fld K CA := ⟨FldOf.one K0.cl (noB_ok bf0 (by decide)), FldOf.one K0.cl (noB_ok bf0 (by decide)), FldOf.one K0.cl (noB_ok bf0 (by decide))⟩
  have Kt : KtOk K CA [0] (ktT [[.o 0]] tys) := ktT_ok bk (fun c hc => by
    simp only [List.mem_cons, List.not_mem_nil, or_false] at hc
    subst hc
    all_goals first | exact K0)
  refine ⟨PySem.W.fnOf "law" "law" (defArgs s_law) (defBody s_law) (defScope s_law) .none kV28 dc28 pm28 an28 cd28 ct28, CA, rfl, fun s v => .of_eq rfl, fun base _ _ SMb => ?_⟩
  have F0 := fun_mk (st := s__law_begun) l0 c0 k0
  have D__law_begun : Df l.prog w K mg base CA "_law_begun" false 1 ["_law_script"] F__law_begun _ _ := Df.of F0 (ok__law_begun F0 T SMb C Fl Kt ) (PySem.W.mg_of X G a0)
  have F1 := fun_mk (st := s__law_mixed) l1 c1 k1
  have D__law_mixed : Df l.prog w K mg base CA "_law_mixed" false 1 ["_law_draw"] F__law_mixed _ _ := Df.of F1 (ok__law_mixed F1 T SMb C Fl Kt ) (PySem.W.mg_of X G a1)
  have F2 := fun_mk (st := s__law_take) l2 c2 k2
  have B__law_mixed_1 : KwB K CA _ ["_law_draw"] 1 [] (srcP 0 1) := KwB.fn F1 rfl (fun _ _ _ _ _ _ us ws h1 h2 => match us, ws, h1, h2 with | [_], [], _, _ => rfl)
  have D__law_take : Df l.prog w K mg base CA "_law_take" false 2 ["_law_draw", "_law_size"] F__law_take _ _ := Df.of F2 (ok__law_take F2 T SMb C Fl Kt B__law_mixed_1 D__law_mixed) (PySem.W.mg_of X G a2)
  have F3 := fun_mk (st := s__law_pick) l3 c3 k3
  have B__law_take_2 : KwB K CA _ ["_law_draw", "_law_size"] 2 [] (srcP 0 2) := KwB.fn F2 rfl (fun _ _ _ _ _ _ us ws h1 h2 => match us, ws, h1, h2 with | [_, _], [], _, _ => rfl)
  have D__law_pick : Df l.prog w K mg base CA "_law_pick" false 3 ["_law_draw", "_law_some"] F__law_pick _ _ := Df.of F3 (ok__law_pick F3 T SMb C Fl Kt B__law_take_2 D__law_take) (PySem.W.mg_of X G a3)
  have F4 := fun_mk (st := s__law_owned) l4 c4 k4
  have D__law_owned : Df l.prog w K mg base CA "_law_owned" false 3 ["_law_draw", "_law_most"] F__law_owned _ _ := Df.of F4 (ok__law_owned F4 T SMb C Fl Kt B__law_take_2 D__law_take) (PySem.W.mg_of X G a4)
  have F5 := fun_mk (st := s__law_chain) l5 c5 k5
  have B__law_pick_2 : KwB K CA _ ["_law_draw", "_law_some"] 2 [] (srcP 0 2) := KwB.fn F3 rfl (fun _ _ _ _ _ _ us ws h1 h2 => match us, ws, h1, h2 with | [_, _], [], _, _ => rfl)
  have B__law_owned_2 : KwB K CA _ ["_law_draw", "_law_most"] 2 [] (srcP 0 2) := KwB.fn F4 rfl (fun _ _ _ _ _ _ us ws h1 h2 => match us, ws, h1, h2 with | [_, _], [], _, _ => rfl)
  have D__law_chain : Df l.prog w K mg base CA "_law_chain" false 4 ["_law_draw", "_law_least", "_law_most"] F__law_chain _ _ := Df.of F5 (ok__law_chain F5 T SMb C Fl Kt B__law_pick_2 D__law_pick B__law_take_2 D__law_take B__law_owned_2 D__law_owned) (PySem.W.mg_of X G a5)
  have F6 := fun_mk (st := s__law_plan) l6 c6 k6
  have B__law_plan_3 : KwB K CA _ ["_law_draw", "_law_first", "_law_last"] 3 [] (srcP 0 3) := KwB.fn F6 rfl (fun _ _ _ _ _ _ us ws h1 h2 => match us, ws, h1, h2 with | [_, _, _], [], _, _ => rfl)
  have D__law_plan_ : ∀ j, Df l.prog w K mg base CA "_law_plan" false (3 + j) ["_law_draw", "_law_first", "_law_last"] (F__law_plan_ j) f6 (PySem.W.fnOf "_law_plan" "_law_plan" (defArgs s__law_plan) (defBody s__law_plan) (defScope s__law_plan) .none kV6 dc6 pm6 an6 cd6 ct6) := fun j => by
    induction j with
    | zero => exact ⟨.none, PySem.W.mg_of X G a6, k6⟩
    | succ j ih => exact Df.of F6 (ok__law_plan j F6 T SMb C Fl Kt B__law_take_2 D__law_take B__law_pick_2 D__law_pick B__law_plan_3 ih) (PySem.W.mg_of X G a6)
  have D__law_plan : Df l.prog w K mg base CA "_law_plan" false 12 ["_law_draw", "_law_first", "_law_last"] F__law_plan f6 (PySem.W.fnOf "_law_plan" "_law_plan" (defArgs s__law_plan) (defBody s__law_plan) (defScope s__law_plan) .none kV6 dc6 pm6 an6 cd6 ct6) := D__law_plan_ 9
  have F7 := fun_mk (st := s_is_cell) l7 c7 k7
  have D_is_cell : Df l.prog w K mg base CA "is_cell" false 1 ["thing"] F_is_cell _ _ := Df.of F7 (ok_is_cell F7 T SMb C Fl Kt ) (PySem.W.mg_of X G a7)
  have F8 := fun_mk (st := s_is_owned) l8 c8 k8
  have B_is_cell_1 : KwB K CA _ ["thing"] 1 [] (srcP 0 1) := KwB.fn F7 rfl (fun _ _ _ _ _ _ us ws h1 h2 => match us, ws, h1, h2 with | [_], [], _, _ => rfl)
  have D_is_owned : Df l.prog w K mg base CA "is_owned" false 2 ["thing"] F_is_owned _ _ := Df.of F8 (ok_is_owned F8 T SMb C Fl Kt B_is_cell_1 D_is_cell) (PySem.W.mg_of X G a8)
  have F9 := fun_mk (st := s_need_chain) l9 c9 k9
  have B_is_owned_1 : KwB K CA _ ["thing"] 1 [] (srcP 0 1) := KwB.fn F8 rfl (fun _ _ _ _ _ _ us ws h1 h2 => match us, ws, h1, h2 with | [_], [], _, _ => rfl)
  have D_need_chain : Df l.prog w K mg base CA "need_chain" false 3 ["chain"] F_need_chain _ _ := Df.of F9 (ok_need_chain F9 T SMb C Fl Kt B_is_owned_1 D_is_owned) (PySem.W.mg_of X G a9)
  have F10 := fun_mk (st := s_span_of) l10 c10 k10
  have B_span_of_2 : KwB K CA _ ["many", "thing"] 2 [] (srcP 0 2) := KwB.fn F10 rfl (fun _ _ _ _ _ _ us ws h1 h2 => match us, ws, h1, h2 with | [_, _], [], _, _ => rfl)
  have D_span_of_ : ∀ j, Df l.prog w K mg base CA "span_of" false (1 + j) ["many", "thing"] (F_span_of_ j) f10 (PySem.W.fnOf "span_of" "span_of" (defArgs s_span_of) (defBody s_span_of) (defScope s_span_of) .none kV10 dc10 pm10 an10 cd10 ct10) := fun j => by
    induction j with
    | zero => exact ⟨.none, PySem.W.mg_of X G a10, k10⟩
    | succ j ih => exact Df.of F10 (ok_span_of j F10 T SMb C Fl Kt B_is_cell_1 D_is_cell B_span_of_2 ih) (PySem.W.mg_of X G a10)
  have D_span_of : Df l.prog w K mg base CA "span_of" false 10 ["many", "thing"] F_span_of f10 (PySem.W.fnOf "span_of" "span_of" (defArgs s_span_of) (defBody s_span_of) (defScope s_span_of) .none kV10 dc10 pm10 an10 cd10 ct10) := D_span_of_ 9
  have F11 := fun_mk (st := s_is_plan) l11 c11 k11
  have B_need_chain_1 : KwB K CA _ ["chain"] 1 [] (srcP 0 1) := KwB.fn F9 rfl (fun _ _ _ _ _ _ us ws h1 h2 => match us, ws, h1, h2 with | [_], [], _, _ => rfl)
  have D_is_plan : Df l.prog w K mg base CA "is_plan" false 11 ["chain", "thing"] F_is_plan _ _ := Df.of F11 (ok_is_plan F11 T SMb C Fl Kt B_need_chain_1 D_need_chain B_span_of_2 D_span_of) (PySem.W.mg_of X G a11)
  have F12 := fun_mk (st := s_need_plan) l12 c12 k12
  have B_is_plan_2 : KwB K CA _ ["chain", "thing"] 2 [] (srcP 0 2) := KwB.fn F11 rfl (fun _ _ _ _ _ _ us ws h1 h2 => match us, ws, h1, h2 with | [_, _], [], _, _ => rfl)
  have D_need_plan : Df l.prog w K mg base CA "need_plan" false 12 ["chain", "plan"] F_need_plan _ _ := Df.of F12 (ok_need_plan F12 T SMb C Fl Kt B_is_plan_2 D_is_plan) (PySem.W.mg_of X G a12)
  have F13 := fun_mk (st := s_Work_merged) l13 c13 k13
  have B_Work_merged_2 : KwB K CA _ ["self", "plan"] 2 [] (srcP 0 2) := KwB.fn F13 rfl (fun _ _ _ _ _ _ us ws h1 h2 => match us, ws, h1, h2 with | [_, _], [], _, _ => rfl)
  have M_Work_merged_ : ∀ j, Mtd l.prog w K mg base CA 0 "merged" false (1 + j) ["self", "plan"] (F_Work_merged_ j) f13 (PySem.W.fnOf "merged" "Work.merged" (defArgs s_Work_merged) (defBody s_Work_merged) (defScope s_Work_merged) .none kV13 dc13 pm13 an13 cd13 ct13) := fun j => by
    induction j with
    | zero => exact Mtd.of F13 .none K0 a13 fn13
    | succ j ih => exact Mtd.of F13 (ok_Work_merged j F13 T SMb C Fl Kt B_is_cell_1 D_is_cell B_Work_merged_2 ih) K0 a13 fn13
  have M_Work_merged : Mtd l.prog w K mg base CA 0 "merged" false 10 ["self", "plan"] F_Work_merged f13 (PySem.W.fnOf "merged" "Work.merged" (defArgs s_Work_merged) (defBody s_Work_merged) (defScope s_Work_merged) .none kV13 dc13 pm13 an13 cd13 ct13) := M_Work_merged_ 9
  have F14 := fun_mk (st := s_Work_init) l14 c14 k14
  have N_Work : Mkd l.prog w K mg base CA 0 "Work" 1 ["self", "cells"] F_Work_init _ _ := Mkd.of F14 (ok_Work_init F14 T SMb C Fl Kt ) (PySem.W.mg_of X G ac0) a14 fn14 mk14 kc14
  have F15 := fun_mk (st := s_cells_of) l15 c15 k15
  have D_cells_of : Df l.prog w K mg base CA "cells_of" false 4 ["chain"] F_cells_of _ _ := Df.of F15 (ok_cells_of F15 T SMb C Fl Kt B_need_chain_1 D_need_chain) (PySem.W.mg_of X G a15)
  have F16 := fun_mk (st := s_deeds_for) l16 c16 k16
  have B_need_plan_2 : KwB K CA _ ["chain", "plan"] 2 [] (srcP 0 2) := KwB.fn F12 rfl (fun _ _ _ _ _ _ us ws h1 h2 => match us, ws, h1, h2 with | [_, _], [], _, _ => rfl)
  have B_Work_init_2 : KwB K CA _ ["self", "cells"] 2 [] (srcP 0 2) := KwB.fn F14 rfl (fun _ _ _ _ _ _ us ws h1 h2 => match us, ws, h1, h2 with | [_, _], [], _, _ => rfl)
  have B_cells_of_1 : KwB K CA _ ["chain"] 1 [] (srcP 0 1) := KwB.fn F15 rfl (fun _ _ _ _ _ _ us ws h1 h2 => match us, ws, h1, h2 with | [_], [], _, _ => rfl)
  have D_deeds_for : Df l.prog w K mg base CA "deeds_for" false 13 ["chain", "plan"] F_deeds_for _ _ := Df.of F16 (ok_deeds_for F16 T SMb C Fl Kt B_need_plan_2 D_need_plan B_Work_init_2 N_Work B_cells_of_1 D_cells_of B_Work_merged_2 M_Work_merged) (PySem.W.mg_of X G a16)
  have F17 := fun_mk (st := s__law_built) l17 c17 k17
  have D__law_built : Df l.prog w K mg base CA "_law_built" false 1 ["_law_deeds"] F__law_built _ _ := Df.of F17 (ok__law_built F17 T SMb C Fl Kt ) (PySem.W.mg_of X G a17)
  have F18 := fun_mk (st := s_owned_by) l18 c18 k18
  have D_owned_by : Df l.prog w K mg base CA "owned_by" false 1 ["chain", "first", "last"] F_owned_by _ _ := Df.of F18 (ok_owned_by F18 T SMb C Fl Kt ) (PySem.W.mg_of X G a18)
  have F19 := fun_mk (st := s_copied) l19 c19 k19
  have D_copied : Df l.prog w K mg base CA "copied" false 1 ["kind", "lower", "upper"] F_copied _ _ := Df.of F19 (ok_copied F19 T SMb C Fl Kt ) (PySem.W.mg_of X G a19)
  have F20 := fun_mk (st := s_cheapest) l20 c20 k20
  have B_owned_by_3 : KwB K CA _ ["chain", "first", "last"] 3 [] (srcP 0 3) := KwB.fn F18 rfl (fun _ _ _ _ _ _ us ws h1 h2 => match us, ws, h1, h2 with | [_, _, _], [], _, _ => rfl)
  have B_copied_3 : KwB K CA _ ["kind", "lower", "upper"] 3 [] (srcP 0 3) := KwB.fn F19 rfl (fun _ _ _ _ _ _ us ws h1 h2 => match us, ws, h1, h2 with | [_, _, _], [], _, _ => rfl)
  have D_cheapest : Df l.prog w K mg base CA "cheapest" false 4 ["chain"] F_cheapest _ _ := Df.of F20 (ok_cheapest F20 T SMb C Fl Kt B_need_chain_1 D_need_chain B_owned_by_3 D_owned_by B_copied_3 D_copied) (PySem.W.mg_of X G a20)
  have F21 := fun_mk (st := s__law_is_cell) l21 c21 k21
  have D__law_is_cell : Df l.prog w K mg base CA "_law_is_cell" false 1 ["_law_thing"] F__law_is_cell _ _ := Df.of F21 (ok__law_is_cell F21 T SMb C Fl Kt ) (PySem.W.mg_of X G a21)
  have F22 := fun_mk (st := s__law_jobs) l22 c22 k22
  have B__law_is_cell_1 : KwB K CA _ ["_law_thing"] 1 [] (srcP 0 1) := KwB.fn F21 rfl (fun _ _ _ _ _ _ us ws h1 h2 => match us, ws, h1, h2 with | [_], [], _, _ => rfl)
  have B__law_jobs_2 : KwB K CA _ ["_law_plan_of", "_law_found"] 2 [] (srcP 0 2) := KwB.fn F22 rfl (fun _ _ _ _ _ _ us ws h1 h2 => match us, ws, h1, h2 with | [_, _], [], _, _ => rfl)
  have D__law_jobs_ : ∀ j, Df l.prog w K mg base CA "_law_jobs" false (1 + j) ["_law_plan_of", "_law_found"] (F__law_jobs_ j) f22 (PySem.W.fnOf "_law_jobs" "_law_jobs" (defArgs s__law_jobs) (defBody s__law_jobs) (defScope s__law_jobs) .none kV22 dc22 pm22 an22 cd22 ct22) := fun j => by
    induction j with
    | zero => exact ⟨.none, PySem.W.mg_of X G a22, k22⟩
    | succ j ih => exact Df.of F22 (ok__law_jobs j F22 T SMb C Fl Kt B__law_is_cell_1 D__law_is_cell B__law_jobs_2 ih) (PySem.W.mg_of X G a22)
  have D__law_jobs : Df l.prog w K mg base CA "_law_jobs" false 10 ["_law_plan_of", "_law_found"] F__law_jobs f22 (PySem.W.fnOf "_law_jobs" "_law_jobs" (defArgs s__law_jobs) (defBody s__law_jobs) (defScope s__law_jobs) .none kV22 dc22 pm22 an22 cd22 ct22) := D__law_jobs_ 9
  have F23 := fun_mk (st := s__law_merged) l23 c23 k23
  have D__law_merged : Df l.prog w K mg base CA "_law_merged" false 1 ["_law_layers", "_law_kind", "_law_upper", "_law_lower"] F__law_merged _ _ := Df.of F23 (ok__law_merged F23 T SMb C Fl Kt ) (PySem.W.mg_of X G a23)
  have F24 := fun_mk (st := s__law_worth) l24 c24 k24
  have B__law_worth_2 : KwB K CA _ ["_law_chain_of", "_law_plan_of"] 2 [] (srcP 0 2) := KwB.fn F24 rfl (fun _ _ _ _ _ _ us ws h1 h2 => match us, ws, h1, h2 with | [_, _], [], _, _ => rfl)
  have D__law_worth_ : ∀ j, Df l.prog w K mg base CA "_law_worth" false (1 + j) ["_law_chain_of", "_law_plan_of"] (F__law_worth_ j) f24 (PySem.W.fnOf "_law_worth" "_law_worth" (defArgs s__law_worth) (defBody s__law_worth) (defScope s__law_worth) .none kV24 dc24 pm24 an24 cd24 ct24) := fun j => by
    induction j with
    | zero => exact ⟨.none, PySem.W.mg_of X G a24, k24⟩
    | succ j ih => exact Df.of F24 (ok__law_worth j F24 T SMb C Fl Kt B__law_is_cell_1 D__law_is_cell B__law_worth_2 ih) (PySem.W.mg_of X G a24)
  have D__law_worth : Df l.prog w K mg base CA "_law_worth" false 10 ["_law_chain_of", "_law_plan_of"] F__law_worth f24 (PySem.W.fnOf "_law_worth" "_law_worth" (defArgs s__law_worth) (defBody s__law_worth) (defScope s__law_worth) .none kV24 dc24 pm24 an24 cd24 ct24) := D__law_worth_ 9
  have F25 := fun_mk (st := s__law_work_right) l25 c25 k25
  have B__law_merged_4 : KwB K CA _ ["_law_layers", "_law_kind", "_law_upper", "_law_lower"] 4 [] (srcP 0 4) := KwB.fn F23 rfl (fun _ _ _ _ _ _ us ws h1 h2 => match us, ws, h1, h2 with | [_, _, _, _], [], _, _ => rfl)
  have D__law_work_right : Df l.prog w K mg base CA "_law_work_right" false 11 ["_law_rows", "_law_plan_of", "_law_layers", "_law_deeds"] F__law_work_right _ _ := Df.of F25 (ok__law_work_right F25 T SMb C Fl Kt B_cells_of_1 D_cells_of B__law_jobs_2 D__law_jobs B__law_merged_4 D__law_merged B__law_worth_2 D__law_worth) (PySem.W.mg_of X G a25)
  have F26 := fun_mk (st := s_cost_of) l26 c26 k26
  have B_cost_of_2 : KwB K CA _ ["chain", "plan"] 2 [] (srcP 0 2) := KwB.fn F26 rfl (fun _ _ _ _ _ _ us ws h1 h2 => match us, ws, h1, h2 with | [_, _], [], _, _ => rfl)
  have D_cost_of_ : ∀ j, Df l.prog w K mg base CA "cost_of" false (10 + j) ["chain", "plan"] (F_cost_of_ j) f26 (PySem.W.fnOf "cost_of" "cost_of" (defArgs s_cost_of) (defBody s_cost_of) (defScope s_cost_of) .none kV26 dc26 pm26 an26 cd26 ct26) := fun j => by
    induction j with
    | zero => exact ⟨.none, PySem.W.mg_of X G a26, k26⟩
    | succ j ih => exact Df.of F26 (ok_cost_of j F26 T SMb C Fl Kt B_is_cell_1 D_is_cell B_span_of_2 D_span_of B_copied_3 D_copied B_owned_by_3 D_owned_by B_cost_of_2 ih) (PySem.W.mg_of X G a26)
  have D_cost_of : Df l.prog w K mg base CA "cost_of" false 19 ["chain", "plan"] F_cost_of f26 (PySem.W.fnOf "cost_of" "cost_of" (defArgs s_cost_of) (defBody s_cost_of) (defScope s_cost_of) .none kV26 dc26 pm26 an26 cd26 ct26) := D_cost_of_ 9
  have F27 := fun_mk (st := s_cost) l27 c27 k27
  have D_cost : Df l.prog w K mg base CA "cost" false 20 ["chain", "plan"] F_cost _ _ := Df.of F27 (ok_cost F27 T SMb C Fl Kt B_need_plan_2 D_need_plan B_cost_of_2 D_cost_of) (PySem.W.mg_of X G a27)
  have F28 := fun_mk (st := s_law) l28 c28 k28
  have B__law_begun_1 : KwB K CA _ ["_law_script"] 1 [] (srcP 0 1) := KwB.fn F0 rfl (fun _ _ _ _ _ _ us ws h1 h2 => match us, ws, h1, h2 with | [_], [], _, _ => rfl)
  have B__law_chain_3 : KwB K CA _ ["_law_draw", "_law_least", "_law_most"] 3 [] (srcP 0 3) := KwB.fn F5 rfl (fun _ _ _ _ _ _ us ws h1 h2 => match us, ws, h1, h2 with | [_, _, _], [], _, _ => rfl)
  have B_cheapest_1 : KwB K CA _ ["chain"] 1 [] (srcP 0 1) := KwB.fn F20 rfl (fun _ _ _ _ _ _ us ws h1 h2 => match us, ws, h1, h2 with | [_], [], _, _ => rfl)
  have B_deeds_for_2 : KwB K CA _ ["chain", "plan"] 2 [] (srcP 0 2) := KwB.fn F16 rfl (fun _ _ _ _ _ _ us ws h1 h2 => match us, ws, h1, h2 with | [_, _], [], _, _ => rfl)
  have B__law_built_1 : KwB K CA _ ["_law_deeds"] 1 [] (srcP 0 1) := KwB.fn F17 rfl (fun _ _ _ _ _ _ us ws h1 h2 => match us, ws, h1, h2 with | [_], [], _, _ => rfl)
  have B__law_work_right_4 : KwB K CA _ ["_law_rows", "_law_plan_of", "_law_layers", "_law_deeds"] 4 [] (srcP 0 4) := KwB.fn F25 rfl (fun _ _ _ _ _ _ us ws h1 h2 => match us, ws, h1, h2 with | [_, _, _, _], [], _, _ => rfl)
  have B_deeds_for_0_plan_chain : KwB K CA _ ["chain", "plan"] 0 ["plan", "chain"] ([.k 1, .k 0]) := KwB.fn F16 rfl (fun _ _ _ _ _ _ us ws h1 h2 => match us, ws, h1, h2 with | [], [_, _], _, _ => rfl)
  have B_cost_2 : KwB K CA _ ["chain", "plan"] 2 [] (srcP 0 2) := KwB.fn F27 rfl (fun _ _ _ _ _ _ us ws h1 h2 => match us, ws, h1, h2 with | [_, _], [], _, _ => rfl)
  exact ok_law F28 T SMb C Fl Kt B__law_begun_1 D__law_begun B__law_chain_3 D__law_chain B_cheapest_1 D_cheapest B__law_plan_3 D__law_plan B_deeds_for_2 D_deeds_for B__law_built_1 D__law_built B__law_work_right_4 D__law_work_right B_deeds_for_0_plan_chain B_cost_2 D_cost
end
abbrev tupI (l : List Int) : D := .tup (l.map D.int)
def ten : List Int := [0, 1, 2, 3, 4, 5, 6, 7, 8, 9]
def InTen (l : List Int) : Prop := ∀ x ∈ l, x ∈ ten
structure Own (l : List Int) : Prop where
  lt : l.Pairwise (· < ·)
  bd : InTen l
theorem nd_of_lt {l : List Int} (h : l.Pairwise (· < ·)) : l.Nodup := h.imp fun q e => by omega
theorem len_ten {l : List Int} (n : l.Nodup) (b : InTen l) : l.length ≤ 10 := List.Nodup.length_le_of_subset (l₂ := ten) n b
theorem Own.len {l : List Int} (o : Own l) : l.length ≤ 10 := len_ten (nd_of_lt o.lt) o.bd
theorem ten_bd {x : Int} (m : x ∈ ten) : 0 ≤ x ∧ x < 10 := by
  simp only [ten, List.mem_cons, List.not_mem_nil, or_false] at m
  omega
theorem bd_ten {x : Int} (h0 : 0 ≤ x) (h1 : x < 10) : x ∈ ten := by
  simp only [ten, List.mem_cons, List.not_mem_nil, or_false]
  omega
theorem insU_id {x : Int} {l : List Int} (h : ∀ y ∈ l, x < y) : insU x l = x :: l := by
  cases l with
  | nil => rfl
  | cons y r =>
    unfold insU
    rw [if_pos (h y (List.mem_cons_self ..))]
theorem sortU_id : ∀ {l : List Int}, l.Pairwise (· < ·) → sortU l = l
  | [], _ => rfl
  | x :: r, h => by
    have h2 := List.pairwise_cons.mp h
    show insU x (sortU r) = _
    rw [sortU_id h2.2, insU_id h2.1]
theorem intsOf_map : ∀ l : List Int, intsOf (l.map D.int) = some l
  | [] => rfl
  | x :: l => by
    show (match intsOf (l.map D.int) with | some is => some (x :: is) | none => none) = _
    rw [intsOf_map l]
theorem blsOf_map : ∀ l : List Bool, blsOf (l.map D.bl) = some l
  | [] => rfl
  | x :: l => by
    show (match blsOf (l.map D.bl) with | some is => some (x :: is) | none => none) = _
    rw [blsOf_map l]
theorem lcL_fil {α : Type} {tg : TGD} {tt : TB} {te : TD} {ρ0 : DE} {h : CH} {F G : α → D} {g : α → Bool} : ∀ {A : List α}, (∀ x ∈ A, ∃ ρ2, tg (F x) ρ0 h = .ok ρ2 h ∧ tt ρ2 h = .ok (g x) h ∧ (g x = true → te ρ2 h = .ok (G x) h)) → dLcL tg tt te ρ0 (A.map F) h = .ok ((A.filter g).map G) h
  | [], _ => rfl
  | x :: A, q => by
    obtain ⟨ρ2, e1, e2, e3⟩ := q x (List.mem_cons_self ..)
    have ih := lcL_fil (tg := tg) (tt := tt) (te := te) (ρ0 := ρ0) (h := h) (F := F) (G := G) (g := g) (A := A) fun y hy => q y (List.mem_cons_of_mem _ hy)
    rw [List.map_cons]
    show (tg (F x) ρ0 h).calm _ = _
    rw [e1, calm_ok, e2, calm_ok]
    cases eg : g x with
    | true =>
      rw [if_pos rfl, e3 eg, calm_ok, ih, bind_ok, List.filter_cons_of_pos eg]
      rfl
    | false =>
      rw [if_neg Bool.false_ne_true, ih, List.filter_cons_of_neg (by rw [eg]; exact Bool.false_ne_true)]
section
variable {h : CH} {ρ : DE}
theorem eqvAllI : ∀ ns : List Int, PyData.eqvAll (ns.map PyData.int) (ns.map PyData.int) = true
  | [] => rfl
  | n :: ns => by
    have e1 : PyData.eqv (.int n) (.int n) = true := by simp [PyData.eqv]
    have e2 := eqvAllI ns
    simp only [List.map_cons, PyData.eqvAll, e1, e2, Bool.and_self]
theorem eq_lstI (ns : List Int) : fEq false (.lst (ns.map D.int)) (.lst (ns.map D.int)) h = .ok (.bl true) h := by
  have e : toP h 10 (.lst (ns.map D.int)) = some (.list (ns.map PyData.int)) := by
    show ((ns.map D.int).mapM (toP h 9)).map PyData.list = _
    rw [toP_ints ns]
    rfl
  have s := shaped_ints ns
  have q : PyData.eqv (.list (ns.map PyData.int)) (.list (ns.map PyData.int)) = true := eqvAllI ns
  unfold fEq
  rw [if_neg (by simp [scalD, flatD])]
  simp only [e, s, q, and_self, if_true]
  rfl
theorem is_cell_ok (i : Int) : F_is_cell [.int i] h = .ok (.bl (decide (i ≥ 0))) h := by kernel_rfl
theorem is_cell_tup (xs : List D) : F_is_cell [.tup xs] h = .ok (.bl false) h := by kernel_rfl
theorem is_cell_ok' (i : Int) : F__law_is_cell [.int i] h = .ok (.bl (decide (i ≥ 0))) h := by kernel_rfl
theorem is_cell_tup' (xs : List D) : F__law_is_cell [.tup xs] h = .ok (.bl false) h := by kernel_rfl
theorem is_tup (xs : List D) : fIsi [0] (ktT [[.o 0]] tys) [.tup xs, .ty "tuple"] h = .ok (.bl true) h := by kernel_rfl
theorem is_str (x : Str) : fIsi [0] (ktT [[.o 0]] tys) [.str x, .ty "str"] h = .ok (.bl true) h := by kernel_rfl
theorem filter_all {α : Type} {l : List α} {p : α → Bool} (h : ∀ x ∈ l, p x = true) : l.filter p = l := List.filter_eq_self.mpr h
theorem is_owned_ok {l : List Int} (o : Own l) : F_is_owned [tupI l] h = .ok (.bl true) h := by
  have lc : dLcL (gdName 1) dYes (dCall 1 F_is_cell (dCons (dVar 1) (dNil))) [some (tupI l), none] (l.map D.int) h = .ok ((l.filter fun _ => true).map fun _ => D.bl true) h :=
    lcL_fil fun x hx => ⟨[some (tupI l), some (.int x)], rfl, rfl, fun _ => by
      have := (ten_bd (o.bd x hx)).1
      simp [is_cell_ok, this]⟩
  rw [filter_all (fun _ _ => rfl)] at lc
  have ll : l.length ≤ sizeLine := Nat.le_trans o.len (by decide)
  have e1 : fAllB false [.lst (l.map fun _ => D.bl true)] h = .ok (.bl true) h := by
    have : (l.map fun _ => D.bl true) = (l.map fun _ => true).map D.bl := by rw [List.map_map]; rfl
    rw [this]
    unfold fAllB
    simp only [lstOf, blsOf_map]
    rw [if_neg Bool.false_ne_true, List.all_eq_true.mpr (fun x hx => by obtain ⟨_, _, rfl⟩ := List.mem_map.mp hx; rfl)]
  have e2 : fListOf false [tupI l] h = .ok (.lst (l.map D.int)) h := rfl
  have e3 : fSortSet false (tupI l) h = .ok (.lst (l.map D.int)) h := by
    unfold fSortSet
    simp only [seqOf, intsOf_map]
    rw [if_pos (by have := o.len; omega), sortU_id o.lt]
    rfl
  unfold F_is_owned bodyF
  show (u_is_owned [some (tupI l), none] h).res = _
  unfold u_is_owned
  simp [is_tup, dLc, itemsD, ll, wipeD, lc, mkL, e1, e2, e3, eq_lstI]
end
structure Chain (rs : List (List Int)) : Prop where
  ne : 1 ≤ rs.length
  le : rs.length ≤ 8
  own : ∀ r ∈ rs, Own r
abbrev rowsD (rs : List (List Int)) : List D := rs.map tupI
def ChD (rs : List (List Int)) (X : D) : Prop := X = .lst (rowsD rs) ∨ X = .tup (rowsD rs)
section
variable {h : CH} {rs : List (List Int)} {X : D}
theorem ChD.seq (c : ChD rs X) : seqOf h X = some (rowsD rs) := by rcases c with rfl | rfl <;> rfl
theorem ChD.items (c : ChD rs X) : itemsD h X = some (rowsD rs) := by rcases c with rfl | rfl <;> rfl
theorem ChD.len (c : ChD rs X) : fLen [X] h = .ok (.int rs.length) h := by
  rcases c with rfl | rfl
  · simp [fLen, seqOf]
  · simp [fLen, seqOf]
theorem ChD.isT (c : ChD rs X) : fIsT [0] (ktT [[.o 0]] tys) [X, .tup [.ty "list", .ty "tuple"]] h = .ok (.bl true) h := by rcases c with rfl | rfl <;> kernel_rfl
theorem need_chain_ok (C : Chain rs) (c : ChD rs X) : F_need_chain [X] h = .ok .non h := by
  have lc : dLcL (gdName 1) dYes (dCall 1 F_is_owned (dCons (dVar 1) (dNil))) [some X, none] (rowsD rs) h = .ok ((rs.filter fun _ => true).map fun _ => D.bl true) h :=
    lcL_fil fun x hx => ⟨[some X, some (tupI x)], rfl, rfl, fun _ => by simp [is_owned_ok (C.own x hx)]⟩
  rw [filter_all (fun _ _ => rfl)] at lc
  have ll : rs.length ≤ sizeLine := Nat.le_trans C.le (by decide)
  have e1 : fAllB false [.lst (rs.map fun _ => D.bl true)] h = .ok (.bl true) h := by
    have : (rs.map fun _ => D.bl true) = (rs.map fun _ => true).map D.bl := by rw [List.map_map]; rfl
    rw [this]
    unfold fAllB
    simp only [lstOf, blsOf_map]
    rw [if_neg Bool.false_ne_true, List.all_eq_true.mpr (fun x hx => by obtain ⟨_, _, rfl⟩ := List.mem_map.mp hx; rfl)]
  have b1 : decide ((1 : Int) ≤ rs.length) = true := decide_eq_true (by have := C.ne; omega)
  have b2 : decide ((rs.length : Int) ≤ 8) = true := decide_eq_true (by have := C.le; omega)
  unfold F_need_chain bodyF
  show (u_need_chain [some X, none] h).res = _
  unfold u_need_chain
  rw [s_seq, s_if]
  simp only [e_or, e_not, e_B, e_CB, e_cons, e_var, e_tup, e_C, e_nil, bind_ok, List.getElem?_cons_zero, List.length_cons, List.length_nil, Nat.zero_add, Nat.reduceAdd]
  rw [if_pos (by decide), bind_ok, bind_ok, bind_ok, c.isT]
  simp only [bind_ok, asB_bl, Bool.not_true, Bool.false_eq_true, if_false]
  simp only [dChain, e_C, e_CB, e_cons, e_var, e_nil, bind_ok, List.getElem?_cons_zero, c.len, fB, b1, b2, asB_bl, if_true, toS_ok, Bool.not_true, Bool.false_eq_true, if_false, s_next, sbind_nx, s_if, e_not, e_B]
  simp only [dLc, e_seqI, e_var, List.getElem?_cons_zero, bind_ok, c.items, List.length_map, ll, if_true, wipeD, List.foldl_cons, List.foldl_nil, List.set_cons_zero, List.set_cons_succ, lc, mkL, runl_none, e1, asB_bl, toS_ok, Bool.not_true, Bool.false_eq_true, if_false, s_next, res_nx]
end
inductive Pl where
  | leaf (i : Int)
  | node (k : Bool) (a b : Pl)
def kS (k : Bool) : Str := if k then "down" else "up"
def Pl.D : Pl → CM.D
  | .leaf i => .int i
  | .node k a b => .tup [.str (kS k), a.D, b.D]
def Sp : Pl → Int → Int → Prop
  | .leaf i, f, l => i = f ∧ i = l
  | .node _ a b, f, l => ∃ m, Sp a f m ∧ Sp b (m + 1) l
theorem Sp.le : ∀ {p : Pl} {f l : Int}, Sp p f l → f ≤ l
  | .leaf _, _, _, h => by have := h.1; have := h.2; omega
  | .node _ a b, f, l, h => by
    obtain ⟨m, h1, h2⟩ := h
    have := h1.le
    have := h2.le
    omega
def slice (rs : List (List Int)) (f l : Int) : List (List Int) := (rs.drop f.toNat).take (l + 1 - f).toNat
def In (rs : List (List Int)) (f l : Int) (x : Int) : Prop := ∃ i : Nat, f ≤ i ∧ (i : Int) ≤ l ∧ ∃ r, rs[i]? = some r ∧ x ∈ r
theorem mem_slice {rs : List (List Int)} {f l : Int} (h0 : 0 ≤ f) (x : Int) : (∃ r ∈ slice rs f l, x ∈ r) ↔ In rs f l x := by
  constructor
  · rintro ⟨r, hr, hx⟩
    obtain ⟨j, hj⟩ := List.mem_iff_getElem?.mp hr
    unfold slice at hj
    rw [List.getElem?_take] at hj
    split at hj
    · rename_i lt
      rw [List.getElem?_drop] at hj
      exact ⟨f.toNat + j, by omega, by omega, r, hj, hx⟩
    · cases hj
  · rintro ⟨i, h1, h2, r, hr, hx⟩
    refine ⟨r, List.mem_iff_getElem?.mpr ⟨i - f.toNat, ?_⟩, hx⟩
    unfold slice
    rw [List.getElem?_take, if_pos (by omega), List.getElem?_drop, ← hr]
    congr 1
    omega
def ad (acc : List Int) (c : Int) : List Int := if c ∈ acc then acc else acc ++ [c]
def adF (acc : List Int) (cs : List Int) : List Int := cs.foldl ad acc
def obL (rs : List (List Int)) (f l : Int) : List Int := (slice rs f l).foldl adF []
theorem mem_ad {acc : List Int} {c x : Int} : x ∈ ad acc c ↔ x ∈ acc ∨ x = c := by
  unfold ad
  split
  · exact ⟨.inl, fun h => h.elim id fun e => e ▸ by assumption⟩
  · simp
theorem nd_ad {acc : List Int} {c : Int} (n : acc.Nodup) : (ad acc c).Nodup := by
  unfold ad
  split
  · exact n
  · rename_i h
    rw [List.nodup_append]
    exact ⟨n, by simp, fun a ha b hb => by
      rw [List.mem_singleton.mp hb]
      intro e
      exact h (e ▸ ha)⟩
theorem mem_adF {x : Int} : ∀ {cs acc : List Int}, x ∈ adF acc cs ↔ x ∈ acc ∨ x ∈ cs
  | [], acc => by simp [adF]
  | c :: cs, acc => by
    show x ∈ adF (ad acc c) cs ↔ _
    rw [mem_adF, mem_ad, List.mem_cons, or_assoc]
theorem nd_adF : ∀ {cs acc : List Int}, acc.Nodup → (adF acc cs).Nodup
  | [], _, n => n
  | c :: cs, acc, n => nd_adF (cs := cs) (nd_ad (c := c) n)
theorem mem_adR {x : Int} : ∀ {rs : List (List Int)} {acc : List Int}, x ∈ rs.foldl adF acc ↔ x ∈ acc ∨ ∃ r ∈ rs, x ∈ r
  | [], acc => by simp
  | r :: rs, acc => by
    show x ∈ rs.foldl adF (adF acc r) ↔ _
    rw [mem_adR, mem_adF]
    simp [or_assoc]
theorem nd_adR : ∀ {rs : List (List Int)} {acc : List Int}, acc.Nodup → (rs.foldl adF acc).Nodup
  | [], _, n => n
  | r :: rs, acc, n => nd_adR (rs := rs) (nd_adF (cs := r) n)
theorem mem_ob {rs : List (List Int)} {f l x : Int} (h0 : 0 ≤ f) : x ∈ obL rs f l ↔ In rs f l x := by
  unfold obL
  rw [mem_adR, mem_slice h0]
  simp
theorem nd_ob {rs : List (List Int)} {f l : Int} : (obL rs f l).Nodup := nd_adR List.nodup_nil
def cp (k : Bool) (A B : List Int) : Int := if k then (B.length : Int) else ((A.filter fun x => !B.contains x).length : Int)
theorem len_same {A B : List Int} (a : A.Nodup) (b : B.Nodup) (e : ∀ x, x ∈ A ↔ x ∈ B) : A.length = B.length :=
  Nat.le_antisymm (List.Nodup.length_le_of_subset a fun x h => (e x).mp h) (List.Nodup.length_le_of_subset b fun x h => (e x).mpr h)
theorem cp_same {k : Bool} {A A' B B' : List Int} (a : A.Nodup) (a' : A'.Nodup) (b : B.Nodup) (b' : B'.Nodup) (ea : ∀ x, x ∈ A ↔ x ∈ A') (eb : ∀ x, x ∈ B ↔ x ∈ B') : cp k A B = cp k A' B' := by
  unfold cp
  cases k with
  | true => rw [if_pos rfl, if_pos rfl, len_same b b' eb]
  | false =>
    rw [if_neg Bool.false_ne_true, if_neg Bool.false_ne_true, len_same (a.sublist List.filter_sublist) (a'.sublist List.filter_sublist)]
    intro x
    simp only [List.mem_filter, ea x, Bool.not_eq_true', List.contains_eq_mem, decide_eq_false_iff_not, eb x]
theorem cp_bd {k : Bool} {A B : List Int} (a : A.Nodup) (b : B.Nodup) (ia : InTen A) (ib : InTen B) : 0 ≤ cp k A B ∧ cp k A B ≤ 10 := by
  unfold cp
  cases k with
  | true =>
    rw [if_pos rfl]
    have := len_ten b ib
    omega
  | false =>
    rw [if_neg Bool.false_ne_true]
    have := len_ten a ia
    have := (List.filter_sublist (p := fun x => !B.contains x) (l := A)).length_le
    omega
def rowAt (rs : List (List Int)) (i : Int) : List Int := (rs[i.toNat]?).getD []
def Pl.C (rs : List (List Int)) : Pl → List Int
  | .leaf i => rowAt rs i
  | .node _ a b => sortU (a.C rs ++ b.C rs)
def Pl.W (rs : List (List Int)) : Pl → Int
  | .leaf _ => 0
  | .node k a b => a.W rs + b.W rs + cp k (a.C rs) (b.C rs)
section
variable {rs : List (List Int)}
theorem rowAt_eq {i : Int} (h0 : 0 ≤ i) (h1 : i < rs.length) : rs[i.toNat]? = some (rowAt rs i) := by
  unfold rowAt
  rw [List.getElem?_eq_getElem (by omega)]
  rfl
theorem rowAt_mem {i : Int} (h0 : 0 ≤ i) (h1 : i < rs.length) : rowAt rs i ∈ rs := List.mem_iff_getElem?.mpr ⟨_, rowAt_eq h0 h1⟩
theorem C_ok (C : Chain rs) : ∀ {p : Pl} {f l : Int}, Sp p f l → 0 ≤ f → l < rs.length → (p.C rs).Pairwise (· < ·) ∧ ∀ x, x ∈ p.C rs ↔ In rs f l x
  | .leaf i, f, l, s, h0, h1 => by
    obtain ⟨rfl, rfl⟩ := s
    refine ⟨(C.own _ (rowAt_mem h0 h1)).lt, fun x => ⟨fun m => ⟨i.toNat, by omega, by omega, _, rowAt_eq h0 h1, m⟩, ?_⟩⟩
    rintro ⟨j, q1, q2, r, e, m⟩
    have : j = i.toNat := by omega
    rw [this, rowAt_eq h0 h1] at e
    cases e
    exact m
  | .node k a b, f, l, s, h0, h1 => by
    obtain ⟨m, sa, sb⟩ := s
    have la := sa.le
    have lb := sb.le
    obtain ⟨_, ma⟩ := C_ok C sa h0 (by omega)
    obtain ⟨_, mb⟩ := C_ok C sb (by omega) h1
    refine ⟨sortU_lt _, fun x => ?_⟩
    show x ∈ sortU _ ↔ _
    rw [mem_sortU, List.mem_append, ma, mb]
    constructor
    · rintro (⟨i, q1, q2, q⟩ | ⟨i, q1, q2, q⟩)
      · exact ⟨i, q1, by omega, q⟩
      · exact ⟨i, by omega, q2, q⟩
    · rintro ⟨i, q1, q2, q⟩
      by_cases c : (i : Int) ≤ m
      · exact .inl ⟨i, q1, c, q⟩
      · exact .inr ⟨i, by omega, q2, q⟩
theorem in_ten (C : Chain rs) {f l x : Int} : In rs f l x → x ∈ ten := by
  rintro ⟨i, _, _, r, e, m⟩
  exact (C.own r (List.mem_iff_getElem?.mpr ⟨i, e⟩)).bd x m
theorem C_ten (C : Chain rs) {p : Pl} {f l : Int} (s : Sp p f l) (h0 : 0 ≤ f) (h1 : l < rs.length) : InTen (p.C rs) := fun x hx => in_ten C (((C_ok C s h0 h1).2 x).mp hx)
theorem ob_ten (C : Chain rs) {f l : Int} (h0 : 0 ≤ f) : InTen (obL rs f l) := fun x hx => in_ten C ((mem_ob h0).mp hx)
theorem C_nd (C : Chain rs) {p : Pl} {f l : Int} (s : Sp p f l) (h0 : 0 ≤ f) (h1 : l < rs.length) : (p.C rs).Nodup := nd_of_lt (C_ok C s h0 h1).1
theorem cp_C (C : Chain rs) {k : Bool} {a b : Pl} {f m m' l : Int} (sa : Sp a f m) (sb : Sp b m' l) (h0 : 0 ≤ f) (h1 : m < rs.length) (h2 : 0 ≤ m') (h3 : l < rs.length) : cp k (obL rs f m) (obL rs m' l) = cp k (a.C rs) (b.C rs) :=
  cp_same nd_ob (C_nd C sa h0 h1) nd_ob (C_nd C sb h2 h3) (fun x => (mem_ob h0).trans ((C_ok C sa h0 h1).2 x).symm) fun x => (mem_ob h2).trans ((C_ok C sb h2 h3).2 x).symm
theorem W_bd (C : Chain rs) : ∀ {p : Pl} {f l : Int}, Sp p f l → 0 ≤ f → l < rs.length → 0 ≤ p.W rs ∧ p.W rs ≤ 10 * (l - f)
  | .leaf i, f, l, s, h0, h1 => by
    obtain ⟨rfl, rfl⟩ := s
    show (0 : Int) ≤ 0 ∧ (0 : Int) ≤ _
    omega
  | .node k a b, f, l, s, h0, h1 => by
    obtain ⟨m, sa, sb⟩ := s
    have la := sa.le
    have lb := sb.le
    have ba := W_bd C sa h0 (by omega)
    have bb := W_bd C sb (by omega) h1
    have bc := cp_bd (k := k) (C_nd C sa h0 (by omega)) (C_nd C sb (by omega) h1) (C_ten C sa h0 (by omega)) (C_ten C sb (by omega) h1)
    show 0 ≤ a.W rs + b.W rs + cp k (a.C rs) (b.C rs) ∧ a.W rs + b.W rs + cp k (a.C rs) (b.C rs) ≤ _
    omega
end
section
variable {h : CH} {rs : List (List Int)} {X : D}
theorem eq_strs (x y : Str) : fEq false (.str x) (.str y) h = .ok (.bl (x == y)) h := by
  simp [fEq, scalD, flatD, eqF, bneg]
theorem eq_ints (i j : Int) : fEq true (.int i) (.int j) h = .ok (.bl (!(i == j))) h := by
  simp [fEq, scalD, flatD, eqF, bneg]
theorem kS_down (k : Bool) : (kS k == Str.ofString "down") = k := by cases k <;> decide +kernel
theorem any_eqF (x : Int) (B : List Int) : (B.map D.int).any (fun e => eqF e (.int x)) = B.contains x := by
  rw [List.any_map, Bool.eq_iff_iff, List.any_eq_true, List.contains_iff_mem]
  constructor
  · rintro ⟨y, hy, e⟩
    have : (y == x) = true := e
    rw [beq_iff_eq] at this
    rw [← this]
    exact hy
  · exact fun m => ⟨x, m, by show (x == x) = true; exact beq_self_eq_true x⟩
theorem in_lst {neg : Bool} (x : Int) (B : List Int) : fIn neg (.int x) (.lst (B.map D.int)) h = .ok (.bl (bneg neg (B.contains x))) h := by
  unfold fIn
  simp only [seqOf]
  rw [if_pos ⟨rfl, List.all_eq_true.mpr fun d hd => by obtain ⟨i, _, rfl⟩ := List.mem_map.mp hd; rfl⟩, any_eqF]
theorem len_lst (A : List Int) : fLen [.lst (A.map D.int)] h = .ok (.int A.length) h := by
  simp [fLen, seqOf]
theorem copied_ok (k : Bool) {A B : List Int} (la : A.length ≤ 100) : F_copied [.str (kS k), .lst (A.map D.int), .lst (B.map D.int)] h = .ok (.int (cp k A B)) h := by
  have lc : dLcL (gdName 3) (dB (dOp (fIn true) (dVar 3) (dVar 2))) (dVar 3) [some (.str (kS k)), some (.lst (A.map D.int)), some (.lst (B.map D.int)), none] (A.map D.int) h = .ok ((A.filter fun x => !B.contains x).map D.int) h :=
    lcL_fil fun x hx => ⟨[some (.str (kS k)), some (.lst (A.map D.int)), some (.lst (B.map D.int)), some (.int x)], rfl, by simp [in_lst, bneg], fun _ => rfl⟩
  have ll : A.length ≤ sizeLine := Nat.le_trans la (by decide)
  have ll2 : ∀ A : List Int, fLen [.lst (A.map D.int)] h = .ok (.int A.length) h := len_lst
  unfold F_copied bodyF
  show (u_copied [some (.str (kS k)), some (.lst (A.map D.int)), some (.lst (B.map D.int)), none] h).res = _
  unfold u_copied cp
  rw [s_ret, e_if, e_B, e_op]
  simp only [e_var, e_C, List.getElem?_cons_zero, bind_ok, eq_strs, kS_down, asB_bl]
  cases k with
  | true => simp [ll2]
  | false =>
    rw [if_neg Bool.false_ne_true, if_neg Bool.false_ne_true]
    simp only [dLc, e_CB, e_cons, e_nil, e_seqI, e_var, List.getElem?_cons_zero, List.getElem?_cons_succ, bind_ok, itemsD, List.length_map, ll, if_true, wipeD, List.foldl_cons, List.foldl_nil, List.set_cons_zero, List.set_cons_succ, lc, mkL, runl_none, ll2, toS_ok, res_rt]
abbrev obM (acc : List Int) : List (Key × D) := acc.map fun c => (Sum.inl c, D.bl true)
theorem put_ob {acc : List Int} {c : Int} : dPut (obM acc) (.inl c) (.bl true) = obM (ad acc c) := by
  unfold dPut ad
  have e : ((obM acc).any fun p => decide (p.1 = Sum.inl c)) = decide (c ∈ acc) := by
    rw [List.any_map, Bool.eq_iff_iff, List.any_eq_true, decide_eq_true_iff]
    constructor
    · rintro ⟨y, hy, e⟩
      have : (Sum.inl y : Key) = Sum.inl c := of_decide_eq_true e
      cases this
      exact hy
    · exact fun m => ⟨c, m, by simp⟩
  rw [e]
  by_cases m : c ∈ acc
  · rw [if_pos (by simpa using m), if_pos m, List.map_map]
    refine List.map_congr_left fun y _ => ?_
    show (if (Sum.inl y : Key) = Sum.inl c then ((Sum.inl y : Key), D.bl true) else (Sum.inl y, D.bl true)) = _
    split <;> rfl
  · rw [if_neg (by simpa using m), if_neg m]
    simp
theorem bk_loop {a0 a1 a2 a3 a4 : Option D} : ∀ {cs acc : List Int}, acc.length + cs.length < 1000 → dGL (gdName 4) dYes (bK (dVar 4) (dC (.bl true))) [a0, a1, a2, a3, a4] (obM acc) (cs.map D.int) h = .ok (obM (adF acc cs)) h
  | [], acc, _ => rfl
  | c :: cs, acc, l => by
    have l1 : (obM acc).length < sizeLine := Nat.lt_of_lt_of_le (show _ < 1000 by simp only [List.length_map, List.length_cons] at l ⊢; omega) (by decide)
    have l2 : (ad acc c).length ≤ acc.length + 1 := by unfold ad; split <;> simp
    have ih := bk_loop (a0 := a0) (a1 := a1) (a2 := a2) (a3 := a3) (a4 := a4) (cs := cs) (acc := ad acc c) (by simp only [List.length_cons] at l; omega)
    rw [List.map_cons]
    show (R.ok [a0, a1, a2, a3, some (.int c)] h).calm _ = _
    rw [calm_ok]
    show ((bK (dVar 4) (dC (.bl true)) (obM acc) [a0, a1, a2, a3, some (.int c)] h).calm _ : R (List (Key × D))) = _
    have e : bK (dVar 4) (dC (.bl true)) (obM acc) [a0, a1, a2, a3, some (.int c)] h = .ok (obM (ad acc c)) h := by
      unfold bK
      simp only [e_var, e_C, List.getElem?_cons_zero, List.getElem?_cons_succ, calm_ok, keyD]
      rw [if_pos l1, put_ob]
    rw [e, calm_ok]
    exact ih
theorem adF_len : ∀ {cs acc : List Int}, (adF acc cs).length ≤ acc.length + cs.length
  | [], acc => by simp [adF]
  | c :: cs, acc => by
    have := adF_len (cs := cs) (acc := ad acc c)
    have l2 : (ad acc c).length ≤ acc.length + 1 := by unfold ad; split <;> simp
    show (adF (ad acc c) cs).length ≤ _
    simp only [List.length_cons]
    omega
theorem b2_loop' {a0 a1 a2 : Option D} : ∀ {qs : List (List Int)} {acc : List Int}, (∀ r ∈ qs, r.length ≤ 10) → acc.length + 10 * qs.length < 900 →
    dGL (gdName 3) dYes (b2 (dSeqI (dVar 3)) (gdName 4) dYes (dVar 4) (dC (.bl true)) [4]) [a0, a1, a2, none, none] (obM acc) (rowsD qs) h = .ok (obM (qs.foldl adF acc)) h
  | [], acc, _, _ => rfl
  | r :: qs, acc, q, l => by
    have lr := q r (List.mem_cons_self ..)
    have l2 := adF_len (cs := r) (acc := acc)
    simp only [List.length_cons] at l
    have ih := b2_loop' (a0 := a0) (a1 := a1) (a2 := a2) (qs := qs) (acc := adF acc r) (fun y hy => q y (List.mem_cons_of_mem _ hy)) (by omega)
    show (R.ok [a0, a1, a2, some (tupI r), none] h).calm _ = _
    rw [calm_ok]
    show ((b2 (dSeqI (dVar 3)) (gdName 4) dYes (dVar 4) (dC (.bl true)) [4] (obM acc) [a0, a1, a2, some (tupI r), none] h).calm _ : R (List (Key × D))) = _
    have e : b2 (dSeqI (dVar 3)) (gdName 4) dYes (dVar 4) (dC (.bl true)) [4] (obM acc) [a0, a1, a2, some (tupI r), none] h = .ok (obM (adF acc r)) h := by
      unfold b2
      simp only [e_seqI, e_var, List.getElem?_cons_zero, List.getElem?_cons_succ, bind_ok, itemsD, calm_ok]
      exact bk_loop (by omega)
    rw [e, calm_ok]
    exact ih
theorem cut_rows {f l : Int} (h0 : 0 ≤ f) (hl : f ≤ l) (h1 : l < rs.length) : CM.cutD (rowsD rs) (some f) (some (l + 1)) = rowsD (slice rs f l) := by
  unfold CM.cutD slice
  have s1 : HT.sIx (rowsD rs).length 0 (some f) = f.toNat := by
    unfold HT.sIx
    simp only [List.length_map]
    rw [if_neg (by omega)]
    omega
  have s2 : HT.sIx (rowsD rs).length (rowsD rs).length (some (l + 1)) = (l + 1).toNat := by
    unfold HT.sIx
    simp only [List.length_map]
    rw [if_neg (by omega)]
    omega
  rw [s1, s2, ← List.map_drop, ← List.map_take]
  congr 2
  omega
theorem slice_sub {f l : Int} : ∀ r ∈ slice rs f l, r ∈ rs := fun r hr => List.mem_of_mem_drop (List.mem_of_mem_take hr)
theorem slice_len {f l : Int} : (slice rs f l).length ≤ rs.length := by
  unfold slice
  rw [List.length_take, List.length_drop]
  omega
theorem keys_ob (acc : List Int) : (obM acc).map (fun kv => kD kv.1) = acc.map D.int := by
  rw [List.map_map]
  rfl
theorem owned_ok (C : Chain rs) (c : ChD rs X) {f l : Int} (h0 : 0 ≤ f) (hl : f ≤ l) (h1 : l < rs.length) : F_owned_by [X, .int f, .int l] h = .ok (.lst ((obL rs f l).map D.int)) h := by
  have e1 : ∃ Y, (dSl false (dVar 0) (dPart (dVar 1)) (dPart (dOp (fAdd false) (dVar 2) (dC (.int 1))))) [some X, some (.int f), some (.int l), none, none] h = .ok Y h ∧ itemsD h Y = some (rowsD (slice rs f l)) := by
    rcases c with rfl | rfl
    · refine ⟨.lst (rowsD (slice rs f l)), ?_, rfl⟩
      rw [← cut_rows h0 hl h1]
      rfl
    · refine ⟨.tup (rowsD (slice rs f l)), ?_, rfl⟩
      rw [← cut_rows h0 hl h1]
      rfl
  obtain ⟨Y, e1, e2⟩ := e1
  have lp := b2_loop' (h := h) (a0 := some X) (a1 := some (.int f)) (a2 := some (.int l)) (qs := slice rs f l) (acc := []) (fun r hr => (C.own r (slice_sub r hr)).len) (by
    have := slice_len (rs := rs) (f := f) (l := l)
    have := C.le
    show 0 + _ < 900
    omega)
  unfold F_owned_by bodyF
  show (u_owned_by [some X, some (.int f), some (.int l), none, none] h).res = _
  unfold u_owned_by
  rw [s_ret, e_CB, e_cons]
  unfold dDc2
  have lp2 : dGL (gdName 3) dYes (b2 (dSeqI (dVar 3)) (gdName 4) dYes (dVar 4) (dC (.bl true)) [4]) (wipeD [some X, some (.int f), some (.int l), none, none] [3, 4]) [] (rowsD (slice rs f l)) h = .ok (obM (obL rs f l)) h := lp
  simp only [e_seqI, e1, bind_ok, e2, lp2, mkD, runl_none, e_nil, fListK, dctOf, keys_ob, mkL, toS_ok, res_rt]
end
section
variable {h : CH} {rs : List (List Int)} {X : D} {a b c : D}
theorem ix2_0 : fIx (.tup [a, b]) (.int 0) h = .ok a h := rfl
theorem ix2_1 : fIx (.tup [a, b]) (.int 1) h = .ok b h := rfl
theorem ix3_0 : fIx (.tup [a, b, c]) (.int 0) h = .ok a h := rfl
theorem ix3_1 : fIx (.tup [a, b, c]) (.int 1) h = .ok b h := rfl
theorem ix3_2 : fIx (.tup [a, b, c]) (.int 2) h = .ok c h := rfl
theorem len3 : fLen [.tup [a, b, c]] h = .ok (.int 3) h := rfl
theorem in_kinds (k : Bool) : fIn true (.str (kS k)) (.tup [.str "down", .str "up"]) h = .ok (.bl false) h := by cases k <;> kernel_rfl
theorem le2 : 2 ≤ sizeLine := by decide
theorem le3 : 3 ≤ sizeLine := by decide
theorem span_ok {n : Int} : ∀ {p : Pl} {f l : Int} {k : Nat}, Sp p f l → 0 ≤ f → l < n → l - f < k → F_span_of_ k [.int n, p.D] h = .ok (.tup [.int f, .int l]) h
  | p, f, l, 0, s, h0, h1, hk => by
    have := s.le
    omega
  | .leaf i, f, l, k + 1, s, h0, h1, hk => by
    obtain ⟨rfl, rfl⟩ := s
    have c0 : decide (i ≥ 0) = true := decide_eq_true h0
    have c1 : decide (i < n) = true := decide_eq_true h1
    show (u_span_of (F_span_of_ k) [some (.int n), some (.int i), none, none] h).res = _
    unfold u_span_of
    simp [is_cell_ok, h0, fB, h1, le2]
  | .node kd x y, f, l, k + 1, s, h0, h1, hk => by
    obtain ⟨m, sa, sb⟩ := s
    have la := sa.le
    have lb := sb.le
    have ea := span_ok (n := n) (k := k) sa h0 (by omega) (by omega)
    have eb := span_ok (n := n) (k := k) sb (by omega) h1 (by omega)
    have en : fEq true (.int 3) (.int 3) h = .ok (.bl false) h := by rw [eq_ints]; rfl
    have em : fEq true (.int (m + 1)) (.int (m + 1)) h = .ok (.bl false) h := by rw [eq_ints, beq_self_eq_true]; rfl
    show (u_span_of (F_span_of_ k) [some (.int n), some (.tup [.str (kS kd), x.D, y.D]), none, none] h).res = _
    unfold u_span_of
    simp [is_cell_tup, is_tup, len3, en, ix3_0, is_str, in_kinds, ix3_1, ix3_2, ea, eb, fIsN, CM.isNon, bneg, ix2_0, ix2_1, fAdd, em, le2]
theorem is_plan_ok (C : Chain rs) (c : ChD rs X) {p : Pl} (s : Sp p 0 (rs.length - 1)) : F_is_plan [X, p.D] h = .ok (.bl true) h := by
  have e1 := span_ok (h := h) (n := rs.length) (k := 9) s (by omega) (by omega) (by have := C.le; omega)
  have e2 : fEq false (.tup [.int 0, .int ((rs.length : Int) - 1)]) (.tup [.int 0, .int ((rs.length : Int) - 1)]) h = .ok (.bl true) h := by
    have e : toP h 10 (.tup ([0, (rs.length : Int) - 1].map D.int)) = some (.tuple ([0, (rs.length : Int) - 1].map PyData.int)) := by
      show (([0, (rs.length : Int) - 1].map D.int).mapM (toP h 9)).map PyData.tuple = _
      rw [toP_ints]
      rfl
    have s : SeqAt.shaped (.tuple ([0, (rs.length : Int) - 1].map PyData.int)) = true := by
      simp [SeqAt.shaped, PyData.canLayAll0, PyData.canLay0, PyData.depthAll, PyData.depth]
    have q : PyData.eqv (.tuple ([0, (rs.length : Int) - 1].map PyData.int)) (.tuple ([0, (rs.length : Int) - 1].map PyData.int)) = true := eqvAllI _
    show fEq false (.tup ([0, (rs.length : Int) - 1].map D.int)) (.tup ([0, (rs.length : Int) - 1].map D.int)) h = _
    unfold fEq
    rw [if_neg (by simp [scalD, flatD])]
    simp only [e, s, q, and_self, if_true]
    rfl
  unfold F_is_plan bodyF
  show (u_is_plan [some X, some p.D] h).res = _
  unfold u_is_plan F_span_of
  simp [need_chain_ok C c, c.len, e1, fSubI, e2, le2]
theorem need_plan_ok (C : Chain rs) (c : ChD rs X) {p : Pl} (s : Sp p 0 (rs.length - 1)) : F_need_plan [X, p.D] h = .ok .non h := by
  unfold F_need_plan bodyF
  show (u_need_plan [some X, some p.D] h).res = _
  unfold u_need_plan
  simp [is_plan_ok C c s]
theorem row_ix (c : ChD rs X) {i : Int} (h0 : 0 ≤ i) (h1 : i < rs.length) : fIx X (.int i) h = .ok (tupI (rowAt rs i)) h := by
  have e : atI (rowsD rs) i = some (tupI (rowAt rs i)) := by
    unfold atI ixN
    rw [if_pos h0, if_pos (by rw [List.length_map]; omega)]
    show (rowsD rs)[i.toNat]? = _
    rw [List.getElem?_map, rowAt_eq h0 h1]
    rfl
  rcases c with rfl | rfl
  · simp [fIx, seqOf, e]
  · simp [fIx, seqOf, e]
theorem un3 {n : Nat} {ρ : DE} {i j k : Nat} : gdTup 3 (gdCons (gdName i) (gdCons (gdName j) (gdCons (gdName k) gdNil))) (.tup [a, b, c]) ρ h = .ok (((ρ.set i (some a)).set j (some b)).set k (some c)) h := rfl
theorem cost_of_ok (C : Chain rs) (c : ChD rs X) : ∀ {p : Pl} {f l : Int} {k : Nat}, Sp p f l → 0 ≤ f → l < rs.length → l - f < k → F_cost_of_ k [X, p.D] h = .ok (.int (p.W rs)) h
  | p, f, l, 0, s, h0, h1, hk => by
    have := s.le
    omega
  | .leaf i, f, l, k + 1, s, h0, h1, hk => by
    obtain ⟨rfl, rfl⟩ := s
    show (u_cost_of (F_cost_of_ k) [some X, some (.int i), none, none, none, none, none, none] h).res = _
    unfold u_cost_of
    simp [is_cell_ok, h0]
    rfl
  | .node kd x y, f, l, k + 1, s, h0, h1, hk => by
    obtain ⟨m, sa, sb⟩ := s
    have la := sa.le
    have lb := sb.le
    have le := C.le
    have ea := cost_of_ok (k := k) C c sa h0 (by omega) (by omega)
    have eb := cost_of_ok (k := k) C c sb (by omega) h1 (by omega)
    have sA := span_ok (h := h) (n := rs.length) (k := 9) sa h0 (by omega) (by omega)
    have sB := span_ok (h := h) (n := rs.length) (k := 9) sb (by omega) h1 (by omega)
    have oA := owned_ok (h := h) C c h0 la (show m < rs.length by omega)
    have oB := owned_ok (h := h) C c (show 0 ≤ m + 1 by omega) lb h1
    have cd := copied_ok (h := h) kd (A := obL rs f m) (B := obL rs (m + 1) l) (by have := len_ten (nd_ob (rs := rs)) (ob_ten C (l := m) h0); omega)
    rw [cp_C C sa sb h0 (by omega) (by omega) h1] at cd
    show (u_cost_of (F_cost_of_ k) [some X, some (.tup [.str (kS kd), x.D, y.D]), none, none, none, none, none, none] h).res = _
    unfold u_cost_of F_span_of
    simp [is_cell_tup, un3, c.len, sA, sB, ix2_0, ix2_1, oA, oB, cd, ea, eb, fAdd]
    rfl
theorem cost_ok (C : Chain rs) (c : ChD rs X) {p : Pl} (s : Sp p 0 (rs.length - 1)) : F_cost [X, p.D] h = .ok (.int (p.W rs)) h := by
  have e1 := cost_of_ok (h := h) (k := 9) C c s (by omega) (by omega) (by have := C.le; omega)
  unfold F_cost bodyF
  show (u_cost [some X, some p.D] h).res = _
  unfold u_cost F_cost_of
  simp [need_plan_ok C c s, e1]
theorem worth_ok (C : Chain rs) (c : ChD rs X) : ∀ {p : Pl} {f l : Int} {k : Nat}, Sp p f l → 0 ≤ f → l < rs.length → l - f < k → F__law_worth_ k [X, p.D] h = .ok (.tup [.int (p.W rs), .lst ((p.C rs).map D.int)]) h
  | p, f, l, 0, s, h0, h1, hk => by
    have := s.le
    omega
  | .leaf i, f, l, k + 1, s, h0, h1, hk => by
    obtain ⟨rfl, rfl⟩ := s
    have e1 : fListOf false [tupI (rowAt rs i)] h = .ok (.lst ((rowAt rs i).map D.int)) h := rfl
    show (u__law_worth (F__law_worth_ k) [some X, some (.int i), none, none, none, none, none, none, none] h).res = _
    unfold u__law_worth
    simp [is_cell_ok', h0, row_ix c h0 h1, e1, le2]
    exact ⟨rfl, rfl⟩
  | .node kd x y, f, l, k + 1, s, h0, h1, hk => by
    obtain ⟨m, sa, sb⟩ := s
    have la := sa.le
    have lb := sb.le
    have le := C.le
    have ea := worth_ok (k := k) C c sa h0 (by omega) (by omega)
    have eb := worth_ok (k := k) C c sb (by omega) h1 (by omega)
    have nA := len_ten (C_nd C sa h0 (by omega)) (C_ten C sa h0 (by omega))
    have nB := len_ten (C_nd C sb (by omega) h1) (C_ten C sb (by omega) h1)
    have eS : ∀ (A B : List Int), A.length ≤ 10 → B.length ≤ 10 → fAdd false (.lst (A.map D.int)) (.lst (B.map D.int)) h = .ok (.lst ((A ++ B).map D.int)) h := fun A B a b => by
      unfold fAdd
      simp only [lstOf]
      rw [if_pos (by rw [List.length_map, List.length_map]; exact Nat.le_trans (show _ ≤ 20 by omega) (by decide)), List.map_append]
      rfl
    have eU : ∀ (A : List Int), A.length ≤ 20 → fSortSet false (.lst (A.map D.int)) h = .ok (.lst ((sortU A).map D.int)) h := fun A a => by
      unfold fSortSet
      simp only [seqOf, intsOf_map]
      rw [if_pos (by omega)]
      rfl
    have u1 := eS (x.C rs) (y.C rs) nA nB
    have u2 := eU (x.C rs ++ y.C rs) (by rw [List.length_append]; omega)
    show (u__law_worth (F__law_worth_ k) [some X, some (.tup [.str (kS kd), x.D, y.D]), none, none, none, none, none, none, none] h).res = _
    show _ = R.ok (D.tup [.int (x.W rs + y.W rs + cp kd (x.C rs) (y.C rs)), .lst ((sortU (x.C rs ++ y.C rs)).map D.int)]) h
    generalize x.C rs = A at *
    generalize y.C rs = B at *
    generalize x.W rs = wa at *
    generalize y.W rs = wb at *
    have lc : dLcL (gdName 8) (dB (dOp (fIn true) (dVar 8) (dOp fIx (dVar 6) (dC (.int 1))))) (dVar 8) [some X, some (.tup [.str (kS kd), x.D, y.D]), some (.str (kS kd)), some x.D, some y.D, some (.tup [.int wa, .lst (A.map D.int)]), some (.tup [.int wb, .lst (B.map D.int)]), none, none] (A.map D.int) h = .ok ((A.filter fun x => !B.contains x).map D.int) h :=
      lcL_fil fun z hz => ⟨[some X, some (.tup [.str (kS kd), x.D, y.D]), some (.str (kS kd)), some x.D, some y.D, some (.tup [.int wa, .lst (A.map D.int)]), some (.tup [.int wb, .lst (B.map D.int)]), none, some (.int z)], rfl, by simp [ix2_1, in_lst, bneg], fun _ => rfl⟩
    have ll : A.length ≤ sizeLine := Nat.le_trans nA (by decide)
    have last : (dIf (dB (dOp (fEq false) (dVar 2) (dC (.str "down")))) (dCB fLen (dCons (dOp fIx (dVar 6) (dC (.int 1))) (dNil))) (dCB fLen (dCons (dLc false (dSeqI (dOp fIx (dVar 5) (dC (.int 1)))) (gdName 8) (dB (dOp (fIn true) (dVar 8) (dOp fIx (dVar 6) (dC (.int 1))))) (dVar 8) [8]) (dNil)))) [some X, some (.tup [.str (kS kd), x.D, y.D]), some (.str (kS kd)), some x.D, some y.D, some (.tup [.int wa, .lst (A.map D.int)]), some (.tup [.int wb, .lst (B.map D.int)]), none, none] h = .ok (.int (cp kd A B)) h := by
      unfold cp
      rw [e_if, e_B, e_op]
      simp only [e_var, e_C, List.getElem?_cons_zero, List.getElem?_cons_succ, bind_ok, eq_strs, kS_down, asB_bl]
      cases kd with
      | true =>
        rw [if_pos rfl, if_pos rfl]
        simp only [e_CB, e_cons, e_nil, e_op, e_var, e_C, List.getElem?_cons_zero, List.getElem?_cons_succ, bind_ok, ix2_1, len_lst]
      | false =>
        rw [if_neg Bool.false_ne_true, if_neg Bool.false_ne_true]
        simp only [dLc, e_CB, e_cons, e_nil, e_seqI, e_op, e_C, e_var, List.getElem?_cons_zero, List.getElem?_cons_succ, bind_ok, ix2_1, itemsD, List.length_map, ll, if_true, wipeD, List.foldl_cons, List.foldl_nil, List.set_cons_zero, List.set_cons_succ, lc, mkL, runl_none, len_lst]
    unfold u__law_worth
    rw [s_seq]
    simp only [s_if, e_B, e_call, e_cons, e_nil, e_var, List.getElem?_cons_zero, List.getElem?_cons_succ, bind_ok, List.length_cons, List.length_nil, Nat.zero_add, if_true, is_cell_tup', asB_bl, toS_ok, Bool.false_eq_true, if_false, s_next, sbind_nx, s_seq, s_asg, un3, put_ok, List.set_cons_zero, List.set_cons_succ, e_tup, Nat.reduceAdd, ea, eb, le2]
    have un2 : ∀ {ρ : DE} {a b : D} {h : CH}, gdTup 2 (gdCons (gdName 5) (gdCons (gdName 6) gdNil)) (.tup [a, b]) ρ h = .ok ((ρ.set 5 (some a)).set 6 (some b)) h := fun {_ _ _ _} => rfl
    simp only [un2, put_ok, List.set_cons_zero, List.set_cons_succ, last, sbind_nx, toS_ok, g_name, s_seq, s_asg]
    have addI : ∀ i j : Int, fAdd false (.int i) (.int j) h = .ok (.int (i + j)) h := fun _ _ => rfl
    rw [List.map_append] at u1 u2
    simp [ix2_0, ix2_1, addI, le2, u1, u2]
end
section
variable {r w n : Nat} {h : CH}
theorem addI {i j : Int} : fAdd false (.int i) (.int j) h = .ok (.int (i + j)) h := rfl
theorem subI {i j : Int} : fSubI (.int i) (.int j) h = .ok (.int (i - j)) h := rfl
def rg (m : Nat) : List Int := (List.range m).map fun (i : Nat) => (0 : Int) + (i : Int)
theorem rg_D {m : Nat} : rgD 0 m = (rg m).map D.int := by
  unfold rgD rg
  rw [List.map_map]
  rfl
theorem rg_mem {m : Nat} {x : Int} (h : x ∈ rg m) : 0 ≤ x ∧ x < m := by
  unfold rg at h
  obtain ⟨i, hi, rfl⟩ := List.mem_map.mp h
  have := List.mem_range.mp hi
  omega
theorem rg_own {m : Nat} (hm : m ≤ 10) : Own (rg m) := by
  refine ⟨?_, fun x hx => ?_⟩
  · unfold rg
    rw [List.pairwise_map]
    exact List.pairwise_lt_range.imp fun h => by omega
  · have := rg_mem hx
    exact bd_ten (by omega) (by omega)
theorem Own.sub {l l' : List Int} (o : Own l) (s : l'.Sublist l) : Own l' := ⟨o.lt.sublist s, fun x hx => o.bd x (s.subset hx)⟩
theorem rg_len {m : Nat} : (rg m).length = m := by simp [rg]
theorem rngI {m : Int} {ρ : DE} {ta : TD} (h0 : 0 ≤ m) (h1 : m ≤ 100) (e : ta ρ h = .ok (.int m) h) : dRng1 (dCons ta dNil) ρ h = .ok ((rg m.toNat).map D.int, none) h := by
  simp only [dRng1, e_cons, e_nil, e, bind_ok]
  rw [if_pos ⟨by omega, by omega⟩, rg_D]
theorem owned_sat {m : Int} (A : DrawOk r w (n + 11) h) (h0 : 0 ≤ m) (h1 : m ≤ 10) : (F__law_owned [.ref r, .int m] h).sat fun d h1 => ∃ l, d = tupI l ∧ Own l ∧ DrawOk r w n h1 ∧ DrFr r w h h1 := by
  unfold F__law_owned bodyF
  rw [sat_res]
  show (u__law_owned [some (.ref r), some (.int m), none, none] h).sat _ _
  unfold u__law_owned
  rw [s_seq, sat_bindS]
  simp
  refine (take_sat (n := n + 10) A (s := 6) (by decide) (by decide)).mono ?_
  rintro _ h2 ⟨v, rfl, v0, v1, A2, f2⟩
  rw [Kont, s_seq, sat_bindS]
  simp [eq0_int]
  by_cases c0 : v = 0
  · simp [c0]
    exact ⟨⟨.nil, fun x hx => nomatch hx⟩, A2.mono (by omega), f2⟩
  · simp [c0]
    rw [Kont, s_seq, sat_bindS]
    simp [eq0_int]
    by_cases c1 : v = 1
    · have hm : m ≤ 100000 := by omega
      simp [c1, dTupR, h0, hm]
      exact ⟨rg m.toNat, by rw [rg_D], rg_own (by omega), A2.mono (by omega), f2⟩
    · simp [c1]
      rw [Kont, s_ret, sat_toS, e_CB, e_cons, sat_bind, sat_bind]
      unfold dLc
      have rgE : dRng1 (dCons (dVar 1) (dNil)) [some (.ref r), some (.int m), some (.int v), none] h2 = .ok ((rg m.toNat).map D.int, none) h2 := rngI h0 (by omega) rfl
      have ll : (rg m.toNat).length ≤ sizeLine := by rw [rg_len]; exact Nat.le_trans (show m.toNat ≤ 10 by omega) (by decide)
      simp [rgE, wipeD, ll]
      refine sat_lcl (I := fun rest ys h' => ∃ (l1 l2 zs : List Int), rg m.toNat = l1 ++ l2 ∧ rest = l2.map D.int ∧ ys = zs.map D.int ∧ zs.Sublist l1 ∧ DrawOk r w (n + l2.length) h' ∧ DrFr r w h h') ?_ (ys := []) ⟨[], rg m.toNat, [], rfl, rfl, rfl, .slnil, A2.mono (by rw [rg_len]; omega), f2⟩ ?_
      · rintro d rest ys h' ⟨l1, l2, zs, e1, e2, rfl, sb, A', f⟩
        cases l2 with
        | nil => cases e2
        | cons x l2 =>
          cases e2
          simp [fB]
          have fin : ∀ s : Int, 0 < s → s < 100 → (F__law_take [.ref r, .int s] h').sat fun a h_1 => (fEq false a (.int 0) h_1).sat fun a h_2 => (asB a h_2).sat fun b h_3 => if b = true then
                ∃ l1 l2_1, rg m.toNat = l1 ++ l2_1 ∧ List.map D.int l2 = List.map D.int l2_1 ∧ ∃ x_1, List.map D.int zs ++ [D.int x] = List.map D.int x_1 ∧ x_1.Sublist l1 ∧ DrawOk r w (n + l2_1.length) h_3 ∧ DrFr r w h h_3
              else ∃ l1 l2_1, rg m.toNat = l1 ++ l2_1 ∧ List.map D.int l2 = List.map D.int l2_1 ∧ ∃ x, List.map D.int zs = List.map D.int x ∧ x.Sublist l1 ∧ DrawOk r w (n + l2_1.length) h_3 ∧ DrFr r w h h_3 := fun s s0 s1 => by
            refine (take_sat (n := n + l2.length) (by simpa [Nat.add_assoc] using A') s0 (by omega)).mono ?_
            rintro d h1 ⟨u, rfl, _, _, A3, f3⟩
            simp only [eq0_int, sat_ok, asB_bl]
            by_cases c : u = 0
            · rw [if_pos (by rw [c]; rfl)]
              exact ⟨l1 ++ [x], l2, by simp [e1], rfl, zs ++ [x], by simp, sb.append (List.Sublist.refl _), A3, f.trans f3⟩
            · rw [if_neg (by simpa using c)]
              exact ⟨l1 ++ [x], l2, by simp [e1], rfl, zs, rfl, sb.trans (List.sublist_append_left ..), A3, f.trans f3⟩
          split
          · exact fin 2 (by decide) (by decide)
          · exact fin 4 (by decide) (by decide)
      · rintro zs h' ⟨l1, l2, zs', e1, e2, rfl, sb, A', f⟩ l el
        have : l2 = [] := by cases l2 with | nil => rfl | cons => cases e2
        subst this
        simp only [List.nil_append] at el
        subst el
        simp [mkL, fTupOf, lstOf]
        exact ⟨zs', rfl, (rg_own (m := m.toNat) (by omega)).sub (by rw [e1]; simpa using sb), A', f⟩
theorem chain_sat {lo hi : Int} (lo1 : 1 ≤ lo) (lohi : lo ≤ hi) (hi8 : hi ≤ 8) (A : DrawOk r w (n + 100) h) : (F__law_chain [.ref r, .int lo, .int hi] h).sat fun d h1 => ∃ rs, d = .lst (rowsD rs) ∧ Chain rs ∧ (lo ≤ rs.length ∧ (rs.length : Int) ≤ hi) ∧ DrawOk r w n h1 ∧ DrFr r w h h1 := by
  unfold F__law_chain bodyF
  rw [sat_res]
  show (u__law_chain [some (.ref r), some (.int lo), some (.int hi), none, none] h).sat _ _
  unfold u__law_chain
  rw [s_seq, sat_bindS]
  have l4 : 4 ≤ sizeLine := by decide
  simp [mkL, l4]
  refine (pick_sat (n := n + 99) A (.inl rfl) (by simp) (by simp)).mono ?_
  rintro d h2 ⟨md, A2, f2⟩
  have em : ∃ m : Int, d = .int m ∧ 0 ≤ m ∧ m ≤ 10 := by
    simp only [List.mem_cons, List.not_mem_nil, or_false] at md
    rcases md with rfl | rfl | rfl | rfl <;> exact ⟨_, rfl, by decide, by decide⟩
  obtain ⟨m, rfl, m0, m1⟩ := em
  rw [Kont, s_ret, sat_toS]
  unfold dLc
  rw [sat_bind]
  have tk : (dRng1 (dCons (dOp (fAdd false) (dVar 1) (dCall 2 F__law_take (dCons (dVar 0) (dCons (dOp (fAdd false) (dOp fSubI (dVar 2) (dVar 1)) (dC (.int 1))) (dNil))))) (dNil)) [some (.ref r), some (.int lo), some (.int hi), some (.int m), none] h2).sat fun q h3 => ∃ v : Int, q = ((rg (lo + v).toNat).map D.int, none) ∧ 0 ≤ v ∧ v < hi - lo + 1 ∧ DrawOk r w (n + 98) h3 ∧ DrFr r w h2 h3 := by
    unfold dRng1
    simp [subI, addI]
    refine (take_sat (n := n + 98) A2 (s := hi - lo + 1) (by omega) (by omega)).mono ?_
    rintro _ h3 ⟨v, rfl, v0, v1, A3, f3⟩
    simp [addI]
    exact ⟨⟨by omega, by omega⟩, v, by rw [rg_D], v0, v1, A3, f3⟩
  refine tk.mono ?_
  rintro _ h3 ⟨v, rfl, v0, v1, A3, f3⟩
  have ll : (rg (lo + v).toNat).length ≤ sizeLine := by rw [rg_len]; exact Nat.le_trans (show (lo + v).toNat ≤ 10 by omega) (by decide)
  simp only [List.length_map]
  rw [if_pos ll, sat_unlR, sat_bind]
  simp only [wipeD, List.foldl_cons, List.foldl_nil, List.set_cons_zero, List.set_cons_succ]
  refine sat_lcl (I := fun rest ys h' => ∃ (rs : List (List Int)), ys = rowsD rs ∧ (∀ q ∈ rs, Own q) ∧ rs.length + rest.length = (lo + v).toNat ∧ DrawOk r w (n + 11 * rest.length) h' ∧ DrFr r w h h') ?_ (ys := []) ⟨[], rfl, fun q hq => (nomatch hq), by rw [List.length_map, rg_len]; simp, A3.mono (by rw [List.length_map, rg_len]; omega), f2.trans f3⟩ ?_
  · rintro d rest ys h' ⟨rs, rfl, ow, hl, A', f⟩
    simp [dYes]
    refine (owned_sat (n := n + 11 * rest.length) (by simp only [List.length_cons] at A'; exact A'.mono (by omega)) m0 m1).mono ?_
    rintro _ h4 ⟨l, rfl, o, A4, f4⟩
    refine ⟨rs ++ [l], by simp, fun q hq => ?_, by simp only [List.length_append, List.length_cons, List.length_nil] at hl ⊢; omega, A4, f.trans f4⟩
    rcases List.mem_append.mp hq with q1 | q1
    · exact ow q q1
    · rw [List.mem_singleton.mp q1]
      exact o
  · rintro zs h' ⟨rs, rfl, ow, hl, A', f⟩ l el
    simp only [List.nil_append] at el
    subst el
    simp only [List.length_nil] at hl
    simp only [mkL, sat_ok, sat_rt]
    exact ⟨rs, rfl, ⟨by omega, by omega, ow⟩, ⟨by omega, by omega⟩, A', f⟩
end
def mid_0 : SD := dPar 8 9 (dCons (dIxT (dVar 1) (dCons (dVar 4) (dCons (dVar 7) (dNil)))) (dCons (dIxT (dVar 1) (dCons (dOp (fAdd false) (dVar 7) (dC (.int 1))) (dCons (dVar 5) (dNil)))) (dNil)))
def mid_1 : SD := dAsg (dTup (dCons (dCall 3 F_owned_by (dCons (dVar 0) (dCons (dVar 4) (dCons (dVar 7) (dNil))))) (dCons (dCall 3 F_owned_by (dCons (dVar 0) (dCons (dOp (fAdd false) (dVar 7) (dC (.int 1))) (dCons (dVar 5) (dNil))))) (dNil)))) (gdName 10)
def mid_2 : SD := dFor (dSeqI (dC (.tup [.str "down", .str "up"]))) (gdName 11) (dDrop (dBM "list" fAppend (dVar 6) (dCons (dTup (dCons (dOp (fAdd false) (dOp (fAdd false) (dOp fIx (dVar 8) (dC (.int 0))) (dOp fIx (dVar 9) (dC (.int 0)))) (dCall 3 F_copied (dCons (dVar 11) (dStar (dVar 10) (dNil))))) (dCons (dTup (dCons (dVar 11) (dCons (dOp fIx (dVar 8) (dC (.int 1))) (dCons (dOp fIx (dVar 9) (dC (.int 1))) (dNil))))) (dNil)))) (dNil))))
def mid_k2 : SD := mid_2
def mid_k1 : SD := dSeq mid_1 mid_k2
def mid_k0 : SD := dSeq mid_0 mid_k1
def fst_0 : SD := dPar 5 6 (dCons (dOp (fAdd false) (dVar 4) (dVar 3)) (dCons (dLst true (dNil)) (dNil)))
def fst_1 : SD := dFor (dRng2 (dCons (dVar 4) (dCons (dVar 5) (dNil)))) (gdName 7) (dSeq (dPar 8 9 (dCons (dIxT (dVar 1) (dCons (dVar 4) (dCons (dVar 7) (dNil)))) (dCons (dIxT (dVar 1) (dCons (dOp (fAdd false) (dVar 7) (dC (.int 1))) (dCons (dVar 5) (dNil)))) (dNil)))) (dSeq (dAsg (dTup (dCons (dCall 3 F_owned_by (dCons (dVar 0) (dCons (dVar 4) (dCons (dVar 7) (dNil))))) (dCons (dCall 3 F_owned_by (dCons (dVar 0) (dCons (dOp (fAdd false) (dVar 7) (dC (.int 1))) (dCons (dVar 5) (dNil))))) (dNil)))) (gdName 10)) (dFor (dSeqI (dC (.tup [.str "down", .str "up"]))) (gdName 11) (dDrop (dBM "list" fAppend (dVar 6) (dCons (dTup (dCons (dOp (fAdd false) (dOp (fAdd false) (dOp fIx (dVar 8) (dC (.int 0))) (dOp fIx (dVar 9) (dC (.int 0)))) (dCall 3 F_copied (dCons (dVar 11) (dStar (dVar 10) (dNil))))) (dCons (dTup (dCons (dVar 11) (dCons (dOp fIx (dVar 8) (dC (.int 1))) (dCons (dOp fIx (dVar 9) (dC (.int 1))) (dNil))))) (dNil)))) (dNil)))))))
def fst_2 : SD := dAsg (dCB fMinL (dCons (dLc false (dSeqI (dVar 6)) (gdTup 2 (gdCons (gdName 13) (gdCons (gdName 14) (gdNil)))) (dYes) (dVar 13) [13, 14]) (dNil))) (gdName 12)
def fst_3 : SD := dAsg (dOp fIx (dLc false (dSeqI (dVar 6)) (gdName 15) (dB (dOp (fEq false) (dOp fIx (dVar 15) (dC (.int 0))) (dVar 12))) (dVar 15) [15]) (dC (.int 0))) (gdSubT (dVar 1) (dCons (dVar 4) (dCons (dVar 5) (dNil))))
def fst_k3 : SD := fst_3
def fst_k2 : SD := dSeq fst_2 fst_k3
def fst_k1 : SD := dSeq fst_1 fst_k2
def fst_k0 : SD := dSeq fst_0 fst_k1
def chp_0 : SD := dDrop (dCall 1 F_need_chain (dCons (dVar 0) (dNil)))
def chp_1 : SD := dAsg (dDcT (dRng1 (dCons (dCB fLen (dCons (dVar 0) (dNil))) (dNil))) (gdName 2) (dYes) (dCons (dVar 2) (dCons (dVar 2) (dNil))) (dTup (dCons (dC (.int 0)) (dCons (dVar 2) (dNil)))) [2]) (gdName 1)
def chp_2 : SD := dFor (dRng2 (dCons (dC (.int 1)) (dCons (dCB fLen (dCons (dVar 0) (dNil))) (dNil)))) (gdName 3) (dFor (dRng1 (dCons (dOp fSubI (dCB fLen (dCons (dVar 0) (dNil))) (dVar 3)) (dNil))) (gdName 4) (dSeq (dPar 5 6 (dCons (dOp (fAdd false) (dVar 4) (dVar 3)) (dCons (dLst true (dNil)) (dNil)))) (dSeq (dFor (dRng2 (dCons (dVar 4) (dCons (dVar 5) (dNil)))) (gdName 7) (dSeq (dPar 8 9 (dCons (dIxT (dVar 1) (dCons (dVar 4) (dCons (dVar 7) (dNil)))) (dCons (dIxT (dVar 1) (dCons (dOp (fAdd false) (dVar 7) (dC (.int 1))) (dCons (dVar 5) (dNil)))) (dNil)))) (dSeq (dAsg (dTup (dCons (dCall 3 F_owned_by (dCons (dVar 0) (dCons (dVar 4) (dCons (dVar 7) (dNil))))) (dCons (dCall 3 F_owned_by (dCons (dVar 0) (dCons (dOp (fAdd false) (dVar 7) (dC (.int 1))) (dCons (dVar 5) (dNil))))) (dNil)))) (gdName 10)) (dFor (dSeqI (dC (.tup [.str "down", .str "up"]))) (gdName 11) (dDrop (dBM "list" fAppend (dVar 6) (dCons (dTup (dCons (dOp (fAdd false) (dOp (fAdd false) (dOp fIx (dVar 8) (dC (.int 0))) (dOp fIx (dVar 9) (dC (.int 0)))) (dCall 3 F_copied (dCons (dVar 11) (dStar (dVar 10) (dNil))))) (dCons (dTup (dCons (dVar 11) (dCons (dOp fIx (dVar 8) (dC (.int 1))) (dCons (dOp fIx (dVar 9) (dC (.int 1))) (dNil))))) (dNil)))) (dNil)))))))) (dSeq (dAsg (dCB fMinL (dCons (dLc false (dSeqI (dVar 6)) (gdTup 2 (gdCons (gdName 13) (gdCons (gdName 14) (gdNil)))) (dYes) (dVar 13) [13, 14]) (dNil))) (gdName 12)) (dAsg (dOp fIx (dLc false (dSeqI (dVar 6)) (gdName 15) (dB (dOp (fEq false) (dOp fIx (dVar 15) (dC (.int 0))) (dVar 12))) (dVar 15) [15]) (dC (.int 0))) (gdSubT (dVar 1) (dCons (dVar 4) (dCons (dVar 5) (dNil)))))))))
def chp_3 : SD := dRet (dIxT (dVar 1) (dCons (dC (.int 0)) (dCons (dOp fSubI (dCB fLen (dCons (dVar 0) (dNil))) (dC (.int 1))) (dNil))))
def chp_k3 : SD := chp_3
def chp_k2 : SD := dSeq chp_2 chp_k3
def chp_k1 : SD := dSeq chp_1 chp_k2
section
variable {h : CH} {rs : List (List Int)} {X : D} {kb ko : Nat} {kvs : List (List Key × D)} {a0 a1 a2 a3 a4 a5 a6 a7 a8 a9 a10 a11 a12 a13 a14 a15 : Option D}
theorem getT_put {kvs : List (List Key × D)} {k k' : List Key} {d : D} : dGetT (dPutT kvs k d) k' = if k = k' then some d else dGetT kvs k' := by
  unfold dPutT
  by_cases c : (kvs.any fun p => decide (p.1 = k)) = true
  · rw [if_pos c]
    induction kvs with
    | nil => simp at c
    | cons p kvs ih =>
      unfold dGetT at ih ⊢
      rw [List.map_cons, List.find?_cons, List.find?_cons]
      by_cases e : p.1 = k
      · rw [if_pos e]
        by_cases e2 : k = k'
        · subst e2
          simp [e]
        · rw [if_neg e2]
          have e3 : ¬ p.1 = k' := fun z => e2 (e.symm.trans z)
          simp only [e3, decide_false]
          by_cases c2 : (kvs.any fun p => decide (p.1 = k)) = true
          · rw [ih c2, if_neg e2]
          · have : kvs.map (fun p => if p.1 = k then (p.1, d) else p) = kvs := by
              rw [List.map_congr_left (g := id), List.map_id]
              intro q hq
              rw [if_neg (fun z => c2 (List.any_eq_true.mpr ⟨q, hq, by simpa using z⟩))]
              rfl
            rw [this]
      · rw [if_neg e]
        have c2 : (kvs.any fun p => decide (p.1 = k)) = true := by simpa [e] using c
        by_cases e2 : p.1 = k'
        · have e3 : ¬ k = k' := fun z => e (e2.trans z.symm)
          simp [e2, e3]
        · simp only [e2, decide_false]
          exact ih c2
  · rw [if_neg c]
    unfold dGetT
    rw [List.find?_append]
    by_cases e : k = k'
    · subst e
      have : kvs.find? (fun kv => decide (kv.1 = k)) = none := by
        rw [List.find?_eq_none]
        intro q hq z
        exact c (List.any_eq_true.mpr ⟨q, hq, z⟩)
      rw [this, if_pos rfl]
      simp
    · rw [if_neg e]
      simp [e]
theorem lenT_put {kvs : List (List Key × D)} {k : List Key} {d : D} : (dPutT kvs k d).length ≤ kvs.length + 1 := by
  unfold dPutT
  split <;> simp
abbrev kk (i j : Int) : List Key := [.inl i, .inl j]
theorem keysL2 {i j : Int} : keysL [.int i, .int j] = some (kk i j) := rfl
theorem ixT_ok {ta t1 t2 : TD} {ρ : DE} {i j : Int} {d : D} (e0 : ta ρ h = .ok (.ref kb) h) (e1 : t1 ρ h = .ok (.int i) h) (e2 : t2 ρ h = .ok (.int j) h) (hb : h.ob kb = some (.dctT kvs)) (g : dGetT kvs (kk i j) = some d) : dIxT ta (dCons t1 (dCons t2 dNil)) ρ h = .ok d h := by
  have l2 : [D.int i, D.int j].length ≤ sizeLine := by show 2 ≤ sizeLine; decide
  unfold dIxT
  simp only [e0, e1, e2, bind_ok, e_cons, e_nil, hb, keysL2]
  rw [if_pos l2, g]
theorem subT_ok {ta t1 t2 : TD} {ρ : DE} {i j : Int} {d : D} (e0 : ta ρ h = .ok (.ref kb) h) (e1 : t1 ρ h = .ok (.int i) h) (e2 : t2 ρ h = .ok (.int j) h) (hb : h.ob kb = some (.dctT kvs)) (l : kvs.length < 1000) : gdSubT ta (dCons t1 (dCons t2 dNil)) d ρ h = .ok ρ (h.put kb (.dctT (dPutT kvs (kk i j) d))) := by
  have l2 : [D.int i, D.int j].length ≤ sizeLine ∧ kvs.length < sizeLine := ⟨by show 2 ≤ sizeLine; decide, Nat.lt_of_lt_of_le l (by decide)⟩
  unfold gdSubT
  simp only [e0, e1, e2, calm_ok, bind_ok, e_cons, e_nil, hb, keysL2]
  rw [if_pos l2]
abbrev offD (q : Int × D) : D := .tup [.int q.1, q.2]
abbrev offer (k : Bool) (P1 P2 : Int) (A B : List Int) (d1 d2 : D) : Int × D := (P1 + P2 + cp k A B, .tup [.str (kS k), d1, d2])
def kindB : SD := dDrop (dBM "list" fAppend (dVar 6) (dCons (dTup (dCons (dOp (fAdd false) (dOp (fAdd false) (dOp fIx (dVar 8) (dC (.int 0))) (dOp fIx (dVar 9) (dC (.int 0)))) (dCall 3 F_copied (dCons (dVar 11) (dStar (dVar 10) (dNil))))) (dCons (dTup (dCons (dVar 11) (dCons (dOp fIx (dVar 8) (dC (.int 1))) (dCons (dOp fIx (dVar 9) (dC (.int 1))) (dNil))))) (dNil)))) (dNil)))
theorem kind_ok {qs : List (Int × D)} {P1 P2 : Int} {A B : List Int} {d1 d2 : D} (k : Bool) (ho : h.ob ko = some (.lst (qs.map offD))) (lq : qs.length < 1000) (la : A.length ≤ 100) :
    kindB [a0, a1, a2, a3, a4, a5, some (.ref ko), a7, some (.tup [.int P1, d1]), some (.tup [.int P2, d2]), some (.tup [.lst (A.map D.int), .lst (B.map D.int)]), some (.str (kS k)), a12, a13, a14, a15] h =
      .nx [a0, a1, a2, a3, a4, a5, some (.ref ko), a7, some (.tup [.int P1, d1]), some (.tup [.int P2, d2]), some (.tup [.lst (A.map D.int), .lst (B.map D.int)]), some (.str (kS k)), a12, a13, a14, a15] (h.put ko (.lst ((qs ++ [offer k P1 P2 A B d1 d2]).map offD))) := by
  have it : isTy "list" (.ref ko) h = true := by
    show (lstOf h (.ref ko)).isSome = true
    simp only [lstOf, ho, Option.isSome_some]
  have l1 : (qs.map offD).length < sizeLine := Nat.lt_of_lt_of_le (show _ < 1000 by rw [List.length_map]; exact lq) (by decide)
  have ap : ∀ y : D, fAppend (.ref ko) [y] h = .ok .non (h.put ko (.lst (qs.map offD ++ [y]))) := fun y => by
    unfold fAppend
    simp only [ho]
    rw [if_pos l1]
  have cd := copied_ok (h := h) k (A := A) (B := B) la
  have st : ∀ ρ : DE, ρ[10]? = some (some (.tup [.lst (A.map D.int), .lst (B.map D.int)])) → dStar (dVar 10) dNil ρ h = .ok [.lst (A.map D.int), .lst (B.map D.int)] h := fun ρ e => by
    unfold dStar
    simp [e, seqOf]
  unfold kindB
  simp only [s_drop, e_BM, e_var, List.getElem?_cons_zero, List.getElem?_cons_succ, bind_ok, it, if_true, e_cons, e_nil, e_tup, e_op, e_C, ix2_0, ix2_1, addI, e_call, st, List.length_cons, List.length_nil, Nat.zero_add, Nat.reduceAdd, cd, le2, le3, ap, toS_ok, List.map_append, List.map_cons, List.map_nil]
end
section
variable {h : CH} {rs : List (List Int)} {X : D} {kb ko : Nat} {kvs : List (List Key × D)} {a0 a1 a2 a3 a4 a5 a6 a7 a8 a9 a10 a11 a12 a13 a14 a15 : Option D} {qs : List (Int × D)}
theorem forL_nx {tg : TGD} {u : SD} {d : D} {l : List D} {ρ ρ1 ρ2 : DE} {h1 h2 : CH} (e1 : tg d ρ h = .ok ρ1 h1) (e2 : u ρ1 h1 = .nx ρ2 h2) : dForL tg u (d :: l) ρ h = dForL tg u l ρ2 h2 := by
  show ((tg d ρ h).put _) = _
  rw [e1]
  show (match u ρ1 h1 with
    | .nx ρ2 h2 => dForL tg u l ρ2 h2
    | .ct ρ2 h2 => dForL tg u l ρ2 h2
    | .bk ρ2 h2 => .nx ρ2 h2
    | x => x) = _
  rw [e2]
theorem mid_ok (C : Chain rs) (c : ChD rs X) {f m l P1 P2 : Int} {d1 d2 : D} (g1 : dGetT kvs (kk f m) = some (.tup [.int P1, d1])) (g2 : dGetT kvs (kk (m + 1) l) = some (.tup [.int P2, d2])) (hb : h.ob kb = some (.dctT kvs)) (ho : h.ob ko = some (.lst (qs.map offD))) (lq : qs.length < 900)
    (h0 : 0 ≤ f) (h1 : f ≤ m) (h2 : m + 1 ≤ l) (h3 : l < rs.length) : ∃ b10 b11,
    mid_k0 [some X, some (.ref kb), a2, a3, some (.int f), some (.int l), some (.ref ko), some (.int m), a8, a9, a10, a11, a12, a13, a14, a15] h =
      .nx [some X, some (.ref kb), a2, a3, some (.int f), some (.int l), some (.ref ko), some (.int m), some (.tup [.int P1, d1]), some (.tup [.int P2, d2]), b10, b11, a12, a13, a14, a15]
        (h.put ko (.lst ((qs ++ [offer true P1 P2 (obL rs f m) (obL rs (m + 1) l) d1 d2] ++ [offer false P1 P2 (obL rs f m) (obL rs (m + 1) l) d1 d2]).map offD))) := by
  have oA := owned_ok (h := h) C c h0 h1 (show m < rs.length by omega)
  have oB := owned_ok (h := h) C c (show 0 ≤ m + 1 by omega) h2 h3
  have la : (obL rs f m).length ≤ 100 := by have := len_ten (nd_ob (rs := rs)) (ob_ten C (l := m) h0); omega
  refine ⟨some (.tup [.lst ((obL rs f m).map D.int), .lst ((obL rs (m + 1) l).map D.int)]), some (.str (kS false)), ?_⟩
  show ((mid_0 _ h).bind (dSeq mid_1 mid_2)) = _
  unfold mid_0
  rw [s_par, e_cons, ixT_ok rfl rfl rfl hb g1, bind_ok, e_cons, ixT_ok (d := .tup [.int P2, d2]) rfl (i := m + 1) (j := l) (by simp only [e_op, e_var, e_C, List.getElem?_cons_zero, List.getElem?_cons_succ, bind_ok, addI]) rfl hb g2, bind_ok, e_nil, bind_ok, bind_ok, toS_ok]
  simp only [sbind_nx, List.set_cons_zero, List.set_cons_succ, s_seq]
  unfold mid_1
  simp only [s_asg, e_tup, e_cons, e_nil, e_call, e_var, e_op, e_C, List.getElem?_cons_zero, List.getElem?_cons_succ, bind_ok, addI, List.length_cons, List.length_nil, Nat.zero_add, Nat.reduceAdd, if_true, oA, oB, le2, toS_ok, g_name, put_ok, sbind_nx, List.set_cons_zero, List.set_cons_succ]
  have k1 := kind_ok (h := h) (a0 := some X) (a1 := some (.ref kb)) (a2 := a2) (a3 := a3) (a4 := some (.int f)) (a5 := some (.int l)) (a7 := some (.int m)) (a12 := a12) (a13 := a13) (a14 := a14) (a15 := a15) (P1 := P1) (P2 := P2) (A := obL rs f m) (B := obL rs (m + 1) l) (d1 := d1) (d2 := d2) true ho (by omega) la
  have k2 := kind_ok (h := h.put ko (.lst ((qs ++ [offer true P1 P2 (obL rs f m) (obL rs (m + 1) l) d1 d2]).map offD))) (a0 := some X) (a1 := some (.ref kb)) (a2 := a2) (a3 := a3) (a4 := some (.int f)) (a5 := some (.int l)) (a7 := some (.int m)) (a12 := a12) (a13 := a13) (a14 := a14) (a15 := a15) (P1 := P1) (P2 := P2) (A := obL rs f m) (B := obL rs (m + 1) l) (d1 := d1) (d2 := d2) false put_same (by simp only [List.length_append, List.length_cons, List.length_nil]; omega) la
  rw [put_put] at k2
  show (dFor (dSeqI (dC (.tup [.str (kS true), .str (kS false)]))) (gdName 11) kindB _ h) = _
  rw [s_for, e_seqI, e_C, bind_ok]
  show ((dForL (gdName 11) kindB [.str (kS true), .str (kS false)] _ h).unl none) = _
  rw [unl_none, forL_nx rfl k1, forL_nx rfl k2]
  rfl
def rgF (a b : Int) : List D := rgD a (b - a).toNat
theorem rgF_nil {a b : Int} (l : b ≤ a) : rgF a b = [] := by
  unfold rgF
  rw [show (b - a).toNat = 0 by omega]
  rfl
theorem rgF_cons {a b : Int} (l : a < b) : rgF a b = .int a :: rgF (a + 1) b := by
  unfold rgF rgD
  rw [show (b - a).toNat = (b - (a + 1)).toNat + 1 by omega, List.range_succ_eq_map, List.map_cons, List.map_map]
  congr 1
  · show D.int (a + ((0 : Nat) : Int)) = _
    rw [Int.natCast_zero, Int.add_zero]
  · refine List.map_congr_left fun i _ => ?_
    show D.int (a + ((i + 1 : Nat) : Int)) = D.int (a + 1 + (i : Int))
    rw [Int.natCast_succ]
    congr 1
    omega
end
abbrev offP (rs : List (List Int)) (p : Pl) : Int × D := (p.W rs, p.D)
def Off (rs : List (List Int)) (f l m : Int) (ps : List Pl) : Prop := ∀ k a b m', f ≤ m' → m' < m → Sp a f m' → Sp b (m' + 1) l → ∃ q ∈ ps, q.W rs ≤ Pl.W rs (.node k a b)
def Best (rs : List (List Int)) (kvs : List (List Key × D)) (f l : Int) : Prop := ∃ p, Sp p f l ∧ dGetT kvs (kk f l) = some (.tup [.int (p.W rs), p.D]) ∧ ∀ q, Sp q f l → p.W rs ≤ q.W rs
theorem off_next {rs : List (List Int)} {f m l : Int} {ps : List Pl} {x y : Pl} (o : Off rs f l m ps) (b1 : ∀ q, Sp q f m → x.W rs ≤ q.W rs) (b2 : ∀ q, Sp q (m + 1) l → y.W rs ≤ q.W rs) (C : Chain rs) (sx : Sp x f m) (sy : Sp y (m + 1) l) (h0 : 0 ≤ f) (h1 : f ≤ m) (h2 : m + 1 ≤ l) (h3 : l < rs.length) :
    Off rs f l (m + 1) (ps ++ [.node true x y, .node false x y]) := by
  intro k a b m' q1 q2 sa sb
  by_cases e : m' = m
  · subst e
    have w1 := b1 a sa
    have w2 := b2 b sb
    have c1 := cp_C C (k := k) sa sb h0 (by omega) (by omega) h3
    have c2 := cp_C C (k := k) sx sy h0 (by omega) (by omega) h3
    have wn : Pl.W rs (.node k x y) ≤ Pl.W rs (.node k a b) := by
      show x.W rs + y.W rs + cp k (x.C rs) (y.C rs) ≤ a.W rs + b.W rs + cp k (a.C rs) (b.C rs)
      rw [← c1, ← c2]
      omega
    cases k with
    | true => exact ⟨_, List.mem_append_right _ (List.mem_cons_self ..), wn⟩
    | false => exact ⟨_, List.mem_append_right _ (List.mem_cons_of_mem _ (List.mem_cons_self ..)), wn⟩
  · obtain ⟨q, mq, w⟩ := o k a b m' q1 (by omega) sa sb
    exact ⟨q, List.mem_append_left _ mq, w⟩
theorem mids_ok {rs : List (List Int)} {kvs : List (List Key × D)} (C : Chain rs) {f l : Int} (hb : ∀ m, f ≤ m → m < l → Best rs kvs f m ∧ Best rs kvs (m + 1) l) (h0 : 0 ≤ f) (h3 : l < rs.length) : ∀ {n : Nat} {m : Int} {ps : List Pl}, (l - m).toNat = n → f ≤ m → m ≤ l → (ps.length : Int) = 2 * (m - f) → (∀ p ∈ ps, Sp p f l) → Off rs f l m ps →
    ∃ ps' : List Pl, (ps'.length : Int) = 2 * (l - f) ∧ (∀ p ∈ ps', Sp p f l) ∧ Off rs f l l ps' ∧ ∀ {X : D} {h : CH} {kb ko : Nat} {a2 a3 a7 a8 a9 a10 a11 a12 a13 a14 a15 : Option D}, ChD rs X → h.ob kb = some (.dctT kvs) → h.ob ko = some (.lst ((ps.map (offP rs)).map offD)) → kb ≠ ko →
      ∃ b7 b8 b9 b10 b11, dForL (gdName 7) mid_k0 (rgF m l) [some X, some (.ref kb), a2, a3, some (.int f), some (.int l), some (.ref ko), a7, a8, a9, a10, a11, a12, a13, a14, a15] h =
      .nx [some X, some (.ref kb), a2, a3, some (.int f), some (.int l), some (.ref ko), b7, b8, b9, b10, b11, a12, a13, a14, a15] (h.put ko (.lst ((ps'.map (offP rs)).map offD)))
  | 0, m, ps, en, q1, q2, q3, sp, o => by
    have e : m = l := by omega
    subst e
    rw [rgF_nil (Int.le_refl _)]
    refine ⟨ps, q3, sp, o, fun {X h kb ko a2 a3 a7 a8 a9 a10 a11 a12 a13 a14 a15} c ek eo ne => ⟨a7, a8, a9, a10, a11, ?_⟩⟩
    rw [put_id eo]
    rfl
  | n + 1, m, ps, en, q1, q2, q3, sp, o => by
    obtain ⟨⟨x, sx, g1, w1⟩, y, sy, g2, w2⟩ := hb m q1 (by omega)
    have le := C.le
    obtain ⟨ps', l2, sp2, o2, go⟩ := mids_ok (n := n) (m := m + 1) (ps := ps ++ [.node true x y, .node false x y]) C hb h0 h3 (by omega) (by omega) (by omega) (by simp only [List.length_append, List.length_cons, List.length_nil]; omega) (fun p hp => by
      rcases List.mem_append.mp hp with hp | hp
      · exact sp p hp
      · simp only [List.mem_cons, List.not_mem_nil, or_false] at hp
        rcases hp with rfl | rfl
        · exact ⟨m, sx, sy⟩
        · exact ⟨m, sx, sy⟩) (off_next o w1 w2 C sx sy h0 q1 (by omega) h3)
    refine ⟨ps', l2, sp2, o2, fun {X h kb ko a2 a3 a7 a8 a9 a10 a11 a12 a13 a14 a15} c ek eo ne => ?_⟩
    obtain ⟨b10, b11, e1⟩ := mid_ok (h := h) (a2 := a2) (a3 := a3) (a8 := a8) (a9 := a9) (a10 := a10) (a11 := a11) (a12 := a12) (a13 := a13) (a14 := a14) (a15 := a15) C c g1 g2 ek eo (by rw [List.length_map]; omega) h0 q1 (by omega) h3
    have eo2 : ps.map (offP rs) ++ [offer true (x.W rs) (y.W rs) (obL rs f m) (obL rs (m + 1) l) x.D y.D] ++ [offer false (x.W rs) (y.W rs) (obL rs f m) (obL rs (m + 1) l) x.D y.D] = (ps ++ [Pl.node true x y, Pl.node false x y]).map (offP rs) := by
      have c1 := cp_C C (k := true) sx sy h0 (by omega) (by omega) h3
      have c2 := cp_C C (k := false) sx sy h0 (by omega) (by omega) h3
      unfold offer
      rw [c1, c2, List.map_append, List.append_assoc]
      rfl
    rw [eo2] at e1
    rw [rgF_cons (by omega), forL_nx rfl e1]
    obtain ⟨b7, b8, b9, b10', b11', e2⟩ := go (X := X) (h := h.put ko (.lst ((((ps ++ [Pl.node true x y, Pl.node false x y]).map (offP rs)).map offD)))) (kb := kb) (ko := ko) (a2 := a2) (a3 := a3) (a7 := some (.int m)) (a8 := some (.tup [.int (x.W rs), x.D])) (a9 := some (.tup [.int (y.W rs), y.D])) (a10 := b10) (a11 := b11) (a12 := a12) (a13 := a13) (a14 := a14) (a15 := a15) c ((put_ne ne).trans ek) put_same ne
    rw [put_put] at e2
    exact ⟨b7, b8, b9, b10', b11', e2⟩
section
variable {h : CH} {rs : List (List Int)} {X : D} {kb ko : Nat} {kvs : List (List Key × D)} {a0 a1 a2 a3 a4 a5 a6 a7 a8 a9 a10 a11 a12 a13 a14 a15 : Option D} {qs : List (Int × D)}
theorem lc_ref {α : Type} {F G : α → D} {g : α → Bool} {A : List α} {ti : TD} {tg : TGD} {tt : TB} {te : TD} {ρ : DE} {vs : List Nat} (ho : h.ob ko = some (.lst (A.map F))) (et : ti ρ h = .ok (.ref ko) h) (la : A.length ≤ 1000)
    (q : ∀ x ∈ A, ∃ ρ2, tg (F x) (wipeD ρ vs) (h.put ko (.lkl (A.map F))) = .ok ρ2 (h.put ko (.lkl (A.map F))) ∧ tt ρ2 (h.put ko (.lkl (A.map F))) = .ok (g x) (h.put ko (.lkl (A.map F))) ∧ (g x = true → te ρ2 (h.put ko (.lkl (A.map F))) = .ok (G x) (h.put ko (.lkl (A.map F))))) :
    dLc false (dSeqI ti) tg tt te vs ρ h = .ok (.lst ((A.filter g).map G)) h := by
  have ll : A.length ≤ sizeLine := Nat.le_trans la (by decide)
  have lc := lcL_fil (ρ0 := wipeD ρ vs) (F := F) (G := G) (g := g) q
  have e0 : itemsD h (.ref ko) = none := rfl
  have e1 : lockD (.ref ko) h = .ok (A.map F, some (ko, .lst (A.map F))) (h.put ko (.lkl (A.map F))) := by
    unfold lockD
    simp only [ho]
  unfold dLc
  simp only [e_seqI, et, bind_ok, e0, e1, List.length_map, ll, if_true, lc, mkL]
  show R.ok _ ((h.put ko _).put ko _) = _
  rw [put_put, put_id ho]
theorem least_ok (ho : h.ob ko = some (.lst (qs.map offD))) (ne : qs ≠ []) (lq : qs.length ≤ 1000) :
    fst_2 [a0, a1, a2, a3, a4, a5, some (.ref ko), a7, a8, a9, a10, a11, a12, a13, a14, a15] h = .nx [a0, a1, a2, a3, a4, a5, some (.ref ko), a7, a8, a9, a10, a11, some (.int (minL (qs.map (·.1)))), a13, a14, a15] h := by
  have e1 : dLc false (dSeqI (dVar 6)) (gdTup 2 (gdCons (gdName 13) (gdCons (gdName 14) (gdNil)))) (dYes) (dVar 13) [13, 14] [a0, a1, a2, a3, a4, a5, some (.ref ko), a7, a8, a9, a10, a11, a12, a13, a14, a15] h = .ok (.lst ((qs.filter fun _ => true).map fun q => .int q.1)) h :=
    lc_ref (F := offD) ho rfl lq fun x hx => ⟨[a0, a1, a2, a3, a4, a5, some (.ref ko), a7, a8, a9, a10, a11, a12, some (.int x.1), some x.2, a15], rfl, rfl, fun _ => rfl⟩
  rw [filter_all (fun _ _ => rfl)] at e1
  have e2 : fMinL [.lst (qs.map fun q => .int q.1)] h = .ok (.int (minL (qs.map (·.1)))) h := by
    have : (qs.map fun q => D.int q.1) = (qs.map (·.1)).map D.int := by rw [List.map_map]; rfl
    rw [this]
    unfold fMinL
    simp only [lstOf, intsOf_map]
    rw [if_pos (by rw [List.length_map]; exact List.length_pos_iff.mpr ne)]
  unfold fst_2
  simp only [s_asg, e_CB, e_cons, e_nil, e1, bind_ok, e2, toS_ok, g_name, put_ok, List.set_cons_zero, List.set_cons_succ]
end
theorem store_ok {ps : List Pl} {rs : List (List Int)} (ne : ps ≠ []) (lq : ps.length ≤ 1000) : ∃ p ∈ ps, p.W rs = minL ((ps.map (offP rs)).map (·.1)) ∧ ∀ {h : CH} {kb ko : Nat} {kvs : List (List Key × D)} {f l : Int} {a0 a2 a3 a7 a8 a9 a10 a11 a13 a14 a15 : Option D},
    h.ob ko = some (.lst ((ps.map (offP rs)).map offD)) → h.ob kb = some (.dctT kvs) → kvs.length < 1000 →
    fst_3 [a0, some (.ref kb), a2, a3, some (.int f), some (.int l), some (.ref ko), a7, a8, a9, a10, a11, some (.int (minL ((ps.map (offP rs)).map (·.1)))), a13, a14, a15] h =
      .nx [a0, some (.ref kb), a2, a3, some (.int f), some (.int l), some (.ref ko), a7, a8, a9, a10, a11, some (.int (minL ((ps.map (offP rs)).map (·.1)))), a13, a14, a15] (h.put kb (.dctT (dPutT kvs (kk f l) (.tup [.int (p.W rs), p.D])))) := by
  obtain ⟨mm, _⟩ := minL_mem (is := (ps.map (offP rs)).map (·.1)) (by simpa using ne)
  generalize hM : minL ((ps.map (offP rs)).map (·.1)) = M at *
  obtain ⟨q0, mq, e0⟩ := List.mem_map.mp mm
  obtain ⟨p0, mp, rfl⟩ := List.mem_map.mp mq
  have mf : p0 ∈ ps.filter fun q => q.W rs == M := List.mem_filter.mpr ⟨mp, by simpa using e0⟩
  cases eF : ps.filter fun q => q.W rs == M with
  | nil => rw [eF] at mf; cases mf
  | cons q1 r =>
    have m1 : q1 ∈ ps.filter fun q => q.W rs == M := by rw [eF]; exact List.mem_cons_self ..
    have e1' : q1.W rs = M := by simpa using (List.mem_filter.mp m1).2
    refine ⟨q1, (List.mem_filter.mp m1).1, e1', fun {h kb ko kvs f l a0 a2 a3 a7 a8 a9 a10 a11 a13 a14 a15} ho hb lk => ?_⟩
    rw [List.map_map] at ho
    have e1 : dLc false (dSeqI (dVar 6)) (gdName 15) (dB (dOp (fEq false) (dOp fIx (dVar 15) (dC (.int 0))) (dVar 12))) (dVar 15) [15] [a0, some (.ref kb), a2, a3, some (.int f), some (.int l), some (.ref ko), a7, a8, a9, a10, a11, some (.int M), a13, a14, a15] h = .ok (.lst ((ps.filter fun q => q.W rs == M).map (offD ∘ offP rs))) h :=
      lc_ref (F := offD ∘ offP rs) ho rfl lq fun x hx => ⟨[a0, some (.ref kb), a2, a3, some (.int f), some (.int l), some (.ref ko), a7, a8, a9, a10, a11, some (.int M), a13, a14, some (offD (offP rs x))], rfl, by
        simp only [e_B, e_op, e_var, e_C, List.getElem?_cons_zero, List.getElem?_cons_succ, bind_ok, ix2_0, eq0_int, asB_bl], fun _ => rfl⟩
    rw [eF] at e1
    have e2 : fIx (.lst ((q1 :: r).map (offD ∘ offP rs))) (.int 0) h = .ok (.tup [.int (q1.W rs), q1.D]) h := by
      have i0 : atI ((q1 :: r).map (offD ∘ offP rs)) 0 = some (offD (offP rs q1)) := by
        unfold atI ixN
        rw [if_pos (by decide), if_pos (by simp)]
        rfl
      simp only [fIx, seqOf, i0]
    unfold fst_3
    rw [s_asg, e_op, e1, bind_ok, e_C, bind_ok, e2, toS_ok, subT_ok rfl rfl rfl hb lk]
    rfl
def All (rs : List (List Int)) (kvs : List (List Key × D)) (wd f : Int) : Prop := ∀ f' m : Int, 0 ≤ f' → 0 ≤ m → f' + m < rs.length → (m < wd ∨ (m = wd ∧ f' < f)) → Best rs kvs f' (f' + m)
theorem all_put {rs : List (List Int)} {kvs : List (List Key × D)} {wd f : Int} {p : Pl} (A : All rs kvs wd f) (s : Sp p f (f + wd)) (b : ∀ q, Sp q f (f + wd) → p.W rs ≤ q.W rs) : All rs (dPutT kvs (kk f (f + wd)) (.tup [.int (p.W rs), p.D])) wd (f + 1) := by
  intro f' m q0 q1 q2 q3
  by_cases e : f' = f ∧ m = wd
  · obtain ⟨rfl, rfl⟩ := e
    exact ⟨p, s, by rw [getT_put, if_pos rfl], b⟩
  · obtain ⟨p', s', g, w⟩ := A f' m q0 q1 q2 (by omega)
    refine ⟨p', s', ?_, w⟩
    rw [getT_put, if_neg, g]
    intro z
    simp only [kk, List.cons.injEq, Sum.inl.injEq, and_true] at z
    omega
def EnvB (X : D) (kb : Nat) (wd : Option D) (ρ : DE) : Prop := ∃ a2 a4 a5 a6 a7 a8 a9 a10 a11 a12 a13 a14 a15, ρ = [some X, some (.ref kb), a2, wd, a4, a5, a6, a7, a8, a9, a10, a11, a12, a13, a14, a15]
structure At (kb : Nat) (h0 : CH) (kvs : List (List Key × D)) (h : CH) : Prop where
  le : h0.nx ≤ kb
  lt : kb < h.nx
  fr : ∀ j, j < h0.nx → h.ob j = h0.ob j
  ob : h.ob kb = some (.dctT kvs)
theorem fst_ok {rs : List (List Int)} {kvs : List (List Key × D)} (C : Chain rs) {wd f : Int} (w1 : 1 ≤ wd) (f0 : 0 ≤ f) (lt : f + wd < rs.length) (AA : All rs kvs wd f) (lk : (kvs.length : Int) ≤ 8 + 8 * wd + f) :
    ∃ kvs', All rs kvs' wd (f + 1) ∧ (kvs'.length : Int) ≤ 8 + 8 * wd + (f + 1) ∧ ∀ {X : D} {kb : Nat} {h0 h : CH} {ρ : DE}, ChD rs X → EnvB X kb (some (.int wd)) ρ → At kb h0 kvs h →
    ∃ ρ1 h1, fst_k0 (ρ.set 4 (some (.int f))) h = .nx ρ1 h1 ∧ EnvB X kb (some (.int wd)) ρ1 ∧ At kb h0 kvs' h1 := by
  have l8 := C.le
  obtain ⟨ps, lq, sp, o, go⟩ := mids_ok (rs := rs) (kvs := kvs) C (f := f) (l := f + wd) (fun m m1 m2 => by
    have x1 := AA f (m - f) f0 (by omega) (by omega) (.inl (by omega))
    have x2 := AA (m + 1) (f + wd - (m + 1)) (by omega) (by omega) (by omega) (.inl (by omega))
    rw [show f + (m - f) = m by omega] at x1
    rw [show m + 1 + (f + wd - (m + 1)) = f + wd by omega] at x2
    exact ⟨x1, x2⟩) f0 lt (n := wd.toNat) (m := f) (ps := []) (by omega) (Int.le_refl _) (by omega) (by simp) (fun p hp => nomatch hp) (fun k a b m' q1 q2 => by omega)
  have ne : ps ≠ [] := fun z => by
    rw [z] at lq
    simp only [List.length_nil] at lq
    omega
  obtain ⟨p, mp, ep, st⟩ := store_ok (rs := rs) ne (by omega)
  refine ⟨dPutT kvs (kk f (f + wd)) (.tup [.int (p.W rs), p.D]), ?_, ?_, ?_⟩
  · refine all_put AA (sp p mp) fun q s => ?_
    cases q with
    | leaf i =>
      have e1 : i = f := s.1
      have e2 : i = f + wd := s.2
      omega
    | node k a b =>
      obtain ⟨m, sa, sb⟩ := s
      have la := sa.le
      have lb := sb.le
      obtain ⟨q, mq, w⟩ := o k a b m la (by omega) sa sb
      have := (minL_mem (is := (ps.map (offP rs)).map (·.1)) (by simpa using ne)).2 (q.W rs) (List.mem_map.mpr ⟨offP rs q, List.mem_map.mpr ⟨q, mq, rfl⟩, rfl⟩)
      omega
  · have := lenT_put (kvs := kvs) (k := kk f (f + wd)) (d := .tup [.int (p.W rs), p.D])
    omega
  intro X kb h0 h ρ c E A
  obtain ⟨a2, a4, a5, a6, a7, a8, a9, a10, a11, a12, a13, a14, a15, rfl⟩ := E
  obtain ⟨le, ltb, fr, ek⟩ := A
  simp only [List.set_cons_zero, List.set_cons_succ]
  have nkb : kb ≠ h.nx := by omega
  have s0 : fst_0 [some X, some (.ref kb), a2, some (.int wd), some (.int f), a5, a6, a7, a8, a9, a10, a11, a12, a13, a14, a15] h = .nx [some X, some (.ref kb), a2, some (.int wd), some (.int f), some (.int (f + wd)), some (.ref h.nx), a7, a8, a9, a10, a11, a12, a13, a14, a15] (h.new (.lst [])) := by
    unfold fst_0
    simp only [s_par, e_cons, e_nil, e_op, e_var, e_lst, List.getElem?_cons_zero, List.getElem?_cons_succ, bind_ok, addI, List.length_nil, Nat.zero_le, if_true, mkL, toS_ok, List.set_cons_zero, List.set_cons_succ]
  have nb : (h.new (.lst [])).ob kb = some (.dctT kvs) := by
    show (if kb = h.nx then _ else _) = _
    rw [if_neg nkb]
    exact ek
  have no : (h.new (.lst [])).ob h.nx = some (.lst ((([] : List Pl).map (offP rs)).map offD)) := by
    show (if h.nx = h.nx then _ else _) = _
    rw [if_pos rfl]
    rfl
  obtain ⟨b7, b8, b9, b10, b11, s1⟩ := go (X := X) (h := h.new (.lst [])) (kb := kb) (ko := h.nx) (a2 := a2) (a3 := some (.int wd)) (a7 := a7) (a8 := a8) (a9 := a9) (a10 := a10) (a11 := a11) (a12 := a12) (a13 := a13) (a14 := a14) (a15 := a15) c nb no nkb
  generalize hg : (h.new (.lst [])).put h.nx (.lst ((ps.map (offP rs)).map offD)) = g at *
  have go : g.ob h.nx = some (.lst ((ps.map (offP rs)).map offD)) := by rw [← hg]; exact put_same
  have gb : g.ob kb = some (.dctT kvs) := by rw [← hg, put_ne nkb]; exact nb
  have gx : g.nx = h.nx + 1 := by rw [← hg]; rfl
  have gf : ∀ j, j < h0.nx → g.ob j = h0.ob j := fun j hj => by
    rw [← hg, put_ne (by omega)]
    show (if j = h.nx then _ else _) = _
    rw [if_neg (by omega)]
    exact fr j hj
  have s2 := least_ok (h := g) (ko := h.nx) (qs := ps.map (offP rs)) (a0 := some X) (a1 := some (.ref kb)) (a2 := a2) (a3 := some (.int wd)) (a4 := some (.int f)) (a5 := some (.int (f + wd))) (a7 := b7) (a8 := b8) (a9 := b9) (a10 := b10) (a11 := b11) (a12 := a12) (a13 := a13) (a14 := a14) (a15 := a15) go (by simpa using ne) (by rw [List.length_map]; omega)
  have s3 := st (h := g) (ko := h.nx) (kb := kb) (kvs := kvs) (f := f) (l := f + wd) (a0 := some X) (a2 := a2) (a3 := some (.int wd)) (a7 := b7) (a8 := b8) (a9 := b9) (a10 := b10) (a11 := b11) (a13 := a13) (a14 := a14) (a15 := a15) go gb (by omega)
  have rg2 : ∀ ρ : DE, ρ[4]? = some (some (.int f)) → ρ[5]? = some (some (.int (f + wd))) → dRng2 (dCons (dVar 4) (dCons (dVar 5) (dNil))) ρ (h.new (.lst [])) = .ok (rgF f (f + wd), none) (h.new (.lst [])) := fun ρ e1 e2 => by
    unfold dRng2
    simp only [e_cons, e_nil, e_var, e1, e2, bind_ok]
    rw [if_pos ⟨by omega, by omega, by omega, by omega⟩]
    rfl
  refine ⟨_, g.put kb (.dctT (dPutT kvs (kk f (f + wd)) (.tup [.int (p.W rs), p.D]))), ?_, ⟨a2, some (.int f), some (.int (f + wd)), some (.ref h.nx), b7, b8, b9, b10, b11, some (.int (minL ((ps.map (offP rs)).map (·.1)))), a13, a14, a15, rfl⟩, ?_⟩
  · rw [show fst_k0 = dSeq fst_0 fst_k1 from rfl, s_seq, s0, sbind_nx, show fst_k1 = dSeq fst_1 fst_k2 from rfl, s_seq]
    have e1 : fst_1 [some X, some (.ref kb), a2, some (.int wd), some (.int f), some (.int (f + wd)), some (.ref h.nx), a7, a8, a9, a10, a11, a12, a13, a14, a15] (h.new (.lst [])) = .nx [some X, some (.ref kb), a2, some (.int wd), some (.int f), some (.int (f + wd)), some (.ref h.nx), b7, b8, b9, b10, b11, a12, a13, a14, a15] g := by
      show dFor (dRng2 (dCons (dVar 4) (dCons (dVar 5) (dNil)))) (gdName 7) mid_k0 _ _ = _
      rw [s_for, rg2 _ rfl rfl, toS_ok, unl_none]
      exact s1
    rw [e1, sbind_nx]
    rw [show fst_k2 = dSeq fst_2 fst_3 from rfl, s_seq, s2, sbind_nx, s3]
  · exact ⟨le, by show kb < g.nx; omega, fun j hj => by rw [put_ne (by omega)]; exact gf j hj, put_same⟩
theorem firsts_ok {rs : List (List Int)} (C : Chain rs) {wd : Int} (w1 : 1 ≤ wd) : ∀ {n : Nat} {f : Int} {kvs : List (List Key × D)}, (rs.length - wd - f).toNat = n → 0 ≤ f → f ≤ rs.length - wd → All rs kvs wd f → (kvs.length : Int) ≤ 8 + 8 * wd + f →
    ∃ kvs', All rs kvs' wd (rs.length - wd) ∧ (kvs'.length : Int) ≤ 8 + 8 * wd + (rs.length - wd) ∧ ∀ {X : D} {kb : Nat} {h0 h : CH} {ρ : DE}, ChD rs X → EnvB X kb (some (.int wd)) ρ → At kb h0 kvs h →
    ∃ ρ1 h1, dForL (gdName 4) fst_k0 (rgF f (rs.length - wd)) ρ h = .nx ρ1 h1 ∧ EnvB X kb (some (.int wd)) ρ1 ∧ At kb h0 kvs' h1
  | 0, f, kvs, en, f0, fl, AA, lk => by
    have e : f = rs.length - wd := by omega
    subst e
    rw [rgF_nil (Int.le_refl _)]
    exact ⟨kvs, AA, lk, fun {X kb h0 h ρ} c E A => ⟨ρ, h, rfl, E, A⟩⟩
  | n + 1, f, kvs, en, f0, fl, AA, lk => by
    obtain ⟨kvs1, A1, k1, go1⟩ := fst_ok C w1 f0 (by omega) AA lk
    obtain ⟨kvs2, A2, k2, go2⟩ := firsts_ok (n := n) C w1 (f := f + 1) (by omega) (by omega) (by omega) A1 k1
    refine ⟨kvs2, A2, k2, fun {X kb h0 h ρ} c E A => ?_⟩
    obtain ⟨ρ1, h1, e1, E1, B1⟩ := go1 c E A
    rw [rgF_cons (by omega), forL_nx rfl e1]
    exact go2 c E1 B1
def widB : SD := dFor (dRng1 (dCons (dOp fSubI (dCB fLen (dCons (dVar 0) (dNil))) (dVar 3)) (dNil))) (gdName 4) fst_k0
theorem widths_ok {rs : List (List Int)} (C : Chain rs) : ∀ {n : Nat} {wd : Int} {kvs : List (List Key × D)}, (rs.length - wd).toNat = n → 1 ≤ wd → wd ≤ rs.length → All rs kvs wd 0 → (kvs.length : Int) ≤ 8 + 8 * wd →
    ∃ kvs', All rs kvs' rs.length 0 ∧ ∀ {X : D} {kb : Nat} {h0 h : CH} {ρ : DE} {w0 : Option D}, ChD rs X → EnvB X kb w0 ρ → At kb h0 kvs h →
    ∃ ρ1 h1 w1, dForL (gdName 3) widB (rgF wd rs.length) ρ h = .nx ρ1 h1 ∧ EnvB X kb w1 ρ1 ∧ At kb h0 kvs' h1
  | 0, wd, kvs, en, l1, l2, AA, lk => by
    have e : wd = rs.length := by omega
    subst e
    rw [rgF_nil (Int.le_refl _)]
    exact ⟨kvs, AA, fun {X kb h0 h ρ w0} c E A => ⟨ρ, h, w0, rfl, E, A⟩⟩
  | n + 1, wd, kvs, en, l1, l2, AA, lk => by
    have l8 := C.le
    obtain ⟨kvs1, A1, k1, go1⟩ := firsts_ok C l1 (n := (rs.length - wd).toNat) (f := 0) (by omega) (Int.le_refl _) (by omega) AA (by omega)
    have A1' : All rs kvs1 (wd + 1) 0 := fun f' m q0 q1 q2 q3 => A1 f' m q0 q1 q2 (by omega)
    obtain ⟨kvs2, A2, go2⟩ := widths_ok (n := n) C (wd := wd + 1) (by omega) (by omega) (by omega) A1' (by omega)
    refine ⟨kvs2, A2, fun {X kb h0 h ρ w0} c E A => ?_⟩
    obtain ⟨a2, a4, a5, a6, a7, a8, a9, a10, a11, a12, a13, a14, a15, rfl⟩ := E
    obtain ⟨ρ1, h1, e1, E1, B1⟩ := go1 (X := X) (kb := kb) (h0 := h0) (h := h) (ρ := [some X, some (.ref kb), a2, some (.int wd), a4, a5, a6, a7, a8, a9, a10, a11, a12, a13, a14, a15]) c ⟨_, _, _, _, _, _, _, _, _, _, _, _, _, rfl⟩ A
    have ew : widB [some X, some (.ref kb), a2, some (.int wd), a4, a5, a6, a7, a8, a9, a10, a11, a12, a13, a14, a15] h = .nx ρ1 h1 := by
      unfold widB dRng1
      simp only [s_for, e_cons, e_nil, e_op, e_CB, e_var, List.getElem?_cons_zero, List.getElem?_cons_succ, bind_ok, c.len, subI]
      rw [if_pos ⟨by omega, by omega⟩, toS_ok, unl_none]
      have : rgD 0 ((rs.length : Int) - wd).toNat = rgF 0 (rs.length - wd) := by
        unfold rgF
        rw [Int.sub_zero]
      show dForL (gdName 4) fst_k0 (rgD 0 ((rs.length : Int) - wd).toNat) _ h = _
      rw [this]
      exact e1
    rw [rgF_cons (by omega), forL_nx rfl ew]
    exact go2 c E1 B1
section
variable {rs : List (List Int)} {X : D} {kb : Nat} {h0 : CH}
def ones (acc : List (List Key × D)) (cs : List Int) : List (List Key × D) := cs.foldl (fun acc c => dPutT acc (kk c c) (.tup [.int 0, .int c])) acc
theorem ones_len : ∀ {cs : List Int} {acc : List (List Key × D)}, (ones acc cs).length ≤ acc.length + cs.length
  | [], acc => by simp [ones]
  | c :: cs, acc => by
    have := ones_len (cs := cs) (acc := dPutT acc (kk c c) (.tup [.int 0, .int c]))
    have l2 := lenT_put (kvs := acc) (k := kk c c) (d := .tup [.int 0, .int c])
    show (ones (dPutT acc (kk c c) (.tup [.int 0, .int c])) cs).length ≤ _
    simp only [List.length_cons]
    omega
theorem ones_get {x : Int} : ∀ {cs : List Int} {acc : List (List Key × D)}, (x ∈ cs ∨ dGetT acc (kk x x) = some (.tup [.int 0, .int x])) → dGetT (ones acc cs) (kk x x) = some (.tup [.int 0, .int x])
  | [], acc, h => h.elim (fun z => nomatch z) id
  | c :: cs, acc, h => by
    show dGetT (ones (dPutT acc (kk c c) (.tup [.int 0, .int c])) cs) _ = _
    refine ones_get ?_
    by_cases e : c = x
    · subst e
      exact .inr (by rw [getT_put, if_pos rfl])
    · rcases h with h | h
      · rcases List.mem_cons.mp h with rfl | h
        · exact absurd rfl e
        · exact .inl h
      · refine .inr ?_
        rw [getT_put, if_neg, h]
        intro z
        simp only [kk, List.cons.injEq, Sum.inl.injEq, and_true, and_self] at z
        exact e z
theorem ones_loop {h : CH} {a0 a1 a2 a3 a4 a5 a6 a7 a8 a9 a10 a11 a12 a13 a14 a15 : Option D} : ∀ {cs : List Int} {acc : List (List Key × D)}, acc.length + cs.length < 1000 →
    dGL (gdName 2) dYes (bT (dCons (dVar 2) (dCons (dVar 2) (dNil))) (dTup (dCons (dC (.int 0)) (dCons (dVar 2) (dNil))))) [a0, a1, a2, a3, a4, a5, a6, a7, a8, a9, a10, a11, a12, a13, a14, a15] acc (cs.map D.int) h = .ok (ones acc cs) h
  | [], acc, _ => rfl
  | c :: cs, acc, l => by
    simp only [List.length_cons] at l
    have l1 : [D.int c, D.int c].length ≤ sizeLine ∧ acc.length < sizeLine := ⟨by show 2 ≤ sizeLine; decide, Nat.lt_of_lt_of_le (show acc.length < 1000 by omega) (by decide)⟩
    have l2 := lenT_put (kvs := acc) (k := kk c c) (d := .tup [.int 0, .int c])
    have ih := ones_loop (h := h) (a0 := a0) (a1 := a1) (a2 := a2) (a3 := a3) (a4 := a4) (a5 := a5) (a6 := a6) (a7 := a7) (a8 := a8) (a9 := a9) (a10 := a10) (a11 := a11) (a12 := a12) (a13 := a13) (a14 := a14) (a15 := a15) (cs := cs) (acc := dPutT acc (kk c c) (.tup [.int 0, .int c])) (by omega)
    rw [List.map_cons]
    show (R.ok [a0, a1, some (.int c), a3, a4, a5, a6, a7, a8, a9, a10, a11, a12, a13, a14, a15] h).calm _ = _
    rw [calm_ok]
    show ((bT (dCons (dVar 2) (dCons (dVar 2) (dNil))) (dTup (dCons (dC (.int 0)) (dCons (dVar 2) (dNil)))) acc [a0, a1, some (.int c), a3, a4, a5, a6, a7, a8, a9, a10, a11, a12, a13, a14, a15] h).calm _ : R (List (List Key × D))) = _
    have e : bT (dCons (dVar 2) (dCons (dVar 2) (dNil))) (dTup (dCons (dC (.int 0)) (dCons (dVar 2) (dNil)))) acc [a0, a1, some (.int c), a3, a4, a5, a6, a7, a8, a9, a10, a11, a12, a13, a14, a15] h = .ok (dPutT acc (kk c c) (.tup [.int 0, .int c])) h := by
      unfold bT
      simp only [e_cons, e_nil, e_var, e_C, e_tup, List.getElem?_cons_zero, List.getElem?_cons_succ, bind_ok, List.length_cons, List.length_nil, Nat.zero_add, Nat.reduceAdd, le2, if_true, calm_ok, keysL2]
      rw [if_pos ⟨trivial, l1.2⟩]
    rw [e, calm_ok]
    exact ih
theorem rng2I {a b : Int} {t1 t2 : TD} {ρ : DE} {h : CH} (a0 : 0 ≤ a) (a1 : a ≤ 100) (b0 : 0 ≤ b) (b1 : b ≤ 100) (e1 : t1 ρ h = .ok (.int a) h) (e2 : t2 ρ h = .ok (.int b) h) : dRng2 (dCons t1 (dCons t2 dNil)) ρ h = .ok (rgF a b, none) h := by
  unfold dRng2
  simp only [e_cons, e_nil, e1, e2, bind_ok]
  rw [if_pos ⟨by omega, by omega, by omega, by omega⟩]
  rfl
structure Kp (h h1 : CH) : Prop where
  nx : h.nx ≤ h1.nx
  ob : ∀ j, j < h.nx → h1.ob j = h.ob j
theorem Kp.refl {h : CH} : Kp h h := ⟨Nat.le_refl _, fun _ _ => rfl⟩
theorem Kp.trans {h h1 h2 : CH} (a : Kp h h1) (b : Kp h1 h2) : Kp h h2 := ⟨Nat.le_trans a.nx b.nx, fun j l => (b.ob j (Nat.lt_of_lt_of_le l a.nx)).trans (a.ob j l)⟩
theorem draw_kp {r w n : Nat} {h h1 : CH} (A : DrawOk r w n h) (k : Kp h h1) : DrawOk r w n h1 := A.keep k.nx fun j hj => k.ob j (by have := A.lt; rcases hj with rfl | rfl <;> omega)
theorem cheapest_is (C : Chain rs) : ∃ p, Sp p 0 (rs.length - 1) ∧ (∀ q, Sp q 0 (rs.length - 1) → p.W rs ≤ q.W rs) ∧ ∀ {X : D} {h : CH}, ChD rs X → ∃ h1, F_cheapest [X] h = .ok (.tup [.int (p.W rs), p.D]) h1 ∧ Kp h h1 := by
  have l8 := C.le
  have l1 := C.ne
  have ml : (rg rs.length).length = rs.length := rg_len
  have AA : All rs (ones [] (rg rs.length)) 1 0 := by
    intro f m q0 q1 q2 q3
    have e : m = 0 := by omega
    subst e
    rw [Int.add_zero]
    refine ⟨.leaf f, ⟨rfl, rfl⟩, ones_get (.inl ?_), fun p s => (W_bd C s q0 (by omega)).1⟩
    unfold rg
    exact List.mem_map.mpr ⟨f.toNat, List.mem_range.mpr (by omega), by omega⟩
  obtain ⟨kvs, A2, go⟩ := widths_ok (rs := rs) C (n := (rs.length - 1 : Int).toNat) (wd := 1) rfl (Int.le_refl _) (by omega) AA (by
    have := ones_len (cs := rg rs.length) (acc := [])
    simp only [List.length_nil] at this
    omega)
  obtain ⟨p, sp, g, b⟩ := A2 0 (rs.length - 1) (Int.le_refl _) (by omega) (by omega) (.inl (by omega))
  rw [Int.zero_add] at g b sp
  refine ⟨p, sp, b, fun {X h} c => ?_⟩
  have e0 : chp_1 [some X, none, none, none, none, none, none, none, none, none, none, none, none, none, none, none] h = .nx [some X, some (.ref h.nx), none, none, none, none, none, none, none, none, none, none, none, none, none, none] (h.new (.dctT (ones [] (rg rs.length)))) := by
    have rgE : (dRng1 (dCons (dCB fLen (dCons (dVar 0) (dNil))) (dNil))) [some X, none, none, none, none, none, none, none, none, none, none, none, none, none, none, none] h = .ok ((rg rs.length).map D.int, none) h := by
      have q := rngI (h := h) (m := (rs.length : Int)) (ρ := [some X, none, none, none, none, none, none, none, none, none, none, none, none, none, none, none]) (ta := dCB fLen (dCons (dVar 0) (dNil))) (by omega) (by omega) (by simp only [e_CB, e_cons, e_nil, e_var, List.getElem?_cons_zero, bind_ok, c.len])
      exact q
    have lp := ones_loop (h := h) (a0 := some X) (a1 := none) (a2 := none) (a3 := none) (a4 := none) (a5 := none) (a6 := none) (a7 := none) (a8 := none) (a9 := none) (a10 := none) (a11 := none) (a12 := none) (a13 := none) (a14 := none) (a15 := none) (cs := rg rs.length) (acc := []) (by show 0 + _ < 1000; omega)
    unfold chp_1 dDcT
    simp only [s_asg, rgE, bind_ok, wipeD, List.foldl_cons, List.foldl_nil, List.set_cons_zero, List.set_cons_succ, lp, mkT, runl_none, toS_ok, g_name, put_ok]
  have A0 : At h.nx h (ones [] (rg rs.length)) (h.new (.dctT (ones [] (rg rs.length)))) := by
    refine ⟨Nat.le_refl _, Nat.lt_succ_self _, fun j hj => ?_, ?_⟩
    · show (if j = h.nx then _ else _) = _
      rw [if_neg (by omega)]
    · show (if h.nx = h.nx then _ else _) = _
      rw [if_pos rfl]
  obtain ⟨ρ1, h1, w1, e1, E1, A1⟩ := go (X := X) (kb := h.nx) (h0 := h) (h := h.new (.dctT (ones [] (rg rs.length)))) (ρ := [some X, some (.ref h.nx), none, none, none, none, none, none, none, none, none, none, none, none, none, none]) (w0 := none) c ⟨_, _, _, _, _, _, _, _, _, _, _, _, _, rfl⟩ A0
  obtain ⟨a2, a4, a5, a6, a7, a8, a9, a10, a11, a12, a13, a14, a15, rfl⟩ := E1
  obtain ⟨p1, p2, p3, p4⟩ := A1
  refine ⟨h1, ?_, ⟨by omega, p3⟩⟩
  have e2 : chp_2 [some X, some (.ref h.nx), none, none, none, none, none, none, none, none, none, none, none, none, none, none] (h.new (.dctT (ones [] (rg rs.length)))) = .nx [some X, some (.ref h.nx), a2, w1, a4, a5, a6, a7, a8, a9, a10, a11, a12, a13, a14, a15] h1 := by
    show dFor (dRng2 (dCons (dC (.int 1)) (dCons (dCB fLen (dCons (dVar 0) (dNil))) (dNil)))) (gdName 3) widB _ _ = _
    rw [s_for, rng2I (a := 1) (b := rs.length) (by omega) (by omega) (by omega) (by omega) rfl (by simp only [e_CB, e_cons, e_nil, e_var, List.getElem?_cons_zero, bind_ok, c.len]), toS_ok, unl_none]
    exact e1
  unfold F_cheapest bodyF
  show (u_cheapest [some X, none, none, none, none, none, none, none, none, none, none, none, none, none, none, none] h).res = _
  rw [show u_cheapest = dSeq chp_0 chp_k1 from rfl, s_seq]
  unfold chp_0
  simp only [s_drop, e_call, e_cons, e_nil, e_var, List.getElem?_cons_zero, bind_ok, List.length_cons, List.length_nil, Nat.zero_add, if_true, need_chain_ok C c, toS_ok, sbind_nx]
  rw [show chp_k1 = dSeq chp_1 chp_k2 from rfl, s_seq, e0, sbind_nx, show chp_k2 = dSeq chp_2 chp_3 from rfl, s_seq, e2, sbind_nx]
  unfold chp_3
  rw [s_ret, ixT_ok (kb := h.nx) (kvs := kvs) (i := 0) (j := rs.length - 1) rfl rfl (by simp only [e_op, e_C, e_CB, e_cons, e_nil, e_var, List.getElem?_cons_zero, bind_ok, c.len, subI]) p4 g, toS_ok]
  rfl
end
section
variable {r w n : Nat} {h : CH}
theorem plan_sat : ∀ {k n : Nat} {f l : Int} {h : CH}, DrawOk r w (n + 2 * (l - f).toNat) h → 0 ≤ f → f ≤ l → l < 100 → l - f < k →
    (F__law_plan_ k [.ref r, .int f, .int l] h).sat fun d h1 => ∃ p, d = Pl.D p ∧ Sp p f l ∧ DrawOk r w n h1 ∧ DrFr r w h h1
  | 0, n, f, l, h, A, h0, hl, h9, hk => by omega
  | k + 1, n, f, l, h, A, h0, hl, h9, hk => by
    show (bodyF 5 (u__law_plan (F__law_plan_ k)) [.ref r, .int f, .int l] h).sat _
    unfold bodyF
    rw [sat_res]
    show (u__law_plan (F__law_plan_ k) [some (.ref r), some (.int f), some (.int l), none, none] h).sat _ _
    unfold u__law_plan
    rw [s_seq, sat_bindS]
    by_cases c : f = l
    · subst c
      simp [eq0_int]
      exact ⟨.leaf f, rfl, ⟨rfl, rfl⟩, A.mono (by omega), .refl⟩
    · have cb : (f == l) = false := by simp [c]
      simp [eq0_int, cb]
      rw [Kont, s_seq, sat_bindS]
      simp [subI]
      have A1 : DrawOk r w (n + 2 * (l - f - 1).toNat + 1 + 1) h := A.mono (by omega)
      refine (take_sat A1 (show 0 < l - f by omega) (by omega)).mono ?_
      rintro _ h1 ⟨v, rfl, v0, v1, A2, f2⟩
      simp [addI]
      rw [Kont, s_seq, sat_bindS]
      simp [mkL]
      have l2 : 2 ≤ sizeLine := by decide
      simp [l2]
      refine (pick_sat A2 (.inl rfl) (by simp) (by simp)).mono ?_
      rintro d h2 ⟨md, A3, f3⟩
      have ek : ∃ kd, d = .str (kS kd) := by
        simp only [List.mem_cons, List.not_mem_nil, or_false] at md
        rcases md with rfl | rfl
        · exact ⟨false, rfl⟩
        · exact ⟨true, rfl⟩
      obtain ⟨kd, rfl⟩ := ek
      have A4 : DrawOk r w ((n + 2 * (l - (f + v + 1)).toNat) + 2 * (f + v - f).toNat) h2 := A3.mono (by omega)
      rw [Kont]
      simp
      refine (plan_sat A4 h0 (by omega) (by omega) (by omega)).mono ?_
      rintro _ h3 ⟨pa, rfl, sa, A5, f5⟩
      simp [addI]
      refine (plan_sat A5 (by omega) (by omega) h9 (by omega)).mono ?_
      rintro _ h4 ⟨pb, rfl, sb, A6, f6⟩
      have l3 : 3 ≤ sizeLine := by decide
      simp [l3]
      exact ⟨.node kd pa pb, rfl, ⟨_, sa, sb⟩, A6, ((f2.trans f3).trans f5).trans f6⟩
end
abbrev AL (α : Type) := List (Int × α)
section
variable {α β : Type}
def aGet (l : AL α) (k : Int) : Option α := (l.find? fun p => decide (p.1 = k)).map (·.2)
def aPut (l : AL α) (k : Int) (v : α) : AL α := if (l.any fun p => decide (p.1 = k)) = true then l.map (fun p => if p.1 = k then (p.1, v) else p) else l ++ [(k, v)]
abbrev aKeys (l : AL α) : List Int := l.map (·.1)
def toD (f : Int → α → CM.D) (l : AL α) : List (Key × CM.D) := l.map fun p => (Sum.inl p.1, f p.1 p.2)
variable {l : AL α} {k j : Int} {v : α} {f : Int → α → CM.D}
theorem inl_dec (a b : Int) : decide ((Sum.inl a : Key) = Sum.inl b) = decide (a = b) := by
  by_cases h : a = b
  · subst h; simp
  · have : (Sum.inl a : Key) ≠ Sum.inl b := fun z => h (Sum.inl.inj z)
    simp [h]
@[simp] theorem aGet_nil : aGet ([] : AL α) k = none := rfl
theorem aGet_cons {p : Int × α} : aGet (p :: l) k = if p.1 = k then some p.2 else aGet l k := by
  unfold aGet
  rw [List.find?_cons]
  by_cases h : p.1 = k <;> simp [h]
theorem dGet_toD : dGet (toD f l) (.inl k) = (aGet l k).map (f k) := by
  induction l with
  | nil => rfl
  | cons p l ih =>
    rw [aGet_cons]
    unfold dGet toD at ih ⊢
    rw [List.map_cons, List.find?_cons]
    simp only [inl_dec]
    by_cases h : p.1 = k
    · simp [h]
    · simp only [h, decide_false, if_false]
      exact ih
theorem any_toD : ((toD f l).any fun p => decide (p.1 = (Sum.inl k : Key))) = l.any fun p => decide (p.1 = k) := by
  induction l with
  | nil => rfl
  | cons p l ih =>
    unfold toD at ih ⊢
    rw [List.map_cons, List.any_cons, List.any_cons, ih, inl_dec]
theorem dPut_toD : dPut (toD f l) (.inl k) (f k v) = toD f (aPut l k v) := by
  unfold dPut aPut
  rw [any_toD]
  by_cases c : (l.any fun p => decide (p.1 = k)) = true
  · rw [if_pos c, if_pos c]
    unfold toD
    rw [List.map_map, List.map_map]
    refine List.map_congr_left fun p _ => ?_
    by_cases h : p.1 = k
    · subst h; simp
    · have h' : (Sum.inl p.1 : Key) ≠ Sum.inl k := fun z => h (Sum.inl.inj z)
      simp [h, h']
  · rw [if_neg c, if_neg c]
    unfold toD
    rw [List.map_append]
    rfl
theorem aAny_iff : (l.any fun p => decide (p.1 = k)) = true ↔ k ∈ aKeys l := by
  rw [List.any_eq_true]
  constructor
  · rintro ⟨p, hp, e⟩
    exact List.mem_map.mpr ⟨p, hp, by simpa using e⟩
  · intro h
    obtain ⟨p, hp, e⟩ := List.mem_map.mp h
    exact ⟨p, hp, by simpa using e⟩
theorem aGet_some_iff : (aGet l k).isSome = true ↔ k ∈ aKeys l := by
  rw [← aAny_iff]
  unfold aGet
  rw [Option.isSome_map, List.find?_isSome, List.any_eq_true]
theorem aGet_none_iff : aGet l k = none ↔ k ∉ aKeys l := by
  rw [← aGet_some_iff]
  cases aGet l k <;> simp
theorem aGet_of_mem (nd : (aKeys l).Nodup) (m : (k, v) ∈ l) : aGet l k = some v := by
  induction l with
  | nil => cases m
  | cons p l ih =>
    rw [aGet_cons]
    have nd' := List.nodup_cons.mp nd
    rcases List.mem_cons.mp m with e | m
    · rw [← e]; simp
    · have : p.1 ≠ k := fun z => nd'.1 (List.mem_map.mpr ⟨_, m, z.symm⟩)
      rw [if_neg this]
      exact ih nd'.2 m
theorem aPut_keys_in (h : k ∈ aKeys l) : aKeys (aPut l k v) = aKeys l := by
  unfold aPut
  rw [if_pos (aAny_iff.mpr h)]
  unfold aKeys
  rw [List.map_map]
  refine List.map_congr_left fun p _ => ?_
  by_cases e : p.1 = k <;> simp [e]
theorem aPut_new (h : k ∉ aKeys l) : aPut l k v = l ++ [(k, v)] := by
  unfold aPut
  rw [if_neg fun z => h (aAny_iff.mp z)]
theorem aPut_keys_new (h : k ∉ aKeys l) : aKeys (aPut l k v) = aKeys l ++ [k] := by
  rw [aPut_new h]; unfold aKeys; simp
theorem aGet_app {l' : AL α} : aGet (l ++ l') k = (aGet l k).or (aGet l' k) := by
  unfold aGet
  rw [List.find?_append]
  cases l.find? fun p => decide (p.1 = k) <;> simp
theorem aGet_mapPut : ∀ {l : AL α}, k ∈ aKeys l → aGet (l.map fun p => if p.1 = k then (p.1, v) else p) j = if k = j then some v else aGet l j
  | [], h => by cases h
  | p :: l, h => by
    rw [List.map_cons, aGet_cons, aGet_cons]
    by_cases c : p.1 = k
    · by_cases d : k = j
      · simp [c, d]
      · have : p.1 ≠ j := fun z => d (c.symm.trans z)
        simp only [if_pos c, if_neg this, if_neg d]
        by_cases h2 : k ∈ aKeys l
        · have := aGet_mapPut (l := l) h2; rw [if_neg d] at this; exact this
        · have e : l.map (fun p => if p.1 = k then (p.1, v) else p) = l := by
            conv => rhs; rw [← List.map_id l]
            refine List.map_congr_left fun q hq => ?_
            have : q.1 ≠ k := fun z => h2 (List.mem_map.mpr ⟨q, hq, z⟩)
            simp [this]
          rw [e]
    · simp only [if_neg c]
      have h2 : k ∈ aKeys l := by
        rcases List.mem_cons.mp h with e | e
        · exact absurd e.symm c
        · exact e
      have := aGet_mapPut (l := l) h2
      by_cases d : k = j
      · have c' : p.1 ≠ j := fun z => c (z.trans d.symm)
        simp only [if_neg c', if_pos d] at this ⊢
        exact this
      · simp only [if_neg d] at this ⊢
        rw [this]
theorem aGet_aPut : aGet (aPut l k v) j = if k = j then some v else aGet l j := by
  by_cases h : k ∈ aKeys l
  · unfold aPut
    rw [if_pos (aAny_iff.mpr h)]
    exact aGet_mapPut h
  · rw [aPut_new h, aGet_app]
    by_cases d : k = j
    · subst d
      rw [aGet_none_iff.mpr h]
      simp [aGet_cons]
    · simp [aGet_cons, d]
theorem toD_len : (toD f l).length = l.length := by simp [toD]
theorem keysD_toD : keysD (toD f l) = (aKeys l).map CM.D.int := by simp [keysD, toD, aKeys, kD]
end
def Pl.top : Pl → Int
  | .leaf i => i + 1
  | .node k a b => if k = true then a.top else b.top
def Pl.jobs : Pl → List (Bool × Int × Int)
  | .leaf _ => []
  | .node k a b => a.jobs ++ b.jobs ++ [(k, b.top, a.top)]
def leafA (rs : List (List Int)) (i : Int) : AL Int := (rowAt rs i).map fun c => (c, i + 1)
def puts (a b : AL Int) : AL Int := b.foldl (fun a p => aPut a p.1 p.2) a
def givn (A B : AL Int) : List Int := (aKeys A).filter fun c => !(aKeys B).contains c
def mrg (k : Bool) (A B : AL Int) : AL Int := if k = true then puts A B else puts B ((givn A B).map fun c => (c, (aGet A c).getD 0))
def mct (k : Bool) (A B : AL Int) : Int := if k = true then (B.length : Int) else ((givn A B).length : Int)
def Pl.dc (rs : List (List Int)) : Pl → AL Int
  | .leaf i => leafA rs i
  | .node k a b => mrg k (a.dc rs) (b.dc rs)
def Pl.ct (rs : List (List Int)) : Pl → Int
  | .leaf _ => 0
  | .node k a b => a.ct rs + b.ct rs + mct k (a.dc rs) (b.dc rs)
section
variable {A B : AL Int} {x v : Int} {k : Bool} {rs : List (List Int)}
theorem aPut_nd {c w : Int} (n : (aKeys A).Nodup) : (aKeys (aPut A c w)).Nodup := by
  by_cases h : c ∈ aKeys A
  · rw [aPut_keys_in h]; exact n
  · rw [aPut_keys_new h]
    exact List.nodup_append.mpr ⟨n, by simp, fun a ha b hb => by
      simp only [List.mem_singleton] at hb
      subst hb
      exact fun z => h (z ▸ ha)⟩
theorem puts_nd : ∀ {B A : AL Int}, (aKeys A).Nodup → (aKeys (puts A B)).Nodup
  | [], _, n => n
  | p :: B, _, n => puts_nd (B := B) (aPut_nd n)
theorem puts_get : ∀ {B A : AL Int}, (aKeys B).Nodup → aGet (puts A B) x = (aGet B x).or (aGet A x)
  | [], _, _ => rfl
  | p :: B, A, n => by
    have n' : p.1 ∉ aKeys B ∧ (aKeys B).Nodup := by simpa [aKeys] using n
    show aGet (puts (aPut A p.1 p.2) B) x = _
    rw [puts_get n'.2, aGet_aPut, aGet_cons]
    by_cases e : p.1 = x
    · subst e
      rw [if_pos rfl, if_pos rfl, aGet_none_iff.mpr n'.1]
      rfl
    · rw [if_neg e, if_neg e]
theorem get_map {g : Int → Int} : ∀ {l : List Int}, aGet (l.map fun c => (c, g c)) x = if x ∈ l then some (g x) else none
  | [] => rfl
  | c :: l => by
    rw [List.map_cons, aGet_cons, get_map]
    by_cases e : c = x
    · subst e; simp
    · have e' : ¬ x = c := fun z => e z.symm
      simp [e, e']
theorem keys_map {g : Int → Int} {l : List Int} : aKeys (l.map fun c => (c, g c)) = l := by
  simp [aKeys, Function.comp_def]
theorem givn_mem {c : Int} : c ∈ givn A B ↔ c ∈ aKeys A ∧ c ∉ aKeys B := by
  simp [givn]
theorem mrg_nd (a : (aKeys A).Nodup) (b : (aKeys B).Nodup) : (aKeys (mrg k A B)).Nodup := by
  unfold mrg
  split
  · exact puts_nd a
  · exact puts_nd b
theorem mrg_get (a : (aKeys A).Nodup) (b : (aKeys B).Nodup) : aGet (mrg k A B) x = (aGet B x).or (aGet A x) := by
  unfold mrg
  split
  · exact puts_get b
  · rw [puts_get (by rw [keys_map]; exact a.sublist List.filter_sublist), get_map]
    by_cases hb : x ∈ aKeys B
    · obtain ⟨w, hw⟩ := Option.isSome_iff_exists.mp (aGet_some_iff.mpr hb)
      rw [if_neg (fun z => (givn_mem.mp z).2 hb), hw]
      rfl
    · rw [aGet_none_iff.mpr hb]
      by_cases ha : x ∈ aKeys A
      · obtain ⟨w, hw⟩ := Option.isSome_iff_exists.mp (aGet_some_iff.mpr ha)
        rw [if_pos (givn_mem.mpr ⟨ha, hb⟩), hw]
        rfl
      · rw [if_neg (fun z => ha (givn_mem.mp z).1), aGet_none_iff.mpr ha]
def Top (rs : List (List Int)) (f l x v : Int) : Prop := ∃ i : Int, v = i + 1 ∧ f ≤ i ∧ i ≤ l ∧ x ∈ rowAt rs i ∧ ∀ j, i < j → j ≤ l → x ∉ rowAt rs j
theorem Top.uniq {f l w : Int} (a : Top rs f l x v) (b : Top rs f l x w) : v = w := by
  obtain ⟨i, rfl, i0, i1, ix, iu⟩ := a
  obtain ⟨j, rfl, j0, j1, jx, ju⟩ := b
  have h1 : ¬ i < j := fun z => iu j z j1 jx
  have h2 : ¬ j < i := fun z => ju i z i1 ix
  omega
theorem top_join {f m l : Int} (hm : f ≤ m + 1) (hl : m ≤ l) : Top rs f l x v ↔ Top rs (m + 1) l x v ∨ (Top rs f m x v ∧ ∀ w, ¬ Top rs (m + 1) l x w) := by
  constructor
  · rintro ⟨i, rfl, i0, i1, ix, iu⟩
    by_cases c : m < i
    · exact .inl ⟨i, rfl, by omega, i1, ix, iu⟩
    · refine .inr ⟨⟨i, rfl, i0, by omega, ix, fun j a b => iu j a (by omega)⟩, fun w ⟨j, _, j0, j1, jx, _⟩ => iu j (by omega) j1 jx⟩
  · rintro (⟨i, rfl, i0, i1, ix, iu⟩ | ⟨⟨i, rfl, i0, i1, ix, iu⟩, hn⟩)
    · exact ⟨i, rfl, by omega, i1, ix, iu⟩
    · refine ⟨i, rfl, i0, by omega, ix, fun j a b jx => ?_⟩
      by_cases c : j ≤ m
      · exact iu j a c jx
      · -- the uppermost owner at or above j
        have ex : ∀ (n : Nat) (j : Int), (l - j).toNat = n → m < j → j ≤ l → x ∈ rowAt rs j → ∃ w, Top rs (m + 1) l x w := by
          intro n
          induction n using Nat.strongRecOn with
          | ind n ih =>
            intro j hn jm jl jx
            by_cases q : ∃ j', j < j' ∧ j' ≤ l ∧ x ∈ rowAt rs j'
            · obtain ⟨j', a1, a2, a3⟩ := q
              exact ih _ (by omega) j' rfl (by omega) a2 a3
            · exact ⟨j + 1, j, rfl, by omega, jl, jx, fun j' a b z => q ⟨j', a, b, z⟩⟩
        obtain ⟨w, hw⟩ := ex _ j rfl (by omega) b jx
        exact hn w hw
theorem leaf_get {i : Int} : aGet (leafA rs i) x = some v ↔ Top rs i i x v := by
  unfold leafA
  rw [get_map (g := fun _ => i + 1)]
  constructor
  · intro e
    by_cases h : x ∈ rowAt rs i
    · rw [if_pos h] at e
      cases e
      exact ⟨i, rfl, Int.le_refl _, Int.le_refl _, h, fun j a b => by omega⟩
    · rw [if_neg h] at e; cases e
  · rintro ⟨j, rfl, j0, j1, jx, _⟩
    obtain rfl : j = i := by omega
    rw [if_pos jx]
theorem leaf_nd (C : Chain rs) {i : Int} (h0 : 0 ≤ i) (h1 : i < rs.length) : (aKeys (leafA rs i)).Nodup := by
  unfold leafA
  rw [keys_map (g := fun _ => i + 1)]
  exact nd_of_lt (C.own _ (rowAt_mem h0 h1)).lt
theorem or_top {A B : AL Int} {f m l : Int} (hm : f ≤ m + 1) (hl : m ≤ l) (ha : ∀ v, aGet A x = some v ↔ Top rs f m x v) (hb : ∀ v, aGet B x = some v ↔ Top rs (m + 1) l x v) : (aGet B x).or (aGet A x) = some v ↔ Top rs f l x v := by
  rw [top_join hm hl, ← hb, ← ha]
  cases e : aGet B x with
  | some w =>
    constructor
    · intro z
      exact .inl z
    · rintro (z | ⟨z, n⟩)
      · exact z
      · exact absurd ((hb w).mp e) (n w)
  | none =>
    constructor
    · intro z
      refine .inr ⟨z, fun w q => ?_⟩
      rw [(hb w).mpr q] at e
      cases e
    · rintro (z | ⟨z, n⟩)
      · cases z
      · exact z
theorem dc_ok (C : Chain rs) : ∀ {p : Pl} {f l : Int}, Sp p f l → 0 ≤ f → l < rs.length → (aKeys (p.dc rs)).Nodup ∧ ∀ x v, aGet (p.dc rs) x = some v ↔ Top rs f l x v
  | .leaf i, f, l, s, h0, h1 => by
    obtain ⟨rfl, rfl⟩ := s
    exact ⟨leaf_nd C h0 h1, fun x v => leaf_get⟩
  | .node k a b, f, l, s, h0, h1 => by
    obtain ⟨m, sa, sb⟩ := s
    have la := sa.le
    have lb := sb.le
    obtain ⟨na, ga⟩ := dc_ok C sa h0 (by omega)
    obtain ⟨nb, gb⟩ := dc_ok C sb (by omega) h1
    refine ⟨mrg_nd na nb, fun x v => ?_⟩
    show aGet (mrg k _ _) x = some v ↔ _
    rw [mrg_get na nb]
    exact or_top (by omega) (by omega) (fun v => ga x v) fun v => gb x v
theorem top_in {f l : Int} (h0 : 0 ≤ f) (h1 : l < rs.length) : (∃ v, Top rs f l x v) ↔ In rs f l x := by
  constructor
  · rintro ⟨v, i, _, i0, i1, ix, _⟩
    exact ⟨i.toNat, by omega, by omega, rowAt rs i, rowAt_eq (by omega) (by omega), ix⟩
  · rintro ⟨i, i0, i1, r, er, hx⟩
    have hx' : x ∈ rowAt rs (i : Int) := by
      unfold rowAt
      rw [show ((i : Int).toNat) = i by omega, er]
      exact hx
    have ex : ∀ (n : Nat) (j : Int), (l - j).toNat = n → f ≤ j → j ≤ l → x ∈ rowAt rs j → ∃ w, Top rs f l x w := by
      intro n
      induction n using Nat.strongRecOn with
      | ind n ih =>
        intro j hn jm jl jx
        by_cases q : ∃ j', j < j' ∧ j' ≤ l ∧ x ∈ rowAt rs j'
        · obtain ⟨j', a1, a2, a3⟩ := q
          exact ih _ (by omega) j' rfl (by omega) a2 a3
        · exact ⟨j + 1, j, rfl, by omega, jl, jx, fun j' a b z => q ⟨j', a, b, z⟩⟩
    exact ex _ i rfl i0 i1 hx'
theorem dc_keys (C : Chain rs) {p : Pl} {f l : Int} (s : Sp p f l) (h0 : 0 ≤ f) (h1 : l < rs.length) : x ∈ aKeys (p.dc rs) ↔ x ∈ p.C rs := by
  rw [(C_ok C s h0 h1).2 x, ← top_in h0 h1, ← aGet_some_iff, Option.isSome_iff_exists]
  exact ⟨fun ⟨v, e⟩ => ⟨v, ((dc_ok C s h0 h1).2 x v).mp e⟩, fun ⟨v, e⟩ => ⟨v, ((dc_ok C s h0 h1).2 x v).mpr e⟩⟩
theorem ct_ok (C : Chain rs) : ∀ {p : Pl} {f l : Int}, Sp p f l → 0 ≤ f → l < rs.length → p.ct rs = p.W rs
  | .leaf i, f, l, s, h0, h1 => rfl
  | .node k a b, f, l, s, h0, h1 => by
    obtain ⟨m, sa, sb⟩ := s
    have la := sa.le
    have lb := sb.le
    show a.ct rs + b.ct rs + mct k (a.dc rs) (b.dc rs) = a.W rs + b.W rs + cp k (a.C rs) (b.C rs)
    rw [ct_ok C sa h0 (by omega), ct_ok C sb (by omega) h1]
    have na := (dc_ok C sa h0 (by omega)).1
    have nb := (dc_ok C sb (by omega) h1).1
    have e : mct k (a.dc rs) (b.dc rs) = cp k (aKeys (a.dc rs)) (aKeys (b.dc rs)) := by
      unfold mct cp givn
      cases k
      · rfl
      · simp [aKeys]
    rw [e, cp_same na (C_nd C sa h0 (by omega)) nb (C_nd C sb (by omega) h1) (fun x => dc_keys C sa h0 (by omega)) (fun x => dc_keys C sb (by omega) h1)]
end
abbrev LS := Int → Option (AL Int)
def upL (S : LS) (i : Int) (o : Option (AL Int)) : LS := fun j => if j = i then o else S j
def doJ (S : LS) (j : Bool × Int × Int) : LS := match S j.2.2, S j.2.1 with
  | some A, some B => if j.1 = true then upL (upL S j.2.2 (some (mrg true A B))) j.2.1 none else upL (upL S j.2.1 (some (mrg false A B))) j.2.2 none
  | _, _ => S
def ctJ (S : LS) (j : Bool × Int × Int) : Int := match S j.2.2, S j.2.1 with
  | some A, some B => mct j.1 A B
  | _, _ => 0
def runJ (S : LS) : List (Bool × Int × Int) → LS
  | [] => S
  | j :: js => runJ (doJ S j) js
def rct (S : LS) : List (Bool × Int × Int) → Int
  | [] => 0
  | j :: js => ctJ S j + rct (doJ S j) js
def Can (n : Int) (S : LS) : List (Bool × Int × Int) → Prop
  | [] => True
  | j :: js => (∃ A B, S j.2.2 = some A ∧ S j.2.1 = some B ∧ (aKeys A).Nodup ∧ (aKeys B).Nodup) ∧ 1 ≤ j.2.2 ∧ j.2.2 < j.2.1 ∧ j.2.1 ≤ n ∧ Can n (doJ S j) js
theorem run_app : ∀ {js ks : List (Bool × Int × Int)} {S : LS}, runJ S (js ++ ks) = runJ (runJ S js) ks
  | [], _, _ => rfl
  | _ :: js, _, _ => run_app (js := js)
theorem rct_app : ∀ {js ks : List (Bool × Int × Int)} {S : LS}, rct S (js ++ ks) = rct S js + rct (runJ S js) ks
  | [], ks, S => by
    show rct S ks = 0 + rct S ks
    omega
  | j :: js, ks, S => by
    show ctJ S j + rct (doJ S j) (js ++ ks) = ctJ S j + rct (doJ S j) js + _
    rw [rct_app (js := js)]
    show _ = _ + _ + rct (runJ (doJ S j) js) ks
    omega
theorem can_app {n : Int} : ∀ {js ks : List (Bool × Int × Int)} {S : LS}, Can n S js → Can n (runJ S js) ks → Can n S (js ++ ks)
  | [], _, _, _, h => h
  | _ :: js, _, _, ⟨a, b, c, d, e⟩, h => ⟨a, b, c, d, can_app (js := js) e h⟩
theorem plan_run {rs : List (List Int)} (C : Chain rs) : ∀ {p : Pl} {f l : Int} {S : LS}, Sp p f l → 0 ≤ f → l < rs.length → (∀ i, f ≤ i → i ≤ l → S (i + 1) = some (leafA rs i)) →
    runJ S p.jobs p.top = some (p.dc rs) ∧ (∀ x, x < f + 1 ∨ l + 1 < x → runJ S p.jobs x = S x) ∧ rct S p.jobs = p.ct rs ∧ (f + 1 ≤ p.top ∧ p.top ≤ l + 1) ∧ Can rs.length S p.jobs
  | .leaf i, f, l, S, s, h0, h1, hS => by
    obtain ⟨rfl, rfl⟩ := s
    exact ⟨hS i (Int.le_refl _) (Int.le_refl _), fun _ _ => rfl, rfl, ⟨Int.le_refl _, Int.le_refl _⟩, trivial⟩
  | .node k a b, f, l, S, s, h0, h1, hS => by
    obtain ⟨m, sa, sb⟩ := s
    have la := sa.le
    have lb := sb.le
    obtain ⟨a1, a2, a3, ⟨a4, a5⟩, a6⟩ := plan_run C (S := S) sa h0 (by omega) fun i x y => hS i x (by omega)
    obtain ⟨b1, b2, b3, ⟨b4, b5⟩, b6⟩ := plan_run C (S := runJ S a.jobs) sb (by omega) h1 fun i x y => by
      rw [a2 _ (.inr (by omega))]
      exact hS i (by omega) y
    have na := (dc_ok C sa h0 (by omega)).1
    have nb := (dc_ok C sb (by omega) h1).1
    have ra : runJ (runJ S a.jobs) b.jobs a.top = some (a.dc rs) := by rw [b2 _ (.inl (by omega))]; exact a1
    have lt : a.top < b.top := by omega
    have dj : doJ (runJ (runJ S a.jobs) b.jobs) (k, b.top, a.top) = if k = true then upL (upL (runJ (runJ S a.jobs) b.jobs) a.top (some (mrg true (a.dc rs) (b.dc rs)))) b.top none else upL (upL (runJ (runJ S a.jobs) b.jobs) b.top (some (mrg false (a.dc rs) (b.dc rs)))) a.top none := by
      unfold doJ
      simp only [ra, b1]
    have cj : ctJ (runJ (runJ S a.jobs) b.jobs) (k, b.top, a.top) = mct k (a.dc rs) (b.dc rs) := by
      unfold ctJ
      simp only [ra, b1]
    have e : runJ S (Pl.node k a b).jobs = doJ (runJ (runJ S a.jobs) b.jobs) (k, b.top, a.top) := by
      show runJ S (a.jobs ++ b.jobs ++ [(k, b.top, a.top)]) = _
      rw [run_app, run_app]
      rfl
    refine ⟨?_, fun x hx => ?_, ?_, ?_, ?_⟩
    · rw [e, dj]
      show _ = some (mrg k (a.dc rs) (b.dc rs))
      cases k
      · show upL (upL _ b.top _) a.top none b.top = _
        unfold upL
        rw [if_neg (by omega), if_pos rfl]
      · show upL (upL _ a.top _) b.top none a.top = _
        unfold upL
        rw [if_neg (by omega), if_pos rfl]
    · rw [e, dj]
      have e2 : runJ (runJ S a.jobs) b.jobs x = S x := by
        rw [b2 x (by omega), a2 x (by omega)]
      cases k
      · show upL (upL _ b.top _) a.top none x = _
        unfold upL
        rw [if_neg (by omega), if_neg (by omega)]
        exact e2
      · show upL (upL _ a.top _) b.top none x = _
        unfold upL
        rw [if_neg (by omega), if_neg (by omega)]
        exact e2
    · show rct S (a.jobs ++ b.jobs ++ [(k, b.top, a.top)]) = a.ct rs + b.ct rs + mct k (a.dc rs) (b.dc rs)
      rw [rct_app, rct_app, a3, b3, run_app]
      show _ + (ctJ _ _ + 0) = _
      rw [cj]
      omega
    · show f + 1 ≤ (if k = true then a.top else b.top) ∧ (if k = true then a.top else b.top) ≤ l + 1
      split <;> omega
    · show Can _ S (a.jobs ++ b.jobs ++ [(k, b.top, a.top)])
      refine can_app (can_app a6 b6) ?_
      rw [run_app]
      exact ⟨⟨_, _, ra, b1, na, nb⟩, by show 1 ≤ a.top; omega, lt, by show b.top ≤ _; omega, trivial⟩
def whl (rs : List (List Int)) : Nat → AL Int
  | 0 => []
  | n + 1 => puts (whl rs n) (leafA rs n)
theorem whl_ok {rs : List (List Int)} (C : Chain rs) : ∀ {n : Nat}, n ≤ rs.length → (aKeys (whl rs n)).Nodup ∧ ∀ x v, aGet (whl rs n) x = some v ↔ Top rs 0 ((n : Int) - 1) x v
  | 0, _ => ⟨List.nodup_nil, fun x v => Iff.intro (fun z => by cases z) fun z => by
      obtain ⟨i, _, a, b, _⟩ := z
      omega⟩
  | n + 1, h => by
    obtain ⟨nd, g⟩ := whl_ok C (n := n) (by omega)
    have nl := leaf_nd C (i := (n : Int)) (by omega) (by omega)
    refine ⟨puts_nd nd, fun x v => ?_⟩
    show aGet (puts _ _) x = _ ↔ _
    rw [puts_get nl]
    have q := or_top (rs := rs) (x := x) (v := v) (A := whl rs n) (B := leafA rs n) (f := 0) (m := (n : Int) - 1) (l := (n : Int)) (by omega) (by omega) (fun v => g x v) (fun v => by
      rw [show ((n : Int) - 1 + 1) = n by omega]
      exact leaf_get)
    rw [q]
    rw [show (((n + 1 : Nat) : Int) - 1) = n by omega]
theorem left_whole {rs : List (List Int)} (C : Chain rs) {p : Pl} (s : Sp p 0 (rs.length - 1)) : (p.dc rs).length = (whl rs rs.length).length ∧ ∀ q ∈ p.dc rs, aGet (whl rs rs.length) q.1 = some q.2 := by
  have n1 := C.ne
  obtain ⟨nd, g⟩ := dc_ok C s (by omega) (by omega)
  obtain ⟨nw, gw⟩ := whl_ok C (n := rs.length) (Nat.le_refl _)
  refine ⟨?_, fun q hq => ?_⟩
  · have := len_same nd nw fun x => by
      rw [← aGet_some_iff, ← aGet_some_iff, Option.isSome_iff_exists, Option.isSome_iff_exists]
      exact ⟨fun ⟨v, e⟩ => ⟨v, (gw x v).mpr ((g x v).mp e)⟩, fun ⟨v, e⟩ => ⟨v, (g x v).mpr ((gw x v).mp e)⟩⟩
    simpa [aKeys] using this
  · exact (gw _ _).mpr ((g _ _).mp (aGet_of_mem nd hq))
def cellsN (rs : List (List Int)) : Int := maxL ((rs.flatten.map fun c => c + 1) ++ [1])
theorem maxL_bd : ∀ {l : List Int} {a b : Int}, l ≠ [] → (∀ x ∈ l, a ≤ x ∧ x ≤ b) → a ≤ maxL l ∧ maxL l ≤ b
  | [], _, _, n, _ => absurd rfl n
  | [x], _, _, _, h => h x (by simp)
  | x :: y :: l, a, b, _, h => by
    obtain ⟨i1, i2⟩ := maxL_bd (l := y :: l) (a := a) (b := b) (by simp) fun z hz => h z (List.mem_cons_of_mem _ hz)
    obtain ⟨j1, j2⟩ := h x (by simp)
    have e : maxL (x :: y :: l) = if x < maxL (y :: l) then maxL (y :: l) else x := rfl
    rw [e]
    split <;> omega
theorem cells_bd {rs : List (List Int)} (C : Chain rs) : 1 ≤ cellsN rs ∧ cellsN rs ≤ 10 := by
  refine maxL_bd (by simp) fun x hx => ?_
  rcases List.mem_append.mp hx with hx | hx
  · obtain ⟨c, hc, rfl⟩ := List.mem_map.mp hx
    obtain ⟨r, hr, hc⟩ := List.mem_flatten.mp hc
    have := ten_bd ((C.own r hr).bd c hc)
    omega
  · have : x = 1 := by simpa using hx
    omega
section
variable {h : CH} {rs : List (List Int)} {X : CM.D}
theorem cl_inner {a0 a1 a2 : Option CM.D} : ∀ {cs acc : List Int}, acc.length + cs.length < 1000 → dGL (gdName 2) dYes (bL (dOp (fAdd false) (dVar 2) (dC (.int 1)))) [a0, a1, a2] (acc.map CM.D.int) (cs.map CM.D.int) h = .ok ((acc ++ cs.map fun c => c + 1).map CM.D.int) h
  | [], acc, _ => by simp [dGL]
  | c :: cs, acc, l => by
    have l1 : (acc.map CM.D.int).length < sizeLine := Nat.lt_of_lt_of_le (show _ < 1000 by simp only [List.length_map, List.length_cons] at l ⊢; omega) (by decide)
    have ih := cl_inner (a0 := a0) (a1 := a1) (a2 := some (.int c)) (cs := cs) (acc := acc ++ [c + 1]) (by simp only [List.length_cons, List.length_append, List.length_nil] at l ⊢; omega)
    rw [List.map_cons]
    show (R.ok [a0, a1, some (.int c)] h).calm _ = _
    rw [calm_ok]
    show ((bL (dOp (fAdd false) (dVar 2) (dC (.int 1))) (acc.map CM.D.int) [a0, a1, some (.int c)] h).calm _ : R (List CM.D)) = _
    have e : bL (dOp (fAdd false) (dVar 2) (dC (.int 1))) (acc.map CM.D.int) [a0, a1, some (.int c)] h = .ok ((acc ++ [c + 1]).map CM.D.int) h := by
      have ev : dOp (fAdd false) (dVar 2) (dC (.int 1)) [a0, a1, some (.int c)] h = .ok (.int (c + 1)) h := rfl
      unfold bL
      rw [ev, calm_ok, if_pos l1, List.map_append]
      rfl
    rw [e, calm_ok]
    show dGL _ _ _ [a0, a1, a2] _ _ _ = _
    have ih' := cl_inner (a0 := a0) (a1 := a1) (a2 := a2) (cs := cs) (acc := acc ++ [c + 1]) (by simp only [List.length_cons, List.length_append, List.length_nil] at l ⊢; omega)
    rw [ih']
    simp
theorem cl_outer {a0 : Option CM.D} : ∀ {qs : List (List Int)} {acc : List Int}, (∀ r ∈ qs, r.length ≤ 10) → acc.length + 10 * qs.length < 900 →
    dGL (gdName 1) dYes (b2L (dSeqI (dVar 1)) (gdName 2) dYes (dOp (fAdd false) (dVar 2) (dC (.int 1))) [2]) [a0, none, none] (acc.map CM.D.int) (rowsD qs) h = .ok ((acc ++ qs.flatten.map fun c => c + 1).map CM.D.int) h
  | [], acc, _, _ => by simp [dGL]
  | r :: qs, acc, q, l => by
    have lr := q r (List.mem_cons_self ..)
    simp only [List.length_cons] at l
    have ih := cl_outer (a0 := a0) (qs := qs) (acc := acc ++ r.map fun c => c + 1) (fun y hy => q y (List.mem_cons_of_mem _ hy)) (by simp; omega)
    show (R.ok [a0, some (tupI r), none] h).calm _ = _
    rw [calm_ok]
    show ((b2L (dSeqI (dVar 1)) (gdName 2) dYes (dOp (fAdd false) (dVar 2) (dC (.int 1))) [2] (acc.map CM.D.int) [a0, some (tupI r), none] h).calm _ : R (List CM.D)) = _
    have e : b2L (dSeqI (dVar 1)) (gdName 2) dYes (dOp (fAdd false) (dVar 2) (dC (.int 1))) [2] (acc.map CM.D.int) [a0, some (tupI r), none] h = .ok ((acc ++ r.map fun c => c + 1).map CM.D.int) h := by
      unfold b2L
      simp only [e_seqI, e_var, List.getElem?_cons_zero, List.getElem?_cons_succ, bind_ok, itemsD, calm_ok]
      exact cl_inner (by omega)
    rw [e, calm_ok, ih]
    simp
theorem cells_of_ok (C : Chain rs) (c : ChD rs X) : F_cells_of [X] h = .ok (.int (cellsN rs)) h := by
  show (u_cells_of [some X, none, none] h).res = _
  unfold u_cells_of
  have L : dLc2 false (dSeqI (dVar 0)) (gdName 1) (dYes) (dSeqI (dVar 1)) (gdName 2) (dYes) (dOp (fAdd false) (dVar 2) (dC (.int 1))) [1, 2] [2] [some X, none, none] h = .ok (.lst ((rs.flatten.map fun c => c + 1).map CM.D.int)) h := by
    have it : dSeqI (dVar 0) [some X, none, none] h = .ok (rowsD rs, none) h := by
      simp only [e_seqI, e_var, List.getElem?_cons_zero, bind_ok, c.items]
    unfold dLc2
    rw [it]
    have g := cl_outer (h := h) (a0 := some X) (qs := rs) (acc := []) (fun r hr => (C.own r hr).len) (by have := C.le; simp; omega)
    show (((dGL (gdName 1) dYes _ [some X, none, none] [] (rowsD rs) h).bind _).unl none : R CM.D) = _
    rw [show ([] : List CM.D) = ([] : List Int).map CM.D.int from rfl, g]
    simp [mkL, R.unl, unlH]
  have lf : (rs.flatten.map fun c => c + 1).length ≤ 80 := by
    rw [List.length_map, List.length_flatten]
    have : ∀ l : List (List Int), (∀ r ∈ l, r.length ≤ 10) → (l.map List.length).sum ≤ 10 * l.length := by
      intro l
      induction l with
      | nil => simp
      | cons r l ih =>
        intro q
        have := ih fun y hy => q y (List.mem_cons_of_mem _ hy)
        have := q r (List.mem_cons_self ..)
        simp only [List.map_cons, List.sum_cons, List.length_cons]
        omega
    have := this rs fun r hr => (C.own r hr).len
    have := C.le
    omega
  have ad : fAdd false (.lst ((rs.flatten.map fun c => c + 1).map CM.D.int)) (.lst [.int 1]) h = .ok (.lst (((rs.flatten.map fun c => c + 1) ++ [1]).map CM.D.int)) h := by
    unfold fAdd
    simp only [lstOf, mkL]
    rw [if_pos (Nat.le_trans (show _ ≤ 100 by simp only [List.length_map, List.length_cons, List.length_nil] at lf ⊢; omega) (by decide)), List.map_append]
    rfl
  have mx : fMaxL [.lst (((rs.flatten.map fun c => c + 1) ++ [1]).map CM.D.int)] h = .ok (.int (cellsN rs)) h := by
    unfold fMaxL
    simp only [lstOf, intsOf_map]
    rw [if_pos (by simp)]
    rfl
  have l1 : 1 ≤ sizeLine := by decide
  generalize (rs.flatten.map fun c => c + 1) = Z at L ad mx
  simp [need_chain_ok C c, L, mkL, l1, ad]
  rw [show List.map CM.D.int Z ++ [CM.D.int 1] = (Z ++ [1]).map CM.D.int by simp, mx]
  rfl
end
abbrev stepD (g : Int) : CM.D := .tup [.str "step", .int g]
def lineOf (m : Int) : Int → List (Bool × Int × Int) → List CM.D
  | _, [] => []
  | g, j :: js => .tup [.str "begin", .str (kS j.1), .int j.2.1] :: List.replicate (m + 1).toNat (stepD g) ++ lineOf m (g + 1) js
theorem line_app {m : Int} : ∀ {js ks : List (Bool × Int × Int)} {g : Int}, lineOf m g (js ++ ks) = lineOf m g js ++ lineOf m (g + js.length) ks
  | [], ks, g => by simp [lineOf]
  | j :: js, ks, g => by
    show CM.D.tup _ :: _ ++ lineOf m (g + 1) (js ++ ks) = (CM.D.tup _ :: _ ++ lineOf m (g + 1) js) ++ _
    rw [line_app (js := js)]
    simp only [List.length_cons, List.append_assoc, List.cons_append]
    rw [show g + 1 + (js.length : Int) = g + ((js.length + 1 : Nat) : Int) by omega]
theorem jobs_len : ∀ {p : Pl} {f l : Int}, Sp p f l → (p.jobs.length : Int) = l - f
  | .leaf i, f, l, s => by
    obtain ⟨rfl, rfl⟩ := s
    show (0 : Int) = _
    omega
  | .node k a b, f, l, s => by
    obtain ⟨m, sa, sb⟩ := s
    have i1 := jobs_len sa
    have i2 := jobs_len sb
    show ((a.jobs ++ b.jobs ++ [(k, b.top, a.top)]).length : Int) = _
    simp only [List.length_append, List.length_cons, List.length_nil]
    omega
theorem line_len {m : Int} (m0 : 0 ≤ m) (m1 : m ≤ 10) : ∀ {js : List (Bool × Int × Int)} {g : Int}, (lineOf m g js).length ≤ 12 * js.length
  | [], g => by simp [lineOf]
  | j :: js, g => by
    have := line_len m0 m1 (js := js) (g := g + 1)
    show (CM.D.tup _ :: List.replicate _ _ ++ lineOf m (g + 1) js).length ≤ _
    simp only [List.length_append, List.length_cons, List.length_replicate]
    omega
abbrev wkF (m : Int) (a : Nat) (g : Int) : List (Str × CM.D) := [("cells_there", .int m), ("line", .ref a), ("begun_jobs", .int g)]
structure Wk (w a : Nat) (m g : Int) (L : List CM.D) (h : CH) : Prop where
  ob : h.ob w = some (.obj 0 (wkF m a g))
  ln : h.ob a = some (.lst L)
  ne : w ≠ a
theorem Wk.next {w a : Nat} {m g g' : Int} {L L' : List CM.D} {h : CH} (k : Wk w a m g L h) : Wk w a m g' L' ((h.put a (.lst L')).put w (.obj 0 (wkF m a g'))) := ⟨put_same, by rw [put_ne k.ne.symm]; exact put_same, k.ne⟩
theorem app_at {h : CH} {k : Nat} {ds : List CM.D} {y : CM.D} (e : h.ob k = some (.lst ds)) (l : ds.length < 100000) : fAppend (.ref k) [y] h = .ok .non (h.put k (.lst (ds ++ [y]))) := by
  unfold fAppend
  simp only [e]
  rw [if_pos (Nat.lt_of_lt_of_le l (by decide))]
theorem ext_at {h : CH} {k : Nat} {ds es : List CM.D} (e : h.ob k = some (.lst ds)) (l : ds.length + es.length < 100000) : fExtend (.ref k) [.lst es] h = .ok .non (h.put k (.lst (ds ++ es))) := by
  unfold fExtend
  simp only [e, lstOf]
  rw [if_pos (Nat.le_trans (Nat.le_of_lt l) (by decide))]
theorem put_put {h : CH} {k : Nat} {a b : MO} : (h.put k a).put k b = h.put k b := by
  unfold CH.put
  simp only
  congr 1
  funext j
  by_cases e : j = k <;> simp [e]
theorem fld_get {h : CH} {w a : Nat} {m g : Int} {L : List CM.D} (k : Wk w a m g L h) : fFld [0] (Str.ofString "line") (.ref w) h = .ok (.ref a) h ∧ fFld [0] (Str.ofString "cells_there") (.ref w) h = .ok (.int m) h ∧ fFld [0] (Str.ofString "begun_jobs") (.ref w) h = .ok (.int g) h := by
  refine ⟨?_, ?_, ?_⟩ <;>
  · unfold fFld
    simp only [objOf, k.ob]
    rfl
theorem steps_ok {h : CH} {w a : Nat} {m g : Int} {L : List CM.D} {x1 x2 x3 x4 : Option CM.D} (k : Wk w a m g L h) (m0 : 0 ≤ m) (m1 : m ≤ 10) : dLc false (dRng1 (dCons (dOp (fAdd false) (dUn (fFld [0] "cells_there") (dVar 0)) (dC (.int 1))) (dNil))) (gdName 4) (dYes) (dTup (dCons (dC (.str "step")) (dCons (dUn (fFld [0] "begun_jobs") (dVar 0)) (dNil)))) [4] [some (.ref w), x1, x2, x3, x4] h = .ok (.lst (List.replicate (m + 1).toNat (stepD g))) h := by
  obtain ⟨e1, e2, e3⟩ := fld_get k
  have rg : (dRng1 (dCons (dOp (fAdd false) (dUn (fFld [0] "cells_there") (dVar 0)) (dC (.int 1))) (dNil))) [some (.ref w), x1, x2, x3, x4] h = .ok ((rg (m + 1).toNat).map CM.D.int, none) h := by
    refine rngI (by omega) (by omega) ?_
    simp [e2, addI]
  have lc : ∀ {xs : List Int}, dLcL (gdName 4) dYes (dTup (dCons (dC (.str "step")) (dCons (dUn (fFld [0] "begun_jobs") (dVar 0)) (dNil)))) [some (.ref w), x1, x2, x3, none] (xs.map CM.D.int) h = .ok (List.replicate xs.length (stepD g)) h := by
    intro xs
    induction xs with
    | nil => rfl
    | cons x xs ih =>
      have ev : (dTup (dCons (dC (.str "step")) (dCons (dUn (fFld [0] "begun_jobs") (dVar 0)) (dNil)))) [some (.ref w), x1, x2, x3, some (.int x)] h = .ok (stepD g) h := by
        have l2 : 2 ≤ sizeLine := by decide
        simp [e3, l2]
      rw [List.map_cons]
      show (R.ok [some (.ref w), x1, x2, x3, some (.int x)] h).calm _ = _
      rw [calm_ok]
      show ((R.ok true h : R Bool).calm _ : R (List CM.D)) = _
      rw [calm_ok, if_pos rfl, ev, calm_ok, ih]
      rfl
  unfold dLc
  rw [rg]
  simp only [bind_ok]
  rw [if_pos (Nat.le_trans (show _ ≤ 100 by rw [List.length_map, rg_len]; omega) (by decide))]
  show ((dLcL (gdName 4) dYes _ [some (.ref w), x1, x2, x3, none] _ h).bind _).unl none = _
  rw [lc, rg_len]
  rfl
theorem eq_up {h : CH} (k : Bool) : fEq false (.str (kS k)) (.str (Str.ofString "up")) h = .ok (.bl (!k)) h := by
  cases k <;> kernel_rfl
def wm_0 (R_ : FD) : SD := (dIfS (dB (dCall 1 F_is_cell (dCons (dVar 1) (dNil)))) (dRet (dOp (fAdd false) (dVar 1) (dC (.int 1)))) (dNext))
def wm_1 (R_ : FD) : SD := (dPar 2 3 (dCons (dMethN 0 "merged" 2 0 (srcP 0 2) R_ (dVar 0) (dCons (dOp fIx (dVar 1) (dC (.int 1))) (dNil)) (dNil)) (dCons (dMethN 0 "merged" 2 0 (srcP 0 2) R_ (dVar 0) (dCons (dOp fIx (dVar 1) (dC (.int 2))) (dNil)) (dNil)) (dNil))))
def wm_2 (R_ : FD) : SD := (dDrop (dBM "list" fAppend (dUn (fFld [0] "line") (dVar 0)) (dCons (dTup (dCons (dC (.str "begin")) (dCons (dOp fIx (dVar 1) (dC (.int 0))) (dCons (dVar 3) (dNil))))) (dNil))))
def wm_3 (R_ : FD) : SD := (dDrop (dBM "list" fExtend (dUn (fFld [0] "line") (dVar 0)) (dCons (dLc false (dRng1 (dCons (dOp (fAdd false) (dUn (fFld [0] "cells_there") (dVar 0)) (dC (.int 1))) (dNil))) (gdName 4) (dYes) (dTup (dCons (dC (.str "step")) (dCons (dUn (fFld [0] "begun_jobs") (dVar 0)) (dNil)))) [4]) (dNil))))
def wm_4 (R_ : FD) : SD := (dFldAug [0] "begun_jobs" (dVar 0) (dC (.int 1)))
def wm_5 (R_ : FD) : SD := (dRet (dIf (dB (dOp (fEq false) (dOp fIx (dVar 1) (dC (.int 0))) (dC (.str "up")))) (dVar 3) (dVar 2)))
theorem wm_u {R_ : FD} : u_Work_merged R_ = (dSeq (wm_0 R_) (dSeq (wm_1 R_) (dSeq (wm_2 R_) (dSeq (wm_3 R_) (dSeq (wm_4 R_) (wm_5 R_)))))) := rfl
theorem seqX {u v : SD} {ρ ρ1 : DE} {h h1 : CH} (e : u ρ h = .nx ρ1 h1) : dSeq u v ρ h = v ρ1 h1 := by
  rw [s_seq, e]
  rfl
theorem merged_ok {w a : Nat} {m : Int} (m0 : 0 ≤ m) (m1 : m ≤ 10) : ∀ {p : Pl} {f l g : Int} {k : Nat} {L : List CM.D} {h : CH}, Sp p f l → 0 ≤ f → l - f < k → Wk w a m g L h → L.length + 12 * (l - f).toNat < 90000 →
    ∃ h', F_Work_merged_ k [.ref w, p.D] h = .ok (.int p.top) h' ∧ Wk w a m (g + p.jobs.length) (L ++ lineOf m g p.jobs) h' ∧ h'.nx = h.nx ∧ ∀ j, j ≠ w → j ≠ a → h'.ob j = h.ob j
  | p, f, l, g, 0, L, h, s, h0, hk, W, lL => by
    have := s.le
    omega
  | .leaf i, f, l, g, k + 1, L, h, s, h0, hk, W, lL => by
    obtain ⟨rfl, rfl⟩ := s
    refine ⟨h, ?_, by simpa [Pl.jobs, lineOf] using W, rfl, fun _ _ _ => rfl⟩
    show (u_Work_merged (F_Work_merged_ k) [some (.ref w), some (.int i), none, none, none] h).res = _
    unfold u_Work_merged
    have ci : decide (i ≥ 0) = true := by simp; omega
    simp [is_cell_ok, ci, addI, Pl.top]
  | .node kd x y, f, l, g, k + 1, L, h, s, h0, hk, W, lL => by
    obtain ⟨mid, sa, sb⟩ := s
    have la := sa.le
    have lb := sb.le
    have j1 := jobs_len sa
    have j2 := jobs_len sb
    obtain ⟨h1, e1, W1, n1, f1⟩ := merged_ok m0 m1 (p := x) (g := g) (k := k) (L := L) (h := h) sa h0 (by omega) W (by omega)
    have ll := line_len m0 m1 (js := x.jobs) (g := g)
    obtain ⟨h2, e2, W2, n2, f2⟩ := merged_ok m0 m1 (p := y) (g := g + x.jobs.length) (k := k) (L := L ++ lineOf m g x.jobs) (h := h1) sb (by omega) (by omega) W1 (by simp only [List.length_append]; omega)
    have ll2 := line_len m0 m1 (js := y.jobs) (g := g + x.jobs.length)
    have lall : (L ++ lineOf m g x.jobs ++ lineOf m (g + x.jobs.length) y.jobs).length < 95000 := by simp only [List.length_append]; omega
    have lk : (wkF m a g).lookup (Str.ofString "merged") = none := by kernel_rfl
    have lk' : ∀ g : Int, (wkF m a g).lookup (Str.ofString "merged") = none := fun g => by kernel_rfl
    have i1 : ∀ h : CH, fIx (Pl.D (.node kd x y)) (.int 1) h = .ok x.D h := fun _ => rfl
    have i2 : ∀ h : CH, fIx (Pl.D (.node kd x y)) (.int 2) h = .ok y.D h := fun _ => rfl
    have i0 : ∀ h : CH, fIx (Pl.D (.node kd x y)) (.int 0) h = .ok (.str (kS kd)) h := fun _ => rfl
    have o1 : objOf h (.ref w) = some (0, (wkF m a g)) := by simp only [objOf, W.ob]
    have o2 : objOf h1 (.ref w) = some (0, (wkF m a (g + x.jobs.length))) := by simp only [objOf, W1.ob]
    have c1 : (dMethN 0 "merged" 2 0 (srcP 0 2) (F_Work_merged_ k) (dVar 0) (dCons (dOp fIx (dVar 1) (dC (.int 1))) (dNil)) (dNil)) [some (.ref w), some (Pl.D (.node kd x y)), none, none, none] h = .ok (.int x.top) h1 := by
      unfold dMethN
      simp [o1, lk', i1, srcP, pickD, e1]
    have c2 : (dMethN 0 "merged" 2 0 (srcP 0 2) (F_Work_merged_ k) (dVar 0) (dCons (dOp fIx (dVar 1) (dC (.int 2))) (dNil)) (dNil)) [some (.ref w), some (Pl.D (.node kd x y)), none, none, none] h1 = .ok (.int y.top) h2 := by
      unfold dMethN
      simp [o2, lk', i2, srcP, pickD, e2]
    generalize hG : g + (x.jobs.length : Int) + y.jobs.length = G at W2
    generalize hL : L ++ lineOf m g x.jobs ++ lineOf m (g + x.jobs.length) y.jobs = L2 at W2 lall
    -- the job's begin
    have a1 := app_at (y := .tup [.str (Str.ofString "begin"), .str (kS kd), .int y.top]) W2.ln (by omega)
    have W3 : Wk w a m G (L2 ++ [.tup [.str (Str.ofString "begin"), .str (kS kd), .int y.top]]) (h2.put a (.lst (L2 ++ [.tup [.str (Str.ofString "begin"), .str (kS kd), .int y.top]]))) := ⟨by rw [put_ne W2.ne]; exact W2.ob, put_same, W2.ne⟩
    have st := steps_ok (x1 := some (Pl.D (.node kd x y))) (x2 := some (.int x.top)) (x3 := some (.int y.top)) (x4 := none) W3 m0 m1
    have a2 := ext_at (es := List.replicate (m + 1).toNat (stepD G)) W3.ln (by simp only [List.length_append, List.length_cons, List.length_nil, List.length_replicate]; omega)
    rw [put_put] at a2
    have W4 : Wk w a m G (L2 ++ [.tup [.str (Str.ofString "begin"), .str (kS kd), .int y.top]] ++ List.replicate (m + 1).toNat (stepD G)) (h2.put a (.lst (L2 ++ [.tup [.str (Str.ofString "begin"), .str (kS kd), .int y.top]] ++ List.replicate (m + 1).toNat (stepD G)))) := ⟨by rw [put_ne W2.ne]; exact W2.ob, put_same, W2.ne⟩
    have fa : dFldAug [0] (Str.ofString "begun_jobs") (dVar 0) (dC (.int 1)) [some (.ref w), some (Pl.D (.node kd x y)), some (.int x.top), some (.int y.top), none] (h2.put a (.lst (L2 ++ [.tup [.str (Str.ofString "begin"), .str (kS kd), .int y.top]] ++ List.replicate (m + 1).toNat (stepD G)))) = .nx [some (.ref w), some (Pl.D (.node kd x y)), some (.int x.top), some (.int y.top), none] ((h2.put a (.lst (L2 ++ [.tup [.str (Str.ofString "begin"), .str (kS kd), .int y.top]] ++ List.replicate (m + 1).toNat (stepD G)))).put w (.obj 0 (wkF m a (G + 1)))) := by
      have lu : (wkF m a G).lookup (Str.ofString "begun_jobs") = some (.int G) := by kernel_rfl
      have pd : putD (Str.ofString "begun_jobs") (.int (G + 1)) (wkF m a G) = (wkF m a (G + 1)) := by kernel_rfl
      unfold dFldAug
      simp only [e_var, List.getElem?_cons_zero, toS_ok, refOf, W4.ob, lu, e_C, pd]
      simp
    have W5 := W4.next (g' := G + 1) (L' := L2 ++ [.tup [.str (Str.ofString "begin"), .str (kS kd), .int y.top]] ++ List.replicate (m + 1).toNat (stepD G))
    rw [put_put] at W5
    refine ⟨(h2.put a (.lst (L2 ++ [.tup [.str (Str.ofString "begin"), .str (kS kd), .int y.top]] ++ List.replicate (m + 1).toNat (stepD G)))).put w (.obj 0 (wkF m a (G + 1))), ?_, ?_, ?_, ?_⟩
    · show (u_Work_merged (F_Work_merged_ k) [some (.ref w), some (Pl.D (.node kd x y)), none, none, none] h).res = _
      have ct : F_is_cell [Pl.D (.node kd x y)] h = .ok (.bl false) h := is_cell_tup _
      have l3 : 3 ≤ sizeLine := by decide
      have lf := (fld_get W2).1
      have lf3 := (fld_get W3).1
      have t2 : isTy "list" (.ref a) h2 = true := by simp [isTy, lstOf, W2.ln]
      have t3 : isTy "list" (.ref a) (h2.put a (.lst (L2 ++ [.tup [.str (Str.ofString "begin"), .str (kS kd), .int y.top]]))) = true := by simp [isTy, lstOf, W3.ln]
      have q0 : wm_0 (F_Work_merged_ k) [some (.ref w), some (Pl.D (.node kd x y)), none, none, none] h = .nx [some (.ref w), some (Pl.D (.node kd x y)), none, none, none] h := by
        unfold wm_0
        simp [ct]
      have q1 : wm_1 (F_Work_merged_ k) [some (.ref w), some (Pl.D (.node kd x y)), none, none, none] h = .nx [some (.ref w), some (Pl.D (.node kd x y)), some (.int x.top), some (.int y.top), none] h2 := by
        unfold wm_1 dPar
        simp only [e_cons, e_nil, c1, c2, bind_ok, toS_ok]
        rfl
      have q2 : wm_2 (F_Work_merged_ k) [some (.ref w), some (Pl.D (.node kd x y)), some (.int x.top), some (.int y.top), none] h2 = .nx [some (.ref w), some (Pl.D (.node kd x y)), some (.int x.top), some (.int y.top), none] (h2.put a (.lst (L2 ++ [.tup [.str (Str.ofString "begin"), .str (kS kd), .int y.top]]))) := by
        unfold wm_2
        simp [lf, t2, i0, l3, a1]
      have q3 : wm_3 (F_Work_merged_ k) [some (.ref w), some (Pl.D (.node kd x y)), some (.int x.top), some (.int y.top), none] (h2.put a (.lst (L2 ++ [.tup [.str (Str.ofString "begin"), .str (kS kd), .int y.top]]))) = .nx [some (.ref w), some (Pl.D (.node kd x y)), some (.int x.top), some (.int y.top), none] (h2.put a (.lst (L2 ++ [.tup [.str (Str.ofString "begin"), .str (kS kd), .int y.top]] ++ List.replicate (m + 1).toNat (stepD G)))) := by
        unfold wm_3
        generalize (h2.put a (.lst (L2 ++ [.tup [.str (Str.ofString "begin"), .str (kS kd), .int y.top]]))) = h3 at lf3 t3 st a2 ⊢
        have bm : ∀ ts : TDs, ts [some (.ref w), some (Pl.D (.node kd x y)), some (.int x.top), some (.int y.top), none] h3 = .ok [.lst (List.replicate (m + 1).toNat (stepD G))] h3 → dBM "list" fExtend (dUn (fFld [0] "line") (dVar 0)) ts [some (.ref w), some (Pl.D (.node kd x y)), some (.int x.top), some (.int y.top), none] h3 = .ok .non (h2.put a (.lst (L2 ++ [.tup [.str (Str.ofString "begin"), .str (kS kd), .int y.top]] ++ List.replicate (m + 1).toNat (stepD G)))) := fun ts e => by
          have o : dUn (fFld [0] "line") (dVar 0) [some (.ref w), some (Pl.D (.node kd x y)), some (.int x.top), some (.int y.top), none] h3 = .ok (.ref a) h3 := by simp [lf3]
          unfold dBM
          rw [o, bind_ok, if_pos t3, e, bind_ok]
          exact a2
        rw [s_drop, bm _ (by simp only [e_cons, e_nil, st, bind_ok]), toS_ok]
      have q4 : wm_4 (F_Work_merged_ k) [some (.ref w), some (Pl.D (.node kd x y)), some (.int x.top), some (.int y.top), none] (h2.put a (.lst (L2 ++ [.tup [.str (Str.ofString "begin"), .str (kS kd), .int y.top]] ++ List.replicate (m + 1).toNat (stepD G)))) = _ := fa
      rw [wm_u, seqX q0, seqX q1, seqX q2, seqX q3, seqX q4]
      unfold wm_5
      cases kd <;> simp [i0, eq_up, Pl.top]
    · have el : L ++ lineOf m g (x.jobs ++ y.jobs ++ [(kd, y.top, x.top)]) = L2 ++ [.tup [.str (Str.ofString "begin"), .str (kS kd), .int y.top]] ++ List.replicate (m + 1).toNat (stepD G) := by
        rw [line_app, line_app, ← hL, ← hG]
        simp [lineOf, Int.add_assoc]
      show Wk w a m (g + ((x.jobs ++ y.jobs ++ [(kd, y.top, x.top)]).length : Nat)) (L ++ lineOf m g (x.jobs ++ y.jobs ++ [(kd, y.top, x.top)])) _
      rw [el, show g + ((x.jobs ++ y.jobs ++ [(kd, y.top, x.top)]).length : Nat) = G + 1 by simp only [List.length_append, List.length_cons, List.length_nil]; omega]
      exact W5
    · show h2.nx = h.nx
      omega
    · intro j jw ja
      rw [put_ne jw, put_ne ja, f2 j jw ja, f1 j jw ja]
abbrev covD : CM.D := .tup [.str (Str.ofString "cover"), .int 0]
abbrev wrtD (i c : Int) : CM.D := .tup [.str (Str.ofString "write"), .int 0, .int c, .int (i + 1)]
def bld : Nat → List (List Int) → List CM.D
  | _, [] => []
  | i, r :: rs => covD :: r.map (fun c => wrtD i c) ++ bld (i + 1) rs
theorem bld_len : ∀ {rs : List (List Int)} {i : Nat}, (∀ r ∈ rs, r.length ≤ 10) → (bld i rs).length ≤ 11 * rs.length
  | [], _, _ => by simp [bld]
  | r :: rs, i, q => by
    have := bld_len (rs := rs) (i := i + 1) fun y hy => q y (List.mem_cons_of_mem _ hy)
    have := q r (List.mem_cons_self ..)
    show (covD :: r.map _ ++ bld (i + 1) rs).length ≤ _
    simp only [List.length_append, List.length_cons, List.length_map]
    omega
def dds (rs : List (List Int)) (p : Pl) : List CM.D := bld 0 rs ++ covD :: lineOf (cellsN rs) 0 p.jobs
def df_0 : SD := (dDrop (dCall 2 F_need_plan (dCons (dVar 0) (dCons (dVar 1) (dNil)))))
def df_1 : SD := (dPar 2 3 (dCons (dLst true (dNil)) (dCons (dMakeN 0 false 2 0 (srcP 0 2) F_Work_init (dCons (dCall 1 F_cells_of (dCons (dVar 0) (dNil))) (dNil)) (dNil)) (dNil))))
def df_2 : SD := (dFor (dEnumT (dCons (dVar 0) (dNil))) (gdTup 2 (gdCons (gdName 4) (gdCons (gdName 5) (gdNil)))) (dSeq (dDrop (dBM "list" fAppend (dVar 2) (dCons (dTup (dCons (dC (.str "cover")) (dCons (dC (.int 0)) (dNil)))) (dNil)))) (dDrop (dBM "list" fExtend (dVar 2) (dCons (dLc false (dSeqI (dVar 5)) (gdName 6) (dYes) (dTup (dCons (dC (.str "write")) (dCons (dC (.int 0)) (dCons (dVar 6) (dCons (dOp (fAdd false) (dVar 4) (dC (.int 1))) (dNil)))))) [6]) (dNil))))))
def df_3 : SD := (dDrop (dMethN 0 "merged" 2 0 (srcP 0 2) F_Work_merged (dVar 3) (dCons (dVar 1) (dNil)) (dNil)))
def df_4 : SD := (dRet (dLst true (dStar (dVar 2) (dCons (dTup (dCons (dC (.str "cover")) (dCons (dC (.int 0)) (dNil)))) (dStar (dUn (fFld [0] "line") (dVar 3)) (dNil))))))
theorem df_u : u_deeds_for = (dSeq (df_0) (dSeq (df_1) (dSeq (df_2) (dSeq (df_3) (df_4))))) := rfl
section
variable {h : CH} {rs : List (List Int)} {X : CM.D}
def dlB : SD := (dSeq (dDrop (dBM "list" fAppend (dVar 2) (dCons (dTup (dCons (dC (.str "cover")) (dCons (dC (.int 0)) (dNil)))) (dNil)))) (dDrop (dBM "list" fExtend (dVar 2) (dCons (dLc false (dSeqI (dVar 5)) (gdName 6) (dYes) (dTup (dCons (dC (.str "write")) (dCons (dC (.int 0)) (dCons (dVar 6) (dCons (dOp (fAdd false) (dVar 4) (dC (.int 1))) (dNil)))))) [6]) (dNil)))))
theorem writes_ok {k i : Nat} {x0 x1 x2 x3 x6 : Option CM.D} : ∀ {cs : List Int}, dLcL (gdName 6) dYes (dTup (dCons (dC (.str "write")) (dCons (dC (.int 0)) (dCons (dVar 6) (dCons (dOp (fAdd false) (dVar 4) (dC (.int 1))) (dNil)))))) [x0, x1, x2, x3, some (.int i), x6, none] (cs.map CM.D.int) h = .ok (cs.map fun c => wrtD i c) h
  | [] => rfl
  | c :: cs => by
    have l4 : 4 ≤ sizeLine := by decide
    have ev : (dTup (dCons (dC (.str "write")) (dCons (dC (.int 0)) (dCons (dVar 6) (dCons (dOp (fAdd false) (dVar 4) (dC (.int 1))) (dNil)))))) [x0, x1, x2, x3, some (.int i), x6, some (.int c)] h = .ok (wrtD i c) h := by
      simp [addI, l4]
    rw [List.map_cons]
    show (R.ok [x0, x1, x2, x3, some (.int i), x6, some (.int c)] h).calm _ = _
    rw [calm_ok]
    show ((R.ok true h : R Bool).calm _ : R (List CM.D)) = _
    rw [calm_ok, if_pos rfl, ev, calm_ok, writes_ok (k := k) (cs := cs)]
    rfl
theorem dl_ok {k : Nat} {x0 x1 x3 : Option CM.D} : ∀ {rows : List (List Int)} {i : Nat} {acc : List CM.D} {h : CH} {x4 x5 x6 : Option CM.D}, (∀ r ∈ rows, r.length ≤ 10) → h.ob k = some (.lst acc) → acc.length + 11 * rows.length < 90000 →
    ∃ b4 b5 b6, dForL (gdTup 2 (gdCons (gdName 4) (gdCons (gdName 5) (gdNil)))) dlB (enD i (rowsD rows)) [x0, x1, some (.ref k), x3, x4, x5, x6] h = .nx [x0, x1, some (.ref k), x3, b4, b5, b6] (if rows = [] then h else h.put k (.lst (acc ++ bld i rows)))
  | [], i, acc, h, x4, x5, x6, q, e, l => ⟨x4, x5, x6, rfl⟩
  | r :: rows, i, acc, h, x4, x5, x6, q, e, l => by
    have lr := q r (List.mem_cons_self ..)
    simp only [List.length_cons] at l
    have l2 : 2 ≤ sizeLine := by decide
    have a1 := app_at (y := covD) e (by omega)
    have e1 : (h.put k (.lst (acc ++ [covD]))).ob k = some (.lst (acc ++ [covD])) := put_same
    have a2 := ext_at (es := r.map fun c => wrtD i c) e1 (by simp only [List.length_append, List.length_cons, List.length_nil, List.length_map]; omega)
    rw [put_put] at a2
    have tg : (gdTup 2 (gdCons (gdName 4) (gdCons (gdName 5) (gdNil)))) (.tup [.int i, tupI r]) [x0, x1, some (.ref k), x3, x4, x5, x6] h = .ok [x0, x1, some (.ref k), x3, some (.int i), some (tupI r), x6] h := by simp [gdTup, gdCons, gdNil]
    have t1 : isTy "list" (.ref k) h = true := by simp [isTy, lstOf, e]
    have t2 : isTy "list" (.ref k) (h.put k (.lst (acc ++ [covD]))) = true := by simp [isTy, lstOf, e1]
    have lc : dLc false (dSeqI (dVar 5)) (gdName 6) (dYes) (dTup (dCons (dC (.str "write")) (dCons (dC (.int 0)) (dCons (dVar 6) (dCons (dOp (fAdd false) (dVar 4) (dC (.int 1))) (dNil)))))) [6] [x0, x1, some (.ref k), x3, some (.int i), some (tupI r), x6] (h.put k (.lst (acc ++ [covD]))) = .ok (.lst (r.map fun c => wrtD i c)) (h.put k (.lst (acc ++ [covD]))) := by
      unfold dLc
      simp only [e_seqI, e_var, List.getElem?_cons_zero, List.getElem?_cons_succ, bind_ok, itemsD]
      rw [if_pos (Nat.le_trans (show _ ≤ 100 by rw [List.length_map]; omega) (by decide))]
      show ((dLcL (gdName 6) dYes _ [x0, x1, some (.ref k), x3, some (.int i), some (tupI r), none] _ _).bind _).unl none = _
      rw [writes_ok (k := k)]
      rfl
    have body : dlB [x0, x1, some (.ref k), x3, some (.int i), some (tupI r), x6] h = .nx [x0, x1, some (.ref k), x3, some (.int i), some (tupI r), x6] (h.put k (.lst (acc ++ [covD] ++ r.map fun c => wrtD i c))) := by
      unfold dlB
      have b1 : (dDrop (dBM "list" fAppend (dVar 2) (dCons (dTup (dCons (dC (.str "cover")) (dCons (dC (.int 0)) (dNil)))) (dNil)))) [x0, x1, some (.ref k), x3, some (.int i), some (tupI r), x6] h = .nx [x0, x1, some (.ref k), x3, some (.int i), some (tupI r), x6] (h.put k (.lst (acc ++ [covD]))) := by
        simp [t1, l2, a1]
      rw [seqX b1]
      have bm : ∀ ts : TDs, ts [x0, x1, some (.ref k), x3, some (.int i), some (tupI r), x6] (h.put k (.lst (acc ++ [covD]))) = .ok [.lst (r.map fun c => wrtD i c)] (h.put k (.lst (acc ++ [covD]))) → dBM "list" fExtend (dVar 2) ts [x0, x1, some (.ref k), x3, some (.int i), some (tupI r), x6] (h.put k (.lst (acc ++ [covD]))) = .ok .non (h.put k (.lst (acc ++ [covD] ++ r.map fun c => wrtD i c))) := fun ts e => by
        have o : dVar 2 [x0, x1, some (.ref k), x3, some (.int i), some (tupI r), x6] (h.put k (.lst (acc ++ [covD]))) = .ok (.ref k) (h.put k (.lst (acc ++ [covD]))) := rfl
        unfold dBM
        rw [o, bind_ok, if_pos t2, e, bind_ok]
        exact a2
      rw [s_drop, bm _ (by simp only [e_cons, e_nil, lc, bind_ok]), toS_ok]
    have lb : (acc ++ [covD] ++ r.map fun c => wrtD i c).length + 11 * rows.length < 90000 := by simp only [List.length_append, List.length_cons, List.length_nil, List.length_map]; omega
    obtain ⟨b4, b5, b6, ih⟩ := dl_ok (k := k) (x0 := x0) (x1 := x1) (x3 := x3) (rows := rows) (i := i + 1) (acc := acc ++ [covD] ++ r.map fun c => wrtD i c) (h := h.put k (.lst (acc ++ [covD] ++ r.map fun c => wrtD i c))) (x4 := some (.int i)) (x5 := some (tupI r)) (x6 := x6) (fun y hy => q y (List.mem_cons_of_mem _ hy)) put_same lb
    refine ⟨b4, b5, b6, ?_⟩
    show (((gdTup 2 (gdCons (gdName 4) (gdCons (gdName 5) (gdNil)))) (.tup [.int i, tupI r]) [x0, x1, some (.ref k), x3, x4, x5, x6] h).put _) = _
    rw [tg]
    show (match dlB [x0, x1, some (.ref k), x3, some (.int i), some (tupI r), x6] h with
      | .nx ρ2 h2 => dForL (gdTup 2 (gdCons (gdName 4) (gdCons (gdName 5) (gdNil)))) dlB (enD (i + 1) (rowsD rows)) ρ2 h2
      | .ct ρ2 h2 => dForL (gdTup 2 (gdCons (gdName 4) (gdCons (gdName 5) (gdNil)))) dlB (enD (i + 1) (rowsD rows)) ρ2 h2
      | .bk ρ2 h2 => .nx ρ2 h2
      | x => x) = _
    rw [body]
    show dForL _ _ _ _ _ = _
    rw [ih]
    by_cases z : rows = []
    · subst z
      simp [bld]
    · rw [if_neg z, if_neg (by simp), put_put]
      simp [bld]
abbrev wk1 (m : Int) : List (Str × CM.D) := [("cells_there", .int m)]
abbrev wk2 (m : Int) (a : Nat) : List (Str × CM.D) := [("cells_there", .int m), ("line", .ref a)]
theorem new_ob {o : MO} {j : Nat} : (h.new o).ob j = if j = h.nx then some o else h.ob j := rfl
theorem new_lt {o : MO} {j : Nat} (l : j < h.nx) : (h.new o).ob j = h.ob j := by rw [new_ob, if_neg (by omega)]
theorem init_ok {m : Int} : F_Work_init [.ref h.nx, .int m] (h.new (.obj 0 [])) = .ok .non ((((h.new (.obj 0 [])).put h.nx (.obj 0 (wk1 m))).new (.lst [])).put h.nx (.obj 0 (wkF m (h.nx + 1) 0))) := by
  show (u_Work_init [some (.ref h.nx), some (.int m)] (h.new (.obj 0 []))).res = _
  unfold u_Work_init
  have o0 : (h.new (.obj 0 [])).ob h.nx = some (.obj 0 []) := by rw [new_ob, if_pos rfl]
  have o1 : (((h.new (.obj 0 [])).put h.nx (.obj 0 (wk1 m))).new (.lst [])).ob h.nx = some (.obj 0 (wk1 m)) := by
    rw [new_lt (by show h.nx < h.nx + 1; omega)]
    exact put_same
  have p0 : putD (Str.ofString "cells_there") (.int m) [] = (wk1 m) := rfl
  have p1 : putD (Str.ofString "line") (.ref (h.nx + 1)) (wk1 m) = (wk2 m (h.nx + 1)) := by kernel_rfl
  have p2 : putD (Str.ofString "begun_jobs") (.int 0) (wk2 m (h.nx + 1)) = wkF m (h.nx + 1) 0 := by kernel_rfl
  have q0 : (dAsg (dVar 1) (gdFld [0] "cells_there" (dVar 0))) [some (.ref h.nx), some (.int m)] (h.new (.obj 0 [])) = .nx [some (.ref h.nx), some (.int m)] ((h.new (.obj 0 [])).put h.nx (.obj 0 (wk1 m))) := by
    simp [gdFld, refOf, o0, p0]
  have q1 : (dAsg (dLst true (dNil)) (gdFld [0] "line" (dVar 0))) [some (.ref h.nx), some (.int m)] ((h.new (.obj 0 [])).put h.nx (.obj 0 (wk1 m))) = .nx [some (.ref h.nx), some (.int m)] ((((h.new (.obj 0 [])).put h.nx (.obj 0 (wk1 m))).new (.lst [])).put h.nx (.obj 0 (wk2 m (h.nx + 1)))) := by
    have nx : ((h.new (.obj 0 [])).put h.nx (.obj 0 (wk1 m))).nx = h.nx + 1 := rfl
    simp [mkL, gdFld, refOf, o1, nx, p1]
  have q2 : (dAsg (dC (.int 0)) (gdFld [0] "begun_jobs" (dVar 0))) [some (.ref h.nx), some (.int m)] ((((h.new (.obj 0 [])).put h.nx (.obj 0 (wk1 m))).new (.lst [])).put h.nx (.obj 0 (wk2 m (h.nx + 1)))) = .nx [some (.ref h.nx), some (.int m)] ((((h.new (.obj 0 [])).put h.nx (.obj 0 (wk1 m))).new (.lst [])).put h.nx (.obj 0 (wkF m (h.nx + 1) 0))) := by
    have o2 : ((((h.new (.obj 0 [])).put h.nx (.obj 0 (wk1 m))).new (.lst [])).put h.nx (.obj 0 (wk2 m (h.nx + 1)))).ob h.nx = some (.obj 0 (wk2 m (h.nx + 1))) := put_same
    simp [gdFld, refOf, o2, p2, put_put]
  rw [seqX q0, seqX q1, q2]
  rfl
theorem deeds_ok (C : Chain rs) (c : ChD rs X) {p : Pl} (s : Sp p 0 (rs.length - 1)) : ∃ k h', F_deeds_for [X, p.D] h = .ok (.ref k) h' ∧ h'.ob k = some (.lst (dds rs p)) ∧ h.nx ≤ k ∧ k < h'.nx ∧ Kp h h' := by
  have n1 := C.ne
  have n8 := C.le
  obtain ⟨c1, c2⟩ := cells_bd C
  have lens : ∀ r ∈ rs, r.length ≤ 10 := fun r hr => (C.own r hr).len
  -- the two objects
  have o1 : (h.new (.lst [])).nx = h.nx + 1 := rfl
  have q0 : df_0 [some X, some p.D, none, none, none, none, none] h = .nx [some X, some p.D, none, none, none, none, none] h := by
    unfold df_0
    simp [need_plan_ok C c s]
  generalize hW : ((((h.new (.lst [])).new (.obj 0 [])).put (h.nx + 1) (.obj 0 (wk1 (cellsN rs)))).new (.lst [])).put (h.nx + 1) (.obj 0 (wkF (cellsN rs) (h.nx + 2) 0)) = h1
  have n1' : h1.nx = h.nx + 3 := by rw [← hW]; rfl
  have e0 : h1.ob h.nx = some (.lst []) := by
    rw [← hW, put_ne (by omega), new_lt (by show h.nx < h.nx + 2; omega), put_ne (by omega), new_lt (by show h.nx < h.nx + 1; omega), new_ob, if_pos rfl]
  have e2 : h1.ob (h.nx + 2) = some (.lst []) := by
    rw [← hW, put_ne (by omega), new_ob]
    exact if_pos rfl
  have W1 : Wk (h.nx + 1) (h.nx + 2) (cellsN rs) 0 [] h1 := ⟨by rw [← hW]; exact put_same, e2, by omega⟩
  have k1 : ∀ j, j < h.nx → h1.ob j = h.ob j := fun j hj => by
    rw [← hW, put_ne (by omega), new_lt (by show j < h.nx + 2; omega), put_ne (by omega), new_lt (by show j < h.nx + 1; omega), new_lt hj]
  have q1 : df_1 [some X, some p.D, none, none, none, none, none] h = .nx [some X, some p.D, some (.ref h.nx), some (.ref (h.nx + 1)), none, none, none] h1 := by
    unfold df_1 dPar
    have i := init_ok (h := h.new (.lst [])) (m := cellsN rs)
    rw [o1] at i
    have mk : (dMakeN 0 false 2 0 (srcP 0 2) F_Work_init (dCons (dCall 1 F_cells_of (dCons (dVar 0) (dNil))) (dNil)) (dNil)) [some X, some p.D, none, none, none, none, none] (h.new (.lst [])) = .ok (.ref (h.nx + 1)) h1 := by
      unfold dMakeN
      simp [cells_of_ok C c, srcP, pickD, o1, i, hW]
    have l : (dLst true (dNil)) [some X, some p.D, none, none, none, none, none] h = .ok (.ref h.nx) (h.new (.lst [])) := by simp [mkL]
    simp only [e_cons, e_nil, l, mk, bind_ok, toS_ok]
    rfl
  obtain ⟨a4, a5, a6, L⟩ := dl_ok (k := h.nx) (x0 := some X) (x1 := some p.D) (x3 := some (.ref (h.nx + 1))) (rows := rs) (i := 0) (acc := []) (h := h1) (x4 := none) (x5 := none) (x6 := none) lens e0 (by simp; omega)
  have rne : rs ≠ [] := fun z => by rw [z] at n1; simp at n1
  rw [if_neg rne, List.nil_append] at L
  have q2 : df_2 [some X, some p.D, some (.ref h.nx), some (.ref (h.nx + 1)), none, none, none] h1 = .nx [some X, some p.D, some (.ref h.nx), some (.ref (h.nx + 1)), a4, a5, a6] (h1.put h.nx (.lst (bld 0 rs))) := by
    have it : dEnumT (dCons (dVar 0) (dNil)) [some X, some p.D, some (.ref h.nx), some (.ref (h.nx + 1)), none, none, none] h1 = .ok (enD 0 (rowsD rs), none) h1 := by
      unfold dEnumT
      rcases c with rfl | rfl <;> simp
    show (dFor (dEnumT (dCons (dVar 0) (dNil))) _ dlB) _ _ = _
    rw [s_for, it, toS_ok]
    simp only
    rw [L]
    rfl
  have W2 : Wk (h.nx + 1) (h.nx + 2) (cellsN rs) 0 [] (h1.put h.nx (.lst (bld 0 rs))) := ⟨by rw [put_ne (by omega)]; exact W1.ob, by rw [put_ne (by omega)]; exact W1.ln, W1.ne⟩
  obtain ⟨h3, e3, W3, n3, f3⟩ := merged_ok (w := h.nx + 1) (a := h.nx + 2) (m := cellsN rs) (by omega) c2 (p := p) (g := 0) (k := 9) (L := []) (h := h1.put h.nx (.lst (bld 0 rs))) s (by omega) (by omega) W2 (by simp; omega)
  have e3' : F_Work_merged [.ref (h.nx + 1), p.D] (h1.put h.nx (.lst (bld 0 rs))) = .ok (.int p.top) h3 := e3
  have q3 : df_3 [some X, some p.D, some (.ref h.nx), some (.ref (h.nx + 1)), a4, a5, a6] (h1.put h.nx (.lst (bld 0 rs))) = .nx [some X, some p.D, some (.ref h.nx), some (.ref (h.nx + 1)), a4, a5, a6] h3 := by
    have ow : objOf (h1.put h.nx (.lst (bld 0 rs))) (.ref (h.nx + 1)) = some (0, wkF (cellsN rs) (h.nx + 2) 0) := by simp only [objOf, W2.ob]
    have lk : (wkF (cellsN rs) (h.nx + 2) 0).lookup (Str.ofString "merged") = none := by kernel_rfl
    unfold df_3
    rw [s_drop]
    have c : (dMethN 0 "merged" 2 0 (srcP 0 2) F_Work_merged (dVar 3) (dCons (dVar 1) (dNil)) (dNil)) [some X, some p.D, some (.ref h.nx), some (.ref (h.nx + 1)), a4, a5, a6] (h1.put h.nx (.lst (bld 0 rs))) = .ok (.int p.top) h3 := by
      unfold dMethN
      simp [ow, lk, srcP, pickD, e3']
    rw [c, toS_ok]
  have ob3 : h3.ob h.nx = some (.lst (bld 0 rs)) := by rw [f3 h.nx (by omega) (by omega)]; exact put_same
  have ln3 : h3.ob (h.nx + 2) = some (.lst (lineOf (cellsN rs) 0 p.jobs)) := by rw [W3.ln, List.nil_append]
  have n3' : h3.nx = h.nx + 3 := by rw [n3]; exact n1'
  have jl := jobs_len s
  have ll := line_len (m := cellsN rs) (by omega) c2 (js := p.jobs) (g := 0)
  have bl := bld_len (i := 0) lens
  have q4 : df_4 [some X, some p.D, some (.ref h.nx), some (.ref (h.nx + 1)), a4, a5, a6] h3 = .rt (.ref h3.nx) (h3.new (.lst (dds rs p))) := by
    have lf := (fld_get W3).1
    have l2 : 2 ≤ sizeLine := by decide
    have s1 : seqOf h3 (.ref h.nx) = some (bld 0 rs) := by simp only [seqOf, ob3]
    have s2 : seqOf h3 (.ref (h.nx + 2)) = some (lineOf (cellsN rs) 0 p.jobs) := by simp only [seqOf, ln3]
    have ld : (dds rs p).length ≤ sizeLine := Nat.le_trans (show _ ≤ 1000 by unfold dds; simp only [List.length_append, List.length_cons]; omega) (by decide)
    have ts : (dStar (dVar 2) (dCons (dTup (dCons (dC (.str "cover")) (dCons (dC (.int 0)) (dNil)))) (dStar (dUn (fFld [0] "line") (dVar 3)) (dNil)))) [some X, some p.D, some (.ref h.nx), some (.ref (h.nx + 1)), a4, a5, a6] h3 = .ok (dds rs p) h3 := by
      unfold dStar
      simp [s1, s2, lf, l2, dds]
    unfold df_4
    rw [s_ret]
    have t : (dLst true (dStar (dVar 2) (dCons (dTup (dCons (dC (.str "cover")) (dCons (dC (.int 0)) (dNil)))) (dStar (dUn (fFld [0] "line") (dVar 3)) (dNil))))) [some X, some p.D, some (.ref h.nx), some (.ref (h.nx + 1)), a4, a5, a6] h3 = .ok (.ref h3.nx) (h3.new (.lst (dds rs p))) := by
      unfold dLst
      rw [ts, bind_ok, if_pos ld]
      rfl
    rw [t, toS_ok]
  refine ⟨h3.nx, h3.new (.lst (dds rs p)), ?_, by rw [new_ob, if_pos rfl], by omega, Nat.lt_succ_self _, ⟨by show h.nx ≤ h3.nx + 1; omega, fun j hj => ?_⟩⟩
  · show (u_deeds_for [some X, some p.D, none, none, none, none, none] h).res = _
    rw [df_u, seqX q0, seqX q1, seqX q2, seqX q3, q4]
    rfl
  · rw [new_lt (by omega), f3 j (by omega) (by omega), put_ne (by omega)]
    exact k1 j hj
end
abbrev kI (A : AL Int) : List (Key × CM.D) := toD (fun _ v => CM.D.int v) A
def entL (ad : Nat → Nat) (S : LS) (i : Nat) : CM.D := match S (i : Int) with
  | some _ => .ref (ad i)
  | none => .non
structure Lay (b : Nat) (h : CH) (LR : Nat) (ad : Nat → Nat) (n : Nat) (S : LS) : Prop where
  ob : h.ob LR = some (.lst ((List.range n).map (entL ad S)))
  dc : ∀ i, i < n → ∀ A, S (i : Int) = some A → h.ob (ad i) = some (.dct (kI A))
  inj : ∀ i j, i < n → j < n → ad i = ad j → i = j
  ne : ∀ i, i < n → ad i ≠ LR
  bd : ∀ i, i < n → b ≤ ad i ∧ ad i < h.nx
  bl : b ≤ LR ∧ LR < h.nx
theorem kI_put {A : AL Int} {c v : Int} : dPut (kI A) (.inl c) (.int v) = kI (aPut A c v) := dPut_toD (f := fun _ v => CM.D.int v)
theorem kI_get {A : AL Int} {c : Int} : dGet (kI A) (.inl c) = (aGet A c).map CM.D.int := dGet_toD
section
variable {b LR n : Nat} {h h1 : CH} {ad : Nat → Nat} {S : LS} {A : AL Int}
theorem Lay.congr {S' : LS} (L : Lay b h LR ad n S) (e : ∀ i : Nat, i < n → S' i = S i) : Lay b h LR ad n S' := by
  refine ⟨?_, fun i hi A q => L.dc i hi A (by rw [← e i hi]; exact q), L.inj, L.ne, L.bd, L.bl⟩
  rw [L.ob]
  congr 2
  refine List.map_congr_left fun i hi => ?_
  unfold entL
  rw [e i (List.mem_range.mp hi)]
theorem Lay.keep (L : Lay b h LR ad n S) (nx : h.nx ≤ h1.nx) (k : ∀ j, b ≤ j → j < h.nx → h1.ob j = h.ob j) : Lay b h1 LR ad n S :=
  ⟨(k LR L.bl.1 L.bl.2).trans L.ob, fun i hi A q => (k _ (L.bd i hi).1 (L.bd i hi).2).trans (L.dc i hi A q), L.inj, L.ne, fun i hi => ⟨(L.bd i hi).1, Nat.lt_of_lt_of_le (L.bd i hi).2 nx⟩, ⟨L.bl.1, Nat.lt_of_lt_of_le L.bl.2 nx⟩⟩
theorem Lay.put {i : Nat} (L : Lay b h LR ad n S) (hi : i < n) {A B : AL Int} (e : S (i : Int) = some A) : Lay b (h.put (ad i) (.dct (kI B))) LR ad n (upL S i (some B)) := by
  refine ⟨?_, fun j hj C q => ?_, L.inj, L.ne, L.bd, L.bl⟩
  · rw [put_ne (L.ne i hi).symm, L.ob]
    congr 2
    refine List.map_congr_left fun j hj => ?_
    unfold entL upL
    by_cases z : (j : Int) = i
    · have : j = i := by omega
      subst this
      rw [if_pos rfl, e]
    · rw [if_neg z]
  · unfold upL at q
    by_cases z : (j : Int) = i
    · have : j = i := by omega
      subst this
      rw [if_pos rfl] at q
      cases q
      exact put_same
    · rw [if_neg z] at q
      rw [put_ne (fun w => z (by have := L.inj _ _ hj hi w; omega))]
      exact L.dc j hj C q
theorem Lay.drop {i : Nat} (L : Lay b h LR ad n S) (hi : i < n) : Lay b (h.put LR (.lst (((List.range n).map (entL ad S)).set i .non))) LR ad n (upL S i none) := by
  refine ⟨?_, fun j hj C q => ?_, L.inj, L.ne, L.bd, L.bl⟩
  · rw [put_same]
    congr 2
    refine List.ext_getElem? fun j => ?_
    rw [List.getElem?_set]
    by_cases hj : j < n
    · by_cases z : i = j
      · subst z
        rw [if_pos rfl, if_pos (by simpa using hi)]
        simp [hi, entL, upL]
      · rw [if_neg z]
        have z' : ¬ (j : Int) = i := by omega
        simp [hj, entL, upL, z']
    · have z : ¬ i = j := by omega
      rw [if_neg z]
      simp [hj]
  · unfold upL at q
    by_cases z : (j : Int) = i
    · rw [if_pos z] at q; cases q
    · rw [if_neg z] at q
      rw [put_ne (L.ne j hj)]
      exact L.dc j hj C q
theorem Lay.grow (L : Lay b h LR ad n S) : Lay b ((h.new (.dct [])).put LR (.lst ((List.range n).map (entL ad S) ++ [.ref h.nx]))) LR (fun i => if i = n then h.nx else ad i) (n + 1) (upL S n (some [])) := by
  have lb := L.bl
  refine ⟨?_, fun j hj C q => ?_, fun i j hi hj e => ?_, fun i hi => ?_, fun i hi => ?_, ⟨lb.1, by show LR < h.nx + 1; omega⟩⟩
  · rw [put_same, List.range_succ, List.map_append]
    congr 3
    · refine List.map_congr_left fun j hj => ?_
      have hj := List.mem_range.mp hj
      unfold entL upL
      simp only
      rw [if_neg (show ¬ (j : Int) = n by omega), if_neg (show ¬ j = n by omega)]
    · simp [entL, upL]
  · by_cases z : j = n
    · subst z
      unfold upL at q
      rw [if_pos rfl] at q
      cases q
      show ((h.new (.dct [])).put LR _).ob (if j = j then h.nx else ad j) = _
      rw [if_pos rfl, put_ne (by omega), new_ob, if_pos rfl]
      rfl
    · have hj' : j < n := by omega
      unfold upL at q
      rw [if_neg (by omega)] at q
      show ((h.new (.dct [])).put LR _).ob (if j = n then h.nx else ad j) = _
      rw [if_neg z, put_ne (L.ne j hj'), new_lt (L.bd j hj').2]
      exact L.dc j hj' C q
  · replace e : (if i = n then h.nx else ad i) = (if j = n then h.nx else ad j) := e
    by_cases zi : i = n <;> by_cases zj : j = n
    · omega
    · rw [if_pos zi, if_neg zj] at e
      have := (L.bd j (by omega)).2
      omega
    · rw [if_neg zi, if_pos zj] at e
      have := (L.bd i (by omega)).2
      omega
    · rw [if_neg zi, if_neg zj] at e
      exact L.inj i j (by omega) (by omega) e
  · show (if i = n then h.nx else ad i) ≠ LR
    by_cases zi : i = n
    · rw [if_pos zi]; omega
    · rw [if_neg zi]; exact L.ne i (by omega)
  · show b ≤ (if i = n then h.nx else ad i) ∧ (if i = n then h.nx else ad i) < _
    by_cases zi : i = n
    · rw [if_pos zi]; exact ⟨by omega, by show h.nx < h.nx + 1; omega⟩
    · rw [if_neg zi]
      have := L.bd i (by omega)
      exact ⟨this.1, by show ad i < h.nx + 1; omega⟩
theorem Lay.at (L : Lay b h LR ad n S) {i : Nat} (hi : i < n) {A : AL Int} (e : S (i : Int) = some A) : fIx (.ref LR) (.int i) h = .ok (.ref (ad i)) h := by
  have q : ((List.range n).map (entL ad S))[i]? = some (.ref (ad i)) := by simp [hi, entL, e]
  unfold fIx
  simp only [seqOf, L.ob]
  have a : atI ((List.range n).map (entL ad S)) (i : Int) = some (.ref (ad i)) := by
    unfold atI ixN
    rw [List.length_map, List.length_range, if_pos (by omega), if_pos (by omega)]
    exact q
  rw [a]
theorem Lay.last (L : Lay b h LR ad n S) (hn : 0 < n) {A : AL Int} (e : S ((n - 1 : Nat) : Int) = some A) : fIx (.ref LR) (.int (-1)) h = .ok (.ref (ad (n - 1))) h := by
  have q : ((List.range n).map (entL ad S))[n - 1]? = some (.ref (ad (n - 1))) := by
    have : n - 1 < n := by omega
    simp [this, entL, e]
  unfold fIx
  simp only [seqOf, L.ob]
  have a : atI ((List.range n).map (entL ad S)) (-1) = some (.ref (ad (n - 1))) := by
    unfold atI ixN
    rw [List.length_map, List.length_range, if_neg (by omega), if_pos (by omega), show ((-1 : Int) + (n : Int)).toNat = n - 1 by omega]
    exact q
  rw [a]
end
def lb_0 : SD := (dAsg (dLst true (dCons (dDNew true) (dNil))) (gdName 1))
def lb_1 : SD := (dFor (dSeqI (dVar 0)) (gdName 2) (dIfS (dB (dOp (fEq false) (dVar 2) (dTup (dCons (dC (.str "cover")) (dCons (dC (.int 0)) (dNil)))))) (dDrop (dBM "list" fAppend (dVar 1) (dCons (dDNew true) (dNil)))) (dIfS (dAnd (dB (dOp (fEq false) (dCB fLen (dCons (dVar 2) (dNil))) (dC (.int 4)))) (dB (dOp (fEq false) (dSl false (dVar 2) (dNoPart) (dPart (dC (.int 2)))) (dTup (dCons (dC (.str "write")) (dCons (dC (.int 0)) (dNil))))))) (dAsg (dOp fIx (dVar 2) (dC (.int 3))) (gdSub (dOp fIx (dVar 1) (dUn fNeg (dC (.int 1)))) (dOp fIx (dVar 2) (dC (.int 2))))) (dRet (dC .non)))))
def lb_2 : SD := (dRet (dVar 1))
theorem lb_u : u__law_built = (dSeq (lb_0) (dSeq (lb_1) (lb_2))) := rfl
section
variable {b LR n : Nat} {h : CH} {ad : Nat → Nat} {S : LS} {A : AL Int}
theorem cov_same : fEq false covD covD h = .ok (.bl true) h := by kernel_rfl
theorem wrt_cov {i c : Int} : fEq false (wrtD i c) covD h = .ok (.bl false) h := by kernel_rfl
theorem wr_same : fEq false (.tup [.str (Str.ofString "write"), .int 0]) (.tup [.str (Str.ofString "write"), .int 0]) h = .ok (.bl true) h := by kernel_rfl
def lbB : SD := (dIfS (dB (dOp (fEq false) (dVar 2) (dTup (dCons (dC (.str "cover")) (dCons (dC (.int 0)) (dNil)))))) (dDrop (dBM "list" fAppend (dVar 1) (dCons (dDNew true) (dNil)))) (dIfS (dAnd (dB (dOp (fEq false) (dCB fLen (dCons (dVar 2) (dNil))) (dC (.int 4)))) (dB (dOp (fEq false) (dSl false (dVar 2) (dNoPart) (dPart (dC (.int 2)))) (dTup (dCons (dC (.str "write")) (dCons (dC (.int 0)) (dNil))))))) (dAsg (dOp fIx (dVar 2) (dC (.int 3))) (gdSub (dOp fIx (dVar 1) (dUn fNeg (dC (.int 1)))) (dOp fIx (dVar 2) (dC (.int 2))))) (dRet (dC .non))))
theorem b_cov {x0 x2 : Option CM.D} (L : Lay b h LR ad n S) (hn : n < 100) : lbB [x0, some (.ref LR), some covD] h = .nx [x0, some (.ref LR), some covD] ((h.new (.dct [])).put LR (.lst ((List.range n).map (entL ad S) ++ [.ref h.nx]))) := by
  have l2 : 2 ≤ sizeLine := by decide
  have e1 : (h.new (.dct [])).ob LR = some (.lst ((List.range n).map (entL ad S))) := (new_lt L.bl.2).trans L.ob
  have t : isTy "list" (.ref LR) h = true := by simp [isTy, lstOf, L.ob]
  have a := app_at (y := .ref h.nx) e1 (by simp; omega)
  have c1 : (dB (dOp (fEq false) (dVar 2) (dTup (dCons (dC (.str "cover")) (dCons (dC (.int 0)) (dNil)))))) [x0, some (.ref LR), some covD] h = .ok true h := by
    have := cov_same (h := h)
    simp [l2, this]
  unfold lbB
  rw [s_if, c1, toS_ok, if_pos rfl]
  have bm : dBM "list" fAppend (dVar 1) (dCons (dDNew true) (dNil)) [x0, some (.ref LR), some covD] h = .ok .non ((h.new (.dct [])).put LR (.lst ((List.range n).map (entL ad S) ++ [.ref h.nx]))) := by
    have o : dVar 1 [x0, some (.ref LR), some covD] h = .ok (.ref LR) h := rfl
    have ts : dCons (dDNew true) (dNil) [x0, some (.ref LR), some covD] h = .ok [.ref h.nx] (h.new (.dct [])) := rfl
    unfold dBM
    rw [o, bind_ok, if_pos t, ts, bind_ok]
    exact a
  rw [s_drop, bm, toS_ok]
theorem b_wrt {x0 : Option CM.D} {i c : Int} (L : Lay b h LR ad n S) (hn : 0 < n) (e : S ((n - 1 : Nat) : Int) = some A) (la : A.length < 1000) : lbB [x0, some (.ref LR), some (wrtD i c)] h = .nx [x0, some (.ref LR), some (wrtD i c)] (h.put (ad (n - 1)) (.dct (kI (aPut A c (i + 1))))) := by
  have l2 : 2 ≤ sizeLine := by decide
  have c1 : (dB (dOp (fEq false) (dVar 2) (dTup (dCons (dC (.str "cover")) (dCons (dC (.int 0)) (dNil)))))) [x0, some (.ref LR), some (wrtD i c)] h = .ok false h := by
    have := wrt_cov (h := h) (i := i) (c := c)
    simp [l2, this]
  have sl : dSl false (dVar 2) (dNoPart) (dPart (dC (.int 2))) [x0, some (.ref LR), some (wrtD i c)] h = .ok (.tup [.str (Str.ofString "write"), .int 0]) h := by kernel_rfl
  have ln : fLen [wrtD i c] h = .ok (.int 4) h := rfl
  have e4 : fEq false (.int 4) (.int 4) h = .ok (.bl true) h := by kernel_rfl
  have c2 : (dAnd (dB (dOp (fEq false) (dCB fLen (dCons (dVar 2) (dNil))) (dC (.int 4)))) (dB (dOp (fEq false) (dSl false (dVar 2) (dNoPart) (dPart (dC (.int 2)))) (dTup (dCons (dC (.str "write")) (dCons (dC (.int 0)) (dNil))))))) [x0, some (.ref LR), some (wrtD i c)] h = .ok true h := by
    have w := wr_same (h := h)
    simp [ln, e4, sl, l2, w]
  have i3 : fIx (wrtD i c) (.int 3) h = .ok (.int (i + 1)) h := rfl
  have i2 : fIx (wrtD i c) (.int 2) h = .ok (.int c) h := rfl
  have il := L.last hn e
  have od := L.dc (n - 1) (by omega) A e
  have zl : (kI A).length < sizeLine := Nat.lt_of_lt_of_le (show _ < 1000 by simpa [toD] using la) (by decide)
  unfold lbB
  rw [s_if, c1, toS_ok, if_neg (by simp), s_if, c2, toS_ok, if_pos rfl]
  have ng : fNeg (.int 1) h = .ok (.int (-1)) h := rfl
  simp [i3, gdSub, ng, il, i2, refOf, od, keyD, zl, kI_put]
theorem b_row {x0 : Option CM.D} {i : Int} : ∀ {cs : List Int} {h : CH} {S : LS} {A : AL Int} {x2 : Option CM.D}, Lay b h LR ad n S → 0 < n → S ((n - 1 : Nat) : Int) = some A → A.length + cs.length < 900 →
    ∃ x2' h', Lay b h' LR ad n (upL S (n - 1 : Nat) (some (puts A (cs.map fun c => (c, i + 1))))) ∧ h.nx ≤ h'.nx ∧ (∀ j, j < b → h'.ob j = h.ob j) ∧ ∀ rest, dForL (gdName 2) lbB (cs.map (fun c => wrtD i c) ++ rest) [x0, some (.ref LR), x2] h = dForL (gdName 2) lbB rest [x0, some (.ref LR), x2'] h'
  | [], h, S, A, x2, L, hn, e, l => ⟨x2, h, L.congr fun j hj => by
      unfold upL
      by_cases z : (j : Int) = (n - 1 : Nat)
      · rw [if_pos z, z, e]
        rfl
      · rw [if_neg z], Nat.le_refl _, fun _ _ => rfl, fun _ => rfl⟩
  | c :: cs, h, S, A, x2, L, hn, e, l => by
    simp only [List.length_cons] at l
    have st := b_wrt (x0 := x0) (i := i) (c := c) L hn e (by omega)
    have L1 := L.put (i := n - 1) (by omega) (B := aPut A c (i + 1)) e
    have lp : (aPut A c (i + 1)).length ≤ A.length + 1 := by
      unfold aPut
      split <;> simp
    obtain ⟨x2', h', L2, nx2, fr2, go⟩ := b_row (x0 := x0) (i := i) (cs := cs) (x2 := some (wrtD i c)) L1 hn (by unfold upL; rw [if_pos rfl]) (by omega)
    refine ⟨x2', h', ?_, nx2, fun j hj => ?_, fun rest => ?_⟩
    · refine L2.congr fun j hj => ?_
      unfold upL
      by_cases z : (j : Int) = (n - 1 : Nat)
      · rw [if_pos z, if_pos z]
        rfl
      · rw [if_neg z, if_neg z, if_neg z]
    · rw [fr2 j hj, put_ne (by have := (L.bd (n - 1) (by omega)).1; omega)]
    · rw [← go rest]
      show (R.ok [x0, some (.ref LR), some (wrtD i c)] h).put _ = _
      show (match lbB [x0, some (.ref LR), some (wrtD i c)] h with
        | .nx ρ2 h2 => dForL (gdName 2) lbB (cs.map (fun c => wrtD i c) ++ rest) ρ2 h2
        | .ct ρ2 h2 => dForL (gdName 2) lbB (cs.map (fun c => wrtD i c) ++ rest) ρ2 h2
        | .bk ρ2 h2 => .nx ρ2 h2
        | x => x) = _
      rw [st]
end
theorem puts_self : ∀ {B A : AL Int}, (aKeys (A ++ B)).Nodup → puts A B = A ++ B
  | [], A, _ => by simp [puts]
  | p :: B, A, n => by
    have hp : p.1 ∉ aKeys A := by
      intro m
      simp only [aKeys, List.map_append, List.map_cons] at n
      have := (List.nodup_append.mp n).2.2 p.1 (by simpa [aKeys] using m) p.1 (by simp)
      exact this rfl
    show puts (aPut A p.1 p.2) B = _
    rw [aPut_new hp, puts_self (by simpa using n)]
    simp
section
variable {b LR : Nat} {h : CH}
abbrev rowI (r : List Int) (i : Nat) : AL Int := r.map fun c => (c, (i : Int) + 1)
theorem rowI_puts {r : List Int} {i : Nat} (n : r.Nodup) : puts [] (rowI r i) = rowI r i := by
  rw [puts_self (A := []) (by simpa [aKeys, Function.comp_def] using n)]
  rfl
theorem forL_step {tg : TGD} {u : SD} {d : CM.D} {l : List CM.D} {ρ ρ1 ρ2 : DE} {h h1 h2 : CH} (e1 : tg d ρ h = .ok ρ1 h1) (e2 : u ρ1 h1 = .nx ρ2 h2) : dForL tg u (d :: l) ρ h = dForL tg u l ρ2 h2 := by
  show ((tg d ρ h).put _) = _
  rw [e1]
  show (match u ρ1 h1 with
    | .nx ρ2 h2 => dForL tg u l ρ2 h2
    | .ct ρ2 h2 => dForL tg u l ρ2 h2
    | .bk ρ2 h2 => .nx ρ2 h2
    | x => x) = _
  rw [e2]
theorem b_rows {x0 : Option CM.D} : ∀ {rows : List (List Int)} {i n : Nat} {h : CH} {ad : Nat → Nat} {S : LS} {x2 : Option CM.D}, (∀ r ∈ rows, Own r) → Lay b h LR ad n S → 0 < n → n + rows.length < 50 →
    ∃ x2' h' ad' S', Lay b h' LR ad' (n + rows.length) S' ∧ h.nx ≤ h'.nx ∧ (∀ j, j < b → h'.ob j = h.ob j) ∧ (∀ j : Nat, j < n → S' j = S j) ∧ (∀ (t : Nat) (ht : t < rows.length), S' ((n + t : Nat) : Int) = some (rowI rows[t] (i + t))) ∧
      ∀ rest, dForL (gdName 2) lbB (bld i rows ++ rest) [x0, some (.ref LR), x2] h = dForL (gdName 2) lbB rest [x0, some (.ref LR), x2'] h'
  | [], i, n, h, ad, S, x2, q, L, hn, l => ⟨x2, h, ad, S, L, Nat.le_refl _, fun _ _ => rfl, fun _ _ => rfl, fun t ht => by simp at ht, fun _ => rfl⟩
  | r :: rows, i, n, h, ad, S, x2, q, L, hn, l => by
    simp only [List.length_cons] at l
    have or := q r (List.mem_cons_self ..)
    have st := b_cov (x0 := x0) (x2 := x2) L (by omega)
    have L1 := L.grow
    have e1 : (upL S n (some [])) (((n + 1 : Nat) - 1 : Nat) : Int) = some [] := by
      unfold upL
      rw [if_pos (by omega)]
    obtain ⟨x2a, h2, L2, nx2, fr2, go2⟩ := b_row (x0 := x0) (i := (i : Int)) (cs := r) (x2 := some covD) L1 (by omega) e1 (by have := or.len; simp; omega)
    have en : ((n + 1 : Nat) - 1 : Nat) = n := by omega
    rw [en] at L2
    have ep : puts [] (r.map fun c => (c, (i : Int) + 1)) = rowI r i := rowI_puts (nd_of_lt or.lt)
    rw [ep] at L2
    obtain ⟨x2', h', ad', S', L3, nx3, fr3, s1, s2, go3⟩ := b_rows (x0 := x0) (rows := rows) (i := i + 1) (x2 := x2a) (fun y hy => q y (List.mem_cons_of_mem _ hy)) L2 (by omega) (by omega)
    refine ⟨x2', h', ad', S', ?_, ?_, fun j hj => ?_, fun j hj => ?_, fun t ht => ?_, fun rest => ?_⟩
    · have : n + (r :: rows).length = n + 1 + rows.length := by simp only [List.length_cons]; omega
      rw [this]
      exact L3
    · have : h.nx ≤ h2.nx := Nat.le_trans (Nat.le_succ _) nx2
      omega
    · rw [fr3 j hj, fr2 j hj]
      have lb := L.bl
      rw [put_ne (by omega), new_lt (by omega)]
    · rw [s1 j (by omega)]
      unfold upL
      rw [if_neg (by omega), if_neg (by omega)]
    · cases t with
      | zero =>
        rw [show ((n + 0 : Nat) : Int) = (n : Nat) from rfl, s1 n (by omega)]
        unfold upL
        rw [if_pos rfl]
        rfl
      | succ t =>
        have ht' : t < rows.length := by simp only [List.length_cons] at ht; omega
        have := s2 t ht'
        rw [show n + (t + 1) = n + 1 + t by omega, this]
        show some (rowI (rows[t]'ht') (i + 1 + t)) = some (rowI (rows[t]'ht') (i + (t + 1)))
        rw [show i + 1 + t = i + (t + 1) by omega]
    · show dForL (gdName 2) lbB (covD :: (r.map (fun c => wrtD i c) ++ bld (i + 1) rows) ++ rest) _ _ = _
      rw [List.cons_append, List.append_assoc, forL_step (ρ1 := [x0, some (.ref LR), some covD]) (h1 := h) rfl st, go2, go3]
def S0 (rs : List (List Int)) : LS := fun j => if 1 ≤ j ∧ j ≤ rs.length then some (leafA rs (j - 1)) else some []
theorem built_ok {rs : List (List Int)} (C : Chain rs) : ∃ LR h' ad, F__law_built [.lst (bld 0 rs ++ [covD])] h = .ok (.ref LR) h' ∧ Lay h.nx h' LR ad (rs.length + 2) (S0 rs) ∧ Kp h h' := by
  have n8 := C.le
  have q0 : lb_0 [some (.lst (bld 0 rs ++ [covD])), none, none] h = .nx [some (.lst (bld 0 rs ++ [covD])), some (.ref (h.nx + 1)), none] ((h.new (.dct [])).new (.lst [.ref h.nx])) := by
    have l1 : 1 ≤ sizeLine := by decide
    unfold lb_0
    have t : (dLst true (dCons (dDNew true) (dNil))) [some (.lst (bld 0 rs ++ [covD])), none, none] h = .ok (.ref (h.nx + 1)) ((h.new (.dct [])).new (.lst [.ref h.nx])) := by
      have ts : dCons (dDNew true) (dNil) [some (.lst (bld 0 rs ++ [covD])), none, none] h = .ok [.ref h.nx] (h.new (.dct [])) := rfl
      unfold dLst
      rw [ts, bind_ok, if_pos (show [CM.D.ref h.nx].length ≤ sizeLine from l1)]
      rfl
    rw [s_asg, t, toS_ok]
    rfl
  have L0 : Lay h.nx ((h.new (.dct [])).new (.lst [.ref h.nx])) (h.nx + 1) (fun _ => h.nx) 1 (fun j => if j = 0 then some [] else none) := by
    refine ⟨?_, fun i hi A q => ?_, fun i j hi hj _ => by omega, fun i hi => by show h.nx ≠ h.nx + 1; omega, fun i hi => ⟨Nat.le_refl _, by show h.nx < h.nx + 1 + 1; omega⟩, ⟨by omega, by show h.nx + 1 < h.nx + 1 + 1; omega⟩⟩
    · rw [new_ob]
      exact if_pos rfl
    · have : i = 0 := by omega
      subst this
      have : A = [] := by simpa using q.symm
      subst this
      rw [new_lt (by show h.nx < h.nx + 1; omega), new_ob, if_pos rfl]
      rfl
  obtain ⟨x2, h1, ad1, S1, L1, nx1, fr1, s1, s2, go⟩ := b_rows (x0 := some (.lst (bld 0 rs ++ [covD]))) (rows := rs) (i := 0) (x2 := none) (fun r hr => C.own r hr) L0 (by omega) (by omega)
  have st := b_cov (x0 := some (.lst (bld 0 rs ++ [covD]))) (x2 := x2) L1 (by omega)
  have L2 := L1.grow
  have L3 : Lay h.nx ((h1.new (.dct [])).put (h.nx + 1) (.lst ((List.range (1 + rs.length)).map (entL ad1 S1) ++ [.ref h1.nx]))) (h.nx + 1) (fun i => if i = 1 + rs.length then h1.nx else ad1 i) (1 + rs.length + 1) (S0 rs) := L2.congr fun j hj => by
    unfold S0 upL
    by_cases z : j = 1 + rs.length
    · rw [if_neg (by omega), if_pos (by omega)]
    · rw [if_neg (show ¬ (j : Int) = ((1 + rs.length : Nat) : Int) by omega)]
      by_cases z0 : j = 0
      · subst z0
        rw [if_neg (by omega), s1 0 (by omega)]
        rfl
      · rw [if_pos (by omega)]
        have e := s2 (j - 1) (by omega)
        rw [show 1 + (j - 1) = j by omega] at e
        rw [e]
        have er : rowAt rs ((j : Int) - 1) = rs[j - 1]'(by omega) := by
          have a := rowAt_eq (rs := rs) (i := (j : Int) - 1) (by omega) (by omega)
          rw [show ((j : Int) - 1).toNat = j - 1 by omega] at a
          rw [List.getElem?_eq_getElem (by omega)] at a
          exact (Option.some.inj a).symm
        unfold leafA
        rw [er]
        congr 1
        refine List.map_congr_left fun c _ => ?_
        rw [show 0 + (j - 1) = j - 1 by omega, show ((j - 1 : Nat) : Int) + 1 = (j : Int) - 1 + 1 by omega]
  rw [show 1 + rs.length + 1 = rs.length + 2 by omega] at L3
  refine ⟨h.nx + 1, (h1.new (.dct [])).put (h.nx + 1) (.lst ((List.range (1 + rs.length)).map (entL ad1 S1) ++ [.ref h1.nx])), _, ?_, L3, ⟨?_, fun j hj => ?_⟩⟩
  · have q1 : lb_1 [some (.lst (bld 0 rs ++ [covD])), some (.ref (h.nx + 1)), none] ((h.new (.dct [])).new (.lst [.ref h.nx])) = .nx [some (.lst (bld 0 rs ++ [covD])), some (.ref (h.nx + 1)), some covD] ((h1.new (.dct [])).put (h.nx + 1) (.lst ((List.range (1 + rs.length)).map (entL ad1 S1) ++ [.ref h1.nx]))) := by
      have it : dSeqI (dVar 0) [some (.lst (bld 0 rs ++ [covD])), some (.ref (h.nx + 1)), none] ((h.new (.dct [])).new (.lst [.ref h.nx])) = .ok (bld 0 rs ++ [covD], none) ((h.new (.dct [])).new (.lst [.ref h.nx])) := by
        simp [itemsD]
      show (dFor (dSeqI (dVar 0)) (gdName 2) lbB) _ _ = _
      rw [s_for, it, toS_ok]
      simp only
      rw [go [covD], forL_step (ρ1 := [some (.lst (bld 0 rs ++ [covD])), some (.ref (h.nx + 1)), some covD]) (h1 := h1) rfl st]
      rfl
    show (u__law_built [some (.lst (bld 0 rs ++ [covD])), none, none] h).res = _
    rw [lb_u, seqX q0, seqX q1]
    rfl
  · have : h.nx ≤ h1.nx := Nat.le_trans (show h.nx ≤ h.nx + 1 + 1 by omega) nx1
    show h.nx ≤ h1.nx + 1
    omega
  · have lb := L1.bl
    have : h.nx ≤ h1.nx := Nat.le_trans (show h.nx ≤ h.nx + 1 + 1 by omega) nx1
    rw [put_ne (by omega), new_lt (by omega), fr1 j hj, new_lt (by show j < h.nx + 1; omega), new_lt hj]
end
def lj_0 (R_ : FD) : SD := (dIfS (dB (dCall 1 F__law_is_cell (dCons (dVar 0) (dNil)))) (dRet (dOp (fAdd false) (dVar 0) (dC (.int 1)))) (dNext))
def lj_1 (R_ : FD) : SD := (dPar 2 3 (dCons (dCall 2 R_ (dCons (dOp fIx (dVar 0) (dC (.int 1))) (dCons (dVar 1) (dNil)))) (dCons (dCall 2 R_ (dCons (dOp fIx (dVar 0) (dC (.int 2))) (dCons (dVar 1) (dNil)))) (dNil))))
def lj_2 (R_ : FD) : SD := (dDrop (dBM "list" fAppend (dVar 1) (dCons (dTup (dCons (dOp fIx (dVar 0) (dC (.int 0))) (dCons (dVar 3) (dCons (dVar 2) (dNil))))) (dNil))))
def lj_3 (R_ : FD) : SD := (dRet (dIf (dB (dOp (fEq false) (dOp fIx (dVar 0) (dC (.int 0))) (dC (.str "up")))) (dVar 3) (dVar 2)))
theorem lj_u {R_ : FD} : u__law_jobs R_ = (dSeq (lj_0 R_) (dSeq (lj_1 R_) (dSeq (lj_2 R_) (lj_3 R_)))) := rfl
abbrev jobD (j : Bool × Int × Int) : CM.D := .tup [.str (kS j.1), .int j.2.1, .int j.2.2]
theorem jobs_ok {a : Nat} : ∀ {p : Pl} {f l : Int} {k : Nat} {L : List CM.D} {h : CH}, Sp p f l → 0 ≤ f → l - f < k → h.ob a = some (.lst L) → L.length + (l - f).toNat < 900 →
    F__law_jobs_ k [p.D, .ref a] h = .ok (.int p.top) (if p.jobs = [] then h else h.put a (.lst (L ++ p.jobs.map jobD)))
  | p, f, l, 0, L, h, s, h0, hk, e, lL => by
    have := s.le
    omega
  | .leaf i, f, l, k + 1, L, h, s, h0, hk, e, lL => by
    obtain ⟨rfl, rfl⟩ := s
    show (u__law_jobs (F__law_jobs_ k) [some (.int i), some (.ref a), none, none] h).res = _
    unfold u__law_jobs
    have ci : decide (i ≥ 0) = true := by simp; omega
    simp [is_cell_ok', ci, addI, Pl.top, Pl.jobs]
  | .node kd x y, f, l, k + 1, L, h, s, h0, hk, e, lL => by
    obtain ⟨mid, sa, sb⟩ := s
    have la := sa.le
    have lb := sb.le
    have j1 := jobs_len sa
    have j2 := jobs_len sb
    have E1 : ∃ h1, F__law_jobs_ k [x.D, .ref a] h = .ok (.int x.top) h1 ∧ h1.ob a = some (.lst (L ++ x.jobs.map jobD)) ∧ ∀ o, h1.put a o = h.put a o := by
      have q := jobs_ok (a := a) (p := x) (k := k) (L := L) (h := h) sa h0 (by omega) e (by omega)
      by_cases z : x.jobs = []
      · rw [if_pos z] at q
        exact ⟨h, q, by rw [z]; simpa using e, fun _ => rfl⟩
      · rw [if_neg z] at q
        exact ⟨_, q, put_same, fun _ => put_put⟩
    obtain ⟨h1, e1, o1, p1⟩ := E1
    have E2 : ∃ h2, F__law_jobs_ k [y.D, .ref a] h1 = .ok (.int y.top) h2 ∧ h2.ob a = some (.lst (L ++ x.jobs.map jobD ++ y.jobs.map jobD)) ∧ ∀ o, h2.put a o = h.put a o := by
      have q := jobs_ok (a := a) (p := y) (k := k) (L := L ++ x.jobs.map jobD) (h := h1) sb (by omega) (by omega) o1 (by simp only [List.length_append, List.length_map]; omega)
      by_cases z : y.jobs = []
      · rw [if_pos z] at q
        exact ⟨h1, q, by rw [z]; simpa using o1, p1⟩
      · rw [if_neg z] at q
        exact ⟨_, q, put_same, fun o => by rw [put_put, p1]⟩
    obtain ⟨h2, e2, o2, p2⟩ := E2
    have i0 : ∀ h : CH, fIx (Pl.D (.node kd x y)) (.int 0) h = .ok (.str (kS kd)) h := fun _ => rfl
    have i1 : ∀ h : CH, fIx (Pl.D (.node kd x y)) (.int 1) h = .ok x.D h := fun _ => rfl
    have i2 : ∀ h : CH, fIx (Pl.D (.node kd x y)) (.int 2) h = .ok y.D h := fun _ => rfl
    have ct : F__law_is_cell [Pl.D (.node kd x y)] h = .ok (.bl false) h := is_cell_tup' _
    have l3 : 3 ≤ sizeLine := by decide
    have ap := app_at (y := jobD (kd, y.top, x.top)) o2 (by simp only [List.length_append, List.length_map]; omega)
    have t2 : isTy "list" (.ref a) h2 = true := by simp [isTy, lstOf, o2]
    have q0 : lj_0 (F__law_jobs_ k) [some (Pl.D (.node kd x y)), some (.ref a), none, none] h = .nx [some (Pl.D (.node kd x y)), some (.ref a), none, none] h := by
      unfold lj_0
      simp [ct]
    have q1 : lj_1 (F__law_jobs_ k) [some (Pl.D (.node kd x y)), some (.ref a), none, none] h = .nx [some (Pl.D (.node kd x y)), some (.ref a), some (.int x.top), some (.int y.top)] h2 := by
      unfold lj_1
      simp [i1, i2, e1, e2]
    have q2 : lj_2 (F__law_jobs_ k) [some (Pl.D (.node kd x y)), some (.ref a), some (.int x.top), some (.int y.top)] h2 = .nx [some (Pl.D (.node kd x y)), some (.ref a), some (.int x.top), some (.int y.top)] (h2.put a (.lst (L ++ x.jobs.map jobD ++ y.jobs.map jobD ++ [jobD (kd, y.top, x.top)]))) := by
      unfold lj_2
      simp only [List.append_assoc] at ap ⊢
      simp [t2, i0, l3, ap]
    show (u__law_jobs (F__law_jobs_ k) [some (Pl.D (.node kd x y)), some (.ref a), none, none] h).res = _
    rw [lj_u, seqX q0, seqX q1, seqX q2, p2]
    have ej : (Pl.node kd x y).jobs = x.jobs ++ y.jobs ++ [(kd, y.top, x.top)] := rfl
    rw [ej, if_neg (by simp), List.map_append, List.map_append]
    unfold lj_3
    cases kd <;> simp [i0, eq_up, Pl.top]
def lm_0 : SD := (dAsg (dTup (dCons (dOp fIx (dVar 0) (dVar 2)) (dCons (dOp fIx (dVar 0) (dVar 3)) (dNil)))) (gdTup 2 (gdCons (gdName 4) (gdCons (gdName 5) (gdNil)))))
def lm_1 : SD := (dIfS (dB (dOp (fEq false) (dVar 1) (dC (.str "up")))) (dSeq (dAsg (dLc false (dDictI keysD (dVar 5)) (gdName 7) (dB (dOp (fIn true) (dVar 7) (dVar 4))) (dVar 7) [7]) (gdName 6)) (dSeq (dFor (dSeqI (dVar 6)) (gdName 7) (dAsg (dOp fIx (dVar 5) (dVar 7)) (gdSub (dVar 4) (dVar 7)))) (dSeq (dAsg (dC .non) (gdSub (dVar 0) (dVar 3))) (dRet (dCB fLen (dCons (dVar 6) (dNil))))))) (dNext))
def lm_2 : SD := (dFor (dDictI keysD (dVar 4)) (gdName 7) (dAsg (dOp fIx (dVar 4) (dVar 7)) (gdSub (dVar 5) (dVar 7))))
def lm_3 : SD := (dAsg (dC .non) (gdSub (dVar 0) (dVar 2)))
def lm_4 : SD := (dRet (dCB fLen (dCons (dVar 4) (dNil))))
theorem lm_u : u__law_merged = (dSeq (lm_0) (dSeq (lm_1) (dSeq (lm_2) (dSeq (lm_3) (lm_4))))) := rfl
theorem put_id {h : CH} {k : Nat} {o : MO} (e : h.ob k = some o) : h.put k o = h := by
  unfold CH.put
  cases h with
  | mk nx ob =>
    simp only at e ⊢
    congr 1
    funext j
    by_cases z : j = k
    · subst z; simp [e]
    · simp [z]
theorem put_comm {h : CH} {j k : Nat} {a b : MO} (n : j ≠ k) : (h.put j a).put k b = (h.put k b).put j a := by
  unfold CH.put
  simp only
  congr 1
  funext i
  by_cases z : i = k
  · subst z
    have : ¬ i = j := fun w => n w.symm
    simp [this]
  · by_cases z' : i = j
    · subst z'; simp [z]
    · simp [z, z']
section
variable {h : CH} {hi lo LR : Nat} {A B : AL Int}
theorem kI_keys : keysD (kI A) = (aKeys A).map CM.D.int := keysD_toD
theorem kI_len : (kI A).length = A.length := toD_len
theorem fIx_dct {d : CM.D} {c v : Int} (e : dctOf h d = some (kI A)) (sq : seqOf h d = none) (ns : ∀ z, d ≠ .str z) (g : aGet A c = some v) : fIx d (.int c) h = .ok (.int v) h := by
  have gk : dGet (kI A) (.inl c) = some (.int v) := by rw [kI_get, g]; rfl
  cases d with
  | str z => exact absurd rfl (ns z)
  | _ =>
    unfold fIx
    simp only [sq, e, keyD, gk]
theorem puts_val {g : Int → Int} : ∀ {C A : AL Int}, (∀ p ∈ C, g p.1 = p.2) → puts A ((aKeys C).map fun c => (c, g c)) = puts A C
  | [], _, _ => rfl
  | p :: C, A, q => by
    have e : g p.1 = p.2 := q p (List.mem_cons_self ..)
    show puts (aPut A p.1 (g p.1)) ((aKeys C).map fun c => (c, g c)) = puts (aPut A p.1 p.2) C
    rw [e]
    exact puts_val fun r hr => q r (List.mem_cons_of_mem _ hr)
theorem puts_len : ∀ {B A : AL Int}, (puts A B).length ≤ A.length + B.length
  | [], A => by simp [puts]
  | p :: B, A => by
    have := puts_len (B := B) (A := aPut A p.1 p.2)
    have lp : (aPut A p.1 p.2).length ≤ A.length + 1 := by
      unfold aPut
      split <;> simp
    show (puts (aPut A p.1 p.2) B).length ≤ _
    simp only [List.length_cons]
    omega
theorem copy_loop {u : SD} {ρ0 : Option CM.D → DE} {src dst : Nat} {g : Int → Int} (body : ∀ (c : Int) (h : CH) (D : AL Int), h.ob dst = some (.dct (kI D)) → D.length < 900 → (h.ob src = some (.dct (kI A)) ∨ h.ob src = some (.lck (kI A))) → (aGet A c = some (g c)) → u (ρ0 (some (.int c))) h = .nx (ρ0 (some (.int c))) (h.put dst (.dct (kI (aPut D c (g c))))))
    (tg : ∀ (x : Option CM.D) (c : Int) (h : CH), (gdName 7) (.int c) (ρ0 x) h = .ok (ρ0 (some (.int c))) h) (ne : src ≠ dst) :
    ∀ {cs : List Int} {h : CH} {D : AL Int} {x : Option CM.D}, (∀ c ∈ cs, aGet A c = some (g c)) → h.ob dst = some (.dct (kI D)) → D.length + cs.length < 900 → (h.ob src = some (.dct (kI A)) ∨ h.ob src = some (.lck (kI A))) →
      ∃ x', dForL (gdName 7) u (cs.map CM.D.int) (ρ0 x) h = .nx (ρ0 x') (h.put dst (.dct (kI (puts D (cs.map fun c => (c, g c))))))
  | [], h, D, x, q, e, l, ok => ⟨x, by rw [show puts D (([] : List Int).map fun c => (c, g c)) = D from rfl, put_id e]; rfl⟩
  | c :: cs, h, D, x, q, e, l, ok => by
    simp only [List.length_cons] at l
    have b := body c h D e (by omega) ok (q c (List.mem_cons_self ..))
    have ok' : (h.put dst (.dct (kI (aPut D c (g c))))).ob src = some (.dct (kI A)) ∨ (h.put dst (.dct (kI (aPut D c (g c))))).ob src = some (.lck (kI A)) := by
      rw [put_ne ne]
      exact ok
    have lp : (aPut D c (g c)).length ≤ D.length + 1 := by
      unfold aPut
      split <;> simp
    obtain ⟨x', ih⟩ := copy_loop body tg ne (cs := cs) (h := h.put dst (.dct (kI (aPut D c (g c))))) (D := aPut D c (g c)) (x := some (.int c)) (fun y hy => q y (List.mem_cons_of_mem _ hy)) put_same (by omega) ok'
    refine ⟨x', ?_⟩
    rw [List.map_cons, forL_step (tg x c h) b, ih, put_put]
    rfl
theorem dct_ref (e : h.ob hi = some (.dct (kI A)) ∨ h.ob hi = some (.lck (kI A))) : dctOf h (.ref hi) = some (kI A) ∧ seqOf h (.ref hi) = none := by
  rcases e with e | e
  · exact ⟨by unfold dctOf; simp only [e], by unfold seqOf; simp only [e]⟩
  · exact ⟨by unfold dctOf; simp only [e], by unfold seqOf; simp only [e]⟩
theorem in_dct {c : Int} (e : dctOf h (.ref hi) = some (kI B) ∧ seqOf h (.ref hi) = none) : fIn true (.int c) (.ref hi) h = .ok (.bl (!(aKeys B).contains c)) h := by
  unfold fIn
  simp only [e.1, e.2, keyD, kI_get]
  have q : (Option.map CM.D.int (aGet B c)).isSome = (aKeys B).contains c := by
    rw [Option.isSome_map, Bool.eq_iff_iff, aGet_some_iff]
    simp
  rw [q]
  rfl
end
theorem law_merged_ok {b n LR u l : Nat} {h : CH} {ad : Nat → Nat} {S : LS} {A B : AL Int} (k : Bool) (L : Lay b h LR ad n S) (hu : u < n) (hl : l < n) (ne : l ≠ u) (eA : S (l : Int) = some A) (eB : S (u : Int) = some B) (na : (aKeys A).Nodup) (nb : (aKeys B).Nodup) (lA : A.length < 200) (lB : B.length < 200) (ln : n < 100) :
    ∃ h', F__law_merged [.ref LR, .str (kS k), .int u, .int l] h = .ok (.int (mct k A B)) h' ∧ Lay b h' LR ad n (doJ S (k, (u : Int), (l : Int))) ∧ h'.nx = h.nx ∧ ∀ j, j < b → h'.ob j = h.ob j := by
  have iu := L.at hu eB
  have il := L.at hl eA
  have ou := L.dc u hu B eB
  have ol := L.dc l hl A eA
  have nad : ad u ≠ ad l := fun z => ne (L.inj _ _ hu hl z).symm
  have l2 : 2 ≤ sizeLine := by decide
  have dj : doJ S (k, (u : Int), (l : Int)) = if k = true then upL (upL S l (some (mrg true A B))) u none else upL (upL S u (some (mrg false A B))) l none := by
    unfold doJ
    simp only [eA, eB]
  have q0 : lm_0 [some (.ref LR), some (.str (kS k)), some (.int u), some (.int l), none, none, none, none] h = .nx [some (.ref LR), some (.str (kS k)), some (.int u), some (.int l), some (.ref (ad u)), some (.ref (ad l)), none, none] h := by
    unfold lm_0
    simp [iu, il, l2, gdTup, gdCons, gdNil]
  have ixn : ∀ (i : Nat), i < n → ixN ((List.range n).map (entL ad S)).length (i : Int) = some i := fun i hi => by
    unfold ixN
    rw [List.length_map, List.length_range, if_pos (by omega), if_pos (by omega)]
    simp
  cases k with
  | false =>
    -- up
    have hlk : (h.put (ad l) (.lck (kI A))).ob (ad u) = some (.dct (kI B)) := by rw [put_ne nad]; exact ou
    have cin := fun c : Int => in_dct (c := c) (dct_ref (h := h.put (ad l) (.lck (kI A))) (hi := ad u) (A := B) (.inl hlk))
    have lc : dLc false (dDictI keysD (dVar 5)) (gdName 7) (dB (dOp (fIn true) (dVar 7) (dVar 4))) (dVar 7) [7] [some (.ref LR), some (.str (kS false)), some (.int u), some (.int l), some (.ref (ad u)), some (.ref (ad l)), none, none] h = .ok (.lst ((givn A B).map CM.D.int)) h := by
      have it : dDictI keysD (dVar 5) [some (.ref LR), some (.str (kS false)), some (.int u), some (.int l), some (.ref (ad u)), some (.ref (ad l)), none, none] h = .ok ((aKeys A).map CM.D.int, some (ad l, .dct (kI A))) (h.put (ad l) (.lck (kI A))) := by
        unfold dDictI
        simp only [e_var, List.getElem?_cons_zero, List.getElem?_cons_succ, bind_ok, ol, kI_keys]
      unfold dLc
      rw [it]
      simp only [bind_ok]
      rw [if_pos (Nat.le_trans (show _ ≤ 1000 by simp [aKeys]; omega) (by decide))]
      show ((dLcL (gdName 7) _ (dVar 7) [some (.ref LR), some (.str (kS false)), some (.int u), some (.int l), some (.ref (ad u)), some (.ref (ad l)), none, none] _ _).bind _).unl _ = _
      rw [lcL_fil (F := CM.D.int) (G := CM.D.int) (g := fun c => !(aKeys B).contains c) fun c _ => ⟨[some (.ref LR), some (.str (kS false)), some (.int u), some (.int l), some (.ref (ad u)), some (.ref (ad l)), none, some (.int c)], rfl, by simp [cin], fun _ => rfl⟩]
      show (R.ok (CM.D.lst ((givn A B).map CM.D.int)) (unlH (some (ad l, .dct (kI A))) (h.put (ad l) (.lck (kI A)))) : R CM.D) = _
      show R.ok _ ((h.put (ad l) (.lck (kI A))).put (ad l) (.dct (kI A))) = _
      rw [put_put, put_id ol]
    have gm : ∀ c ∈ givn A B, aGet A c = some ((aGet A c).getD 0) := fun c hc => by
      obtain ⟨w, hw⟩ := Option.isSome_iff_exists.mp (aGet_some_iff.mpr (givn_mem.mp hc).1)
      rw [hw]
      rfl
    have gl : (givn A B).length ≤ A.length := by
      unfold givn
      exact Nat.le_trans (List.length_filter_le _ _) (by simp [aKeys])
    obtain ⟨x', lp⟩ := copy_loop (A := A) (u := dAsg (dOp fIx (dVar 5) (dVar 7)) (gdSub (dVar 4) (dVar 7))) (ρ0 := fun x => [some (.ref LR), some (.str (kS false)), some (.int u), some (.int l), some (.ref (ad u)), some (.ref (ad l)), some (.lst ((givn A B).map CM.D.int)), x]) (src := ad l) (dst := ad u) (g := fun c => (aGet A c).getD 0)
      (fun c h D e lD ok g => by
        obtain ⟨dk, sq⟩ := dct_ref ok
        have i := fIx_dct dk sq (fun _ z => nomatch z) g
        have zl : (kI D).length < sizeLine := Nat.lt_of_lt_of_le (show _ < 1000 by rw [kI_len]; omega) (by decide)
        simp [i, gdSub, refOf, e, keyD, zl, kI_put])
      (fun x c h => rfl) (Ne.symm nad) (cs := givn A B) (h := h) (D := B) (x := none) gm ou (by omega) (.inl ol)
    have L1 := L.put hu (B := mrg false A B) eB
    have L2 := L1.drop hl
    have e1 : mrg false A B = puts B ((givn A B).map fun c => (c, (aGet A c).getD 0)) := rfl
    rw [← e1] at lp
    generalize hm : h.put (ad u) (.dct (kI (mrg false A B))) = h1 at lp L1 L2
    have n1 : h1.nx = h.nx := by rw [← hm]; rfl
    have f1 : ∀ j, j < b → h1.ob j = h.ob j := fun j hj => by rw [← hm, put_ne (by have := (L.bd u hu).1; omega)]
    have eLR : ((List.range n).map (entL ad (upL S u (some (mrg false A B))))) = ((List.range n).map (entL ad S)) := by
      have a := L1.ob
      rw [← hm, put_ne (L.ne u hu).symm, L.ob] at a
      simpa using a.symm
    have sb : gdSub (dVar 0) (dVar 3) .non [some (.ref LR), some (.str (kS false)), some (.int u), some (.int l), some (.ref (ad u)), some (.ref (ad l)), some (.lst ((givn A B).map CM.D.int)), x'] h1 = .ok [some (.ref LR), some (.str (kS false)), some (.int u), some (.int l), some (.ref (ad u)), some (.ref (ad l)), some (.lst ((givn A B).map CM.D.int)), x'] (h1.put LR (.lst (((List.range n).map (entL ad (upL S u (some (mrg false A B))))).set l .non))) := by
      have ix := ixn l hl
      rw [← eLR] at ix
      simp only [gdSub, e_var, List.getElem?_cons_zero, List.getElem?_cons_succ, calm_ok, refOf, L1.ob, ix]
    refine ⟨_, ?_, by rw [dj, if_neg (by simp)]; exact L2, by show h1.nx = _; exact n1, fun j hj => by rw [put_ne (by have := L.bl; omega)]; exact f1 j hj⟩
    have ku : fEq false (.str (kS false)) (.str (Str.ofString "up")) h = .ok (.bl true) h := eq_up false
    have lg : fLen [.lst ((givn A B).map CM.D.int)] (h1.put LR (.lst (((List.range n).map (entL ad (upL S u (some (mrg false A B))))).set l .non))) = .ok (.int (mct false A B)) (h1.put LR (.lst (((List.range n).map (entL ad (upL S u (some (mrg false A B))))).set l .non))) := by
      show R.ok (CM.D.int ((givn A B).map CM.D.int).length) _ = _
      rw [List.length_map]
      rfl
    have q1 : lm_1 [some (.ref LR), some (.str (kS false)), some (.int u), some (.int l), some (.ref (ad u)), some (.ref (ad l)), none, none] h = .rt (.int (mct false A B)) (h1.put LR (.lst (((List.range n).map (entL ad (upL S u (some (mrg false A B))))).set l .non))) := by
      unfold lm_1
      have c : (dB (dOp (fEq false) (dVar 1) (dC (.str "up")))) [some (.ref LR), some (.str (kS false)), some (.int u), some (.int l), some (.ref (ad u)), some (.ref (ad l)), none, none] h = .ok true h := by simp [ku]
      rw [s_if, c, toS_ok, if_pos rfl, s_seq, s_asg, lc, toS_ok]
      show ((RS.nx [some (.ref LR), some (.str (kS false)), some (.int u), some (.int l), some (.ref (ad u)), some (.ref (ad l)), some (.lst ((givn A B).map CM.D.int)), none] h).bind _) = _
      rw [sbind_nx, s_seq, s_for]
      have it : dSeqI (dVar 6) [some (.ref LR), some (.str (kS false)), some (.int u), some (.int l), some (.ref (ad u)), some (.ref (ad l)), some (.lst ((givn A B).map CM.D.int)), none] h = .ok ((givn A B).map CM.D.int, none) h := by simp [itemsD]
      rw [it, toS_ok]
      simp only
      rw [lp]
      show ((RS.nx [some (.ref LR), some (.str (kS false)), some (.int u), some (.int l), some (.ref (ad u)), some (.ref (ad l)), some (.lst ((givn A B).map CM.D.int)), x'] h1).bind _) = _
      rw [sbind_nx, s_seq, s_asg]
      simp only [e_C, toS_ok, sb, put_ok, sbind_nx]
      rw [s_ret]
      simp [lg]
    show (u__law_merged [some (.ref LR), some (.str (kS false)), some (.int u), some (.int l), none, none, none, none] h).res = _
    rw [lm_u, seqX q0, s_seq, q1]
    rfl
  | true =>
    -- down
    have cond : (dB (dOp (fEq false) (dVar 1) (dC (.str "up")))) [some (.ref LR), some (.str (kS true)), some (.int u), some (.int l), some (.ref (ad u)), some (.ref (ad l)), none, none] h = .ok false h := by
      have ku : fEq false (.str (kS true)) (.str (Str.ofString "up")) h = .ok (.bl false) h := eq_up true
      simp [ku]
    have q1 : lm_1 [some (.ref LR), some (.str (kS true)), some (.int u), some (.int l), some (.ref (ad u)), some (.ref (ad l)), none, none] h = .nx [some (.ref LR), some (.str (kS true)), some (.int u), some (.int l), some (.ref (ad u)), some (.ref (ad l)), none, none] h := by
      unfold lm_1
      rw [s_if, cond, toS_ok, if_neg (by simp)]
      rfl
    have gm : ∀ c ∈ aKeys B, aGet B c = some ((aGet B c).getD 0) := fun c hc => by
      obtain ⟨w, hw⟩ := Option.isSome_iff_exists.mp (aGet_some_iff.mpr hc)
      rw [hw]
      rfl
    have oll : (h.put (ad u) (.lck (kI B))).ob (ad l) = some (.dct (kI A)) := by rw [put_ne nad.symm]; exact ol
    obtain ⟨x', lp⟩ := copy_loop (A := B) (u := dAsg (dOp fIx (dVar 4) (dVar 7)) (gdSub (dVar 5) (dVar 7))) (ρ0 := fun x => [some (.ref LR), some (.str (kS true)), some (.int u), some (.int l), some (.ref (ad u)), some (.ref (ad l)), none, x]) (src := ad u) (dst := ad l) (g := fun c => (aGet B c).getD 0)
      (fun c h D e lD ok g => by
        obtain ⟨dk, sq⟩ := dct_ref ok
        have i := fIx_dct dk sq (fun _ z => nomatch z) g
        have zl : (kI D).length < sizeLine := Nat.lt_of_lt_of_le (show _ < 1000 by rw [kI_len]; omega) (by decide)
        simp [i, gdSub, refOf, e, keyD, zl, kI_put])
      (fun x c h => rfl) nad (cs := aKeys B) (h := h.put (ad u) (.lck (kI B))) (D := A) (x := none) gm oll (by simp [aKeys]; omega) (.inr put_same)
    have pv : puts A ((aKeys B).map fun c => (c, (aGet B c).getD 0)) = mrg true A B := puts_val fun p hp => by rw [aGet_of_mem nb hp]; rfl
    rw [pv] at lp
    have L1 := L.put hl (B := mrg true A B) eA
    have eBu : (upL S l (some (mrg true A B))) (u : Int) = some B := by
      unfold upL
      rw [if_neg (by omega)]
      exact eB
    have L2 := L1.drop hu
    have back : ((h.put (ad u) (.lck (kI B))).put (ad l) (.dct (kI (mrg true A B)))).put (ad u) (.dct (kI B)) = h.put (ad l) (.dct (kI (mrg true A B))) := by
      rw [put_comm nad, put_put, put_id (by rw [put_ne nad]; exact ou)]
    have q2 : lm_2 [some (.ref LR), some (.str (kS true)), some (.int u), some (.int l), some (.ref (ad u)), some (.ref (ad l)), none, none] h = .nx [some (.ref LR), some (.str (kS true)), some (.int u), some (.int l), some (.ref (ad u)), some (.ref (ad l)), none, x'] (h.put (ad l) (.dct (kI (mrg true A B)))) := by
      have it : dDictI keysD (dVar 4) [some (.ref LR), some (.str (kS true)), some (.int u), some (.int l), some (.ref (ad u)), some (.ref (ad l)), none, none] h = .ok ((aKeys B).map CM.D.int, some (ad u, .dct (kI B))) (h.put (ad u) (.lck (kI B))) := by
        unfold dDictI
        simp only [e_var, List.getElem?_cons_zero, List.getElem?_cons_succ, bind_ok, ou, kI_keys]
      unfold lm_2
      rw [s_for, it, toS_ok]
      simp only
      rw [lp]
      show RS.nx _ (((h.put (ad u) (.lck (kI B))).put (ad l) (.dct (kI (mrg true A B)))).put (ad u) (.dct (kI B))) = _
      rw [back]
    generalize hm : h.put (ad l) (.dct (kI (mrg true A B))) = h1 at q2 L1 L2
    have n1 : h1.nx = h.nx := by rw [← hm]; rfl
    have f1 : ∀ j, j < b → h1.ob j = h.ob j := fun j hj => by rw [← hm, put_ne (by have := (L.bd l hl).1; omega)]
    have eLR : ((List.range n).map (entL ad (upL S l (some (mrg true A B))))) = ((List.range n).map (entL ad S)) := by
      have a := L1.ob
      rw [← hm, put_ne (L.ne l hl).symm, L.ob] at a
      simpa using a.symm
    have q3 : lm_3 [some (.ref LR), some (.str (kS true)), some (.int u), some (.int l), some (.ref (ad u)), some (.ref (ad l)), none, x'] h1 = .nx [some (.ref LR), some (.str (kS true)), some (.int u), some (.int l), some (.ref (ad u)), some (.ref (ad l)), none, x'] (h1.put LR (.lst (((List.range n).map (entL ad (upL S l (some (mrg true A B))))).set u .non))) := by
      have ix := ixn u hu
      rw [← eLR] at ix
      unfold lm_3
      rw [s_asg]
      simp only [e_C, toS_ok, gdSub, e_var, List.getElem?_cons_zero, List.getElem?_cons_succ, calm_ok, refOf, L1.ob, ix, put_ok]
    have oh : (h1.put LR (.lst (((List.range n).map (entL ad (upL S l (some (mrg true A B))))).set u .non))).ob (ad u) = some (.dct (kI B)) := by
      rw [put_ne (L.ne u hu), ← hm, put_ne nad]
      exact ou
    have lg : fLen [.ref (ad u)] (h1.put LR (.lst (((List.range n).map (entL ad (upL S l (some (mrg true A B))))).set u .non))) = .ok (.int (mct true A B)) (h1.put LR (.lst (((List.range n).map (entL ad (upL S l (some (mrg true A B))))).set u .non))) := by
      obtain ⟨d1, d2⟩ := dct_ref (.inl oh)
      unfold fLen
      simp only [d1, d2, kI_len]
      rfl
    refine ⟨_, ?_, by rw [dj, if_pos rfl]; exact L2, by show h1.nx = _; exact n1, fun j hj => by rw [put_ne (by have := L.bl; omega)]; exact f1 j hj⟩
    show (u__law_merged [some (.ref LR), some (.str (kS true)), some (.int u), some (.int l), none, none, none, none] h).res = _
    rw [lm_u, seqX q0, seqX q1, seqX q2, seqX q3]
    unfold lm_4
    rw [s_ret]
    simp [lg]
def okT (p : PyData) : Bool := p.canLay0 && decide (p.depth = 1) && PyData.eqv p p && p.showable && p.leavesShort 13 && decide (p.weight ≤ 100)
structure Dq (d : CM.D) (p : PyData) : Prop where
  tp : ∀ h : CH, toP h 9 d = some p
  tq : ∀ h : CH, toQ h 13 d = some p
  ok : okT p = true
structure OkT (p : PyData) : Prop where
  cl : p.canLay0 = true
  dp : p.depth = 1
  ev : PyData.eqv p p = true
  sh : p.showable = true
  lf : p.leavesShort 13 = true
  wt : p.weight ≤ 100
theorem okT_of {p : PyData} (e : okT p = true) : OkT p := by
  simp only [okT, Bool.and_eq_true, decide_eq_true_eq] at e
  exact ⟨e.1.1.1.1.1, e.1.1.1.1.2, e.1.1.1.2, e.1.1.2, e.1.2, e.2⟩
def Dd (d : CM.D) : Prop := ∃ p, Dq d p
theorem beg_all : (List.range 12).all (fun n => okT (.tuple [.str "begin", .str (kS true), .int (n : Int)]) && okT (.tuple [.str "begin", .str (kS false), .int (n : Int)])) = true := by decide +kernel
theorem stp_all : (List.range 12).all (fun n => okT (.tuple [.str "step", .int (n : Int)])) = true := by decide +kernel
theorem wrt_all : (List.range 12).all (fun c => (List.range 12).all fun v => okT (.tuple [.str "write", .int 0, .int (c : Int), .int (v : Int)])) = true := by decide +kernel
theorem nat_of {u : Int} (h0 : 0 ≤ u) (h1 : u < 12) : ∃ n : Nat, u = n ∧ n ∈ List.range 12 := ⟨u.toNat, by omega, List.mem_range.mpr (by omega)⟩
theorem dd_cov : Dd covD := ⟨.tuple [.str "cover", .int 0], fun _ => rfl, fun _ => rfl, by decide +kernel⟩
theorem dd_beg {k : Bool} {u : Int} (h0 : 0 ≤ u) (h1 : u < 12) : Dd (.tup [.str "begin", .str (kS k), .int u]) := by
  obtain ⟨n, rfl, m⟩ := nat_of h0 h1
  have a := List.all_eq_true.mp beg_all n m
  rw [Bool.and_eq_true] at a
  cases k
  · exact ⟨_, fun _ => rfl, fun _ => rfl, a.2⟩
  · exact ⟨_, fun _ => rfl, fun _ => rfl, a.1⟩
theorem dd_step {u : Int} (h0 : 0 ≤ u) (h1 : u < 12) : Dd (stepD u) := by
  obtain ⟨n, rfl, m⟩ := nat_of h0 h1
  exact ⟨_, fun _ => rfl, fun _ => rfl, List.all_eq_true.mp stp_all n m⟩
theorem dd_wrt {i c : Int} (h0 : 0 ≤ c) (h1 : c < 12) (g0 : 0 ≤ i + 1) (g1 : i + 1 < 12) : Dd (wrtD i c) := by
  obtain ⟨n, rfl, m⟩ := nat_of h0 h1
  obtain ⟨v, e, mv⟩ := nat_of g0 g1
  unfold wrtD
  rw [e]
  exact ⟨_, fun _ => rfl, fun _ => rfl, List.all_eq_true.mp (List.all_eq_true.mp wrt_all n m) v mv⟩
theorem dd_all : ∀ {l : List CM.D}, (∀ d ∈ l, Dd d) → ∃ ps, (∀ h : CH, l.mapM (toP h 9) = some ps) ∧ (∀ h : CH, l.mapM (toQ h 13) = some ps) ∧ ps.length = l.length ∧ PyData.canLayAll0 ps = true ∧ PyData.depthAll ps ≤ 1 ∧ PyData.eqvAll ps ps = true ∧ PyData.showableAll ps = true ∧ PyData.leavesShortAll 13 ps = true ∧ PyData.weightAll ps ≤ 101 * l.length
  | [], _ => ⟨[], fun _ => rfl, fun _ => rfl, rfl, rfl, Nat.zero_le _, rfl, rfl, rfl, Nat.le_refl _⟩
  | d :: l, q => by
    obtain ⟨p, D⟩ := q d (List.mem_cons_self ..)
    obtain ⟨ps, a1, a2, a3, a4, a5, a6, a7, a8, a9⟩ := dd_all (l := l) fun y hy => q y (List.mem_cons_of_mem _ hy)
    have o := okT_of D.ok
    refine ⟨p :: ps, fun h => ?_, fun h => ?_, by simp [a3], ?_, ?_, ?_, ?_, ?_, ?_⟩
    · rw [List.mapM_cons, D.tp h, a1 h]; rfl
    · rw [List.mapM_cons, D.tq h, a2 h]; rfl
    · simp [PyData.canLayAll0, o.cl, a4]
    · simp only [PyData.depthAll, o.dp]; omega
    · simp [PyData.eqvAll, o.ev, a6]
    · simp [PyData.showableAll, o.sh, a7]
    · simp [PyData.leavesShortAll, o.lf, a8]
    · have := o.wt
      simp only [PyData.weightAll, List.length_cons]
      omega
theorem eq_dds {h : CH} {l : List CM.D} (H : ∀ d ∈ l, Dd d) : fEq true (.lst l) (.lst l) h = .ok (.bl false) h := by
  obtain ⟨ps, a1, a2, a3, a4, a5, a6, a7, a8, a9⟩ := dd_all H
  have t : toP h 10 (.lst l) = some (.list ps) := by
    show (l.mapM (toP h 9)).map PyData.list = _
    rw [a1]
    rfl
  have sh : SeqAt.shaped (.list ps) = true := by
    simp only [SeqAt.shaped, PyData.canLay0, a4, PyData.depth, Bool.true_and]
    exact decide_eq_true (by omega)
  have e5 : scalD (.lst l) (.lst l) = false := rfl
  have e6 : PyData.eqv (.list ps) (.list ps) = true := a6
  unfold fEq
  rw [e5, t]
  simp [sh, e6, bneg]
theorem rep_dds {l : List CM.D} (H : ∀ d ∈ l, Dd d) (ll : l.length ≤ 1000) : ∃ s : Str, ∀ (h : CH) (k : Nat), h.ob k = some (.lst l) → fRep [.ref k] h = .ok (.str s) h := by
  obtain ⟨ps, a1, a2, a3, a4, a5, a6, a7, a8, a9⟩ := dd_all H
  refine ⟨(PyData.list ps).shown, fun h k e => ?_⟩
  have t : toQ h 14 (.ref k) = some (.list ps) := by
    simp only [toQ, e]
    show (l.mapM (toQ h 13)).map PyData.list = _
    rw [a2]
    rfl
  have bx : boxed h (.ref k) = true := by
    unfold boxed seqOf
    simp only [e]
    rfl
  have sz : (PyData.list ps).shown.length ≤ sizeLine := by
    have lf : (PyData.list ps).leavesShort 13 = true := a8
    have := PyData.shown_le 13 (by decide) (PyData.list ps) lf
    have w : (PyData.list ps).weight ≤ 102 * 1000 + 10 := by
      simp only [PyData.weight]
      omega
    have h2 : (13 + 2) * (PyData.list ps).weight + 13 ≤ 2000000 := by omega
    exact Nat.le_trans (Nat.le_trans this h2) (by decide)
  have dp : (PyData.list ps).depth ≤ 60 := by simp only [PyData.depth]; omega
  have sh : (PyData.list ps).showable = true := a7
  unfold fRep
  simp only [t]
  rw [if_pos ⟨bx, sh, dp, sz⟩]
theorem line_dd {m : Int} : ∀ {js : List (Bool × Int × Int)} {g : Int}, 0 ≤ g → g + js.length < 12 → (∀ j ∈ js, 0 ≤ j.2.1 ∧ j.2.1 < 12) → ∀ d ∈ lineOf m g js, Dd d
  | [], g, _, _, _, d, hd => by simp [lineOf] at hd
  | j :: js, g, h0, h1, q, d, hd => by
    simp only [List.length_cons] at h1
    rcases List.mem_append.mp (show d ∈ (CM.D.tup [.str "begin", .str (kS j.1), .int j.2.1] :: List.replicate (m + 1).toNat (stepD g)) ++ lineOf m (g + 1) js from hd) with hd | hd
    · rcases List.mem_cons.mp hd with rfl | hd
      · have := q j (List.mem_cons_self ..)
        exact dd_beg this.1 this.2
      · rw [List.eq_of_mem_replicate hd]
        exact dd_step h0 (by omega)
    · exact line_dd (by omega) (by omega) (fun y hy => q y (List.mem_cons_of_mem _ hy)) d hd
theorem bld_dd : ∀ {rs : List (List Int)} {i : Nat}, (∀ r ∈ rs, Own r) → i + rs.length < 11 → ∀ d ∈ bld i rs, Dd d
  | [], i, _, _, d, hd => by simp [bld] at hd
  | r :: rs, i, q, l, d, hd => by
    simp only [List.length_cons] at l
    rcases List.mem_append.mp (show d ∈ (covD :: r.map (fun c => wrtD i c)) ++ bld (i + 1) rs from hd) with hd | hd
    · rcases List.mem_cons.mp hd with rfl | hd
      · exact dd_cov
      · obtain ⟨c, hc, rfl⟩ := List.mem_map.mp hd
        have := ten_bd ((q r (List.mem_cons_self ..)).bd c hc)
        exact dd_wrt this.1 (by omega) (by omega) (by omega)
    · exact bld_dd (fun y hy => q y (List.mem_cons_of_mem _ hy)) (by omega) d hd
theorem jobs_bd : ∀ {p : Pl} {f l : Int}, Sp p f l → ∀ j ∈ p.jobs, f + 1 ≤ j.2.1 ∧ j.2.1 ≤ l + 1
  | .leaf i, f, l, s, j, hj => by cases hj
  | .node k a b, f, l, s, j, hj => by
    obtain ⟨m, sa, sb⟩ := s
    have la := sa.le
    have lb := sb.le
    have top : ∀ {p : Pl} {f l : Int}, Sp p f l → f + 1 ≤ p.top ∧ p.top ≤ l + 1 := by
      intro p
      induction p with
      | leaf i =>
        intro f l s
        obtain ⟨rfl, rfl⟩ := s
        exact ⟨Int.le_refl _, Int.le_refl _⟩
      | node k a b ia ib =>
        intro f l s
        obtain ⟨m, sa, sb⟩ := s
        have h1 := ia sa
        have h2 := ib sb
        have := sa.le
        have := sb.le
        show f + 1 ≤ (if k = true then a.top else b.top) ∧ (if k = true then a.top else b.top) ≤ l + 1
        split <;> omega
    rcases List.mem_append.mp (show j ∈ (a.jobs ++ b.jobs) ++ [(k, b.top, a.top)] from hj) with hj | hj
    · rcases List.mem_append.mp hj with hj | hj
      · have := jobs_bd sa j hj; omega
      · have := jobs_bd sb j hj; omega
    · have : j = (k, b.top, a.top) := by simpa using hj
      subst this
      have := top sb
      show f + 1 ≤ b.top ∧ b.top ≤ l + 1
      omega
theorem dds_dd {rs : List (List Int)} (C : Chain rs) {p : Pl} (s : Sp p 0 (rs.length - 1)) : (∀ d ∈ dds rs p, Dd d) ∧ (dds rs p).length ≤ 1000 := by
  have n8 := C.le
  have n1 := C.ne
  have jl := jobs_len s
  obtain ⟨c1, c2⟩ := cells_bd C
  have ll := line_len (m := cellsN rs) (by omega) c2 (js := p.jobs) (g := 0)
  have bl := bld_len (rs := rs) (i := 0) fun r hr => (C.own r hr).len
  refine ⟨fun d hd => ?_, by unfold dds; simp only [List.length_append, List.length_cons]; omega⟩
  rcases List.mem_append.mp (show d ∈ bld 0 rs ++ (covD :: lineOf (cellsN rs) 0 p.jobs) from hd) with hd | hd
  · exact bld_dd (fun r hr => C.own r hr) (by omega) d hd
  · rcases List.mem_cons.mp hd with rfl | hd
    · exact dd_cov
    · refine line_dd (by omega) (by omega) (fun j hj => ?_) d hd
      have := jobs_bd s j hj
      omega
def wr_0 : SD := (dPar3 4 5 6 (dCons (dLst true (dNil)) (dCons (dCall 1 F_cells_of (dCons (dVar 0) (dNil))) (dCons (dC (.int 0)) (dNil)))))
def wr_1 : SD := (dSeq (dPar 7 8 (dCons (dCall 2 F__law_jobs (dCons (dVar 1) (dCons (dVar 4) (dNil)))) (dCons (dC (.int 0)) (dNil)))) (dFzV 4))
def wr_2 : SD := (dFor (dEnum (dCons (dVar 4) (dNil))) (gdTup 2 (gdCons (gdName 9) (gdCons (gdTup 3 (gdCons (gdName 10) (gdCons (gdName 11) (gdCons (gdName 12) (gdNil))))) (gdNil)))) (dSeq (dAsg (dOp (fAdd false) (dLst false (dCons (dTup (dCons (dC (.str "begin")) (dCons (dVar 10) (dCons (dVar 11) (dNil))))) (dNil))) (dOp (fMul false) (dLst false (dCons (dTup (dCons (dC (.str "step")) (dCons (dVar 9) (dNil)))) (dNil))) (dOp (fAdd false) (dVar 5) (dC (.int 1))))) (gdName 13)) (dSeq (dIfS (dB (dOp (fEq true) (dCB (fListOf false) (dCons (dSl false (dVar 3) (dPart (dVar 6)) (dPart (dOp (fAdd false) (dOp (fAdd false) (dVar 6) (dVar 5)) (dC (.int 2))))) (dNil))) (dVar 13))) (dRet (dC (.bl false))) (dNext)) (dPar 8 6 (dCons (dOp (fAdd false) (dVar 8) (dCall 4 F__law_merged (dCons (dVar 2) (dCons (dVar 10) (dCons (dVar 11) (dCons (dVar 12) (dNil))))))) (dCons (dOp (fAdd false) (dOp (fAdd false) (dVar 6) (dVar 5)) (dC (.int 2))) (dNil)))))))
def wr_3 : SD := (dAsg (dDNew true) (gdName 14))
def wr_4 : SD := (dFor (dEnum (dCons (dVar 0) (dNil))) (gdTup 2 (gdCons (gdName 15) (gdCons (gdName 16) (gdNil)))) (dDrop (dBM "dict" fDUpd (dVar 14) (dCons (dCB (fDctP false) (dCons (dLc false (dSeqI (dVar 16)) (gdName 17) (dYes) (dTup (dCons (dVar 17) (dCons (dOp (fAdd false) (dVar 15) (dC (.int 1))) (dNil)))) [17]) (dNil))) (dNil)))))
def wr_5 : SD := (dRet (dAndV (dOp (fEq false) (dVar 6) (dCB fLen (dCons (dVar 3) (dNil)))) (dAndV (dOp (fEqH false) (dOp fIx (dVar 2) (dVar 7)) (dVar 14)) (dOp (fEq false) (dVar 8) (dOp fIx (dCall 2 F__law_worth (dCons (dVar 0) (dCons (dVar 1) (dNil)))) (dC (.int 0)))))))
theorem wr_u : u__law_work_right = (dSeq (wr_0) (dSeq (wr_1) (dSeq (wr_2) (dSeq (wr_3) (dSeq (wr_4) (wr_5)))))) := rfl
def wrT : TGD := (gdTup 2 (gdCons (gdName 9) (gdCons (gdTup 3 (gdCons (gdName 10) (gdCons (gdName 11) (gdCons (gdName 12) (gdNil))))) (gdNil))))
def wrB : SD := (dSeq (dAsg (dOp (fAdd false) (dLst false (dCons (dTup (dCons (dC (.str "begin")) (dCons (dVar 10) (dCons (dVar 11) (dNil))))) (dNil))) (dOp (fMul false) (dLst false (dCons (dTup (dCons (dC (.str "step")) (dCons (dVar 9) (dNil)))) (dNil))) (dOp (fAdd false) (dVar 5) (dC (.int 1))))) (gdName 13)) (dSeq (dIfS (dB (dOp (fEq true) (dCB (fListOf false) (dCons (dSl false (dVar 3) (dPart (dVar 6)) (dPart (dOp (fAdd false) (dOp (fAdd false) (dVar 6) (dVar 5)) (dC (.int 2))))) (dNil))) (dVar 13))) (dRet (dC (.bl false))) (dNext)) (dPar 8 6 (dCons (dOp (fAdd false) (dVar 8) (dCall 4 F__law_merged (dCons (dVar 2) (dCons (dVar 10) (dCons (dVar 11) (dCons (dVar 12) (dNil))))))) (dCons (dOp (fAdd false) (dOp (fAdd false) (dVar 6) (dVar 5)) (dC (.int 2))) (dNil))))))
def whB : SD := (dDrop (dBM "dict" fDUpd (dVar 14) (dCons (dCB (fDctP false) (dCons (dLc false (dSeqI (dVar 16)) (gdName 17) (dYes) (dTup (dCons (dVar 17) (dCons (dOp (fAdd false) (dVar 15) (dC (.int 1))) (dNil)))) [17]) (dNil))) (dNil))))
def InvS (S : LS) : Prop := ∀ i A, S i = some A → (aKeys A).Nodup ∧ ∀ x ∈ aKeys A, x ∈ ten
theorem inv_len {A : AL Int} (n : (aKeys A).Nodup) (t : ∀ x ∈ aKeys A, x ∈ ten) : A.length ≤ 10 := by
  have := len_ten n t
  simpa [aKeys] using this
theorem mrg_keys {k : Bool} {A B : AL Int} {x : Int} (a : (aKeys A).Nodup) (b : (aKeys B).Nodup) (h : x ∈ aKeys (mrg k A B)) : x ∈ aKeys A ∨ x ∈ aKeys B := by
  have q := aGet_some_iff.mpr h
  rw [mrg_get a b] at q
  cases e : aGet B x with
  | some w => exact .inr (aGet_some_iff.mp (by rw [e]; rfl))
  | none =>
    rw [e] at q
    exact .inl (aGet_some_iff.mp q)
theorem inv_up {S : LS} {i : Int} {o : Option (AL Int)} (I : InvS S) (ho : ∀ A, o = some A → (aKeys A).Nodup ∧ ∀ x ∈ aKeys A, x ∈ ten) : InvS (upL S i o) := fun j A e => by
  unfold upL at e
  split at e
  · exact ho A e
  · exact I j A e
theorem inv_do {S : LS} {j : Bool × Int × Int} (I : InvS S) : InvS (doJ S j) := by
  unfold doJ
  split
  · rename_i A B ea eb
    obtain ⟨na, ta⟩ := I _ _ ea
    obtain ⟨nb, tb⟩ := I _ _ eb
    have m : ∀ k C, some (mrg k A B) = some C → (aKeys C).Nodup ∧ ∀ x ∈ aKeys C, x ∈ ten := fun k C e => by
      cases e
      exact ⟨mrg_nd na nb, fun x hx => (mrg_keys na nb hx).elim (ta x) (tb x)⟩
    split
    · exact inv_up (inv_up I (m true)) fun C e => by cases e
    · exact inv_up (inv_up I (m false)) fun C e => by cases e
  · exact I
theorem inv_0 {rs : List (List Int)} (C : Chain rs) : InvS (S0 rs) := fun i A e => by
  unfold S0 at e
  split at e
  · rename_i h
    cases e
    have m : rowAt rs (i - 1) ∈ rs := rowAt_mem (by omega) (by omega)
    refine ⟨leaf_nd C (by omega) (by omega), fun x hx => ?_⟩
    unfold leafA at hx
    rw [keys_map (g := fun _ => i - 1 + 1)] at hx
    exact (C.own _ m).bd x hx
  · cases e
    exact ⟨List.nodup_nil, fun x hx => by cases hx⟩
theorem cut_mid {pre mid rest : List CM.D} {lo hi : Int} (h0 : lo = pre.length) (h1 : hi = pre.length + mid.length) : CM.cutD (pre ++ mid ++ rest) (some lo) (some hi) = mid := by
  subst h0 h1
  unfold CM.cutD
  have s1 : HT.sIx (pre ++ mid ++ rest).length 0 (some ((pre.length : Nat) : Int)) = pre.length := by
    rw [HT.sIx_nat]
    simp only [List.length_append]
    omega
  have s2 : HT.sIx (pre ++ mid ++ rest).length (pre ++ mid ++ rest).length (some ((pre.length : Int) + mid.length)) = pre.length + mid.length := by
    rw [show (pre.length : Int) + mid.length = ((pre.length + mid.length : Nat) : Int) by omega, HT.sIx_nat]
    simp only [List.length_append]
    omega
  rw [s1, s2]
  simp
theorem line_len_eq {m : Int} (m0 : 0 ≤ m) : ∀ {js : List (Bool × Int × Int)} {g : Int}, ((lineOf m g js).length : Int) = js.length * (m + 2)
  | [], g => by simp [lineOf]
  | j :: js, g => by
    have := line_len_eq m0 (js := js) (g := g + 1)
    show ((CM.D.tup _ :: List.replicate _ _ ++ lineOf m (g + 1) js).length : Int) = _
    simp only [List.length_append, List.length_cons, List.length_replicate]
    have e : (((js.length + 1 : Nat)) : Int) * (m + 2) = js.length * (m + 2) + (m + 2) := by
      rw [show (((js.length + 1 : Nat)) : Int) = (js.length : Int) + 1 by omega, Int.add_mul]
      omega
    rw [e, ← this]
    omega
section
variable {h : CH}
theorem mul_l {l : List CM.D} {k : Int} (k0 : 0 ≤ k) (k1 : k ≤ 100000) (z : l.length * k.toNat ≤ 1000000) : fMul false (.lst l) (.int k) h = .ok (.lst (List.replicate k.toNat l).flatten) h := by
  show (if -(2 ^ 63) ≤ k ∧ k < 2 ^ 63 ∧ l.length * k.toNat ≤ sizeLine then _ else _) = _
  rw [if_pos ⟨by omega, by omega, Nat.le_trans z (by decide)⟩]
  rfl
theorem add_ll {a b : List CM.D} (l : a.length + b.length ≤ 1000000) : fAdd false (.lst a) (.lst b) h = .ok (.lst (a ++ b)) h := by
  show (if a.length + b.length ≤ sizeLine then _ else _) = _
  rw [if_pos (Nat.le_trans l (by decide))]
  rfl
theorem rep_one {n : Nat} {d : CM.D} : (List.replicate n [d]).flatten = List.replicate n d := by
  induction n with
  | zero => rfl
  | succ n ih => rw [List.replicate_succ, List.flatten_cons, ih]; rfl
end
theorem jobs_loop {b LR N : Nat} {ad : Nat → Nat} {m : Int} (m0 : 0 ≤ m) (m1 : m ≤ 10) {line : List CM.D} {x0 x1 x4 x7 x14 x15 x16 x17 : Option CM.D} (hN : N + 2 < 100) (ll : line.length < 1000) (nb : True) :
    ∀ {js : List (Bool × Int × Int)} {g : Nat} {pre : List CM.D} {S : LS} {h : CH} {c : Int} {x9 x10 x11 x12 x13 : Option CM.D}, Lay b h LR ad (N + 2) S → InvS S → Can N S js → line = pre ++ lineOf m g js → g + js.length < 12 → N < 11 →
      ∃ h' y9 y10 y11 y12 y13, dForL wrT wrB (enD g (js.map jobD)) [x0, x1, some (.ref LR), some (.lst line), x4, some (.int m), some (.int pre.length), x7, some (.int c), x9, x10, x11, x12, x13, x14, x15, x16, x17] h = .nx [x0, x1, some (.ref LR), some (.lst line), x4, some (.int m), some (.int line.length), x7, some (.int (c + rct S js)), y9, y10, y11, y12, y13, x14, x15, x16, x17] h' ∧ Lay b h' LR ad (N + 2) (runJ S js) ∧ h'.nx = h.nx ∧ ∀ j, j < b → h'.ob j = h.ob j
  | [], g, pre, S, h, c, x9, x10, x11, x12, x13, L, I, K, e, lg, hn => by
    have ep : line = pre := by simpa [lineOf] using e
    refine ⟨h, x9, x10, x11, x12, x13, ?_, L, rfl, fun _ _ => rfl⟩
    rw [ep]
    show RS.nx _ _ = _
    rw [show c + rct S [] = c by show c + 0 = c; omega]
  | j :: js, g, pre, S, h, c, x9, x10, x11, x12, x13, L, I, K, e, lg, hn => by
    obtain ⟨k, u, l⟩ := j
    simp only [List.length_cons] at lg
    obtain ⟨⟨A, B, eA, eB, na, nb'⟩, l1, lu, uN, K'⟩ := K
    simp only at eA eB l1 lu uN
    obtain ⟨un, rfl⟩ := Int.eq_ofNat_of_zero_le (show 0 ≤ u by omega)
    obtain ⟨ln, rfl⟩ := Int.eq_ofNat_of_zero_le (show 0 ≤ l by omega)
    obtain ⟨_, tA⟩ := I _ _ eA
    obtain ⟨_, tB⟩ := I _ _ eB
    have lA := inv_len na tA
    have lB := inv_len nb' tB
    obtain ⟨h1, em, L1, n1, f1⟩ := law_merged_ok k L (u := un) (l := ln) (by omega) (by omega) (by omega) eA eB na nb' (by omega) (by omega) hN
    have I1 : InvS (doJ S (k, (un : Int), (ln : Int))) := inv_do I
    -- the deeds that are due
    have mid : ∃ mid : List CM.D, mid = CM.D.tup [.str "begin", .str (kS k), .int un] :: List.replicate (m + 1).toNat (stepD g) ∧ (mid.length : Int) = m + 2 ∧ line = pre ++ mid ++ lineOf m ((g + 1 : Nat) : Int) js ∧ ∀ d ∈ mid, Dd d := by
      refine ⟨_, rfl, by simp only [List.length_cons, List.length_replicate]; omega, ?_, fun d hd => ?_⟩
      · rw [e]
        show pre ++ (CM.D.tup _ :: List.replicate _ _ ++ lineOf m ((g : Int) + 1) js) = _
        simp
      · rcases List.mem_cons.mp hd with rfl | hd
        · exact dd_beg (by omega) (by omega)
        · rw [List.eq_of_mem_replicate hd]
          exact dd_step (by omega) (by omega)
    obtain ⟨mid, em1, em2, em3, em4⟩ := mid
    have lm : mid.length ≤ 1000 := by omega
    have tg : wrT (.tup [.int g, jobD (k, (un : Int), (ln : Int))]) [x0, x1, some (.ref LR), some (.lst line), x4, some (.int m), some (.int pre.length), x7, some (.int c), x9, x10, x11, x12, x13, x14, x15, x16, x17] h = .ok [x0, x1, some (.ref LR), some (.lst line), x4, some (.int m), some (.int pre.length), x7, some (.int c), some (.int g), some (.str (kS k)), some (.int un), some (.int ln), x13, x14, x15, x16, x17] h := by
      unfold wrT
      simp [gdTup, gdCons, gdNil]
    have l1' : 1 ≤ sizeLine := by decide
    have l2 : 2 ≤ sizeLine := by decide
    have l3 : 3 ≤ sizeLine := by decide
    have ml := mul_l (h := h) (l := [stepD g]) (k := m + 1) (by omega) (by omega) (by simp; omega)
    rw [rep_one] at ml
    have al := add_ll (h := h) (a := [CM.D.tup [.str "begin", .str (kS k), .int un]]) (b := List.replicate (m + 1).toNat (stepD g)) (by simp; omega)
    rw [show [CM.D.tup [.str "begin", .str (kS k), .int un]] ++ List.replicate (m + 1).toNat (stepD g) = mid from em1.symm] at al
    have q0 : (dAsg (dOp (fAdd false) (dLst false (dCons (dTup (dCons (dC (.str "begin")) (dCons (dVar 10) (dCons (dVar 11) (dNil))))) (dNil))) (dOp (fMul false) (dLst false (dCons (dTup (dCons (dC (.str "step")) (dCons (dVar 9) (dNil)))) (dNil))) (dOp (fAdd false) (dVar 5) (dC (.int 1))))) (gdName 13)) [x0, x1, some (.ref LR), some (.lst line), x4, some (.int m), some (.int pre.length), x7, some (.int c), some (.int g), some (.str (kS k)), some (.int un), some (.int ln), x13, x14, x15, x16, x17] h = .nx [x0, x1, some (.ref LR), some (.lst line), x4, some (.int m), some (.int pre.length), x7, some (.int c), some (.int g), some (.str (kS k)), some (.int un), some (.int ln), some (.lst mid), x14, x15, x16, x17] h := by
      simp [l1', l2, l3, mkL, addI, ml, al]
    have sl : dSl false (dVar 3) (dPart (dVar 6)) (dPart (dOp (fAdd false) (dOp (fAdd false) (dVar 6) (dVar 5)) (dC (.int 2)))) [x0, x1, some (.ref LR), some (.lst line), x4, some (.int m), some (.int pre.length), x7, some (.int c), some (.int g), some (.str (kS k)), some (.int un), some (.int ln), some (.lst mid), x14, x15, x16, x17] h = .ok (.lst mid) h := by
      have cm := cut_mid (pre := pre) (mid := mid) (rest := lineOf m ((g + 1 : Nat) : Int) js) (lo := pre.length) (hi := (pre.length : Int) + m + 2) rfl (by omega)
      rw [← em3] at cm
      unfold dSl dPart
      simp [addI, lstOf, mkL, cm]
    have lo : fListOf false [.lst mid] h = .ok (.lst mid) h := rfl
    have eq := eq_dds (h := h) em4
    have q1 : (dIfS (dB (dOp (fEq true) (dCB (fListOf false) (dCons (dSl false (dVar 3) (dPart (dVar 6)) (dPart (dOp (fAdd false) (dOp (fAdd false) (dVar 6) (dVar 5)) (dC (.int 2))))) (dNil))) (dVar 13))) (dRet (dC (.bl false))) (dNext)) [x0, x1, some (.ref LR), some (.lst line), x4, some (.int m), some (.int pre.length), x7, some (.int c), some (.int g), some (.str (kS k)), some (.int un), some (.int ln), some (.lst mid), x14, x15, x16, x17] h = .nx [x0, x1, some (.ref LR), some (.lst line), x4, some (.int m), some (.int pre.length), x7, some (.int c), some (.int g), some (.str (kS k)), some (.int un), some (.int ln), some (.lst mid), x14, x15, x16, x17] h := by
      simp [sl, lo, eq]
    have q2 : (dPar 8 6 (dCons (dOp (fAdd false) (dVar 8) (dCall 4 F__law_merged (dCons (dVar 2) (dCons (dVar 10) (dCons (dVar 11) (dCons (dVar 12) (dNil))))))) (dCons (dOp (fAdd false) (dOp (fAdd false) (dVar 6) (dVar 5)) (dC (.int 2))) (dNil)))) [x0, x1, some (.ref LR), some (.lst line), x4, some (.int m), some (.int pre.length), x7, some (.int c), some (.int g), some (.str (kS k)), some (.int un), some (.int ln), some (.lst mid), x14, x15, x16, x17] h = .nx [x0, x1, some (.ref LR), some (.lst line), x4, some (.int m), some (.int (pre ++ mid).length), x7, some (.int (c + mct k A B)), some (.int g), some (.str (kS k)), some (.int un), some (.int ln), some (.lst mid), x14, x15, x16, x17] h1 := by
      have el : ((pre ++ mid).length : Int) = (pre.length : Int) + m + 2 := by rw [List.length_append]; omega
      rw [el]
      simp [em, addI]
    have body : wrB [x0, x1, some (.ref LR), some (.lst line), x4, some (.int m), some (.int pre.length), x7, some (.int c), some (.int g), some (.str (kS k)), some (.int un), some (.int ln), x13, x14, x15, x16, x17] h = .nx [x0, x1, some (.ref LR), some (.lst line), x4, some (.int m), some (.int (pre ++ mid).length), x7, some (.int (c + mct k A B)), some (.int g), some (.str (kS k)), some (.int un), some (.int ln), some (.lst mid), x14, x15, x16, x17] h1 := by
      unfold wrB
      rw [seqX q0, seqX q1, q2]
    obtain ⟨h', y9, y10, y11, y12, y13, go, L2, n2, f2⟩ := jobs_loop m0 m1 hN ll nb (x0 := x0) (x1 := x1) (x4 := x4) (x7 := x7) (x14 := x14) (x15 := x15) (x16 := x16) (x17 := x17) (js := js) (g := g + 1) (pre := pre ++ mid) (c := c + mct k A B) (x9 := some (.int g)) (x10 := some (.str (kS k))) (x11 := some (.int un)) (x12 := some (.int ln)) (x13 := some (.lst mid)) L1 I1 K' em3 (by omega) hn
    refine ⟨h', y9, y10, y11, y12, y13, ?_, L2, by omega, fun j hj => (f2 j hj).trans (f1 j hj)⟩
    show dForL wrT wrB (CM.D.tup [.int g, jobD (k, (un : Int), (ln : Int))] :: enD (g + 1) (js.map jobD)) _ _ = _
    rw [forL_step tg body, go]
    have ec : ctJ S (k, (un : Int), (ln : Int)) = mct k A B := by
      unfold ctJ
      simp only [eA, eB]
    have er : c + mct k A B + rct (doJ S (k, (un : Int), (ln : Int))) js = c + rct S ((k, (un : Int), (ln : Int)) :: js) := by
      show _ = c + (ctJ S (k, (un : Int), (ln : Int)) + rct (doJ S (k, (un : Int), (ln : Int))) js)
      rw [ec]
      omega
    rw [er]
theorem merge_kI : ∀ {B A : AL Int}, mergeD (kI A) (kI B) = kI (puts A B)
  | [], A => rfl
  | p :: B, A => by
    show mergeD (dPut (kI A) (.inl p.1) (.int p.2)) (kI B) = _
    rw [kI_put, merge_kI]
    rfl
theorem pairs_kI {i : Int} : ∀ {r : List Int}, pairsL (r.map fun c => CM.D.tup [.int c, .int (i + 1)]) = some (kI (r.map fun c => (c, i + 1)))
  | [] => rfl
  | c :: r => by
    rw [List.map_cons]
    show (match keyD (.int c), pairsL (r.map fun c => CM.D.tup [.int c, .int (i + 1)]) with
      | some k, some ks => some ((k, CM.D.int (i + 1)) :: ks)
      | _, _ => none) = _
    rw [pairs_kI]
    rfl
section
variable {h : CH}
theorem comp_ok {i : Nat} {ρ : DE} {a b : Nat} {tg : TGD} {te : TD} (ht : ∀ c : Int, ∃ ρ2, tg (.int c) ρ h = .ok ρ2 h ∧ te ρ2 h = .ok (.tup [.int c, .int ((i : Int) + 1)]) h) {cs : List Int} : dLcL tg dYes te ρ (cs.map CM.D.int) h = .ok (cs.map fun c => CM.D.tup [.int c, .int ((i : Int) + 1)]) h := by
  have q := lcL_fil (F := CM.D.int) (G := fun c => CM.D.tup [.int c, .int ((i : Int) + 1)]) (g := fun _ => true) (tg := tg) (tt := dYes) (te := te) (ρ0 := ρ) (h := h) (A := cs) fun c _ => by
    obtain ⟨ρ2, e1, e2⟩ := ht c
    exact ⟨ρ2, e1, rfl, fun _ => e2⟩
  rw [q, List.filter_eq_self.mpr fun _ _ => rfl]
theorem wh_loop {W : Nat} {rs : List (List Int)} (C : Chain rs) {x0 x1 x2 x3 x4 x5 x6 x7 x8 x9 x10 x11 x12 x13 : Option CM.D} : ∀ {rows : List (List Int)} {i : Nat} {h : CH} {x15 x16 x17 : Option CM.D}, (∀ t (ht : t < rows.length), rowAt rs ((i + t : Nat) : Int) = rows[t] ∧ Own rows[t]) → i + rows.length ≤ 8 → (whl rs i).length ≤ 10 * i → h.ob W = some (.dct (kI (whl rs i))) →
    ∃ y15 y16 y17, dForL (gdTup 2 (gdCons (gdName 15) (gdCons (gdName 16) (gdNil)))) whB (enD i (rowsD rows)) [x0, x1, x2, x3, x4, x5, x6, x7, x8, x9, x10, x11, x12, x13, some (.ref W), x15, x16, x17] h = .nx [x0, x1, x2, x3, x4, x5, x6, x7, x8, x9, x10, x11, x12, x13, some (.ref W), y15, y16, y17] (h.put W (.dct (kI (whl rs (i + rows.length)))))
  | [], i, h, x15, x16, x17, q, l, lw, e => ⟨x15, x16, x17, by
      rw [show i + ([] : List (List Int)).length = i from rfl, put_id e]
      rfl⟩
  | r :: rows, i, h, x15, x16, x17, q, l, lw, e => by
    simp only [List.length_cons] at l
    obtain ⟨er, or⟩ := q 0 (by simp)
    have er' : rowAt rs (i : Int) = r := er
    have lr : r.length ≤ 10 := or.len
    have l2 : 2 ≤ sizeLine := by decide
    have e1 : whl rs (i + 1) = puts (whl rs i) (r.map fun c => (c, (i : Int) + 1)) := by
      show puts (whl rs i) (leafA rs i) = _
      unfold leafA
      rw [er']
    have lw1 : (whl rs (i + 1)).length ≤ 10 * (i + 1) := by
      rw [e1]
      have := puts_len (A := whl rs i) (B := r.map fun c => (c, (i : Int) + 1))
      simp only [List.length_map] at this
      omega
    have tg : (gdTup 2 (gdCons (gdName 15) (gdCons (gdName 16) (gdNil)))) (.tup [.int i, tupI r]) [x0, x1, x2, x3, x4, x5, x6, x7, x8, x9, x10, x11, x12, x13, some (.ref W), x15, x16, x17] h = .ok [x0, x1, x2, x3, x4, x5, x6, x7, x8, x9, x10, x11, x12, x13, some (.ref W), some (.int i), some (tupI r), x17] h := by simp [gdTup, gdCons, gdNil]
    have lc : dLc false (dSeqI (dVar 16)) (gdName 17) (dYes) (dTup (dCons (dVar 17) (dCons (dOp (fAdd false) (dVar 15) (dC (.int 1))) (dNil)))) [17] [x0, x1, x2, x3, x4, x5, x6, x7, x8, x9, x10, x11, x12, x13, some (.ref W), some (.int i), some (tupI r), x17] h = .ok (.lst (r.map fun c => CM.D.tup [.int c, .int ((i : Int) + 1)])) h := by
      unfold dLc
      simp only [e_seqI, e_var, List.getElem?_cons_zero, List.getElem?_cons_succ, bind_ok, itemsD]
      rw [if_pos (Nat.le_trans (show _ ≤ 100 by rw [List.length_map]; omega) (by decide))]
      show ((dLcL (gdName 17) dYes _ [x0, x1, x2, x3, x4, x5, x6, x7, x8, x9, x10, x11, x12, x13, some (.ref W), some (.int i), some (tupI r), none] _ _).bind _).unl none = _
      rw [comp_ok (i := i) (a := 0) (b := 0) fun c => ⟨[x0, x1, x2, x3, x4, x5, x6, x7, x8, x9, x10, x11, x12, x13, some (.ref W), some (.int i), some (tupI r), some (.int c)], rfl, by simp [addI, l2]⟩]
      rfl
    have nr : (r.map fun c => (c, (i : Int) + 1)) = puts [] (r.map fun c => (c, (i : Int) + 1)) := (rowI_puts (i := i) (nd_of_lt or.lt)).symm
    have dp : fDctP false [.lst (r.map fun c => CM.D.tup [.int c, .int ((i : Int) + 1)])] h = .ok (.dct (kI (r.map fun c => (c, (i : Int) + 1)))) h := by
      unfold fDctP
      simp only [lstOf, pairs_kI]
      show R.ok (CM.D.dct (mergeD (kI []) (kI (r.map fun c => (c, (i : Int) + 1))))) h = _
      rw [merge_kI, ← nr]
    have up : fDUpd (.ref W) [.dct (kI (r.map fun c => (c, (i : Int) + 1)))] h = .ok .non (h.put W (.dct (kI (whl rs (i + 1))))) := by
      unfold fDUpd
      simp only [e]
      rw [if_pos (Nat.le_trans (show _ ≤ 1000 by rw [kI_len, kI_len, List.length_map]; omega) (by decide)), merge_kI, e1]
    have tW : isTy "dict" (.ref W) h = true := by simp [isTy, dctOf, e]
    have body : whB [x0, x1, x2, x3, x4, x5, x6, x7, x8, x9, x10, x11, x12, x13, some (.ref W), some (.int i), some (tupI r), x17] h = .nx [x0, x1, x2, x3, x4, x5, x6, x7, x8, x9, x10, x11, x12, x13, some (.ref W), some (.int i), some (tupI r), x17] (h.put W (.dct (kI (whl rs (i + 1))))) := by
      unfold whB
      rw [s_drop]
      have t : dBM "dict" fDUpd (dVar 14) (dCons (dCB (fDctP false) (dCons (dLc false (dSeqI (dVar 16)) (gdName 17) (dYes) (dTup (dCons (dVar 17) (dCons (dOp (fAdd false) (dVar 15) (dC (.int 1))) (dNil)))) [17]) (dNil))) (dNil)) [x0, x1, x2, x3, x4, x5, x6, x7, x8, x9, x10, x11, x12, x13, some (.ref W), some (.int i), some (tupI r), x17] h = .ok .non (h.put W (.dct (kI (whl rs (i + 1))))) := by
        have o : dVar 14 [x0, x1, x2, x3, x4, x5, x6, x7, x8, x9, x10, x11, x12, x13, some (.ref W), some (.int i), some (tupI r), x17] h = .ok (.ref W) h := rfl
        unfold dBM
        rw [o, bind_ok, if_pos tW]
        simp only [e_cons, e_nil, e_CB, lc, bind_ok, dp]
        exact up
      rw [t, toS_ok]
    obtain ⟨y15, y16, y17, ih⟩ := wh_loop C (x0 := x0) (x1 := x1) (x2 := x2) (x3 := x3) (x4 := x4) (x5 := x5) (x6 := x6) (x7 := x7) (x8 := x8) (x9 := x9) (x10 := x10) (x11 := x11) (x12 := x12) (x13 := x13) (W := W) (rows := rows) (i := i + 1) (h := h.put W (.dct (kI (whl rs (i + 1))))) (x15 := some (.int i)) (x16 := some (tupI r)) (x17 := x17) (fun t ht => by
      have := q (t + 1) (by simp only [List.length_cons]; omega)
      rw [show i + 1 + t = i + (t + 1) by omega]
      exact this) (by omega) lw1 put_same
    refine ⟨y15, y16, y17, ?_⟩
    show dForL (gdTup 2 (gdCons (gdName 15) (gdCons (gdName 16) (gdNil)))) whB (CM.D.tup [.int i, tupI r] :: enD (i + 1) (rowsD rows)) _ _ = _
    rw [forL_step tg body, ih, put_put, show i + 1 + rows.length = i + (r :: rows).length by simp only [List.length_cons]; omega]
theorem work_right_ok {rs : List (List Int)} (C : Chain rs) {p : Pl} (s : Sp p 0 (rs.length - 1)) {b LR : Nat} {ad : Nat → Nat} (L : Lay b h LR ad (rs.length + 2) (S0 rs)) : ∃ h', F__law_work_right [.lst (rowsD rs), p.D, .ref LR, .lst (lineOf (cellsN rs) 0 p.jobs)] h = .ok (.bl true) h' ∧ h.nx ≤ h'.nx ∧ ∀ j, j < b → h'.ob j = h.ob j := by
  have n1 := C.ne
  have n8 := C.le
  have c : ChD rs (.lst (rowsD rs)) := .inl rfl
  obtain ⟨c1, c2⟩ := cells_bd C
  have jl := jobs_len s
  have ll := line_len (m := cellsN rs) (by omega) c2 (js := p.jobs) (g := 0)
  have lle := line_len_eq (m := cellsN rs) (by omega) (js := p.jobs) (g := 0)
  have lb := L.bl
  obtain ⟨r1, r2, r3, ⟨r4, r5⟩, r6⟩ := plan_run C (S := S0 rs) s (by omega) (by omega) fun i i0 i1 => by
    unfold S0
    rw [if_pos (by omega), show i + 1 - 1 = i by omega]
  -- the jobs listed
  have q0 : wr_0 [some (.lst (rowsD rs)), some p.D, some (.ref LR), some (.lst (lineOf (cellsN rs) 0 p.jobs)), none, none, none, none, none, none, none, none, none, none, none, none, none, none] h = .nx [some (.lst (rowsD rs)), some p.D, some (.ref LR), some (.lst (lineOf (cellsN rs) 0 p.jobs)), some (.ref h.nx), some (.int (cellsN rs)), some (.int 0), none, none, none, none, none, none, none, none, none, none, none] (h.new (.lst [])) := by
    unfold wr_0 dPar3
    have l : (dLst true (dNil)) [some (.lst (rowsD rs)), some p.D, some (.ref LR), some (.lst (lineOf (cellsN rs) 0 p.jobs)), none, none, none, none, none, none, none, none, none, none, none, none, none, none] h = .ok (.ref h.nx) (h.new (.lst [])) := by simp [mkL]
    simp only [e_cons, e_nil, l, bind_ok, e_call, e_var, List.getElem?_cons_zero, cells_of_ok C c, e_C, toS_ok]
    simp [cells_of_ok C c]
  have J : ∃ h2, F__law_jobs [p.D, .ref h.nx] (h.new (.lst [])) = .ok (.int p.top) h2 ∧ h2.ob h.nx = some (.lst (p.jobs.map jobD)) ∧ h2.nx = h.nx + 1 ∧ ∀ j, j < h.nx → h2.ob j = h.ob j := by
    have e : (h.new (.lst [])).ob h.nx = some (.lst []) := by rw [new_ob, if_pos rfl]
    have q := jobs_ok (a := h.nx) (p := p) (k := 9) (L := []) (h := h.new (.lst [])) s (by omega) (by omega) e (by simp; omega)
    by_cases z : p.jobs = []
    · rw [if_pos z] at q
      exact ⟨_, q, by rw [z]; exact e, rfl, fun j hj => new_lt hj⟩
    · rw [if_neg z] at q
      exact ⟨_, q, put_same, rfl, fun j hj => by rw [put_ne (by omega)]; exact new_lt hj⟩
  obtain ⟨h2, ej, oj, nj, fj⟩ := J
  have q1 : wr_1 [some (.lst (rowsD rs)), some p.D, some (.ref LR), some (.lst (lineOf (cellsN rs) 0 p.jobs)), some (.ref h.nx), some (.int (cellsN rs)), some (.int 0), none, none, none, none, none, none, none, none, none, none, none] (h.new (.lst [])) = .nx [some (.lst (rowsD rs)), some p.D, some (.ref LR), some (.lst (lineOf (cellsN rs) 0 p.jobs)), some (.lst (p.jobs.map jobD)), some (.int (cellsN rs)), some (.int 0), some (.int p.top), some (.int 0), none, none, none, none, none, none, none, none, none] (h2.del h.nx) := by
    unfold wr_1
    have t : (dPar 7 8 (dCons (dCall 2 F__law_jobs (dCons (dVar 1) (dCons (dVar 4) (dNil)))) (dCons (dC (.int 0)) (dNil)))) [some (.lst (rowsD rs)), some p.D, some (.ref LR), some (.lst (lineOf (cellsN rs) 0 p.jobs)), some (.ref h.nx), some (.int (cellsN rs)), some (.int 0), none, none, none, none, none, none, none, none, none, none, none] (h.new (.lst [])) = .nx [some (.lst (rowsD rs)), some p.D, some (.ref LR), some (.lst (lineOf (cellsN rs) 0 p.jobs)), some (.ref h.nx), some (.int (cellsN rs)), some (.int 0), some (.int p.top), some (.int 0), none, none, none, none, none, none, none, none, none] h2 := by
      simp [ej]
    have fz' : fz (.ref h.nx) h2 = .ok (.lst (p.jobs.map jobD)) (h2.del h.nx) := by
      unfold fz
      simp only [oj]
    rw [seqX t]
    unfold dFzV
    simp only [List.getElem?_cons_zero, List.getElem?_cons_succ, fz', toS_ok]
    rfl
  have del_ne : ∀ j, j ≠ h.nx → (h2.del h.nx).ob j = h2.ob j := fun j hj => by
    unfold CH.del
    simp only [if_neg hj]
  have L3 : Lay b (h2.del h.nx) LR ad (rs.length + 2) (S0 rs) := L.keep (by show h.nx ≤ h2.nx; omega) fun j hb hj => by rw [del_ne j (by omega), fj j hj]
  generalize hd : h2.del h.nx = h3 at q1 L3 del_ne
  have n3 : h3.nx = h.nx + 1 := by rw [← hd]; exact nj
  have f3 : ∀ j, j < h.nx → h3.ob j = h.ob j := fun j hj => by rw [del_ne j (by omega), fj j hj]
  -- the jobs done
  obtain ⟨h4, y9, y10, y11, y12, y13, go, L4, n4, f4⟩ := jobs_loop (N := rs.length) (m := cellsN rs) (by omega) c2 (line := lineOf (cellsN rs) 0 p.jobs) (x0 := some (.lst (rowsD rs))) (x1 := some p.D) (x4 := some (.lst (p.jobs.map jobD))) (x7 := some (.int p.top)) (x14 := none) (x15 := none) (x16 := none) (x17 := none) (by omega) (by omega) trivial (js := p.jobs) (g := 0) (pre := []) (c := 0) (x9 := none) (x10 := none) (x11 := none) (x12 := none) (x13 := none) L3 (inv_0 C) r6 (by simp) (by omega) (by omega)
  have q2 : wr_2 [some (.lst (rowsD rs)), some p.D, some (.ref LR), some (.lst (lineOf (cellsN rs) 0 p.jobs)), some (.lst (p.jobs.map jobD)), some (.int (cellsN rs)), some (.int 0), some (.int p.top), some (.int 0), none, none, none, none, none, none, none, none, none] h3 = .nx [some (.lst (rowsD rs)), some p.D, some (.ref LR), some (.lst (lineOf (cellsN rs) 0 p.jobs)), some (.lst (p.jobs.map jobD)), some (.int (cellsN rs)), some (.int (lineOf (cellsN rs) 0 p.jobs).length), some (.int p.top), some (.int (0 + rct (S0 rs) p.jobs)), y9, y10, y11, y12, y13, none, none, none, none] h4 := by
    have it : dEnum (dCons (dVar 4) (dNil)) [some (.lst (rowsD rs)), some p.D, some (.ref LR), some (.lst (lineOf (cellsN rs) 0 p.jobs)), some (.lst (p.jobs.map jobD)), some (.int (cellsN rs)), some (.int 0), some (.int p.top), some (.int 0), none, none, none, none, none, none, none, none, none] h3 = .ok (enD 0 (p.jobs.map jobD), none) h3 := by
      unfold dEnum
      simp
    show (dFor (dEnum (dCons (dVar 4) (dNil))) wrT wrB) _ _ = _
    rw [s_for, it, toS_ok]
    simp only
    have go' : dForL wrT wrB (enD 0 (p.jobs.map jobD)) [some (.lst (rowsD rs)), some p.D, some (.ref LR), some (.lst (lineOf (cellsN rs) 0 p.jobs)), some (.lst (p.jobs.map jobD)), some (.int (cellsN rs)), some (.int 0), some (.int p.top), some (.int 0), none, none, none, none, none, none, none, none, none] h3 = _ := go
    rw [go']
    rfl
  rw [r3, ct_ok C s (by omega) (by omega), Int.zero_add] at q2
  -- the whole
  have q3 : wr_3 [some (.lst (rowsD rs)), some p.D, some (.ref LR), some (.lst (lineOf (cellsN rs) 0 p.jobs)), some (.lst (p.jobs.map jobD)), some (.int (cellsN rs)), some (.int (lineOf (cellsN rs) 0 p.jobs).length), some (.int p.top), some (.int (p.W rs)), y9, y10, y11, y12, y13, none, none, none, none] h4 = .nx [some (.lst (rowsD rs)), some p.D, some (.ref LR), some (.lst (lineOf (cellsN rs) 0 p.jobs)), some (.lst (p.jobs.map jobD)), some (.int (cellsN rs)), some (.int (lineOf (cellsN rs) 0 p.jobs).length), some (.int p.top), some (.int (p.W rs)), y9, y10, y11, y12, y13, some (.ref h4.nx), none, none, none] (h4.new (.dct [])) := by
    unfold wr_3
    rw [s_asg]
    have t : dDNew true [some (.lst (rowsD rs)), some p.D, some (.ref LR), some (.lst (lineOf (cellsN rs) 0 p.jobs)), some (.lst (p.jobs.map jobD)), some (.int (cellsN rs)), some (.int (lineOf (cellsN rs) 0 p.jobs).length), some (.int p.top), some (.int (p.W rs)), y9, y10, y11, y12, y13, none, none, none, none] h4 = .ok (.ref h4.nx) (h4.new (.dct [])) := rfl
    rw [t, toS_ok]
    rfl
  obtain ⟨z15, z16, z17, gw⟩ := wh_loop (h := h4.new (.dct [])) (W := h4.nx) C (x0 := some (.lst (rowsD rs))) (x1 := some p.D) (x2 := some (.ref LR)) (x3 := some (.lst (lineOf (cellsN rs) 0 p.jobs))) (x4 := some (.lst (p.jobs.map jobD))) (x5 := some (.int (cellsN rs))) (x6 := some (.int (lineOf (cellsN rs) 0 p.jobs).length)) (x7 := some (.int p.top)) (x8 := some (.int (p.W rs))) (x9 := y9) (x10 := y10) (x11 := y11) (x12 := y12) (x13 := y13) (rows := rs) (i := 0) (x15 := none) (x16 := none) (x17 := none) (fun t ht => by
      have m : rs[t] ∈ rs := List.getElem_mem ht
      refine ⟨?_, C.own _ m⟩
      unfold rowAt
      rw [show ((0 + t : Nat) : Int).toNat = t by omega, List.getElem?_eq_getElem ht]
      rfl) (by omega) (by simp [whl]) (by rw [new_ob, if_pos rfl]; rfl)
  rw [Nat.zero_add] at gw
  have q4 : wr_4 [some (.lst (rowsD rs)), some p.D, some (.ref LR), some (.lst (lineOf (cellsN rs) 0 p.jobs)), some (.lst (p.jobs.map jobD)), some (.int (cellsN rs)), some (.int (lineOf (cellsN rs) 0 p.jobs).length), some (.int p.top), some (.int (p.W rs)), y9, y10, y11, y12, y13, some (.ref h4.nx), none, none, none] (h4.new (.dct [])) = .nx [some (.lst (rowsD rs)), some p.D, some (.ref LR), some (.lst (lineOf (cellsN rs) 0 p.jobs)), some (.lst (p.jobs.map jobD)), some (.int (cellsN rs)), some (.int (lineOf (cellsN rs) 0 p.jobs).length), some (.int p.top), some (.int (p.W rs)), y9, y10, y11, y12, y13, some (.ref h4.nx), z15, z16, z17] ((h4.new (.dct [])).put h4.nx (.dct (kI (whl rs rs.length)))) := by
    have it : dEnum (dCons (dVar 0) (dNil)) [some (.lst (rowsD rs)), some p.D, some (.ref LR), some (.lst (lineOf (cellsN rs) 0 p.jobs)), some (.lst (p.jobs.map jobD)), some (.int (cellsN rs)), some (.int (lineOf (cellsN rs) 0 p.jobs).length), some (.int p.top), some (.int (p.W rs)), y9, y10, y11, y12, y13, some (.ref h4.nx), none, none, none] (h4.new (.dct [])) = .ok (enD 0 (rowsD rs), none) (h4.new (.dct [])) := by
      unfold dEnum
      simp
    show (dFor (dEnum (dCons (dVar 0) (dNil))) (gdTup 2 (gdCons (gdName 15) (gdCons (gdName 16) (gdNil)))) whB) _ _ = _
    rw [s_for, it, toS_ok]
    simp only
    rw [gw]
    rfl
  have L5 : Lay b ((h4.new (.dct [])).put h4.nx (.dct (kI (whl rs rs.length)))) LR ad (rs.length + 2) (runJ (S0 rs) p.jobs) := L4.keep (Nat.le_succ _) fun j hb hj => by rw [put_ne (by omega), new_lt hj]
  have oW : ((h4.new (.dct [])).put h4.nx (.dct (kI (whl rs rs.length)))).ob h4.nx = some (.dct (kI (whl rs rs.length))) := put_same
  have f5 : ∀ j, j < b → ((h4.new (.dct [])).put h4.nx (.dct (kI (whl rs rs.length)))).ob j = h.ob j := fun j hj => by
    rw [put_ne (by omega), new_lt (by omega), f4 j hj, f3 j (by omega)]
  have n5 : ((h4.new (.dct [])).put h4.nx (.dct (kI (whl rs rs.length)))).nx = h4.nx + 1 := rfl
  generalize (h4.new (.dct [])).put h4.nx (.dct (kI (whl rs rs.length))) = h5 at q4 L5 oW f5 n5
  refine ⟨h5, ?_, by omega, f5⟩
  obtain ⟨tn, et⟩ := Int.eq_ofNat_of_zero_le (show 0 ≤ p.top by omega)
  have il := L5.at (i := tn) (by omega) (A := p.dc rs) (by rw [show ((tn : Nat) : Int) = p.top from et.symm]; exact r1)
  rw [show ((tn : Nat) : Int) = p.top from et.symm] at il
  have od := L5.dc tn (by omega) (p.dc rs) (by rw [show ((tn : Nat) : Int) = p.top from et.symm]; exact r1)
  obtain ⟨lw1, lw2⟩ := left_whole C s
  have eqh : fEqH false (.ref (ad tn)) (.ref h4.nx) h5 = .ok (.bl true) h5 := by
    obtain ⟨d1, _⟩ := dct_ref (.inl od)
    obtain ⟨d2, _⟩ := dct_ref (.inl oW)
    have all : ((kI (p.dc rs)).length == (kI (whl rs rs.length)).length && (kI (p.dc rs)).all fun q => match dGet (kI (whl rs rs.length)) q.1 with
      | some z => sameH h5 8 q.2 z
      | none => false) = true := by
      rw [Bool.and_eq_true]
      refine ⟨by rw [kI_len, kI_len, lw1]; exact beq_self_eq_true _, List.all_eq_true.mpr fun q hq => ?_⟩
      obtain ⟨a, ha, rfl⟩ := List.mem_map.mp hq
      show (match dGet (kI (whl rs rs.length)) (.inl a.1) with
        | some z => sameH h5 8 (.int a.2) z
        | none => false) = true
      rw [kI_get, lw2 a ha]
      show sameH h5 8 (.int a.2) (.int a.2) = true
      simp [sameH]
    unfold fEqH
    simp only [d1, d2]
    refine (if_pos ?_).trans rfl
    exact all
  have ln : fLen [.lst (lineOf (cellsN rs) 0 p.jobs)] h5 = .ok (.int (lineOf (cellsN rs) 0 p.jobs).length) h5 := rfl
  have ei : ∀ i : Int, fEq false (.int i) (.int i) h5 = .ok (.bl true) h5 := fun i => by
    unfold fEq
    rw [if_pos (by rfl)]
    simp [eqF, bneg]
  have wo : F__law_worth [.lst (rowsD rs), p.D] h5 = .ok (.tup [.int (p.W rs), .lst ((p.C rs).map CM.D.int)]) h5 := worth_ok (k := 9) C c s (by omega) (by omega) (by omega)
  have i0 : fIx (.tup [.int (p.W rs), .lst ((p.C rs).map CM.D.int)]) (.int 0) h5 = .ok (.int (p.W rs)) h5 := rfl
  have q5 : wr_5 [some (.lst (rowsD rs)), some p.D, some (.ref LR), some (.lst (lineOf (cellsN rs) 0 p.jobs)), some (.lst (p.jobs.map jobD)), some (.int (cellsN rs)), some (.int (lineOf (cellsN rs) 0 p.jobs).length), some (.int p.top), some (.int (p.W rs)), y9, y10, y11, y12, y13, some (.ref h4.nx), z15, z16, z17] h5 = .rt (.bl true) h5 := by
    unfold wr_5
    rw [s_ret]
    simp [ln, ei, il, eqh, wo, i0]
  show (u__law_work_right [some (.lst (rowsD rs)), some p.D, some (.ref LR), some (.lst (lineOf (cellsN rs) 0 p.jobs)), none, none, none, none, none, none, none, none, none, none, none, none, none, none] h).res = _
  rw [wr_u, seqX q0, seqX q1, seqX q2, seqX q3, seqX q4, q5]
  rfl
end
def lp_0 : SD := (dAsg (dCall 2 F_deeds_for (dCons (dVar 3) (dCons (dVar 4) (dNil)))) (gdName 5))
def lp_1 : SD := (dAsg (dOp (fAdd false) (dLc false (dEnumN (dCons (dVar 5) (dNil))) (gdTup 2 (gdCons (gdName 7) (gdCons (gdName 8) (gdNil)))) (dB (dOp (fEq false) (dOp fIx (dVar 8) (dC (.int 0))) (dC (.str "begin")))) (dVar 7) [7, 8]) (dLst false (dCons (dCB fLen (dCons (dVar 5) (dNil))) (dNil)))) (gdName 6))
def lp_2 : SD := (dAsg (dCall 1 F__law_built (dCons (dSl false (dVar 5) (dNoPart) (dPart (dOp fIx (dVar 6) (dC (.int 0))))) (dNil))) (gdName 9))
def lp_3 : SD := (dAsg (dOp (fAdd false) (dOp (fAdd false) (dLst false (dCons (dDNew false) (dNil))) (dLc false (dEnum (dCons (dVar 3) (dNil))) (gdTup 2 (gdCons (gdName 12) (gdCons (gdName 13) (gdNil)))) (dYes) (dCB (fDctP false) (dCons (dLc false (dSeqP (dVar 13)) (gdName 11) (dYes) (dTup (dCons (dVar 11) (dCons (dOp (fAdd false) (dVar 12) (dC (.int 1))) (dNil)))) [11]) (dNil))) [12, 13])) (dLst false (dCons (dDNew false) (dNil)))) (gdName 10))
def lp_4 : SD := (dIfS (dOr (dNot (dB (dCB (fIsi [0] (ktT [[.o 0]] tys)) (dCons (dVar 5) (dCons (dC (.ty "list")) (dNil)))))) (dB (dOp (fEqHL true) (dVar 9) (dVar 10)))) (dRet (dC (.bl false))) (dNext))
def lp_5 : SD := (dIfS (dNot (dB (dCall 4 F__law_work_right (dCons (dVar 3) (dCons (dVar 4) (dCons (dVar 9) (dCons (dSl false (dVar 5) (dPart (dOp fIx (dVar 6) (dC (.int 0)))) (dNoPart)) (dNil)))))))) (dRet (dC (.bl false))) (dNext))
def lp_6 : SD := (dAsg (dCB fRep (dCons (dVar 5) (dNil))) (gdName 14))
def lp_7 : SD := (dDrop (dBM "list" fAppend (dVar 5) (dCons (dC .non) (dNil))))
def lp_8 : SD := (dIfS (dOr (dB (dOp (fEq true) (dCB fRep (dCons (dCallN 0 2 ([.k 1, .k 0]) F_deeds_for (dNil) (dCons (dVar 4) (dCons (dCB fTupOf (dCons (dVar 3) (dNil))) (dNil)))) (dNil))) (dVar 14))) (dB (dOp (fB fun i j => decide (i < j)) (dCall 2 F_cost (dCons (dVar 3) (dCons (dVar 4) (dNil)))) (dC (.int 0))))) (dRet (dC (.bl false))) (dNext))
def lpAll : SD := (dSeq (lp_0) (dSeq (lp_1) (dSeq (lp_2) (dSeq (lp_3) (dSeq (lp_4) (dSeq (lp_5) (dSeq (lp_6) (dSeq (lp_7) (lp_8)))))))))
def isB : CM.D → Bool
  | .tup (.str w :: _) => w == Str.ofString "begin"
  | _ => false
def Ft (d : CM.D) : Prop := ∃ w l, d = .tup (.str w :: l)
def enP : Nat → List CM.D → List (Nat × CM.D)
  | _, [] => []
  | k, x :: xs => (k, x) :: enP (k + 1) xs
theorem enP_map : ∀ {xs : List CM.D} {k : Nat}, enD k xs = (enP k xs).map fun p => CM.D.tup [.int p.1, p.2]
  | [], _ => rfl
  | x :: xs, k => by
    show CM.D.tup [.int k, x] :: enD (k + 1) xs = _
    rw [enP_map]
    rfl
theorem enP_mem : ∀ {xs : List CM.D} {k : Nat} {p : Nat × CM.D}, p ∈ enP k xs → p.2 ∈ xs
  | [], _, _, h => by cases h
  | x :: xs, k, p, h => by
    rcases List.mem_cons.mp (show p ∈ (k, x) :: enP (k + 1) xs from h) with rfl | h
    · exact List.mem_cons_self ..
    · exact List.mem_cons_of_mem _ (enP_mem h)
theorem enP_app : ∀ {xs ys : List CM.D} {k : Nat}, enP k (xs ++ ys) = enP k xs ++ enP (k + xs.length) ys
  | [], ys, k => by simp [enP]
  | x :: xs, ys, k => by
    show (k, x) :: enP (k + 1) (xs ++ ys) = (k, x) :: enP (k + 1) xs ++ _
    rw [enP_app, List.length_cons, show k + 1 + xs.length = k + (xs.length + 1) by omega]
    rfl
theorem enP_none {xs : List CM.D} {k : Nat} (q : ∀ d ∈ xs, isB d = false) : (enP k xs).filter (fun p => isB p.2) = [] := by
  rw [List.filter_eq_nil_iff]
  intro p hp
  rw [q _ (enP_mem hp)]
  exact Bool.false_ne_true
theorem bld_ft : ∀ {rs : List (List Int)} {i : Nat}, ∀ d ∈ bld i rs, Ft d ∧ isB d = false
  | [], _, d, hd => by cases hd
  | r :: rs, i, d, hd => by
    rcases List.mem_append.mp (show d ∈ (covD :: r.map (fun c => wrtD i c)) ++ bld (i + 1) rs from hd) with hd | hd
    · rcases List.mem_cons.mp hd with rfl | hd
      · exact ⟨⟨_, _, rfl⟩, by decide +kernel⟩
      · obtain ⟨c, hc, rfl⟩ := List.mem_map.mp hd
        exact ⟨⟨_, _, rfl⟩, by show (Str.ofString "write" == Str.ofString "begin") = false; decide +kernel⟩
    · exact bld_ft d hd
theorem line_ft {m : Int} : ∀ {js : List (Bool × Int × Int)} {g : Int}, ∀ d ∈ lineOf m g js, Ft d
  | [], _, d, hd => by cases hd
  | j :: js, g, d, hd => by
    rcases List.mem_append.mp (show d ∈ (CM.D.tup [.str "begin", .str (kS j.1), .int j.2.1] :: List.replicate (m + 1).toNat (stepD g)) ++ lineOf m (g + 1) js from hd) with hd | hd
    · rcases List.mem_cons.mp hd with rfl | hd
      · exact ⟨_, _, rfl⟩
      · rw [List.eq_of_mem_replicate hd]
        exact ⟨_, _, rfl⟩
    · exact line_ft d hd
def hdL (rs : List (List Int)) : List CM.D := bld 0 rs ++ [covD]
theorem dds_eq {rs : List (List Int)} {p : Pl} : dds rs p = hdL rs ++ lineOf (cellsN rs) 0 p.jobs := by simp [dds, hdL]
theorem hd_ft {rs : List (List Int)} : ∀ d ∈ hdL rs, Ft d ∧ isB d = false := fun d hd => by
  rcases List.mem_append.mp (show d ∈ bld 0 rs ++ [covD] from hd) with hd | hd
  · exact bld_ft d hd
  · have : d = covD := by simpa using hd
    subst this
    exact ⟨⟨_, _, rfl⟩, by decide +kernel⟩
theorem dds_ft {rs : List (List Int)} {p : Pl} : ∀ d ∈ dds rs p, Ft d := fun d hd => by
  rw [dds_eq] at hd
  exact (List.mem_append.mp hd).elim (fun h => (hd_ft d h).1) (line_ft d)
theorem first_work {rs : List (List Int)} {p : Pl} : ∃ t, ((enP 0 (dds rs p)).filter (fun q => isB q.2)).map (fun q => CM.D.int (q.1 : Int)) ++ [.int ((dds rs p).length : Nat)] = .int ((hdL rs).length : Nat) :: t := by
  rw [dds_eq, enP_app, List.filter_append, enP_none (fun d hd => (hd_ft d hd).2), List.nil_append, Nat.zero_add]
  cases e : p.jobs with
  | nil => exact ⟨[], by simp [lineOf, enP]⟩
  | cons j js =>
    have b : isB (.tup [.str "begin", .str (kS j.1), .int j.2.1]) = true := by
      show (Str.ofString "begin" == Str.ofString "begin") = true
      exact beq_self_eq_true _
    have q : ((enP (hdL rs).length (lineOf (cellsN rs) 0 (j :: js))).filter fun q => isB q.2) = ((hdL rs).length, CM.D.tup [.str "begin", .str (kS j.1), .int j.2.1]) :: ((enP ((hdL rs).length + 1) (List.replicate (cellsN rs + 1).toNat (stepD 0) ++ lineOf (cellsN rs) (0 + 1) js)).filter fun q => isB q.2) := List.filter_cons_of_pos b
    rw [q, List.map_cons, List.cons_append]
    exact ⟨_, rfl⟩
def dueR : Nat → List (List Int) → List CM.D
  | _, [] => []
  | i, r :: rows => .dct (kI (rowI r i)) :: dueR (i + 1) rows
theorem dueR_get : ∀ {rows : List (List Int)} {i t : Nat}, (dueR i rows)[t]? = rows[t]?.map fun r => CM.D.dct (kI (rowI r (i + t)))
  | [], _, _ => by simp [dueR]
  | r :: rows, i, 0 => rfl
  | r :: rows, i, t + 1 => by
    show (dueR (i + 1) rows)[t]? = rows[t]?.map _
    rw [dueR_get, show i + 1 + t = i + (t + 1) by omega]
theorem dueR_len : ∀ {rows : List (List Int)} {i : Nat}, (dueR i rows).length = rows.length
  | [], _ => rfl
  | r :: rows, i => by
    show (dueR (i + 1) rows).length + 1 = rows.length + 1
    rw [dueR_len]
def dueL (rs : List (List Int)) : List CM.D := [.dct []] ++ dueR 0 rs ++ [.dct []]
theorem due_eq {rs : List (List Int)} : dueL rs = (List.range (rs.length + 2)).map fun i : Nat => CM.D.dct (kI ((S0 rs (i : Int)).getD [])) := by
  refine List.ext_getElem? fun j => ?_
  unfold dueL
  rw [List.getElem?_map]
  by_cases h0 : j = 0
  · subst h0
    simp [S0, toD]
  · by_cases h1 : j ≤ rs.length
    · have e1 : ([CM.D.dct []] ++ dueR 0 rs ++ [CM.D.dct []])[j]? = (dueR 0 rs)[j - 1]? := by
        rw [List.append_assoc, List.getElem?_append_right (by simp; omega), List.getElem?_append_left (by simp only [List.length_cons, List.length_nil, dueR_len]; omega)]
        rfl
      rw [e1, dueR_get, List.getElem?_range (by omega), List.getElem?_eq_getElem (by omega)]
      show some (CM.D.dct (kI (rowI _ (0 + (j - 1))))) = some (CM.D.dct (kI ((S0 rs (j : Int)).getD [])))
      have er : rowAt rs ((j : Int) - 1) = rs[j - 1]'(by omega) := by
        have a := rowAt_eq (rs := rs) (i := (j : Int) - 1) (by omega) (by omega)
        rw [show ((j : Int) - 1).toNat = j - 1 by omega] at a
        rw [List.getElem?_eq_getElem (by omega)] at a
        exact (Option.some.inj a).symm
      have es : S0 rs (j : Int) = some (leafA rs ((j : Int) - 1)) := by
        unfold S0
        rw [if_pos (by omega)]
      rw [es]
      show _ = some (CM.D.dct (kI (leafA rs ((j : Int) - 1))))
      unfold leafA
      rw [er]
      congr 3
      refine List.map_congr_left fun c _ => ?_
      rw [show ((0 + (j - 1) : Nat) : Int) + 1 = (j : Int) - 1 + 1 by omega]
    · by_cases h2 : j = rs.length + 1
      · have e1 : ([CM.D.dct []] ++ dueR 0 rs ++ [CM.D.dct []])[j]? = some (CM.D.dct []) := by
          rw [List.getElem?_append_right (by simp only [List.length_append, List.length_cons, List.length_nil, dueR_len]; omega)]
          simp only [List.length_append, List.length_cons, List.length_nil, dueR_len]
          rw [show j - (0 + 1 + rs.length) = 0 by omega]
          rfl
        rw [e1, List.getElem?_range (by omega)]
        have es : S0 rs (j : Int) = some [] := by
          unfold S0
          rw [if_neg (by omega)]
        show _ = some (CM.D.dct (kI ((S0 rs (j : Int)).getD [])))
        rw [es]
        rfl
      · rw [List.getElem?_eq_none (by simp only [List.length_append, List.length_cons, List.length_nil, dueR_len]; omega), List.getElem?_eq_none (by simp; omega)]
        rfl
theorem same_dct {h : CH} {a : Nat} {A : AL Int} (e : h.ob a = some (.dct (kI A))) (n : (aKeys A).Nodup) : sameH h 8 (.ref a) (.dct (kI A)) = true := by
  have l1 : lstOf h (.ref a) = none := by unfold lstOf; simp only [e]
  obtain ⟨d1, _⟩ := dct_ref (.inl e)
  have d2 : dctOf h (.dct (kI A)) = some (kI A) := rfl
  unfold sameH
  simp only [l1, d1, d2]
  rw [Bool.and_eq_true]
  refine ⟨beq_self_eq_true _, List.all_eq_true.mpr fun q hq => ?_⟩
  obtain ⟨x, hx, rfl⟩ := List.mem_map.mp hq
  have g : dGet (kI A) (.inl x.1) = some (.int x.2) := by
    rw [kI_get, aGet_of_mem n hx]
    rfl
  show (match dGet (kI A) (.inl x.1) with
    | some z => sameH h 7 (.int x.2) z
    | none => false) = true
  rw [g]
  simp [sameH]
theorem layers_due {b LR : Nat} {h : CH} {ad : Nat → Nat} {rs : List (List Int)} (C : Chain rs) (L : Lay b h LR ad (rs.length + 2) (S0 rs)) : fEqHL true (.ref LR) (.lst (dueL rs)) h = .ok (.bl false) h := by
  have l1 : lstOf h (.ref LR) = some ((List.range (rs.length + 2)).map (entL ad (S0 rs))) := by unfold lstOf; simp only [L.ob]
  have l2 : lstOf h (.lst (dueL rs)) = some (dueL rs) := rfl
  have all : (((List.range (rs.length + 2)).map (entL ad (S0 rs))).length == (dueL rs).length && (((List.range (rs.length + 2)).map (entL ad (S0 rs))).zip (dueL rs)).all fun p => sameH h 8 p.1 p.2) = true := by
    rw [due_eq, List.zip_map', Bool.and_eq_true]
    refine ⟨by simp, List.all_eq_true.mpr fun q hq => ?_⟩
    obtain ⟨i, hi, rfl⟩ := List.mem_map.mp hq
    have hi := List.mem_range.mp hi
    have es : ∃ A, S0 rs (i : Int) = some A := by
      unfold S0
      split
      · exact ⟨_, rfl⟩
      · exact ⟨_, rfl⟩
    obtain ⟨A, eA⟩ := es
    have od := L.dc i hi A eA
    have en : entL ad (S0 rs) i = .ref (ad i) := by
      unfold entL
      rw [eA]
    show sameH h 8 (entL ad (S0 rs) i) (.dct (kI ((S0 rs (i : Int)).getD []))) = true
    rw [en, eA]
    exact same_dct od (inv_0 C _ _ eA).1
  unfold fEqHL
  simp only [l1, l2]
  rw [if_pos all]
  rfl
section
variable {h : CH} {rs : List (List Int)} {p : Pl} {r : Nat} {x0 x2 x5 x6 x7 x8 x9 x10 x11 x12 x13 x14 : Option CM.D}
theorem work_ok {k : Nat} (e : h.ob k = some (.lst (dds rs p))) (ld : (dds rs p).length ≤ 1000) {t : List CM.D} (ft : ((enP 0 (dds rs p)).filter (fun q => isB q.2)).map (fun q => CM.D.int (q.1 : Int)) ++ [.int ((dds rs p).length : Nat)] = .int ((hdL rs).length : Nat) :: t) : lp_1 [x0, some (.ref r), x2, some (.lst (rowsD rs)), some p.D, some (.ref k), x6, x7, x8, x9, x10, x11, x12, x13, x14] h = .nx [x0, some (.ref r), x2, some (.lst (rowsD rs)), some p.D, some (.ref k), some (.lst (.int ((hdL rs).length : Nat) :: t)), x7, x8, x9, x10, x11, x12, x13, x14] h := by
  have it : dEnumN (dCons (dVar 5) (dNil)) [x0, some (.ref r), x2, some (.lst (rowsD rs)), some p.D, some (.ref k), x6, x7, x8, x9, x10, x11, x12, x13, x14] h = .ok (enD 0 (dds rs p), some (k, .lst (dds rs p))) (h.put k (.lkl (dds rs p))) := by
    unfold dEnumN
    simp [e]
  have lc : dLc false (dEnumN (dCons (dVar 5) (dNil))) (gdTup 2 (gdCons (gdName 7) (gdCons (gdName 8) (gdNil)))) (dB (dOp (fEq false) (dOp fIx (dVar 8) (dC (.int 0))) (dC (.str "begin")))) (dVar 7) [7, 8] [x0, some (.ref r), x2, some (.lst (rowsD rs)), some p.D, some (.ref k), x6, x7, x8, x9, x10, x11, x12, x13, x14] h = .ok (.lst (((enP 0 (dds rs p)).filter (fun q => isB q.2)).map (fun q => CM.D.int (q.1 : Int)))) h := by
    unfold dLc
    rw [it]
    simp only [bind_ok]
    rw [if_pos (Nat.le_trans (show _ ≤ 1000 by rw [enD_length]; exact ld) (by decide)), enP_map]
    show ((dLcL _ _ (dVar 7) [x0, some (.ref r), x2, some (.lst (rowsD rs)), some p.D, some (.ref k), x6, none, none, x9, x10, x11, x12, x13, x14] _ _).bind _).unl _ = _
    rw [lcL_fil (F := fun q : Nat × CM.D => CM.D.tup [.int q.1, q.2]) (G := fun q : Nat × CM.D => CM.D.int (q.1 : Int)) (g := fun q => isB q.2) fun q hq => by
      obtain ⟨w, l, ew⟩ := dds_ft _ (enP_mem hq)
      refine ⟨[x0, some (.ref r), x2, some (.lst (rowsD rs)), some p.D, some (.ref k), x6, some (.int q.1), some q.2, x9, x10, x11, x12, x13, x14], by simp [gdTup, gdCons, gdNil], ?_, fun _ => rfl⟩
      have i0 : fIx (.tup (.str w :: l)) (.int 0) (h.put k (.lkl (dds rs p))) = .ok (.str w) (h.put k (.lkl (dds rs p))) := by
        unfold fIx
        simp only [seqOf]
        have a : atI (CM.D.str w :: l) 0 = some (.str w) := by
          unfold atI ixN
          rw [if_pos (by omega), if_pos (by simp only [List.length_cons]; omega)]
          rfl
        rw [a]
      have es := eq_strs (h := h.put k (.lkl (dds rs p))) w (Str.ofString "begin")
      rw [ew]
      simp [i0, es, isB]]
    show R.ok _ ((h.put k (.lkl (dds rs p))).put k (.lst (dds rs p))) = _
    rw [put_put, put_id e]
  have ln : fLen [.ref k] h = .ok (.int ((dds rs p).length : Nat)) h := by
    have sq : seqOf h (.ref k) = some (dds rs p) := by simp only [seqOf, e]
    unfold fLen
    simp only [sq]
  have ll : (((enP 0 (dds rs p)).filter (fun q => isB q.2)).map (fun q => CM.D.int (q.1 : Int))).length ≤ 1000 := by
    rw [List.length_map]
    refine Nat.le_trans (List.length_filter_le _ _) ?_
    have : (enP 0 (dds rs p)).length = (dds rs p).length := by
      have a := congrArg List.length (enP_map (xs := dds rs p) (k := 0))
      rw [enD_length, List.length_map] at a
      exact a.symm
    omega
  have l1 : 1 ≤ sizeLine := by decide
  have al := add_ll (h := h) (a := ((enP 0 (dds rs p)).filter (fun q => isB q.2)).map (fun q => CM.D.int (q.1 : Int))) (b := [.int ((dds rs p).length : Nat)]) (by simp only [List.length_cons, List.length_nil]; omega)
  rw [ft] at al
  unfold lp_1
  rw [s_asg]
  have t2 : dLst false (dCons (dCB fLen (dCons (dVar 5) (dNil))) (dNil)) [x0, some (.ref r), x2, some (.lst (rowsD rs)), some p.D, some (.ref k), x6, x7, x8, x9, x10, x11, x12, x13, x14] h = .ok (.lst [.int ((dds rs p).length : Nat)]) h := by
    simp [ln, l1, mkL]
  rw [e_op, lc, bind_ok, t2, bind_ok, al, toS_ok]
  rfl
theorem due_loop {ρ1 : Option CM.D → Option CM.D → Option CM.D → DE} {tg : TGD} {te : TD} (ht : ∀ (a b c : Option CM.D) (i : Nat) (r : List Int), Own r → tg (.tup [.int i, tupI r]) (ρ1 a b c) h = .ok (ρ1 a (some (.int i)) (some (tupI r))) h ∧ te (ρ1 a (some (.int i)) (some (tupI r))) h = .ok (.dct (kI (rowI r i))) h) : ∀ {rows : List (List Int)} {i : Nat}, (∀ r ∈ rows, Own r) → dLcL tg dYes te (ρ1 x11 none none) (enD i (rowsD rows)) h = .ok (dueR i rows) h
  | [], _, _ => rfl
  | r :: rows, i, q => by
    obtain ⟨e1, e2⟩ := ht x11 none none i r (q r (List.mem_cons_self ..))
    show (tg (.tup [.int i, tupI r]) (ρ1 x11 none none) h).calm _ = _
    rw [e1, calm_ok]
    show ((R.ok true h : R Bool).calm _ : R (List CM.D)) = _
    rw [calm_ok, if_pos rfl, e2, calm_ok]
    show (dLcL tg dYes te (ρ1 x11 none none) (enD (i + 1) (rowsD rows)) h).bind _ = _
    rw [due_loop ht fun y hy => q y (List.mem_cons_of_mem _ hy)]
    rfl
theorem dLc_eq {nm : Bool} {ti : TDw} {tg : TGD} {tt : TB} {te : TD} {vs : List Nat} {ρ : DE} : dLc nm ti tg tt te vs ρ h = (ti ρ h).bind fun w h => if w.1.length ≤ sizeLine then ((dLcL tg tt te (wipeD ρ vs) w.1 h).bind fun ys h => mkL nm ys h).unl w.2 else .no := rfl
theorem due_ok (C : Chain rs) {x4 : Option CM.D} : lp_3 [x0, some (.ref r), x2, some (.lst (rowsD rs)), x4, x5, x6, x7, x8, x9, x10, x11, x12, x13, x14] h = .nx [x0, some (.ref r), x2, some (.lst (rowsD rs)), x4, x5, x6, x7, x8, x9, some (.lst (dueL rs)), x11, x12, x13, x14] h := by
  have n8 := C.le
  have l1 : 1 ≤ sizeLine := by decide
  have l2 : 2 ≤ sizeLine := by decide
  have one : dLst false (dCons (dDNew false) (dNil)) [x0, some (.ref r), x2, some (.lst (rowsD rs)), x4, x5, x6, x7, x8, x9, x10, x11, x12, x13, x14] h = .ok (.lst [.dct []]) h := by kernel_rfl
  have inner : ∀ (a : Option CM.D) (i : Nat) (q : List Int), Own q → (dCB (fDctP false) (dCons (dLc false (dSeqP (dVar 13)) (gdName 11) (dYes) (dTup (dCons (dVar 11) (dCons (dOp (fAdd false) (dVar 12) (dC (.int 1))) (dNil)))) [11]) (dNil))) [x0, some (.ref r), x2, some (.lst (rowsD rs)), x4, x5, x6, x7, x8, x9, x10, a, some (.int i), some (tupI q), x14] h = .ok (.dct (kI (rowI q i))) h := fun a i q or => by
    have lr : q.length ≤ 10 := or.len
    have lc : dLc false (dSeqP (dVar 13)) (gdName 11) (dYes) (dTup (dCons (dVar 11) (dCons (dOp (fAdd false) (dVar 12) (dC (.int 1))) (dNil)))) [11] [x0, some (.ref r), x2, some (.lst (rowsD rs)), x4, x5, x6, x7, x8, x9, x10, a, some (.int i), some (tupI q), x14] h = .ok (.lst (q.map fun c => CM.D.tup [.int c, .int ((i : Int) + 1)])) h := by
      have it : dSeqP (dVar 13) [x0, some (.ref r), x2, some (.lst (rowsD rs)), x4, x5, x6, x7, x8, x9, x10, a, some (.int i), some (tupI q), x14] h = .ok (q.map CM.D.int, none) h := by
        unfold dSeqP
        simp [itemsD]
      unfold dLc
      rw [it]
      simp only [bind_ok]
      rw [if_pos (Nat.le_trans (show _ ≤ 100 by rw [List.length_map]; omega) (by decide))]
      show ((dLcL (gdName 11) dYes _ [x0, some (.ref r), x2, some (.lst (rowsD rs)), x4, x5, x6, x7, x8, x9, x10, none, some (.int i), some (tupI q), x14] _ _).bind _).unl none = _
      rw [comp_ok (i := i) (a := 0) (b := 0) fun c => ⟨[x0, some (.ref r), x2, some (.lst (rowsD rs)), x4, x5, x6, x7, x8, x9, x10, some (.int c), some (.int i), some (tupI q), x14], rfl, by simp [addI, l2]⟩]
      rfl
    have nr : (q.map fun c => (c, (i : Int) + 1)) = puts [] (q.map fun c => (c, (i : Int) + 1)) := (rowI_puts (i := i) (nd_of_lt or.lt)).symm
    have dp : fDctP false [.lst (q.map fun c => CM.D.tup [.int c, .int ((i : Int) + 1)])] h = .ok (.dct (kI (q.map fun c => (c, (i : Int) + 1)))) h := by
      unfold fDctP
      simp only [lstOf, pairs_kI]
      show R.ok (CM.D.dct (mergeD (kI []) (kI (q.map fun c => (c, (i : Int) + 1))))) h = _
      rw [merge_kI, ← nr]
    simp only [e_CB, e_cons, e_nil, lc, bind_ok, dp]
  have mid : dLc false (dEnum (dCons (dVar 3) (dNil))) (gdTup 2 (gdCons (gdName 12) (gdCons (gdName 13) (gdNil)))) (dYes) (dCB (fDctP false) (dCons (dLc false (dSeqP (dVar 13)) (gdName 11) (dYes) (dTup (dCons (dVar 11) (dCons (dOp (fAdd false) (dVar 12) (dC (.int 1))) (dNil)))) [11]) (dNil))) [12, 13] [x0, some (.ref r), x2, some (.lst (rowsD rs)), x4, x5, x6, x7, x8, x9, x10, x11, x12, x13, x14] h = .ok (.lst (dueR 0 rs)) h := by
    have it : dEnum (dCons (dVar 3) (dNil)) [x0, some (.ref r), x2, some (.lst (rowsD rs)), x4, x5, x6, x7, x8, x9, x10, x11, x12, x13, x14] h = .ok (enD 0 (rowsD rs), none) h := by
      unfold dEnum
      simp
    rw [dLc_eq, it]
    simp only [bind_ok]
    rw [if_pos (Nat.le_trans (show _ ≤ 100 by rw [enD_length, List.length_map]; omega) (by decide))]
    show ((dLcL _ dYes _ ((fun a b c => [x0, some (.ref r), x2, some (.lst (rowsD rs)), x4, x5, x6, x7, x8, x9, x10, a, b, c, x14]) x11 none none) _ _).bind _).unl none = _
    rw [due_loop (ρ1 := fun a b c => [x0, some (.ref r), x2, some (.lst (rowsD rs)), x4, x5, x6, x7, x8, x9, x10, a, b, c, x14]) (fun a b c i q or => ⟨by simp [gdTup, gdCons, gdNil], inner a i q or⟩) fun q hq => C.own q hq]
    rfl
  have a1 := add_ll (h := h) (a := [.dct []]) (b := dueR 0 rs) (by rw [dueR_len]; simp; omega)
  have a2 := add_ll (h := h) (a := [.dct []] ++ dueR 0 rs) (b := [.dct []]) (by rw [List.length_append, dueR_len]; simp; omega)
  unfold lp_3
  rw [s_asg, e_op, e_op, one, bind_ok, mid, bind_ok, a1, bind_ok, one, bind_ok, a2, toS_ok]
  rfl
theorem lap_ok (C : Chain rs) (s : Sp p 0 (rs.length - 1)) : ∃ y5 y6 y7 y8 y9 y10 y11 y12 y13 y14 h', lpAll [x0, some (.ref r), x2, some (.lst (rowsD rs)), some p.D, x5, x6, x7, x8, x9, x10, x11, x12, x13, x14] h = .nx [x0, some (.ref r), x2, some (.lst (rowsD rs)), some p.D, y5, y6, y7, y8, y9, y10, y11, y12, y13, y14] h' ∧ Kp h h' := by
  have n1 := C.ne
  have n8 := C.le
  have c : ChD rs (.lst (rowsD rs)) := .inl rfl
  have c' : ChD rs (.tup (rowsD rs)) := .inr rfl
  obtain ⟨dd, ld⟩ := dds_dd C s
  obtain ⟨t, ft⟩ := first_work (rs := rs) (p := p)
  obtain ⟨sh, rep⟩ := rep_dds dd ld
  obtain ⟨k1, h1, e1, o1, b1, l1, kp1⟩ := deeds_ok (h := h) C c s
  have q0 : lp_0 [x0, some (.ref r), x2, some (.lst (rowsD rs)), some p.D, x5, x6, x7, x8, x9, x10, x11, x12, x13, x14] h = .nx [x0, some (.ref r), x2, some (.lst (rowsD rs)), some p.D, some (.ref k1), x6, x7, x8, x9, x10, x11, x12, x13, x14] h1 := by
    unfold lp_0
    simp [e1]
  have q1 := work_ok (h := h1) (r := r) (x0 := x0) (x2 := x2) (x6 := x6) (x7 := x7) (x8 := x8) (x9 := x9) (x10 := x10) (x11 := x11) (x12 := x12) (x13 := x13) (x14 := x14) o1 ld ft
  obtain ⟨LR, h2, ad, e2, L2, kp2⟩ := built_ok (h := h1) C
  replace e2 : F__law_built [.lst (hdL rs)] h1 = .ok (.ref LR) h2 := e2
  have i0 : ∀ h : CH, fIx (.lst (.int ((hdL rs).length : Nat) :: t)) (.int 0) h = .ok (.int ((hdL rs).length : Nat)) h := fun h => by
    unfold fIx
    simp only [seqOf]
    have a : atI (CM.D.int ((hdL rs).length : Nat) :: t) 0 = some (.int ((hdL rs).length : Nat)) := by
      unfold atI ixN
      rw [if_pos (by omega), if_pos (by simp only [List.length_cons]; omega)]
      rfl
    rw [a]
  have cutA : CM.cutD (dds rs p) none (some (((hdL rs).length : Nat) : Int)) = hdL rs := by
    rw [dds_eq]
    unfold CM.cutD
    have s1 : ∀ n : Nat, HT.sIx n 0 none = 0 := fun n => rfl
    have s2 : HT.sIx (hdL rs ++ lineOf (cellsN rs) 0 p.jobs).length (hdL rs ++ lineOf (cellsN rs) 0 p.jobs).length (some (((hdL rs).length : Nat) : Int)) = (hdL rs).length := by
      rw [HT.sIx_nat]
      simp only [List.length_append]
      omega
    rw [s1, s2]
    simp
  have cutB : CM.cutD (dds rs p) (some (((hdL rs).length : Nat) : Int)) none = lineOf (cellsN rs) 0 p.jobs := by
    rw [dds_eq]
    unfold CM.cutD
    have s1 : HT.sIx (hdL rs ++ lineOf (cellsN rs) 0 p.jobs).length 0 (some (((hdL rs).length : Nat) : Int)) = (hdL rs).length := by
      rw [HT.sIx_nat]
      simp only [List.length_append]
      omega
    have s2 : ∀ n : Nat, HT.sIx n n none = n := fun n => rfl
    rw [s1, s2]
    simp
  have q2 : lp_2 [x0, some (.ref r), x2, some (.lst (rowsD rs)), some p.D, some (.ref k1), some (.lst (.int ((hdL rs).length : Nat) :: t)), x7, x8, x9, x10, x11, x12, x13, x14] h1 = .nx [x0, some (.ref r), x2, some (.lst (rowsD rs)), some p.D, some (.ref k1), some (.lst (.int ((hdL rs).length : Nat) :: t)), x7, x8, some (.ref LR), x10, x11, x12, x13, x14] h2 := by
    have sl : dSl false (dVar 5) (dNoPart) (dPart (dOp fIx (dVar 6) (dC (.int 0)))) [x0, some (.ref r), x2, some (.lst (rowsD rs)), some p.D, some (.ref k1), some (.lst (.int ((hdL rs).length : Nat) :: t)), x7, x8, x9, x10, x11, x12, x13, x14] h1 = .ok (.lst (hdL rs)) h1 := by
      have lo : lstOf h1 (.ref k1) = some (dds rs p) := by simp only [lstOf, o1]
      unfold dSl dNoPart dPart
      simp [i0, lo, mkL, cutA]
    unfold lp_2
    simp [sl, e2]
  have o2 : h2.ob k1 = some (.lst (dds rs p)) := (kp2.ob _ l1).trans o1
  have q3 := due_ok (h := h2) (r := r) (x0 := x0) (x2 := x2) (x4 := some p.D) (x5 := some (.ref k1)) (x6 := some (.lst (.int ((hdL rs).length : Nat) :: t))) (x7 := x7) (x8 := x8) (x9 := some (.ref LR)) (x10 := x10) (x11 := x11) (x12 := x12) (x13 := x13) (x14 := x14) C
  have ld2 := layers_due C L2
  have q4 : lp_4 [x0, some (.ref r), x2, some (.lst (rowsD rs)), some p.D, some (.ref k1), some (.lst (.int ((hdL rs).length : Nat) :: t)), x7, x8, some (.ref LR), some (.lst (dueL rs)), x11, x12, x13, x14] h2 = .nx [x0, some (.ref r), x2, some (.lst (rowsD rs)), some p.D, some (.ref k1), some (.lst (.int ((hdL rs).length : Nat) :: t)), x7, x8, some (.ref LR), some (.lst (dueL rs)), x11, x12, x13, x14] h2 := by
    have isl : fIsi [0] (ktT [[.o 0]] tys) [.ref k1, .ty "list"] h2 = .ok (.bl true) h2 := by
      have tg : tgOf h2 (.ref k1) = some (.b "list") := by simp only [tgOf, o2]
      unfold fIsi
      simp only [tg]
      kernel_rfl
    unfold lp_4
    simp [isl, ld2]
  obtain ⟨h3, e3, n3, f3⟩ := work_right_ok (h := h2) C s L2
  have q5 : lp_5 [x0, some (.ref r), x2, some (.lst (rowsD rs)), some p.D, some (.ref k1), some (.lst (.int ((hdL rs).length : Nat) :: t)), x7, x8, some (.ref LR), some (.lst (dueL rs)), x11, x12, x13, x14] h2 = .nx [x0, some (.ref r), x2, some (.lst (rowsD rs)), some p.D, some (.ref k1), some (.lst (.int ((hdL rs).length : Nat) :: t)), x7, x8, some (.ref LR), some (.lst (dueL rs)), x11, x12, x13, x14] h3 := by
    have sl : dSl false (dVar 5) (dPart (dOp fIx (dVar 6) (dC (.int 0)))) (dNoPart) [x0, some (.ref r), x2, some (.lst (rowsD rs)), some p.D, some (.ref k1), some (.lst (.int ((hdL rs).length : Nat) :: t)), x7, x8, some (.ref LR), some (.lst (dueL rs)), x11, x12, x13, x14] h2 = .ok (.lst (lineOf (cellsN rs) 0 p.jobs)) h2 := by
      have lo : lstOf h2 (.ref k1) = some (dds rs p) := by simp only [lstOf, o2]
      unfold dSl dNoPart dPart
      simp [i0, lo, mkL, cutB]
    unfold lp_5
    simp [sl, e3]
  have o3 : h3.ob k1 = some (.lst (dds rs p)) := (f3 k1 l1).trans o2
  have rp := rep h3 k1 o3
  have q6 : lp_6 [x0, some (.ref r), x2, some (.lst (rowsD rs)), some p.D, some (.ref k1), some (.lst (.int ((hdL rs).length : Nat) :: t)), x7, x8, some (.ref LR), some (.lst (dueL rs)), x11, x12, x13, x14] h3 = .nx [x0, some (.ref r), x2, some (.lst (rowsD rs)), some p.D, some (.ref k1), some (.lst (.int ((hdL rs).length : Nat) :: t)), x7, x8, some (.ref LR), some (.lst (dueL rs)), x11, x12, x13, some (.str sh)] h3 := by
    unfold lp_6
    simp [rp]
  have t3 : isTy "list" (.ref k1) h3 = true := by simp [isTy, lstOf, o3]
  have ap := app_at (y := .non) o3 (by omega)
  have q7 : lp_7 [x0, some (.ref r), x2, some (.lst (rowsD rs)), some p.D, some (.ref k1), some (.lst (.int ((hdL rs).length : Nat) :: t)), x7, x8, some (.ref LR), some (.lst (dueL rs)), x11, x12, x13, some (.str sh)] h3 = .nx [x0, some (.ref r), x2, some (.lst (rowsD rs)), some p.D, some (.ref k1), some (.lst (.int ((hdL rs).length : Nat) :: t)), x7, x8, some (.ref LR), some (.lst (dueL rs)), x11, x12, x13, some (.str sh)] (h3.put k1 (.lst (dds rs p ++ [.non]))) := by
    unfold lp_7
    simp [t3, ap]
  have k3 : Kp h (h3.put k1 (.lst (dds rs p ++ [.non]))) := ⟨by
    have := kp1.nx
    have := kp2.nx
    show h.nx ≤ h3.nx
    omega, fun j hj => by
    rw [put_ne (by omega), f3 j (Nat.lt_of_lt_of_le hj kp1.nx), kp2.ob j (Nat.lt_of_lt_of_le hj kp1.nx), kp1.ob j hj]⟩
  generalize h3.put k1 (.lst (dds rs p ++ [.non])) = h4 at q7 k3
  obtain ⟨k5, h5, e5, o5, _, _, kp5⟩ := deeds_ok (h := h4) C c' s
  have rp5 := rep h5 k5 o5
  have q8 : lp_8 [x0, some (.ref r), x2, some (.lst (rowsD rs)), some p.D, some (.ref k1), some (.lst (.int ((hdL rs).length : Nat) :: t)), x7, x8, some (.ref LR), some (.lst (dueL rs)), x11, x12, x13, some (.str sh)] h4 = .nx [x0, some (.ref r), x2, some (.lst (rowsD rs)), some p.D, some (.ref k1), some (.lst (.int ((hdL rs).length : Nat) :: t)), x7, x8, some (.ref LR), some (.lst (dueL rs)), x11, x12, x13, some (.str sh)] h5 := by
    have tp : fTupOf [.lst (rowsD rs)] h4 = .ok (.tup (rowsD rs)) h4 := rfl
    have w0 := (W_bd C s (by omega) (by omega)).1
    have co := cost_ok (h := h5) C c s
    have es : fEq true (.str sh) (.str sh) h5 = .ok (.bl false) h5 := by
      unfold fEq
      rw [if_pos (by rfl)]
      simp [eqF, bneg]
    have cl : dCallN 0 2 ([.k 1, .k 0]) F_deeds_for (dNil) (dCons (dVar 4) (dCons (dCB fTupOf (dCons (dVar 3) (dNil))) (dNil))) [x0, some (.ref r), x2, some (.lst (rowsD rs)), some p.D, some (.ref k1), some (.lst (.int ((hdL rs).length : Nat) :: t)), x7, x8, some (.ref LR), some (.lst (dueL rs)), x11, x12, x13, some (.str sh)] h4 = .ok (.ref k5) h5 := by
      unfold dCallN
      simp [tp, pickD, e5]
    have nw : ¬ p.W rs < 0 := by omega
    unfold lp_8
    simp [cl, rp5, es, co, fB, nw]
  refine ⟨some (.ref k1), some (.lst (.int ((hdL rs).length : Nat) :: t)), x7, x8, some (.ref LR), some (.lst (dueL rs)), x11, x12, x13, some (.str sh), h5, ?_, k3.trans kp5⟩
  · unfold lpAll
    rw [seqX q0, seqX q1, seqX q2, seqX q3, seqX q4, seqX q5, seqX q6, seqX q7, q8]
end
def tn_0 : SD := (dAsg (dCall 3 F__law_chain (dCons (dVar 1) (dCons (dC (.int 1)) (dCons (dC (.int 8)) (dNil))))) (gdName 3))
def tn_1 : SD := (dFor (dSeqI (dLst false (dCons (dCall 3 F__law_plan (dCons (dVar 1) (dCons (dC (.int 0)) (dCons (dOp fSubI (dCB fLen (dCons (dVar 3) (dNil))) (dC (.int 1))) (dNil))))) (dCons (dOp fIx (dCall 1 F_cheapest (dCons (dVar 3) (dNil))) (dC (.int 1))) (dNil))))) (gdName 4) (dSeq (dAsg (dCall 2 F_deeds_for (dCons (dVar 3) (dCons (dVar 4) (dNil)))) (gdName 5)) (dSeq (dAsg (dOp (fAdd false) (dLc false (dEnumN (dCons (dVar 5) (dNil))) (gdTup 2 (gdCons (gdName 7) (gdCons (gdName 8) (gdNil)))) (dB (dOp (fEq false) (dOp fIx (dVar 8) (dC (.int 0))) (dC (.str "begin")))) (dVar 7) [7, 8]) (dLst false (dCons (dCB fLen (dCons (dVar 5) (dNil))) (dNil)))) (gdName 6)) (dSeq (dAsg (dCall 1 F__law_built (dCons (dSl false (dVar 5) (dNoPart) (dPart (dOp fIx (dVar 6) (dC (.int 0))))) (dNil))) (gdName 9)) (dSeq (dAsg (dOp (fAdd false) (dOp (fAdd false) (dLst false (dCons (dDNew false) (dNil))) (dLc false (dEnum (dCons (dVar 3) (dNil))) (gdTup 2 (gdCons (gdName 12) (gdCons (gdName 13) (gdNil)))) (dYes) (dCB (fDctP false) (dCons (dLc false (dSeqP (dVar 13)) (gdName 11) (dYes) (dTup (dCons (dVar 11) (dCons (dOp (fAdd false) (dVar 12) (dC (.int 1))) (dNil)))) [11]) (dNil))) [12, 13])) (dLst false (dCons (dDNew false) (dNil)))) (gdName 10)) (dSeq (dIfS (dOr (dNot (dB (dCB (fIsi [0] (ktT [[.o 0]] tys)) (dCons (dVar 5) (dCons (dC (.ty "list")) (dNil)))))) (dB (dOp (fEqHL true) (dVar 9) (dVar 10)))) (dRet (dC (.bl false))) (dNext)) (dSeq (dIfS (dNot (dB (dCall 4 F__law_work_right (dCons (dVar 3) (dCons (dVar 4) (dCons (dVar 9) (dCons (dSl false (dVar 5) (dPart (dOp fIx (dVar 6) (dC (.int 0)))) (dNoPart)) (dNil)))))))) (dRet (dC (.bl false))) (dNext)) (dSeq (dAsg (dCB fRep (dCons (dVar 5) (dNil))) (gdName 14)) (dSeq (dDrop (dBM "list" fAppend (dVar 5) (dCons (dC .non) (dNil)))) (dIfS (dOr (dB (dOp (fEq true) (dCB fRep (dCons (dCallN 0 2 ([.k 1, .k 0]) F_deeds_for (dNil) (dCons (dVar 4) (dCons (dCB fTupOf (dCons (dVar 3) (dNil))) (dNil)))) (dNil))) (dVar 14))) (dB (dOp (fB fun i j => decide (i < j)) (dCall 2 F_cost (dCons (dVar 3) (dCons (dVar 4) (dNil)))) (dC (.int 0))))) (dRet (dC (.bl false))) (dNext)))))))))))
def lawRng : TDw := (dRng1 (dCons (dOp (fAdd false) (dC (.int 3)) (dCB fMin (dCons (dCB fLen (dCons (dVar 0) (dNil))) (dCons (dC (.int 12)) (dNil))))) (dNil)))
theorem tn1_u : tn_1 = dFor ((dSeqI (dLst false (dCons (dCall 3 F__law_plan (dCons (dVar 1) (dCons (dC (.int 0)) (dCons (dOp fSubI (dCB fLen (dCons (dVar 3) (dNil))) (dC (.int 1))) (dNil))))) (dCons (dOp fIx (dCall 1 F_cheapest (dCons (dVar 3) (dNil))) (dC (.int 1))) (dNil)))))) (gdName 4) lpAll := rfl
theorem law_u : u_law = dSeq (dAsg (dCall 1 F__law_begun (dCons (dVar 0) (dNil))) (gdName 1)) (dSeq (dFor lawRng (gdName 2) ((dSeq (tn_0) (tn_1)))) (dRet (dC (.bl true)))) := rfl
def Rh (x0 : Option CM.D) (r : Nat) (ρ : DE) : Prop := ∃ x2 x3 x4 x5 x6 x7 x8 x9 x10 x11 x12 x13 x14, ρ = [x0, some (.ref r), x2, x3, x4, x5, x6, x7, x8, x9, x10, x11, x12, x13, x14]
theorem turn_ok {r w m : Nat} {h : CH} {x0 x2 x3 x4 x5 x6 x7 x8 x9 x10 x11 x12 x13 x14 : Option CM.D} (A : DrawOk r w (m + 200) h) : ∃ ρ' h', ((dSeq (tn_0) (tn_1))) [x0, some (.ref r), x2, x3, x4, x5, x6, x7, x8, x9, x10, x11, x12, x13, x14] h = .nx ρ' h' ∧ Rh x0 r ρ' ∧ DrawOk r w m h' := by
  obtain ⟨d1, h1, e1, rs, rfl, C, ⟨lo, hi⟩, A1, f1⟩ := (chain_sat (n := m + 100) (lo := 1) (hi := 8) (by decide) (by decide) (by decide) A).ex
  have n1 := C.ne
  have n8 := C.le
  have q0 : tn_0 [x0, some (.ref r), x2, x3, x4, x5, x6, x7, x8, x9, x10, x11, x12, x13, x14] h = .nx [x0, some (.ref r), x2, some (.lst (rowsD rs)), x4, x5, x6, x7, x8, x9, x10, x11, x12, x13, x14] h1 := by
    unfold tn_0
    simp [e1]
  obtain ⟨d2, h2, e2, p1, rfl, s1, A2, f2⟩ := (plan_sat (k := 9) (n := m) (f := 0) (l := (rs.length : Int) - 1) (A1.mono (by omega)) (by omega) (by omega) (by omega) (by omega)).ex
  have e2' : F__law_plan [.ref r, .int 0, .int ((rs.length : Int) - 1)] h1 = .ok p1.D h2 := e2
  obtain ⟨p2, s2, _, ch⟩ := cheapest_is C
  obtain ⟨h3, e3, kp3⟩ := ch (X := .lst (rowsD rs)) (h := h2) (.inl rfl)
  have ix : fIx (.tup [.int (p2.W rs), p2.D]) (.int 1) h3 = .ok p2.D h3 := rfl
  have ln : fLen [.lst (rowsD rs)] h1 = .ok (.int rs.length) h1 := ChD.len (.inl rfl)
  have l2 : 2 ≤ sizeLine := by decide
  have it : ((dSeqI (dLst false (dCons (dCall 3 F__law_plan (dCons (dVar 1) (dCons (dC (.int 0)) (dCons (dOp fSubI (dCB fLen (dCons (dVar 3) (dNil))) (dC (.int 1))) (dNil))))) (dCons (dOp fIx (dCall 1 F_cheapest (dCons (dVar 3) (dNil))) (dC (.int 1))) (dNil)))))) [x0, some (.ref r), x2, some (.lst (rowsD rs)), x4, x5, x6, x7, x8, x9, x10, x11, x12, x13, x14] h1 = .ok ([p1.D, p2.D], none) h3 := by
    simp [ln, subI, e2', e3, ix, l2, mkL, itemsD]
  obtain ⟨y5, y6, y7, y8, y9, y10, y11, y12, y13, y14, h4, b1, k4⟩ := lap_ok (h := h3) (r := r) (x0 := x0) (x2 := x2) (x5 := x5) (x6 := x6) (x7 := x7) (x8 := x8) (x9 := x9) (x10 := x10) (x11 := x11) (x12 := x12) (x13 := x13) (x14 := x14) C s1
  obtain ⟨z5, z6, z7, z8, z9, z10, z11, z12, z13, z14, h5, b2, k5⟩ := lap_ok (h := h4) (r := r) (x0 := x0) (x2 := x2) (x5 := y5) (x6 := y6) (x7 := y7) (x8 := y8) (x9 := y9) (x10 := y10) (x11 := y11) (x12 := y12) (x13 := y13) (x14 := y14) C s2
  have q1 : tn_1 [x0, some (.ref r), x2, some (.lst (rowsD rs)), x4, x5, x6, x7, x8, x9, x10, x11, x12, x13, x14] h1 = .nx [x0, some (.ref r), x2, some (.lst (rowsD rs)), some p2.D, z5, z6, z7, z8, z9, z10, z11, z12, z13, z14] h5 := by
    rw [tn1_u, s_for, it, toS_ok]
    simp only
    rw [forL_step (ρ1 := [x0, some (.ref r), x2, some (.lst (rowsD rs)), some p1.D, x5, x6, x7, x8, x9, x10, x11, x12, x13, x14]) rfl b1, forL_step (ρ1 := [x0, some (.ref r), x2, some (.lst (rowsD rs)), some p2.D, y5, y6, y7, y8, y9, y10, y11, y12, y13, y14]) rfl b2]
    rfl
  exact ⟨[x0, some (.ref r), x2, some (.lst (rowsD rs)), some p2.D, z5, z6, z7, z8, z9, z10, z11, z12, z13, z14], h5, by rw [seqX q0, q1], ⟨_, _, _, _, _, _, _, _, _, _, _, _, _, rfl⟩, draw_kp (draw_kp (draw_kp A2 kp3) k4) k5⟩
theorem forL_fold {α : Type} {tg : TGD} {u : SD} {enc : α → CM.D} (I : List α → DE → CH → Prop) (step : ∀ x r ρ h, I (x :: r) ρ h → ∃ ρ1 h1 ρ2 h2, tg (enc x) ρ h = .ok ρ1 h1 ∧ u ρ1 h1 = .nx ρ2 h2 ∧ I r ρ2 h2) : ∀ {xs : List α} {ρ : DE} {h : CH}, I xs ρ h → ∃ ρ' h', dForL tg u (xs.map enc) ρ h = .nx ρ' h' ∧ I [] ρ' h'
  | [], ρ, h, i => ⟨ρ, h, rfl, i⟩
  | x :: xs, ρ, h, i => by
    obtain ⟨ρ1, h1, ρ2, h2, e1, e2, i2⟩ := step x xs ρ h i
    rw [List.map_cons, forL_step e1 e2]
    exact forL_fold I step i2
theorem law_ok : LawF F_law := by
  intro ns hn
  obtain ⟨h1, e1, A1, n1, _⟩ := begun_ok (h := CH.emp) hn
  have e3 : ∀ h : CH, fLen [.scr ns] h = .ok (.int ns.length) h := fun _ => rfl
  have e4 : ∀ h : CH, fMin [.int ns.length, .int 12] h = .ok (.int (if (12 : Int) < ns.length then 12 else ns.length)) h := fun _ => rfl
  have bd : (if (12 : Int) < ns.length then 12 else (ns.length : Int)) ≤ 12 ∧ 0 ≤ (if (12 : Int) < ns.length then 12 else (ns.length : Int)) := by split <;> omega
  generalize hM : (if (12 : Int) < ns.length then 12 else (ns.length : Int)) = M at *
  have rgE : lawRng [some (.scr ns), some (.ref (CH.emp.nx + 1)), none, none, none, none, none, none, none, none, none, none, none, none, none] h1 = .ok ((rg (3 + M).toNat).map CM.D.int, none) h1 := by
    refine rngI (by omega) (by omega) ?_
    simp [e3, e4, fAdd]
  have ly : (rg (3 + M).toNat).length ≤ 20 := by rw [rg_len]; omega
  have L := forL_fold (tg := gdName 2) (u := ((dSeq (tn_0) (tn_1)))) (enc := CM.D.int)
    (fun rest ρ hh => Rh (some (.scr ns)) (CH.emp.nx + 1) ρ ∧ DrawOk (CH.emp.nx + 1) CH.emp.nx (200 * rest.length) hh)
    (fun x rest ρ hh ⟨⟨x2, x3, x4, x5, x6, x7, x8, x9, x10, x11, x12, x13, x14, er⟩, A⟩ => by
      subst er
      obtain ⟨ρ', h', e, hr, A'⟩ := turn_ok (m := 200 * rest.length) (x0 := some (.scr ns)) (r := CH.emp.nx + 1) (w := CH.emp.nx) (x2 := some (.int x)) (x3 := x3) (x4 := x4) (x5 := x5) (x6 := x6) (x7 := x7) (x8 := x8) (x9 := x9) (x10 := x10) (x11 := x11) (x12 := x12) (x13 := x13) (x14 := x14) (A.mono (by simp only [List.length_cons]; omega))
      exact ⟨_, hh, ρ', h', rfl, e, hr, A'⟩)
    (xs := rg (3 + M).toNat) (ρ := [some (.scr ns), some (.ref (CH.emp.nx + 1)), none, none, none, none, none, none, none, none, none, none, none, none, none]) (h := h1) ⟨⟨_, _, _, _, _, _, _, _, _, _, _, _, _, rfl⟩, A1.mono (by omega)⟩
  obtain ⟨ρ', h', L, _⟩ := L
  refine ⟨h', ?_⟩
  show (u_law [some (.scr ns), none, none, none, none, none, none, none, none, none, none, none, none, none, none] CH.emp).res = _
  rw [law_u]
  have s1 : ∀ u : SD, (dSeq (dAsg (dCall 1 F__law_begun (dCons (dVar 0) (dNil))) (gdName 1)) u) [some (.scr ns), none, none, none, none, none, none, none, none, none, none, none, none, none, none] CH.emp = u [some (.scr ns), some (.ref (CH.emp.nx + 1)), none, none, none, none, none, none, none, none, none, none, none, none, none] h1 := fun u => by
    simp [e1]
  rw [s1, s_seq, s_for, rgE, toS_ok]
  simp only
  rw [L]
  rfl
set_option maxHeartbeats 0 in
theorem facts {w : World} {h : Heap} {K : PySem.W.Frag} {mg : Str → Option Value} {fa : Addr} (G : h.Ns mainGlobals mg) (hfa : mg "law" = some (.ref fa)) (s : SaysX specA w h K) (t : SaysX specB w h K) :
    ∃ (fd : FuncData) (CA : CAs) (cs : List (Addr × Addr)), (∀ p ∈ CA.T, ∃ c, (c, p.1) ∈ cs) ∧ (∀ p ∈ cs, h.get? p.2 = some { cls := .none, data := .fields #[] }) ∧ (∀ p ∈ cs, K.lookup p.2 = none) ∧ (∀ p ∈ cs, PySem.W.CodeHd h p.1 p.2) ∧ (∀ (s : Shared) (v : Value), BindsTo s fd ⟨[v], []⟩ [("_law_script", v)]) ∧ ∀ base : Heap, K.In base → base.Ns mainGlobals mg → SM base → (∀ p ∈ cs, LamX.TabB base mg p.1 p.2) → FnG PySem.Challenge.rw_whilemerged_k64_deeds_for_plans.prog w K mg base true 21 fa fd ["_law_script"] (spD K CA 1 F_law) := by
  have hc0 : (ck0 K).all id = true := ckF s.ck 0 rfl
  have hc1 : (ck1 K).all id = true := ckF s.ck 1 rfl
  have hc2 : (ck2 K).all id = true := ckF s.ck 2 rfl
  have hc3 : (ck3 K).all id = true := ckF s.ck 3 rfl
  have hc4 : (ck4 K).all id = true := ckF t.ck 0 rfl
  have hc5 : (ck5 K).all id = true := ckF t.ck 1 rfl
  have hc6 : (ck6 K).all id = true := ckF t.ck 2 rfl
  have hc7 : (ck7 K).all id = true := ckF t.ck 3 rfl
  refine' noTab (all_mk (l := PySem.Challenge.rw_whilemerged_k64_deeds_for_plans) s.kin G hfa ?ac0 ?a0 ?l0 ?c0 ?k0 ?a1 ?l1 ?c1 ?k1 ?a2 ?l2 ?c2 ?k2 ?a3 ?l3 ?c3 ?k3 ?a4 ?l4 ?c4 ?k4 ?a5 ?l5 ?c5 ?k5 ?a6 ?l6 ?c6 ?k6 ?a7 ?l7 ?c7 ?k7 ?a8 ?l8 ?c8 ?k8 ?a9 ?l9 ?c9 ?k9 ?a10 ?l10 ?c10 ?k10 ?a11 ?l11 ?c11 ?k11 ?a12 ?l12 ?c12 ?k12 ?a13 ?fn13 ?l13 ?c13 ?k13 ?a14 ?fn14 ?mk14 ?kc14 ?l14 ?c14 ?k14 ?a15 ?l15 ?c15 ?k15 ?a16 ?l16 ?c16 ?k16 ?a17 ?l17 ?c17 ?k17 ?a18 ?l18 ?c18 ?k18 ?a19 ?l19 ?c19 ?k19 ?a20 ?l20 ?c20 ?k20 ?a21 ?l21 ?c21 ?k21 ?a22 ?l22 ?c22 ?k22 ?a23 ?l23 ?c23 ?k23 ?a24 ?l24 ?c24 ?k24 ?a25 ?l25 ?c25 ?k25 ?a26 ?l26 ?c26 ?k26 ?a27 ?l27 ?c27 ?k27 ?a28 ?l28 ?c28 ?k28 ?g_MOST_LAYERS ?g_KINDS ?h_KINDS ?z_abs ?z_int ?z_len ?z_tuple ?z_range ?z_isinstance ?z_bool ?z_all ?z_list ?z_sorted ?z_set ?z_str ?z_max ?z_enumerate ?z_min ?z_dict ?z_repr ?bc0 ?bf0 ?bk)
  case ac0 => exact (of_decide_eq_true (ckF hc0 0 (b := decide (PySem.W.nsIn K mainGlobals "Work" = some (some (.ref (v_C0 K))))) rfl))
  case a0 => exact (of_decide_eq_true (ckF hc0 1 (b := decide (PySem.W.nsIn K mainGlobals "_law_begun" = some (some (.ref (v_f0 K))))) rfl))
  case l0 => exact (fnO_ok (name := "_law_begun") (qual := "_law_begun") (st := s__law_begun) (fnF s.fn 0 (a := fnO K (v_f0 K)) (b := fnE "_law_begun" "_law_begun" s__law_begun) rfl rfl))
  case c0 => exact (ckF hc0 2 (b := (PySem.W.codeIn K (v_cd0 K) "_law_begun" : Bool)) rfl)
  case k0 => exact (ckF hc0 3 (b := (PySem.W.keepIn K (.ref (v_f0 K)) : Bool)) rfl)
  case a1 => exact (of_decide_eq_true (ckF hc0 4 (b := decide (PySem.W.nsIn K mainGlobals "_law_mixed" = some (some (.ref (v_f1 K))))) rfl))
  case l1 => exact (fnO_ok (name := "_law_mixed") (qual := "_law_mixed") (st := s__law_mixed) (fnF s.fn 1 (a := fnO K (v_f1 K)) (b := fnE "_law_mixed" "_law_mixed" s__law_mixed) rfl rfl))
  case c1 => exact (ckF hc0 5 (b := (PySem.W.codeIn K (v_cd1 K) "_law_mixed" : Bool)) rfl)
  case k1 => exact (ckF hc0 6 (b := (PySem.W.keepIn K (.ref (v_f1 K)) : Bool)) rfl)
  case a2 => exact (of_decide_eq_true (ckF hc0 7 (b := decide (PySem.W.nsIn K mainGlobals "_law_take" = some (some (.ref (v_f2 K))))) rfl))
  case l2 => exact (fnO_ok (name := "_law_take") (qual := "_law_take") (st := s__law_take) (fnF s.fn 2 (a := fnO K (v_f2 K)) (b := fnE "_law_take" "_law_take" s__law_take) rfl rfl))
  case c2 => exact (ckF hc0 8 (b := (PySem.W.codeIn K (v_cd2 K) "_law_take" : Bool)) rfl)
  case k2 => exact (ckF hc0 9 (b := (PySem.W.keepIn K (.ref (v_f2 K)) : Bool)) rfl)
  case a3 => exact (of_decide_eq_true (ckF hc0 10 (b := decide (PySem.W.nsIn K mainGlobals "_law_pick" = some (some (.ref (v_f3 K))))) rfl))
  case l3 => exact (fnO_ok (name := "_law_pick") (qual := "_law_pick") (st := s__law_pick) (fnF s.fn 3 (a := fnO K (v_f3 K)) (b := fnE "_law_pick" "_law_pick" s__law_pick) rfl rfl))
  case c3 => exact (ckF hc0 11 (b := (PySem.W.codeIn K (v_cd3 K) "_law_pick" : Bool)) rfl)
  case k3 => exact (ckF hc0 12 (b := (PySem.W.keepIn K (.ref (v_f3 K)) : Bool)) rfl)
  case a4 => exact (of_decide_eq_true (ckF hc0 13 (b := decide (PySem.W.nsIn K mainGlobals "_law_owned" = some (some (.ref (v_f4 K))))) rfl))
  case l4 => exact (fnO_ok (name := "_law_owned") (qual := "_law_owned") (st := s__law_owned) (fnF s.fn 4 (a := fnO K (v_f4 K)) (b := fnE "_law_owned" "_law_owned" s__law_owned) rfl rfl))
  case c4 => exact (ckF hc0 14 (b := (PySem.W.codeIn K (v_cd4 K) "_law_owned" : Bool)) rfl)
  case k4 => exact (ckF hc0 15 (b := (PySem.W.keepIn K (.ref (v_f4 K)) : Bool)) rfl)
  case a5 => exact (of_decide_eq_true (ckF hc1 0 (b := decide (PySem.W.nsIn K mainGlobals "_law_chain" = some (some (.ref (v_f5 K))))) rfl))
  case l5 => exact (fnO_ok (name := "_law_chain") (qual := "_law_chain") (st := s__law_chain) (fnF s.fn 5 (a := fnO K (v_f5 K)) (b := fnE "_law_chain" "_law_chain" s__law_chain) rfl rfl))
  case c5 => exact (ckF hc1 1 (b := (PySem.W.codeIn K (v_cd5 K) "_law_chain" : Bool)) rfl)
  case k5 => exact (ckF hc1 2 (b := (PySem.W.keepIn K (.ref (v_f5 K)) : Bool)) rfl)
  case a6 => exact (of_decide_eq_true (ckF hc1 3 (b := decide (PySem.W.nsIn K mainGlobals "_law_plan" = some (some (.ref (v_f6 K))))) rfl))
  case l6 => exact (fnO_ok (name := "_law_plan") (qual := "_law_plan") (st := s__law_plan) (fnF s.fn 6 (a := fnO K (v_f6 K)) (b := fnE "_law_plan" "_law_plan" s__law_plan) rfl rfl))
  case c6 => exact (ckF hc1 4 (b := (PySem.W.codeIn K (v_cd6 K) "_law_plan" : Bool)) rfl)
  case k6 => exact (ckF hc1 5 (b := (PySem.W.keepIn K (.ref (v_f6 K)) : Bool)) rfl)
  case a7 => exact (of_decide_eq_true (ckF hc1 6 (b := decide (PySem.W.nsIn K mainGlobals "is_cell" = some (some (.ref (v_f7 K))))) rfl))
  case l7 => exact (fnO_ok (name := "is_cell") (qual := "is_cell") (st := s_is_cell) (fnF s.fn 7 (a := fnO K (v_f7 K)) (b := fnE "is_cell" "is_cell" s_is_cell) rfl rfl))
  case c7 => exact (ckF hc1 7 (b := (PySem.W.codeIn K (v_cd7 K) "is_cell" : Bool)) rfl)
  case k7 => exact (ckF hc1 8 (b := (PySem.W.keepIn K (.ref (v_f7 K)) : Bool)) rfl)
  case a8 => exact (of_decide_eq_true (ckF hc1 9 (b := decide (PySem.W.nsIn K mainGlobals "is_owned" = some (some (.ref (v_f8 K))))) rfl))
  case l8 => exact (fnO_ok (name := "is_owned") (qual := "is_owned") (st := s_is_owned) (fnF s.fn 8 (a := fnO K (v_f8 K)) (b := fnE "is_owned" "is_owned" s_is_owned) rfl rfl))
  case c8 => exact (ckF hc1 10 (b := (PySem.W.codeIn K (v_cd8 K) "is_owned" : Bool)) rfl)
  case k8 => exact (ckF hc1 11 (b := (PySem.W.keepIn K (.ref (v_f8 K)) : Bool)) rfl)
  case a9 => exact (of_decide_eq_true (ckF hc1 12 (b := decide (PySem.W.nsIn K mainGlobals "need_chain" = some (some (.ref (v_f9 K))))) rfl))
  case l9 => exact (fnO_ok (name := "need_chain") (qual := "need_chain") (st := s_need_chain) (fnF s.fn 9 (a := fnO K (v_f9 K)) (b := fnE "need_chain" "need_chain" s_need_chain) rfl rfl))
  case c9 => exact (ckF hc1 13 (b := (PySem.W.codeIn K (v_cd9 K) "need_chain" : Bool)) rfl)
  case k9 => exact (ckF hc1 14 (b := (PySem.W.keepIn K (.ref (v_f9 K)) : Bool)) rfl)
  case a10 => exact (of_decide_eq_true (ckF hc1 15 (b := decide (PySem.W.nsIn K mainGlobals "span_of" = some (some (.ref (v_f10 K))))) rfl))
  case l10 => exact (fnO_ok (name := "span_of") (qual := "span_of") (st := s_span_of) (fnF s.fn 10 (a := fnO K (v_f10 K)) (b := fnE "span_of" "span_of" s_span_of) rfl rfl))
  case c10 => exact (ckF hc2 0 (b := (PySem.W.codeIn K (v_cd10 K) "span_of" : Bool)) rfl)
  case k10 => exact (ckF hc2 1 (b := (PySem.W.keepIn K (.ref (v_f10 K)) : Bool)) rfl)
  case a11 => exact (of_decide_eq_true (ckF hc2 2 (b := decide (PySem.W.nsIn K mainGlobals "is_plan" = some (some (.ref (v_f11 K))))) rfl))
  case l11 => exact (fnO_ok (name := "is_plan") (qual := "is_plan") (st := s_is_plan) (fnF s.fn 11 (a := fnO K (v_f11 K)) (b := fnE "is_plan" "is_plan" s_is_plan) rfl rfl))
  case c11 => exact (ckF hc2 3 (b := (PySem.W.codeIn K (v_cd11 K) "is_plan" : Bool)) rfl)
  case k11 => exact (ckF hc2 4 (b := (PySem.W.keepIn K (.ref (v_f11 K)) : Bool)) rfl)
  case a12 => exact (of_decide_eq_true (ckF hc2 5 (b := decide (PySem.W.nsIn K mainGlobals "need_plan" = some (some (.ref (v_f12 K))))) rfl))
  case l12 => exact (fnO_ok (name := "need_plan") (qual := "need_plan") (st := s_need_plan) (fnF s.fn 12 (a := fnO K (v_f12 K)) (b := fnE "need_plan" "need_plan" s_need_plan) rfl rfl))
  case c12 => exact (ckF hc2 6 (b := (PySem.W.codeIn K (v_cd12 K) "need_plan" : Bool)) rfl)
  case k12 => exact (ckF hc2 7 (b := (PySem.W.keepIn K (.ref (v_f12 K)) : Bool)) rfl)
  case a13 => exact (of_decide_eq_true (ckF hc2 8 (b := decide (PySem.W.findIn K (.ref (v_C0 K)) "merged" = some (some (.ref (v_f13 K))))) rfl))
  case fn13 => exact (ckF hc2 9 (b := (PySem.W.isFn K (.ref (v_f13 K)) : Bool)) rfl)
  case l13 => exact (fnO_ok (name := "merged") (qual := "Work.merged") (st := s_Work_merged) (fnF s.fn 13 (a := fnO K (v_f13 K)) (b := fnE "merged" "Work.merged" s_Work_merged) rfl rfl))
  case c13 => exact (ckF hc2 10 (b := (PySem.W.codeIn K (v_cd13 K) "Work.merged" : Bool)) rfl)
  case k13 => exact (ckF hc2 11 (b := (PySem.W.keepIn K (.ref (v_f13 K)) : Bool)) rfl)
  case a14 => exact (of_decide_eq_true (ckF hc2 12 (b := decide (PySem.W.findIn K (.ref (v_C0 K)) "__init__" = some (some (.ref (v_f14 K))))) rfl))
  case fn14 => exact (ckF hc2 13 (b := (PySem.W.isFn K (.ref (v_f14 K)) : Bool)) rfl)
  case mk14 => exact (ckF hc2 14 (b := (PySem.W.makesIn K (v_C0 K) : Bool)) rfl)
  case kc14 => exact (ckF hc2 15 (b := (PySem.W.keepIn K (.ref (v_C0 K)) : Bool)) rfl)
  case l14 => exact (fnO_ok (name := "__init__") (qual := "Work.__init__") (st := s_Work_init) (fnF s.fn 14 (a := fnO K (v_f14 K)) (b := fnE "__init__" "Work.__init__" s_Work_init) rfl rfl))
  case c14 => exact (ckF hc3 0 (b := (PySem.W.codeIn K (v_cd14 K) "Work.__init__" : Bool)) rfl)
  case k14 => exact (ckF hc3 1 (b := (PySem.W.keepIn K (.ref (v_f14 K)) : Bool)) rfl)
  case a15 => exact (of_decide_eq_true (ckF hc3 2 (b := decide (PySem.W.nsIn K mainGlobals "cells_of" = some (some (.ref (v_f15 K))))) rfl))
  case l15 => exact (fnO_ok (name := "cells_of") (qual := "cells_of") (st := s_cells_of) (fnF s.fn 15 (a := fnO K (v_f15 K)) (b := fnE "cells_of" "cells_of" s_cells_of) rfl rfl))
  case c15 => exact (ckF hc3 3 (b := (PySem.W.codeIn K (v_cd15 K) "cells_of" : Bool)) rfl)
  case k15 => exact (ckF hc3 4 (b := (PySem.W.keepIn K (.ref (v_f15 K)) : Bool)) rfl)
  case a16 => exact (of_decide_eq_true (ckF hc3 5 (b := decide (PySem.W.nsIn K mainGlobals "deeds_for" = some (some (.ref (v_f16 K))))) rfl))
  case l16 => exact (fnO_ok (name := "deeds_for") (qual := "deeds_for") (st := s_deeds_for) (fnF s.fn 16 (a := fnO K (v_f16 K)) (b := fnE "deeds_for" "deeds_for" s_deeds_for) rfl rfl))
  case c16 => exact (ckF hc3 6 (b := (PySem.W.codeIn K (v_cd16 K) "deeds_for" : Bool)) rfl)
  case k16 => exact (ckF hc3 7 (b := (PySem.W.keepIn K (.ref (v_f16 K)) : Bool)) rfl)
  case a17 => exact (of_decide_eq_true (ckF hc3 8 (b := decide (PySem.W.nsIn K mainGlobals "_law_built" = some (some (.ref (v_f17 K))))) rfl))
  case l17 => exact (fnO_ok (name := "_law_built") (qual := "_law_built") (st := s__law_built) (fnF s.fn 17 (a := fnO K (v_f17 K)) (b := fnE "_law_built" "_law_built" s__law_built) rfl rfl))
  case c17 => exact (ckF hc3 9 (b := (PySem.W.codeIn K (v_cd17 K) "_law_built" : Bool)) rfl)
  case k17 => exact (ckF hc3 10 (b := (PySem.W.keepIn K (.ref (v_f17 K)) : Bool)) rfl)
  case a18 => exact (of_decide_eq_true (ckF hc3 11 (b := decide (PySem.W.nsIn K mainGlobals "owned_by" = some (some (.ref (v_f18 K))))) rfl))
  case l18 => exact (fnO_ok (name := "owned_by") (qual := "owned_by") (st := s_owned_by) (fnF s.fn 18 (a := fnO K (v_f18 K)) (b := fnE "owned_by" "owned_by" s_owned_by) rfl rfl))
  case c18 => exact (ckF hc3 12 (b := (PySem.W.codeIn K (v_cd18 K) "owned_by" : Bool)) rfl)
  case k18 => exact (ckF hc3 13 (b := (PySem.W.keepIn K (.ref (v_f18 K)) : Bool)) rfl)
  case a19 => exact (of_decide_eq_true (ckF hc3 14 (b := decide (PySem.W.nsIn K mainGlobals "copied" = some (some (.ref (v_f19 K))))) rfl))
  case l19 => exact (fnO_ok (name := "copied") (qual := "copied") (st := s_copied) (fnF s.fn 19 (a := fnO K (v_f19 K)) (b := fnE "copied" "copied" s_copied) rfl rfl))
  case c19 => exact (ckF hc3 15 (b := (PySem.W.codeIn K (v_cd19 K) "copied" : Bool)) rfl)
  case k19 => exact (ckF hc4 0 (b := (PySem.W.keepIn K (.ref (v_f19 K)) : Bool)) rfl)
  case a20 => exact (of_decide_eq_true (ckF hc4 1 (b := decide (PySem.W.nsIn K mainGlobals "cheapest" = some (some (.ref (v_f20 K))))) rfl))
  case l20 => exact (fnO_ok (name := "cheapest") (qual := "cheapest") (st := s_cheapest) (fnF s.fn 20 (a := fnO K (v_f20 K)) (b := fnE "cheapest" "cheapest" s_cheapest) rfl rfl))
  case c20 => exact (ckF hc4 2 (b := (PySem.W.codeIn K (v_cd20 K) "cheapest" : Bool)) rfl)
  case k20 => exact (ckF hc4 3 (b := (PySem.W.keepIn K (.ref (v_f20 K)) : Bool)) rfl)
  case a21 => exact (of_decide_eq_true (ckF hc4 4 (b := decide (PySem.W.nsIn K mainGlobals "_law_is_cell" = some (some (.ref (v_f21 K))))) rfl))
  case l21 => exact (fnO_ok (name := "_law_is_cell") (qual := "_law_is_cell") (st := s__law_is_cell) (fnF s.fn 21 (a := fnO K (v_f21 K)) (b := fnE "_law_is_cell" "_law_is_cell" s__law_is_cell) rfl rfl))
  case c21 => exact (ckF hc4 5 (b := (PySem.W.codeIn K (v_cd21 K) "_law_is_cell" : Bool)) rfl)
  case k21 => exact (ckF hc4 6 (b := (PySem.W.keepIn K (.ref (v_f21 K)) : Bool)) rfl)
  case a22 => exact (of_decide_eq_true (ckF hc4 7 (b := decide (PySem.W.nsIn K mainGlobals "_law_jobs" = some (some (.ref (v_f22 K))))) rfl))
  case l22 => exact (fnO_ok (name := "_law_jobs") (qual := "_law_jobs") (st := s__law_jobs) (fnF s.fn 22 (a := fnO K (v_f22 K)) (b := fnE "_law_jobs" "_law_jobs" s__law_jobs) rfl rfl))
  case c22 => exact (ckF hc4 8 (b := (PySem.W.codeIn K (v_cd22 K) "_law_jobs" : Bool)) rfl)
  case k22 => exact (ckF hc4 9 (b := (PySem.W.keepIn K (.ref (v_f22 K)) : Bool)) rfl)
  case a23 => exact (of_decide_eq_true (ckF hc4 10 (b := decide (PySem.W.nsIn K mainGlobals "_law_merged" = some (some (.ref (v_f23 K))))) rfl))
  case l23 => exact (fnO_ok (name := "_law_merged") (qual := "_law_merged") (st := s__law_merged) (fnF s.fn 23 (a := fnO K (v_f23 K)) (b := fnE "_law_merged" "_law_merged" s__law_merged) rfl rfl))
  case c23 => exact (ckF hc4 11 (b := (PySem.W.codeIn K (v_cd23 K) "_law_merged" : Bool)) rfl)
  case k23 => exact (ckF hc4 12 (b := (PySem.W.keepIn K (.ref (v_f23 K)) : Bool)) rfl)
  case a24 => exact (of_decide_eq_true (ckF hc4 13 (b := decide (PySem.W.nsIn K mainGlobals "_law_worth" = some (some (.ref (v_f24 K))))) rfl))
  case l24 => exact (fnO_ok (name := "_law_worth") (qual := "_law_worth") (st := s__law_worth) (fnF s.fn 24 (a := fnO K (v_f24 K)) (b := fnE "_law_worth" "_law_worth" s__law_worth) rfl rfl))
  case c24 => exact (ckF hc4 14 (b := (PySem.W.codeIn K (v_cd24 K) "_law_worth" : Bool)) rfl)
  case k24 => exact (ckF hc4 15 (b := (PySem.W.keepIn K (.ref (v_f24 K)) : Bool)) rfl)
  case a25 => exact (of_decide_eq_true (ckF hc5 0 (b := decide (PySem.W.nsIn K mainGlobals "_law_work_right" = some (some (.ref (v_f25 K))))) rfl))
  case l25 => exact (fnO_ok (name := "_law_work_right") (qual := "_law_work_right") (st := s__law_work_right) (fnF s.fn 25 (a := fnO K (v_f25 K)) (b := fnE "_law_work_right" "_law_work_right" s__law_work_right) rfl rfl))
  case c25 => exact (ckF hc5 1 (b := (PySem.W.codeIn K (v_cd25 K) "_law_work_right" : Bool)) rfl)
  case k25 => exact (ckF hc5 2 (b := (PySem.W.keepIn K (.ref (v_f25 K)) : Bool)) rfl)
  case a26 => exact (of_decide_eq_true (ckF hc5 3 (b := decide (PySem.W.nsIn K mainGlobals "cost_of" = some (some (.ref (v_f26 K))))) rfl))
  case l26 => exact (fnO_ok (name := "cost_of") (qual := "cost_of") (st := s_cost_of) (fnF s.fn 26 (a := fnO K (v_f26 K)) (b := fnE "cost_of" "cost_of" s_cost_of) rfl rfl))
  case c26 => exact (ckF hc5 4 (b := (PySem.W.codeIn K (v_cd26 K) "cost_of" : Bool)) rfl)
  case k26 => exact (ckF hc5 5 (b := (PySem.W.keepIn K (.ref (v_f26 K)) : Bool)) rfl)
  case a27 => exact (of_decide_eq_true (ckF hc5 6 (b := decide (PySem.W.nsIn K mainGlobals "cost" = some (some (.ref (v_f27 K))))) rfl))
  case l27 => exact (fnO_ok (name := "cost") (qual := "cost") (st := s_cost) (fnF s.fn 27 (a := fnO K (v_f27 K)) (b := fnE "cost" "cost" s_cost) rfl rfl))
  case c27 => exact (ckF hc5 7 (b := (PySem.W.codeIn K (v_cd27 K) "cost" : Bool)) rfl)
  case k27 => exact (ckF hc5 8 (b := (PySem.W.keepIn K (.ref (v_f27 K)) : Bool)) rfl)
  case a28 => exact (of_decide_eq_true (ckF hc5 9 (b := decide (PySem.W.nsIn K mainGlobals "law" = some (some (.ref (v_f28 K))))) rfl))
  case l28 => exact (fnO_ok (name := "law") (qual := "law") (st := s_law) (fnF s.fn 28 (a := fnO K (v_f28 K)) (b := fnE "law" "law" s_law) rfl rfl))
  case c28 => exact (ckF hc5 10 (b := (PySem.W.codeIn K (v_cd28 K) "law" : Bool)) rfl)
  case k28 => exact (ckF hc5 11 (b := (PySem.W.keepIn K (.ref (v_f28 K)) : Bool)) rfl)
  case g_MOST_LAYERS => exact (of_decide_eq_true (ckF hc5 12 (b := decide (PySem.W.nsIn K mainGlobals "MOST_LAYERS" = some (some (.int 8 (v_t_MOST_LAYERS K))))) rfl))
  case g_KINDS => exact (of_decide_eq_true (ckF hc5 13 (b := decide (PySem.W.nsIn K mainGlobals "KINDS" = some (some (.ref (v_p_KINDS K))))) rfl))
  case h_KINDS => exact (tup_ok (ckF hc5 14 (b := decide (kndD K (v_p_KINDS K) = 3)) rfl) (ckF hc5 15 (b := decide ((objD K (v_p_KINDS K)).cls = .type "tuple")) rfl) (ckF hc6 0 (b := decide ((seqD K (v_p_KINDS K)).toList = [.str "down" (v_t_KINDS0 K), .str "up" (v_t_KINDS1 K)])) rfl))
  case z_abs => exact (of_decide_eq_true (ckF hc6 1 (b := decide (PySem.W.nsIn K mainGlobals "abs" = some none)) rfl))
  case z_int => exact (of_decide_eq_true (ckF hc6 2 (b := decide (PySem.W.nsIn K mainGlobals "int" = some none)) rfl))
  case z_len => exact (of_decide_eq_true (ckF hc6 3 (b := decide (PySem.W.nsIn K mainGlobals "len" = some none)) rfl))
  case z_tuple => exact (of_decide_eq_true (ckF hc6 4 (b := decide (PySem.W.nsIn K mainGlobals "tuple" = some none)) rfl))
  case z_range => exact (of_decide_eq_true (ckF hc6 5 (b := decide (PySem.W.nsIn K mainGlobals "range" = some none)) rfl))
  case z_isinstance => exact (of_decide_eq_true (ckF hc6 6 (b := decide (PySem.W.nsIn K mainGlobals "isinstance" = some none)) rfl))
  case z_bool => exact (of_decide_eq_true (ckF hc6 7 (b := decide (PySem.W.nsIn K mainGlobals "bool" = some none)) rfl))
  case z_all => exact (of_decide_eq_true (ckF hc6 8 (b := decide (PySem.W.nsIn K mainGlobals "all" = some none)) rfl))
  case z_list => exact (of_decide_eq_true (ckF hc6 9 (b := decide (PySem.W.nsIn K mainGlobals "list" = some none)) rfl))
  case z_sorted => exact (of_decide_eq_true (ckF hc6 10 (b := decide (PySem.W.nsIn K mainGlobals "sorted" = some none)) rfl))
  case z_set => exact (of_decide_eq_true (ckF hc6 11 (b := decide (PySem.W.nsIn K mainGlobals "set" = some none)) rfl))
  case z_str => exact (of_decide_eq_true (ckF hc6 12 (b := decide (PySem.W.nsIn K mainGlobals "str" = some none)) rfl))
  case z_max => exact (of_decide_eq_true (ckF hc6 13 (b := decide (PySem.W.nsIn K mainGlobals "max" = some none)) rfl))
  case z_enumerate => exact (of_decide_eq_true (ckF hc6 14 (b := decide (PySem.W.nsIn K mainGlobals "enumerate" = some none)) rfl))
  case z_min => exact (of_decide_eq_true (ckF hc6 15 (b := decide (PySem.W.nsIn K mainGlobals "min" = some none)) rfl))
  case z_dict => exact (of_decide_eq_true (ckF hc7 0 (b := decide (PySem.W.nsIn K mainGlobals "dict" = some none)) rfl))
  case z_repr => exact (of_decide_eq_true (ckF hc7 1 (b := decide (PySem.W.nsIn K mainGlobals "repr" = some none)) rfl))
  case bc0 => exact (ckF hc7 2 (b := (clsB K (v_C0 K) : Bool)) rfl)
  case bf0 => exact (ckF hc7 3 (b := (noB K (v_C0 K) ["line", "cells_there", "begun_jobs"] : Bool)) rfl)
  case bk => exact (ckF hc7 4 (b := (ktChk K (⟨fun n => [(v_C0 K)].getD n 0, [], w⟩ : CAs) [[.o 0]] tys : Bool)) rfl)
end W_whilemerged_k64_deeds_for_plans
open PySem PySem.W PyProof.Rows in
set_option maxRecDepth 100000 in
set_option maxHeartbeats 0 in
theorem PySem.Challenge.cw_whilemerged_k64_deeds_for_plans_holds : PySem.Challenge.rw_whilemerged_k64_deeds_for_plans.Holds := by
  w_on; o_law
  refine HandSHeadRun.head_any (r := OpenLaw.row PySem.Challenge.rw_whilemerged_k64_deeds_for_plans) (q := W_whilemerged_k64_deeds_for_plans.qv) (H := W_whilemerged_k64_deeds_for_plans.hkX) (ob := W_whilemerged_k64_deeds_for_plans.ob) (M := 20000) (loose := W_whilemerged_k64_deeds_for_plans.names) (d := HandSHeadRun.topDef (OpenLaw.row PySem.Challenge.rw_whilemerged_k64_deeds_for_plans).prog 35) (kwd := []) W_whilemerged_k64_deeds_for_plans.ob_eq
    (by kernel_rfl) (fun s => by kernel_rfl) W_whilemerged_k64_deeds_for_plans.run (by kernel_rfl) (by kernel_rfl) (by kernel_rfl) (by rfl) (by first | assumption | decide +kernel) (by decide +kernel) ⟨rfl, rfl, rfl, rfl, rfl, by decide +kernel⟩ ?hw ?hc
  case hw => w_witness2
  case hc =>
    refine CM.walkGX (l := PySem.Challenge.rw_whilemerged_k64_deeds_for_plans) (k := 21) (F := W_whilemerged_k64_deeds_for_plans.F_law) W_whilemerged_k64_deeds_for_plans.law_ok (by decide +kernel) rfl (by kernel_rfl) ⟨rfl, by decide, by decide⟩ ?F
    intro w mg fa h Y G hmg0
    obtain ⟨K, s, t⟩ := Y
    have hmg : mg ("law" : PySem.Str) = some (.ref fa) := by
      have e : (HandSHeadRun.topDef (OpenLaw.row PySem.Challenge.rw_whilemerged_k64_deeds_for_plans).prog 35).name = ("law" : PySem.Str) := by kernel_rfl
      rw [← e]
      exact hmg0
    exact ⟨K, s.kin, W_whilemerged_k64_deeds_for_plans.facts G hmg s t⟩
#print axioms PySem.Challenge.cw_whilemerged_k64_deeds_for_plans_holds
