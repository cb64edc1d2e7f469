import PyProof.Rows.All
import Wide.All
import OpenK.AllK
import Wide.FinOn
import HandS.ForMost
import HandS.ForExc
import HandS.IsInst
import HandS.WordsExc
import HandS.Ends
import HandS.Style
import HandS.Lambda
import KE.KDictKeyed
import HandS.DictComp
import HandS.Finally
import HandS.TupAny
import HandS.Property
import HandS.MakeKwOnly
import HandS.SortInts
import HandS.WordsDict
import HandS.OwnEq
import PyProof.InstNe
import HandS.Strs
import HandS.SetFor
import HandS.RaiseMore
import KE.KExcSuper
import HandS.ExcInit
import HandS.ExcField
import KE.KExcIs
import HandS.ExcValue
import HandS.EndTab
import HandS.Sort
import HandS.Conv
import KE.KDictList
import KE.SortData
import HandS.Star
import HandS.More
import HandS.DictTup
import KE.KEqDict
import HandS.NoneIn
import PyProof.NeData
import KE.GoesEnum
import HandS.Text
import HandS.Iter
import PyProof.EqKinds
import HandS.Codes
import KE.GoesZip
import KE.GoesMore
import PyProof.P3Eq
import HandS.TryOnly
import KE.KDictSum
import PyProof.Transfer
import KE.KEqNest
import PyProof.DictUpdate
import PyProof.NeKinds
import PyProof.WalkInts
import PyProof.WalksMore
import KE.KStateDown
import HandS.Head0
import HandS.Head1
import HandS.Head2
import HandS.HeadHook1
import PySem.Challenge.RW_whilemerged_k60_chains_and_plans_judged
set_option Elab.async false
set_option linter.all false
set_option maxRecDepth 100000
set_option maxHeartbeats 6400000
namespace CM
open PySem PySem.Spec PyProof.Rows L2
inductive D where
  | non | bl (b : Bool) | int (i : Int) | str (s : Str)
  | lst (xs : List D) | tup (xs : List D) | dct (kvs : List (Key × D))
  | obj (c : Nat) (fs : List (Str × D))
  | scr (ns : List Int) | ref (k : Nat) | ty (n : String) | cls (c : Nat)
  | exc (c : Nat) (fs : List (Str × D))
  deriving Inhabited
inductive MO where
  | lst (xs : List D) | dct (kvs : List (Key × D)) | lck (kvs : List (Key × D)) | lkl (xs : List D) | obj (c : Nat) (fs : List (Str × D))
  | dctT (kvs : List (List Key × D)) | dctD (kvs : List (D × D))
  deriving Inhabited
def NotLck : MO → Prop
  | .lck _ => False
  | .lkl _ => False
  | _ => True
abbrev Lckd (o : MO) : Prop := NotLck o → False
structure CH where
  nx : Nat
  ob : Nat → Option MO
inductive R (α : Type) where
  | ok (a : α) (h : CH)
  | ex (c : Nat) (fs : List (Str × D)) (h : CH)
  | no
def R.calm {α β : Type} (r : R α) (f : α → CH → R β) : R β := match r with
  | .ok a h => f a h
  | .ex _ _ _ => .no
  | .no => .no
structure CAs where
  f : Nat → Addr
  T : List (Addr × Str)
  w : World
instance : CoeFun CAs (fun _ => Nat → Addr) := ⟨CAs.f⟩
def NTab : HO → Prop
  | .tbl _ => False
  | .ext φ => ∀ (c : Addr) (q : Str), HO.ext φ ≠ LamX.CodeO c q
  | _ => True
def NDict (w : World) (a : Addr) (xs : List (NestedKey × Addr × Value)) : HO := .ext fun h => ∃ o es ep, h.get? a = some o ∧ o.ExactDict ∧ o.data = .dict es ep ∧ es.toList = xs.map fun x => (⟨x.1.hash w, .ref x.2.1, x.2.2⟩ : DictEntry)
def NDat (w : World) (H : Hp) (a : Addr) (xs : List (NestedKey × Addr × Value)) : Prop := (H a = some (NDict w a xs) ∧ (a == sysModules) = false) ∨ (H a = some (.dK []) ∧ xs = [])
theorem NDat.mp {w : World} {H H' : Hp} {a : Addr} {xs : List (NestedKey × Addr × Value)} (x : NDat w H a xs) (f : ∀ u, H a = some u → H' a = some u) : NDat w H' a xs := x.imp (fun z => ⟨f _ z.1, z.2⟩) fun z => ⟨f _ z.1, z.2⟩
def nkD : Nat → D → Option NestedKey
  | _, .non => some .none
  | _, .bl b => some (.num (if b = true then 1 else 0))
  | _, .int i => some (.num i)
  | _, .str x => some (.text x)
  | n + 1, .tup ds => (ds.mapM (nkD n)).map .tup
  | _, _ => none
def ExV (C a : Addr) (dd : Option Addr) : HO := .ext fun h => ∃ (oe : Obj) (vs : Array Value), h.get? a = some oe ∧ Zc (.ref C) dd oe ∧ oe.data = .fields vs
structure Mp where
  f : Nat → Addr
  z : List Addr
instance : CoeFun Mp (fun _ => Nat → Addr) := ⟨Mp.f⟩
def Live (m : Mp) (h : CH) (a : Addr) : Prop := (∃ k o, h.ob k = some o ∧ m k = a) ∨ a ∈ m.z
def core : HO → HO
  | .frz _ (.dK kvs) => .dK kvs
  | .frz _ (.dT kvs) => .dT kvs
  | .tbl _ => .tbl #[]
  | o => o
def Lk (o o' : HO) : Prop := o' = o ∨ (∃ ob kvs, o = .dK kvs ∧ o' = .frz ob o) ∨ ∃ ps qs, o = .tbl ps ∧ o' = .tbl qs
def NoTb : HO → Prop
  | .tbl _ => False
  | _ => True
theorem lk_nt {o o' : HO} (l : Lk o o') (n : NoTb o) : NoTb o' := by
  rcases l with rfl | ⟨ob, kvs, rfl, rfl⟩ | ⟨ps, qs, rfl, rfl⟩
  · exact n
  · trivial
  · exact n.elim
theorem Lk.trans {o o1 o2 : HO} (a : Lk o o1) (b : Lk o1 o2) : Lk o o2 := by
  rcases a with rfl | ⟨ob, kvs, rfl, rfl⟩ | ⟨ps, qs, rfl, rfl⟩
  · exact b
  · rcases b with rfl | ⟨ob', kvs', e, _⟩ | ⟨ps, qs, e, _⟩
    · exact .inr (.inl ⟨ob, kvs, rfl, rfl⟩)
    · cases e
    · cases e
  · rcases b with rfl | ⟨ob', kvs', e, _⟩ | ⟨ps', qs', e, rfl⟩
    · exact .inr (.inr ⟨ps, _, rfl, rfl⟩)
    · cases e
    · exact .inr (.inr ⟨ps, _, rfl, rfl⟩)
theorem Lk.frz {ob : Obj} {u o' : HO} (l : Lk (.frz ob u) o') : o' = .frz ob u := by
  rcases l with rfl | ⟨_, _, e, _⟩ | ⟨_, _, e, _⟩
  · rfl
  · cases e
  · cases e
end CM
namespace CM
open PySem PySem.Spec PyProof.Rows L2
section
variable (K : PySem.W.Frag) (CA : CAs) (m : Mp) (h : CH) (H : Hp)
mutual
inductive Rp : V → D → Prop
  | non : Rp .non .non
  | bl (b : Bool) : Rp (.bl b) (.bl b)
  | int (i : Int) : Rp (.int i) (.int i)
  | str (x : Str) : Rp (.str x) (.str x)
  | lst {a : Addr} {xs : List V} {ds : List D} : ¬ Live m h a → H a = some (.lst xs) → RpAll xs ds → Rp (.ref a) (.lst ds)
  | tup {a : Addr} {xs : List V} {ds : List D} : ¬ Live m h a → H a = some (.tup xs) → RpAll xs ds → Rp (.ref a) (.tup ds)
  | ktup {a : Addr} {xs : List V} {ds : List D} : SqT K (fun _ => none) a xs → RpAll xs ds → Rp (.ref a) (.tup ds)
  | dct {a : Addr} {o : HO} {kvs : List (Key × V)} {dks : List (Key × D)} : ¬ Live m h a → H a = some o → core o = .dK kvs → kvs.map (·.1) = dks.map (·.1) → RpAll (kvs.map (·.2)) (dks.map (·.2)) → Rp (.ref a) (.dct dks)
  | obj {a : Addr} {c : Nat} {dx : Addr} {fs : List (Str × V)} {dfs : List (Str × D)} : ¬ Live m h a → H a = some (.ins (CA c) dx fs) → fs.map (·.1) = dfs.map (·.1) → RpAll (fs.map (·.2)) (dfs.map (·.2)) → Rp (.ref a) (.obj c dfs)
  | scr {a : Addr} {ns : List Int} {o : Obj} : ¬ Live m h a → H a = some (.frz o (.lst (ns.map V.int))) → Rp (.ref a) (.scr ns)
  | kscr {a : Addr} {ns : List Int} : SqL K (fun _ => none) a (ns.map V.int) → Rp (.ref a) (.scr ns)
  | ref {k : Nat} : k < h.nx → Rp (.ref (m k)) (.ref k)
  | ty (n : String) : Rp (.ty n) (.ty n)
  | cls (c : Nat) : Rp (.ref (CA c)) (.cls c)
  | exc {a : Addr} {c : Nat} {dd : Option Addr} {fs : List (Str × V)} {dfs : List (Str × D)} : ¬ Live m h a → H a = some (ExV (CA c) a dd) → ((dd = none ∧ fs = []) ∨ ∃ x, dd = some x ∧ ¬ Live m h x ∧ H x = some (.xd fs)) → fs.map (·.1) = dfs.map (·.1) → RpAll (fs.map (·.2)) (dfs.map (·.2)) → Rp (.ref a) (.exc c dfs)
inductive RpAll : List V → List D → Prop
  | nil : RpAll [] []
  | cons {v : V} {vs : List V} {d : D} {ds : List D} : Rp v d → RpAll vs ds → RpAll (v :: vs) (d :: ds)
end
end
end CM
namespace CM
open PySem PySem.Spec PyProof.Rows L2
structure Mv (m : Mp) (h : CH) (H : Hp) (m' : Mp) (h' : CH) (H' : Hp) : Prop where
  nx : h.nx ≤ h'.nx
  mp : ∀ k, k < h.nx → m' k = m k
  kp : ∀ a o, ¬ Live m h a → H a = some o → NoTb o → ¬ Live m' h' a ∧ ∃ o', H' a = some o' ∧ Lk o o'
structure Sz (m : Mp) (h : CH) (H : Hp) (m' : Mp) (h' : CH) (H' : Hp) : Prop extends Mv m h H m' h' H' where
  lk : ∀ k o, k < h.nx → h.ob k = some o → Lckd o → h'.ob k = some o ∧ H' (m k) = H (m k)
structure Stp (m : Mp) (h : CH) (H : Hp) (m' : Mp) (h' : CH) (H' : Hp) : Prop extends Sz m h H m' h' H' where
  z : m'.z = m.z
  zk : ∀ a, a ∈ m.z → H' a = H a
structure Sc (p : Addr) (m : Mp) (h : CH) (H : Hp) (m' : Mp) (h' : CH) (H' : Hp) : Prop extends Sz m h H m' h' H' where
  z : m'.z = m.z
  zk : ∀ a, a ∈ m.z → a ≠ p → H' a = H a
theorem Sz.trans {m m1 m2 : Mp} {h h1 h2 : CH} {H H1 H2 : Hp} (a : Sz m h H m1 h1 H1) (b : Sz m1 h1 H1 m2 h2 H2) : Sz m h H m2 h2 H2 :=
  ⟨⟨Nat.le_trans a.nx b.nx, fun k l => (b.mp k (Nat.lt_of_lt_of_le l a.nx)).trans (a.mp k l), fun x o n e nt => by
    obtain ⟨n1, o1, e1, c1⟩ := a.kp x o n e nt
    obtain ⟨n2, o2, e2, c2⟩ := b.kp x o1 n1 e1 (lk_nt c1 nt)
    exact ⟨n2, o2, e2, c1.trans c2⟩⟩, fun k kvs l e ld => by
    obtain ⟨e1, q1⟩ := a.lk k kvs l e ld
    obtain ⟨e2, q2⟩ := b.lk k kvs (Nat.lt_of_lt_of_le l a.nx) e1 ld
    rw [a.mp k l] at q2
    exact ⟨e2, q2.trans q1⟩⟩
theorem Stp.trans {m m1 m2 : Mp} {h h1 h2 : CH} {H H1 H2 : Hp} (a : Stp m h H m1 h1 H1) (b : Stp m1 h1 H1 m2 h2 H2) : Stp m h H m2 h2 H2 := ⟨a.toSz.trans b.toSz, b.z.trans a.z, fun x l => (b.zk x (by rw [a.z]; exact l)).trans (a.zk x l)⟩
theorem Sc.trans {p : Addr} {m m1 m2 : Mp} {h h1 h2 : CH} {H H1 H2 : Hp} (a : Sc p m h H m1 h1 H1) (b : Sc p m1 h1 H1 m2 h2 H2) : Sc p m h H m2 h2 H2 := ⟨a.toSz.trans b.toSz, b.z.trans a.z, fun x l n => (b.zk x (by rw [a.z]; exact l) n).trans (a.zk x l n)⟩
end CM
namespace CM
open PySem PySem.Spec PyProof.Rows L2
section
variable {K : PySem.W.Frag} {CA : CAs} {m m' : Mp} {h h' : CH} {H H' : Hp} {v : V} {d : D} {vs : List V} {ds : List D}
theorem RpAll.length (r : RpAll K CA m h H vs ds) : vs.length = ds.length := by
  induction vs generalizing ds with
  | nil => cases r; rfl
  | cons v vs ih => cases r with
    | cons _ h2 => simp [ih h2]
theorem RpAll.getD (r : RpAll K CA m h H vs ds) {i : Nat} {d : D} (e : ds[i]? = some d) : ∃ v, vs[i]? = some v ∧ Rp K CA m h H v d := by
  induction vs generalizing ds i with
  | nil => cases r; simp at e
  | cons x vs ih => cases r with
    | cons h1 h2 =>
      cases i with
      | zero => simp at e; subst e; exact ⟨_, rfl, h1⟩
      | succ i => simpa using ih h2 (by simpa using e)
theorem RpAll.get (r : RpAll K CA m h H vs ds) {i : Nat} {v : V} (e : vs[i]? = some v) : ∃ d, ds[i]? = some d ∧ Rp K CA m h H v d := by
  induction vs generalizing ds i with
  | nil => simp at e
  | cons x vs ih => cases r with
    | cons h1 h2 =>
      cases i with
      | zero => simp at e; subst e; exact ⟨_, rfl, h1⟩
      | succ i => simpa using ih h2 (by simpa using e)
end
end CM
namespace CM
open PySem PySem.Spec PyProof.Rows L2
section
variable (K : PySem.W.Frag) (CA : CAs) (m : Mp) (h : CH) (H : Hp)
inductive MOk (a : Addr) : MO → Prop
  | lst {xs : List V} {ds : List D} : H a = some (.lst xs) → RpAll K CA m h H xs ds → MOk a (.lst ds)
  | dct {kvs : List (Key × V)} {dks : List (Key × D)} : H a = some (.dK kvs) → kvs.map (·.1) = dks.map (·.1) → RpAll K CA m h H (kvs.map (·.2)) (dks.map (·.2)) → MOk a (.dct dks)
  | lck {ob : Obj} {kvs : List (Key × V)} {dks : List (Key × D)} : H a = some (.frz ob (.dK kvs)) → kvs.map (·.1) = dks.map (·.1) → RpAll K CA m h H (kvs.map (·.2)) (dks.map (·.2)) → MOk a (.lck dks)
  | lkl {xs : List V} {ds : List D} : H a = some (.lst xs) → RpAll K CA m h H xs ds → MOk a (.lkl ds)
  | obj {c : Nat} {dx : Addr} {fs : List (Str × V)} {dfs : List (Str × D)} : H a = some (.ins (CA c) dx fs) → fs.map (·.1) = dfs.map (·.1) → RpAll K CA m h H (fs.map (·.2)) (dfs.map (·.2)) → MOk a (.obj c dfs)
  | dctT {kvs : List (List Key × V)} {dks : List (List Key × D)} : H a = some (.dT kvs) → kvs.map (·.1) = dks.map (·.1) → RpAll K CA m h H (kvs.map (·.2)) (dks.map (·.2)) → MOk a (.dctT dks)
  | dctD {xs : List (NestedKey × Addr × Value)} {vs : List V} {dks : List (D × D)} : NDat CA.w H a xs → xs.length ≤ sizeLine → (xs.map (·.1)).Nodup → xs.map (fun x => some x.1) = dks.map (fun p => nkD 8 p.1) → RpAll K CA m h H (xs.map fun x => V.ref x.2.1) (dks.map (·.1)) → Vals vs (xs.map (·.2.2)) → RpAll K CA m h H vs (dks.map (·.2)) → MOk a (.dctD dks)
structure HR : Prop where
  ob : ∀ k o, h.ob k = some o → k < h.nx ∧ MOk K CA m h H (m k) o
  inj : ∀ k j o u, h.ob k = some o → h.ob j = some u → m k = m j → k = j
  zn : ∀ k o, h.ob k = some o → m k ∉ m.z
  zh : ∀ a, a ∈ m.z → ∃ u, H a = some u ∧ NTab u
  tb : LamX.Tabs CA.T H
abbrev DE := List (Option D)
structure SO (σ : L2.St) (ρ : DE) : Prop where
  hr : HR K CA m h H
  len : σ.length = ρ.length
  sl : ∀ (i : Nat) (d : D), ρ[i]? = some (some d) → ∃ v, σ[i]? = some (some v) ∧ Rp K CA m h H v d
def XR (cls : Value) (dd : Option Addr) (c : Nat) (fs : List (Str × D)) : Prop :=
  cls = .ref (CA c) ∧ ((dd = none ∧ fs = []) ∨ ∃ (x : Addr) (hf : List (Str × V)), dd = some x ∧ ¬ Live m h x ∧ H x = some (.xd hf) ∧ hf.map (·.1) = fs.map (·.1) ∧ RpAll K CA m h H (hf.map (·.2)) (fs.map (·.2)))
end
end CM
namespace CM
open PySem PySem.Spec PyProof.Rows L2
section
variable {K : PySem.W.Frag} {CA : CAs} {m m' : Mp} {h h' : CH} {H H' : Hp} {σ : L2.St} {ρ : DE} {v : V} {d : D} {a p : Addr} {o : MO} {k : Nat}
theorem MOk.some (x : MOk K CA m h H a o) : ∃ u, H a = some u := by
  cases x with
  | lst q r => exact ⟨_, q⟩
  | dct q en r => exact ⟨_, q⟩
  | lck q en r => exact ⟨_, q⟩
  | lkl q r => exact ⟨_, q⟩
  | obj q en r => exact ⟨_, q⟩
  | dctT q en r => exact ⟨_, q⟩
  | dctD q z nd kk r vv r2 => exact q.elim (fun z => ⟨_, z.1⟩) fun z => ⟨_, z.1⟩
end
end CM
namespace CM
open PySem PySem.Spec PyProof.Rows L2
abbrev TD := DE → CH → R D
abbrev TDs := DE → CH → R (List D)
abbrev TB := DE → CH → R Bool
inductive RS where
  | nx (ρ : DE) (h : CH) | rt (d : D) (h : CH) | bk (ρ : DE) (h : CH) | ct (ρ : DE) (h : CH)
  | ex (ρ : DE) (c : Nat) (fs : List (Str × D)) (h : CH) | no
abbrev SD := DE → CH → RS
end CM
namespace CM
open PySem PySem.Spec PyProof.Rows L2
section
variable (K : PySem.W.Frag) (CA : CAs) (W : WX)
def PostG {α β : Type} (RR : Mp → CH → Hp → β → α → Prop) (m : Mp) (h : CH) (H : Hp) (σ : L2.St) (Q' : β → Hp → Prop) : R α → Prop
  | .ok a h' => ∀ m' b H', Stp m h H m' h' H' → HR K CA m' h' H' → RR m' h' H' b a → Q' b H'
  | .ex c fs h' => ∀ m' cls dd H', Stp m h H m' h' H' → HR K CA m' h' H' → XR K CA m' h' H' cls dd c fs → W cls dd σ H'
  | .no => False
abbrev PostE := PostG K CA W (Rp K CA)
end
end CM
namespace CM
open PySem PySem.Spec PyProof.Rows L2
abbrev FD := List D → CH → R D
instance {i j : Int} : Decidable (CMul i j) := by unfold CMul; infer_instance
instance {i j : Int} : Decidable (CDiv i j) := by unfold CDiv; infer_instance
instance {i j : Int} : Decidable (CPow i j) := by unfold CPow; infer_instance
abbrev TGD := D → DE → CH → R DE
abbrev TGDs := List D → DE → CH → R DE
end CM
namespace CM
open PySem PySem.Spec PyProof.Rows L2
section
variable (K : PySem.W.Frag) (CA : CAs) (W : WX)
def PostT' (m : Mp) (h : CH) (H : Hp) (σ : L2.St) (sl : List Nat) (Q' : L2.St → Hp → Prop) : R DE → Prop
  | .ok ρ' h' => ∀ m' σ' H', Stp m h H m' h' H' → SO K CA m' h' H' σ' ρ' → σ'.length = σ.length → (∀ j, j ∉ sl → σ'[j]? = σ[j]?) → Q' σ' H'
  | .ex _ _ _ => False
  | .no => False
end
end CM
namespace CM
open PySem PySem.Spec PyProof.Rows L2
section
variable {X : Cx} {K : PySem.W.Frag} {CA : CAs} {W : WX} {e a b c : Expr} {es : List Expr} {gH : TG} {tg : TGD} {gHs : TGs} {tgs : TGDs} {pos : Pos} {st : Stmt} {sts rest x y : List Stmt} {tu tw : TS} {u w : SD} {ha : TE} {ta : TD} {hs : TA} {ts : TDs} {hB : TT} {tB : TB}
theorem PostT'.mono {m m1 : Mp} {h h1 : CH} {H H1 : Hp} {σ σ1 : L2.St} {s1 s2 : List Nat} {Q' : L2.St → Hp → Prop} {r : R DE} (q : PostT' K CA m h H σ s2 Q' r) (s : Stp m h H m1 h1 H1) (l : σ1.length = σ.length) (k : ∀ j, j ∉ s2 → σ1[j]? = σ[j]?) (sub : ∀ j, j ∈ s1 → j ∈ s2) : PostT' K CA m1 h1 H1 σ1 s1 Q' r := by
  cases r with
  | ok ρ' h' => exact fun m' σ' H' s' S' l' k' => q m' σ' H' (s.trans s') S' (l'.trans l) fun j hj => (k' j fun z => hj (sub j z)).trans (k j hj)
  | ex c fs h' => exact q
  | no => exact q
end
end CM
namespace CM
open PySem PySem.Spec PyProof.Rows L2
def FldOf (K : PySem.W.Frag) (CA : CAs) (cs : List Nat) (f : Str) : Prop := ∀ c, c ∈ cs → Cls K (CA c) ∧ NoAttr K (CA c) f
theorem FldOf.cons {K : PySem.W.Frag} {CA : CAs} {c : Nat} {cs : List Nat} {f : Str} (h1 : Cls K (CA c)) (h2 : NoAttr K (CA c) f) (h3 : FldOf K CA cs f) : FldOf K CA (c :: cs) f := fun x hx => by
  rcases List.mem_cons.mp hx with rfl | hx
  · exact ⟨h1, h2⟩
  · exact h3 x hx
end CM
namespace CM
open PySem PySem.Spec PyProof.Rows L2
section
variable {X : Cx} {K : PySem.W.Frag} {CA : CAs} {W : WX} {m : Mp} {h : CH} {H : Hp} {e o i : Expr} {ha hi : TE} {ta ti : TD} {pos : Pos} {f : Str} {cs : List Nat}
theorem PostT'.calm {α β : Type} {RR : Mp → CH → Hp → β → α → Prop} {Q1 : β → Hp → Prop} {σ : L2.St} {sl : List Nat} {Q' : L2.St → Hp → Prop} {r : R α} {k : α → CH → R DE} (q : PostT' K CA m h H σ sl Q' (r.calm k))
    (g : ∀ a h1 m1 b H1, Stp m h H m1 h1 H1 → HR K CA m1 h1 H1 → RR m1 h1 H1 b a → PostT' K CA m1 h1 H1 σ sl Q' (k a h1) → Q1 b H1) : PostG K CA W RR m h H σ Q1 r := by
  cases r with
  | ok a h1 => exact fun m1 b H1 s S rr => g a h1 m1 b H1 s S rr (PostT'.mono (show PostT' K CA m h H σ sl Q' (k a h1) from q) s rfl (fun _ _ => rfl) fun _ z => z)
  | ex c fs h1 => exact q.elim
  | no => exact q.elim
end
end CM
namespace CM
open PySem PySem.Spec PyProof.Rows L2
structure FnG (P : Program) (w : World) (K : PySem.W.Frag) (mg : Str → Option Value) (base : Heap) (g : Bool) (k : Nat) (f : Addr) (fd : FuncData) (ps : List Str) (sp : Sp) : Prop where
  ln : ∀ vs H Q E, sp vs H Q E → vs.length = ps.length
  go : ∀ (A : Around) (outer : List Env) (s : Shared) (H : Hp) (args : Args) (us : List Value) (vs : List V) (Q : VK) (E : XK), (g = true → A.guards = some []) → Room k A → Env0 P w K mg base A outer s H → BindsTo s fd args (ps.zip us) → Vals vs us →
    sp vs H Q E → codeAny (model P w) A (.call (.ref f) args) (CR (L2.CX P w) outer P w H s Q E) s
theorem FnG.mono {P : Program} {w : World} {K : PySem.W.Frag} {mg : Str → Option Value} {base : Heap} {g : Bool} {j k : Nat} {f : Addr} {fd : FuncData} {ps : List Str} {sp : Sp} (F : FnG P w K mg base g j f fd ps sp) (h : j ≤ k) : FnG P w K mg base g k f fd ps sp :=
  ⟨F.ln, fun A o s H a us vs Q E hg hr => F.go A o s H a us vs Q E hg (hr.mono h)⟩
abbrev wxD (E : XK) : WX := fun cls d _ H => E cls d H
end CM
namespace CM
open PySem PySem.Spec PyProof.Rows L2
section
variable {P : Program} {w : World} {K : PySem.W.Frag} {mg : Str → Option Value} {base : Heap} {CA : CAs} {g : Bool}
theorem FnG.ok {k : Nat} {f : Addr} {fd : FuncData} {ps : List Str} {sp : Sp} (F : FnG P w K mg base false k f fd ps sp) : FnOk P w K mg base (L2.CX P w) k f fd ps sp := ⟨F.ln, fun A o s H a us vs Q E hr => F.go A o s H a us vs Q E (fun z => nomatch z) hr⟩
def spD (K : PySem.W.Frag) (CA : CAs) (n : Nat) (F : FD) : Sp := fun vs H Q E => vs.length = n ∧ ∃ (m : Mp) (h : CH) (ds : List D), HR K CA m h H ∧ RpAll K CA m h H vs ds ∧ PostE K CA (wxD E) m h H [] Q (F ds h)
def noxF (F : FD) : FD := fun ds h => (F ds h).calm fun d h => .ok d h
structure Df (P : Program) (w : World) (K : PySem.W.Frag) (mg : Str → Option Value) (base : Heap) (CA : CAs) (nm : Str) (g : Bool) (k : Nat) (ps : List Str) (F : FD) (f : Addr) (fd : FuncData) : Prop where
  G : FnG P w K mg base g k f fd ps (spD K CA ps.length F)
  hm : mg nm = some (.ref f)
  hk : PySem.W.keepIn K (.ref f) = true
theorem FnG.none {k : Nat} {f : Addr} {fd : FuncData} {ps : List Str} {l : Nat} : FnG P w K mg base g k f fd ps (spD K CA l fun _ _ => .no) :=
  ⟨fun _ _ _ _ h => by obtain ⟨_, _, _, _, _, _, z⟩ := h; exact z.elim, fun _ _ _ _ _ _ _ _ _ _ _ _ _ _ h => by obtain ⟨_, _, _, _, _, _, z⟩ := h; exact z.elim⟩
theorem Df.none {nm : Str} {k : Nat} {ps : List Str} {F : FD} {f : Addr} {fd : FuncData} {k' : Nat} {F' : FD} (d : Df P w K mg base CA nm g k' ps F' f fd) : Df P w K mg base CA nm g k ps (fun _ _ => .no) f fd := ⟨.none, d.hm, d.hk⟩
end
end CM
namespace CM
open PySem PySem.Spec PyProof.Rows L2
inductive Src where
  | p (i : Nat) | k (i : Nat) | c (d : D)
def pickL (us ws : List Value) : List Src → List Value → List Value
  | [], _ => []
  | .p i :: r, cs => us.getD i .none :: pickL us ws r cs
  | .k i :: r, cs => ws.getD i .none :: pickL us ws r cs
  | .c _ :: r, c :: cs => c :: pickL us ws r cs
  | .c _ :: r, [] => .none :: pickL us ws r []
def consts : List Src → List D
  | [] => []
  | .p _ :: r => consts r
  | .k _ :: r => consts r
  | .c d :: r => d :: consts r
def Ever (K : PySem.W.Frag) (CA : CAs) (u : Value) (d : D) : Prop := ∃ v, RelV v u ∧ ∀ m h H, Rp K CA m h H v d
structure KwB (K : PySem.W.Frag) (CA : CAs) (fd : FuncData) (ps : List Str) (n : Nat) (ks : List Str) (src : List Src) : Prop where
  ex : ∃ cs : List Value, Paired (Ever K CA) cs (consts src) ∧ ∀ (s : Shared) (us ws : List Value), K.In s.heap → us.length = n → ws.length = ks.length → BindsTo s fd ⟨us, ks.zip ws⟩ (ps.zip (pickL us ws src cs))
end CM
namespace CM
open PySem PySem.Spec PyProof.Rows L2
section
variable {K : PySem.W.Frag} {CA : CAs} {m : Mp} {h : CH} {H : Hp}
theorem KwB.of {fd : FuncData} {ps : List Str} {n : Nat} {ks : List Str} {src : List Src} (hc : consts src = []) (b : ∀ (us ws : List Value), us.length = n → ws.length = ks.length → bindArgs fd ⟨us, ks.zip ws⟩ = pure (ps.zip (pickL us ws src []))) : KwB K CA fd ps n ks src :=
  ⟨[], by rw [hc]; exact .nil, fun s us ws _ h1 h2 => .of_eq (b us ws h1 h2)⟩
end
end CM
namespace CM
open PySem PySem.Spec PyProof.Rows L2
section
variable {X : Cx} {K : PySem.W.Frag} {CA : CAs} {W : WX} {o e : Expr} {es : List Expr} {kws : List Keyword} {pos apos p : Pos} {ha : TE} {ta : TD} {hs hk : TA} {ts tk : TDs} {x nm : Str} {g : Bool} {k n l c0 : Nat} {ps ks : List Str} {src : List Src} {F : FD} {f : Addr} {fd : FuncData}
def srcP : Nat → Nat → List Src
  | _, 0 => []
  | i, n + 1 => .p i :: srcP (i + 1) n
end
end CM
namespace CM
open PySem PySem.Spec PyProof.Rows L2
structure Mtd (P : Program) (w : World) (K : PySem.W.Frag) (mg : Str → Option Value) (base : Heap) (CA : CAs) (c0 : Nat) (nm : Str) (g : Bool) (k : Nat) (ps : List Str) (F : FD) (f : Addr) (fd : FuncData) : Prop where
  G : FnG P w K mg base g k f fd ps (spD K CA ps.length F)
  cl : Cls K (CA c0)
  mt : Meth K (CA c0) nm f
structure Prd (P : Program) (w : World) (K : PySem.W.Frag) (mg : Str → Option Value) (base : Heap) (CA : CAs) (c0 : Nat) (nm : Str) (k : Nat) (ps : List Str) (F : FD) : Prop where
  ex : ∃ (p g : Addr) (fd : FuncData), FnOk P w K mg base L2.CX0 k g fd ps (spD K CA 1 (noxF F)) ∧ PropOf K (CA c0) nm p g ∧ Binds K fd ps []
  cl : Cls K (CA c0)
structure Mkd (P : Program) (w : World) (K : PySem.W.Frag) (mg : Str → Option Value) (base : Heap) (CA : CAs) (c0 : Nat) (nm : Str) (k : Nat) (ps : List Str) (F : FD) (f : Addr) (fd : FuncData) : Prop where
  G : FnG P w K mg base false k f fd ps (spD K CA ps.length F)
  hm : mg nm = some (.ref (CA c0))
  mkd : Mk K (CA c0) f
def GV (K : PySem.W.Frag) (CA : CAs) (mg : Str → Option Value) (x : Str) (d : D) : Prop := ∃ v u, mg x = some u ∧ RelV v u ∧ ∀ m h H, Rp K CA m h H v d
noncomputable def GV.v {K : PySem.W.Frag} {CA : CAs} {mg : Str → Option Value} {x : Str} {d : D} (G : GV K CA mg x d) : V := Classical.choose G
inductive Tg where
  | b (n : String) | o (c : Nat)
  deriving DecidableEq
def Tg.v (CA : CAs) : Tg → Value
  | .b n => .type n
  | .o c => .ref (CA c)
end CM
namespace CM
open PySem PySem.Spec PyProof.Rows L2
section
variable {P : Program} {w : World} {K : PySem.W.Frag} {mg : Str → Option Value} {base : Heap} {CA : CAs}
theorem KwB.fn {nm qual : Str} {st : Stmt} {f : Addr} {fd : FuncData} {ps : List Str} {n : Nat} {ks : List Str} {src : List Src} (T : Fun K nm qual st f fd) (hc : consts src = [])
    (h : ∀ (kV doc pm : Value) (an : Option Addr) (cdv ct : Value) (us ws : List Value), us.length = n → ws.length = ks.length → bindArgs (PySem.W.fnOf nm qual (defArgs st) (defBody st) (defScope st) .none kV doc pm an cdv ct) ⟨us, ks.zip ws⟩ = pure (ps.zip (pickL us ws src []))) : KwB K CA fd ps n ks src := by
  obtain ⟨c1, o1, k1, d1, p1, a1, v1, t1, s1, rfl, _, _⟩ := T.ex
  exact .of hc fun us ws h1 h2 => h _ _ _ _ _ _ us ws h1 h2
end
end CM
namespace CM
open PySem PySem.Spec PyProof.Rows L2
def tys : List String := ["NoneType", "bool", "int", "str", "list", "tuple", "dict"]
structure OwnE (P : Program) (w : World) (K : PySem.W.Frag) (mg : Str → Option Value) (base : Heap) (CA : CAs) (c0 : Nat) (nf : Tg → Bool) (k : Nat) (ps : List Str) (F : FD) (f : Addr) (fd : FuncData) : Prop where
  G : FnG P w K mg base false k f fd ps (spD K CA 2 F)
  at_ : PySem.W.findIn K (.ref (CA c0)) "__eq__" = some (some (.ref f))
  ne : PySem.W.findIn K (.ref (CA c0)) "__ne__" = some (some (.builtin "object.__ne__"))
  fn : PySem.W.isFn K (.ref f) = true
  ob : PySem.W.mroIn K (CA c0) (.type "object") = some true
  nf : ∀ t, nf t = true → PySem.W.notFirst K (CA c0) (t.v CA) = true
  bd : Binds K fd ps []
def clsB (K : PySem.W.Frag) (C : Addr) : Bool :=
  PySem.W.plainGet K C Str.empty && (PySem.W.hasDictIn K C && (PySem.W.plainOver K C && (decide (PySem.W.findIn K (.ref C) "__setattr__" = some (some (.builtin "object.__setattr__"))) &&
  (decide (PySem.W.findIn K (.ref C) "__class__" = some (some (.builtin "object.__class__"))) && (decide (PySem.W.specialIn K (.builtin "object.__class__") "__get__" = some (some (.builtin "getset_descriptor.__get__"))) &&
  (decide (PySem.W.takesIn K (.builtin "object.__class__") = some true) && decide (PySem.W.mroIn K C (.type "object") = some true)))))))
structure ClsOk (K : PySem.W.Frag) (C : Addr) : Prop where
  cl : Cls K C
  i1 : PySem.W.findIn K (.ref C) "__class__" = some (some (.builtin "object.__class__"))
  i2 : PySem.W.specialIn K (.builtin "object.__class__") "__get__" = some (some (.builtin "getset_descriptor.__get__"))
  i3 : PySem.W.takesIn K (.builtin "object.__class__") = some true
  i4 : PySem.W.mroIn K C (.type "object") = some true
def noB (K : PySem.W.Frag) (C : Addr) (fs : List Str) : Bool := fs.all fun f => decide (PySem.W.findIn K (.ref C) f = some none)
def ktChk (K : PySem.W.Frag) (CA : CAs) (sup : List (List Tg)) (bs : List String) : Bool :=
  (List.range sup.length).all fun c => (tys.all fun x => decide (PySem.W.kitOne K (.type x) (.ref (CA c)) = some false)) && ((bs.all fun y => decide (PySem.W.kitOne K (.ref (CA c)) (.type y) = some (decide (Tg.b y ∈ sup.getD c [])))) &&
    (List.range sup.length).all fun d => decide (PySem.W.kitOne K (.ref (CA c)) (.ref (CA d)) = some (decide (Tg.o d ∈ sup.getD c []))))
end CM
namespace CM
open PySem PySem.Spec PyProof.Rows L2
section
variable {P : Program} {w : World} {K : PySem.W.Frag} {mg : Str → Option Value} {base : Heap} {CA : CAs} {c0 k : Nat} {ps : List Str} {F : FD} {f p : Addr} {fd : FuncData} {nm nmf qual : Str} {st : Stmt}
theorem Df.of {g : Bool} (T : Fun K nmf qual st f fd) (G : FnG P w K mg base g k f fd ps (spD K CA ps.length F)) (hm : mg nm = some (.ref f)) : Df P w K mg base CA nm g k ps F f fd := ⟨G, hm, T.kp⟩
theorem Mtd.of {g : Bool} (T : Fun K nmf qual st f fd) (G : FnG P w K mg base g k f fd ps (spD K CA ps.length F)) (cl : ClsOk K (CA c0)) (hm : PySem.W.findIn K (.ref (CA c0)) nm = some (some (.ref f))) (hf : PySem.W.isFn K (.ref f) = true) : Mtd P w K mg base CA c0 nm g k ps F f fd :=
  ⟨G, cl.cl, ⟨hm, hf, T.kp⟩⟩
theorem Mkd.of (T : Fun K nmf qual st f fd) (G : FnG P w K mg base false k f fd ps (spD K CA ps.length F)) (hm : mg nm = some (.ref (CA c0))) (hi : PySem.W.findIn K (.ref (CA c0)) "__init__" = some (some (.ref f))) (hf : PySem.W.isFn K (.ref f) = true) (mk : PySem.W.makesIn K (CA c0) = true) (kp : PySem.W.keepIn K (.ref (CA c0)) = true) :
    Mkd P w K mg base CA c0 nm k ps F f fd := ⟨G, hm, ⟨mk, hi, hf, kp⟩⟩
theorem Prd.of {rest : List Value} (T : Fun K nmf qual st f fd) (G : FnOk P w K mg base L2.CX0 k f fd ps (spD K CA 1 (noxF F))) (cl : ClsOk K (CA c0)) (h1 : PySem.W.findIn K (.ref (CA c0)) nm = some (some (.ref p))) (h2 : PySem.W.specialIn K (.ref p) "__get__" = some (some (.builtin "property.__get__"))) (h3 : PySem.W.takesIn K (.ref p) = some true)
    (h4 : PySem.W.recIn K p "property" = some (.ref f :: rest)) (b : ∀ (kV doc pm : Value) (an : Option Addr) (cdv ct : Value) (us : List Value), us.length = ps.length → bindArgs (PySem.W.fnOf nmf qual (defArgs st) (defBody st) (defScope st) .none kV doc pm an cdv ct) ⟨us, []⟩ = pure (ps.zip us)) :
    Prd P w K mg base CA c0 nm k ps F := ⟨⟨p, f, fd, G, ⟨h1, h2, h3, rest, h4⟩, T.binds b⟩, cl.cl⟩
def nfB (K : PySem.W.Frag) (CA : CAs) (c0 : Nat) (ts : List Tg) : Bool := ts.all fun t => PySem.W.notFirst K (CA c0) (t.v CA)
theorem OwnE.of {ts : List Tg} (T : Fun K nmf qual st f fd) (G : FnG P w K mg base false k f fd ps (spD K CA ps.length F)) (hl : ps.length = 2) (cl : ClsOk K (CA c0)) (hm : PySem.W.findIn K (.ref (CA c0)) "__eq__" = some (some (.ref f))) (hf : PySem.W.isFn K (.ref f) = true)
    (hn : PySem.W.findIn K (.ref (CA c0)) "__ne__" = some (some (.builtin "object.__ne__"))) (hc : nfB K CA c0 ts = true) (b : ∀ (kV doc pm : Value) (an : Option Addr) (cdv ct : Value) (us : List Value), us.length = ps.length → bindArgs (PySem.W.fnOf nmf qual (defArgs st) (defBody st) (defScope st) .none kV doc pm an cdv ct) ⟨us, []⟩ = pure (ps.zip us)) :
    OwnE P w K mg base CA c0 (fun t => decide (t ∈ ts)) k ps F f fd :=
  ⟨by rw [← hl]; exact G, hm, hn, hf, cl.i4, fun t ht => List.all_eq_true.mp hc t (of_decide_eq_true ht), T.binds b⟩
end
end CM
namespace CM
open PySem PySem.Spec PyProof.Rows L2
mutual
inductive DpD (K : PySem.W.Frag) (H : Hp) : V → PyData → Prop
  | non : DpD K H .non .none
  | bl (b : Bool) : DpD K H (.bl b) (.bool b)
  | int (i : Int) : DpD K H (.int i) (.int i)
  | str (x : Str) : DpD K H (.str x) (.str x)
  | lst {a : Addr} {xs : List V} {ds : List PyData} : SqL K H a xs → DpDs K H xs ds → DpD K H (.ref a) (.list ds)
  | tup {a : Addr} {xs : List V} {ds : List PyData} : SqT K H a xs → DpDs K H xs ds → DpD K H (.ref a) (.tuple ds)
  | dct {a : Addr} {kvs : List (Key × V)} {ks ds : List PyData} : Rd H a (.dK kvs) → ks = kvs.map (fun p => match p.1 with | .inl i => PyData.int i | .inr x => PyData.str x) → DpDs K H (kvs.map (·.2)) ds → DpD K H (.ref a) (.dict (ks.zip ds))
inductive DpDs (K : PySem.W.Frag) (H : Hp) : List V → List PyData → Prop
  | nil : DpDs K H [] []
  | cons {v : V} {vs : List V} {d : PyData} {ds : List PyData} : DpD K H v d → DpDs K H vs ds → DpDs K H (v :: vs) (d :: ds)
end
end CM
namespace CM
open PySem PySem.Spec PyProof.Rows L2
section
variable {X : Cx} {pins : List (Addr × Obj)} {σ : L2.St} {H : Hp} {s : Shared}
theorem DpDs.length {K : PySem.W.Frag} {vs : List V} {ds : List PyData} (r : DpDs K H vs ds) : vs.length = ds.length := by
  induction vs generalizing ds with
  | nil => cases r; rfl
  | cons v vs ih => cases r with
    | cons _ h => simp [ih h]
end
end CM
namespace CM
open PySem PySem.Spec PyProof.Rows L2
open PySem PySem.Spec PySem.Calls PyProof.Rows L2
open PySem PySem.Spec PySem.Calls PyProof.Rows L2 PySem.HandSPX
abbrev veBm : List Value := [.type "ValueError", .type "Exception", .type "BaseException", .type "object"]
def excB (K : PySem.W.Frag) (C : Addr) : Bool :=
  (PySem.W.clsIn K C).isSome && (decide (PySem.W.findIn K (.ref C) "__getattribute__" = some (some (.builtin "BaseException.__getattribute__"))) && (decide (PySem.W.findIn K (.ref C) "__getattr__" = some none) && (decide (PySem.W.subIn K (.ref C) (.type "BaseException") = some true) &&
  (decide (PySem.W.findIn K (.ref C) "__class__" = some (some (.builtin "object.__class__"))) && (decide (PySem.W.specialIn K (.builtin "object.__class__") "__get__" = some (some (.builtin "getset_descriptor.__get__"))) && (decide (PySem.W.takesIn K (.builtin "object.__class__") = some true) &&
  (decide (PySem.W.mroIn K C (.type "object") = some true) && (PySem.W.hasDictIn K C && (decide (PySem.W.typeIn K (.ref C) = some (.type "type")) && PySem.W.keepIn K (.ref C))))))))))
end CM
namespace CM
open PySem PySem.Spec PyProof.Rows L2
open PySem PySem.Spec PySem.Calls PyProof.Rows L2
open PySem PySem.Spec PySem.Calls PyProof.Rows L2 PySem.HandSPX
section
variable {K : PySem.W.Frag} {CA : CAs} {α : Type}
def PB (K : PySem.W.Frag) (CA : CAs) (a : Addr) (m : Mp) (h : CH) (H : Hp) (P : α → Mp → CH → Hp → Prop) : R α → Prop
  | .ok x h' => ∀ m' H', Sc a m h H m' h' H' → HR K CA m' h' H' → P x m' h' H'
  | _ => False
theorem PB.base {a : Addr} {m m2 : Mp} {h h2 : CH} {H H2 : Hp} {P : α → Mp → CH → Hp → Prop} {r : R α} (s : Sc a m h H m2 h2 H2) (q : PB K CA a m h H P r) : PB K CA a m2 h2 H2 P r := by
  cases r with
  | ok x h' => exact fun m' H' s' S' => q m' H' (s.trans s') S'
  | ex => exact q
  | no => exact q
theorem PB.calm {β : Type} {a : Addr} {m : Mp} {h : CH} {H : Hp} {P : α → Mp → CH → Hp → Prop} {r : R β} {k : β → CH → R α} (q : PB K CA a m h H P (r.calm k)) : ∃ b h', r = .ok b h' ∧ PB K CA a m h H P (k b h') := by
  cases r with
  | ok b h' => exact ⟨b, h', rfl, q⟩
  | ex => exact q.elim
  | no => exact q.elim
end
end CM
namespace CM
open PySem PySem.Spec PyProof.Rows L2
open PySem PySem.Spec PySem.Calls PyProof.Rows L2
open PySem PySem.Spec PySem.Calls PyProof.Rows L2 PySem.HandSPX
def Dv (X : Cx) (CA : CAs) (n c : Nat) (F : FD) : Prop := ∃ (g : Bool) (k : Nat) (f : Addr) (fd : FuncData) (ps : List Str), CA c = f ∧ ps.length = n ∧ FnG X.prog X.w X.K X.mg X.base g k f fd ps (spD X.K CA ps.length F) ∧ PySem.W.keepIn X.K (.ref f) = true ∧ (g = true → X.A.guards = some []) ∧ Room k X.A ∧ KwB X.K CA fd ps ps.length [] (srcP 0 ps.length)
inductive Dvs (X : Cx) (CA : CAs) (n : Nat) : List (Nat × FD) → Prop where
  | nil : Dvs X CA n []
  | cons {c : Nat} {F : FD} {l : List (Nat × FD)} : Dv X CA n c F → Dvs X CA n l → Dvs X CA n ((c, F) :: l)
theorem Dv.of {X : Cx} {CA : CAs} {n c : Nat} {F : FD} {x : Str} {g : Bool} {k : Nat} {f : Addr} {fd : FuncData} {ps : List Str} (D : Df X.prog X.w X.K X.mg X.base CA x g k ps F f fd) (hc : CA c = f) (hG : g = true → X.A.guards = some []) (hr : Room k X.A) (B : KwB X.K CA fd ps ps.length [] (srcP 0 ps.length)) (hn : ps.length = n := by rfl) : Dv X CA n c F :=
  ⟨g, k, f, fd, ps, hc, hn, D.G, D.hk, hG, hr, B⟩
theorem Dvs.get {X : Cx} {CA : CAs} {n c : Nat} {F : FD} : ∀ {l : List (Nat × FD)}, Dvs X CA n l → l.lookup c = some F → Dv X CA n c F
  | _, .nil, e => by cases e
  | (c', F') :: l, .cons d ds, e => by
    rw [List.lookup_cons] at e
    by_cases z : c = c'
    · subst z
      simp at e
      subst e
      exact d
    · rw [show (c == c') = false from by simpa using z] at e
      exact ds.get e
end CM
namespace CM
open PySem PySem.Spec PySem.Calls PyProof.Rows L2
open PySem PySem.Spec PyProof.Rows L2
mutual
inductive NV (K : PySem.W.Frag) (H : Hp) : NestedKey → V → Prop
  | none : NV K H .none .non
  | bl (b : Bool) : NV K H (.num (if b = true then 1 else 0)) (.bl b)
  | int (i : Int) : NV K H (.num i) (.int i)
  | str (x : Str) : NV K H (.text x) (.str x)
  | tup {a : Addr} {ks : List NestedKey} {vs : List V} : SqT K H a vs → NVs K H ks vs → NV K H (.tup ks) (.ref a)
inductive NVs (K : PySem.W.Frag) (H : Hp) : List NestedKey → List V → Prop
  | nil : NVs K H [] []
  | cons {k : NestedKey} {ks : List NestedKey} {v : V} {vs : List V} : NV K H k v → NVs K H ks vs → NVs K H (k :: ks) (v :: vs)
end
end CM
namespace CM
open PySem PySem.Spec PySem.Calls PyProof.Rows L2
open PySem PySem.Spec PyProof.Rows L2
section
variable {P : Program} {w : World} {K : PySem.W.Frag} {H : Hp} {h : Heap}
theorem sqTAt {a : Addr} {xs : List V} (hok : HOk P w H h) (KX : K.In h) (q : SqT K H a xs) : ∃ (its : List Value) (o : Obj) (n : Nat), Vals xs its ∧ h.get? a = some o ∧ o.cls = .type "tuple" ∧ o.data = .seq its.toArray n := by
  rcases q with q | ⟨o, its, n, e, hc, hd, _, hv⟩
  · obtain ⟨_, its, hv, o, e, hc, n, hd⟩ := (show ObjOk P w H h a (.tup xs) from q.ok hok)
    exact ⟨its, o, n, hv, e, hc, hd⟩
  · exact ⟨its.toList, o, n, hv, KX _ _ e, hc, by simp [hd]⟩
mutual
theorem nv_is (hok : HOk P w H h) (KX : K.In h) : ∀ (k : NestedKey) (v : V) (u : Value), NV K H k v → RelV v u → NestedIs h k u
  | .none, _, _, x, r => by cases x; cases r; exact .none
  | .num i, _, u, x, r => by
    cases x with
    | bl b => cases r; exact .bool rfl
    | int => obtain ⟨t, rfl⟩ := (show ∃ t, u = Value.int i t from r); exact .int _ _
  | .text y, _, u, x, r => by
    cases x
    obtain ⟨t, rfl⟩ := (show ∃ t, u = Value.str y t from r)
    exact .text _ _
  | .tup ks, _, u, x, r => by
    cases x with
    | @tup a _ vs sq all =>
      obtain rfl : u = Value.ref a := r
      obtain ⟨its, o, n, vals, g, c, d⟩ := sqTAt hok KX sq
      exact .tup g c d (nvs_is hok KX ks vs its all vals)
theorem nvs_is (hok : HOk P w H h) (KX : K.In h) : ∀ (ks : List NestedKey) (vs : List V) (us : List Value), NVs K H ks vs → Vals vs us → NestedAll h ks us
  | [], _, _, x, r => by cases x; cases r; exact .nil
  | k :: ks, _, _, x, r => by
    cases x with
    | cons x1 x2 => cases r with
      | cons r1 r2 => exact .cons (nv_is hok KX k _ _ x1 r1) (nvs_is hok KX ks _ _ x2 r2)
end
end
end CM
namespace CM
open PySem PySem.Spec PySem.Calls PyProof.Rows L2
open PySem PySem.Spec PyProof.Rows L2
structure ND (K : PySem.W.Frag) (w : World) (H : Hp) (a : Addr) (xs : List (NestedKey × Addr × Value)) : Prop where
  at_ : NDat w H a xs
  sz : xs.length ≤ sizeLine
  nd : (xs.map (·.1)).Nodup
  ks : ∀ x ∈ xs, NV K H x.1 (.ref x.2.1) ∧ x.1.depth ≤ 8
theorem ND.of {P : Program} {w : World} {K : PySem.W.Frag} {H : Hp} {h : Heap} {a : Addr} {xs : List (NestedKey × Addr × Value)} (x : ND K w H a xs) (hok : HOk P w H h) (KX : K.In h) : h.DictOfH (nestedKind P w) a xs := by
  rcases x.at_ with ⟨q, _⟩ | ⟨q, e⟩
  case' inl => obtain ⟨⟨o, es, ep, h1, h2, h3, h4⟩, _, _⟩ := hok a _ q
  case' inr =>
    obtain ⟨_, _, vs, rel, o, es, ep, h1, h2, h3, _, h4', _⟩ := dk_of hok q
    cases rel
    have h4 : es.toList = xs.map (entryOfKey (nestedKind P w)) := by
      rw [e]
      cases hh : es.toList with
      | nil => rfl
      | cons z zs => rw [hh] at h4'; cases h4'
  all_goals exact ⟨o, es, ep, h1, h2, h3, h4, fun y hy => ⟨nv_is hok KX _ _ _ (x.ks y hy).1 rfl, (x.ks y hy).2⟩, x.nd⟩
def dGetN (kvs : List (D × D)) (k : NestedKey) : Option D := (kvs.find? fun p => decide (nkD 8 p.1 = some k)).map (·.2)
end CM
namespace CM
open PySem PySem.Spec PySem.Calls PyProof.Rows L2
open PySem PySem.Spec PyProof.Rows L2
section
variable {K : PySem.W.Frag} {CA : CAs} {m m' : Mp} {h h' : CH} {H H' : Hp} {v : V} {d x : D} {k : NestedKey} {xs : List (NestedKey × Addr × Value)} {kvs : List (D × D)} {a b : Addr} {u : Value} {j : Nat}
inductive DNs (K : PySem.W.Frag) (CA : CAs) (m : Mp) (h : CH) (H : Hp) : List (NestedKey × Addr × Value) → List (D × D) → Prop
  | nil : DNs K CA m h H [] []
  | cons {k : NestedKey} {b : Addr} {u : Value} {v : V} {x d : D} {xs : List (NestedKey × Addr × Value)} {kvs : List (D × D)} : nkD 8 x = some k → Rp K CA m h H (.ref b) x → RelV v u → Rp K CA m h H v d → DNs K CA m h H xs kvs → DNs K CA m h H ((k, b, u) :: xs) ((x, d) :: kvs)
theorem DNs.length (r : DNs K CA m h H xs kvs) : xs.length = kvs.length := by
  induction r with
  | nil => rfl
  | cons _ _ _ _ _ ih => simp [ih]
theorem DNs.get (r : DNs K CA m h H xs kvs) : (atKey xs k).isSome = (dGetN kvs k).isSome ∧ ∀ d, dGetN kvs k = some d → ∃ p v, atKey xs k = some p ∧ RelV v p.2 ∧ Rp K CA m h H v d := by
  induction r with
  | nil => exact ⟨rfl, fun d e => by cases e⟩
  | @cons k1 b u v x d xs kvs e r1 rv r2 _ ih =>
    by_cases c : k1 = k
    · subst c
      have e1 : atKey ((k1, b, u) :: xs) k1 = some (b, u) := by simp [atKey]
      have e2 : dGetN ((x, d) :: kvs) k1 = some d := by simp [dGetN, e]
      rw [e1, e2]
      exact ⟨rfl, fun d' q => by cases q; exact ⟨_, v, rfl, rv, r2⟩⟩
    · have e1 : atKey ((k1, b, u) :: xs) k = atKey xs k := by simp [atKey, c]
      have e2 : dGetN ((x, d) :: kvs) k = dGetN kvs k := by simp [dGetN, e, c]
      rw [e1, e2]
      exact ih
end
end CM
namespace CM
open PySem PySem.Spec PySem.Calls PyProof.Rows L2
open PySem PySem.Spec PyProof.Rows L2
open PySem PySem.Spec PySem.Calls PyProof.Rows L2 PySem.W
section
variable (K : PySem.W.Frag) (a : Addr)
def objD : Obj := (K.lookup a).getD default
def fdD : FuncData := match (objD K a).data with
  | .func fd => fd
  | _ => default
def fldD : Array Value := match (objD K a).data with
  | .fields vs => vs
  | _ => #[]
def seqD : Array Value := match (objD K a).data with
  | .seq vs _ => vs
  | _ => #[]
def kndD : Nat := match K.lookup a with
  | some o => (match o.data with
    | .func _ => 1
    | .fields _ => 2
    | .seq _ _ => 3
    | .dict _ _ => 4
    | .cell _ => 5
    | _ => 0)
  | none => 0
end
end CM
namespace CM
open PySem PySem.Spec PySem.Calls PyProof.Rows L2
open PySem PySem.Spec PyProof.Rows L2
open PySem PySem.Spec PySem.Calls PyProof.Rows L2 PySem.W
def refA : Value → Addr
  | .ref a => a
  | _ => 0
def tkV : Value → Tok
  | .int _ t => t
  | .str _ t => t
  | _ => default
def nsV (K : PySem.W.Frag) (ns : Addr) (x : Str) : Value := match PySem.W.nsIn K ns x with
  | some (some v) => v
  | _ => .none
def ga (K : PySem.W.Frag) (x : Str) : Addr := refA (nsV K mainGlobals x)
def ma (K : PySem.W.Frag) (C : Addr) (m : Str) : Addr := match PySem.W.findIn K (.ref C) m with
  | some (some (.ref a)) => a
  | _ => 0
abbrev FnV : Type := Option (Str × Str × Arguments × FuncBody × Scope × Addr × List Str × Value × Addr)
def fnO (K : PySem.W.Frag) (a : Addr) : FnV := match K.lookup a with
  | some ⟨_, _, .func fd, _⟩ => some (fd.name, fd.qualname, fd.params, fd.body, fd.scope, fd.globals, fd.closure.map (·.1), fd.defaults, fd.builtins)
  | _ => none
abbrev fnE (name qual : Str) (st : Stmt) : FnV := some (name, qual, defArgs st, .stmts (defBody st), defScope st, mainGlobals, [], .none, builtinsNs)
def refsX (o : Obj) : List Addr := He.refV o.cls ++ match o.data with
  | .seq its _ => its.toList.flatMap He.refV
  | .dict es _ => es.toList.flatMap fun e => He.refV e.val
  | .func fd => He.refV fd.code ++ (He.refV fd.defaults ++ (He.refV fd.kwdefaults ++ fd.closure.map (·.2)))
  | .cls cd => cd.ns :: cd.mro.flatMap He.refV
  | .fields vs => vs.toList.flatMap He.refV
  | .cell (some v) => He.refV v
  | _ => []
def newX (old : List Addr) : List Addr → List Addr
  | [] => []
  | a :: r => if old.contains a then newX old r else a :: newX (a :: old) r
def asX (g : Addr → Option Obj) : Nat → List Addr → List Addr → List Addr
  | 0, old, _ => old
  | n + 1, old, fr => match newX old (fr.flatMap fun a => match g a with
    | some o => refsX o
    | none => []) with
    | [] => old
    | x :: l => asX g n (x :: l ++ old) (x :: l)
def isTab (o : Option Obj) : Bool := match o with
  | some ⟨.none, none, .fields vs, sl⟩ => decide (vs.size = 0) && decide (sl.size = 0)
  | _ => false
theorem isTab_ok {o : Option Obj} (e : isTab o = true) : o = some { cls := .none, data := .fields #[] } := by
  unfold isTab at e
  split at e
  · rename_i vs sl
    rw [Bool.and_eq_true] at e
    have h1 := Array.eq_empty_of_size_eq_zero (of_decide_eq_true e.1)
    have h2 := Array.eq_empty_of_size_eq_zero (of_decide_eq_true e.2)
    subst h1 h2
    rfl
  · cases e
def fragX (g : Addr → Option Obj) (n : Nat) : PySem.W.Frag := He.frG g ((asX g n [mainGlobals] [mainGlobals]).filter fun a => !isTab (g a))
abbrev AlX : Type := Bool × (List FnV × List (Int × Str × Int))
structure SpecX where
  ck : PySem.W.Frag → Bool
  fn : PySem.W.Frag → List FnV
  fe : List FnV
  en : PySem.W.Frag → List (Int × Str × Int)
  ee : Params → List (Int × Str × Int)
  tb : PySem.W.Frag → List Addr
def SpecX.obs (X : SpecX) (n : Nat) (g : Addr → Option Obj) : AlX := (X.ck (fragX g n) && (X.tb (fragX g n)).all fun a => isTab (g a), X.fn (fragX g n), X.en (fragX g n))
def SpecX.val (X : SpecX) (P : Params) : AlX := (true, X.fe, X.ee P)
structure SaysX (X : SpecX) (w : World) (h : Heap) (K : PySem.W.Frag) : Prop where
  kin : K.In h
  ck : X.ck K = true
  fn : X.fn K = X.fe
  en : X.en K = X.ee w.params
  tb : ∀ a ∈ X.tb K, h.get? a = some { cls := .none, data := .fields #[] }
def bitB (m a : Nat) : Bool := Nat.beq (Nat.land (Nat.shiftRight m a) 1) 1
def frO {α : Type} (o : Obj) (k : Obj → α) : α := match o with
  | ⟨c, d, x, sl⟩ => (match x with
    | .fields vs => k ⟨c, d, .fields vs, sl⟩
    | .seq vs n => k ⟨c, d, .seq vs n, sl⟩
    | x => k ⟨c, d, x, sl⟩)
theorem frO_eq {α : Type} (o : Obj) (k : Obj → α) : frO o k = k o := by
  obtain ⟨c, d, x, sl⟩ := o
  unfold frO
  cases x <;> rfl
def isHot (o : Obj) : Bool := match o.data with
  | .func _ => true
  | .cls _ => true
  | .dict _ _ => true
  | _ => false
def revB {α : Type} : PySem.W.Frag → PySem.W.Frag → (PySem.W.Frag → α) → α
  | [], L, k => k L
  | p :: r, L, k => revB r (p :: L) k
def reachB {α : Type} (g : Addr → Option Obj) : Nat → Nat → List Addr → PySem.W.Frag → PySem.W.Frag → (PySem.W.Frag → α) → α
  | 0, _, _, K, L, k => revB K L k
  | _ + 1, _, [], K, L, k => revB K L k
  | n + 1, m, a :: r, K, L, k => HandSHeadRun.frNat a fun a => match bitB m a with
    | true => reachB g n m r K L k
    | false => HandSHeadRun.frNat (Nat.lor m (Nat.shiftLeft 1 a)) fun m => match g a with
      | none => reachB g n m r K L k
      | some o => frO o fun o => match isTab (some o) with
        | true => reachB g n m r K L k
        | false => match isHot o with
          | true => reachB g n m (refsX o ++ r) ((a, o) :: K) L k
          | false => reachB g n m (refsX o ++ r) K ((a, o) :: L) k
def Sound (g : Addr → Option Obj) (K : PySem.W.Frag) : Prop := ∀ p ∈ K, g p.1 = some p.2
theorem Sound.cons {g : Addr → Option Obj} {K : PySem.W.Frag} {a : Addr} {o : Obj} (e : g a = some o) (h : Sound g K) : Sound g ((a, o) :: K) := fun p hp => by
  rcases List.mem_cons.mp hp with rfl | hp
  · exact e
  · exact h p hp
theorem revB_ok {α : Type} {g : Addr → Option Obj} : ∀ (K L : PySem.W.Frag), Sound g K → Sound g L → ∃ K', Sound g K' ∧ ∀ {β : Type} (k : PySem.W.Frag → β), revB K L k = k K'
  | [], L, _, hL => ⟨L, hL, fun k => rfl⟩
  | p :: r, L, hK, hL => revB_ok (α := α) r (p :: L) (fun q hq => hK q (List.mem_cons_of_mem _ hq)) (Sound.cons (hK p (List.mem_cons_self ..)) hL)
theorem reachB_ok {g : Addr → Option Obj} : ∀ (n m : Nat) (t : List Addr) (K L : PySem.W.Frag), Sound g K → Sound g L → ∃ K', Sound g K' ∧ ∀ {β : Type} (k : PySem.W.Frag → β), reachB g n m t K L k = k K'
  | 0, _, _, K, L, hK, hL => revB_ok (α := Nat) K L hK hL
  | _ + 1, _, [], K, L, hK, hL => revB_ok (α := Nat) K L hK hL
  | n + 1, m, a :: r, K, L, hK, hL => by
    cases eb : bitB m a with
    | true =>
      obtain ⟨K', h, e⟩ := reachB_ok n m r K L hK hL
      refine ⟨K', h, fun k => ?_⟩
      rw [reachB, HandSHeadRun.frNat_eq, eb]
      exact e k
    | false =>
      cases e : g a with
      | none =>
        obtain ⟨K', h, e2⟩ := reachB_ok n (Nat.lor m (Nat.shiftLeft 1 a)) r K L hK hL
        refine ⟨K', h, fun k => ?_⟩
        rw [reachB, HandSHeadRun.frNat_eq, eb]
        dsimp only
        rw [HandSHeadRun.frNat_eq, e]
        exact e2 k
      | some o =>
        cases it : isTab (some o) with
        | true =>
          obtain ⟨K', h, e2⟩ := reachB_ok n (Nat.lor m (Nat.shiftLeft 1 a)) r K L hK hL
          refine ⟨K', h, fun k => ?_⟩
          rw [reachB, HandSHeadRun.frNat_eq, eb]
          dsimp only
          rw [HandSHeadRun.frNat_eq, e]
          dsimp only
          rw [frO_eq, it]
          exact e2 k
        | false =>
          cases ih : isHot o with
          | true =>
            obtain ⟨K', h, e2⟩ := reachB_ok n (Nat.lor m (Nat.shiftLeft 1 a)) (refsX o ++ r) ((a, o) :: K) L (hK.cons e) hL
            refine ⟨K', h, fun k => ?_⟩
            rw [reachB, HandSHeadRun.frNat_eq, eb]
            dsimp only
            rw [HandSHeadRun.frNat_eq, e]
            dsimp only
            rw [frO_eq, it]
            dsimp only
            rw [ih]
            exact e2 k
          | false =>
            obtain ⟨K', h, e2⟩ := reachB_ok n (Nat.lor m (Nat.shiftLeft 1 a)) (refsX o ++ r) K ((a, o) :: L) hK (hL.cons e)
            refine ⟨K', h, fun k => ?_⟩
            rw [reachB, HandSHeadRun.frNat_eq, eb]
            dsimp only
            rw [HandSHeadRun.frNat_eq, e]
            dsimp only
            rw [frO_eq, it]
            dsimp only
            rw [ih]
            exact e2 k
theorem inB {h : Heap} : ∀ {K : PySem.W.Frag}, (∀ p ∈ K, h.get? p.1 = some p.2) → K.In h
  | [], _ => fun a o e => nomatch (show (none : Option Obj) = some o from e)
  | (b, ob) :: r, hK => fun a o e => by
    have e2 : (match a == b with | true => some ob | false => List.lookup a r) = some o := e
    cases q : (a == b) with
    | true =>
      rw [q] at e2
      rw [beq_iff_eq.mp q, ← Option.some.inj e2]
      exact hK (b, ob) List.mem_cons_self
    | false =>
      rw [q] at e2
      exact inB (fun p hp => hK p (List.mem_cons_of_mem _ hp)) a o e2
def SpecX.bod (X : SpecX) (g : Addr → Option Obj) (K : PySem.W.Frag) : AlX := (X.ck K && (X.tb K).all fun a => isTab (g a), X.fn K, X.en K)
def SpecX.obsB (X : SpecX) (n : Nat) (g : Addr → Option Obj) : AlX := reachB g n 0 [mainGlobals, cStatics] [] [] (X.bod g)
theorem bod_says {X : SpecX} {w : World} {s : Shared} {K : PySem.W.Frag} (hK : Sound s.heap.get? K) (e : X.bod s.heap.get? K = ((true, X.fe, X.ee w.params) : AlX)) : SaysX X w s.heap K := by
  unfold SpecX.bod at e
  simp only [Prod.mk.injEq, Bool.and_eq_true] at e
  obtain ⟨⟨e1, e2⟩, e3, e4⟩ := e
  exact ⟨inB hK, e1, e3, e4, fun a ha => isTab_ok (List.all_eq_true.mp e2 a ha)⟩
theorem sound_nil {g : Addr → Option Obj} : Sound g [] := fun _ h => nomatch h
theorem SaysX.keeps {X : SpecX} {w : World} {h h' : Heap} {K : PySem.W.Frag} (s : SaysX X w h K) (k : ∀ a o, h.get? a = some o → h'.get? a = some o) : SaysX X w h' K := ⟨PySem.W.Frag.In.keeps s.kin k, s.ck, s.fn, s.en, fun a ha => k _ _ (s.tb a ha)⟩
def hookB (X : SpecX) (n : Nat) : PySem.W.Hook where
  α := AlX
  obs := fun s => X.obsB n s.heap.get?
  val := fun w => X.val w.params
  says := fun w h => ∃ K : PySem.W.Frag, SaysX X w h K
  of := fun w s e => by
    obtain ⟨K, hK, ek⟩ := reachB_ok (g := s.heap.get?) n 0 [mainGlobals, cStatics] [] [] sound_nil sound_nil
    have e' : reachB s.heap.get? n 0 [mainGlobals, cStatics] [] [] (X.bod s.heap.get?) = ((true, X.fe, X.ee w.params) : AlX) := e
    rw [ek] at e'
    exact ⟨K, bod_says hK e'⟩
  keeps := fun _ _ _ ⟨K, s⟩ k => ⟨K, s.keeps k⟩
def hook2 (X Y : SpecX) (n : Nat) : PySem.W.Hook where
  α := AlX × AlX
  obs := fun s => (X.obsB n s.heap.get?, Y.obsB n s.heap.get?)
  val := fun w => (X.val w.params, Y.val w.params)
  says := fun w h => ∃ K : PySem.W.Frag, SaysX X w h K ∧ SaysX Y w h K
  of := fun w s e => by
    obtain ⟨K, hK, ek⟩ := reachB_ok (g := s.heap.get?) n 0 [mainGlobals, cStatics] [] [] sound_nil sound_nil
    have e' : ((reachB s.heap.get? n 0 [mainGlobals, cStatics] [] [] (X.bod s.heap.get?), reachB s.heap.get? n 0 [mainGlobals, cStatics] [] [] (Y.bod s.heap.get?)) : AlX × AlX) = ((true, X.fe, X.ee w.params), (true, Y.fe, Y.ee w.params)) := e
    rw [ek, ek] at e'
    have e1 := congrArg Prod.fst e'
    have e2 := congrArg Prod.snd e'
    exact ⟨K, bod_says hK e1, bod_says hK e2⟩
  keeps := fun _ _ _ ⟨K, s, t⟩ k => ⟨K, s.keeps k, t.keeps k⟩
theorem obs2_eq {X Y : SpecX} {n : Nat} {g : Addr → Option Obj} {s : Shared} (h : ∀ a, g a = s.heap.get? a) : ((X.obsB n g, Y.obsB n g) : AlX × AlX) = (hook2 X Y n).obs s := by
  have e : g = s.heap.get? := funext h
  rw [e] <;> rfl
theorem run2 {r : PySem.W.OpenRow} {q : Program} {X Y : SpecX} {n M : Nat} {ob1 ob2 : PySem.W.SharedT → AlX} {loose : List Str} {w : World} (h1 : HandSHeadRun.RunEq r q (hookB X n) ob1 M loose w) (h2 : HandSHeadRun.RunEq r q (hookB Y n) ob2 M loose w) :
    HandSHeadRun.RunEq r q (hook2 X Y n) (fun s => (ob1 s, ob2 s)) M loose w := fun os => by
  have a := h1 os
  have b := h2 os
  generalize HandSHeadRun.endF (HandSHeadRun.stepQ (HandSHeadRun.denQ HandSHeadRun.tabQ) r.prog w) M r.prog w os = e at a b ⊢
  cases e with
  | none => cases a
  | some s =>
    have a := Option.some.inj a
    have b := Option.some.inj b
    have a1 := congrArg Prod.fst a
    have a2 := congrArg (fun z => z.2.1) a
    have a3 := congrArg (fun z => z.2.2) a
    have b3 := congrArg (fun z => z.2.2) b
    exact congrArg some (Prod.ext a1 (Prod.ext a2 (Prod.ext a3 b3)))
end CM
namespace W_whilemerged_k60_chains_and_plans_judged
open PySem PySem.Spec PyProof.Rows L2 CM
def top (i : Nat) : Stmt := PySem.Challenge.pw_whilemerged_k60_chains_and_plans_judged.main.body.getD i (.Pass ⟨0, 0, 0, 0⟩)
abbrev s__law_begun : Stmt := top 26
abbrev s__law_mixed : Stmt := top 27
abbrev s__law_take : Stmt := top 28
abbrev s__law_pick : Stmt := top 29
abbrev s__law_owned : Stmt := top 31
abbrev s__law_chain : Stmt := top 32
abbrev s__law_plan : Stmt := top 33
abbrev s__law_is_cell : Stmt := top 34
abbrev s__law_is_chain : Stmt := top 35
abbrev s__law_is_great : Stmt := top 40
abbrev s__law_span : Stmt := top 36
abbrev s_is_cell : Stmt := top 11
abbrev s_is_owned : Stmt := top 12
abbrev s_need_chain : Stmt := top 13
abbrev s_span_of : Stmt := top 16
abbrev s_is_plan : Stmt := top 17
abbrev s_need_plan : Stmt := top 18
abbrev s_copied : Stmt := top 15
abbrev s_owned_by : Stmt := top 14
abbrev s_cost_of : Stmt := top 19
abbrev s_cost : Stmt := top 20
abbrev s_Work_merged : Stmt := inClass (top 23) 1
abbrev s_Work_init : Stmt := inClass (top 23) 0
abbrev s_cells_of : Stmt := top 22
abbrev s_deeds_for : Stmt := top 24
abbrev s__law_refusal : Stmt := top 38
abbrev s_cheapest : Stmt := top 21
abbrev s__law_all_right : Stmt := top 41
abbrev s__law_odd : Stmt := top 30
abbrev s__law_bent : Stmt := top 39
abbrev s_law : Stmt := top 42
abbrev s__law_caught : Stmt := top 37
def v_C0 (K : PySem.W.Frag) : Addr := ga K "Work"
def v_C1 (K : PySem.W.Frag) : Addr := ga K "MergeError"
def v_C2 (K : PySem.W.Frag) : Addr := ga K "BadDeed"
def v_C3 (K : PySem.W.Frag) : Addr := ga K "BadNumber"
def v_C4 (K : PySem.W.Frag) : Addr := ga K "BadBook"
def v_C5 (K : PySem.W.Frag) : Addr := ga K "BadPlan"
def v_C6 (K : PySem.W.Frag) : Addr := ga K "BadChain"
def v_C7 (K : PySem.W.Frag) : Addr := ga K "BadText"
def v_f0 (K : PySem.W.Frag) : Addr := ga K "_law_begun"
def v_cd0 (K : PySem.W.Frag) : Value := (fdD K (v_f0 K)).code
def v_f1 (K : PySem.W.Frag) : Addr := ga K "_law_mixed"
def v_cd1 (K : PySem.W.Frag) : Value := (fdD K (v_f1 K)).code
def v_f2 (K : PySem.W.Frag) : Addr := ga K "_law_take"
def v_cd2 (K : PySem.W.Frag) : Value := (fdD K (v_f2 K)).code
def v_f3 (K : PySem.W.Frag) : Addr := ga K "_law_pick"
def v_cd3 (K : PySem.W.Frag) : Value := (fdD K (v_f3 K)).code
def v_f4 (K : PySem.W.Frag) : Addr := ga K "_law_owned"
def v_cd4 (K : PySem.W.Frag) : Value := (fdD K (v_f4 K)).code
def v_f5 (K : PySem.W.Frag) : Addr := ga K "_law_chain"
def v_cd5 (K : PySem.W.Frag) : Value := (fdD K (v_f5 K)).code
def v_f6 (K : PySem.W.Frag) : Addr := ga K "_law_plan"
def v_cd6 (K : PySem.W.Frag) : Value := (fdD K (v_f6 K)).code
def v_f7 (K : PySem.W.Frag) : Addr := ga K "_law_is_cell"
def v_cd7 (K : PySem.W.Frag) : Value := (fdD K (v_f7 K)).code
def v_f8 (K : PySem.W.Frag) : Addr := ga K "_law_is_chain"
def v_cd8 (K : PySem.W.Frag) : Value := (fdD K (v_f8 K)).code
def v_f9 (K : PySem.W.Frag) : Addr := ga K "_law_is_great"
def v_cd9 (K : PySem.W.Frag) : Value := (fdD K (v_f9 K)).code
def v_f10 (K : PySem.W.Frag) : Addr := ga K "_law_span"
def v_cd10 (K : PySem.W.Frag) : Value := (fdD K (v_f10 K)).code
def v_f11 (K : PySem.W.Frag) : Addr := ga K "is_cell"
def v_cd11 (K : PySem.W.Frag) : Value := (fdD K (v_f11 K)).code
def v_f12 (K : PySem.W.Frag) : Addr := ga K "is_owned"
def v_cd12 (K : PySem.W.Frag) : Value := (fdD K (v_f12 K)).code
def v_f13 (K : PySem.W.Frag) : Addr := ga K "need_chain"
def v_cd13 (K : PySem.W.Frag) : Value := (fdD K (v_f13 K)).code
def v_f14 (K : PySem.W.Frag) : Addr := ga K "span_of"
def v_cd14 (K : PySem.W.Frag) : Value := (fdD K (v_f14 K)).code
def v_f15 (K : PySem.W.Frag) : Addr := ga K "is_plan"
def v_cd15 (K : PySem.W.Frag) : Value := (fdD K (v_f15 K)).code
def v_f16 (K : PySem.W.Frag) : Addr := ga K "need_plan"
def v_cd16 (K : PySem.W.Frag) : Value := (fdD K (v_f16 K)).code
def v_f17 (K : PySem.W.Frag) : Addr := ga K "copied"
def v_cd17 (K : PySem.W.Frag) : Value := (fdD K (v_f17 K)).code
def v_f18 (K : PySem.W.Frag) : Addr := ga K "owned_by"
def v_cd18 (K : PySem.W.Frag) : Value := (fdD K (v_f18 K)).code
def v_f19 (K : PySem.W.Frag) : Addr := ga K "cost_of"
def v_cd19 (K : PySem.W.Frag) : Value := (fdD K (v_f19 K)).code
def v_f20 (K : PySem.W.Frag) : Addr := ga K "cost"
def v_cd20 (K : PySem.W.Frag) : Value := (fdD K (v_f20 K)).code
def v_f21 (K : PySem.W.Frag) : Addr := ma K (v_C0 K) "merged"
def v_cd21 (K : PySem.W.Frag) : Value := (fdD K (v_f21 K)).code
def v_f22 (K : PySem.W.Frag) : Addr := ma K (v_C0 K) "__init__"
def v_cd22 (K : PySem.W.Frag) : Value := (fdD K (v_f22 K)).code
def v_f23 (K : PySem.W.Frag) : Addr := ga K "cells_of"
def v_cd23 (K : PySem.W.Frag) : Value := (fdD K (v_f23 K)).code
def v_f24 (K : PySem.W.Frag) : Addr := ga K "deeds_for"
def v_cd24 (K : PySem.W.Frag) : Value := (fdD K (v_f24 K)).code
def v_f25 (K : PySem.W.Frag) : Addr := ga K "_law_refusal"
def v_cd25 (K : PySem.W.Frag) : Value := (fdD K (v_f25 K)).code
def v_f26 (K : PySem.W.Frag) : Addr := ga K "cheapest"
def v_cd26 (K : PySem.W.Frag) : Value := (fdD K (v_f26 K)).code
def v_f27 (K : PySem.W.Frag) : Addr := ga K "_law_all_right"
def v_ca27 (K : PySem.W.Frag) : Addr := refA (fdD K (v_f27 K)).code
def v_vs27 (K : PySem.W.Frag) : Array Value := fldD K (v_ca27 K)
def v_P27 (K : PySem.W.Frag) : Addr := refA ((fldD K (v_ca27 K)).getD 11 .none)
def v_f28 (K : PySem.W.Frag) : Addr := ga K "_law_odd"
def v_cd28 (K : PySem.W.Frag) : Value := (fdD K (v_f28 K)).code
def v_f29 (K : PySem.W.Frag) : Addr := ga K "_law_bent"
def v_cd29 (K : PySem.W.Frag) : Value := (fdD K (v_f29 K)).code
def v_f30 (K : PySem.W.Frag) : Addr := ga K "law"
def v_cd30 (K : PySem.W.Frag) : Value := (fdD K (v_f30 K)).code
def v_t_MOST_LAYERS (K : PySem.W.Frag) : Tok := tkV (nsV K mainGlobals "MOST_LAYERS")
def v_p_KINDS (K : PySem.W.Frag) : Addr := ga K "KINDS"
def v_t_KINDS0 (K : PySem.W.Frag) : Tok := tkV ((seqD K (v_p_KINDS K)).getD 0 .none)
def v_t_KINDS1 (K : PySem.W.Frag) : Tok := tkV ((seqD K (v_p_KINDS K)).getD 1 .none)
def v_fg0 (K : PySem.W.Frag) : Addr := ga K "_law_caught"
def v_cdg0 (K : PySem.W.Frag) : Value := (fdD K (v_fg0 K)).code
def w00 : World := ⟨fun _ _ => 0, { strHash := fun _ => 0, shareClass := fun _ => 0, mergeTok := id, idOf := fun _ => 0, idOfShared := fun _ _ => 0, followText := fun _ => false, idOfImm := fun _ => 0 }⟩
def ck0 (K : PySem.W.Frag) : List Bool := [decide (PySem.W.nsIn K mainGlobals "Work" = some (some (.ref (v_C0 K)))), decide (PySem.W.nsIn K mainGlobals "MergeError" = some (some (.ref (v_C1 K)))), decide (PySem.W.nsIn K mainGlobals "BadDeed" = some (some (.ref (v_C2 K)))), decide (PySem.W.nsIn K mainGlobals "BadNumber" = some (some (.ref (v_C3 K)))), decide (PySem.W.nsIn K mainGlobals "BadBook" = some (some (.ref (v_C4 K)))), decide (PySem.W.nsIn K mainGlobals "BadPlan" = some (some (.ref (v_C5 K)))), decide (PySem.W.nsIn K mainGlobals "BadChain" = some (some (.ref (v_C6 K)))), decide (PySem.W.nsIn K mainGlobals "BadText" = some (some (.ref (v_C7 K)))), decide (PySem.W.nsIn K mainGlobals "_law_begun" = some (some (.ref (v_f0 K)))), (PySem.W.codeIn K (v_cd0 K) "_law_begun" : Bool), (PySem.W.keepIn K (.ref (v_f0 K)) : Bool), decide (PySem.W.nsIn K mainGlobals "_law_mixed" = some (some (.ref (v_f1 K)))), (PySem.W.codeIn K (v_cd1 K) "_law_mixed" : Bool), (PySem.W.keepIn K (.ref (v_f1 K)) : Bool), decide (PySem.W.nsIn K mainGlobals "_law_take" = some (some (.ref (v_f2 K)))), (PySem.W.codeIn K (v_cd2 K) "_law_take" : Bool)]
def ck1 (K : PySem.W.Frag) : List Bool := [(PySem.W.keepIn K (.ref (v_f2 K)) : Bool), decide (PySem.W.nsIn K mainGlobals "_law_pick" = some (some (.ref (v_f3 K)))), (PySem.W.codeIn K (v_cd3 K) "_law_pick" : Bool), (PySem.W.keepIn K (.ref (v_f3 K)) : Bool), decide (PySem.W.nsIn K mainGlobals "_law_owned" = some (some (.ref (v_f4 K)))), (PySem.W.codeIn K (v_cd4 K) "_law_owned" : Bool), (PySem.W.keepIn K (.ref (v_f4 K)) : Bool), decide (PySem.W.nsIn K mainGlobals "_law_chain" = some (some (.ref (v_f5 K)))), (PySem.W.codeIn K (v_cd5 K) "_law_chain" : Bool), (PySem.W.keepIn K (.ref (v_f5 K)) : Bool), decide (PySem.W.nsIn K mainGlobals "_law_plan" = some (some (.ref (v_f6 K)))), (PySem.W.codeIn K (v_cd6 K) "_law_plan" : Bool), (PySem.W.keepIn K (.ref (v_f6 K)) : Bool), decide (PySem.W.nsIn K mainGlobals "_law_is_cell" = some (some (.ref (v_f7 K)))), (PySem.W.codeIn K (v_cd7 K) "_law_is_cell" : Bool), (PySem.W.keepIn K (.ref (v_f7 K)) : Bool)]
def ck2 (K : PySem.W.Frag) : List Bool := [decide (PySem.W.nsIn K mainGlobals "_law_is_chain" = some (some (.ref (v_f8 K)))), (PySem.W.codeIn K (v_cd8 K) "_law_is_chain" : Bool), (PySem.W.keepIn K (.ref (v_f8 K)) : Bool), decide (PySem.W.nsIn K mainGlobals "_law_is_great" = some (some (.ref (v_f9 K)))), (PySem.W.codeIn K (v_cd9 K) "_law_is_great" : Bool), (PySem.W.keepIn K (.ref (v_f9 K)) : Bool), decide (PySem.W.nsIn K mainGlobals "_law_span" = some (some (.ref (v_f10 K)))), (PySem.W.codeIn K (v_cd10 K) "_law_span" : Bool), (PySem.W.keepIn K (.ref (v_f10 K)) : Bool), decide (PySem.W.nsIn K mainGlobals "is_cell" = some (some (.ref (v_f11 K)))), (PySem.W.codeIn K (v_cd11 K) "is_cell" : Bool), (PySem.W.keepIn K (.ref (v_f11 K)) : Bool), decide (PySem.W.nsIn K mainGlobals "is_owned" = some (some (.ref (v_f12 K)))), (PySem.W.codeIn K (v_cd12 K) "is_owned" : Bool), (PySem.W.keepIn K (.ref (v_f12 K)) : Bool), decide (PySem.W.nsIn K mainGlobals "need_chain" = some (some (.ref (v_f13 K))))]
def ck3 (K : PySem.W.Frag) : List Bool := [(PySem.W.codeIn K (v_cd13 K) "need_chain" : Bool), (PySem.W.keepIn K (.ref (v_f13 K)) : Bool), decide (PySem.W.nsIn K mainGlobals "span_of" = some (some (.ref (v_f14 K)))), (PySem.W.codeIn K (v_cd14 K) "span_of" : Bool), (PySem.W.keepIn K (.ref (v_f14 K)) : Bool), decide (PySem.W.nsIn K mainGlobals "is_plan" = some (some (.ref (v_f15 K)))), (PySem.W.codeIn K (v_cd15 K) "is_plan" : Bool), (PySem.W.keepIn K (.ref (v_f15 K)) : Bool), decide (PySem.W.nsIn K mainGlobals "need_plan" = some (some (.ref (v_f16 K)))), (PySem.W.codeIn K (v_cd16 K) "need_plan" : Bool), (PySem.W.keepIn K (.ref (v_f16 K)) : Bool), decide (PySem.W.nsIn K mainGlobals "copied" = some (some (.ref (v_f17 K)))), (PySem.W.codeIn K (v_cd17 K) "copied" : Bool), (PySem.W.keepIn K (.ref (v_f17 K)) : Bool), decide (PySem.W.nsIn K mainGlobals "owned_by" = some (some (.ref (v_f18 K)))), (PySem.W.codeIn K (v_cd18 K) "owned_by" : Bool)]
def ck4 (K : PySem.W.Frag) : List Bool := [(PySem.W.keepIn K (.ref (v_f18 K)) : Bool), decide (PySem.W.nsIn K mainGlobals "cost_of" = some (some (.ref (v_f19 K)))), (PySem.W.codeIn K (v_cd19 K) "cost_of" : Bool), (PySem.W.keepIn K (.ref (v_f19 K)) : Bool), decide (PySem.W.nsIn K mainGlobals "cost" = some (some (.ref (v_f20 K)))), (PySem.W.codeIn K (v_cd20 K) "cost" : Bool), (PySem.W.keepIn K (.ref (v_f20 K)) : Bool), decide (PySem.W.findIn K (.ref (v_C0 K)) "merged" = some (some (.ref (v_f21 K)))), (PySem.W.isFn K (.ref (v_f21 K)) : Bool), (PySem.W.codeIn K (v_cd21 K) "Work.merged" : Bool), (PySem.W.keepIn K (.ref (v_f21 K)) : Bool), decide (PySem.W.findIn K (.ref (v_C0 K)) "__init__" = some (some (.ref (v_f22 K)))), (PySem.W.isFn K (.ref (v_f22 K)) : Bool), (PySem.W.makesIn K (v_C0 K) : Bool), (PySem.W.keepIn K (.ref (v_C0 K)) : Bool), (PySem.W.codeIn K (v_cd22 K) "Work.__init__" : Bool)]
def ck5 (K : PySem.W.Frag) : List Bool := [(PySem.W.keepIn K (.ref (v_f22 K)) : Bool), decide (PySem.W.nsIn K mainGlobals "cells_of" = some (some (.ref (v_f23 K)))), (PySem.W.codeIn K (v_cd23 K) "cells_of" : Bool), (PySem.W.keepIn K (.ref (v_f23 K)) : Bool), decide (PySem.W.nsIn K mainGlobals "deeds_for" = some (some (.ref (v_f24 K)))), (PySem.W.codeIn K (v_cd24 K) "deeds_for" : Bool), (PySem.W.keepIn K (.ref (v_f24 K)) : Bool), decide (PySem.W.nsIn K mainGlobals "_law_refusal" = some (some (.ref (v_f25 K)))), (PySem.W.codeIn K (v_cd25 K) "_law_refusal" : Bool), (PySem.W.keepIn K (.ref (v_f25 K)) : Bool), decide (PySem.W.nsIn K mainGlobals "cheapest" = some (some (.ref (v_f26 K)))), (PySem.W.codeIn K (v_cd26 K) "cheapest" : Bool), (PySem.W.keepIn K (.ref (v_f26 K)) : Bool), decide (PySem.W.nsIn K mainGlobals "_law_all_right" = some (some (.ref (v_f27 K)))), decide ((fdD K (v_f27 K)).code = .ref (v_ca27 K)), (PySem.W.codeIn K (.ref (v_ca27 K)) "_law_all_right" : Bool)]
def ck6 (K : PySem.W.Frag) : List Bool := [(PySem.W.keepIn K (.ref (v_f27 K)) : Bool), decide (kndD K (v_ca27 K) = 2), decide ((v_vs27 K)[11]? = some (.ref (v_P27 K))), (PySem.W.codeHdIn K (v_ca27 K) (v_P27 K) : Bool), (K.lookup (v_P27 K)).isNone, decide (PySem.W.nsIn K mainGlobals "_law_odd" = some (some (.ref (v_f28 K)))), (PySem.W.codeIn K (v_cd28 K) "_law_odd" : Bool), (PySem.W.keepIn K (.ref (v_f28 K)) : Bool), decide (PySem.W.nsIn K mainGlobals "_law_bent" = some (some (.ref (v_f29 K)))), (PySem.W.codeIn K (v_cd29 K) "_law_bent" : Bool), (PySem.W.keepIn K (.ref (v_f29 K)) : Bool), decide (PySem.W.nsIn K mainGlobals "law" = some (some (.ref (v_f30 K)))), (PySem.W.codeIn K (v_cd30 K) "law" : Bool), (PySem.W.keepIn K (.ref (v_f30 K)) : Bool), decide (PySem.W.nsIn K mainGlobals "MOST_LAYERS" = some (some (.int 8 (v_t_MOST_LAYERS K)))), decide (PySem.W.nsIn K mainGlobals "KINDS" = some (some (.ref (v_p_KINDS K))))]
def ck7 (K : PySem.W.Frag) : List Bool := [decide (kndD K (v_p_KINDS K) = 3), decide ((objD K (v_p_KINDS K)).cls = .type "tuple"), decide ((seqD K (v_p_KINDS K)).toList = [.str "down" (v_t_KINDS0 K), .str "up" (v_t_KINDS1 K)]), decide (PySem.W.nsIn K mainGlobals "abs" = some none), decide (PySem.W.nsIn K mainGlobals "int" = some none), decide (PySem.W.nsIn K mainGlobals "len" = some none), decide (PySem.W.nsIn K mainGlobals "tuple" = some none), decide (PySem.W.nsIn K mainGlobals "range" = some none), decide (PySem.W.nsIn K mainGlobals "isinstance" = some none), decide (PySem.W.nsIn K mainGlobals "bool" = some none), decide (PySem.W.nsIn K mainGlobals "list" = some none), decide (PySem.W.nsIn K mainGlobals "sorted" = some none), decide (PySem.W.nsIn K mainGlobals "set" = some none), decide (PySem.W.nsIn K mainGlobals "max" = some none), decide (PySem.W.nsIn K mainGlobals "str" = some none), decide (PySem.W.nsIn K mainGlobals "all" = some none)]
def ck8 (K : PySem.W.Frag) : List Bool := [decide (PySem.W.nsIn K mainGlobals "enumerate" = some none), decide (PySem.W.nsIn K mainGlobals "ValueError" = some none), decide (PySem.W.nsIn K mainGlobals "min" = some none), decide (PySem.W.nsIn K mainGlobals "repr" = some none), ((([((v_P27 K), ("_law_all_right" : Str) ++ (".<locals>." : Str) ++ ("<lambda>" : Str))] : List (Addr × Str)).all fun p => decide (p.1 = (v_P27 K) → p.2 = ("_law_all_right" : Str) ++ (".<locals>." : Str) ++ ("<lambda>" : Str))) : Bool), decide (PySem.W.nsIn K mainGlobals "_law_caught" = some (some (.ref (v_fg0 K)))), (PySem.W.codeIn K (v_cdg0 K) "_law_caught" : Bool), (PySem.W.keepIn K (.ref (v_fg0 K)) : Bool), decide (PySem.W.exmOne K (.ref (v_C1 K)) (.ref (v_C1 K)) = some true), decide (PySem.W.exmOne K (.ref (v_C2 K)) (.ref (v_C1 K)) = some true), decide (PySem.W.exmOne K (.ref (v_C3 K)) (.ref (v_C1 K)) = some true), decide (PySem.W.exmOne K (.ref (v_C4 K)) (.ref (v_C1 K)) = some true), decide (PySem.W.exmOne K (.ref (v_C5 K)) (.ref (v_C1 K)) = some true), decide (PySem.W.exmOne K (.ref (v_C6 K)) (.ref (v_C1 K)) = some true), decide (PySem.W.exmOne K (.ref (v_C7 K)) (.ref (v_C1 K)) = some true), (excB K (v_C1 K) : Bool)]
def ck9 (K : PySem.W.Frag) : List Bool := [(excB K (v_C2 K) : Bool), (excB K (v_C3 K) : Bool), (excB K (v_C4 K) : Bool), (excB K (v_C5 K) : Bool), (excB K (v_C6 K) : Bool), (excB K (v_C7 K) : Bool), (([4].all fun c => decide (PySem.W.findIn K (.ref ((⟨fun n => [(v_C0 K), (v_C1 K), (v_C2 K), (v_C3 K), (v_C4 K), (v_C5 K), (v_C6 K), (v_C7 K)].getD n 0, [((v_P27 K), ("_law_all_right" : Str) ++ (".<locals>." : Str) ++ ("<lambda>" : Str))], w00⟩ : CAs) c)) "field" = some none)) : Bool), (([3].all fun c => decide (PySem.W.findIn K (.ref ((⟨fun n => [(v_C0 K), (v_C1 K), (v_C2 K), (v_C3 K), (v_C4 K), (v_C5 K), (v_C6 K), (v_C7 K)].getD n 0, [((v_P27 K), ("_law_all_right" : Str) ++ (".<locals>." : Str) ++ ("<lambda>" : Str))], w00⟩ : CAs) c)) "number" = some none)) : Bool), (([2].all fun c => decide (PySem.W.findIn K (.ref ((⟨fun n => [(v_C0 K), (v_C1 K), (v_C2 K), (v_C3 K), (v_C4 K), (v_C5 K), (v_C6 K), (v_C7 K)].getD n 0, [((v_P27 K), ("_law_all_right" : Str) ++ (".<locals>." : Str) ++ ("<lambda>" : Str))], w00⟩ : CAs) c)) "at" = some none)) : Bool), (PySem.W.excIn K (v_C5 K) veBm "ValueError.__new__" : Bool), (PySem.W.excIn K (v_C6 K) veBm "ValueError.__new__" : Bool), (clsB K (v_C0 K) : Bool), (noB K (v_C0 K) ["line", "cells_there", "begun_jobs"] : Bool), (ktChk K (⟨fun n => [(v_C0 K), (v_C1 K), (v_C2 K), (v_C3 K), (v_C4 K), (v_C5 K), (v_C6 K), (v_C7 K)].getD n 0, [((v_P27 K), ("_law_all_right" : Str) ++ (".<locals>." : Str) ++ ("<lambda>" : Str))], w00⟩ : CAs) [[.o 0], [.o 1, .b "ValueError"], [.o 2, .o 1, .b "ValueError"], [.o 3, .o 1, .b "ValueError"], [.o 4, .o 1, .b "ValueError"], [.o 5, .o 1, .b "ValueError"], [.o 6, .o 1, .b "ValueError"], [.o 7, .o 1, .b "ValueError"]] ("ValueError" :: tys) : Bool)]
def fo0 (K : PySem.W.Frag) : List FnV := [fnO K (v_f0 K), fnO K (v_f1 K), fnO K (v_f2 K), fnO K (v_f3 K), fnO K (v_f4 K), fnO K (v_f5 K), fnO K (v_f6 K), fnO K (v_f7 K), fnO K (v_f8 K), fnO K (v_f9 K), fnO K (v_f10 K), fnO K (v_f11 K), fnO K (v_f12 K), fnO K (v_f13 K), fnO K (v_f14 K), fnO K (v_f15 K)]
def fe0 : List FnV := [fnE "_law_begun" "_law_begun" s__law_begun, fnE "_law_mixed" "_law_mixed" s__law_mixed, fnE "_law_take" "_law_take" s__law_take, fnE "_law_pick" "_law_pick" s__law_pick, fnE "_law_owned" "_law_owned" s__law_owned, fnE "_law_chain" "_law_chain" s__law_chain, fnE "_law_plan" "_law_plan" s__law_plan, fnE "_law_is_cell" "_law_is_cell" s__law_is_cell, fnE "_law_is_chain" "_law_is_chain" s__law_is_chain, fnE "_law_is_great" "_law_is_great" s__law_is_great, fnE "_law_span" "_law_span" s__law_span, fnE "is_cell" "is_cell" s_is_cell, fnE "is_owned" "is_owned" s_is_owned, fnE "need_chain" "need_chain" s_need_chain, fnE "span_of" "span_of" s_span_of, fnE "is_plan" "is_plan" s_is_plan]
def fo1 (K : PySem.W.Frag) : List FnV := [fnO K (v_f16 K), fnO K (v_f17 K), fnO K (v_f18 K), fnO K (v_f19 K), fnO K (v_f20 K), fnO K (v_f21 K), fnO K (v_f22 K), fnO K (v_f23 K), fnO K (v_f24 K), fnO K (v_f25 K), fnO K (v_f26 K), fnO K (v_f27 K), fnO K (v_f28 K), fnO K (v_f29 K), fnO K (v_f30 K), fnO K (v_fg0 K)]
def fe1 : List FnV := [fnE "need_plan" "need_plan" s_need_plan, fnE "copied" "copied" s_copied, fnE "owned_by" "owned_by" s_owned_by, fnE "cost_of" "cost_of" s_cost_of, fnE "cost" "cost" s_cost, fnE "merged" "Work.merged" s_Work_merged, fnE "__init__" "Work.__init__" s_Work_init, fnE "cells_of" "cells_of" s_cells_of, fnE "deeds_for" "deeds_for" s_deeds_for, fnE "_law_refusal" "_law_refusal" s__law_refusal, fnE "cheapest" "cheapest" s_cheapest, fnE "_law_all_right" "_law_all_right" s__law_all_right, fnE "_law_odd" "_law_odd" s__law_odd, fnE "_law_bent" "_law_bent" s__law_bent, fnE "law" "law" s_law, fnE "_law_caught" "_law_caught" s__law_caught]
def specA : SpecX where
  ck := fun K => [(ck0 K).all id, (ck1 K).all id, (ck2 K).all id, (ck3 K).all id, (ck4 K).all id].all id
  fn := fun K => fo0 K ++ (fo1 K)
  fe := fe0 ++ (fe1)
  en := fun K => []
  ee := fun P => []
  tb := fun K => []
def specB : SpecX where
  ck := fun K => [(ck5 K).all id, (ck6 K).all id, (ck7 K).all id, (ck8 K).all id, (ck9 K).all id].all id
  fn := fun K => []
  fe := []
  en := fun K => []
  ee := fun P => []
  tb := fun K => [(v_P27 K)]
def nm0 : List PySem.Str := ["MergeError", "BadBook", "BadDeed", "BadNumber", "BadChain", "BadPlan", "BadText", "MOST_LAYERS", "KINDS", "is_cell"]
def nm1 : List PySem.Str := ["is_owned", "need_chain", "owned_by", "copied", "span_of", "is_plan", "need_plan", "cost_of", "cost", "cheapest"]
def nm2 : List PySem.Str := ["cells_of", "Work", "deeds_for", "_law_begun", "_law_mixed", "_law_take", "_law_pick", "_law_odd", "_law_owned", "_law_chain"]
def nm3 : List PySem.Str := ["_law_plan", "_law_is_cell", "_law_is_chain", "_law_span", "_law_caught", "_law_refusal", "_law_bent", "_law_is_great", "_law_all_right"]
def names : List PySem.Str := nm0 ++ nm1 ++ nm2 ++ nm3
abbrev RW : PySem.W.OpenRow := PySem.W.OpenLaw.row PySem.Challenge.rw_whilemerged_k60_chains_and_plans_judged
abbrev qv : Program := PySem.W.view RW.prog [42]
abbrev hkX : PySem.W.Hook := hook2 specA specB 20000
def obA (s : PySem.W.SharedT) : AlX := specA.obsB 20000 (HandSHeadRun.getT s)
def obB (s : PySem.W.SharedT) : AlX := specB.obsB 20000 (HandSHeadRun.getT s)
def ob (s : PySem.W.SharedT) : AlX × AlX := (obA s, obB s)
theorem ob_eq (s : PySem.W.SharedT) : ob s = hkX.obs s.abs := obs2_eq (HandSHeadRun.getT_eq s)
set_option maxHeartbeats 0 in
theorem runA_false (w : World) : HandSHeadRun.RunEq RW qv (hookB specA 20000) obA 20000 names (w.withFollow "special-get-raises" false) := by intro os; kernel_rfl
set_option maxHeartbeats 0 in
theorem runA_true (w : World) : HandSHeadRun.RunEq RW qv (hookB specA 20000) obA 20000 names (w.withFollow "special-get-raises" true) := by intro os; kernel_rfl
set_option maxHeartbeats 0 in
theorem runB_false (w : World) : HandSHeadRun.RunEq RW qv (hookB specB 20000) obB 20000 names (w.withFollow "special-get-raises" false) := by intro os; kernel_rfl
set_option maxHeartbeats 0 in
theorem runB_true (w : World) : HandSHeadRun.RunEq RW qv (hookB specB 20000) obB 20000 names (w.withFollow "special-get-raises" true) := by intro os; kernel_rfl
theorem run (w : World) : HandSHeadRun.RunEq RW qv hkX ob 20000 names w := PySem.W.byRow2 "special-get-raises" (P := fun w => HandSHeadRun.RunEq RW qv hkX ob 20000 names w) (fun w => run2 (runA_false w) (runB_false w)) (fun w => run2 (runA_true w) (runB_true w)) w
end W_whilemerged_k60_chains_and_plans_judged
namespace CM
open PySem PySem.Spec PyProof.Rows L2
def CH.new (h : CH) (o : MO) : CH := ⟨h.nx + 1, fun j => if j = h.nx then some o else h.ob j⟩
def CH.put (h : CH) (k : Nat) (o : MO) : CH := ⟨h.nx, fun j => if j = k then some o else h.ob j⟩
def CH.del (h : CH) (k : Nat) : CH := ⟨h.nx, fun j => if j = k then none else h.ob j⟩
def CH.emp : CH := ⟨0, fun _ => none⟩
def R.bind {α β : Type} (r : R α) (f : α → CH → R β) : R β := match r with
  | .ok a h => f a h
  | .ex c fs h => .ex c fs h
  | .no => .no
theorem ndict_nt {w : World} {a : Addr} {xs : List (NestedKey × Addr × Value)} : NTab (NDict w a xs) := fun c q e => by
  have e2 := congrFun (HO.ext.inj e) ⟨Array.replicate (a + 1) { cls := .type "dict", data := .dict (xs.map fun x => (⟨x.1.hash w, .ref x.2.1, x.2.2⟩ : DictEntry)).toArray 0 }, {}⟩
  have g : ∀ b ob, Heap.get? ⟨Array.replicate (a + 1) { cls := .type "dict", data := .dict (xs.map fun x => (⟨x.1.hash w, .ref x.2.1, x.2.2⟩ : DictEntry)).toArray 0 }, {}⟩ b = some ob → ob = { cls := .type "dict", data := .dict (xs.map fun x => (⟨x.1.hash w, .ref x.2.1, x.2.2⟩ : DictEntry)).toArray 0 } := fun b ob hb => by
    unfold Heap.get? at hb
    simp only [Array.getElem?_replicate] at hb
    split at hb <;> simp_all
  obtain ⟨oc, vs, t, h1, h2, _⟩ := e2.mp ⟨_, _, 0, by
    unfold Heap.get?
    simp only [Array.getElem?_replicate]
    rw [if_pos (Nat.lt_succ_self a)], ⟨rfl, rfl, rfl⟩, rfl, by simp⟩
  rw [g c oc h1] at h2
  cases h2
theorem core_ext {o : HO} {φ : Heap → Prop} (h : core o = .ext φ) : o = .ext φ := by
  cases o with
  | frz ob u => cases u <;> simp [core] at h
  | _ => first | exact h | simp [core] at h
theorem core_lst {o : HO} {xs : List V} (h : core o = .lst xs) : o = .lst xs := by
  cases o with
  | frz ob u => cases u <;> simp [core] at h
  | _ => first | exact h | simp [core] at h
theorem core_tup {o : HO} {xs : List V} (h : core o = .tup xs) : o = .tup xs := by
  cases o with
  | frz ob u => cases u <;> simp [core] at h
  | _ => first | exact h | simp [core] at h
theorem core_ins {o : HO} {c d : Addr} {fs : List (Str × V)} (h : core o = .ins c d fs) : o = .ins c d fs := by
  cases o with
  | frz ob u => cases u <;> simp [core] at h
  | _ => first | exact h | simp [core] at h
theorem core_xd {o : HO} {fs : List (Str × V)} (h : core o = .xd fs) : o = .xd fs := by
  cases o with
  | frz ob u => cases u <;> simp [core] at h
  | _ => first | exact h | simp [core] at h
theorem core_dK {o : HO} {kvs : List (Key × V)} (h : core o = .dK kvs) : o = .dK kvs ∨ ∃ ob, o = .frz ob (.dK kvs) := by
  cases o with
  | frz ob u => cases u <;> simp [core] at h <;> (subst h; exact .inr ⟨ob, rfl⟩)
  | dK k => simp [core] at h; exact .inl (by rw [h])
  | _ => simp [core] at h
theorem core_frzL {o : HO} {ob : Obj} {xs : List V} (h : core o = .frz ob (.lst xs)) : o = .frz ob (.lst xs) := by
  cases o with
  | frz ob' u => cases u <;> first | (simp [core] at h; done) | (simp only [core] at h; exact h)
  | _ => first | exact h | simp [core] at h
theorem Lk.core {o o' : HO} (l : Lk o o') : core o' = core o := by
  rcases l with rfl | ⟨ob, kvs, rfl, rfl⟩ | ⟨ps, qs, rfl, rfl⟩ <;> rfl
theorem core_nt {o : HO} {kvs : List (Key × V)} (h : core o = .dK kvs) : NoTb o := by
  rcases core_dK h with rfl | ⟨ob, rfl⟩ <;> trivial
section
variable (K : PySem.W.Frag) (CA : CAs) (m : Mp) (h : CH) (H : Hp)
end
theorem Stp.mk' {m m' : Mp} {h h' : CH} {H H' : Hp} (x : Mv m h H m' h' H') (lk : ∀ k o, k < h.nx → h.ob k = some o → Lckd o → h'.ob k = some o ∧ H' (m k) = H (m k)) (z : m'.z = m.z) (zk : ∀ a, a ∈ m.z → H' a = H a) : Stp m h H m' h' H' := ⟨⟨x, lk⟩, z, zk⟩
theorem Stp.refl {m : Mp} {h : CH} {H : Hp} : Stp m h H m h H := .mk' ⟨Nat.le_refl _, fun _ _ => rfl, fun _ o n e _ => ⟨n, o, e, .inl rfl⟩⟩ (fun _ _ _ e _ => ⟨e, rfl⟩) rfl fun _ _ => rfl
theorem Stp.sc {p : Addr} {m m' : Mp} {h h' : CH} {H H' : Hp} (s : Stp m h H m' h' H') : Sc p m h H m' h' H' := ⟨s.toSz, s.z, fun a l _ => s.zk a l⟩
section
variable {K : PySem.W.Frag} {CA : CAs} {m m' : Mp} {h h' : CH} {H H' : Hp} {v : V} {d : D} {vs : List V} {ds : List D}
theorem Rp.mv0 (snx : h.nx ≤ h'.nx) (smp : ∀ k, k < h.nx → m' k = m k) (skp : ∀ a o, ¬ Live m h a → H a = some o → NoTb o → ¬ Live m' h' a ∧ ∃ o', H' a = some o' ∧ Lk o o') : ∀ {v d}, Rp K CA m h H v d → Rp K CA m' h' H' v d := fun {v d} r => by
  refine Rp.rec (motive_1 := fun v d _ => Rp K CA m' h' H' v d) (motive_2 := fun vs ds _ => RpAll K CA m' h' H' vs ds) ?_ ?_ ?_ ?_ ?_ ?_ ?_ ?_ ?_ ?_ ?_ ?_ ?_ ?_ ?_ ?_ ?_ r
  · exact .non
  · exact .bl
  · exact .int
  · exact .str
  · intro a xs ds n e _ ih
    obtain ⟨n', o', e', c⟩ := skp a _ n e trivial
    replace c := c.core
    exact .lst n' (by rw [e', core_lst c]) ih
  · intro a xs ds n e _ ih
    obtain ⟨n', o', e', c⟩ := skp a _ n e trivial
    replace c := c.core
    exact .tup n' (by rw [e', core_tup c]) ih
  · intro a xs ds e _ ih
    exact .ktup e ih
  · intro a o kvs dks n e c en _ ih
    obtain ⟨n', o', e', c'⟩ := skp a _ n e (core_nt c)
    replace c' := c'.core
    exact .dct n' e' (c'.trans c) en ih
  · intro a c dx fs dfs n e en _ ih
    obtain ⟨n', o', e', c'⟩ := skp a _ n e trivial
    replace c' := c'.core
    exact .obj n' (by rw [e', core_ins c']) en ih
  · intro a ns o n e
    obtain ⟨n', o', e', c'⟩ := skp a _ n e trivial
    replace c' := c'.core
    exact .scr n' (by rw [e', core_frzL c'])
  · intro a ns e
    exact .kscr e
  · intro k l
    rw [← smp k l]
    exact .ref (Nat.lt_of_lt_of_le l snx)
  · exact .ty
  · exact .cls
  · intro a c dd fs dfs n e hd en _ ih
    obtain ⟨n', o', e', c'⟩ := skp a _ n e trivial
    refine .exc n' (by rw [e', core_ext c'.core]; rfl) ?_ en ih
    rcases hd with q | ⟨x, rfl, nx, ex⟩
    · exact .inl q
    · obtain ⟨nx', ox, ex', cx⟩ := skp x _ nx ex trivial
      exact .inr ⟨x, rfl, nx', by rw [ex', core_xd cx.core]⟩
  · exact .nil
  · intro v vs d ds _ _ ih1 ih2
    exact .cons ih1 ih2
theorem RpAll.mv0 (snx : h.nx ≤ h'.nx) (smp : ∀ k, k < h.nx → m' k = m k) (skp : ∀ a o, ¬ Live m h a → H a = some o → NoTb o → ¬ Live m' h' a ∧ ∃ o', H' a = some o' ∧ Lk o o') : ∀ {vs ds}, RpAll K CA m h H vs ds → RpAll K CA m' h' H' vs ds := fun {vs ds} r => by
  induction vs generalizing ds with
  | nil => cases r; exact .nil
  | cons v vs ih => cases r with
    | cons h1 h2 => exact .cons (h1.mv0 snx smp skp) (ih h2)
theorem Rp.mv (s : Mv m h H m' h' H') {v d} (r : Rp K CA m h H v d) : Rp K CA m' h' H' v d := r.mv0 s.nx s.mp s.kp
theorem RpAll.mv (s : Mv m h H m' h' H') {vs ds} (r : RpAll K CA m h H vs ds) : RpAll K CA m' h' H' vs ds := r.mv0 s.nx s.mp s.kp
theorem Rp.move (s : Stp m h H m' h' H') {v d} (r : Rp K CA m h H v d) : Rp K CA m' h' H' v d := r.mv s.toMv
theorem RpAll.move (s : Stp m h H m' h' H') {vs ds} (r : RpAll K CA m h H vs ds) : RpAll K CA m' h' H' vs ds := r.mv s.toMv
theorem RpAll.append {vs' : List V} {ds' : List D} (r : RpAll K CA m h H vs ds) (r' : RpAll K CA m h H vs' ds') : RpAll K CA m h H (vs ++ vs') (ds ++ ds') := by
  induction vs generalizing ds with
  | nil => cases r; exact r'
  | cons x vs ih => cases r with
    | cons h1 h2 => exact .cons h1 (ih h2)
theorem RpAll.take (r : RpAll K CA m h H vs ds) (n : Nat) : RpAll K CA m h H (vs.take n) (ds.take n) := by
  induction vs generalizing ds n with
  | nil => cases r; simp; exact .nil
  | cons x vs ih => cases r with
    | cons h1 h2 =>
      cases n with
      | zero => exact .nil
      | succ n => exact .cons h1 (ih h2 n)
theorem RpAll.drop (r : RpAll K CA m h H vs ds) (n : Nat) : RpAll K CA m h H (vs.drop n) (ds.drop n) := by
  induction vs generalizing ds n with
  | nil => cases r; simp; exact .nil
  | cons x vs ih => cases r with
    | cons h1 h2 =>
      cases n with
      | zero => exact .cons h1 h2
      | succ n => exact ih h2 n
theorem RpAll.eraseIdx (r : RpAll K CA m h H vs ds) (n : Nat) : RpAll K CA m h H (vs.eraseIdx n) (ds.eraseIdx n) := by
  induction vs generalizing ds n with
  | nil => cases r; simp; exact .nil
  | cons x vs ih => cases r with
    | cons h1 h2 =>
      cases n with
      | zero => exact h2
      | succ n => exact .cons h1 (ih h2 n)
theorem RpAll.set (r : RpAll K CA m h H vs ds) (n : Nat) (r1 : Rp K CA m h H v d) : RpAll K CA m h H (vs.set n v) (ds.set n d) := by
  induction vs generalizing ds n with
  | nil => cases r; simp; exact .nil
  | cons x vs ih => cases r with
    | cons h1 h2 =>
      cases n with
      | zero => exact .cons r1 h2
      | succ n => exact .cons h1 (ih h2 n)
end
section
variable (K : PySem.W.Frag) (CA : CAs) (m : Mp) (h : CH) (H : Hp)
end
section
variable {K : PySem.W.Frag} {CA : CAs} {m m' : Mp} {h h' : CH} {H H' : Hp} {σ : L2.St} {ρ : DE} {v : V} {d : D} {a p : Addr} {o : MO} {k : Nat}
theorem MOk.mv (s : Mv m h H m' h' H') (e : H' a = H a) (x : MOk K CA m h H a o) : MOk K CA m' h' H' a o := by
  cases x with
  | lst q r => exact .lst (e.trans q) (r.mv s)
  | dct q en r => exact .dct (e.trans q) en (r.mv s)
  | lck q en r => exact .lck (e.trans q) en (r.mv s)
  | lkl q r => exact .lkl (e.trans q) (r.mv s)
  | obj q en r => exact .obj (e.trans q) en (r.mv s)
  | dctT q en r => exact .dctT (e.trans q) en (r.mv s)
  | dctD q z nd kk r vv r2 => exact .dctD (q.mp fun u z => e.trans z) z nd kk (r.mv s) vv (r2.mv s)
theorem MOk.move (s : Stp m h H m' h' H') (e : H' a = H a) (x : MOk K CA m h H a o) : MOk K CA m' h' H' a o := x.mv s.toMv e
theorem mok_nt (x : MOk K CA m h H a o) : ∃ u, H a = some u ∧ NTab u := by
  cases x with
  | lst q r => exact ⟨_, q, trivial⟩
  | dct q en r => exact ⟨_, q, trivial⟩
  | lck q en r => exact ⟨_, q, trivial⟩
  | lkl q r => exact ⟨_, q, trivial⟩
  | obj q en r => exact ⟨_, q, trivial⟩
  | dctT q en r => exact ⟨_, q, trivial⟩
  | dctD q z nd kk r vv r2 => exact q.elim (fun z => ⟨_, z.1, ndict_nt⟩) fun z => ⟨_, z.1, trivial⟩
theorem tabs_upd {T : List (Addr × Str)} {u w : HO} (t : LamX.Tabs T H) (e : H a = some w) (n : NTab w) : LamX.Tabs T (upd H a u) := fun p hp => by
  obtain ⟨ps, h1, h2, h3⟩ := t p hp
  refine ⟨ps, by rw [upd_ne (fun z => by rw [z, e] at h1; cases h1; exact n)]; exact h1, h2, fun pos cv hc => ?_⟩
  obtain ⟨c, e1, e2⟩ := h3 pos cv hc
  refine ⟨c, e1, ?_⟩
  rw [upd_ne (fun z => by
    rw [z, e] at e2
    rw [Option.some.inj e2] at n
    exact n _ _ rfl)]
  exact e2
theorem tabs_grow {T : List (Addr × Str)} {H1 : Hp} (t : LamX.Tabs T H) (k : ∀ a u, H a = some u → H1 a = some u) : LamX.Tabs T H1 := t.ext k
theorem tabs_laid {T : List (Addr × Str)} {u : HO} (t : LamX.Tabs T H) (n : H p = none) : LamX.Tabs T (upd H p u) := t.ext fun a w e => by rw [upd_ne (ne_of_none e n)]; exact e
theorem HR.live (S : HR K CA m h H) (l : Live m h a) : ∃ u, H a = some u := by
  rcases l with ⟨k, o, e, rfl⟩ | l
  · exact (S.ob k o e).2.some
  · obtain ⟨u, q, _⟩ := S.zh a l
    exact ⟨u, q⟩
theorem HR.fresh (S : HR K CA m h H) (n : H p = none) : ¬ Live m h p := fun l => by
  obtain ⟨u, e⟩ := S.live l
  rw [n] at e; cases e
theorem SO.move (S : SO K CA m h H σ ρ) (s : Stp m h H m' h' H') (r : HR K CA m' h' H') : SO K CA m' h' H' σ ρ :=
  ⟨r, S.len, fun i d e => let ⟨v, e1, q⟩ := S.sl i d e; ⟨v, e1, q.move s⟩⟩
theorem XR.move {cls : Value} {dd : Option Addr} {c : Nat} {fs : List (Str × D)} (x : XR K CA m h H cls dd c fs) (s : Stp m h H m' h' H') : XR K CA m' h' H' cls dd c fs := by
  obtain ⟨x1, x2⟩ := x
  refine ⟨x1, x2.imp id ?_⟩
  rintro ⟨y, hf, e1, e2, e3, e4, e5⟩
  obtain ⟨n', o', e', c'⟩ := s.kp y _ e2 e3 trivial
  replace c' := c'.core
  exact ⟨y, hf, e1, n', by rw [e', core_xd c'], e4, e5.move s⟩
theorem stp_laid (S : HR K CA m h H) {u : HO} (n : H p = none) : Stp m h H m h (upd H p u) :=
  .mk' ⟨Nat.le_refl _, fun _ _ => rfl, fun b x l e _ => ⟨l, x, by rw [upd_ne (ne_of_none e n)]; exact e, .inl rfl⟩⟩ (fun k kvs _ e _ => ⟨e, by
    obtain ⟨u, q⟩ := (S.ob k _ e).2.some
    exact upd_ne (ne_of_none q n)⟩) rfl fun a l => by
    obtain ⟨u, q, _⟩ := S.zh a l
    exact upd_ne (ne_of_none q n)
theorem stp_grow {H1 : Hp} (S : HR K CA m h H) (k : ∀ a u, H a = some u → H1 a = some u) : Stp m h H m h H1 :=
  .mk' ⟨Nat.le_refl _, fun _ _ => rfl, fun b x l e _ => ⟨l, x, k b x e, .inl rfl⟩⟩ (fun j kvs _ e _ => ⟨e, by
    obtain ⟨u, q⟩ := (S.ob j _ e).2.some
    rw [q]; exact k _ _ q⟩) rfl fun a l => by
    obtain ⟨u, q, _⟩ := S.zh a l
    rw [q]; exact k _ _ q
theorem HR.grow {H1 : Hp} (S : HR K CA m h H) (k : ∀ a u, H a = some u → H1 a = some u) : HR K CA m h H1 :=
  ⟨fun j o e => ⟨(S.ob j o e).1, (S.ob j o e).2.move (stp_grow S k) (by
    obtain ⟨x, q⟩ := (S.ob j o e).2.some
    rw [q]; exact k _ _ q)⟩, S.inj, S.zn, fun a l => by
    obtain ⟨w, q, nt⟩ := S.zh a l
    exact ⟨w, k a w q, nt⟩, tabs_grow S.tb k⟩
theorem HR.laid (S : HR K CA m h H) {u : HO} (n : H p = none) : HR K CA m h (upd H p u) :=
  ⟨fun k o e => ⟨(S.ob k o e).1, (S.ob k o e).2.move (stp_laid S n) (by
    obtain ⟨x, q⟩ := (S.ob k o e).2.some
    exact upd_ne (ne_of_none q n))⟩, S.inj, S.zn, fun a l => by
    obtain ⟨w, q, nt⟩ := S.zh a l
    exact ⟨w, by rw [upd_ne (ne_of_none q n)]; exact q, nt⟩, tabs_laid S.tb n⟩
def mpNew (m : Mp) (h : CH) (p : Addr) : Mp := ⟨fun j => if j = h.nx then p else m j, m.z⟩
theorem mpNew_nx : mpNew m h p h.nx = p := if_pos rfl
theorem mpNew_lt (l : k < h.nx) : mpNew m h p k = m k := if_neg (Nat.ne_of_lt l)
theorem live_new (S : HR K CA m h H) {o : MO} (l : Live (mpNew m h p) (h.new o) a) : a = p ∨ Live m h a := by
  rcases l with ⟨k, u, e, rfl⟩ | l
  · unfold CH.new at e
    by_cases q : k = h.nx
    · subst q; exact .inl mpNew_nx
    · simp only [if_neg q] at e
      exact .inr (.inl ⟨k, u, e, (mpNew_lt (S.ob k u e).1).symm⟩)
  · exact .inr (.inr l)
theorem stp_new (S : HR K CA m h H) {o : MO} {H1 : Hp} (n : H p = none) (k : ∀ a u, H a = some u → H1 a = some u) : Stp m h H (mpNew m h p) (h.new o) H1 :=
  .mk' ⟨Nat.le_succ _, fun k l => mpNew_lt l, fun b x l e _ => ⟨fun z => by
    rcases live_new S z with rfl | z
    · rw [n] at e; cases e
    · exact l z, x, k b x e, .inl rfl⟩⟩ (fun j kvs l e _ => ⟨by
    unfold CH.new
    simp only [if_neg (Nat.ne_of_lt l)]
    exact e, by
    obtain ⟨u, q⟩ := (S.ob j _ e).2.some
    rw [q]; exact k _ _ q⟩) rfl fun a l => by
    obtain ⟨u, q, _⟩ := S.zh a l
    rw [q]; exact k _ _ q
theorem HR.new (S : HR K CA m h H) {o : MO} {H1 : Hp} (n : H p = none) (k : ∀ a u, H a = some u → H1 a = some u) (x : MOk K CA (mpNew m h p) (h.new o) H1 p o) : HR K CA (mpNew m h p) (h.new o) H1 := by
  have key : ∀ j u, (h.new o).ob j = some u → (j = h.nx ∧ u = o) ∨ (j < h.nx ∧ h.ob j = some u) := fun j u e => by
    unfold CH.new at e
    by_cases q : j = h.nx
    · simp only [if_pos q] at e; cases e; exact .inl ⟨q, rfl⟩
    · simp only [if_neg q] at e
      exact .inr ⟨(S.ob j u e).1, e⟩
  have off : ∀ j u, h.ob j = some u → m j ≠ p := fun j u e z => S.fresh n (.inl ⟨j, u, e, z⟩)
  refine ⟨fun j u e => ?_, fun i j u w e1 e2 e3 => ?_, fun j u e => ?_, fun a l => ?_, tabs_grow S.tb k⟩
  · rcases key j u e with ⟨rfl, rfl⟩ | ⟨l, q⟩
    · exact ⟨Nat.lt_succ_self _, by rw [mpNew_nx]; exact x⟩
    · refine ⟨Nat.lt_succ_of_lt l, ?_⟩
      rw [mpNew_lt l]
      obtain ⟨y, z⟩ := (S.ob j u q).2.some
      exact (S.ob j u q).2.move (stp_new S n k) (by rw [z]; exact k _ _ z)
  · rcases key i u e1 with ⟨rfl, rfl⟩ | ⟨l1, q1⟩
    · rcases key j w e2 with ⟨rfl, rfl⟩ | ⟨l2, q2⟩
      · rfl
      · rw [mpNew_nx, mpNew_lt l2] at e3
        exact absurd e3.symm (off j w q2)
    · rcases key j w e2 with ⟨rfl, rfl⟩ | ⟨l2, q2⟩
      · rw [mpNew_nx, mpNew_lt l1] at e3
        exact absurd e3 (off i u q1)
      · rw [mpNew_lt l1, mpNew_lt l2] at e3
        exact S.inj i j u w q1 q2 e3
  · rcases key j u e with ⟨rfl, rfl⟩ | ⟨l, q⟩
    · rw [mpNew_nx]; exact fun z => S.fresh n (.inr z)
    · rw [mpNew_lt l]; exact S.zn j u q
  · obtain ⟨w, q, nt⟩ := S.zh a l
    exact ⟨w, k a w q, nt⟩
theorem upd_new {u : HO} (n : H p = none) : ∀ a w, H a = some w → upd H p u a = some w := fun a w e => by
  rw [upd_ne (ne_of_none e n)]; exact e
theorem live_put {o' : MO} (e : h.ob k = some o) : Live m (h.put k o') a ↔ Live m h a := by
  constructor
  · rintro (⟨j, u, q, rfl⟩ | q)
    · unfold CH.put at q
      by_cases z : j = k
      · subst z; exact .inl ⟨_, _, e, rfl⟩
      · simp only [if_neg z] at q; exact .inl ⟨_, _, q, rfl⟩
    · exact .inr q
  · rintro (⟨j, u, q, rfl⟩ | q)
    · by_cases z : j = k
      · subst z; exact .inl ⟨j, o', by unfold CH.put; simp, rfl⟩
      · exact .inl ⟨j, u, by unfold CH.put; simp only [if_neg z]; exact q, rfl⟩
    · exact .inr q
theorem mv_put (e : h.ob k = some o) {o' : MO} {u : HO} : Mv m h H m (h.put k o') (upd H (m k) u) :=
  ⟨Nat.le_refl _, fun _ _ => rfl, fun b x l q _ => ⟨fun z => l ((live_put e).mp z), x, by
    rw [upd_ne (fun z => l (.inl ⟨k, o, e, z.symm⟩))]; exact q, .inl rfl⟩⟩
theorem stp_put (S : HR K CA m h H) (e : h.ob k = some o) (nl : NotLck o) {o' : MO} {u : HO} : Stp m h H m (h.put k o') (upd H (m k) u) :=
  .mk' (mv_put e) (fun j kvs l q ld => by
    have nj : j ≠ k := fun z => by subst z; rw [q] at e; cases e; exact ld nl
    exact ⟨by unfold CH.put; simp only [if_neg nj]; exact q, upd_ne fun z => nj (S.inj _ _ _ _ q e z)⟩) rfl fun a l => upd_ne fun z => S.zn k _ e (by rw [← z]; exact l)
theorem HR.put (S : HR K CA m h H) (e : h.ob k = some o) {o' : MO} {u : HO} (x : MOk K CA m (h.put k o') (upd H (m k) u) (m k) o') : HR K CA m (h.put k o') (upd H (m k) u) := by
  have key : ∀ j w, (h.put k o').ob j = some w → (j = k ∧ w = o') ∨ (j ≠ k ∧ h.ob j = some w) := fun j w q => by
    unfold CH.put at q
    by_cases z : j = k
    · simp only [if_pos z] at q; cases q; exact .inl ⟨z, rfl⟩
    · simp only [if_neg z] at q; exact .inr ⟨z, q⟩
  have back : ∀ j w, (h.put k o').ob j = some w → ∃ w', h.ob j = some w' := fun j w q => by
    rcases key j w q with ⟨rfl, _⟩ | ⟨_, q⟩
    · exact ⟨_, e⟩
    · exact ⟨_, q⟩
  obtain ⟨w0, e0, n0⟩ := mok_nt (S.ob k o e).2
  refine ⟨fun j w q => ?_, fun i j w w' e1 e2 e3 => ?_, fun j w q => ?_, fun a l => ?_, tabs_upd S.tb e0 n0⟩
  · rcases key j w q with ⟨rfl, rfl⟩ | ⟨z, q⟩
    · exact ⟨(S.ob _ _ e).1, x⟩
    · exact ⟨(S.ob _ _ q).1, (S.ob _ _ q).2.mv (mv_put e) (upd_ne fun y => z (S.inj _ _ _ _ q e y))⟩
  · obtain ⟨y, q1⟩ := back i w e1
    obtain ⟨y', q2⟩ := back j w' e2
    exact S.inj i j _ _ q1 q2 e3
  · obtain ⟨y, q1⟩ := back j w q
    exact S.zn j _ q1
  · obtain ⟨y, q, nt⟩ := S.zh a l
    exact ⟨y, by rw [upd_ne (fun z => S.zn k o e (by rw [← z]; exact l))]; exact q, nt⟩
theorem put_same {o : MO} : (h.put k o).ob k = some o := by unfold CH.put; simp
theorem put_ne {o : MO} {j : Nat} (n : j ≠ k) : (h.put k o).ob j = h.ob j := by unfold CH.put; simp only [if_neg n]
theorem upd_eq {a : Addr} {u : HO} (e : H a = some u) : upd H a u = H := by
  funext b
  by_cases z : b = a
  · subst z; rw [upd_same, e]
  · rw [upd_ne z]
theorem lockL_ok {ds : List D} (S : HR K CA m h H) (e : h.ob k = some (.lst ds)) : ∃ xs, H (m k) = some (.lst xs) ∧ RpAll K CA m h H xs ds ∧ Stp m h H m (h.put k (.lkl ds)) H ∧ HR K CA m (h.put k (.lkl ds)) H := by
  have x := (S.ob k _ e).2
  cases x with
  | @lst xs _ q r =>
    have s1 := stp_put (o' := .lkl ds) (u := .lst xs) S e trivial
    have S1 := S.put (o' := .lkl ds) (u := .lst xs) e (.lkl upd_same (r.mv (mv_put e)))
    rw [upd_eq q] at s1 S1
    exact ⟨xs, q, r, s1, S1⟩
theorem unlockL_ok {ds : List D} {m2 : Mp} {h2 : CH} {H2 : Hp} (S : HR K CA m h H) (e : h.ob k = some (.lst ds)) (s : Stp m (h.put k (.lkl ds)) H m2 h2 H2) (S2 : HR K CA m2 h2 H2) :
    h2.ob k = some (.lkl ds) ∧ Stp m h H m2 (h2.put k (.lst ds)) H2 ∧ HR K CA m2 (h2.put k (.lst ds)) H2 := by
  have lt := (S.ob k _ e).1
  obtain ⟨e2, q2⟩ := s.lk k _ lt put_same id
  have x := (S2.ob k _ e2).2
  cases x with
  | @lkl xs _ qh r =>
    have S3 := S2.put (o' := .lst ds) (u := .lst xs) e2 (.lst upd_same (r.mv (mv_put e2)))
    rw [upd_eq qh] at S3
    refine ⟨e2, .mk' ⟨s.nx, s.mp, fun a o l qa nt => ?_⟩ (fun j kv l qj ld => ?_) s.z s.zk, S3⟩
    · obtain ⟨l2, o', q', lk⟩ := s.kp a o (fun z => l ((live_put e).mp z)) qa nt
      exact ⟨fun z => l2 ((live_put e2).mp z), o', q', lk⟩
    · have nj : j ≠ k := fun z => by subst z; rw [qj] at e; cases e; exact ld trivial
      obtain ⟨a1, a2⟩ := s.lk j kv l (by rw [put_ne nj]; exact qj) ld
      exact ⟨by rw [put_ne nj]; exact a1, a2⟩
theorem live_del (S : HR K CA m h H) (e : h.ob k = some o) : Live m (h.del k) a → Live m h a ∧ a ≠ m k := by
  rintro (⟨j, u, q, rfl⟩ | q)
  · unfold CH.del at q
    by_cases z : j = k
    · simp only [if_pos z] at q; cases q
    · simp only [if_neg z] at q
      exact ⟨.inl ⟨j, u, q, rfl⟩, fun y => z (S.inj _ _ _ _ q e y)⟩
  · exact ⟨.inr q, fun z => S.zn k o e (z ▸ q)⟩
theorem stp_del (S : HR K CA m h H) (e : h.ob k = some o) (nl : NotLck o) : Stp m h H m (h.del k) H :=
  .mk' ⟨Nat.le_refl _, fun _ _ => rfl, fun b x l q _ => ⟨fun z => l (live_del S e z).1, x, q, .inl rfl⟩⟩ (fun j kvs l q ld => by
    have nj : j ≠ k := fun z => by subst z; rw [q] at e; cases e; exact ld nl
    exact ⟨by unfold CH.del; simp only [if_neg nj]; exact q, rfl⟩) rfl fun _ _ => rfl
theorem HR.del (S : HR K CA m h H) (e : h.ob k = some o) (nl : NotLck o) : HR K CA m (h.del k) H := by
  have key : ∀ j w, (h.del k).ob j = some w → h.ob j = some w := fun j w q => by
    unfold CH.del at q
    by_cases z : j = k
    · simp only [if_pos z] at q; cases q
    · simp only [if_neg z] at q; exact q
  exact ⟨fun j w q => ⟨(S.ob j w (key j w q)).1, (S.ob j w (key j w q)).2.move (stp_del S e nl) rfl⟩, fun i j w w' e1 e2 => S.inj i j w w' (key i w e1) (key j w' e2), fun j w q => S.zn j w (key j w q), S.zh, S.tb⟩
def Mp.add (m : Mp) (p : Addr) : Mp := ⟨m.f, p :: m.z⟩
theorem Mp.add_kp {u : HO} (n : H p = none) : ∀ a o, ¬ Live m h a → H a = some o → NoTb o → ¬ Live (m.add p) h a ∧ ∃ o', upd H p u a = some o' ∧ Lk o o' := fun a o l e _ => ⟨fun z => by
    rcases z with ⟨k, w, q, rfl⟩ | z
    · exact l (.inl ⟨k, w, q, rfl⟩)
    · rcases List.mem_cons.mp z with rfl | z
      · rw [n] at e; cases e
      · exact l (.inr z), o, by rw [upd_ne (ne_of_none e n)]; exact e, .inl rfl⟩
theorem Rp.add {u : HO} (n : H p = none) {v : V} {d : D} (r : Rp K CA m h H v d) : Rp K CA (m.add p) h (upd H p u) v d := Rp.mv0 (m := m) (h := h) (H := H) (m' := m.add p) (h' := h) (H' := upd H p u) (Nat.le_refl _) (fun _ _ => rfl) (Mp.add_kp n) r
theorem RpAll.add {u : HO} (n : H p = none) {v : List V} {d : List D} (r : RpAll K CA m h H v d) : RpAll K CA (m.add p) h (upd H p u) v d := RpAll.mv0 (m := m) (h := h) (H := H) (m' := m.add p) (h' := h) (H' := upd H p u) (Nat.le_refl _) (fun _ _ => rfl) (Mp.add_kp n) r
theorem HR.add (S : HR K CA m h H) {u : HO} (n : H p = none) (nu : NTab u := by trivial) : HR K CA (m.add p) h (upd H p u) := by
  have rps : ∀ {vs : List V} {ds : List D}, RpAll K CA m h H vs ds → RpAll K CA (m.add p) h (upd H p u) vs ds := fun r => r.add n
  refine ⟨fun k o e => ⟨(S.ob k o e).1, ?_⟩, S.inj, fun k o e z => ?_, fun a l => ?_, tabs_laid S.tb n⟩
  · have ne : m k ≠ p := fun z => S.fresh n (.inl ⟨k, o, e, z⟩)
    have x := (S.ob k o e).2
    have nq : ∀ {w}, H (m k) = some w → upd H p u ((m.add p) k) = some w := fun {w} q => by
      show upd H p u (m k) = some w
      rw [upd_ne ne]; exact q
    cases x with
    | lst q r => exact .lst (nq q) (rps r)
    | dct q en r => exact .dct (nq q) en (rps r)
    | lck q en r => exact .lck (nq q) en (rps r)
    | lkl q r => exact .lkl (nq q) (rps r)
    | obj q en r => exact .obj (nq q) en (rps r)
    | dctT q en r => exact .dctT (nq q) en (rps r)
    | dctD q z nd kk r vv r2 => exact .dctD (q.imp (fun z => ⟨nq z.1, z.2⟩) fun z => ⟨nq z.1, z.2⟩) z nd kk (rps r) vv (rps r2)
  · rcases List.mem_cons.mp z with z | z
    · exact S.fresh n (.inl ⟨k, o, e, z⟩)
    · exact S.zn k o e z
  · rcases List.mem_cons.mp l with rfl | l
    · exact ⟨u, upd_same, nu⟩
    · obtain ⟨w, q, nt⟩ := S.zh a l
      exact ⟨w, by rw [upd_ne (ne_of_none q n)]; exact q, nt⟩
theorem sc_made (S : HR K CA m h H) (l : p ∈ m.z) {u : HO} : Sc p m h H m h (upd H p u) := by
  refine ⟨⟨⟨Nat.le_refl _, fun _ _ => rfl, fun b x nl q _ => ⟨nl, x, ?_, .inl rfl⟩⟩, fun k kvs _ e _ => ⟨e, upd_ne fun z => S.zn k _ e (by rw [z]; exact l)⟩⟩, rfl, fun a _ n => upd_ne n⟩
  have hb : b ≠ p := fun z => nl (.inr (by rw [z]; exact l))
  rw [upd_ne hb]; exact q
theorem sz_add (S : HR K CA m h H) {u : HO} (n : H p = none) : Sz m h H (m.add p) h (upd H p u) :=
  ⟨⟨Nat.le_refl _, fun _ _ => rfl, Mp.add_kp n⟩, fun k kvs _ e _ => ⟨e, upd_ne fun z => S.fresh n (.inl ⟨k, _, e, z⟩)⟩⟩
theorem HR.made (S : HR K CA m h H) (l : p ∈ m.z) {u : HO} (nu : NTab u := by trivial) : HR K CA m h (upd H p u) :=
  let ⟨_, e0, n0⟩ := S.zh p l
  ⟨fun k o e => ⟨(S.ob k o e).1, (S.ob k o e).2.mv (sc_made S l).toMv (upd_ne fun z => S.zn k _ e (by rw [z]; exact l))⟩, S.inj, S.zn, fun a la => by
    by_cases q : a = p
    · subst q; exact ⟨u, upd_same, nu⟩
    · obtain ⟨w, e, nt⟩ := S.zh a la
      exact ⟨w, by rw [upd_ne q]; exact e, nt⟩, tabs_upd S.tb e0 n0⟩
theorem stp_done {m2 : Mp} {h2 : CH} {H2 : Hp} (S : HR K CA m h H) {u : HO} (n : H p = none) (s : Sc p (m.add p) h (upd H p u) m2 h2 H2) : Stp m h H ⟨m2.f, m.z⟩ h2 H2 := by
  have z2 : m2.z = p :: m.z := s.z
  refine .mk' ⟨s.nx, s.mp, fun a o l e nt => ?_⟩ (fun k kvs l e ld => ?_) rfl fun a l => ?_
  · have ne : a ≠ p := ne_of_none e n
    obtain ⟨l2, o', e', k'⟩ := s.kp a o (fun z => by
      rcases z with ⟨k, w, q, rfl⟩ | z
      · exact l (.inl ⟨k, w, q, rfl⟩)
      · rcases List.mem_cons.mp z with z | z
        · exact ne z
        · exact l (.inr z)) (by rw [upd_ne ne]; exact e) nt
    refine ⟨fun z => l2 ?_, o', e', k'⟩
    rcases z with z | z
    · exact .inl z
    · exact .inr (by rw [z2]; exact List.mem_cons_of_mem _ z)
  · obtain ⟨a1, a2⟩ := s.lk k kvs l e ld
    have ne : m k ≠ p := fun z => S.fresh n (.inl ⟨k, _, e, z⟩)
    exact ⟨a1, a2.trans (upd_ne ne)⟩
  · have ne : a ≠ p := fun z => S.fresh n (.inr (by rw [← z]; exact l))
    exact (s.zk a (List.mem_cons_of_mem _ l) ne).trans (upd_ne ne)
theorem Mp.done_kp {m2 : Mp} {zs : List Addr} {h2 : CH} {H2 : Hp} (z2 : m2.z = p :: zs) : ∀ a o, ¬ Live m2 h2 a → H2 a = some o → NoTb o → ¬ Live ⟨m2.f, zs⟩ h2 a ∧ ∃ o', H2 a = some o' ∧ Lk o o' := fun a o l e _ => ⟨fun z => l (by
    rcases z with z | z
    · exact .inl z
    · exact .inr (by rw [z2]; exact List.mem_cons_of_mem _ z)), o, e, .inl rfl⟩
theorem RpAll.done {m2 : Mp} {zs : List Addr} {h2 : CH} {H2 : Hp} (z2 : m2.z = p :: zs) {vs : List V} {ds : List D} (r : RpAll K CA m2 h2 H2 vs ds) : RpAll K CA ⟨m2.f, zs⟩ h2 H2 vs ds := RpAll.mv0 (m := m2) (h := h2) (H := H2) (m' := ⟨m2.f, zs⟩) (h' := h2) (H' := H2) (Nat.le_refl _) (fun _ _ => rfl) (Mp.done_kp z2) r
theorem HR.done {m2 : Mp} {zs : List Addr} {h2 : CH} {H2 : Hp} (S : HR K CA m2 h2 H2) (z2 : m2.z = p :: zs) : HR K CA ⟨m2.f, zs⟩ h2 H2 := by
  refine ⟨fun k o e => ⟨(S.ob k o e).1, ?_⟩, S.inj, fun k o e z => S.zn k o e (by rw [z2]; exact List.mem_cons_of_mem _ z), fun a l => S.zh a (by rw [z2]; exact List.mem_cons_of_mem _ l), S.tb⟩
  have x := (S.ob k o e).2
  cases x with
  | lst q r => exact .lst q (r.done z2)
  | dct q en r => exact .dct q en (r.done z2)
  | lck q en r => exact .lck q en (r.done z2)
  | lkl q r => exact .lkl q (r.done z2)
  | obj q en r => exact .obj q en (r.done z2)
  | dctT q en r => exact .dctT q en (r.done z2)
  | dctD q z nd kk r vv r2 => exact .dctD q z nd kk (r.done z2) vv (r2.done z2)
theorem set_some {α : Type} {l : List α} {i j : Nat} {x y : α} (h : (l.set i x)[j]? = some y) : (j = i ∧ y = x) ∨ (j ≠ i ∧ l[j]? = some y) := by
  by_cases e : j = i
  · subst e
    left
    refine ⟨rfl, ?_⟩
    rw [List.getElem?_set_self' ] at h
    cases q : l[j]? with
    | none => rw [q] at h; simp at h
    | some z => rw [q] at h; simpa using h.symm
  · right
    rw [List.getElem?_set_ne (Ne.symm e)] at h
    exact ⟨e, h⟩
theorem SO.set (S : SO K CA m h H σ ρ) (i : Nat) (r : Rp K CA m h H v d) : SO K CA m h H (σ.set i (some v)) (ρ.set i (some d)) := by
  refine ⟨S.hr, by simp [S.len], fun j s e => ?_⟩
  rcases set_some e with ⟨rfl, q⟩ | ⟨n, q⟩
  · cases q
    have hj : j < ρ.length := by
      have := (List.getElem?_eq_some_iff.mp e).1
      simpa using this
    exact ⟨v, by rw [List.getElem?_set_self (by rw [S.len]; exact hj)], r⟩
  · obtain ⟨w, e1, h⟩ := S.sl j s q
    exact ⟨w, by rw [List.getElem?_set_ne (Ne.symm n)]; exact e1, h⟩
end
def R.toS {α : Type} (r : R α) (ρ : DE) (f : α → CH → RS) : RS := match r with
  | .ok a h => f a h
  | .ex c fs h => .ex ρ c fs h
  | .no => .no
section
variable (K : PySem.W.Frag) (CA : CAs) (W : WX)
abbrev RB : Mp → CH → Hp → Bool → Bool → Prop := fun _ _ _ b a => b = a
abbrev PostA := PostG K CA W (RpAll K CA)
abbrev PostT := PostG K CA W RB
def SimE (tH : TE) (t : TD) : Prop := ∀ (m : Mp) (h : CH) (H : Hp) (σ : L2.St) (ρ : DE) (Q' : VK), SO K CA m h H σ ρ → PostE K CA W m h H σ Q' (t ρ h) → tH σ H Q'
def SimT (tH : TT) (t : TB) : Prop := ∀ (m : Mp) (h : CH) (H : Hp) (σ : L2.St) (ρ : DE) (Q' : Bool → Hp → Prop), SO K CA m h H σ ρ → PostT K CA W m h H σ Q' (t ρ h) → tH σ H Q'
def SimA (tH : TA) (t : TDs) : Prop := ∀ (m : Mp) (h : CH) (H : Hp) (σ : L2.St) (ρ : DE) (Q' : List V → Hp → Prop), SO K CA m h H σ ρ → PostA K CA W m h H σ Q' (t ρ h) → tH σ H Q'
end
abbrev F1 := D → CH → R D
abbrev F2 := D → D → CH → R D
def SimR (K : PySem.W.Frag) (CA : CAs) (r : R2) (f : F2) : Prop := ∀ (W : WX) (σ : L2.St) (m : Mp) (h : CH) (H : Hp) (x y : V) (dx dy : D) (Q' : VK), HR K CA m h H → Rp K CA m h H x dx → Rp K CA m h H y dy → PostE K CA W m h H σ Q' (f dx dy h) → r x y H Q'
def SimC (K : PySem.W.Frag) (CA : CAs) (r : List V → Hp → VK → Prop) (f : FD) : Prop := ∀ (W : WX) (σ : L2.St) (m : Mp) (h : CH) (H : Hp) (xs : List V) (ds : List D) (Q' : VK), HR K CA m h H → RpAll K CA m h H xs ds → PostE K CA W m h H σ Q' (f ds h) → r xs H Q'
section
variable {K : PySem.W.Frag} {CA : CAs} {W : WX} {m m1 : Mp} {h h1 : CH} {H H1 : Hp} {σ : L2.St} {α β γ δ : Type} {RR : Mp → CH → Hp → β → α → Prop} {RR2 : Mp → CH → Hp → δ → γ → Prop} {Q1 : β → Hp → Prop} {Q2 : δ → Hp → Prop} {p : Addr} {u : HO} {d : D} {v : V} {Q' : VK}
theorem PostG.from {r : R α} (q : PostG K CA W RR m h H σ Q1 r) (s : Stp m h H m1 h1 H1) : PostG K CA W RR m1 h1 H1 σ Q1 r := by
  cases r with
  | ok a h2 => exact fun m' b H' s' => q m' b H' (s.trans s')
  | ex c fs h2 => exact fun m' cls dd H' s' => q m' cls dd H' (s.trans s')
  | no => exact q
theorem PostG.bind {r : R α} {k : α → CH → R γ} (q : PostG K CA W RR2 m h H σ Q2 (r.bind k))
    (f : ∀ a h1 m1 b H1, Stp m h H m1 h1 H1 → HR K CA m1 h1 H1 → RR m1 h1 H1 b a → PostG K CA W RR2 m1 h1 H1 σ Q2 (k a h1) → Q1 b H1) : PostG K CA W RR m h H σ Q1 r := by
  cases r with
  | ok a h1 => exact fun m1 b H1 s S rr => f a h1 m1 b H1 s S rr (q.from s)
  | ex c fs h1 => exact q
  | no => exact q
theorem PostG.here {a : α} {b : β} (q : PostG K CA W RR m h H σ Q1 (.ok a h)) (S : HR K CA m h H) (r : RR m h H b a) : Q1 b H := q m b H .refl S r
theorem PostG.laid (q : PostE K CA W m h H σ Q' (.ok d h)) (S : HR K CA m h H) (n : H p = none) (r : Rp K CA m h (upd H p u) (.ref p) d) : Q' (.ref p) (upd H p u) := q m _ _ (stp_laid S n) (S.laid n) r
theorem PostG.new {o : MO} (q : PostE K CA W m h H σ Q' (.ok (.ref h.nx) (h.new o))) (S : HR K CA m h H) (n : H p = none) (x : MOk K CA (mpNew m h p) (h.new o) (upd H p u) p o) : Q' (.ref p) (upd H p u) :=
  q (mpNew m h p) _ _ (stp_new S n (upd_new n)) (S.new n (upd_new n) x) (by
    have := Rp.ref (K := K) (CA := CA) (m := mpNew m h p) (h := h.new o) (H := upd H p u) (k := h.nx) (Nat.lt_succ_self _)
    rw [mpNew_nx] at this
    exact this)
theorem rps_laid {vs : List V} {ds : List D} (S : HR K CA m h H) (n : H p = none) (r : RpAll K CA m h H vs ds) : RpAll K CA m h (upd H p u) vs ds := r.move (stp_laid S n)
theorem rps_new {vs : List V} {ds : List D} {o : MO} (S : HR K CA m h H) (n : H p = none) (r : RpAll K CA m h H vs ds) : RpAll K CA (mpNew m h p) (h.new o) (upd H p u) vs ds := r.move (stp_new S n (upd_new n))
end
def mkL (nm : Bool) (ds : List D) (h : CH) : R D := match nm with
  | true => .ok (.ref h.nx) (h.new (.lst ds))
  | false => .ok (.lst ds) h
def mkD (nm : Bool) (ds : List (Key × D)) (h : CH) : R D := match nm with
  | true => .ok (.ref h.nx) (h.new (.dct ds))
  | false => .ok (.dct ds) h
section
variable {K : PySem.W.Frag} {CA : CAs} {W : WX} {m : Mp} {h : CH} {H : Hp} {σ : L2.St} {p : Addr} {Q' : VK}
theorem mkL_post {nm : Bool} {xs : List V} {ds : List D} (S : HR K CA m h H) (n : H p = none) (r : RpAll K CA m h H xs ds) (t : PostE K CA W m h H σ Q' (mkL nm ds h)) : Q' (.ref p) (upd H p (.lst xs)) := by
  cases nm with
  | true => exact PostG.new (show PostE K CA W m h H σ Q' (.ok (.ref h.nx) (h.new (.lst ds))) from t) S n (.lst upd_same (rps_new S n r))
  | false => exact PostG.laid (show PostE K CA W m h H σ Q' (.ok (.lst ds) h) from t) S n (.lst (S.fresh n) upd_same (rps_laid S n r))
theorem mkD_post {nm : Bool} {kvs : List (Key × V)} {dks : List (Key × D)} (S : HR K CA m h H) (n : H p = none) (en : kvs.map (·.1) = dks.map (·.1)) (r : RpAll K CA m h H (kvs.map (·.2)) (dks.map (·.2))) (t : PostE K CA W m h H σ Q' (mkD nm dks h)) : Q' (.ref p) (upd H p (.dK kvs)) := by
  cases nm with
  | true => exact PostG.new (show PostE K CA W m h H σ Q' (.ok (.ref h.nx) (h.new (.dct dks))) from t) S n (.dct upd_same en (rps_new S n r))
  | false => exact PostG.laid (show PostE K CA W m h H σ Q' (.ok (.dct dks) h) from t) S n (.dct (S.fresh n) upd_same rfl en (rps_laid S n r))
end
section
variable (X : Cx) (K : PySem.W.Frag) (CA : CAs) (W : WX)
structure WE (e : Expr) (tH : TE) (t : TD) : Prop where
  pe : PE X e tH
  sim : SimE K CA W tH t
structure WT (e : Expr) (tH : TT) (t : TB) : Prop where
  pe : PT X e tH
  sim : SimT K CA W tH t
structure WW (e : Expr) (tH : TT) (t : TB) : Prop where
  pe : PW X e tH
  sim : SimT K CA W tH t
structure WA (es : List Expr) (tH : TA) (t : TDs) : Prop where
  pe : PA X es tH
  sim : SimA K CA W tH t
end
def dVar (i : Nat) : TD := fun ρ h => match ρ[i]? with
  | some (some d) => .ok d h
  | _ => .no
def dC (d : D) : TD := fun _ h => .ok d h
def dOp (f : F2) (ta tb : TD) : TD := fun ρ h => (ta ρ h).bind fun x h => (tb ρ h).bind fun y h => f x y h
def dUn (f : F1) (ta : TD) : TD := fun ρ h => (ta ρ h).bind f
def dNil : TDs := fun _ h => .ok [] h
def dCons (ta : TD) (ts : TDs) : TDs := fun ρ h => (ta ρ h).bind fun x h => (ts ρ h).bind fun xs h => .ok (x :: xs) h
def dTup (ts : TDs) : TD := fun ρ h => (ts ρ h).bind fun xs h => if xs.length ≤ sizeLine then .ok (.tup xs) h else .no
def dLst (nm : Bool) (ts : TDs) : TD := fun ρ h => (ts ρ h).bind fun xs h => if xs.length ≤ sizeLine then mkL nm xs h else .no
def asB : D → CH → R Bool
  | .bl b, h => .ok b h
  | _, _ => .no
def dB (t : TD) : TB := fun ρ h => (t ρ h).bind asB
def dAnd (t u : TB) : TB := fun ρ h => (t ρ h).bind fun c h => if c = true then u ρ h else .ok false h
def dOr (t u : TB) : TB := fun ρ h => (t ρ h).bind fun c h => if c = true then .ok true h else u ρ h
def dNot (t : TB) : TB := fun ρ h => (t ρ h).bind fun c h => .ok (!c) h
def dAndV (ta tb : TD) : TD := fun ρ h => (ta ρ h).bind fun x h => (asB x h).bind fun c h => if c = true then tb ρ h else .ok (.bl false) h
def dOrV (ta tb : TD) : TD := fun ρ h => (ta ρ h).bind fun x h => (asB x h).bind fun c h => if c = true then .ok (.bl true) h else tb ρ h
def dNotV (ta : TD) : TD := fun ρ h => (ta ρ h).bind fun x h => (asB x h).bind fun c h => .ok (.bl (!c)) h
def dIf (t : TB) (ta tb : TD) : TD := fun ρ h => (t ρ h).bind fun c h => if c = true then ta ρ h else tb ρ h
def dCB (f : FD) (ts : TDs) : TD := fun ρ h => (ts ρ h).bind f
def dChain (f f' : F2) (ta tb tc : TD) : TD := fun ρ h => (ta ρ h).bind fun x h => (tb ρ h).bind fun y h => (f x y h).bind fun z h => (asB z h).bind fun k h =>
  if k = true then (tc ρ h).bind fun w h => f' y w h else .ok (.bl false) h
section
variable {X : Cx} {K : PySem.W.Frag} {CA : CAs} {W : WX} {e a b c : Expr} {es : List Expr} {pos : Pos} {ha hb hc : TE} {ta tb tc : TD} {hs : TA} {ts : TDs} {hA hB : TT} {tA tB : TB} {rest : List Expr}
theorem we_var {i : Nat} (h : PE X e (L2.tVar i)) : WE X K CA W e (L2.tVar i) (dVar i) := ⟨h, fun m h H σ ρ Q' S t => by
  unfold dVar at t
  split at t
  · rename_i d e1
    obtain ⟨v, e2, r⟩ := S.sl i _ e1
    exact ⟨v, e2, t.here S.hr r⟩
  · exact t.elim⟩
theorem we_int {i j} : WE X K CA W (.Constant (.int i) j pos) (L2.tC (.int i)) (dC (.int i)) := ⟨pe_int, fun m h H σ ρ Q' S t => t.here S.hr (.int i)⟩
theorem we_bl {i j} : WE X K CA W (.Constant (.bool i) j pos) (L2.tC (.bl i)) (dC (.bl i)) := ⟨pe_bl, fun m h H σ ρ Q' S t => t.here S.hr (.bl i)⟩
theorem we_non {j} : WE X K CA W (.Constant .none j pos) (L2.tC .non) (dC .non) := ⟨pe_non, fun m h H σ ρ Q' S t => t.here S.hr .non⟩
theorem we_str {x j} : WE X K CA W (.Constant (.str x) j pos) (L2.tC (.str x)) (dC (.str x)) := ⟨pe_str, fun m h H σ ρ Q' S t => t.here S.hr (.str x)⟩
theorem we_ty {n : String} (h : PE X e (L2.tC (.ty n))) : WE X K CA W e (L2.tC (.ty n)) (dC (.ty n)) := ⟨h, fun m h H σ ρ Q' S t => t.here S.hr (.ty n)⟩
theorem sim_op {r : R2} {f : F2} {tH tH' : TE} (hs : SimR K CA r f) (ha : SimE K CA W tH ta) (hb : SimE K CA W tH' tb) : SimE K CA W (L2.tOp r tH tH') (dOp f ta tb) :=
  fun m h H σ ρ Q' S t => ha m h H σ ρ _ S (t.bind fun x h1 m1 v H1 s1 S1 r1 t1 =>
    hb m1 h1 H1 σ ρ _ (S.move s1 S1) (t1.bind fun y h2 m2 w H2 s2 S2 r2 t2 => hs W σ m2 h2 H2 v w x y Q' S2 (r1.move s2) r2 t2))
theorem we_op {op : Operator} {r : R2} {f : F2} (ho : OpR X (binaryOp op) r) (s : SimR K CA r f) (xa : WE X K CA W a ha ta) (xb : WE X K CA W b hb tb) : WE X K CA W (.BinOp a op b pos) (L2.tOp r ha hb) (dOp f ta tb) :=
  ⟨pe_op ho xa.pe xb.pe, sim_op s xa.sim xb.sim⟩
theorem we_cmp {op : CmpOp} {r : R2} {f : F2} (ho : OpR X (compareOp op) r) (s : SimR K CA r f) (xa : WE X K CA W a ha ta) (xb : WE X K CA W b hb tb) (hm : behindInMarks op b = false) : WE X K CA W (.Compare a [op] [b] pos) (L2.tOp r ha hb) (dOp f ta tb) :=
  ⟨pe_cmpR ho xa.pe xb.pe hm, sim_op s xa.sim xb.sim⟩
theorem asB_inv {m : Mp} {h : CH} {H : Hp} {σ : L2.St} {x : D} {v : V} {Q : Bool → Hp → Prop} (r : Rp K CA m h H v x) (S : HR K CA m h H) (t : PostT K CA W m h H σ Q (asB x h)) : ∃ b, x = .bl b ∧ v = .bl b ∧ Q b H := by
  cases r <;> first
    | exact t.elim
    | exact ⟨_, rfl, rfl, t.here S rfl⟩
theorem sim_B {tH : TE} (h : SimE K CA W tH ta) : SimT K CA W (fun σ H Q => tH σ H fun x H' => ∃ k, x = .bl k ∧ Q k H') (dB ta) := fun m hh H σ ρ Q' S t =>
  h m hh H σ ρ _ S (t.bind fun x h1 m1 v H1 s1 S1 r1 t1 => by
    obtain ⟨b, _, e, q⟩ := asB_inv r1 S1 t1
    exact ⟨b, e, q⟩)
theorem wt_cmp {op : CmpOp} {r : R2} {f : F2} (ho : OpR X (compareOp op) r) (s : SimR K CA r f) (xa : WE X K CA W a ha ta) (xb : WE X K CA W b hb tb) (hm : behindInMarks op b = false) : WT X K CA W (.Compare a [op] [b] pos) (tTest (L2.tOp r ha hb)) (dB (dOp f ta tb)) :=
  ⟨pt_cmpR ho xa.pe xb.pe hm, sim_B (sim_op s xa.sim xb.sim)⟩
theorem wt_val (h : WE X K CA W e ha ta) (he : ∀ whole, isTrue e X.env whole = (do let v ← whole; standAt e.pos; holding [v] (truthy v)) := by intro _; rfl) : WT X K CA W e (L2.tB ha) (dB ta) := ⟨pt_val h.pe he, sim_B h.sim⟩
theorem asB_bind {α β : Type} {RR : Mp → CH → Hp → β → α → Prop} {m : Mp} {h : CH} {H : Hp} {σ : L2.St} {x : D} {v : V} {Q : β → Hp → Prop} {k : Bool → CH → R α} (r : Rp K CA m h H v x) (t : PostG K CA W RR m h H σ Q ((asB x h).bind k)) : ∃ b, x = .bl b ∧ v = .bl b ∧ PostG K CA W RR m h H σ Q (k b h) := by
  cases r <;> first
    | exact t.elim
    | exact ⟨_, rfl, rfl, t⟩
theorem sim_chain {r r' : R2} {f f' : F2} {t1 t2 t3 : TE} (hs : SimR K CA r f) (hs' : SimR K CA r' f') (ha : SimE K CA W t1 ta) (hb : SimE K CA W t2 tb) (hc : SimE K CA W t3 tc) :
    SimE K CA W (L2.tChain r r' t1 t2 t3) (dChain f f' ta tb tc) :=
  fun m h H σ ρ Q' S t => ha m h H σ ρ _ S (t.bind fun x h1 m1 v H1 s1 S1 r1 t1 =>
    hb m1 h1 H1 σ ρ _ (S.move s1 S1) (t1.bind fun y h2 m2 w H2 s2 S2 r2 t2 => hs W σ m2 h2 H2 v w x y _ S2 (r1.move s2) r2 (t2.bind fun z h3 m3 u H3 s3 S3 r3 t3 => by
      obtain ⟨k, rfl, e, t4⟩ := asB_bind r3 t3
      refine ⟨k, e, ?_⟩
      cases k with
      | true => exact hc m3 h3 H3 σ ρ _ (((S.move s1 S1).move s2 S2).move s3 S3) (t4.bind fun q h4 m4 q' H4 s4 S4 r4 t5 => hs' W σ m4 h4 H4 w q' y q Q' S4 ((r2.move s3).move s4) r4 t5)
      | false => exact t4.here S3 (.bl false))))
theorem wt_chain {op op' : CmpOp} {r r' : R2} {f f' : F2} (s : SimR K CA r f) (s' : SimR K CA r' f') (xa : WE X K CA W a ha ta) (xb : WE X K CA W b hb tb) (xc : WE X K CA W c hc tc)
    (h : PE X a ha → PE X b hb → PE X c hc → PT X (.Compare a [op, op'] [b, c] pos) (tTest (L2.tChain r r' ha hb hc))) : WT X K CA W (.Compare a [op, op'] [b, c] pos) (tTest (L2.tChain r r' ha hb hc)) (dB (dChain f f' ta tb tc)) :=
  ⟨h xa.pe xb.pe xc.pe, sim_B (sim_chain s s' xa.sim xb.sim xc.sim)⟩
theorem WW.wt (h : WW X K CA W e hA tA) : WT X K CA W e hA tA := ⟨h.pe.pt, h.sim⟩
theorem ww_or1 (h : WT X K CA W a hA tA) : WW X K CA W (.BoolOp .Or [a] pos) hA tA := ⟨pw_or1 h.pe, h.sim⟩
theorem ww_or (h : WT X K CA W a hA tA) (h' : WW X K CA W (.BoolOp .Or (b :: rest) pos) hB tB) : WW X K CA W (.BoolOp .Or (a :: b :: rest) pos) (L2.tOr hA hB) (dOr tA tB) := by
  refine ⟨pw_or h.pe h'.pe, fun m hh H σ ρ Q' S t => h.sim m hh H σ ρ _ S (t.bind fun k h1 m1 k' H1 s1 S1 r1 t1 => ?_)⟩
  cases (show k' = k from r1)
  cases k with
  | false => exact h'.sim m1 h1 H1 σ ρ Q' (S.move s1 S1) t1
  | true => exact t1.here S1 rfl
theorem wt_not (h : WT X K CA W a hA tA) : WT X K CA W (.UnaryOp .Not a pos) (L2.tNot hA) (dNot tA) :=
  ⟨pt_not h.pe, fun m hh H σ ρ Q' S t => h.sim m hh H σ ρ _ S (t.bind fun k h1 m1 k' H1 s1 S1 r1 t1 => by
    cases (show k' = k from r1)
    exact t1.here S1 rfl)⟩
theorem we_one {op} (h : WE X K CA W a ha ta) : WE X K CA W (.BoolOp op [a] pos) ha ta := ⟨pe_one h.pe, h.sim⟩
theorem we_and (h : WE X K CA W a ha ta) (h' : WE X K CA W (.BoolOp .And (b :: rest) pos) hb tb) : WE X K CA W (.BoolOp .And (a :: b :: rest) pos) (L2.tAndV ha hb) (dAndV ta tb) := by
  refine ⟨pe_and h.pe h'.pe, fun m hh H σ ρ Q' S t => h.sim m hh H σ ρ _ S (t.bind fun x h1 m1 v H1 s1 S1 r1 t1 => ?_)⟩
  obtain ⟨k, rfl, e, t2⟩ := asB_bind r1 t1
  refine ⟨k, e, ?_⟩
  cases k with
  | true => exact h'.sim m1 h1 H1 σ ρ Q' (S.move s1 S1) t2
  | false => exact t2.here S1 (.bl false)
theorem we_not (h : WE X K CA W a ha ta) : WE X K CA W (.UnaryOp .Not a pos) (L2.tNotV ha) (dNotV ta) := by
  refine ⟨pe_not h.pe, fun m hh H σ ρ Q' S t => h.sim m hh H σ ρ _ S (t.bind fun x h1 m1 v H1 s1 S1 r1 t1 => ?_)⟩
  obtain ⟨k, rfl, e, t2⟩ := asB_bind r1 t1
  exact ⟨k, e, t2.here S1 (.bl _)⟩
theorem we_ifExp (h0 : WT X K CA W c hA tA) (h : WE X K CA W a ha ta) (h' : WE X K CA W b hb tb) : WE X K CA W (.IfExp c a b pos) (L2.tIf hA ha hb) (dIf tA ta tb) := by
  refine ⟨pe_ifExp h0.pe h.pe h'.pe, fun m hh H σ ρ Q' S t => h0.sim m hh H σ ρ _ S (t.bind fun k h1 m1 k' H1 s1 S1 r1 t1 => ?_)⟩
  cases (show k' = k from r1)
  cases k with
  | true => exact h.sim m1 h1 H1 σ ρ Q' (S.move s1 S1) t1
  | false => exact h'.sim m1 h1 H1 σ ρ Q' (S.move s1 S1) t1
theorem wa_nil : WA X K CA W [] L2.tNil dNil := ⟨pa_nil, fun m h H σ ρ Q' S t => t.here S.hr .nil⟩
theorem sim_cons (h : SimE K CA W ha ta) (h' : SimA K CA W hs ts) : SimA K CA W (L2.tCons ha hs) (dCons ta ts) := fun m hh H σ ρ Q' S t =>
  h m hh H σ ρ _ S (t.bind fun x h1 m1 v H1 s1 S1 r1 t1 => h' m1 h1 H1 σ ρ _ (S.move s1 S1) (t1.bind fun xs h2 m2 vs H2 s2 S2 r2 t2 => t2.here S2 (.cons (r1.move s2) r2)))
theorem wa_cons (h : WE X K CA W e ha ta) (h' : WA X K CA W es hs ts) (hst : starEach (e :: es) X.env = (false, eval e X.env) :: starEach es X.env := by rfl) : WA X K CA W (e :: es) (L2.tCons ha hs) (dCons ta ts) :=
  ⟨pa_cons h.pe h'.pe hst, sim_cons h.sim h'.sim⟩
theorem post_ite {α β : Type} {RR : Mp → CH → Hp → β → α → Prop} {m : Mp} {h : CH} {H : Hp} {σ : L2.St} {Q : β → Hp → Prop} {c : Prop} [Decidable c] {r : R α} (t : PostG K CA W RR m h H σ Q (if c then r else .no)) : c ∧ PostG K CA W RR m h H σ Q r := by
  by_cases q : c
  · rw [if_pos q] at t; exact ⟨q, t⟩
  · rw [if_neg q] at t; exact t.elim
theorem we_tup {x1} (h : WA X K CA W es hs ts) : WE X K CA W (.Tuple es x1 pos) (L2.tTup hs) (dTup ts) := by
  refine ⟨pe_tup h.pe, fun m hh H σ ρ Q' S t => h.sim m hh H σ ρ _ S (t.bind fun xs h1 m1 vs H1 s1 S1 r1 t1 => ?_)⟩
  obtain ⟨l, t1⟩ := post_ite t1
  exact ⟨by rw [r1.length]; exact l, fun p n => t1.laid S1 n (.tup (S1.fresh n) upd_same (rps_laid S1 n r1))⟩
theorem we_lst (nm : Bool) (h : WA X K CA W es hs ts) : WE X K CA W (.List es pos) (L2.tLst hs) (dLst nm ts) := by
  refine ⟨pe_lst h.pe, fun m hh H σ ρ Q' S t => h.sim m hh H σ ρ _ S (t.bind fun xs h1 m1 vs H1 s1 S1 r1 t1 => ?_)⟩
  obtain ⟨l, t1⟩ := post_ite t1
  exact ⟨by rw [r1.length]; exact l, fun p n => mkL_post S1 n r1 t1⟩
theorem sim_CB {r : List V → Hp → VK → Prop} {f : FD} {tH : TA} (hs : SimC K CA r f) (ha : SimA K CA W tH ts) : SimE K CA W (tCB r tH) (dCB f ts) := fun m h H σ ρ Q' S t =>
  ha m h H σ ρ _ S (t.bind fun xs h1 m1 vs H1 s1 S1 r1 t1 => hs W σ m1 h1 H1 vs xs Q' S1 r1 t1)
theorem we_cb {r : List V → Hp → VK → Prop} {f : FD} (s : SimC K CA r f) (x : WA X K CA W es hs ts) (h : PA X es hs → PE X e (tCB r hs)) : WE X K CA W e (tCB r hs) (dCB f ts) := ⟨h x.pe, sim_CB s x.sim⟩
theorem we_ix {r : R2} {f : F2} (hr : IxR X r) (s : SimR K CA r f) (xa : WE X K CA W a ha ta) (xb : WE X K CA W b hb tb) (hp : PlainIx b := by exact fun _ _ => rfl) : WE X K CA W (.Subscript a b pos) (L2.tOp r ha hb) (dOp f ta tb) :=
  ⟨pe_ix hr xa.pe xb.pe hp, sim_op s xa.sim xb.sim⟩
def fz : D → CH → R D
  | .ref k, h => match h.ob k with
    | some (.lst ds) => .ok (.lst ds) (h.del k)
    | some (.dct kvs) => .ok (.dct kvs) (h.del k)
    | some (.obj c fs) => .ok (.obj c fs) (h.del k)
    | _ => .no
  | _, _ => .no
def fzI : D → CH → R D
  | .ref k, h => fz (.ref k) h
  | d, h => .ok d h
theorem fz_post {m : Mp} {h : CH} {H : Hp} {σ : L2.St} {v : V} {x : D} {Q' : VK} (S : HR K CA m h H) (r : Rp K CA m h H v x) (t : PostE K CA W m h H σ Q' (fz x h)) : Q' v H := by
  cases r with
  | @ref k l =>
    unfold fz at t
    simp only at t
    have nl : ∀ o, h.ob k = some o → ¬ Live m (h.del k) (m k) := fun o e z => (live_del S e z).2 rfl
    split at t
    · rename_i ds e
      have x := (S.ob k _ e).2
      cases x with
      | lst q r => exact t m _ H (stp_del S e trivial) (S.del e trivial) (.lst (nl _ e) q (r.move (stp_del S e trivial)))
    · rename_i ds e
      have x := (S.ob k _ e).2
      cases x with
      | dct q en r => exact t m _ H (stp_del S e trivial) (S.del e trivial) (.dct (nl _ e) q rfl en (r.move (stp_del S e trivial)))
    · rename_i c ds e
      have x := (S.ob k _ e).2
      cases x with
      | obj q en r => exact t m _ H (stp_del S e trivial) (S.del e trivial) (.obj (nl _ e) q en (r.move (stp_del S e trivial)))
    · exact t.elim
  | _ => exact t.elim
theorem fzI_post {m : Mp} {h : CH} {H : Hp} {σ : L2.St} {v : V} {x : D} {Q' : VK} (S : HR K CA m h H) (r : Rp K CA m h H v x) (t : PostE K CA W m h H σ Q' (fzI x h)) : Q' v H := by
  cases r with
  | ref l => exact fz_post S (.ref l) t
  | lst n e r => exact t.here S (.lst n e r)
  | tup n e r => exact t.here S (.tup n e r)
  | ktup e r => exact t.here S (.ktup e r)
  | dct n e c en r => exact t.here S (.dct n e c en r)
  | obj n e en r => exact t.here S (.obj n e en r)
  | scr n e => exact t.here S (.scr n e)
  | kscr e => exact t.here S (.kscr e)
  | non => exact t.here S .non
  | bl b => exact t.here S (.bl b)
  | int b => exact t.here S (.int b)
  | str b => exact t.here S (.str b)
  | ty b => exact t.here S (.ty b)
  | cls b => exact t.here S (.cls b)
  | exc n e x en r => exact t.here S (.exc n e x en r)
theorem we_fzI (h : WE X K CA W e ha ta) : WE X K CA W e ha (dUn fzI ta) := ⟨h.pe, fun m hh H σ ρ Q' S t => h.sim m hh H σ ρ Q' S (t.bind fun x h1 m1 v H1 s1 S1 r1 t1 => fzI_post S1 r1 t1)⟩
end
def lstOf (h : CH) : D → Option (List D)
  | .lst ds => some ds
  | .ref k => match h.ob k with
    | some (.lst ds) => some ds
    | some (.lkl ds) => some ds
    | _ => none
  | _ => none
def seqOf (h : CH) : D → Option (List D)
  | .lst ds => some ds
  | .tup ds => some ds
  | .ref k => match h.ob k with
    | some (.lst ds) => some ds
    | some (.lkl ds) => some ds
    | _ => none
  | _ => none
def dctOf (h : CH) : D → Option (List (Key × D))
  | .dct kvs => some kvs
  | .ref k => match h.ob k with
    | some (.dct kvs) => some kvs
    | some (.lck kvs) => some kvs
    | _ => none
  | _ => none
def flatD : D → Bool
  | .non | .bl _ | .int _ | .str _ => true
  | _ => false
def eqF : D → D → Bool
  | .non, .non => true
  | .bl a, .bl b => a == b
  | .bl a, .int j => (if a then 1 else 0) == j
  | .int i, .bl b => i == (if b then 1 else 0)
  | .int i, .int j => i == j
  | .str x, .str y => x == y
  | _, _ => false
def scalD : D → D → Bool
  | .int _, .bl _ => false
  | .bl _, .int _ => false
  | x, y => flatD x && flatD y
def toP (h : CH) : Nat → D → Option PyData
  | 0, _ => none
  | n + 1, d => match d with
    | .non => some .none
    | .bl b => some (.bool b)
    | .int i => some (.int i)
    | .str x => some (.str x)
    | .lst xs => (xs.mapM (toP h n)).map .list
    | .tup xs => (xs.mapM (toP h n)).map .tuple
    | .ref k => match h.ob k with
      | some (.lst xs) => (xs.mapM (toP h n)).map .list
      | _ => none
    | _ => none
def keyD : D → Option Key
  | .int i => some (.inl i)
  | .str x => some (.inr x)
  | _ => none
def dGet (kvs : List (Key × D)) (k : Key) : Option D := (kvs.find? fun kv => decide (kv.1 = k)).map (·.2)
def dPut (ps : List (Key × D)) (k : Key) (d : D) : List (Key × D) :=
  if (ps.any fun p => decide (p.1 = k)) = true then ps.map (fun p => if p.1 = k then (p.1, d) else p)
  else ps ++ [(k, d)]
section
variable {K : PySem.W.Frag} {CA : CAs} {m : Mp} {h : CH} {H : Hp} {v : V} {d : D}
theorem sq_emp {a : Addr} {xs : List V} (h : SqT K (fun _ => none) a xs) : SqT K H a xs := by
  rcases h with h | h
  · rcases h with h | ⟨o, h⟩ <;> cases h
  · exact .inr h
theorem sl_emp {a : Addr} {xs : List V} (h : SqL K (fun _ => none) a xs) : SqL K H a xs := by
  rcases h with h | h
  · rcases h with h | ⟨o, h⟩ <;> cases h
  · exact .inr h
theorem rp_lst (S : HR K CA m h H) {ds : List D} (r : Rp K CA m h H v d) (e : lstOf h d = some ds) : ∃ a xs, v = .ref a ∧ H a = some (.lst xs) ∧ RpAll K CA m h H xs ds := by
  cases r with
  | lst n e1 r => cases e; exact ⟨_, _, rfl, e1, r⟩
  | ref l =>
    simp only [lstOf] at e
    split at e
    · rename_i q
      cases e
      have x := (S.ob _ _ q).2
      cases x with
      | lst e1 r => exact ⟨_, _, rfl, e1, r⟩
    · rename_i q
      cases e
      have x := (S.ob _ _ q).2
      cases x with
      | lkl e1 r => exact ⟨_, _, rfl, e1, r⟩
    · cases e
  | _ => cases e
theorem rp_tup {ds : List D} (r : Rp K CA m h H v (.tup ds)) : ∃ a xs, v = .ref a ∧ SqT K H a xs ∧ RpAll K CA m h H xs ds := by
  cases r with
  | tup n e r => exact ⟨_, _, rfl, .of e, r⟩
  | ktup e r => exact ⟨_, _, rfl, sq_emp e, r⟩
theorem rp_seq (S : HR K CA m h H) {ds : List D} (r : Rp K CA m h H v d) (e : seqOf h d = some ds) : ∃ a xs, v = .ref a ∧ (SqL K H a xs ∨ SqT K H a xs) ∧ RpAll K CA m h H xs ds := by
  cases d with
  | tup es =>
    cases e
    obtain ⟨a, xs, e1, e2, r2⟩ := rp_tup r
    exact ⟨a, xs, e1, .inr e2, r2⟩
  | lst es =>
    obtain ⟨a, xs, e1, e2, r2⟩ := rp_lst S r (show lstOf h (.lst es) = some ds from e)
    exact ⟨a, xs, e1, .inl (.of e2), r2⟩
  | ref k =>
    obtain ⟨a, xs, e1, e2, r2⟩ := rp_lst S r (show lstOf h (.ref k) = some ds from e)
    exact ⟨a, xs, e1, .inl (.of e2), r2⟩
  | _ => cases e
theorem rp_dct (S : HR K CA m h H) {ds : List (Key × D)} (r : Rp K CA m h H v d) (e : dctOf h d = some ds) : ∃ a o kvs, v = .ref a ∧ H a = some o ∧ core o = .dK kvs ∧ kvs.map (·.1) = ds.map (·.1) ∧ RpAll K CA m h H (kvs.map (·.2)) (ds.map (·.2)) := by
  cases r with
  | dct n e1 c en r => cases e; exact ⟨_, _, _, rfl, e1, c, en, r⟩
  | ref l =>
    simp only [dctOf] at e
    split at e
    · rename_i q
      cases e
      have x := (S.ob _ _ q).2
      cases x with
      | dct e1 en r => exact ⟨_, _, _, rfl, e1, rfl, en, r⟩
    · rename_i q
      cases e
      have x := (S.ob _ _ q).2
      cases x with
      | lck e1 en r => exact ⟨_, _, _, rfl, e1, rfl, en, r⟩
    · cases e
  | _ => cases e
theorem dget_core {a : Addr} {o : HO} {kvs : List (Key × V)} {k : Key} (e : H a = some o) (c : core o = .dK kvs) : DGet H a (kV k) (valV kvs k) := by
  rcases core_dK c with rfl | ⟨ob, rfl⟩
  · exact .inl ⟨kvs, k, .inl e, rfl, rfl⟩
  · exact .inl ⟨kvs, k, .inr ⟨ob, e⟩, rfl, rfl⟩
theorem rp_key {y : D} {k : Key} (r : Rp K CA m h H v y) (e : keyD y = some k) : v = kV k := by
  cases r <;> first | (cases e; rfl) | cases e
theorem rp_flat (r : Rp K CA m h H v d) (f : flatD d = true) : flatV v = true := by cases r <;> first | rfl | cases f
theorem rp_flats {vs : List V} {ds : List D} (r : RpAll K CA m h H vs ds) (f : ds.all flatD = true) : vs.all flatV = true := by
  induction vs generalizing ds with
  | nil => rfl
  | cons x vs ih => cases r with
    | cons h1 h2 =>
      rw [List.all_cons, Bool.and_eq_true] at f ⊢
      exact ⟨rp_flat h1 f.1, ih h2 f.2⟩
theorem rp_eqV {y x : V} {e c : D} (r : Rp K CA m h H y e) (r' : Rp K CA m h H x c) (f : flatD e = true) (f' : flatD c = true) : eqV y x = eqF e c := by
  cases r <;> first
    | (cases f; done)
    | (cases r' <;> first | rfl | (cases f'; done))
theorem rp_inV {x : V} {c : D} {vs : List V} {ds : List D} (r : RpAll K CA m h H vs ds) (r' : Rp K CA m h H x c) (f : ds.all flatD = true) (f' : flatD c = true) : inV x vs = ds.any fun e => eqF e c := by
  unfold inV
  induction vs generalizing ds with
  | nil => cases r; rfl
  | cons y vs ih => cases r with
    | cons h1 h2 =>
      rw [List.all_cons, Bool.and_eq_true] at f
      rw [List.any_cons, List.any_cons, ih h2 f.2, rp_eqV h1 r' f.1 f']
theorem rp_scal {y x : V} {e c : D} (r : Rp K CA m h H y e) (r' : Rp K CA m h H x c) (s : scalD e c = true) : scal y x = true ∧ decide (y = x) = eqF e c := by
  cases r <;> first
    | (cases r' <;> first
      | exact ⟨rfl, rfl⟩
      | exact ⟨rfl, dec_int⟩
      | exact ⟨rfl, dec_bl⟩
      | exact ⟨rfl, dec_str⟩
      | cases s)
    | (cases s; done)
    | (cases c <;> cases s; done)
theorem rp_dget {k : Key} : ∀ {kvs : List (Key × V)} {ds : List (Key × D)}, kvs.map (·.1) = ds.map (·.1) → RpAll K CA m h H (kvs.map (·.2)) (ds.map (·.2)) →
    (∃ v d, valV kvs k = some v ∧ dGet ds k = some d ∧ Rp K CA m h H v d) ∨ (valV kvs k = none ∧ dGet ds k = none)
  | [], [], _, _ => .inr ⟨rfl, rfl⟩
  | [], _ :: _, e, _ => by simp at e
  | _ :: _, [], e, _ => by simp at e
  | p :: kvs, q :: ds, e, r => by
    obtain ⟨pk, pv⟩ := p
    obtain ⟨qk, qv⟩ := q
    simp only [List.map_cons, List.cons.injEq] at e
    obtain ⟨e1, e2⟩ := e
    subst e1
    cases r with
    | cons r1 r2 =>
      by_cases h : pk = k
      · subst h
        exact .inl ⟨pv, qv, by simp [valV], by simp [dGet], r1⟩
      · rcases rp_dget (k := k) e2 r2 with ⟨v, d, h1, h2, h3⟩ | ⟨h1, h2⟩
        · exact .inl ⟨v, d, by rw [valV_neg h]; exact h1, by simp only [dGet, List.find?_cons, decide_eq_false h]; exact h2, h3⟩
        · exact .inr ⟨by rw [valV_neg h]; exact h1, by simp only [dGet, List.find?_cons, decide_eq_false h]; exact h2⟩
theorem keys_any {κ α β : Type} {k : κ} [DecidableEq κ] : ∀ {kvs : List (κ × α)} {ds : List (κ × β)}, kvs.map (·.1) = ds.map (·.1) → (kvs.any fun kv => decide (kv.1 = k)) = (ds.any fun kv => decide (kv.1 = k))
  | [], [], _ => rfl
  | [], _ :: _, e => by simp at e
  | _ :: _, [], e => by simp at e
  | p :: kvs, q :: ds, e => by
    simp only [List.map_cons, List.cons.injEq] at e
    rw [List.any_cons, List.any_cons, e.1, keys_any e.2]
theorem rp_dput {k : Key} {kvs : List (Key × V)} {ds : List (Key × D)} (e : kvs.map (·.1) = ds.map (·.1)) (r : RpAll K CA m h H (kvs.map (·.2)) (ds.map (·.2))) (r' : Rp K CA m h H v d) :
    (putK kvs k v).map (·.1) = (dPut ds k d).map (·.1) ∧ RpAll K CA m h H ((putK kvs k v).map (·.2)) ((dPut ds k d).map (·.2)) := by
  unfold putK dPut
  rw [keys_any e]
  by_cases q : (ds.any fun kv => decide (kv.1 = k)) = true
  · rw [if_pos q, if_pos q]
    clear q
    induction kvs generalizing ds with
    | nil => cases ds with
      | nil => exact ⟨rfl, .nil⟩
      | cons => simp at e
    | cons p kvs ih => cases ds with
      | nil => simp at e
      | cons q ds =>
        simp only [List.map_cons, List.cons.injEq] at e
        cases r with
        | cons r1 r2 =>
          obtain ⟨i1, i2⟩ := ih e.2 r2
          simp only [List.map_cons]
          by_cases hk : q.1 = k
          · rw [if_pos (e.1.trans hk), if_pos hk]
            exact ⟨by rw [i1, e.1], .cons r' i2⟩
          · rw [if_neg (fun z => hk (e.1.symm.trans z)), if_neg hk]
            exact ⟨by rw [i1, e.1], .cons r1 i2⟩
  · rw [if_neg q, if_neg q]
    simp only [List.map_append, List.map_cons, List.map_nil]
    exact ⟨by rw [e], r.append (.cons r' .nil)⟩
theorem rp_dps_of {f : D → Option PyData} (ih : ∀ (d : D) (v : V) (p : PyData), Rp K CA m h H v d → f d = some p → Dp K H v p) : ∀ (ds : List D) (vs : List V) (ps : List PyData), RpAll K CA m h H vs ds → ds.mapM f = some ps → DpAll K H vs ps
  | [], _, _, r, e => by cases r; simp at e; subst e; exact .nil
  | d :: ds, _, _, r, e => by
    cases r with
    | cons h1 h2 =>
      simp only [List.mapM_cons, Option.bind_eq_bind, Option.bind_eq_some_iff, Option.pure_def, Option.some.injEq] at e
      obtain ⟨p, e1, ps, e2, rfl⟩ := e
      exact .cons (ih d _ p h1 e1) (rp_dps_of ih ds _ ps h2 e2)
theorem rp_dp (S : HR K CA m h H) : ∀ (n : Nat) (d : D) (v : V) (p : PyData), Rp K CA m h H v d → toP h n d = some p → Dp K H v p
  | 0, d, _, _, _, e => by cases d <;> cases e
  | n + 1, .non, _, _, r, e => by cases r; simp only [toP, Option.some.injEq] at e; subst e; exact .non
  | n + 1, .bl b, _, _, r, e => by cases r; simp only [toP, Option.some.injEq] at e; subst e; exact .bl b
  | n + 1, .int b, _, _, r, e => by cases r; simp only [toP, Option.some.injEq] at e; subst e; exact .int b
  | n + 1, .str b, _, _, r, e => by cases r; simp only [toP, Option.some.injEq] at e; subst e; exact .str b
  | n + 1, .lst ds, _, _, r, e => by
    simp only [toP, Option.map_eq_some_iff] at e
    obtain ⟨ps, e1, rfl⟩ := e
    obtain ⟨a, xs, rfl, e2, r2⟩ := rp_lst S r rfl
    exact .lst (.of e2) (rp_dps_of (rp_dp S n) ds xs ps r2 e1)
  | n + 1, .tup ds, _, _, r, e => by
    simp only [toP, Option.map_eq_some_iff] at e
    obtain ⟨ps, e1, rfl⟩ := e
    obtain ⟨a, xs, rfl, e2, r2⟩ := rp_tup r
    exact .tup e2 (rp_dps_of (rp_dp S n) ds xs ps r2 e1)
  | n + 1, .ref k, _, _, r, e => by
    simp only [toP] at e
    split at e
    · rename_i ds q
      simp only [Option.map_eq_some_iff] at e
      obtain ⟨ps, e1, rfl⟩ := e
      obtain ⟨a, xs, rfl, e2, r2⟩ := rp_lst S r (show lstOf h (.ref k) = some ds by simp only [lstOf, q])
      exact .lst (.of e2) (rp_dps_of (rp_dp S n) ds xs ps r2 e1)
    · cases e
  | n + 1, .dct _, _, _, _, e => by simp [toP] at e
  | n + 1, .obj _ _, _, _, _, e => by simp [toP] at e
  | n + 1, .scr _, _, _, _, e => by simp [toP] at e
  | n + 1, .ty _, _, _, _, e => by simp [toP] at e
  | n + 1, .cls _, _, _, _, e => by simp [toP] at e
  | n + 1, .exc _ _, _, _, _, e => by simp [toP] at e
end
def fAdd (nm : Bool) : F2 := fun x y h => match x, y with
  | .int i, .int j => .ok (.int (i + j)) h
  | .str a, .str b => if a.length + b.length ≤ sizeLine then .ok (.str (a ++ b)) h else .no
  | .tup a, .tup b => if a ≠ [] ∧ a.length + b.length ≤ sizeLine then .ok (.tup (a ++ b)) h else .no
  | x, y => match lstOf h x, lstOf h y with
    | some a, some b => if a.length + b.length ≤ sizeLine then mkL nm (a ++ b) h else .no
    | _, _ => .no
def fSubI : F2 := fun x y h => match x, y with
  | .int i, .int j => .ok (.int (i - j)) h
  | _, _ => .no
def fMul (nm : Bool) : F2 := fun x y h => match x, y with
  | .int i, .int j => if CMul i j then .ok (.int (i * j)) h else .no
  | x, .int k => match lstOf h x with
    | some ds => if -(2 ^ 63) ≤ k ∧ k < 2 ^ 63 ∧ ds.length * k.toNat ≤ sizeLine then mkL nm (List.replicate k.toNat ds).flatten h else .no
    | none => .no
  | _, _ => .no
def fDiv : F2 := fun x y h => match x, y with
  | .int i, .int j => if CDiv i j then .ok (.int (i / j)) h else .no
  | _, _ => .no
def fMod : F2 := fun x y h => match x, y with
  | .int i, .int j => if 0 < j then .ok (.int (i % j)) h else .no
  | _, _ => .no
def fPow : F2 := fun x y h => match x, y with
  | .int i, .int j => if CPow i j then .ok (.int (i ^ j.toNat)) h else .no
  | _, _ => .no
def fB (f : Int → Int → Bool) : F2 := fun x y h => match x, y with
  | .int i, .int j => .ok (.bl (f i j)) h
  | _, _ => .no
def bneg (neg b : Bool) : Bool := if neg then !b else b
def fEq (neg : Bool) : F2 := fun x y h => if scalD x y = true then .ok (.bl (bneg neg (eqF x y))) h else match toP h 10 x, toP h 10 y with
  | some p, some q => if SeqAt.shaped p = true ∧ SeqAt.shaped q = true then .ok (.bl (bneg neg (PyData.eqv p q))) h else .no
  | _, _ => .no
def isNon : D → Bool
  | .non => true
  | _ => false
def fIsN (neg : Bool) : F2 := fun x y h => match y with
  | .non => .ok (.bl (bneg neg (isNon x))) h
  | _ => .no
def fIn (neg : Bool) : F2 := fun x y h => match seqOf h y with
  | some ds => if flatD x = true ∧ ds.all flatD = true then .ok (.bl (bneg neg (ds.any fun e => eqF e x))) h else .no
  | none => match dctOf h y, keyD x with
    | some kvs, some k => .ok (.bl (bneg neg (dGet kvs k).isSome)) h
    | _, _ => .no
def fIx : F2 := fun x y h => match x, y with
  | .str z, .int i => if z.length ≤ sizeLine then (match atI z.cps.toList i with
    | some c => .ok (.str ⟨#[c]⟩) h
    | none => .no) else .no
  | x, y => match seqOf h x, y with
    | some ds, .int i => (match atI ds i with
      | some v => .ok v h
      | none => .no)
    | _, _ => match dctOf h x, keyD y with
      | some kvs, some k => (match dGet kvs k with
        | some v => .ok v h
        | none => .no)
      | _, _ => .no
section
variable {X : Cx} {K : PySem.W.Frag} {CA : CAs} {W : WX} {m : Mp} {h : CH} {H : Hp} {σ : L2.St}
abbrev rAddU (K : PySem.W.Frag) : R2 := fun x y H Q => (rI0 (fun i j => .int (i + j)) x y H Q) ∨ (rCat x y H Q) ∨ (rCatT K x y H Q) ∨ (∃ i j, x = .str i ∧ y = .str j ∧ i.length + j.length ≤ sizeLine ∧ Q (.str (i ++ j)) H)
theorem add_lst {nm : Bool} {x y : D} {v w : V} {Q' : VK} (S : HR K CA m h H) (rx : Rp K CA m h H v x) (ry : Rp K CA m h H w y)
    (t : PostE K CA W m h H σ Q' (match lstOf h x, lstOf h y with | some a, some b => if a.length + b.length ≤ sizeLine then mkL nm (a ++ b) h else .no | _, _ => .no)) : rCat v w H Q' := by
  split at t
  · rename_i a b e1 e2
    obtain ⟨l, t⟩ := post_ite t
    obtain ⟨a, xs, rfl, e1, r1⟩ := rp_lst S rx e1
    obtain ⟨b, ys, rfl, e2, r2⟩ := rp_lst S ry e2
    exact ⟨a, b, xs, ys, rfl, rfl, e1, e2, by rw [r1.length, r2.length]; exact l, fun p n => mkL_post S n (r1.append r2) t⟩
  · exact t.elim
theorem sim_add {nm : Bool} : SimR K CA (rAddU K) (fAdd nm) := by
  intro W σ m h H x y dx dy Q' S rx ry t
  unfold fAdd at t
  split at t
  · cases rx; cases ry; exact .inl ⟨_, _, rfl, rfl, t.here S (.int _)⟩
  · cases rx; cases ry
    obtain ⟨l, t⟩ := post_ite t
    exact .inr (.inr (.inr ⟨_, _, rfl, rfl, l, t.here S (.str _)⟩))
  · obtain ⟨⟨l1, l2⟩, t⟩ := post_ite t
    obtain ⟨a, xs, rfl, e1, r1⟩ := rp_tup rx
    obtain ⟨b, ys, rfl, e2, r2⟩ := rp_tup ry
    refine .inr (.inr (.inl ⟨a, b, xs, ys, rfl, rfl, e1, e2, fun z => l1 ?_, by rw [r1.length, r2.length]; exact l2, fun z => ?_, fun _ p n => ?_⟩))
    · subst z; cases r1; rfl
    · subst z; cases r2
      rw [List.append_nil] at t
      exact t.here S rx
    · exact t.laid S n (.tup (S.fresh n) upd_same (rps_laid S n (r1.append r2)))
  · exact .inr (.inl (add_lst S rx ry t))
theorem op_addU (hK : X.K = K := by rfl) : OpR X (binaryOp .Add) (rAddU K) := by subst hK; exact op_add.or (op_cat.or (op_catT.or op_add_str))
theorem sim_subI : SimR K CA (rI0 fun i j => .int (i - j)) fSubI := by
  intro W σ m h H x y dx dy Q' S rx ry t
  unfold fSubI at t
  split at t
  · cases rx; cases ry; exact ⟨_, _, rfl, rfl, t.here S (.int _)⟩
  · exact t.elim
theorem op_mulU : OpR X (binaryOp .Mult) (fun x y H Q => rI CMul (fun i j => .int (i * j)) x y H Q ∨ rRep x y H Q) := op_mul.or op_rep
theorem rp_rep {vs : List V} {ds : List D} (r : RpAll K CA m h H vs ds) : ∀ n : Nat, RpAll K CA m h H (List.replicate n vs).flatten (List.replicate n ds).flatten
  | 0 => by simp; exact .nil
  | n + 1 => by
    rw [List.replicate_succ, List.replicate_succ, List.flatten_cons, List.flatten_cons]
    exact r.append (rp_rep r n)
theorem sim_mul {nm : Bool} : SimR K CA (fun x y H Q => rI CMul (fun i j => .int (i * j)) x y H Q ∨ rRep x y H Q) (fMul nm) := by
  intro W σ m h H x y dx dy Q' S rx ry t
  unfold fMul at t
  split at t
  · obtain ⟨c, t⟩ := post_ite t
    cases rx; cases ry; exact .inl ⟨_, _, rfl, rfl, c, t.here S (.int _)⟩
  · split at t
    · rename_i e
      obtain ⟨⟨c1, c2, c3⟩, t⟩ := post_ite t
      obtain ⟨a, xs, rfl, e1, r1⟩ := rp_lst S rx e
      cases ry
      exact .inr ⟨a, _, xs, rfl, rfl, e1, c1, c2, by rw [r1.length]; exact c3, fun p n => mkL_post S n (rp_rep r1 _) t⟩
    · exact t.elim
  · exact t.elim
theorem sim_div : SimR K CA (rI CDiv fun i j => .int (i / j)) fDiv := by
  intro W σ m h H x y dx dy Q' S rx ry t
  unfold fDiv at t
  split at t
  · obtain ⟨c, t⟩ := post_ite t
    cases rx; cases ry; exact ⟨_, _, rfl, rfl, c, t.here S (.int _)⟩
  · exact t.elim
theorem sim_mod : SimR K CA (rI (fun _ j => 0 < j) fun i j => .int (i % j)) fMod := by
  intro W σ m h H x y dx dy Q' S rx ry t
  unfold fMod at t
  split at t
  · obtain ⟨c, t⟩ := post_ite t
    cases rx; cases ry; exact ⟨_, _, rfl, rfl, c, t.here S (.int _)⟩
  · exact t.elim
theorem sim_pow : SimR K CA (rI CPow fun i j => .int (i ^ j.toNat)) fPow := by
  intro W σ m h H x y dx dy Q' S rx ry t
  unfold fPow at t
  split at t
  · obtain ⟨c, t⟩ := post_ite t
    cases rx; cases ry; exact ⟨_, _, rfl, rfl, c, t.here S (.int _)⟩
  · exact t.elim
theorem sim_cB {f : Int → Int → Bool} : SimR K CA (rI0 fun i j => .bl (f i j)) (fB f) := by
  intro W σ m h H x y dx dy Q' S rx ry t
  unfold fB at t
  split at t
  · cases rx; cases ry; exact ⟨_, _, rfl, rfl, t.here S (.bl _)⟩
  · exact t.elim
theorem sim_eq : SimR K CA (fun x y H Q => rEq x y H Q ∨ rEqD K x y H Q) (fEq false) := by
  intro W σ m h H x y dx dy Q' S rx ry t
  unfold fEq at t
  split at t
  · rename_i c
    obtain ⟨s, e⟩ := rp_scal rx ry c
    exact .inl ⟨s, by rw [e]; exact t.here S (.bl _)⟩
  · split at t
    · rename_i p q e1 e2
      obtain ⟨⟨c1, c2⟩, t⟩ := post_ite t
      exact .inr ⟨p, q, rp_dp S _ dx x p rx e1, rp_dp S _ dy y q ry e2, c1, c2, t.here S (.bl _)⟩
    · exact t.elim
theorem op_eqU (hu : X.A.units + 64 < cLine) (hK : X.K = K := by rfl) : OpR X (compareOp .Eq) (fun x y H Q => rEq x y H Q ∨ rEqD K x y H Q) := by subst hK; exact op_eq.or (op_eqD hu)
theorem sim_ne : SimR K CA (fun x y H Q => rNe x y H Q ∨ rNeD K x y H Q) (fEq true) := by
  intro W σ m h H x y dx dy Q' S rx ry t
  unfold fEq at t
  split at t
  · rename_i c
    obtain ⟨s, e⟩ := rp_scal rx ry c
    exact .inl ⟨s, by rw [e]; exact t.here S (.bl _)⟩
  · split at t
    · rename_i p q e1 e2
      obtain ⟨⟨c1, c2⟩, t⟩ := post_ite t
      exact .inr ⟨p, q, rp_dp S _ dx x p rx e1, rp_dp S _ dy y q ry e2, c1, c2, t.here S (.bl _)⟩
    · exact t.elim
theorem op_neU (hu : X.A.units + 64 < cLine) (hK : X.K = K := by rfl) : OpR X (compareOp .NotEq) (fun x y H Q => rNe x y H Q ∨ rNeD K x y H Q) := by subst hK; exact op_ne.or (op_neD hu)
theorem sim_isN : SimR K CA (fun x y H Q => y = .non ∧ Q (.bl (decide (x = .non))) H) (fIsN false) := by
  intro W σ m h H x y dx dy Q' S rx ry t
  unfold fIsN at t
  split at t
  · cases ry
    refine ⟨rfl, ?_⟩
    cases rx <;> exact t.here S (.bl _)
  · exact t.elim
def rDIn (neg : Bool) : R2 := fun y x H Q => ∃ a o, x = .ref a ∧ DGet H a y o ∧ Q (.bl (if neg then !o.isSome else o.isSome)) H
theorem op_notInDct (hu : X.A.units + 1 < cLine) : OpR X (compareOp .NotIn) (rDIn true) := by
  intro pins s σ H y x u v Q I ry rx h
  obtain ⟨a, o, rfl, g, q⟩ := h
  cases rx
  exact d_notIn hu I g ry fun s3 I3 => ⟨.bl (!o.isSome), H, I3, rfl, q⟩
theorem sim_in {neg : Bool} : SimR K CA (fun x y H Q => rIn K neg x y H Q ∨ rDIn neg x y H Q) (fIn neg) := by
  intro W σ m h H x y dx dy Q' S rx ry t
  unfold fIn at t
  split at t
  · rename_i ds e
    obtain ⟨⟨f, fs⟩, t⟩ := post_ite t
    obtain ⟨a, xs, rfl, e1, r1⟩ := rp_seq S ry e
    refine .inl ⟨a, xs, rfl, e1, rp_flat rx f, rp_flats r1 fs, ?_⟩
    rw [rp_inV r1 rx fs f]
    exact t.here S (.bl _)
  · split at t
    · rename_i kvs k e ek
      obtain ⟨a, o, hk, rfl, e1, c, en, r⟩ := rp_dct S ry e
      have ek := rp_key rx ek
      subst ek
      refine .inr ⟨a, valV hk k, rfl, dget_core e1 c, ?_⟩
      rcases rp_dget (k := k) en r with ⟨v, d, h1, h2, _⟩ | ⟨h1, h2⟩
      · rw [h1]; rw [h2] at t; exact t.here S (.bl _)
      · rw [h1]; rw [h2] at t; exact t.here S (.bl _)
    · exact t.elim
theorem op_notInU (hu : X.A.units + 1 < cLine) (hK : X.K = K := by rfl) : OpR X (compareOp .NotIn) (fun x y H Q => rIn K true x y H Q ∨ rDIn true x y H Q) := by subst hK; exact op_notIn_seq.or (op_notInDct hu)
theorem ix_dct (hu : X.A.units + 1 < cLine) : IxR X (fun x y H Q => ∃ a v, x = .ref a ∧ DGet H a y (some v) ∧ Q v H) := by
  intro value slice pins s σ H x y v u Q I rx ry h hs
  obtain ⟨a, z, rfl, g, q⟩ := h
  cases rx
  exact tail_any (dict_typeIs I g) PySem.F.slot_dict_getitem.lookup (d_getItem hu I g ry fun w' s3 I3 rw' => ⟨z, H, I3, rw', q⟩) hs
abbrev rIxU (K : PySem.W.Frag) : R2 := fun x y H Q => rIx K x y H Q ∨ ∃ a v, x = .ref a ∧ DGet H a y (some v) ∧ Q v H
theorem ixU (hu : X.A.units + 1 < cLine) (hK : X.K = K := by rfl) : IxR X (rIxU K) := by subst hK; exact ix_seq.or (ix_dct hu)
theorem atI_rp {vs : List V} {ds : List D} {i : Int} {d : D} (r : RpAll K CA m h H vs ds) (e : atI ds i = some d) : ∃ v, atI vs i = some v ∧ Rp K CA m h H v d := by
  unfold atI at e ⊢
  rw [r.length]
  cases q : ixN ds.length i with
  | none => rw [q] at e; cases e
  | some j =>
    rw [q] at e
    exact r.getD e
theorem sim_ix : SimR K CA (rIxU K) fIx := by
  intro W σ m h H x y dx dy Q' S rx ry t
  unfold fIx at t
  split at t
  · obtain ⟨l, t⟩ := post_ite t
    split at t
    · rename_i c e
      cases rx; cases ry
      exact .inl (.inr (.inr ⟨_, _, c, rfl, rfl, l, e, t.here S (.str _)⟩))
    · exact t.elim
  · split at t
    · rename_i ds i e _
      split at t
      · rename_i d ea
        obtain ⟨a, xs, rfl, e1, r1⟩ := rp_seq S rx e
        cases ry
        obtain ⟨w, e2, r2⟩ := atI_rp r1 ea
        rcases e1 with e1 | e1
        · exact .inl (.inl ⟨a, xs, _, w, rfl, rfl, e1, e2, t.here S r2⟩)
        · exact .inl (.inr (.inl ⟨a, xs, _, w, rfl, rfl, e1, e2, t.here S r2⟩))
      · exact t.elim
    · split at t
      · rename_i kvs k e ek
        split at t
        · rename_i d eg
          obtain ⟨a, o, hk, rfl, e1, c, en, r⟩ := rp_dct S rx e
          have e2 := rp_key ry ek
          subst e2
          rcases rp_dget (k := k) en r with ⟨w, d, h1, h2, h3⟩ | ⟨_, h2⟩
          · rw [h2] at eg
            cases eg
            refine .inr ⟨a, w, rfl, ?_, t.here S h3⟩
            rw [← h1]
            exact dget_core e1 c
          · rw [h2] at eg; cases eg
        · exact t.elim
      · exact t.elim
end
section
variable (K : PySem.W.Frag) (CA : CAs) (W : WX)
def PostS (m : Mp) (h : CH) (H : Hp) (D' : Ends) : RS → Prop
  | .nx ρ' h' => ∀ m' σ' H', Stp m h H m' h' H' → SO K CA m' h' H' σ' ρ' → D'.nx σ' H'
  | .rt d h' => ∀ m' v H', Stp m h H m' h' H' → HR K CA m' h' H' → Rp K CA m' h' H' v d → D'.rt v H'
  | .bk ρ' h' => ∀ m' σ' H', Stp m h H m' h' H' → SO K CA m' h' H' σ' ρ' → D'.bk σ' H'
  | .ct ρ' h' => ∀ m' σ' H', Stp m h H m' h' H' → SO K CA m' h' H' σ' ρ' → D'.ct σ' H'
  | .ex ρ' c fs h' => ∀ m' cls dd σ' H', Stp m h H m' h' H' → SO K CA m' h' H' σ' ρ' → XR K CA m' h' H' cls dd c fs → W cls dd σ' H'
  | .no => False
def SimS (tS : TS) (u : SD) : Prop := ∀ (m : Mp) (h : CH) (H : Hp) (σ : L2.St) (ρ : DE) (D' : Ends), SO K CA m h H σ ρ → PostS K CA W m h H D' (u ρ h) → tS D' σ H
end
section
variable (X : Cx) (K : PySem.W.Frag) (CA : CAs) (W : WX)
structure WS (st : Stmt) (tS : TS) (u : SD) : Prop where
  pe : PS X st tS
  sim : SimS K CA W tS u
structure WSs (st : List Stmt) (tS : TS) (u : SD) : Prop where
  pe : PSs X st tS
  sim : SimS K CA W tS u
end
section
variable {K : PySem.W.Frag} {CA : CAs} {W : WX} {m m1 : Mp} {h h1 : CH} {H H1 : Hp} {σ : L2.St} {ρ : DE} {D' : Ends} {α β : Type} {RR : Mp → CH → Hp → β → α → Prop} {Q1 : β → Hp → Prop}
theorem PostS.from {r : RS} (q : PostS K CA W m h H D' r) (s : Stp m h H m1 h1 H1) : PostS K CA W m1 h1 H1 D' r := by
  cases r with
  | nx ρ' h' => exact fun m' σ' H' s' => q m' σ' H' (s.trans s')
  | rt d h' => exact fun m' v H' s' => q m' v H' (s.trans s')
  | bk ρ' h' => exact fun m' σ' H' s' => q m' σ' H' (s.trans s')
  | ct ρ' h' => exact fun m' σ' H' s' => q m' σ' H' (s.trans s')
  | ex ρ' c fs h' => exact fun m' cls dd σ' H' s' => q m' cls dd σ' H' (s.trans s')
  | no => exact q
theorem PostS.bind {r : R α} {k : α → CH → RS} (S : SO K CA m h H σ ρ) (q : PostS K CA W m h H D' (r.toS ρ k))
    (f : ∀ a h1 m1 b H1, Stp m h H m1 h1 H1 → HR K CA m1 h1 H1 → RR m1 h1 H1 b a → PostS K CA W m1 h1 H1 D' (k a h1) → Q1 b H1) : PostG K CA W RR m h H σ Q1 r := by
  cases r with
  | ok a h1 => exact fun m1 b H1 s S1 rr => f a h1 m1 b H1 s S1 rr (q.from s)
  | ex c fs h1 => exact fun m' cls dd H' s S1 x => q m' cls dd σ H' s (S.move s S1) x
  | no => exact q
end
def dNext : SD := fun ρ h => .nx ρ h
def RS.bind (r : RS) (w : SD) : RS := match r with
  | .nx ρ h => w ρ h
  | r => r
def dSeq (u w : SD) : SD := fun ρ h => (u ρ h).bind w
def dIfS (c : TB) (u w : SD) : SD := fun ρ h => (c ρ h).toS ρ fun b h => if b = true then u ρ h else w ρ h
def dRet (t : TD) : SD := fun ρ h => (t ρ h).toS ρ fun d h => .rt d h
def dCont : SD := fun ρ h => .ct ρ h
def dDrop (t : TD) : SD := fun ρ h => (t ρ h).toS ρ fun _ h => .nx ρ h
def gdName (i : Nat) : TGD := fun d ρ h => .ok (ρ.set i (some d)) h
def gdNil : TGDs := fun ds ρ h => match ds with
  | [] => .ok ρ h
  | _ => .no
def gdCons (t : TGD) (u : TGDs) : TGDs := fun ds ρ h => match ds with
  | d :: r => (t d ρ h).bind fun ρ h => u r ρ h
  | [] => .no
def gdTup (n : Nat) (t : TGDs) : TGD := fun d ρ h => match d with
  | .tup ds => if ds.length = n then t ds ρ h else .no
  | _ => .no
def R.put (r : R DE) (k : SD) : RS := match r with
  | .ok ρ h => k ρ h
  | _ => .no
def dAsg (t : TD) (tg : TGD) : SD := fun ρ h => (t ρ h).toS ρ fun d h => (tg d ρ h).put fun ρ h => .nx ρ h
def dPar (i j : Nat) (ts : TDs) : SD := fun ρ h => (ts ρ h).toS ρ fun ds h => match ds with
  | [x, y] => .nx ((ρ.set i (some x)).set j (some y)) h
  | _ => .no
def dPar3 (i j l : Nat) (ts : TDs) : SD := fun ρ h => (ts ρ h).toS ρ fun ds h => match ds with
  | [x, y, z] => .nx (((ρ.set i (some x)).set j (some y)).set l (some z)) h
  | _ => .no
def dForL (tg : TGD) (u : SD) : List D → SD
  | [], ρ, h => .nx ρ h
  | d :: r, ρ, h => (tg d ρ h).put fun ρ1 h1 => match u ρ1 h1 with
    | .nx ρ2 h2 => dForL tg u r ρ2 h2
    | .ct ρ2 h2 => dForL tg u r ρ2 h2
    | .bk ρ2 h2 => .nx ρ2 h2
    | x => x
abbrev Unl := Option (Nat × MO)
def unlH : Unl → CH → CH
  | none, h => h
  | some (k, o), h => h.put k o
def RS.unl (u : Unl) : RS → RS
  | .nx ρ h => .nx ρ (unlH u h)
  | .rt d h => .rt d (unlH u h)
  | .bk ρ h => .bk ρ (unlH u h)
  | .ct ρ h => .ct ρ (unlH u h)
  | r => r
def R.unl {α : Type} (u : Unl) : R α → R α
  | .ok a h => .ok a (unlH u h)
  | r => r
abbrev TDw := DE → CH → R (List D × Unl)
def dFor (t : TDw) (tg : TGD) (u : SD) : SD := fun ρ h => (t ρ h).toS ρ fun w h => (dForL tg u w.1 ρ h).unl w.2
section
variable {K : PySem.W.Frag} {CA : CAs} {W : WX} {t t' : TS} {u w : SD} {tH : TE} {tT : TT} {d : TD} {tB : TB}
theorem sim_next : SimS K CA W tNext dNext := fun m h H σ ρ D' S q => q m σ H .refl S
theorem sim_seq (x : SimS K CA W t u) (y : SimS K CA W t' w) : SimS K CA W (tSeq t t') (dSeq u w) := fun m h H σ ρ D' S q =>
  x m h H σ ρ { D' with nx := t' D' } S (by
    unfold dSeq at q
    cases e : u ρ h with
    | nx ρ' h' => rw [e] at q; exact fun m' σ' H' s S' => y m' h' H' σ' ρ' D' S' (PostS.from (show PostS K CA W m h H D' (w ρ' h') from q) s)
    | rt d h' => rw [e] at q; exact q
    | bk d h' => rw [e] at q; exact q
    | ct d h' => rw [e] at q; exact q
    | ex ρ' c fs h' => rw [e] at q; exact q
    | no => rw [e] at q; exact q)
theorem sim_ifS (hc : SimT K CA W tT tB) (x : SimS K CA W t u) (y : SimS K CA W t' w) : SimS K CA W (tIfS tT t t') (dIfS tB u w) := fun m h H σ ρ D' S q =>
  hc m h H σ ρ _ S (PostS.bind S q fun b h1 m1 b' H1 s1 S1 e q1 => by
    cases (show b' = b from e)
    cases b with
    | true => exact x m1 h1 H1 σ ρ D' (S.move s1 S1) q1
    | false => exact y m1 h1 H1 σ ρ D' (S.move s1 S1) q1)
theorem sim_ret (x : SimE K CA W tH d) : SimS K CA W (tRet tH) (dRet d) := fun m h H σ ρ D' S q =>
  x m h H σ ρ _ S (PostS.bind S q fun a h1 m1 v H1 s1 S1 r q1 => q1 m1 v H1 .refl S1 r)
theorem sim_drop (x : SimE K CA W tH d) : SimS K CA W (tDrop tH) (dDrop d) := fun m h H σ ρ D' S q =>
  x m h H σ ρ _ S (PostS.bind S q fun a h1 m1 v H1 s1 S1 r q1 => q1 m1 σ H1 .refl (S.move s1 S1))
end
section
variable (K : PySem.W.Frag) (CA : CAs) (W : WX)
def SimG (sl : List Nat) (gH : TG) (tg : TGD) : Prop := ∀ (m : Mp) (h : CH) (H : Hp) (σ : L2.St) (ρ : DE) (v : V) (d : D) (Q' : L2.St → Hp → Prop), SO K CA m h H σ ρ → Rp K CA m h H v d → PostT' K CA m h H σ sl Q' (tg d ρ h) → gH v σ H Q'
def SimGs (sl : List Nat) (gH : TGs) (tg : TGDs) : Prop := ∀ (m : Mp) (h : CH) (H : Hp) (σ : L2.St) (ρ : DE) (vs : List V) (ds : List D) (Q' : L2.St → Hp → Prop), SO K CA m h H σ ρ → RpAll K CA m h H vs ds → PostT' K CA m h H σ sl Q' (tg ds ρ h) → gH vs σ H Q'
end
section
variable (X : Cx) (K : PySem.W.Frag) (CA : CAs) (W : WX)
structure WG (e : Expr) (sl : List Nat) (gH : TG) (tg : TGD) : Prop where
  pe : PG X e gH
  sim : SimG K CA sl gH tg
structure WGs (es : List Expr) (sl : List Nat) (gH : TGs) (tg : TGDs) : Prop where
  pe : PGs X es gH
  sim : SimGs K CA sl gH tg
end
section
variable {X : Cx} {K : PySem.W.Frag} {CA : CAs} {W : WX} {e a b c : Expr} {es : List Expr} {gH : TG} {tg : TGD} {gHs : TGs} {tgs : TGDs} {pos : Pos} {st : Stmt} {sts rest x y : List Stmt} {tu tw : TS} {u w : SD} {ha : TE} {ta : TD} {hs : TA} {ts : TDs} {hB : TT} {tB : TB}
theorem sim_gName {i : Nat} : SimG K CA [i] (gName i) (gdName i) := fun m h H σ ρ v d Q' S r k => k m _ H .refl (S.set i r) (by simp) fun j hj => List.getElem?_set_ne (fun z => hj (by simp [z]))
theorem wg_name {i : Nat} (h : PG X e (gName i)) : WG X K CA e [i] (gName i) (gdName i) := ⟨h, sim_gName⟩
theorem wgs_nil : WGs X K CA [] [] gNil gdNil := ⟨pgs_nil, fun m h H σ ρ vs ds Q' S r k => by
  cases r with
  | nil => exact ⟨rfl, k m σ H .refl S rfl fun _ _ => rfl⟩
  | cons => exact k.elim⟩
theorem wgs_cons {s1 s2 : List Nat} (h : WG X K CA e s1 gH tg) (h' : WGs X K CA es s2 gHs tgs) (hst : (assignEach (e :: es) X.env).map (·.2) = assign e X.env :: (assignEach es X.env).map (·.2) := by rfl) : WGs X K CA (e :: es) (s1 ++ s2) (gCons gH gHs) (gdCons tg tgs) := by
  refine ⟨pgs_cons h.pe h'.pe hst, fun m hh H σ ρ vs ds Q' S r q => ?_⟩
  cases r with
  | nil => exact q.elim
  | @cons v vs d ds r1 r2 =>
    refine ⟨v, vs, rfl, h.sim m hh H σ ρ v d _ S r1 ?_⟩
    simp only [gdCons] at q
    cases e : tg d ρ hh with
    | ok ρ' h1 =>
      rw [e] at q
      exact fun m1 σ1 H1 st1 S1 l1 k1 => h'.sim m1 h1 H1 σ1 ρ' vs ds Q' S1 (r2.move st1) (PostT'.mono (show PostT' K CA m hh H σ (s1 ++ s2) Q' (tgs ds ρ' h1) from q) st1 l1 (fun j hj => k1 j fun z => hj (List.mem_append_left _ z)) fun j hj => List.mem_append_right _ hj)
    | ex c fs h1 => rw [e] at q; exact q
    | no => rw [e] at q; exact q
theorem wg_tup {n k : Nat} {sl : List Nat} (hc : X.calm = true) (h : WGs X K CA es sl gHs tgs) (hn : (assignEach es X.env).length = n := by rfl) (hst : (assignEach es X.env).findIdx? (·.1) = none := by rfl) (hK : X.K = K := by rfl) : WG X K CA (.Tuple es k pos) sl (gTup K n gHs) (gdTup n tgs) := by
  subst hK
  refine ⟨pg_tup hc h.pe hn hst, fun m hh H σ ρ v d Q' S r q => ?_⟩
  cases d with
  | tup ds =>
    simp only [gdTup] at q
    by_cases hl : ds.length = n
    · rw [if_pos hl] at q
      obtain ⟨a, xs, rfl, e1, r1⟩ := rp_tup r
      exact ⟨a, xs, rfl, e1, r1.length.trans hl, h.sim m hh H σ ρ xs ds Q' S r1 q⟩
    · rw [if_neg hl] at q; exact q.elim
  | _ => exact q.elim
theorem wss_nil : WSs X K CA W [] tNext dNext := ⟨pss_nil, sim_next⟩
theorem wss_cons (h : WS X K CA W st tu u) (h' : WSs X K CA W rest tw w) : WSs X K CA W (st :: rest) (tSeq tu tw) (dSeq u w) := ⟨pss_cons h.pe h'.pe, sim_seq h.sim h'.sim⟩
theorem wss_one (h : WS X K CA W st tu u) : WSs X K CA W [st] tu u := ⟨pss_one h.pe, h.sim⟩
theorem ws_expr (h : WE X K CA W e ha ta) (hsw : swapsWith e none pos.line X.env = pure false := by rfl) : WS X K CA W (.Expr e pos) (tDrop ha) (dDrop ta) := ⟨ps_expr h.pe hsw, sim_drop h.sim⟩
theorem ws_ret (h : WE X K CA W e ha ta) : WS X K CA W (.Return (some e) pos) (tRet ha) (dRet ta) := ⟨ps_ret h.pe, sim_ret h.sim⟩
theorem ws_if (h0 : WT X K CA W c hB tB) (h : WSs X K CA W x tu u) (h' : WSs X K CA W y tw w) : WS X K CA W (.If c x y pos) (tIfS hB tu tw) (dIfS tB u w) := ⟨ps_if h0.pe h.pe h'.pe, sim_ifS h0.sim h.sim h'.sim⟩
theorem put_post {sl : List Nat} {m : Mp} {h : CH} {H : Hp} {σ : L2.St} {D' : Ends} {r : R DE} {k : SD} {Q' : L2.St → Hp → Prop} (q : PostS K CA W m h H D' (r.put k)) (f : ∀ ρ' h' m' σ' H', Stp m h H m' h' H' → SO K CA m' h' H' σ' ρ' → PostS K CA W m' h' H' D' (k ρ' h') → Q' σ' H') : PostT' K CA m h H σ sl Q' r := by
  cases r with
  | ok ρ' h2 => exact fun m2 σ2 H2 s2 S2 _ _ => f ρ' h2 m2 σ2 H2 s2 S2 (PostS.from (show PostS K CA W m h H D' (k ρ' h2) from q) s2)
  | ex c fs h2 => exact q
  | no => exact q
theorem sim_asg {sl : List Nat} (h : SimE K CA W ha ta) (hg : SimG K CA sl gH tg) : SimS K CA W (tAsg ha gH) (dAsg ta tg) := fun m hh H σ ρ D' S q =>
  h m hh H σ ρ _ S (PostS.bind S q fun d h1 m1 v H1 s1 S1 r q1 => hg m1 h1 H1 σ ρ v d _ (S.move s1 S1) r (put_post q1 fun ρ' h' m' σ' H' s' S' q' => q' m' σ' H' .refl S'))
theorem ws_asg {sl : List Nat} (h : WE X K CA W e ha ta) (hg : WG X K CA a sl gH tg) (hsw : swapsWithSole [a] e pos.line X.env = pure false := by rfl) (hw : swappedStores [a] e X.env = pure none := by rfl)
    (h1 : (assignEach [a] X.env).map (·.2) = [assign a X.env] := by rfl) : WS X K CA W (.Assign [a] e pos) (tAsg ha gH) (dAsg ta tg) := ⟨ps_asg h.pe hg.pe hsw hw h1, sim_asg h.sim hg.sim⟩
theorem ws_set {i : Nat} (h : WE X K CA W e ha ta) (hp : PE X e ha → PS X st (tAsg ha (gName i))) : WS X K CA W st (tAsg ha (gName i)) (dAsg ta (gdName i)) :=
  ⟨hp h.pe, sim_asg h.sim sim_gName⟩
theorem ws_par {i j : Nat} (h : WA X K CA W es hs ts) (hp : PA X es hs → PS X st (tPar i j hs)) : WS X K CA W st (tPar i j hs) (dPar i j ts) := by
  refine ⟨hp h.pe, fun m hh H σ ρ D' S q => h.sim m hh H σ ρ _ S (PostS.bind S q fun ds h1 m1 vs H1 s1 S1 r q1 => ?_)⟩
  split at q1
  · cases r with
    | @cons v _ _ _ r1 r2 =>
      cases r2 with
      | @cons v' _ _ _ r2 r3 =>
        cases r3
        exact ⟨v, v', rfl, q1 m1 _ H1 .refl (((S.move s1 S1).set i r1).set j r2)⟩
  · exact q1.elim
theorem ws_par3 {i j l : Nat} (h : WA X K CA W es hs ts) (hp : PA X es hs → PS X st (tPar3 i j l hs)) : WS X K CA W st (tPar3 i j l hs) (dPar3 i j l ts) := by
  refine ⟨hp h.pe, fun m hh H σ ρ D' S q => h.sim m hh H σ ρ _ S (PostS.bind S q fun ds h1 m1 vs H1 s1 S1 r q1 => ?_)⟩
  split at q1
  · cases r with
    | @cons v _ _ _ r1 r2 =>
      cases r2 with
      | @cons v' _ _ _ r2 r3 =>
        cases r3 with
        | @cons v2 _ _ _ r3 r4 =>
          cases r4
          exact ⟨v, v', v2, rfl, q1 m1 _ H1 .refl ((((S.move s1 S1).set i r1).set j r2).set l r3)⟩
  · exact q1.elim
end
section
variable (K : PySem.W.Frag) (CA : CAs) (W : WX)
structure Wk (m : Mp) (h : CH) (H : Hp) (J : It) (ds : List D) : Prop where
  go : ∀ (i : Nat) (m' : Mp) (h' : CH) (H' : Hp) (d : D), Sz m h H m' h' H' → HR K CA m' h' H' → ds[i]? = some d → J.go i H' ∧ ∀ x H2, J.yld i H' x H2 → (∀ a u, H' a = some u → H2 a = some u) ∧ Rp K CA m' h' H2 x d
  stop : ∀ (m' : Mp) (h' : CH) (H' : Hp), Sz m h H m' h' H' → HR K CA m' h' H' → J.stop ds.length H'
def UnlOk (H0 : Hp) (m : Mp) (h : CH) (H : Hp) (m' : Mp) (h' : CH) (H' : Hp) : Unl → Prop
  | none => True
  | some (k, o) => ∀ m2 h2 H2, Stp m' h' H' m2 h2 H2 → HR K CA m2 h2 H2 → ∃ o' H3, h2.ob k = some o' ∧ (H3 = H2 ∨ ∃ od hk, H2 (m2 k) = some (.frz od (.dK hk)) ∧ (∀ o' u', H0 (m2 k) ≠ some (.frz o' u')) ∧ H3 = upd H2 (m2 k) (.dK hk)) ∧
      Stp m h H m2 (h2.put k o) H3 ∧ HR K CA m2 (h2.put k o) H3
def PostI (H0 : Hp) (m : Mp) (h : CH) (H : Hp) (σ : L2.St) (R' : It → Hp → Prop) : R (List D × Unl) → Prop
  | .ok w h' => ∀ m' J H', Stp m h H m' h' H' → HR K CA m' h' H' → Wk K CA m' h' H' J w.1 → UnlOk K CA H0 m h H m' h' H' w.2 → R' J H'
  | .ex c fs h' => ∀ m' cls dd H', Stp m h H m' h' H' → HR K CA m' h' H' → XR K CA m' h' H' cls dd c fs → W cls dd σ H'
  | .no => False
def SimI (H0 : Hp) (wH : TI) (t : TDw) : Prop := ∀ (m : Mp) (h : CH) (H : Hp) (σ : L2.St) (ρ : DE) (R' : It → Hp → Prop), SO K CA m h H σ ρ → PostI K CA W H0 m h H σ R' (t ρ h) → wH σ H R'
end
section
variable (X : Cx) (K : PySem.W.Frag) (CA : CAs) (W : WX)
structure WI (tg iter : Expr) (wH : TI) (t : TDw) : Prop where
  pe : PI X tg iter wH
  sim : SimI K CA W X.H_0 wH t
end
def UnlP (X : Cx) (P : Hp → Prop) (H : Hp) : Prop := P H ∨ ∃ d od u, H d = some (.frz od u) ∧ (∀ o' u', X.H_0 d ≠ some (.frz o' u')) ∧ P (upd H d u)
def unlE (X : Cx) (D : Ends) : Ends := ⟨fun σ => UnlP X (D.nx σ), fun v => UnlP X (D.rt v), fun σ => UnlP X (D.bk σ), fun σ => UnlP X (D.ct σ)⟩
theorem unl_inv {X : Cx} {pins : List (Addr × Obj)} {σ : L2.St} {H : Hp} {s : Shared} {P : Hp → Prop} (I : Inv X pins σ H s) (q : UnlP X P H) : ∃ H', Inv X pins σ H' s ∧ P H' := by
  rcases q with q | ⟨d, od, u, e, n, q⟩
  · exact ⟨H, I, q⟩
  · exact ⟨_, I.unlock e n, q⟩
theorem ps_unl {X : Cx} {st : Stmt} {t : TS} (x : PS X st t) : PS X st (fun D σ H => t (unlE X D) σ H) := by
  refine ⟨fun pins s σ H D I hw => thn (x.run pins s σ H _ I hw) fun f s1 q => ?_⟩
  cases f with
  | next => obtain ⟨σ', H', I2, q⟩ := q; obtain ⟨H2, I3, q⟩ := unl_inv I2 q; exact ⟨σ', H2, I3, q⟩
  | brk => obtain ⟨σ', H', I2, q⟩ := q; obtain ⟨H2, I3, q⟩ := unl_inv I2 q; exact ⟨σ', H2, I3, q⟩
  | cont => obtain ⟨σ', H', I2, q⟩ := q; obtain ⟨H2, I3, q⟩ := unl_inv I2 q; exact ⟨σ', H2, I3, q⟩
  | ret v => obtain ⟨y, σ', H', I2, r, q⟩ := q; obtain ⟨H2, I3, q⟩ := unl_inv I2 q; exact ⟨y, σ', H2, I3, r, q⟩
theorem pe_unl {X : Cx} {e : Expr} {t : TE} (x : PE X e t) : PE X e (fun σ H Q => t σ H fun v => UnlP X (Q v)) := by
  refine ⟨fun pins s σ H Q I hw => thn (x.run pins s σ H _ I hw) fun v s1 q => ?_⟩
  obtain ⟨y, H1, I2, r, q⟩ := q
  obtain ⟨H2, I3, q⟩ := unl_inv I2 q
  exact ⟨y, H2, I3, r, q⟩
def itemsD (h : CH) : D → Option (List D)
  | .lst ds => some ds
  | .tup ds => some ds
  | .scr ns => some (ns.map D.int)
  | _ => none
def lockD (d : D) (h : CH) : R (List D × Unl) := match d with
  | .ref k => match h.ob k with
    | some (.lst ds) => .ok (ds, some (k, .lst ds)) (h.put k (.lkl ds))
    | some (.lkl ds) => .ok (ds, none) h
    | _ => .no
  | _ => .no
def dSeqI (t : TD) : TDw := fun ρ h => (t ρ h).bind fun d h => match itemsD h d with
  | some ds => .ok (ds, none) h
  | none => lockD d h
def rgD (a : Int) (n : Nat) : List D := (List.range n).map fun (i : Nat) => D.int (a + (i : Int))
def dRng1 (ts : TDs) : TDw := fun ρ h => (ts ρ h).bind fun ds h => match ds with
  | [.int n] => if -(2 ^ 62) ≤ n ∧ n < 2 ^ 62 then .ok (rgD 0 n.toNat, none) h else .no
  | _ => .no
def dRng2 (ts : TDs) : TDw := fun ρ h => (ts ρ h).bind fun ds h => match ds with
  | [.int a, .int b] => if -(2 ^ 62) ≤ a ∧ a < 2 ^ 62 ∧ -(2 ^ 62) ≤ b ∧ b < 2 ^ 62 then .ok (rgD a (b - a).toNat, none) h else .no
  | _ => .no
def enD : Nat → List D → List D
  | _, [] => []
  | i, d :: r => .tup [.int (i : Int), d] :: enD (i + 1) r
section
variable {X : Cx} {K : PySem.W.Frag} {CA : CAs} {W : WX} {e a b l c tge iter : Expr} {es : List Expr} {gH : TG} {tg : TGD} {pos p : Pos} {st : Stmt} {sts rest body : List Stmt} {tb : TS} {u w : SD} {ha : TE} {ta : TD} {hs : TA} {wH : TI} {ts : TDs} {ti : TDw} {hB : TT} {tB : TB}
theorem sim_forL {sl : List Nat} (s' : SimG K CA sl gH tg) (s'' : SimS K CA W tb u) {m : Mp} {h : CH} {H : Hp} {σ : L2.St} {ρ : DE} {D' : Ends} {J : It} {ds : List D} (S : SO K CA m h H σ ρ) (wk : Wk K CA m h H J ds) (q : PostS K CA W m h H D' (dForL tg u ds ρ h)) :
    ∃ (Wl : Nat → Nat → L2.St → Hp → Prop), (∃ n, Wl 0 n σ H) ∧ ∀ i n σ' H', Wl i n σ' H' → (J.stop i H' ∧ D'.nx σ' H') ∨ (J.go i H' ∧ ∃ Nx : L2.St → Hp → Prop, (∀ σ3 H3, Nx σ3 H3 → ∃ n', n' < n ∧ Wl (i + 1) n' σ3 H3) ∧
      ∀ x H2, J.yld i H' x H2 → gH x σ' H2 fun σ2 H2' => tb { D' with nx := Nx, ct := Nx, bk := D'.nx } σ2 H2') := by
  refine ⟨fun i n σ' H' => n + i = ds.length ∧ ∃ m' h' ρ', Stp m h H m' h' H' ∧ SO K CA m' h' H' σ' ρ' ∧ PostS K CA W m' h' H' D' (dForL tg u (ds.drop i) ρ' h'), ⟨ds.length, rfl, m, h, ρ, .refl, S, q⟩, ?_⟩
  rintro i n σ' H' ⟨hm, m', h', ρ', st', S', q'⟩
  cases hd : ds[i]? with
  | none =>
    have hlen : ds.length ≤ i := List.getElem?_eq_none_iff.mp hd
    obtain rfl : i = ds.length := by omega
    rw [List.drop_length] at q'
    exact .inl ⟨wk.stop m' h' H' st'.toSz S'.hr, q' m' σ' H' .refl S'⟩
  | some d =>
    obtain ⟨hlt, ed⟩ := List.getElem?_eq_some_iff.mp hd
    rw [List.drop_eq_getElem_cons hlt, ed] at q'
    obtain ⟨go, yl⟩ := wk.go i m' h' H' d st'.toSz S'.hr hd
    refine .inr ⟨go, fun σ3 H3 => ∃ m3 h3 ρ3, Stp m h H m3 h3 H3 ∧ SO K CA m3 h3 H3 σ3 ρ3 ∧ PostS K CA W m3 h3 H3 D' (dForL tg u (ds.drop (i + 1)) ρ3 h3), fun σ3 H3 n3 => ⟨n - 1, by omega, by omega, n3⟩, fun x H2 y2 => ?_⟩
    obtain ⟨gr, r2⟩ := yl x H2 y2
    have a2 := stp_grow S'.hr gr
    have w2 := S'.hr.grow gr
    have q2 := q'.from a2
    unfold dForL at q2
    refine s' m' h' H2 σ' ρ' x d _ (S'.move a2 w2) r2 (put_post q2 fun ρ4 h4 m4 σ4 H4 s4 S4 q4 => ?_)
    refine s'' m4 h4 H4 σ4 ρ4 _ S4 ?_
    have stp4 : Stp m h H m4 h4 H4 := (st'.trans a2).trans s4
    cases e : u ρ4 h4 with
    | nx ρ5 h5 => rw [e] at q4; exact fun m5 σ5 H5 s5 S5 => ⟨m5, h5, ρ5, stp4.trans s5, S5, q4.from s5⟩
    | ct ρ5 h5 => rw [e] at q4; exact fun m5 σ5 H5 s5 S5 => ⟨m5, h5, ρ5, stp4.trans s5, S5, q4.from s5⟩
    | bk ρ5 h5 => rw [e] at q4; exact q4
    | rt d5 h5 => rw [e] at q4; exact q4
    | ex ρ5 c fs h5 => rw [e] at q4; exact q4
    | no => rw [e] at q4; exact q4
theorem PostI.bindS {m : Mp} {h : CH} {H : Hp} {σ : L2.St} {ρ : DE} {D' : Ends} {H0 : Hp} {r : R (List D × Unl)} {k : List D × Unl → CH → RS} {R' : It → Hp → Prop} (S : SO K CA m h H σ ρ) (q : PostS K CA W m h H D' (r.toS ρ k))
    (f : ∀ w h1 m1 J H1, Stp m h H m1 h1 H1 → HR K CA m1 h1 H1 → Wk K CA m1 h1 H1 J w.1 → UnlOk K CA H0 m h H m1 h1 H1 w.2 → PostS K CA W m h H D' (k w h1) → R' J H1) : PostI K CA W H0 m h H σ R' r := by
  cases r with
  | ok w h1 => exact fun m1 J H1 s S1 wk uo => f w h1 m1 J H1 s S1 wk uo q
  | ex c fs h1 => exact fun m' cls dd H' s S1 x => q m' cls dd σ H' s (S.move s S1) x
  | no => exact q
theorem unl_at {m m1 m2 : Mp} {h h1 h2 : CH} {H H1 H2 : Hp} {u : Unl} {P : Hp → Prop} (s : Stp m h H m1 h1 H1) (uo : UnlOk K CA X.H_0 m h H m1 h1 H1 u) (s2 : Stp m1 h1 H1 m2 h2 H2) (S2 : HR K CA m2 h2 H2)
    (f : ∀ H3, Stp m h H m2 (unlH u h2) H3 → HR K CA m2 (unlH u h2) H3 → (∀ v d, Rp K CA m2 h2 H2 v d → Rp K CA m2 (unlH u h2) H3 v d) → P H3) : UnlP X P H2 := by
  cases u with
  | none => exact .inl (f H2 (s.trans s2) S2 fun _ _ r => r)
  | some p =>
    obtain ⟨k, kvs⟩ := p
    obtain ⟨o', H3, eo, e, s3, S3⟩ := uo m2 h2 H2 s2 S2
    rcases e with rfl | ⟨od, hk, e, n, rfl⟩
    · refine .inl (f _ s3 S3 fun _ _ r => ?_)
      obtain ⟨u, q⟩ := (S2.ob _ _ eo).2.some
      have := r.mv (mv_put (o' := kvs) (u := u) eo)
      rw [upd_eq q] at this
      exact this
    · exact .inr ⟨m2 k, od, _, e, n, f _ s3 S3 fun _ _ r => r.mv (mv_put eo)⟩
theorem post_unl {m m1 : Mp} {h h1 : CH} {H H1 : Hp} {D' : Ends} {r : RS} {u : Unl} (s : Stp m h H m1 h1 H1) (uo : UnlOk K CA X.H_0 m h H m1 h1 H1 u) (q : PostS K CA W m h H D' (r.unl u)) : PostS K CA W m1 h1 H1 (unlE X D') r := by
  have so : ∀ {m2 : Mp} {h2 : CH} {H2 H3 : Hp} {σ : L2.St} {ρ : DE}, SO K CA m2 h2 H2 σ ρ → HR K CA m2 (unlH u h2) H3 → (∀ v d, Rp K CA m2 h2 H2 v d → Rp K CA m2 (unlH u h2) H3 v d) → SO K CA m2 (unlH u h2) H3 σ ρ := fun S2 S3 k => ⟨S3, S2.len, fun i d e => let ⟨v, e1, q⟩ := S2.sl i d e; ⟨v, e1, k v d q⟩⟩
  cases r with
  | nx ρ' h' => exact fun m2 σ2 H2 s2 S2 => unl_at s uo s2 S2.hr fun H3 s3 S3 k => q m2 σ2 H3 s3 (so S2 S3 k)
  | rt d h' => exact fun m2 v H2 s2 S2 r => unl_at s uo s2 S2 fun H3 s3 S3 k => q m2 v H3 s3 S3 (k v d r)
  | bk ρ' h' => exact fun m2 σ2 H2 s2 S2 => unl_at s uo s2 S2.hr fun H3 s3 S3 k => q m2 σ2 H3 s3 (so S2 S3 k)
  | ct ρ' h' => exact fun m2 σ2 H2 s2 S2 => unl_at s uo s2 S2.hr fun H3 s3 S3 k => q m2 σ2 H3 s3 (so S2 S3 k)
  | ex ρ' c fs h' => exact fun m2 cls dd σ2 H2 s2 S2 x => q m2 cls dd σ2 H2 (s.trans s2) S2 x
  | no => exact q
abbrev tForU (X : Cx) (wH : TI) (gH : TG) (tb : TS) : TS := fun D σ H => tFor wH gH tb (unlE X D) σ H
theorem ws_for {sl : List Nat} (hi : WI X K CA W a iter wH ti) (hg : WG X K CA a sl gH tg) (hb : WSs X K CA W body tb u)
    (hp : PI X a iter wH → PG X a gH → PSs X body tb → PS X st (tFor wH gH tb)) : WS X K CA W st (tForU X wH gH tb) (dFor ti tg u) :=
  ⟨ps_unl (hp hi.pe hg.pe hb.pe), fun m h H σ ρ D' S q => hi.sim m h H σ ρ _ S (PostI.bindS S q fun w h1 m1 J H1 s1 S1 wk uo q1 => by
    obtain ⟨Wl, w0, w1⟩ := sim_forL hg.sim hb.sim (S.move s1 S1) wk (post_unl s1 uo q1)
    refine ⟨Wl, w0, fun i n σ' H' hw => ?_⟩
    rcases w1 i n σ' H' hw with z | ⟨z, Nx, z1, z2⟩
    · exact .inl z
    · exact .inr ⟨z, Nx, z1, z2⟩)⟩
theorem PostI.bind {α β : Type} {RR : Mp → CH → Hp → β → α → Prop} {Q1 : β → Hp → Prop} {m : Mp} {h : CH} {H : Hp} {σ : L2.St} {H0 : Hp} {r : R α} {k : α → CH → R (List D × Unl)} {R' : It → Hp → Prop} (q : PostI K CA W H0 m h H σ R' (r.bind k))
    (f : ∀ a h1 m1 b H1, Stp m h H m1 h1 H1 → HR K CA m1 h1 H1 → RR m1 h1 H1 b a → PostI K CA W H0 m h H σ R' (k a h1) → Q1 b H1) : PostG K CA W RR m h H σ Q1 r := by
  cases r with
  | ok a h1 => exact fun m1 b H1 s S rr => f a h1 m1 b H1 s S rr q
  | ex c fs h1 => exact q
  | no => exact q
theorem postI_ite {m : Mp} {h : CH} {H : Hp} {σ : L2.St} {H0 : Hp} {R' : It → Hp → Prop} {c : Prop} [Decidable c] {r : R (List D × Unl)} (t : PostI K CA W H0 m h H σ R' (if c then r else .no)) : c ∧ PostI K CA W H0 m h H σ R' r := by
  by_cases q : c
  · rw [if_pos q] at t; exact ⟨q, t⟩
  · rw [if_neg q] at t; exact t.elim
theorem PostI.walk {m m1 : Mp} {h h1 : CH} {H H1 : Hp} {σ : L2.St} {H0 : Hp} {ds : List D} {J : It} {R' : It → Hp → Prop} (q : PostI K CA W H0 m h H σ R' (.ok (ds, none) h1)) (s : Stp m h H m1 h1 H1) (S : HR K CA m1 h1 H1) (wk : Wk K CA m1 h1 H1 J ds) : R' J H1 := q m1 J H1 s S wk trivial
def iSeq (K : PySem.W.Frag) (tl : TE) : TI := fun σ H R => tl σ H fun x H1 => ∃ a, x = .ref a ∧ (((∃ xs, SqL K H1 a xs) ∧ R (Itl K a) H1) ∨ ((∃ xs, SqT K H1 a xs) ∧ R (Itt K a) H1))
theorem pi_seq {tl : TE} (hl : PE X l tl) (hK : X.K = K := by rfl) : PI X tge l (iSeq K tl) := by
  subst hK
  refine ⟨fun pins s σ H R I q => thn (hl.run pins s σ H _ I q) fun v s1 hv => ?_⟩
  obtain ⟨x, H1, I1, r1, a, rfl, hq⟩ := hv
  cases r1
  have new : ∀ o, Inv X pins σ H1 { s1 with heap := s1.heap.push o } := fun o => I1.kept (t' := s1.toks) fun b o e => Heap.get?_push_of_some _ e
  have fp : ∀ b ∈ [s1.heap.objs.size], FpOk X pins H1 b := fun b hb => by
    rw [List.mem_singleton] at hb
    rw [hb]
    exact I1.fpOk (Nat.le_refl _) (I1.hok.fresh (Nat.le_refl _))
  rcases hq with ⟨⟨xs, hx⟩, q⟩ | ⟨⟨xs, hx⟩, q⟩
  · obtain ⟨its, _, pl, _⟩ := I1.list hx
    exact wpAny_pyIter_list pl.isList ⟨_, _, _, _, H1, rfl, new _, turn_list a _, ⟨_, Heap.get?_push_size _ rfl, rfl, rfl⟩, fp, q⟩
  · obtain ⟨its, _, pl, _⟩ := I1.tuple hx
    exact wpAny_pyIter_tuple (show s1.heap.IsTuple a its.toArray from pl) ⟨_, _, _, _, H1, rfl, new _, turn_tuple a _, ⟨_, Heap.get?_push_size _ rfl, rfl, rfl⟩, fp, q⟩
section
variable {m : Mp} {h : CH} {H : Hp} {ds : List D} {xs : List V}
theorem wk_list {a : Addr} (k : ∀ m' h' H', Sz m h H m' h' H' → SqL K H' a xs) (r : RpAll K CA m h H xs ds) : Wk K CA m h H (Itl K a) ds :=
  ⟨fun i m' h' H' d s S hd => by
    obtain ⟨v, hv, rv⟩ := r.getD hd
    have e' := k m' h' H' s
    refine ⟨⟨xs, v, e', hv⟩, fun x H2 y => ?_⟩
    obtain ⟨rfl, hy⟩ := y
    have ex := (hy xs e').symm.trans hv
    cases ex
    exact ⟨fun _ _ q => q, rv.mv s.toMv⟩, fun m' h' H' s S => ⟨xs, k m' h' H' s, by rw [r.length]; exact Nat.le_refl _⟩⟩
theorem wk_tup {a : Addr} (k : ∀ m' h' H', Sz m h H m' h' H' → SqT K H' a xs) (r : RpAll K CA m h H xs ds) : Wk K CA m h H (Itt K a) ds :=
  ⟨fun i m' h' H' d s S hd => by
    obtain ⟨v, hv, rv⟩ := r.getD hd
    have e' := k m' h' H' s
    refine ⟨⟨xs, v, e', hv⟩, fun x H2 y => ?_⟩
    obtain ⟨rfl, hy⟩ := y
    have ex := (hy xs e').symm.trans hv
    cases ex
    exact ⟨fun _ _ q => q, rv.mv s.toMv⟩, fun m' h' H' s S => ⟨xs, k m' h' H' s, by rw [r.length]; exact Nat.le_refl _⟩⟩
theorem keep_lst {a : Addr} (n : ¬ Live m h a) (e : H a = some (.lst xs)) : ∀ m' h' H', Sz m h H m' h' H' → SqL K H' a xs := fun m' h' H' s => by
  obtain ⟨_, o, e', l⟩ := s.kp a _ n e trivial
  exact .of (by rw [e', core_lst l.core])
theorem keep_tup {a : Addr} (n : ¬ Live m h a) (e : H a = some (.tup xs)) : ∀ m' h' H', Sz m h H m' h' H' → SqT K H' a xs := fun m' h' H' s => by
  obtain ⟨_, o, e', l⟩ := s.kp a _ n e trivial
  exact .of (by rw [e', core_tup l.core])
theorem all_ints : ∀ ns : List Int, RpAll K CA m h H (ns.map V.int) (ns.map D.int)
  | [] => .nil
  | n :: ns => .cons (.int n) (all_ints ns)
end
theorem wi_seq (h : WE X K CA W l ha ta) (hK : X.K = K := by rfl) : WI X K CA W tge l (iSeq K ha) (dSeqI ta) := by
  refine ⟨pi_seq h.pe hK, fun m hh H σ ρ R' S t => h.sim m hh H σ ρ _ S (PostI.bind t fun d h1 m1 v H1 s1 S1 r1 t1 => ?_)⟩
  cases r1 with
  | lst n e r => exact ⟨_, rfl, .inl ⟨⟨_, .of e⟩, t1.walk s1 S1 (wk_list (keep_lst n e) r)⟩⟩
  | tup n e r => exact ⟨_, rfl, .inr ⟨⟨_, .of e⟩, t1.walk s1 S1 (wk_tup (keep_tup n e) r)⟩⟩
  | ktup e r => exact ⟨_, rfl, .inr ⟨⟨_, sq_emp e⟩, t1.walk s1 S1 (wk_tup (fun _ _ _ _ => sq_emp e) r)⟩⟩
  | scr n e => exact ⟨_, rfl, .inl ⟨⟨_, .inl (.inr ⟨_, e⟩)⟩, t1.walk s1 S1 (wk_list (fun m' h' H' s => by
      obtain ⟨_, o, e', l⟩ := s.kp _ _ n e trivial
      exact .inl (.inr ⟨_, by rw [e', l.frz]⟩)) (all_ints _))⟩⟩
  | kscr e => exact ⟨_, rfl, .inl ⟨⟨_, sl_emp e⟩, t1.walk s1 S1 (wk_list (fun _ _ _ _ => sl_emp e) (all_ints _))⟩⟩
  | @ref k lt =>
    replace t1 : PostI K CA W X.H_0 m hh H σ R' (lockD (.ref k) h1) := t1
    unfold lockD at t1
    simp only at t1
    split at t1
    · rename_i ds eo
      obtain ⟨xs, eH, r, s2, S2⟩ := lockL_ok S1 eo
      refine ⟨m1 k, rfl, .inl ⟨⟨xs, .of eH⟩, t1 m1 _ H1 (s1.trans s2) S2 (wk_list (fun m' h' H' s => ?_) (r.move s2)) ?_⟩⟩
      · obtain ⟨_, q⟩ := s.lk k _ lt put_same id
        exact .of (q.trans eH)
      · intro m2 h2 H2 s3 S3
        obtain ⟨q1, q2, q3⟩ := unlockL_ok S1 eo s3 S3
        exact ⟨_, H2, q1, .inl rfl, s1.trans q2, q3⟩
    · rename_i ds eo
      have x := (S1.ob k _ eo).2
      cases x with
      | @lkl xs _ eH r =>
        refine ⟨m1 k, rfl, .inl ⟨⟨xs, .of eH⟩, t1.walk s1 S1 (wk_list (fun m' h' H' s => ?_) r)⟩⟩
        obtain ⟨_, q⟩ := s.lk k _ lt eo id
        exact .of (q.trans eH)
    · exact t1.elim
  | _ => exact t1.elim
theorem wk_range {m : Mp} {h : CH} {H : Hp} (lo : Int) (n : Nat) : Wk K CA m h H (Itr lo n) (rgD lo n) :=
  ⟨fun i m' h' H' d s S hd => by
    unfold rgD at hd
    rw [List.getElem?_map] at hd
    cases hr : (List.range n)[i]? with
    | none => rw [hr] at hd; cases hd
    | some j =>
      rw [hr] at hd
      obtain ⟨hlt, ej⟩ := List.getElem?_eq_some_iff.mp hr
      rw [List.getElem_range] at ej
      subst ej
      cases hd
      refine ⟨by show i < n; simpa using hlt, fun x H2 y => ?_⟩
      obtain ⟨rfl, rfl⟩ := y
      exact ⟨fun _ _ q => q, .int _⟩, fun m' h' H' s S => by
    show n ≤ (rgD lo n).length
    unfold rgD
    rw [List.length_map, List.length_range]
    exact Nat.le_refl _⟩
theorem wi_rng1 (h : WA X K CA W es hs ts) (hp : PA X es hs → PI X tge l (iRng1 hs)) : WI X K CA W tge l (iRng1 hs) (dRng1 ts) := by
  refine ⟨hp h.pe, fun m hh H σ ρ R' S t => h.sim m hh H σ ρ _ S (PostI.bind t fun ds h1 m1 vs H1 s1 S1 r1 t1 => ?_)⟩
  split at t1
  · rename_i n
    obtain ⟨⟨c1, c2⟩, t1⟩ := postI_ite t1
    cases r1 with
    | cons r1 r2 =>
      cases r1
      cases r2
      exact ⟨n, rfl, c1, c2, t1.walk s1 S1 (wk_range 0 n.toNat)⟩
  · exact t1.elim
theorem wi_rng2 (h : WA X K CA W es hs ts) (hp : PA X es hs → PI X tge l (iRng2 hs)) : WI X K CA W tge l (iRng2 hs) (dRng2 ts) := by
  refine ⟨hp h.pe, fun m hh H σ ρ R' S t => h.sim m hh H σ ρ _ S (PostI.bind t fun ds h1 m1 vs H1 s1 S1 r1 t1 => ?_)⟩
  split at t1
  · rename_i i j
    obtain ⟨c, t1⟩ := postI_ite t1
    cases r1 with
    | cons r1 r2 =>
      cases r1
      cases r2 with
      | cons r2 r3 =>
        cases r2
        cases r3
        exact ⟨i, j, rfl, c, t1.walk s1 S1 (wk_range i (j - i).toNat)⟩
  · exact t1.elim
theorem enD_get : ∀ (xs : List D) (k i : Nat) (d : D), (enD k xs)[i]? = some d → ∃ x, xs[i]? = some x ∧ d = .tup [.int ((k + i : Nat) : Int), x]
  | [], k, i, d, h => by simp [enD] at h
  | x :: xs, k, 0, d, h => by simp [enD] at h; exact ⟨x, rfl, by rw [← h]; rfl⟩
  | x :: xs, k, i + 1, d, h => by
    obtain ⟨y, h1, h2⟩ := enD_get xs (k + 1) i d (by simpa [enD] using h)
    exact ⟨y, by simpa using h1, by rw [h2]; congr 4; omega⟩
theorem enD_length : ∀ (xs : List D) (k : Nat), (enD k xs).length = xs.length
  | [], _ => rfl
  | _ :: xs, k => by simp [enD, enD_length xs (k + 1)]
theorem wk_enum {m : Mp} {h : CH} {H : Hp} {a : Addr} {xs : List V} {ds : List D} (n : ¬ Live m h a) (e : H a = some (.lst xs)) (r : RpAll K CA m h H xs ds) : Wk K CA m h H (Ite K a) (enD 0 ds) :=
  ⟨fun i m' h' H' d s S hd => by
    obtain ⟨y, hy, rfl⟩ := enD_get ds 0 i d hd
    obtain ⟨v, hv, rv⟩ := r.getD hy
    have e' := keep_lst (K := K) n e m' h' H' s
    refine ⟨⟨xs, v, e', hv⟩, fun x H2 yl => ?_⟩
    obtain ⟨T, z, rfl, nT, rfl, hz⟩ := yl
    have ex := (hz xs e').symm.trans hv
    cases ex
    have ri : ((0 + i : Nat) : Int) = ((i : Nat) : Int) := by omega
    rw [ri]
    exact ⟨upd_new nT, .tup (S.fresh nT) upd_same (.cons (.int _) (.cons ((rv.mv s.toMv).move (stp_laid S nT)) .nil))⟩, fun m' h' H' s S => ⟨xs, keep_lst n e m' h' H' s, by rw [enD_length, r.length]; exact Nat.le_refl _⟩⟩
end
def kD : Key → D
  | .inl i => .int i
  | .inr x => .str x
section
variable {X : Cx} {K : PySem.W.Frag} {CA : CAs} {W : WX} {e tge iter : Expr} {ha : TE} {ta : TD} {m : Mp} {h : CH} {H : Hp}
theorem len_of {hk : List (Key × V)} {kvs : List (Key × D)} (en : hk.map (·.1) = kvs.map (·.1)) : hk.length = kvs.length := by simpa using congrArg List.length en
def wipeD (ρ : DE) : List Nat → DE
  | [] => ρ
  | v :: vs => (wipeD ρ vs).set v none
def dYes : TB := fun _ h => .ok true h
def dLcL (tg : TGD) (tt : TB) (te : TD) (ρ0 : DE) : List D → CH → R (List D)
  | [], h => .ok [] h
  | d :: r, h => (tg d ρ0 h).calm fun ρ2 h => (tt ρ2 h).calm fun b h => if b = true then (te ρ2 h).calm fun y h => (dLcL tg tt te ρ0 r h).bind fun ys h => .ok (y :: ys) h
    else dLcL tg tt te ρ0 r h
def dLc (nm : Bool) (ti : TDw) (tg : TGD) (tt : TB) (te : TD) (vs : List Nat) : TD := fun ρ h => (ti ρ h).bind fun w h => if w.1.length ≤ sizeLine then ((dLcL tg tt te (wipeD ρ vs) w.1 h).bind fun ys h => mkL nm ys h).unl w.2 else .no
section
variable {m m1 m2 : Mp} {h1 h2 : CH} {H1 H2 : Hp} {σ : L2.St} {ρ : DE} {p : Addr} {Q' : VK}
theorem wipe_at {σ : L2.St} {vs : List Nat} {j : Nat} (h : j ∉ vs) : (wipe σ vs)[j]? = σ[j]? := by
  induction vs with
  | nil => rfl
  | cons v vs ih =>
    simp only [List.mem_cons, not_or] at h
    unfold wipe
    rw [List.getElem?_set_ne (Ne.symm h.1)]
    exact ih h.2
theorem wipeD_len (ρ : DE) (vs : List Nat) : (wipeD ρ vs).length = ρ.length := by
  induction vs with
  | nil => rfl
  | cons v vs ih => unfold wipeD; rw [List.length_set, ih]
theorem wipeD_some {ρ : DE} {vs : List Nat} {j : Nat} {s : D} (h : (wipeD ρ vs)[j]? = some (some s)) : j ∉ vs ∧ ρ[j]? = some (some s) := by
  induction vs with
  | nil => exact ⟨by simp, h⟩
  | cons v vs ih =>
    unfold wipeD at h
    rcases set_some h with ⟨_, q⟩ | ⟨n, q⟩
    · cases q
    · obtain ⟨h1, h2⟩ := ih q
      exact ⟨by simp [n, h1], h2⟩
theorem SO.wiped (S : SO K CA m h H σ ρ) (vs : List Nat) : SO K CA m h H (wipe σ vs) (wipeD ρ vs) :=
  ⟨S.hr, by rw [wipe_length, wipeD_len]; exact S.len, fun j s e => by
    obtain ⟨h1, h2⟩ := wipeD_some e
    obtain ⟨v, e1, r⟩ := S.sl j s h2
    exact ⟨v, by rw [wipe_at h1]; exact e1, r⟩⟩
abbrev W0 : WX := fun _ _ _ _ => False
theorem wipe_none {σ : L2.St} {vs : List Nat} {j : Nat} (h : j ∈ vs) : (wipe σ vs)[j]? = none ∨ (wipe σ vs)[j]? = some none := by
  induction vs with
  | nil => cases h
  | cons w ws ih =>
    unfold wipe
    by_cases q : w = j
    · subst q
      by_cases l : w < (wipe σ ws).length
      · exact .inr (List.getElem?_set_self l)
      · exact .inl (by rw [List.getElem?_eq_none_iff, List.length_set]; omega)
    · rw [List.getElem?_set_ne q]
      rcases List.mem_cons.mp h with z | z
      · exact absurd z.symm q
      · exact ih z
theorem wipe_eq {σ σ' : L2.St} {vs : List Nat} (hl : σ'.length = σ.length) (h : ∀ j, j ∉ vs → σ'[j]? = σ[j]?) : wipe σ' vs = wipe σ vs := by
  apply List.ext_getElem?
  intro j
  by_cases hj : j ∈ vs
  · have l1 := wipe_length σ' vs
    have l2 := wipe_length σ vs
    by_cases lt : j < σ.length
    · have k1 := wipe_none (σ := σ') hj
      have k2 := wipe_none (σ := σ) hj
      have n1 : (wipe σ' vs)[j]? ≠ none := fun z => by have := List.getElem?_eq_none_iff.mp z; omega
      have n2 : (wipe σ vs)[j]? ≠ none := fun z => by have := List.getElem?_eq_none_iff.mp z; omega
      rw [k1.resolve_left n1, k2.resolve_left n2]
    · rw [List.getElem?_eq_none_iff.mpr (by omega), List.getElem?_eq_none_iff.mpr (by omega)]
  · rw [wipe_at hj, wipe_at hj]
    exact h j hj
theorem named_kp {zs : List Addr} (S2 : HR K CA m2 h2 H2) (z2 : m2.z = p :: zs) {o : MO} : ∀ a w, ¬ Live m2 h2 a → H2 a = some w → NoTb w → ¬ Live (mpNew ⟨m2.f, zs⟩ h2 p) (h2.new o) a ∧ ∃ o', H2 a = some o' ∧ Lk w o' := fun a w l e _ => ⟨fun z => l (by
    rcases z with ⟨k, u, q, rfl⟩ | z
    · unfold CH.new at q
      by_cases c : k = h2.nx
      · subst c
        have e2 : (mpNew ⟨m2.f, zs⟩ h2 p) h2.nx = p := mpNew_nx
        exact .inr (by rw [z2, e2]; exact List.mem_cons_self ..)
      · simp only [if_neg c] at q
        have e2 : (mpNew ⟨m2.f, zs⟩ h2 p) k = m2 k := mpNew_lt (m := ⟨m2.f, zs⟩) (S2.ob k u q).1
        exact .inl ⟨k, u, q, e2.symm⟩
    · exact .inr (by rw [z2]; exact List.mem_cons_of_mem _ z)), w, e, .inl rfl⟩
theorem RpAll.named {zs : List Addr} (S2 : HR K CA m2 h2 H2) (z2 : m2.z = p :: zs) {o : MO} {vs : List V} {ds : List D} (r : RpAll K CA m2 h2 H2 vs ds) : RpAll K CA (mpNew ⟨m2.f, zs⟩ h2 p) (h2.new o) H2 vs ds :=
  RpAll.mv0 (m := m2) (h := h2) (H := H2) (m' := mpNew ⟨m2.f, zs⟩ h2 p) (h' := h2.new o) (H' := H2) (Nat.le_succ _) (fun k l => mpNew_lt (m := ⟨m2.f, zs⟩) l) (named_kp S2 z2) r
theorem done_named (S : HR K CA m1 h1 H1) (n : H1 p = none) {u : HO} (s : Sc p (m1.add p) h1 (upd H1 p u) m2 h2 H2) (S2 : HR K CA m2 h2 H2) {o : MO} (x : MOk K CA (mpNew ⟨m2.f, m1.z⟩ h2 p) (h2.new o) H2 p o) :
    Stp m1 h1 H1 (mpNew ⟨m2.f, m1.z⟩ h2 p) (h2.new o) H2 ∧ HR K CA (mpNew ⟨m2.f, m1.z⟩ h2 p) (h2.new o) H2 := by
  have z2 : m2.z = p :: m1.z := s.z
  have sd := stp_done S n s
  have key : ∀ j u, (h2.new o).ob j = some u → (j = h2.nx ∧ u = o) ∨ (j < h2.nx ∧ h2.ob j = some u) := fun j u e => by
    unfold CH.new at e
    by_cases q : j = h2.nx
    · simp only [if_pos q] at e; cases e; exact .inl ⟨q, rfl⟩
    · simp only [if_neg q] at e
      exact .inr ⟨(S2.ob j u e).1, e⟩
  have pz : p ∈ m2.z := by rw [z2]; exact List.mem_cons_self ..
  have off : ∀ j u, h2.ob j = some u → m2 j ≠ p := fun j u e z => S2.zn j u e (by rw [z]; exact pz)
  have at0 : (mpNew ⟨m2.f, m1.z⟩ h2 p) h2.nx = p := mpNew_nx
  have at1 : ∀ k, k < h2.nx → (mpNew ⟨m2.f, m1.z⟩ h2 p) k = m2 k := fun k l => mpNew_lt (m := ⟨m2.f, m1.z⟩) l
  refine ⟨.mk' ⟨Nat.le_trans sd.nx (Nat.le_succ _), fun k l => (at1 k (Nat.lt_of_lt_of_le l sd.nx)).trans (sd.mp k l), fun a w l e nt => ?_⟩ (fun k kvs l e ld => ?_) rfl (fun a l => sd.zk a l), ⟨fun j w e => ?_, fun i j u w e1 e2 e3 => ?_, fun j w e => ?_, fun a l => ?_, S2.tb⟩⟩
  · have ne : a ≠ p := ne_of_none e n
    obtain ⟨l2, o', e', lk⟩ := s.kp a w (fun z => by
      rcases z with ⟨k, u, q, rfl⟩ | z
      · exact l (.inl ⟨k, u, q, rfl⟩)
      · rcases List.mem_cons.mp z with z | z
        · exact ne z
        · exact l (.inr z)) (by rw [upd_ne ne]; exact e) nt
    exact ⟨(named_kp S2 z2 a o' l2 e' (lk_nt lk nt)).1, o', e', lk⟩
  · obtain ⟨a1, a2⟩ := sd.lk k kvs l e ld
    refine ⟨?_, a2⟩
    unfold CH.new
    simp only [if_neg (Nat.ne_of_lt (Nat.lt_of_lt_of_le l sd.nx))]
    exact a1
  · rcases key j w e with ⟨rfl, rfl⟩ | ⟨l, q⟩
    · exact ⟨Nat.lt_succ_self _, by rw [at0]; exact x⟩
    · refine ⟨Nat.lt_succ_of_lt l, ?_⟩
      rw [at1 j l]
      exact (S2.ob j w q).2.mv ⟨Nat.le_succ _, at1, named_kp S2 z2⟩ rfl
  · rcases key i u e1 with ⟨rfl, rfl⟩ | ⟨l1, q1⟩
    · rcases key j w e2 with ⟨rfl, rfl⟩ | ⟨l2, q2⟩
      · rfl
      · rw [at0, at1 j l2] at e3
        exact absurd e3.symm (off j w q2)
    · rcases key j w e2 with ⟨rfl, rfl⟩ | ⟨l2, q2⟩
      · rw [at0, at1 i l1] at e3
        exact absurd e3 (off i u q1)
      · rw [at1 i l1, at1 j l2] at e3
        exact S2.inj i j u w q1 q2 e3
  · rcases key j w e with ⟨rfl, rfl⟩ | ⟨l, q⟩
    · rw [at0]; exact fun z => S.fresh n (.inr z)
    · rw [at1 j l]; exact fun z => S2.zn j w q (by rw [z2]; exact List.mem_cons_of_mem _ z)
  · exact S2.zh a (by rw [z2]; exact List.mem_cons_of_mem _ l)
theorem done_data (S : HR K CA m1 h1 H1) (n : H1 p = none) {u : HO} (s : Sc p (m1.add p) h1 (upd H1 p u) m2 h2 H2) (S2 : HR K CA m2 h2 H2) : ¬ Live ⟨m2.f, m1.z⟩ h2 p := fun z => by
  have z2 : m2.z = p :: m1.z := s.z
  rcases z with ⟨k, o, e, q⟩ | z
  · exact S2.zn k o e (by rw [z2]; have q' : m2 k = p := q; rw [q']; exact List.mem_cons_self ..)
  · exact S.fresh n (.inr z)
theorem doneL {nm : Bool} {acc : List V} {ds : List D} {Q1 : VK} {mb : Mp} {hb : CH} {Hb : Hp} (sb : Stp mb hb Hb m1 h1 H1) (S : HR K CA m1 h1 H1) (n : H1 p = none) {u : HO} (s : Sc p (m1.add p) h1 (upd H1 p u) m2 h2 H2) (S2 : HR K CA m2 h2 H2) (e : H2 p = some (.lst acc)) (r : RpAll K CA m2 h2 H2 acc ds) {un : Unl}
    (uo : UnlOk K CA X.H_0 mb hb Hb m1 h1 H1 un) (t : PostE K CA W mb hb Hb σ Q1 ((mkL nm ds h2).unl un)) : UnlP X (Q1 (.ref p)) H2 := by
  have z2 : m2.z = p :: m1.z := s.z
  cases nm with
  | true =>
    obtain ⟨s3, S3⟩ := done_named (o := .lst ds) S n s S2 (.lst e (r.named S2 z2))
    refine unl_at sb uo s3 S3 fun H3 s4 S4 k => t _ _ H3 s4 S4 (k _ _ ?_)
    have := Rp.ref (K := K) (CA := CA) (m := mpNew ⟨m2.f, m1.z⟩ h2 p) (h := h2.new (.lst ds)) (H := H2) (k := h2.nx) (Nat.lt_succ_self _)
    rw [show (mpNew ⟨m2.f, m1.z⟩ h2 p) h2.nx = p from mpNew_nx] at this
    exact this
  | false => exact unl_at sb uo (stp_done S n s) (S2.done z2) fun H3 s4 S4 k => t _ _ H3 s4 S4 (k _ _ (.lst (done_data S n s S2) e (r.done z2)))
theorem doneD {nm : Bool} {acc : List (Key × V)} {ds : List (Key × D)} {Q1 : VK} {mb : Mp} {hb : CH} {Hb : Hp} (sb : Stp mb hb Hb m1 h1 H1) (S : HR K CA m1 h1 H1) (n : H1 p = none) {u : HO} (s : Sc p (m1.add p) h1 (upd H1 p u) m2 h2 H2) (S2 : HR K CA m2 h2 H2) (e : H2 p = some (.dK acc)) (en : acc.map (·.1) = ds.map (·.1)) (r : RpAll K CA m2 h2 H2 (acc.map (·.2)) (ds.map (·.2))) {un : Unl}
    (uo : UnlOk K CA X.H_0 mb hb Hb m1 h1 H1 un) (t : PostE K CA W mb hb Hb σ Q1 ((mkD nm ds h2).unl un)) : UnlP X (Q1 (.ref p)) H2 := by
  have z2 : m2.z = p :: m1.z := s.z
  cases nm with
  | true =>
    obtain ⟨s3, S3⟩ := done_named (o := .dct ds) S n s S2 (.dct e en (r.named S2 z2))
    refine unl_at sb uo s3 S3 fun H3 s4 S4 k => t _ _ H3 s4 S4 (k _ _ ?_)
    have := Rp.ref (K := K) (CA := CA) (m := mpNew ⟨m2.f, m1.z⟩ h2 p) (h := h2.new (.dct ds)) (H := H2) (k := h2.nx) (Nat.lt_succ_self _)
    rw [show (mpNew ⟨m2.f, m1.z⟩ h2 p) h2.nx = p from mpNew_nx] at this
    exact this
  | false => exact unl_at sb uo (stp_done S n s) (S2.done z2) fun H3 s4 S4 k => t _ _ H3 s4 S4 (k _ _ (.dct (done_data S n s S2) e rfl en (r.done z2)))
end
theorem PostI.bindE {α β : Type} {RR : Mp → CH → Hp → β → α → Prop} {m : Mp} {h : CH} {H : Hp} {σ : L2.St} {H0 : Hp} {r : R (List D × Unl)} {k : List D × Unl → CH → R α} {Q2 : β → Hp → Prop} {R' : It → Hp → Prop} (q : PostG K CA W RR m h H σ Q2 (r.bind k))
    (f : ∀ w h1 m1 J H1, Stp m h H m1 h1 H1 → HR K CA m1 h1 H1 → Wk K CA m1 h1 H1 J w.1 → UnlOk K CA H0 m h H m1 h1 H1 w.2 → PostG K CA W RR m h H σ Q2 (k w h1) → R' J H1) : PostI K CA W H0 m h H σ R' r := by
  cases r with
  | ok w h1 => exact fun m1 J H1 s S1 wk uo => f w h1 m1 J H1 s S1 wk uo q
  | ex c fs h1 => exact q
  | no => exact q
abbrev tLcU (X : Cx) (wH : TI) (gH : TG) (hT : TT) (he : TE) (vs : List Nat) : TE := fun σ H Q => tLc wH gH hT he vs σ H fun v => UnlP X (Q v)
theorem sim_lc {nm : Bool} {gH : TG} {tg : TGD} {hT : TT} {tt : TB} {te : TD} {he : TE} {wH : TI} {ti : TDw} {vs sl : List Nat} (hi : SimI K CA W X.H_0 wH ti) (hg : SimG K CA sl gH tg) (ht : SimT K CA W0 hT tt) (hel : SimE K CA W0 he te) (ho : ∀ j, j ∈ sl → j ∈ vs) : SimE K CA W (tLcU X wH gH hT he vs) (dLc nm ti tg tt te vs) := by
  intro m h H σ ρ Q' S t
  refine hi m h H σ ρ _ S (PostI.bindE t fun w h1 m1 J H1 s1 S1 wk uo t1 => ?_)
  obtain ⟨hsz, t1⟩ := post_ite t1
  intro D0 n
  have S2 := S1.add (u := .lst []) n
  have SO2 : SO K CA (m1.add D0) h1 (upd H1 D0 (.lst [])) σ ρ := ⟨S2, S.len, fun i d e => let ⟨v, e1, q⟩ := (S.move s1 S1).sl i d e; ⟨v, e1, q.add n⟩⟩
  refine ⟨fun i k H' => k + i = w.1.length ∧ ∃ acc dacc m' h', Sc D0 (m1.add D0) h1 (upd H1 D0 (.lst [])) m' h' H' ∧ SO K CA m' h' H' σ ρ ∧ H' D0 = some (.lst acc) ∧ dacc.length ≤ i ∧ RpAll K CA m' h' H' acc dacc ∧ PostE K CA W m h H σ Q' (((dLcL tg tt te (wipeD ρ vs) (w.1.drop i) h').bind fun ys h => mkL nm (dacc ++ ys) h).unl w.2),
    ⟨w.1.length, rfl, [], [], m1.add D0, h1, Stp.sc .refl, SO2, upd_same, Nat.le_refl _, .nil, t1⟩, ?_⟩
  rintro i k H' ⟨hk, acc, dacc, m', h', st', S', eD, hl, ra, q'⟩
  have sz0 := sz_add (u := .lst []) S1 n
  cases hd : w.1[i]? with
  | none =>
    have hlen : w.1.length ≤ i := List.getElem?_eq_none_iff.mp hd
    obtain rfl : i = w.1.length := by omega
    rw [List.drop_length] at q'
    refine .inl ⟨wk.stop m' h' H' (sz0.trans st'.toSz) S'.hr, doneL (W := W) (σ := σ) (nm := nm) s1 S1 n st' S'.hr eD ra uo ?_⟩
    have q2 : PostE K CA W m h H σ Q' ((mkL nm (dacc ++ []) h').unl w.2) := q'
    rw [List.append_nil] at q2
    exact q2
  | some d =>
    obtain ⟨hlt, ed⟩ := List.getElem?_eq_some_iff.mp hd
    rw [List.drop_eq_getElem_cons hlt, ed] at q'
    obtain ⟨go, yl⟩ := wk.go i m' h' H' d (sz0.trans st'.toSz) S'.hr hd
    refine .inr ⟨go, fun H3 => ∃ acc dacc m' h', Sc D0 (m1.add D0) h1 (upd H1 D0 (.lst [])) m' h' H3 ∧ SO K CA m' h' H3 σ ρ ∧ H3 D0 = some (.lst acc) ∧ dacc.length ≤ i + 1 ∧ RpAll K CA m' h' H3 acc dacc ∧ PostE K CA W m h H σ Q' (((dLcL tg tt te (wipeD ρ vs) (w.1.drop (i + 1)) h').bind fun ys h => mkL nm (dacc ++ ys) h).unl w.2),
      fun H3 n3 => ⟨k - 1, by omega, by omega, n3⟩, fun x H2 y2 => ?_⟩
    obtain ⟨gr, r2⟩ := yl x H2 y2
    have a2 := stp_grow S'.hr gr
    have S3 := S'.move a2 (S'.hr.grow gr)
    have st3 := st'.trans (a2.sc (p := D0))
    have eD3 := gr _ _ eD
    have ra3 := ra.move a2
    have pz : D0 ∈ m'.z := by rw [st'.z]; exact List.mem_cons_self ..
    have wip : wipe (wipe σ vs) vs = wipe σ vs := wipe_eq (wipe_length _ _) fun j hj => wipe_at hj
    refine hg m' h' H2 (wipe σ vs) (wipeD ρ vs) x d _ (S3.wiped vs) r2 ?_
    unfold dLcL at q'
    cases eg : tg d (wipeD ρ vs) h' with
    | ex c fs h4 => rw [eg] at q'; exact q'.elim
    | no => rw [eg] at q'; exact q'.elim
    | ok ρ2 h4 =>
      rw [eg] at q'
      intro m4 σ4 H4 s4 S4 hl4 hn4
      refine ⟨(wipe_eq hl4 fun j hj => hn4 j fun z => hj (ho j z)).trans wip, ht m4 h4 H4 σ4 ρ2 _ S4 ?_⟩
      have eD4 := (s4.zk D0 pz).trans eD3
      have ra4 := ra3.move s4
      have S4' := S3.move s4 S4.hr
      have pz4 : D0 ∈ m4.z := by rw [s4.z]; exact pz
      replace q' : PostE K CA W m h H σ Q' ((((tt ρ2 h4).calm fun b h => if b = true then (te ρ2 h).calm fun y h => (dLcL tg tt te (wipeD ρ vs) (w.1.drop (i + 1)) h).bind fun ys h => .ok (y :: ys) h else dLcL tg tt te (wipeD ρ vs) (w.1.drop (i + 1)) h).bind fun ys h => mkL nm (dacc ++ ys) h).unl w.2) := q'
      cases et : tt ρ2 h4 with
      | ex c fs h5 => rw [et] at q'; exact q'.elim
      | no => rw [et] at q'; exact q'.elim
      | ok b h5 =>
        rw [et] at q'
        intro m5 b' H5 s5 S5 eb
        cases (show b' = b from eb)
        have eD5 := (s5.zk D0 pz4).trans eD4
        have ra5 := ra4.move s5
        have S5' := S4'.move s5 S5
        have pz5 : D0 ∈ m5.z := by rw [s5.z]; exact pz4
        have st5 := (st3.trans (s4.sc (p := D0))).trans (s5.sc (p := D0))
        cases b with
        | false => exact ⟨acc, dacc, m5, h5, st5, S5', eD5, Nat.le_succ_of_le hl, ra5, q'⟩
        | true =>
          refine hel m5 h5 H5 σ4 ρ2 _ (S4.move s5 S5) ?_
          replace q' : PostE K CA W m h H σ Q' ((((te ρ2 h5).calm fun y h => (dLcL tg tt te (wipeD ρ vs) (w.1.drop (i + 1)) h).bind fun ys h => .ok (y :: ys) h).bind fun ys h => mkL nm (dacc ++ ys) h).unl w.2) := q'
          cases ee : te ρ2 h5 with
          | ex c fs h6 => rw [ee] at q'; exact q'.elim
          | no => rw [ee] at q'; exact q'.elim
          | ok y h6 =>
            rw [ee] at q'
            intro m6 v6 H6 s6 S6 r6
            have eD6 := (s6.zk D0 pz5).trans eD5
            have pz6 : D0 ∈ m6.z := by rw [s6.z]; exact pz5
            have ra6 := (ra5.move s6).append (.cons r6 .nil)
            have S6' := S5'.move s6 S6
            have sm := sc_made (u := .lst (acc ++ [v6])) S6 pz6
            refine ⟨acc, eD6, by rw [ra.length]; omega, acc ++ [v6], dacc ++ [y], m6, h6, (st5.trans (s6.sc (p := D0))).trans sm, ⟨S6.made pz6, S6'.len, fun j dj ej => ?_⟩, upd_same, by simp; exact hl, ra6.mv sm.toMv, ?_⟩
            · obtain ⟨vj, e1, q⟩ := S6'.sl j dj ej
              exact ⟨vj, e1, q.mv sm.toMv⟩
            · have e3 : ∀ r : R (List D), (r.bind fun ys h => R.ok (y :: ys) h).bind (fun ys h => mkL nm (dacc ++ ys) h) = r.bind fun ys h => mkL nm ((dacc ++ [y]) ++ ys) h := fun r => by
                cases r with
                | ok ys h7 => show mkL nm (dacc ++ (y :: ys)) h7 = mkL nm ((dacc ++ [y]) ++ ys) h7; rw [List.append_assoc]; rfl
                | ex c fs h7 => rfl
                | no => rfl
              rw [← e3]
              exact q'
structure WTs (X : Cx) (K : PySem.W.Frag) (CA : CAs) (W : WX) (ifs : List Expr) (tH : TT) (t : TB) : Prop where
  pe : PTs X ifs tH
  sim : SimT K CA W tH t
theorem wts_nil : WTs X K CA W [] L2.tYes dYes := ⟨pts_nil, fun m h H σ ρ Q' S t => t.here S.hr rfl⟩
theorem wts_one {c : Expr} {hB : TT} {tB : TB} (h : WT X K CA W c hB tB) : WTs X K CA W [c] hB tB := ⟨pts_one h.pe, h.sim⟩
section
variable {elt kx vx : Expr} {ifs : List Expr} {pos : Pos} {gH : TG} {tg : TGD} {hT : TT} {tt : TB} {he hk hv : TE} {te tk tv : TD} {wH : TI} {ti : TDw} {st : Stmt}
theorem we_lc (nm : Bool) {scope : Scope} {own : List (Str × Nat)} {sl : List Nat} (hc : X.calm = true) (hN : X.N.Nodup) (hi : WI X K CA W tge iter wH ti) (ok : BlkOk X.N X.env.scope scope own)
    (hg : ∀ (s : Shared) (H : Hp) (C : Addr) (cl : List (Str × Addr)) (fp : List Addr), WG (X.blk s H scope (compEnvC scope cl C X.env) fp) K CA tge sl gH tg)
    (ht : ∀ (s : Shared) (H : Hp) (C : Addr) (cl : List (Str × Addr)) (fp : List Addr), WTs (X.blk s H scope (compEnvC scope cl C X.env) fp) K CA W0 ifs hT tt)
    (hel : ∀ (s : Shared) (H : Hp) (C : Addr) (cl : List (Str × Addr)) (fp : List Addr), WE (X.blk s H scope (compEnvC scope cl C X.env) fp) K CA W0 elt he te)
    (ho : ∀ j, j ∈ sl → j ∈ own.map (·.2)) (hs : ∀ x, foldedSetIterable iter X.env x = pure x := by intro _; rfl) : WE X K CA W (.ListComp elt [⟨tge, iter, ifs, 0⟩] scope pos) (tLcU X wH gH hT he (own.map (·.2))) (dLc nm ti tg tt te (own.map (·.2))) :=
  ⟨pe_unl (pe_lc hc hN hi.pe ok (fun s H C cl fp => (hg s H C cl fp).pe) (fun s H C cl fp => (ht s H C cl fp).pe) (fun s H C cl fp => (hel s H C cl fp).pe) hs), sim_lc hi.sim (hg X.s_0 X.H_0 0 [] []).sim (ht X.s_0 X.H_0 0 [] []).sim (hel X.s_0 X.H_0 0 [] []).sim ho⟩
theorem ws_setLc (nm : Bool) {i : Nat} {y : Str} {py spos : Pos} {scope : Scope} {own : List (Str × Nat)} {sl : List Nat} (hc : X.calm = true) (hN : X.N.Nodup) (hy : X.N[i]? = some y) (hyl : X.env.scope.names.lookup y = some .local)
    (hi : WI X K CA W tge iter wH ti) (ok : BlkOk X.N X.env.scope scope own)
    (hg : ∀ (s : Shared) (H : Hp) (C : Addr) (cl : List (Str × Addr)) (fp : List Addr), WG (X.blk s H scope (compEnvC scope cl C X.env) fp) K CA tge sl gH tg)
    (ht : ∀ (s : Shared) (H : Hp) (C : Addr) (cl : List (Str × Addr)) (fp : List Addr), WTs (X.blk s H scope (compEnvC scope cl C X.env) fp) K CA W0 ifs hT tt)
    (hel : ∀ (s : Shared) (H : Hp) (C : Addr) (cl : List (Str × Addr)) (fp : List Addr), WE (X.blk s H scope (compEnvC scope cl C X.env) fp) K CA W0 elt he te)
    (ho : ∀ j, j ∈ sl → j ∈ own.map (·.2)) (hsw : swapsWith (.ListComp elt [⟨tge, iter, ifs, 0⟩] scope pos) (some (.Name y py)) spos.line X.env = pure true := by rfl) (hs : ∀ x, foldedSetIterable iter X.env x = pure x := by intro _; rfl) :
    WS X K CA W (.Assign [.Name y py] (.ListComp elt [⟨tge, iter, ifs, 0⟩] scope pos) spos) (fun D σ H => tAsg (tLc wH gH hT he (own.map (·.2))) (gName i) (unlE X D) σ H) (dAsg (dLc nm ti tg tt te (own.map (·.2))) (gdName i)) :=
  ⟨ps_unl (ps_setLc hc hN hy hyl hsw hi.pe ok (fun s H C cl fp => (hg s H C cl fp).pe) (fun s H C cl fp => (ht s H C cl fp).pe) (fun s H C cl fp => (hel s H C cl fp).pe) hs),
    sim_asg (sim_lc hi.sim (hg X.s_0 X.H_0 0 [] []).sim (ht X.s_0 X.H_0 0 [] []).sim (hel X.s_0 X.H_0 0 [] []).sim ho) sim_gName⟩
end
end
section
variable {K : PySem.W.Frag} {CA : CAs} {W : WX} {m : Mp} {h : CH} {H : Hp} {σ : L2.St} {Q' : VK} {k : Nat} {o o' : MO} {u : HO} {d : D} {v : V}
theorem PostG.put (t : PostE K CA W m h H σ Q' (.ok d (h.put k o'))) (S : HR K CA m h H) (e : h.ob k = some o) (nl : NotLck o) (x : MOk K CA m (h.put k o') (upd H (m k) u) (m k) o') (r : Rp K CA m h H v d) : Q' v (upd H (m k) u) :=
  t m v _ (stp_put S e nl) (S.put e x) (r.move (stp_put S e nl))
theorem rp_ref (r : Rp K CA m h H v (.ref k)) : v = .ref (m k) := by cases r; rfl
theorem mo_lst {ds : List D} (S : HR K CA m h H) (e : h.ob k = some (.lst ds)) : ∃ xs, H (m k) = some (.lst xs) ∧ RpAll K CA m h H xs ds := by
  have x := (S.ob k _ e).2
  cases x with
  | lst q r => exact ⟨_, q, r⟩
theorem mo_dct {ds : List (Key × D)} (S : HR K CA m h H) (e : h.ob k = some (.dct ds)) : ∃ xs, H (m k) = some (.dK xs) ∧ xs.map (·.1) = ds.map (·.1) ∧ RpAll K CA m h H (xs.map (·.2)) (ds.map (·.2)) := by
  have x := (S.ob k _ e).2
  cases x with
  | dct q en r => exact ⟨_, q, en, r⟩
theorem mo_obj {c : Nat} {ds : List (Str × D)} (S : HR K CA m h H) (e : h.ob k = some (.obj c ds)) : ∃ dx xs, H (m k) = some (.ins (CA c) dx xs) ∧ xs.map (·.1) = ds.map (·.1) ∧ RpAll K CA m h H (xs.map (·.2)) (ds.map (·.2)) := by
  have x := (S.ob k _ e).2
  cases x with
  | obj q en r => exact ⟨_, _, q, en, r⟩
theorem mo_dctT {ds : List (List Key × D)} (S : HR K CA m h H) (e : h.ob k = some (.dctT ds)) : ∃ xs, H (m k) = some (.dT xs) ∧ xs.map (·.1) = ds.map (·.1) ∧ RpAll K CA m h H (xs.map (·.2)) (ds.map (·.2)) := by
  have x := (S.ob k _ e).2
  cases x with
  | dctT q en r => exact ⟨_, q, en, r⟩
end
abbrev FM := D → List D → CH → R D
def isTy (T : String) (x : D) (h : CH) : Bool := match T with
  | "list" => (lstOf h x).isSome
  | "dict" => match x with
    | .ref k => match h.ob k with
      | some (.dct _) => true
      | _ => false
    | _ => false
  | "str" => match x with
    | .str _ => true
    | _ => false
  | _ => false
def dBM (T : String) (f : FM) (to : TD) (ts : TDs) : TD := fun ρ h => (to ρ h).bind fun x h => if isTy T x h = true then (ts ρ h).bind fun xs h => f x xs h else .no
def dBM0 (T : String) (f : FM) (to : TD) : TD := fun ρ h => (to ρ h).bind fun x h => if isTy T x h = true then f x [] h else .no
def SimM (K : PySem.W.Frag) (CA : CAs) (r : V → List V → Hp → VK → Prop) (f : FM) : Prop := ∀ (W : WX) (σ : L2.St) (m : Mp) (h : CH) (H : Hp) (x : V) (dx : D) (xs : List V) (ds : List D) (Q' : VK), HR K CA m h H → Rp K CA m h H x dx → RpAll K CA m h H xs ds → PostE K CA W m h H σ Q' (f dx ds h) → r x xs H Q'
section
variable {X : Cx} {K : PySem.W.Frag} {CA : CAs} {W : WX} {m : Mp} {h : CH} {H : Hp} {e o : Expr} {es : List Expr} {T : String} {r : V → List V → Hp → VK → Prop} {f : FM} {ha : TE} {ta : TD} {hs : TA} {ts : TDs}
theorem isTy_ok {x : V} {d : D} (S : HR K CA m h H) (r : Rp K CA m h H x d) (t : isTy T d h = true) : tyV K T x H := by
  unfold isTy at t
  split at t
  · obtain ⟨ds, e⟩ := Option.isSome_iff_exists.mp t
    obtain ⟨a, xs, rfl, e1, _⟩ := rp_lst S r e
    exact .inl ⟨rfl, xs, .of e1⟩
  · split at t
    · split at t
      · rename_i e
        obtain ⟨xs, q, _⟩ := mo_dct S e
        cases r
        exact .inr (.inr (.inl ⟨rfl, .inl ⟨_, q⟩⟩))
      · cases t
    · cases t
  · split at t
    · cases r; rfl
    · cases t
  · cases t
theorem we_bm (s : SimM K CA r f) (x : WE X K CA W o ha ta) (y : WA X K CA W es hs ts) (hp : PE X o ha → PA X es hs → PE X e (tBM K T r ha hs)) : WE X K CA W e (tBM K T r ha hs) (dBM T f ta ts) :=
  ⟨hp x.pe y.pe, fun m h H σ ρ Q' S t => x.sim m h H σ ρ _ S (t.bind fun d h1 m1 v H1 s1 S1 r1 t1 => by
    obtain ⟨c, t1⟩ := post_ite t1
    exact ⟨isTy_ok S1 r1 c, y.sim m1 h1 H1 σ ρ _ (S.move s1 S1) (t1.bind fun ds h2 m2 vs H2 s2 S2 r2 t2 => s W σ m2 h2 H2 v d vs ds Q' S2 (r1.move s2) r2 t2)⟩)⟩
end
def fAppend : FM := fun x xs h => match x, xs with
  | .ref k, [y] => match h.ob k with
    | some (.lst ds) => if ds.length < sizeLine then .ok .non (h.put k (.lst (ds ++ [y]))) else .no
    | _ => .no
  | _, _ => .no
def fExtend : FM := fun x xs h => match x, xs with
  | .ref k, [y] => match h.ob k, lstOf h y with
    | some (.lst ds), some es => if ds.length + es.length ≤ sizeLine then .ok .non (h.put k (.lst (ds ++ es))) else .no
    | _, _ => .no
  | _, _ => .no
def fPopAt : FM := fun x xs h => match x, xs with
  | .ref k, [.int i] => match h.ob k with
    | some (.lst ds) => if -(2 ^ 63) ≤ i ∧ i < 2 ^ 63 then (match seqIndex? i ds.length with
      | some j => (match ds[j]? with
        | some y => .ok y (h.put k (.lst (ds.eraseIdx j)))
        | none => .no)
      | none => .no) else .no
    | _ => .no
  | _, _ => .no
def fInsert : FM := fun x xs h => match x, xs with
  | .ref k, [.int i, y] => match h.ob k with
    | some (.lst ds) => if ds.length < sizeLine ∧ 0 ≤ i ∧ i < 2 ^ 63 then .ok .non (h.put k (.lst (ds.take i.toNat ++ [y] ++ ds.drop i.toNat))) else .no
    | _ => .no
  | _, _ => .no
section
variable {K : PySem.W.Frag} {CA : CAs}
theorem sim_append : SimM K CA rAppend fAppend := by
  intro W σ m h H x dx xs ds Q' S rx rs t
  unfold fAppend at t
  split at t
  · split at t
    · rename_i e
      obtain ⟨l, t⟩ := post_ite t
      obtain ⟨ys, q, r⟩ := mo_lst S e
      cases rs with
      | @cons v _ _ _ r1 r2 =>
        cases r2
        exact ⟨_, ys, v, rp_ref rx, rfl, q, by rw [r.length]; exact l, t.put S e trivial (.lst upd_same ((r.append (.cons r1 .nil)).mv (mv_put e))) .non⟩
    · exact t.elim
  · exact t.elim
theorem sim_extend : SimM K CA rExtend fExtend := by
  intro W σ m h H x dx xs ds Q' S rx rs t
  unfold fExtend at t
  split at t
  · split at t
    · rename_i e e2
      obtain ⟨l, t⟩ := post_ite t
      obtain ⟨ys, q, r⟩ := mo_lst S e
      cases rs with
      | cons r1 r2 =>
        cases r2
        obtain ⟨b, zs, rfl, q2, rz⟩ := rp_lst S r1 e2
        exact ⟨_, b, ys, zs, rp_ref rx, rfl, q, q2, by rw [r.length, rz.length]; exact l, t.put S e trivial (.lst upd_same ((r.append rz).mv (mv_put e))) .non⟩
    · exact t.elim
  · exact t.elim
theorem sim_popAt : SimM K CA rPopAt fPopAt := by
  intro W σ m h H x dx xs ds Q' S rx rs t
  unfold fPopAt at t
  split at t
  · split at t
    · rename_i e
      obtain ⟨⟨l1, l2⟩, t⟩ := post_ite t
      obtain ⟨ys, q, r⟩ := mo_lst S e
      cases rs with
      | cons r1 r2 =>
        cases r2
        cases r1
        split at t
        · rename_i j ej
          split at t
          · rename_i ey
            obtain ⟨v, ev, rv⟩ := r.getD ey
            exact ⟨_, ys, _, j, v, rp_ref rx, rfl, q, l1, l2, by rw [r.length]; exact ej, ev, t.put S e trivial (.lst upd_same ((r.eraseIdx _).mv (mv_put e))) rv⟩
          · exact t.elim
        · exact t.elim
    · exact t.elim
  · exact t.elim
abbrev rInsert : V → List V → Hp → VK → Prop := fun x vs H Q => ∃ (l : Addr) (xs : List V) (i : Int) (y : V), x = .ref l ∧ vs = [.int i, y] ∧ H l = some (.lst xs) ∧ xs.length < sizeLine ∧ 0 ≤ i ∧ i < 2 ^ 63 ∧
    Q .non (upd H l (.lst (xs.take i.toNat ++ [y] ++ xs.drop i.toNat)))
theorem sim_insert : SimM K CA rInsert fInsert := by
  intro W σ m h H x dx xs ds Q' S rx rs t
  unfold fInsert at t
  split at t
  · split at t
    · rename_i e
      obtain ⟨⟨l1, l2, l3⟩, t⟩ := post_ite t
      obtain ⟨ys, q, r⟩ := mo_lst S e
      cases rs with
      | cons r1 r2 =>
        cases r2 with
        | @cons v _ _ _ r2 r3 =>
          cases r1
          cases r3
          exact ⟨_, ys, _, v, rp_ref rx, rfl, q, by rw [r.length]; exact l1, l2, l3, t.put S e trivial (.lst upd_same ((((r.take _).append (.cons r2 .nil)).append (r.drop _)).mv (mv_put e))) .non⟩
    · exact t.elim
  · exact t.elim
end
def refOf : D → Option Nat
  | .ref r => some r
  | _ => none
theorem refOf_eq {d : D} {r : Nat} (e : refOf d = some r) : d = .ref r := by cases d <;> first | (cases e; rfl) | cases e
def dPairs : List (TD × TD) → DE → CH → R (List (D × D))
  | [], _, h => .ok [] h
  | (tk, tv) :: r, ρ, h => (tk ρ h).bind fun x h => (tv ρ h).bind fun y h => (dPairs r ρ h).bind fun ps h => .ok ((x, y) :: ps) h
def keysOf : List (D × D) → Option (List (Key × D))
  | [] => some []
  | (x, y) :: r => match keyD x, keysOf r with
    | some k, some ks => some ((k, y) :: ks)
    | _, _ => none
def mergeD (kvs more : List (Key × D)) : List (Key × D) := more.foldl (fun acc kv => dPut acc kv.1 kv.2) kvs
def dDisp (nm : Bool) (ts : List (TD × TD)) : TD := fun ρ h => (dPairs ts ρ h).bind fun ps h => match keysOf ps with
  | some kvs => if kvs.length ≤ 15 then mkD nm (mergeD [] kvs) h else .no
  | none => .no
def dDNew (nm : Bool) : TD := fun _ h => mkD nm [] h
def RPs (K : PySem.W.Frag) (CA : CAs) : Mp → CH → Hp → List (V × V) → List (D × D) → Prop := fun m h H ps qs => RpAll K CA m h H (ps.map (·.1)) (qs.map (·.1)) ∧ RpAll K CA m h H (ps.map (·.2)) (qs.map (·.2))
def SimP (K : PySem.W.Frag) (CA : CAs) (W : WX) (trs : List (TE × TE)) (ts : List (TD × TD)) : Prop := ∀ (m : Mp) (h : CH) (H : Hp) (σ : L2.St) (ρ : DE) (Q' : List (V × V) → Hp → Prop), SO K CA m h H σ ρ → PostG K CA W (RPs K CA) m h H σ Q' (dPairs ts ρ h) → tPairs trs σ H Q'
structure WP (X : Cx) (K : PySem.W.Frag) (CA : CAs) (W : WX) (pos : Pos) (keys : List (Option Expr)) (values : List Expr) (trs : List (TE × TE)) (ts : List (TD × TD)) : Prop where
  pe : PPs X pos keys values trs
  sim : SimP K CA W trs ts
section
variable {X : Cx} {K : PySem.W.Frag} {CA : CAs} {W : WX} {m : Mp} {h : CH} {H : Hp} {a b : Expr} {hk hv : TE} {tk tv : TD} {pos : Pos}
theorem wp_nil : WP X K CA W pos [] [] [] [] := ⟨pps_nil, fun m h H σ ρ Q' S t => t.here S.hr ⟨.nil, .nil⟩⟩
theorem wp_cons {ks : List (Option Expr)} {vs : List Expr} {trs : List (TE × TE)} {ts : List (TD × TD)} (x : WE X K CA W a hk tk) (y : WE X K CA W b hv tv) (z : WP X K CA W pos ks vs trs ts) : WP X K CA W pos (some a :: ks) (b :: vs) ((hk, hv) :: trs) ((tk, tv) :: ts) :=
  ⟨pps_cons x.pe y.pe z.pe, fun m h H σ ρ Q' S t => x.sim m h H σ ρ _ S (t.bind fun d1 h1 m1 v1 H1 s1 S1 r1 t1 => y.sim m1 h1 H1 σ ρ _ (S.move s1 S1) (t1.bind fun d2 h2 m2 v2 H2 s2 S2 r2 t2 =>
    z.sim m2 h2 H2 σ ρ _ ((S.move s1 S1).move s2 S2) (t2.bind fun qs h3 m3 ps H3 s3 S3 r3 t3 => t3.here S3 ⟨.cons ((r1.move s2).move s3) r3.1, .cons (r2.move s3) r3.2⟩)))⟩
theorem keys_rel : ∀ (ps : List (V × V)) (qs : List (D × D)) (ks : List (Key × D)), RpAll K CA m h H (ps.map (·.1)) (qs.map (·.1)) → RpAll K CA m h H (ps.map (·.2)) (qs.map (·.2)) → keysOf qs = some ks →
    ∃ kvs : List (Key × V), ps = kvs.map (fun kv => (kV kv.1, kv.2)) ∧ kvs.map (·.1) = ks.map (·.1) ∧ RpAll K CA m h H (kvs.map (·.2)) (ks.map (·.2))
  | [], [], ks, _, _, h => by cases h; exact ⟨[], rfl, rfl, .nil⟩
  | [], _ :: _, _, h, _, _ => by cases h
  | _ :: _, [], _, h, _, _ => by cases h
  | (x, y) :: ps, (d1, d2) :: qs, ks, h1, h2, h => by
    cases h1 with
    | cons a1 b1 =>
      cases h2 with
      | cons a2 b2 =>
        simp only [keysOf] at h
        cases hk : keyD d1 with
        | none => rw [hk] at h; cases h
        | some k =>
          cases hr : keysOf qs with
          | none => rw [hk, hr] at h; cases h
          | some r =>
            rw [hk, hr] at h
            cases h
            obtain ⟨kvs, e1, e2, e3⟩ := keys_rel ps qs r b1 b2 hr
            exact ⟨(k, y) :: kvs, by rw [List.map_cons, ← e1]; have ek : x = kV k := rp_key a1 hk; rw [ek], by rw [List.map_cons, List.map_cons, e2], .cons a2 e3⟩
theorem merge_rel : ∀ (more : List (Key × V)) (dmore : List (Key × D)) (kvs : List (Key × V)) (ds : List (Key × D)), more.map (·.1) = dmore.map (·.1) → RpAll K CA m h H (more.map (·.2)) (dmore.map (·.2)) → kvs.map (·.1) = ds.map (·.1) → RpAll K CA m h H (kvs.map (·.2)) (ds.map (·.2)) →
    (mergeK kvs more).map (·.1) = (mergeD ds dmore).map (·.1) ∧ RpAll K CA m h H ((mergeK kvs more).map (·.2)) ((mergeD ds dmore).map (·.2))
  | [], [], kvs, ds, _, _, e, r => ⟨e, r⟩
  | [], _ :: _, _, _, h, _, _, _ => by simp at h
  | _ :: _, [], _, _, h, _, _, _ => by simp at h
  | (k, y) :: more, (k', d) :: dmore, kvs, ds, h, h', e, r => by
    simp only [List.map_cons, List.cons.injEq] at h
    obtain ⟨rfl, h⟩ := h
    cases h' with
    | cons a b =>
      obtain ⟨e2, r2⟩ := rp_dput (k := k) e r a
      exact merge_rel more dmore _ _ h b e2 r2
theorem doneD0 {σ : L2.St} {m1 m2 : Mp} {h1 h2 : CH} {H1 H2 : Hp} {p : Addr} {nm : Bool} {acc : List (Key × V)} {ds : List (Key × D)} {Q1 : VK} {mb : Mp} {hb : CH} {Hb : Hp} (sb : Stp mb hb Hb m1 h1 H1) (S : HR K CA m1 h1 H1) (n : H1 p = none) {u : HO} (s : Sc p (m1.add p) h1 (upd H1 p u) m2 h2 H2) (S2 : HR K CA m2 h2 H2) (e : H2 p = some (.dK acc)) (en : acc.map (·.1) = ds.map (·.1)) (r : RpAll K CA m2 h2 H2 (acc.map (·.2)) (ds.map (·.2)))
    (t : PostE K CA W mb hb Hb σ Q1 (mkD nm ds h2)) : Q1 (.ref p) H2 := by
  have z2 : m2.z = p :: m1.z := s.z
  cases nm with
  | true =>
    obtain ⟨s3, S3⟩ := done_named (o := .dct ds) S n s S2 (.dct e en (r.named S2 z2))
    refine t _ _ H2 (sb.trans s3) S3 ?_
    have := Rp.ref (K := K) (CA := CA) (m := mpNew ⟨m2.f, m1.z⟩ h2 p) (h := h2.new (.dct ds)) (H := H2) (k := h2.nx) (Nat.lt_succ_self _)
    rw [show (mpNew ⟨m2.f, m1.z⟩ h2 p) h2.nx = p from mpNew_nx] at this
    exact this
  | false => exact t _ _ H2 (sb.trans (stp_done S n s)) (S2.done z2) (.dct (done_data S n s S2) e rfl en (r.done z2))
theorem we_dnew (nm : Bool) : WE X K CA W (.Dict [] [] pos) tDNewK (dDNew nm) := ⟨pe_dnewK, fun m h H σ ρ Q' S t p n => mkD_post S.hr n rfl .nil t⟩
theorem we_disp (nm : Bool) {ks : List (Option Expr)} {vs : List Expr} {trs : List (TE × TE)} {ts : List (TD × TD)} (x : WP X K CA W pos ks vs trs ts) (hall : ks.all (·.isSome) = true) (hl : ks.length = vs.length) (h0 : ks ≠ []) (h15 : ks.length ≤ 15) : WE X K CA W (.Dict ks vs pos) (tDisp trs) (dDisp nm ts) := by
  refine ⟨pe_disp x.pe hall hl h0 h15, fun m hh H σ ρ Q' S t p n => ?_⟩
  have S2 := S.hr.add (u := .dK []) n
  have SO2 : SO K CA (m.add p) hh (upd H p (.dK [])) σ ρ := ⟨S2, S.len, fun i d e => let ⟨v, e1, q⟩ := S.sl i d e; ⟨v, e1, q.add n⟩⟩
  have pz : p ∈ (m.add p).z := List.mem_cons_self ..
  refine x.sim (m.add p) hh _ σ ρ _ SO2 ?_
  unfold dDisp at t
  cases ep : dPairs ts ρ hh with
  | no => rw [ep] at t; exact t.elim
  | ex c fs h1 =>
    rw [ep] at t
    intro m1 cls dd H1 s1 S1 xr
    have z2 : m1.z = p :: m.z := s1.z
    refine t ⟨m1.f, m.z⟩ cls dd H1 (stp_done S.hr n s1.sc) (S1.done z2) ?_
    obtain ⟨x1, x2⟩ := xr
    refine ⟨x1, x2.imp id ?_⟩
    rintro ⟨y, hf, e1, e2, e3, e4, e5⟩
    exact ⟨y, hf, e1, (Mp.done_kp z2 y _ e2 e3 trivial).1, e3, e4, e5.done z2⟩
  | ok qs h1 =>
    rw [ep] at t
    intro m1 ps H1 s1 S1 rr
    replace t : PostE K CA W m hh H σ Q' (match keysOf qs with
      | some kvs => if kvs.length ≤ 15 then mkD nm (mergeD [] kvs) h1 else .no
      | none => .no) := t
    cases ek : keysOf qs with
    | none => rw [ek] at t; exact t.elim
    | some kvs =>
      rw [ek] at t
      obtain ⟨l, t⟩ := post_ite t
      obtain ⟨hkv, e1, e2, e3⟩ := keys_rel ps qs kvs rr.1 rr.2 ek
      have pz1 : p ∈ m1.z := by rw [s1.z]; exact pz
      obtain ⟨m3, m4⟩ := merge_rel hkv kvs [] [] e2 e3 rfl .nil
      refine ⟨(s1.zk p pz).trans upd_same, hkv, e1, by rw [len_of e2]; exact l, ?_⟩
      have sm := sc_made (u := .dK (mergeK [] hkv)) S1 pz1
      exact doneD0 .refl S.hr n (s1.sc.trans sm) (S1.made pz1) upd_same m3 (m4.mv sm.toMv) t
end
def putD (f : Str) (v : D) : List (Str × D) → List (Str × D)
  | [] => [(f, v)]
  | (g, x) :: r => if g = f then (g, v) :: r else (g, x) :: putD f v r
def objOf (h : CH) : D → Option (Nat × List (Str × D))
  | .obj c fs => some (c, fs)
  | .ref k => match h.ob k with
    | some (.obj c fs) => some (c, fs)
    | _ => none
  | _ => none
def fFld (cs : List Nat) (f : Str) : F1 := fun d h => match objOf h d with
  | some (c, fs) => if c ∈ cs then (match fs.lookup f with
    | some x => .ok x h
    | none => .no) else .no
  | none => .no
theorem FldOf.one {K : PySem.W.Frag} {CA : CAs} {c : Nat} {f : Str} (h1 : Cls K (CA c)) (h2 : NoAttr K (CA c) f) : FldOf K CA [c] f := fun x hx => by
  rw [List.mem_singleton] at hx
  subst hx
  exact ⟨h1, h2⟩
section
variable {X : Cx} {K : PySem.W.Frag} {CA : CAs} {W : WX} {m : Mp} {h : CH} {H : Hp} {e o i : Expr} {ha hi : TE} {ta ti : TD} {pos : Pos} {f : Str} {cs : List Nat}
theorem rp_obj {v : V} {d : D} {c : Nat} {fs : List (Str × D)} (S : HR K CA m h H) (r : Rp K CA m h H v d) (e : objOf h d = some (c, fs)) : ∃ a dx hf, v = .ref a ∧ H a = some (.ins (CA c) dx hf) ∧ hf.map (·.1) = fs.map (·.1) ∧ RpAll K CA m h H (hf.map (·.2)) (fs.map (·.2)) := by
  cases r with
  | obj n e1 en r => cases e; exact ⟨_, _, _, rfl, e1, en, r⟩
  | ref l =>
    simp only [objOf] at e
    split at e
    · rename_i q
      cases e
      obtain ⟨dx, xs, q1, q2, q3⟩ := mo_obj S q
      exact ⟨_, dx, xs, rfl, q1, q2, q3⟩
    · cases e
  | _ => cases e
theorem rp_look {d : D} : ∀ {fs : List (Str × V)} {dfs : List (Str × D)}, fs.map (·.1) = dfs.map (·.1) → RpAll K CA m h H (fs.map (·.2)) (dfs.map (·.2)) → dfs.lookup f = some d → ∃ v, fs.lookup f = some v ∧ Rp K CA m h H v d
  | [], [], _, _, h => by cases h
  | [], _ :: _, e, _, _ => by simp at e
  | _ :: _, [], e, _, _ => by simp at e
  | (g, v) :: fs, (g', d') :: dfs, e, r, h => by
    simp only [List.map_cons, List.cons.injEq] at e
    obtain ⟨rfl, e⟩ := e
    cases r with
    | cons r1 r2 =>
      rw [List.lookup_cons] at h ⊢
      cases q : f == g with
      | true => rw [q] at h; simp only [Option.some.injEq] at h; subst h; exact ⟨v, rfl, r1⟩
      | false => rw [q] at h; exact rp_look e r2 h
theorem look_none : ∀ {fs : List (Str × V)} {dfs : List (Str × D)}, fs.map (·.1) = dfs.map (·.1) → dfs.lookup f = none → fs.lookup f = none
  | [], [], _, _ => rfl
  | [], _ :: _, e, _ => by simp at e
  | _ :: _, [], e, _ => by simp at e
  | (g, v) :: fs, (g', d') :: dfs, e, h => by
    simp only [List.map_cons, List.cons.injEq] at e
    obtain ⟨rfl, e⟩ := e
    rw [List.lookup_cons] at h ⊢
    cases q : f == g with
    | true => rw [q] at h; cases h
    | false => rw [q] at h; exact look_none e h
theorem rp_putF {v : V} {d : D} (r' : Rp K CA m h H v d) : ∀ {fs : List (Str × V)} {dfs : List (Str × D)}, fs.map (·.1) = dfs.map (·.1) → RpAll K CA m h H (fs.map (·.2)) (dfs.map (·.2)) →
    (putF f v fs).map (·.1) = (putD f d dfs).map (·.1) ∧ RpAll K CA m h H ((putF f v fs).map (·.2)) ((putD f d dfs).map (·.2))
  | [], [], _, _ => ⟨rfl, .cons r' .nil⟩
  | [], _ :: _, e, _ => by simp at e
  | _ :: _, [], e, _ => by simp at e
  | (g, x) :: fs, (g', y) :: dfs, e, r => by
    simp only [List.map_cons, List.cons.injEq] at e
    obtain ⟨rfl, e⟩ := e
    cases r with
    | cons r1 r2 =>
      obtain ⟨i1, i2⟩ := rp_putF r' e r2
      unfold putF putD
      by_cases q : g = f
      · rw [if_pos q, if_pos q]
        exact ⟨by simp [e], .cons r' r2⟩
      · rw [if_neg q, if_neg q]
        exact ⟨by simp only [List.map_cons]; rw [i1], .cons r1 i2⟩
theorem we_fld (hf : FldOf K CA cs f) (x : WE X K CA W e ha ta) (hb : attributeBase e f X.env (eval e X.env) = eval e X.env := by rfl) (hK : X.K = K := by rfl) : WE X K CA W (.Attribute e f pos) (tFld K ha f) (dUn (fFld cs f) ta) := by
  subst hK
  refine ⟨pe_fld x.pe hb, fun m h H σ ρ Q' S t => x.sim m h H σ ρ _ S (t.bind fun d h1 m1 v H1 s1 S1 r1 t1 => ?_)⟩
  unfold fFld at t1
  split at t1
  · rename_i c fs eo
    by_cases hc : c ∈ cs
    · rw [if_pos hc] at t1
      split at t1
      · rename_i y el
        obtain ⟨a, dx, hfs, rfl, q1, q2, q3⟩ := rp_obj S1 r1 eo
        obtain ⟨u, hu, ru⟩ := rp_look q2 q3 el
        exact ⟨a, _, dx, hfs, u, rfl, q1, (hf c hc).1, (hf c hc).2, hu, t1.here S1 ru⟩
      · exact t1.elim
    · rw [if_neg hc] at t1; exact t1.elim
  · exact t1.elim
def gFldH (K : PySem.W.Frag) (to : TE) (f : Str) : TG := fun v σ H Q => to σ H fun x H1 => ∃ a C dx fs, x = .ref a ∧ H1 a = some (.ins C dx fs) ∧ Cls K C ∧ NoAttr K C f ∧ fs.length < 1000 ∧ Q σ (upd H1 a (.ins C dx (putF f v fs)))
theorem pg_fld {to : TE} (ho : PE X o to) : PG X (.Attribute o f pos) (gFldH X.K to f) := by
  refine ⟨fun pins s σ H v u Q I r hq => ?_⟩
  show wpAny _ X.A (do
    let ov ← holding [u] (eval o X.env)
    standAt pos.atName
    holding [u, ov] (setAttr ov f u)
    release [u, ov] []) _ _ s
  refine wpAny_bind (wpAny_holding (thn (ho.run pins s σ H _ I hq) fun ov s1 q => ?_))
  obtain ⟨x, H1, I1, r1, a, C, dx, fs, rfl, ea, c, n, l, q⟩ := q
  obtain rfl : ov = Value.ref a := r1
  refine wpAny_bind (wpAny_standAt (wpAny_bind (wpAny_holding (setattr_ok I1 ea c n l r fun s3 I3 => ?_))))
  exact wpAny_release ⟨σ, _, I3, q⟩
def gdFld (cs : List Nat) (f : Str) (to : TD) : TGD := fun d ρ h => (to ρ h).calm fun x h => match refOf x with
  | some k => match h.ob k with
    | some (.obj c fs) => if c ∈ cs ∧ fs.length < 1000 then .ok ρ (h.put k (.obj c (putD f d fs))) else .no
    | _ => .no
  | none => .no
theorem wg_fld (hf : FldOf K CA cs f) (x : WE X K CA W o ha ta) (hK : X.K = K := by rfl) : WG X K CA (.Attribute o f pos) [] (gFldH K ha f) (gdFld cs f ta) := by
  subst hK
  refine ⟨pg_fld x.pe, fun m hh H σ ρ v d Q' S r q => x.sim m hh H σ ρ _ S (PostT'.calm q fun a h1 m1 w H1 s1 S1 r1 q1 => ?_)⟩
  split at q1
  · rename_i k er
    have er := refOf_eq er
    subst er
    split at q1
    · rename_i c fs eo
      by_cases hc : c ∈ cs ∧ fs.length < 1000
      · rw [if_pos hc] at q1
        obtain ⟨dx, hfs, e1, en, rr⟩ := mo_obj S1 eo
        obtain ⟨i1, i2⟩ := rp_putF (f := f) (r.move s1) en rr
        refine ⟨_, _, dx, hfs, rp_ref r1, e1, (hf c hc.1).1, (hf c hc.1).2, by have := congrArg List.length en; simp at this; omega, ?_⟩
        have sp := stp_put (o' := .obj c (putD f d fs)) (u := .ins (CA c) dx (putF f v hfs)) S1 eo trivial
        exact q1 m1 σ _ sp ((S.move s1 S1).move sp (S1.put eo (.obj upd_same i1 (i2.mv (mv_put eo))))) rfl fun _ _ => rfl
      · rw [if_neg hc] at q1; exact q1.elim
    · exact q1.elim
  · exact q1.elim
def rSetU : V → V → V → Hp → (Hp → Prop) → Prop := fun o i v H Q => rSetL o i v H Q ∨ ∃ a H', o = .ref a ∧ DPut H a i v H' ∧ Q H'
theorem set_U (hu : X.A.units + 1 < cLine) : PSet X rSetU := by
  intro pins s σ H o i v ov iv u Q I ro ri rv hq
  rcases hq with hq | ⟨a, H', rfl, dp, q⟩
  · exact set_list pins s σ H o i v ov iv u Q I ro ri rv hq
  · obtain rfl : ov = Value.ref a := ro
    exact d_setItem hu I dp ri rv fun s4 I4 => ⟨H', I4, q⟩
def gdSub (to ti : TD) : TGD := fun d ρ h => (to ρ h).calm fun x h => (ti ρ h).calm fun y h => match refOf x with
  | some k => match h.ob k with
    | some (.lst ds) => (match y with
      | .int i => (match ixN ds.length i with
        | some j => .ok ρ (h.put k (.lst (ds.set j d)))
        | none => .no)
      | _ => .no)
    | some (.dct kvs) => (match keyD y with
      | some key => if kvs.length < sizeLine then .ok ρ (h.put k (.dct (dPut kvs key d))) else .no
      | none => .no)
    | _ => .no
  | none => .no
theorem wg_sub (hu : X.A.units + 1 < cLine) (x : WE X K CA W o ha ta) (y : WE X K CA W i hi ti) (hp : PE X o ha → PE X i hi → PSet X rSetU → PG X e (gSub ha hi rSetU)) : WG X K CA e [] (gSub ha hi rSetU) (gdSub ta ti) := by
  refine ⟨hp x.pe y.pe (set_U hu), fun m hh H σ ρ v d Q' S r q => x.sim m hh H σ ρ _ S (PostT'.calm q fun a h1 m1 w H1 s1 S1 r1 q1 => y.sim m1 h1 H1 σ ρ _ (S.move s1 S1) (PostT'.calm q1 fun b h2 m2 w2 H2 s2 S2 r2 q2 => ?_))⟩
  split at q2
  · rename_i k er
    have er := refOf_eq er
    subst er
    have ew := rp_ref (r1.move s2)
    have rv := (r.move s1).move s2
    have SS := (S.move s1 S1).move s2 S2
    split at q2
    · rename_i ds eo
      split at q2
      · split at q2
        · rename_i j ej
          obtain ⟨ys, e1, rr⟩ := mo_lst S2 eo
          cases r2
          have sp := stp_put (o' := .lst (ds.set j d)) (u := .lst (ys.set j v)) S2 eo trivial
          exact .inl ⟨_, ys, _, j, ew, rfl, e1, by rw [rr.length]; exact ej, q2 m2 σ _ sp (SS.move sp (S2.put eo (.lst upd_same ((rr.set j rv).mv (mv_put eo))))) rfl fun _ _ => rfl⟩
        · exact q2.elim
      · exact q2.elim
    · rename_i kvs eo
      split at q2
      · rename_i key ek
        by_cases hz : kvs.length < sizeLine
        · rw [if_pos hz] at q2
          obtain ⟨hkv, e1, en, rr⟩ := mo_dct S2 eo
          have ey := rp_key r2 ek
          subst ey
          obtain ⟨i1, i2⟩ := rp_dput (k := key) en rr rv
          have sp := stp_put (o' := .dct (dPut kvs key d)) (u := .dK (putK hkv key v)) S2 eo trivial
          exact .inr ⟨_, _, ew, DPut.k e1 (by rw [len_of en]; exact hz), q2 m2 σ _ sp (SS.move sp (S2.put eo (.dct upd_same i1 (i2.mv (mv_put eo))))) rfl fun _ _ => rfl⟩
        · rw [if_neg hz] at q2; exact q2.elim
      · exact q2.elim
    · exact q2.elim
  · exact q2.elim
end
def dFldAug (cs : List Nat) (f : Str) (to tv : TD) : SD := fun ρ h => (to ρ h).toS ρ fun x h => match refOf x with
  | some k => match h.ob k with
    | some (.obj c fs) => if c ∈ cs ∧ fs.length < 1000 then (match fs.lookup f with
      | some (.int i) => (tv ρ h).toS ρ fun y h2 => (match y with
        | .int j => (match h2.ob k with
          | some (.obj c2 fs2) => if c2 = c ∧ fs2.length < 1000 then .nx ρ (h2.put k (.obj c (putD f (.int (i + j)) fs2))) else .no
          | _ => .no)
        | _ => .no)
      | _ => .no) else .no
    | _ => .no
  | none => .no
def cutD (xs : List D) (lo hi : Option Int) : List D := (xs.drop (HT.sIx xs.length 0 lo)).take (HT.sIx xs.length xs.length hi - HT.sIx xs.length 0 lo)
theorem rp_cut {K : PySem.W.Frag} {CA : CAs} {m : Mp} {h : CH} {H : Hp} {vs : List V} {ds : List D} {lo hi : Option Int} (r : RpAll K CA m h H vs ds) : RpAll K CA m h H (cutV vs lo hi) (cutD ds lo hi) := by
  unfold cutV cutD
  rw [r.length]
  exact (r.drop _).take _
abbrev TDo := DE → CH → R (Option Int)
def dPart (t : TD) : TDo := fun ρ h => (t ρ h).bind fun d h => match d with
  | .int i => .ok (some i) h
  | _ => .no
def dSl (nm : Bool) (ta : TD) (tl th : TDo) : TD := fun ρ h => (ta ρ h).bind fun x h => (tl ρ h).bind fun l h => (th ρ h).bind fun u h => match x with
  | .tup ds => .ok (.tup (cutD ds l u)) h
  | x => match lstOf h x with
    | some ds => mkL nm (cutD ds l u) h
    | none => .no
def RO : Mp → CH → Hp → Option Int → Option Int → Prop := fun _ _ _ b a => b = a
def SimO (K : PySem.W.Frag) (CA : CAs) (W : WX) (tH : TO) (t : TDo) : Prop := ∀ (m : Mp) (h : CH) (H : Hp) (σ : L2.St) (ρ : DE) (Q' : Option Int → Hp → Prop), SO K CA m h H σ ρ → PostG K CA W RO m h H σ Q' (t ρ h) → tH σ H Q'
structure WO (X : Cx) (K : PySem.W.Frag) (CA : CAs) (W : WX) (e : Option Expr) (tH : TO) (t : TDo) : Prop where
  pe : PO X e tH
  sim : SimO K CA W tH t
section
variable {X : Cx} {K : PySem.W.Frag} {CA : CAs} {W : WX} {e a : Expr} {lo hi : Option Expr} {ha : TE} {ta : TD} {hl hh : TO} {tl th : TDo} {pos p2 : Pos}
theorem wo_some (x : WE X K CA W e ha ta) : WO X K CA W (some e) (tPart ha) (dPart ta) := ⟨po_some x.pe, fun m h H σ ρ Q' S t => x.sim m h H σ ρ _ S (t.bind fun d h1 m1 v H1 s1 S1 r1 t1 => by
  split at t1
  · cases r1; exact ⟨_, rfl, t1.here S1 rfl⟩
  · exact t1.elim)⟩
abbrev rSlU (K : PySem.W.Frag) : V → Option Int → Option Int → Hp → VK → Prop := fun x lo hi H Q => rSlL K x lo hi H Q ∨ rSlA K x lo hi H Q
theorem cut_whole {xs : List D} {lo hi : Option Int} (h1 : HT.sIx xs.length 0 lo = 0) (h2 : HT.sIx xs.length xs.length hi = xs.length) : cutD xs lo hi = xs := by
  unfold cutD
  rw [h1, h2]
  simp
theorem we_slice (nm : Bool) (x : WE X K CA W a ha ta) (y : WO X K CA W lo hl tl) (z : WO X K CA W hi hh th) (hK : X.K = K := by rfl) : WE X K CA W (.Subscript a (.Slice lo hi none p2) pos) (tSl (rSlU K) ha hl hh) (dSl nm ta tl th) := by
  subst hK
  refine ⟨pe_slice (sl_list.or sl_tupA) x.pe y.pe z.pe, fun m h H σ ρ Q' S t => x.sim m h H σ ρ _ S (t.bind fun d h1 m1 v H1 s1 S1 r1 t1 => ?_)⟩
  refine y.sim m1 h1 H1 σ ρ _ (S.move s1 S1) (t1.bind fun l h2 m2 l' H2 s2 S2 e2 t2 => ?_)
  cases (show l' = l from e2)
  refine z.sim m2 h2 H2 σ ρ _ ((S.move s1 S1).move s2 S2) (t2.bind fun u h3 m3 u' H3 s3 S3 e3 t3 => ?_)
  cases (show u' = u from e3)
  have r3 := (r1.move s2).move s3
  split at t3
  · obtain ⟨b, xs, rfl, e1, r2⟩ := rp_tup r3
    refine .inr ⟨b, xs, rfl, e1, fun z => ?_, fun _ p n => t3.laid S3 n (.tup (S3.fresh n) upd_same (rps_laid S3 n (rp_cut r2)))⟩
    rename_i ds
    have e : cutD ds l u = ds := cut_whole (by rw [← r2.length]; exact z.1) (by rw [← r2.length]; exact z.2)
    rw [e] at t3
    exact t3.here S3 r3
  · split at t3
    · rename_i ds ed
      obtain ⟨b, xs, rfl, e1, r2⟩ := rp_lst S3 r3 ed
      exact .inl ⟨b, xs, rfl, .of e1, fun p n => mkL_post S3 n (rp_cut r2) t3⟩
    · exact t3.elim
end
abbrev cxD (P : Program) (w : World) (K : PySem.W.Frag) (mg : Str → Option Value) (base : Heap) (N : List Str) (qual : Str) (st : Stmt) (f : Addr) (cd : Value) (A : Around) (outer : List Env) (s : Shared) (H : Hp) (E : XK) : Cx :=
  cxOf (L2.CX P w) P w K mg base N qual (defScope st) f cd A outer s H E
section
variable {P : Program} {w : World} {K : PySem.W.Frag} {mg : Str → Option Value} {base : Heap} {CA : CAs} {g : Bool}
theorem FnG.mk' {nm qual : Str} {st : Stmt} {f : Addr} {fd : FuncData} {N ps : List Str} {k : Nat} {sp : Sp} (F : Fun K nm qual st f fd) (S : FnScope N ps (defScope st)) (ln : ∀ vs H Q E, sp vs H Q E → vs.length = ps.length)
    (body : ∀ (cd : Value) (A : Around) (outer : List Env) (s : Shared) (H : Hp) (vs : List V) (Q : VK) (E : XK), (g = true → A.guards = some []) → Room k (A.deeper (envOfC qual (defScope st) s.heap.objs.size f cd)) → sp vs H Q E →
      ∃ t, PSs (cxD P w K mg base N qual st f cd A outer s H E) (defBody st) t ∧ t { nx := fun _ H2 => Q .non H2, rt := Q } (start N vs) H) : FnG P w K mg base g (k + 1) f fd ps sp := by
  obtain ⟨x1, x2, x3, x4, x5, x6, cd, x8, x9, rfl, look, code⟩ := F.ex
  refine ⟨ln, fun A outer s H args us vs Q E hg room e0 bd rv hs => ?_⟩
  have len1 := ln _ _ _ _ hs
  have kin : K.In s.heap := e0.mod.kin.keeps fun b o e => (e0.bs b o e).1
  have nl : s.heap.NoLimit := e0.mod.nolimit.keeps fun b o e => (e0.bs b o e).1
  have kinds : ∀ y, y ∈ ps.zip us → (defScope st).names.lookup y.1 = some .local ∨ ((defScope st).names.lookup y.1 = some .cell ∧ ((cellsFrom (s.heap.objs.size + 1) (defScope st).names []).lookup y.1).isSome = true) := by
    rintro ⟨a, b⟩ hm
    exact (S.par a (List.of_mem_zip hm).1).imp id fun q => ⟨q, PySem.W.cellsFrom_some _ _ _ (.inl q)⟩
  refine codeAny_call_function room.depth (kin _ _ look) rfl S.co S.gen rfl (PySem.W.codeRec_of kin code) (bd _ _ _ _ (wpAny_newFunctionEnv_cells S.kind kinds fun env ee s1 hc => ?_))
  cases ee
  refine ⟨nl.keeps hc.toInCall.keep, codeAny_func ?_⟩
  obtain ⟨t, ht, hq⟩ := body cd A outer s H vs Q E hg (room.deeper _) hs
  have inv : Inv (cxD P w K mg base N qual st f cd A outer s H E) [] (start N vs) H s1 := inv_start S room.hd e0 len1 rv hc
  have back : ∀ {σ' : L2.St} {H2 : Hp} {v : V} {u : Value} {s2 : Shared}, Inv (cxD P w K mg base N qual st f cd A outer s H E) [] σ' H2 s2 → RelV v u → Q v H2 → CE outer P w H s Q u s2 := fun {_ H2 v _ _} J r q => ⟨v, H2, J.os, J.bare, J.base, J.hok, r, q⟩
  refine wpAny_mono (ht.run [] s1 (start N vs) H _ inv hq) (fun fl s2 h2 => ?_) fun _ _ z => z
  rcases fl with _ | _ | _ | u
  · obtain ⟨_, _, J, q⟩ := h2
    exact back (v := V.non) (u := Value.none) J rfl q
  · obtain ⟨_, _, _, q⟩ := h2; exact False.elim q
  · obtain ⟨_, _, _, q⟩ := h2; exact False.elim q
  · obtain ⟨_, _, _, J, r, q⟩ := h2
    exact back J r q
def startD (N : Nat) (ds : List D) : DE := ds.map some ++ List.replicate (N - ds.length) none
def RS.res : RS → R D
  | .nx _ h => .ok .non h
  | .rt d h => .ok d h
  | .ex _ c fs h => .ex c fs h
  | _ => .no
def bodyF (N : Nat) (u : SD) : FD := fun ds h => (u (startD N ds) h).res
theorem so_start {m : Mp} {h : CH} {H : Hp} {vs : List V} {ds : List D} (N : List Str) (hl : vs.length ≤ N.length) (S : HR K CA m h H) (r : RpAll K CA m h H vs ds) : SO K CA m h H (start N vs) (startD N.length ds) := by
  have hds := r.length
  refine ⟨S, by simp [L2.start, startD, hds], fun i s e => ?_⟩
  unfold startD at e
  by_cases hi : i < ds.length
  · rw [List.getElem?_append_left (by simpa using hi), List.getElem?_map] at e
    cases q : ds[i]? with
    | none => rw [q] at e; cases e
    | some d =>
      rw [q] at e; cases e
      obtain ⟨v, e2, rv⟩ := r.getD q
      refine ⟨v, ?_, rv⟩
      unfold L2.start
      have hi := (List.getElem?_eq_some_iff.mp e2).1
      rw [List.getElem?_append_left (by simpa using hi), List.getElem?_map, e2]
      rfl
  · rw [List.getElem?_append_right (by simpa using hi), List.getElem?_replicate] at e
    split at e <;> cases e
theorem res_post {E : XK} {m : Mp} {h : CH} {H : Hp} {Q : VK} {r : RS} {σ : L2.St} (t : PostE K CA (wxD E) m h H σ Q r.res) : PostS K CA (wxD E) m h H { nx := fun _ H2 => Q .non H2, rt := Q } r := by
  cases r with
  | nx ρ' h' => exact fun m' σ' H' s S => t m' .non H' s S.hr .non
  | rt d h' => exact t
  | bk ρ' h' => exact t.elim
  | ct ρ' h' => exact t.elim
  | ex ρ' c fs h' => exact fun m' cls dd σ' H' s S x => t m' cls dd H' s S.hr x
  | no => exact t
theorem okD {nm qual : Str} {st : Stmt} {f : Addr} {fd : FuncData} {N ps : List Str} {k n l : Nat} {u : SD} (F : Fun K nm qual st f fd) (S : FnScope N ps (defScope st)) (hm : ps.length = l) (hn : N.length = n)
    (hb : ∀ (cd : Value) (A : Around) (outer : List Env) (s : Shared) (H : Hp) (E : XK), (g = true → A.guards = some []) → Room k (A.deeper (envOfC qual (defScope st) s.heap.objs.size f cd)) →
      Takes (cxD P w K mg base N qual st f cd A outer s H E) (wxD E) → ∃ tS, WSs (cxD P w K mg base N qual st f cd A outer s H E) K CA (wxD E) (defBody st) tS u) : FnG P w K mg base g (k + 1) f fd ps (spD K CA l (bodyF n u)) := by
  subst hm hn
  refine FnG.mk' F S (fun vs H Q E h => h.1) fun cd A outer s H vs Q E hg hr h => ?_
  obtain ⟨hl, m, ch, ds, hR, r, q⟩ := h
  obtain ⟨t, ws⟩ := hb cd A outer s H E hg hr (takes_of rfl rfl rfl rfl)
  have hle : vs.length ≤ N.length := by
    have := congrArg List.length S.pre
    rw [List.length_take] at this
    omega
  exact ⟨t, ws.pe, ws.sim m ch H _ _ _ (so_start N hle hR r) (res_post q)⟩
end
def pickD (ds zs : List D) : List Src → List D
  | [] => []
  | .p i :: r => ds.getD i .non :: pickD ds zs r
  | .k i :: r => zs.getD i .non :: pickD ds zs r
  | .c d :: r => d :: pickD ds zs r
section
variable {K : PySem.W.Frag} {CA : CAs} {m : Mp} {h : CH} {H : Hp}
theorem getP_rel {vs : List V} {us : List Value} {ds : List D} (r : Vals vs us) (rd : RpAll K CA m h H vs ds) (i : Nat) : ∃ v, RelV v (us.getD i .none) ∧ Rp K CA m h H v (ds.getD i .non) := by
  induction r generalizing ds i with
  | nil => cases rd; exact ⟨.non, rfl, .non⟩
  | cons a _ ih =>
    cases rd with
    | cons b rd =>
      cases i with
      | zero => exact ⟨_, a, b⟩
      | succ i => exact ih rd i
theorem pick_rel {vs zs : List V} {us ws : List Value} {ds es : List D} (r : Vals vs us) (rd : RpAll K CA m h H vs ds) (rz : Vals zs ws) (re : RpAll K CA m h H zs es) : ∀ {src : List Src} {cs : List Value}, Paired (Ever K CA) cs (consts src) →
    ∃ xs, Vals xs (pickL us ws src cs) ∧ RpAll K CA m h H xs (pickD ds es src)
  | [], _, _ => ⟨[], .nil, .nil⟩
  | .p i :: src, cs, q => by
    obtain ⟨xs, h1, h2⟩ := pick_rel r rd rz re (src := src) (cs := cs) q
    obtain ⟨v, h3, h4⟩ := getP_rel r rd i
    exact ⟨v :: xs, .cons h3 h1, .cons h4 h2⟩
  | .k i :: src, cs, q => by
    obtain ⟨xs, h1, h2⟩ := pick_rel r rd rz re (src := src) (cs := cs) q
    obtain ⟨v, h3, h4⟩ := getP_rel rz re i
    exact ⟨v :: xs, .cons h3 h1, .cons h4 h2⟩
  | .c d :: src, cs, q => by
    cases q with
    | cons a q =>
      obtain ⟨xs, h1, h2⟩ := pick_rel r rd rz re (src := src) q
      obtain ⟨v, h3, h4⟩ := a
      exact ⟨v :: xs, .cons h3 h1, .cons (h4 m h H) h2⟩
end
def dCallN (n l : Nat) (src : List Src) (F : FD) (ts tk : TDs) : TD := fun ρ h => (ts ρ h).bind fun ds h => (tk ρ h).bind fun zs h => if ds.length = n ∧ zs.length = l then F (pickD ds zs src) h else .no
def dCall (n : Nat) (F : FD) (ts : TDs) : TD := fun ρ h => (ts ρ h).bind fun ds h => if ds.length = n then F ds h else .no
def tCallN (K : PySem.W.Frag) (CA : CAs) (W : WX) (n l : Nat) (G : List D → List D → CH → R D) (t tk : TA) : TE := fun σ H Q => t σ H fun vs H1 => tk σ H1 fun zs H2 => vs.length = n ∧ zs.length = l ∧ ∃ (m : Mp) (h : CH) (ds es : List D), HR K CA m h H2 ∧ RpAll K CA m h H2 vs ds ∧ RpAll K CA m h H2 zs es ∧ PostE K CA W m h H2 σ Q (G ds es h)
section
variable {X : Cx} {K : PySem.W.Frag} {CA : CAs} {W : WX} {o e : Expr} {es : List Expr} {kws : List Keyword} {pos apos p : Pos} {ha : TE} {ta : TD} {hs hk : TA} {ts tk : TDs} {x nm : Str} {g : Bool} {k n l c0 : Nat} {ps ks : List Str} {src : List Src} {F : FD} {f : Addr} {fd : FuncData}
theorem run_fnG {sp : Sp} {Ex : L2.St → XK} {pins : List (Addr × Obj)} {σ : L2.St} {H : Hp} {s : Shared} {Q : VK} {args : Args} {us : List Value} {vs : List V} (G : FnG X.prog X.w X.K X.mg X.base g k f fd ps sp) (hG : g = true → X.A.guards = some []) (hr : Room k X.A)
    (hb : us.length = ps.length → BindsTo s fd args (ps.zip us)) (hx : PassesAt (L2.CX X.prog X.w) X σ (Ex σ)) (I : Inv X pins σ H s) (r : Vals vs us) (h : sp vs H Q (Ex σ)) : codeAny (model X.prog X.w) X.A (.call (.ref f) args) (fun r s' => match r with | .ok (.ret u) => EP X pins σ Q u s' | .ok _ => False | .error e => X.xe e s') s := by
  refine codeAny_mono (G.go X.A X.stack s H args us vs Q (Ex σ) hG hr I.env0 (hb (by rw [← r.length]; exact G.ln _ _ _ _ h)) r h) fun r s' hq => ?_
  rcases r with e | fl
  · exact hx pins H s e s' I hq
  · rcases fl with _ | _ | _ | u
    · exact hq.elim
    · exact hq.elim
    · exact hq.elim
    · exact I.after hq
theorem post_at {m : Mp} {h : CH} {H : Hp} {σ : L2.St} {Q : VK} {r : R D} (t : PostE K CA W m h H σ Q r) : PostE K CA (wxD (L2.WE W σ)) m h H [] Q r := by
  cases r with
  | ok d h' => exact t
  | ex c fs h' => exact t
  | no => exact t
theorem end_call {A : Around} {σ : L2.St} {pins : List (Addr × Obj)} {Q : VK} {u : Value} {args : List Value} {kw : List (Str × Value)} {s : Shared} (h : codeAny (model X.prog X.w) A (.call u ⟨args, kw⟩) (fun r s' => match r with | .ok (.ret u) => EP X pins σ Q u s' | .ok _ => False | .error e => X.xe e s') s) :
    wpAny (model X.prog X.w) A (call u args kw) (EP X pins σ Q) X.xe s := by
  refine wpAny_call (codeAny_mono h fun r s' hq => ?_)
  rcases r with e | fl
  · exact hq
  · rcases fl with _ | _ | _ | u <;> exact hq
theorem run_callN {pins : List (Addr × Obj)} {σ : L2.St} {H : Hp} {s : Shared} {Q : VK} {us ws : List Value} {vs zs : List V} {m : Mp} {h : CH} {ds es : List D} (G : FnG X.prog X.w X.K X.mg X.base g k f fd ps (spD X.K CA ps.length F)) (hG : g = true → X.A.guards = some []) (hr : Room k X.A) (B : KwB X.K CA fd ps n ks src) (tk : Takes X W)
    (I : Inv X pins σ H s) (r : Vals vs us) (rz : Vals zs ws) (l1 : vs.length = n) (l2 : zs.length = ks.length) (hR : HR X.K CA m h H) (rd : RpAll X.K CA m h H vs ds) (re : RpAll X.K CA m h H zs es) (hl : src.length = ps.length) (q : PostE X.K CA W m h H σ Q (F (pickD ds es src) h)) :
    wpAny (model X.prog X.w) X.A (call (.ref f) us (ks.zip ws)) (EP X pins σ Q) X.xe s := by
  obtain ⟨cs, hc, hb⟩ := B.ex
  obtain ⟨xs, h1, h2⟩ := pick_rel r rd rz re hc
  have hlen : ∀ {src : List Src}, (pickD ds es src).length = src.length := fun {src} => by
    induction src with
    | nil => rfl
    | cons a src ih => cases a <;> simp [pickD, ih]
  exact end_call (run_fnG G hG hr (fun _ => hb s us ws I.kIn (r.length.symm.trans l1) (rz.length.symm.trans l2)) (passAt tk σ) I h1 ⟨by rw [h2.length, hlen]; exact hl, m, h, _, hR, h2, post_at q⟩)
theorem sim_callN (s : SimA K CA W hs ts) (s' : SimA K CA W hk tk) : SimE K CA W (tCallN K CA W n l (fun ds es => F (pickD ds es src)) hs hk) (dCallN n l src F ts tk) := fun m h H σ ρ Q' S t =>
  s m h H σ ρ _ S (t.bind fun ds h1 m1 vs H1 s1 S1 r1 t1 => s' m1 h1 H1 σ ρ _ (S.move s1 S1) (t1.bind fun es h2 m2 zs H2 s2 S2 r2 t2 => by
    obtain ⟨⟨c1, c2⟩, t2⟩ := post_ite t2
    exact ⟨r1.length.trans c1, r2.length.trans c2, m2, h2, ds, es, S2, r1.move s2, r2, t2⟩))
theorem sim_call (s : SimA K CA W hs ts) : SimE K CA W (tCallN K CA W n 0 (fun ds _ => F ds) hs L2.tNil) (dCall n F ts) := fun m h H σ ρ Q' S t =>
  s m h H σ ρ _ S (t.bind fun ds h1 m1 vs H1 s1 S1 r1 t1 => by
    obtain ⟨c1, t1⟩ := post_ite t1
    exact ⟨r1.length.trans c1, rfl, m1, h1, ds, [], S1, r1, .nil, t1⟩)
structure WK (X : Cx) (K : PySem.W.Frag) (CA : CAs) (W : WX) (kws : List Keyword) (hs : TA) (ts : TDs) : Prop where
  pe : PK X kws hs
  sim : SimA K CA W hs ts
theorem wk_nil : WK X K CA W [] L2.tNil dNil := ⟨pk_nil, fun m h H σ ρ Q' S t => t.here S.hr .nil⟩
theorem wk_cons {nm : Option Str} {kpos : Pos} (h : WE X K CA W e ha ta) (h' : WK X K CA W kws hs ts) : WK X K CA W (⟨nm, e, kpos⟩ :: kws) (L2.tCons ha hs) (dCons ta ts) :=
  ⟨pk_cons h.pe h'.pe, sim_cons h.sim h'.sim⟩
theorem we_callK0 (D : Df X.prog X.w X.K X.mg X.base CA x g k ps F f fd) (hG : g = true → X.A.guards = some []) (hr : Room k X.A) (tk' : Takes X W) (h' : WK X K CA W kws hk tk) (B : KwB K CA fd ps 0 ks src) (hl : src.length = ps.length := by rfl) (hg : Gl X x := by rfl) (hK : X.K = K := by rfl)
    (hall : (backToKw pos (keywordEach kws X.env)).all (·.1.isSome) = true := by rfl) (hks : (backToKw pos (keywordEach kws X.env)).filterMap (·.1) = ks := by rfl) (hdb : (x == ("__debug__" : Str)) = false := by decide)
    (hpl : ((backTo pos (starEach [] X.env)).any (·.1) || (backToKw pos (keywordEach kws X.env)).any (·.1.isNone)) = false := by rfl) :
    WE X K CA W (.Call (.Name x p) [] kws pos) (tCallN K CA W 0 ks.length (fun ds es => F (pickD ds es src)) L2.tNil hk) (dCallN 0 ks.length src F dNil tk) := by
  subst hK
  refine ⟨⟨fun pins s σ H Q I hq => wpAny_Call_Name_kw (ld_glob I hg D.hm ?_ hdb)⟩, sim_callN (fun m h H σ ρ Q' S t => t.here S.hr .nil) h'.sim⟩
  refine PySem.W.callWith_KW0 (h₀ := X.base) I.ok.mod.kin D.hk hall (thn (h'.pe.run pos pins s σ H _ I hq) fun ws s1 ⟨zs, H1, I1, rz, l1, l2, m, h, ds, es, hR, rd, re, q⟩ => ⟨I1.kIn, ?_⟩) hpl
  rw [hks]
  exact run_callN (us := []) (vs := []) D.G hG hr B tk' I1 .nil rz l1 l2 hR rd re hl q
end
def dMethN (c0 : Nat) (nm : Str) (n l : Nat) (src : List Src) (F : FD) (ta : TD) (ts tk : TDs) : TD := fun ρ h => (ta ρ h).bind fun d h => match objOf h d with
  | some (c, fs) => if c = c0 ∧ (fs.lookup nm).isNone = true then (ts ρ h).bind fun ds h => (tk ρ h).bind fun zs h => if ds.length + 1 = n ∧ zs.length = l then F (pickD (d :: ds) zs src) h else .no else .no
  | none => .no
def tMethN (K : PySem.W.Frag) (CA : CAs) (W : WX) (c0 : Nat) (nm : Str) (n l : Nat) (G : List D → List D → CH → R D) (ta : TE) (t tk : TA) : TE := fun σ H Q => ta σ H fun x H1 => ∃ a dx fs, x = .ref a ∧ H1 a = some (.ins (CA c0) dx fs) ∧ fs.lookup nm = none ∧
  t σ H1 fun vs H2 => tk σ H2 fun zs H3 => vs.length + 1 = n ∧ zs.length = l ∧ ∃ (m : Mp) (h : CH) (ds es : List D), HR K CA m h H3 ∧ RpAll K CA m h H3 (.ref a :: vs) ds ∧ RpAll K CA m h H3 zs es ∧ PostE K CA W m h H3 σ Q (G ds es h)
section
variable {X : Cx} {K : PySem.W.Frag} {CA : CAs} {W : WX} {o e : Expr} {es : List Expr} {kws : List Keyword} {pos apos p : Pos} {ha : TE} {ta : TD} {hs hk : TA} {ts tk : TDs} {x nm : Str} {g : Bool} {k n l c0 : Nat} {ps ks : List Str} {src : List Src} {F : FD} {f : Addr} {fd : FuncData}
theorem sim_methN (s0 : SimE K CA W ha ta) (s : SimA K CA W hs ts) (s' : SimA K CA W hk tk) : SimE K CA W (tMethN K CA W c0 nm n l (fun ds es => F (pickD ds es src)) ha hs hk) (dMethN c0 nm n l src F ta ts tk) := fun m h H σ ρ Q' S t =>
  s0 m h H σ ρ _ S (t.bind fun d h1 m1 v H1 s1 S1 r1 t1 => by
    split at t1
    · rename_i c fs eo
      obtain ⟨⟨ec, hl⟩, t3⟩ := post_ite t1
      subst ec
      obtain ⟨a, dx, hfs, rfl, q1, q2, q3⟩ := rp_obj S1 r1 eo
      refine ⟨a, dx, hfs, rfl, q1, look_none q2 (Option.isNone_iff_eq_none.mp hl), s m1 h1 H1 σ ρ _ (S.move s1 S1) (t3.bind fun ds h2 m2 vs H2 s2 S2 r2 t2 => s' m2 h2 H2 σ ρ _ ((S.move s1 S1).move s2 S2) (t2.bind fun es h3 m3 zs H3 s3 S3 r3 t4 => ?_))⟩
      obtain ⟨⟨c1, c2⟩, t4⟩ := post_ite t4
      exact ⟨by rw [r2.length]; exact c1, r3.length.trans c2, m3, h3, d :: ds, es, S3, .cons ((r1.move s2).move s3) (r2.move s3), r3, t4⟩
    · exact t1.elim)
abbrev MethAt (X : Cx) (o : Expr) (nm : Str) (apos pos : Pos) (es : List Expr) (kws : List Keyword) (pl : Sem Bool) : Prop := eval (.Call (.Attribute o nm apos) es kws pos) X.env = (do
      let ov ← eval o X.env
      standAt apos.atName
      let (f, first) ← holding [ov] (getMethod ov nm pl)
      callWith pos f first (backTo pos (starEach es X.env)) (backToKw pos (keywordEach kws X.env)))
theorem we_meth {pl : Sem Bool} (M : Mtd X.prog X.w X.K X.mg X.base CA c0 nm g k ps F f fd) (hG : g = true → X.A.guards = some []) (hr : Room k X.A) (tk' : Takes X W) (h0 : WE X K CA W o ha ta) (h : WA X K CA W (e :: es) hs ts) (B : KwB K CA fd ps n [] src) (hl : src.length = ps.length := by rfl) (hK : X.K = K := by rfl)
    (he : starEach (e :: es) X.env = (false, eval e X.env) :: starEach es X.env := by rfl) (hpl : (backTo pos (starEach es X.env)).any (·.1) = false := by rfl) (ht : MethAt X o nm apos pos (e :: es) [] pl := by rfl) :
    WE X K CA W (.Call (.Attribute o nm apos) (e :: es) [] pos) (tMethN K CA W c0 nm n 0 (fun ds es => F (pickD ds es src)) ha hs L2.tNil) (dMethN c0 nm n 0 src F ta ts dNil) := by
  subst hK
  refine ⟨⟨fun pins s σ H Q I hq => PySem.W.methodCall_KW (pl := pl) (thn (h0.pe.run pins s σ H _ I hq) fun u s1 ⟨x, H1, I1, rx, a, dx, fs, ex, ea, ln, q⟩ => ?_) ht⟩, sim_methN h0.sim h.sim fun m h H σ ρ Q' S t => t.here S.hr .nil⟩
  subst ex
  obtain rfl : u = Value.ref a := rx
  refine getmeth_ok I1 ea M.cl M.mt ln ?_
  refine PySem.W.callWith_K (first := [.ref a]) (h₀ := X.base) I.ok.mod.kin M.mt.kp (thn (h.pe.run pos pins s1 σ H1 _ I1 q) fun us s2 ⟨vs, H2, I2, r, l1, l2, m, h, ds, es, hR, rd, re, q2⟩ => ⟨I2.kIn, ?_⟩) he hpl
  exact run_callN (us := .ref a :: us) (vs := .ref a :: vs) (ws := []) M.G hG hr B tk' I2 (.cons rfl r) .nil l1 l2 hR rd re hl q2
end
def dMakeN (c0 : Nat) (fr : Bool) (n l : Nat) (src : List Src) (F : FD) (ts tk : TDs) : TD := fun ρ h => (ts ρ h).bind fun ds h => (tk ρ h).bind fun zs h => if ds.length + 1 = n ∧ zs.length = l then (F (pickD (.ref h.nx :: ds) zs src) (h.new (.obj c0 []))).bind fun r h2 => match r with
  | .non => if fr = true then fz (.ref h.nx) h2 else .ok (.ref h.nx) h2
  | _ => .no
  else .no
def tMakeN (K : PySem.W.Frag) (CA : CAs) (W : WX) (c0 : Nat) (n l : Nat) (G : List D → List D → CH → R D) (t tk : TA) : TE := fun σ H Q => t σ H fun vs H1 => tk σ H1 fun zs H2 => vs.length + 1 = n ∧ zs.length = l ∧ ∀ a da, H2 a = none → H2 da = none → da ≠ a →
  ∃ (m : Mp) (h : CH) (ds es : List D), HR K CA m h (upd (upd H2 da (.own a)) a (.ins (CA c0) da [])) ∧ RpAll K CA m h (upd (upd H2 da (.own a)) a (.ins (CA c0) da [])) (.ref a :: vs) ds ∧ RpAll K CA m h (upd (upd H2 da (.own a)) a (.ins (CA c0) da [])) zs es ∧
    PostE K CA W m h (upd (upd H2 da (.own a)) a (.ins (CA c0) da [])) σ (fun v H3 => v = .non ∧ Q (.ref a) H3) (G ds es h)
section
variable {X : Cx} {K : PySem.W.Frag} {CA : CAs} {W : WX} {e : Expr} {es : List Expr} {kws : List Keyword} {pos p : Pos} {hs hk : TA} {ts tk : TDs} {x : Str} {k n l c0 : Nat} {ps ks : List Str} {src : List Src} {F : FD} {f : Addr} {fd : FuncData} {fr : Bool}
theorem sim_makeN (s : SimA K CA W hs ts) (s' : SimA K CA W hk tk) : SimE K CA W (tMakeN K CA W c0 n l (fun ds es => F (pickD ds es src)) hs hk) (dMakeN c0 fr n l src F ts tk) := fun m h H σ ρ Q' S t =>
  s m h H σ ρ _ S (t.bind fun ds h1 m1 vs H1 s1 S1 r1 t1 => s' m1 h1 H1 σ ρ _ (S.move s1 S1) (t1.bind fun es h2 m2 zs H2 s2 S2 r2 t2 => by
    obtain ⟨⟨c1, c2⟩, t2⟩ := post_ite t2
    refine ⟨by rw [r1.length]; exact c1, r2.length.trans c2, fun a da na nd ne => ?_⟩
    have gr : ∀ b u, H2 b = some u → (upd (upd H2 da (.own a)) a (.ins (CA c0) da [])) b = some u := fun b u e => by
      rw [upd_ne (ne_of_none e na), upd_ne (ne_of_none e nd)]; exact e
    have sN := stp_new (o := .obj c0 []) S2 na gr
    have SN := S2.new (o := .obj c0 []) na gr (.obj upd_same rfl .nil)
    have ra := Rp.ref (K := K) (CA := CA) (m := mpNew m2 h2 a) (h := h2.new (.obj c0 [])) (H := upd (upd H2 da (.own a)) a (.ins (CA c0) da [])) (k := h2.nx) (Nat.lt_succ_self _)
    rw [mpNew_nx] at ra
    refine ⟨mpNew m2 h2 a, h2.new (.obj c0 []), .ref h2.nx :: ds, es, SN, .cons ra ((r1.move s2).move sN), r2.move sN, ?_⟩
    show PostE K CA W _ _ _ σ _ (F (pickD (.ref h2.nx :: ds) es src) (h2.new (.obj c0 [])))
    cases ef : F (pickD (.ref h2.nx :: ds) es src) (h2.new (.obj c0 [])) with
    | no => rw [ef] at t2; exact t2.elim
    | ex c fs h' => rw [ef] at t2; exact fun m' cls dd H' s' S' xr => t2 m' cls dd H' (sN.trans s') S' xr
    | ok d h' =>
      rw [ef] at t2
      intro m' v H' s' S' rv
      have mk : m' h2.nx = a := by
        have := s'.mp h2.nx (Nat.lt_succ_self _)
        rw [mpNew_nx] at this
        exact this
      have rk : Rp K CA m' h' H' (.ref a) (.ref h2.nx) := by
        rw [← mk]
        exact .ref (Nat.lt_of_lt_of_le (Nat.lt_succ_self _) s'.nx)
      cases d with
      | non =>
        cases rv
        refine ⟨rfl, ?_⟩
        have t3 : PostE K CA W m2 h2 H2 σ Q' (if fr = true then fz (.ref h2.nx) h' else .ok (.ref h2.nx) h') := t2
        cases fr with
        | true => exact fz_post S' rk (t3.from (sN.trans s'))
        | false => exact t3 m' _ H' (sN.trans s') S' rk
      | _ => exact t2.elim))
theorem run_makeN' {pins : List (Addr × Obj)} {σ : L2.St} {H : Hp} {s : Shared} {Q : VK} {us ws : List Value} {vs zs : List V} (D : Mkd X.prog X.w X.K X.mg X.base CA c0 x k ps F f fd) (hr : Room (k + 1) X.A) (B : KwB X.K CA fd ps n ks src) (tk' : Takes X W) (hl : src.length = ps.length)
    (I : Inv X pins σ H s) (r : Vals vs us) (rz : Vals zs ws) (l1 : vs.length + 1 = n) (l2 : zs.length = ks.length)
    (q : ∀ a da, H a = none → H da = none → da ≠ a → ∃ (m : Mp) (h : CH) (ds es : List CM.D), HR X.K CA m h (upd (upd H da (.own a)) a (.ins (CA c0) da [])) ∧ RpAll X.K CA m h (upd (upd H da (.own a)) a (.ins (CA c0) da [])) (.ref a :: vs) ds ∧ RpAll X.K CA m h (upd (upd H da (.own a)) a (.ins (CA c0) da [])) zs es ∧
      PostE X.K CA W m h (upd (upd H da (.own a)) a (.ins (CA c0) da [])) σ (fun v H3 => v = .non ∧ Q (.ref a) H3) (F (pickD ds es src) h)) :
    wpAny (model X.prog X.w) X.A (call (.ref (CA c0)) us (ks.zip ws)) (EP X pins σ Q) X.xe s := by
  obtain ⟨m, h, ds, es, hR, rd, re, q⟩ := q (s.heap.objs.size + 1) s.heap.objs.size (I.hok.fresh (Nat.le_succ _)) (I.hok.fresh (Nat.le_refl _)) (Nat.ne_of_lt (Nat.lt_succ_self _))
  have I2 := Inv.made (C := CA c0) I
  have r1 : Vals (V.ref (s.heap.objs.size + 1) :: vs) (Value.ref (s.heap.objs.size + 1) :: us) := .cons rfl r
  obtain ⟨cs, hc, hb⟩ := B.ex
  obtain ⟨xs, h1, h2⟩ := pick_rel r1 rd rz re hc
  have hlen : ∀ {src : List Src}, (pickD ds es src).length = src.length := fun {src} => by
    induction src with
    | nil => rfl
    | cons a src ih => cases a <;> simp [pickD, ih]
  have n1 : (Value.ref (s.heap.objs.size + 1) :: us).length = n := by rw [← r1.length]; exact l1
  refine wpAny_call (make_map (f := f) I.kIn D.mkd.makes D.mkd.init (beq_iff_eq.mp D.mkd.fn) (codeAny_mono (D.G.go _ X.stack _ _ ⟨Value.ref (s.heap.objs.size + 1) :: us, ks.zip ws⟩ _ xs _ (L2.WE W σ) (fun z => nomatch z) (hr.make (CA c0) us (ks.zip ws))
    (I2.env0.make (CA c0) us (ks.zip ws)) (hb _ (Value.ref (s.heap.objs.size + 1) :: us) ws I2.kIn n1 (rz.length.symm.trans l2)) h1 ⟨by rw [h2.length, hlen]; exact hl, m, h, _, hR, h2, post_at q⟩) fun r s' hq' => ?_))
  rcases r with er | fl
  · exact passAt tk' σ pins _ _ er s' I2 hq'
  · rcases fl with _ | _ | _ | u
    · exact False.elim hq'
    · exact False.elim hq'
    · exact False.elim hq'
    · obtain ⟨v, H', I3, rv, ev, q3⟩ := I2.after hq'
      subst ev
      exact ⟨rv, ⟨V.ref (s.heap.objs.size + 1), H', I3, rfl, q3⟩⟩
theorem we_make (fr : Bool) (D : Mkd X.prog X.w X.K X.mg X.base CA c0 x k ps F f fd) (hr : Room (k + 1) X.A) (tk' : Takes X W) (h : WA X K CA W (e :: es) hs ts) (B : KwB K CA fd ps n [] src) (hl : src.length = ps.length := by rfl) (hg : Gl X x := by rfl) (hK : X.K = K := by rfl)
    (hdb : (x == ("__debug__" : Str)) = false := by decide) (he : starEach (e :: es) X.env = (false, eval e X.env) :: starEach es X.env := by rfl) (hpl : (backTo pos (starEach es X.env)).any (·.1) = false := by rfl) :
    WE X K CA W (.Call (.Name x p) (e :: es) [] pos) (tMakeN K CA W c0 n 0 (fun ds es => F (pickD ds es src)) hs L2.tNil) (dMakeN c0 fr n 0 src F ts dNil) := by
  subst hK
  refine ⟨⟨fun pins s σ H Q I hq => wpAny_Call_Name_kw (ld_glob I hg D.hm ?_ hdb)⟩, sim_makeN h.sim fun m h H σ ρ Q' S t => t.here S.hr .nil⟩
  refine PySem.W.callWith_K (h₀ := X.base) I.ok.mod.kin D.mkd.kp (thn (h.pe.run pos pins s σ H _ I hq) fun us s1 ⟨vs, H1, I1, r, l1, l2, q⟩ => ⟨I1.kIn, ?_⟩) he hpl
  exact run_makeN' (ws := []) D hr B tk' hl I1 r .nil l1 l2 q
end
section
variable {X : Cx} {K : PySem.W.Frag} {CA : CAs} {W : WX} {x : Str} {d : D} {p : Pos} {mg : Str → Option Value}
theorem we_gv (G : GV K CA X.mg x d) (hg : Gl X x := by rfl) (hd : (x == ("__debug__" : Str)) = false := by decide) : WE X K CA W (.Name x p) (L2.tC G.v) (dC d) := by
  have h : ∃ u, X.mg x = some u ∧ RelV G.v u ∧ ∀ m h H, Rp K CA m h H G.v d := Classical.choose_spec G
  obtain ⟨u, h1, h2, h3⟩ := h
  exact ⟨pe_glob hg h1 h2 hd, fun m h H σ ρ Q' S t => t.here S.hr (h3 m h H)⟩
theorem gv_int {i : Int} {t : Tok} (h : mg x = some (.int i t)) : GV K CA mg x (.int i) := ⟨.int i, _, h, ⟨t, rfl⟩, fun _ _ _ => .int i⟩
theorem gv_cls {a : Addr} {c : Nat} (h : mg x = some (.ref a)) (e : CA c = a) : GV K CA mg x (.cls c) := ⟨.ref a, _, h, rfl, fun _ _ _ => by rw [← e]; exact .cls c⟩
inductive WrV (K : PySem.W.Frag) : Value → D → Prop
  | str (x : Str) (t : Tok) : WrV K (.str x t) (.str x)
  | int (i : Int) (t : Tok) : WrV K (.int i t) (.int i)
  | bl (b : Bool) : WrV K (.bool b) (.bl b)
  | non : WrV K .none .non
  | tup {a : Addr} {dd : Option Addr} {us : List Value} {n : Nat} {sl : Array (Option Value)} {ds : List D} : K.lookup a = some ⟨.type "tuple", dd, .seq us.toArray n, sl⟩ → Paired (WrV K) us ds → us.length ≤ sizeLine → WrV K (.ref a) (.tup ds)
end
def fLen : FD := fun ds h => match ds with
  | [.str z] => if z.length ≤ sizeLine then .ok (.int z.length) h else .no
  | [.scr ns] => .ok (.int ns.length) h
  | [d] => match seqOf h d with
    | some xs => .ok (.int xs.length) h
    | none => match dctOf h d with
      | some kvs => .ok (.int kvs.length) h
      | none => .no
  | _ => .no
def rLenU (K : PySem.W.Frag) : List V → Hp → VK → Prop := fun xs H Q => (∃ p ys, xs = [V.ref p] ∧ (SqL K H p ys ∨ SqT K H p ys) ∧ Q (.int ys.length) H) ∨ ((∃ z, xs = [V.str z] ∧ z.length ≤ sizeLine ∧ Q (.int z.length) H) ∨ ∃ a kvs, xs = [V.ref a] ∧ Rd H a (.dK kvs) ∧ Q (.int kvs.length) H)
section
variable {X : Cx} {K : PySem.W.Frag} {CA : CAs} {W : WX}
theorem call_lenU (hK : X.K = K := by rfl) (hl : CallR X (.builtin "len") (fun xs H Q => ∃ a kvs, xs = [V.ref a] ∧ Rd H a (.dK kvs) ∧ Q (.int kvs.length) H)) : CallR X (.builtin "len") (rLenU K) := by subst hK; exact call_len_seq.or (call_len_str.or hl)
theorem sim_len : SimC K CA (rLenU K) fLen := by
  intro W σ m h H xs ds Q' S r t
  unfold fLen at t
  split at t
  · obtain ⟨l, t⟩ := post_ite t
    cases r with
    | cons r1 r2 => cases r1; cases r2; exact .inr (.inl ⟨_, rfl, l, t.here S (.int _)⟩)
  · cases r with
    | cons r1 r2 =>
      cases r2
      cases r1 with
      | scr n e => exact .inl ⟨_, _, rfl, .inl (.inl (.inr ⟨_, e⟩)), by rw [List.length_map]; exact t.here S (.int _)⟩
      | kscr e => exact .inl ⟨_, _, rfl, .inl (sl_emp e), by rw [List.length_map]; exact t.here S (.int _)⟩
  · cases r with
    | cons r1 r2 =>
      cases r2
      split at t
      · rename_i xs e
        obtain ⟨a, ys, rfl, e1, rr⟩ := rp_seq S r1 e
        exact .inl ⟨a, ys, rfl, e1, by rw [rr.length]; exact t.here S (.int _)⟩
      · split at t
        · rename_i kvs e
          obtain ⟨a, o, hk, rfl, e1, c, en, rr⟩ := rp_dct S r1 e
          refine .inr (.inr ⟨a, hk, rfl, ?_, by rw [len_of en]; exact t.here S (.int _)⟩)
          rcases core_dK c with rfl | ⟨ob, rfl⟩
          · exact .inl e1
          · exact .inr ⟨ob, e1⟩
        · exact t.elim
  · exact t.elim
end
def tgOf (h : CH) : D → Option Tg
  | .non => some (.b "NoneType") | .bl _ => some (.b "bool") | .int _ => some (.b "int") | .str _ => some (.b "str") | .lst _ => some (.b "list") | .tup _ => some (.b "tuple") | .dct _ => some (.b "dict")
  | .obj c _ => some (.o c)
  | .scr _ => some (.b "list")
  | .ref k => match h.ob k with
    | some (.lst _) => some (.b "list")
    | some (.dct _) => some (.b "dict")
    | some (.lck _) => some (.b "dict")
    | some (.lkl _) => some (.b "list")
    | some (.obj c _) => some (.o c)
    | _ => none
  | _ => none
def clsOf : D → Option Tg
  | .ty n => some (.b n)
  | .cls c => some (.o c)
  | _ => none
def clssOf : List D → Option (List Tg)
  | [] => some []
  | d :: ds => match clsOf d, clssOf ds with
    | some t, some ts => some (t :: ts)
    | _, _ => none
abbrev KT := Tg → Tg → Option Bool
structure KtOk (K : PySem.W.Frag) (CA : CAs) (own : List Nat) (kt : KT) : Prop where
  one : ∀ a b r, kt a b = some r → PySem.W.kitOne K (a.v CA) (b.v CA) = some r
  ins : ∀ c, c ∈ own → Cls K (CA c) ∧ PySem.W.findIn K (.ref (CA c)) "__class__" = some (some (.builtin "object.__class__")) ∧ PySem.W.specialIn K (.builtin "object.__class__") "__get__" = some (some (.builtin "getset_descriptor.__get__")) ∧ PySem.W.takesIn K (.builtin "object.__class__") = some true ∧ PySem.W.mroIn K (CA c) (.type "object") = some true
def okTg (own : List Nat) : Tg → Bool
  | .b _ => true
  | .o c => decide (c ∈ own)
def fIsi (own : List Nat) (kt : KT) : FD := fun ds h => match ds with
  | [d, t] => match tgOf h d, clsOf t with
    | some a, some b => if okTg own a = true then (match kt a b with
      | some r => .ok (.bl r) h
      | none => .no) else .no
    | _, _ => .no
  | _ => .no
def ktAny (kt : KT) (a : Tg) : List Tg → Option Bool
  | [] => some false
  | b :: bs => match kt a b with
    | some true => some true
    | some false => ktAny kt a bs
    | none => none
def fIsT (own : List Nat) (kt : KT) : FD := fun ds h => match ds with
  | [d, .tup ts] => match tgOf h d, clssOf ts with
    | some a, some bs => if okTg own a = true then (match ktAny kt a bs with
      | some r => .ok (.bl r) h
      | none => .no) else .no
    | _, _ => .no
  | _ => .no
section
variable {X : Cx} {K : PySem.W.Frag} {CA : CAs} {W : WX} {m : Mp} {h : CH} {H : Hp} {own : List Nat} {kt : KT}
theorem rp_tg {v : V} {d : D} {a : Tg} (kk : KtOk K CA own kt) (S : HR K CA m h H) (r : Rp K CA m h H v d) (e : tgOf h d = some a) (ok : okTg own a = true) : TyX K H v (a.v CA) := by
  have io : ∀ {c : Nat} {p dx : Addr} {fs : List (Str × V)}, H p = some (.ins (CA c) dx fs) → okTg own (.o c) = true → TyX K H (.ref p) ((Tg.o c).v CA) := fun {c p dx fs} e ok => by
    obtain ⟨h1, h2, h3, h4, h5⟩ := kk.ins c (by simpa [okTg] using ok)
    exact .base (.ins e h1 h2 h3 h4 h5)
  cases r with
  | non => cases e; exact .base .non
  | bl b => cases e; exact .base (.bl b)
  | int b => cases e; exact .base (.int b)
  | str b => cases e; exact .base (.str b)
  | lst _ q _ => cases e; exact .base (.lst q)
  | tup _ q _ => cases e; exact .base (.tup q)
  | ktup q _ =>
    cases e
    rcases q with q | ⟨o, its, n, hk, hc, _⟩
    · rcases q with q | ⟨o, q⟩ <;> cases q
    · exact .kTuple hk hc
  | dct _ q c _ _ =>
    cases e
    rcases core_dK c with rfl | ⟨ob, rfl⟩
    · exact .base (.dK q)
    · exact .fDict q
  | obj _ q _ _ => cases e; exact io q ok
  | scr _ q => cases e; exact .base (.frz q)
  | kscr q =>
    cases e
    rcases q with q | ⟨o, its, n, hk, hc, _⟩
    · rcases q with q | ⟨o, q⟩ <;> cases q
    · exact .kList hk hc
  | ref l =>
    simp only [tgOf] at e
    split at e
    · rename_i q
      obtain ⟨xs, q1, _⟩ := mo_lst S q
      cases e; exact .base (.lst q1)
    · rename_i q
      obtain ⟨xs, q1, _⟩ := mo_dct S q
      cases e; exact .base (.dK q1)
    · rename_i q
      have x := (S.ob _ _ q).2
      cases x with
      | lck q1 en r => cases e; exact .fDict q1
    · rename_i q
      have x := (S.ob _ _ q).2
      cases x with
      | lkl q1 r => cases e; exact .base (.lst q1)
    · rename_i q
      obtain ⟨dx, xs, q1, _⟩ := mo_obj S q
      cases e; exact io q1 ok
    · cases e
  | ty => cases e
  | cls => cases e
  | exc => cases e
theorem rp_cls {v : V} {d : D} {b : Tg} (r : Rp K CA m h H v d) (e : clsOf d = some b) : ClsV v (b.v CA) := by
  cases r with
  | ty n => cases e; exact .ty n
  | cls c => cases e; exact .own _
  | _ => cases e
theorem rp_clss {vs : List V} {ds : List D} {bs : List Tg} (r : RpAll K CA m h H vs ds) (e : clssOf ds = some bs) : Paired ClsV vs (bs.map (Tg.v CA)) := by
  induction vs generalizing ds bs with
  | nil => cases r; cases e; exact .nil
  | cons v vs ih =>
    cases r with
    | cons r1 r2 =>
      simp only [clssOf] at e
      split at e
      · rename_i t ts e1 e2
        cases e
        exact .cons (rp_cls r1 e1) (ih r2 e2)
      · cases e
theorem kt_any {a : Tg} (kk : KtOk K CA own kt) : ∀ {bs : List Tg} {r : Bool}, ktAny kt a bs = some r → PySem.W.kitAny K (a.v CA) (bs.map (Tg.v CA)) = some r
  | [], r, e => by cases e; rfl
  | b :: bs, r, e => by
    simp only [ktAny] at e
    simp only [List.map_cons, PySem.W.kitAny]
    split at e
    · rename_i q
      rw [kk.one a b _ q]
      exact e
    · rename_i q
      rw [kk.one a b _ q]
      exact kt_any kk e
    · cases e
theorem sim_isi (kk : KtOk K CA own kt) : SimC K CA (rIsi K) (fIsi own kt) := by
  intro W σ m h H xs ds Q' S r t
  unfold fIsi at t
  split at t
  · split at t
    · rename_i a b ea eb
      obtain ⟨ok, t⟩ := post_ite t
      split at t
      · rename_i r' ek
        cases r with
        | cons r1 r2 => cases r2 with
          | cons r2 r3 => cases r3; exact ⟨_, _, _, _, _, rfl, rp_cls r2 eb, rp_tg kk S r1 ea ok, kk.one _ _ _ ek, t.here S (.bl _)⟩
      · exact t.elim
    · exact t.elim
  · exact t.elim
def rIsiU (K : PySem.W.Frag) : List V → Hp → VK → Prop := fun xs H Q => rIsiT K xs H Q ∨ rIsiK K xs H Q
theorem call_isiTU (hK : X.K = K := by rfl) : CallR X (.builtin "isinstance") (rIsiU K) := by subst hK; exact call_isiT.or call_isiK
theorem sim_isT (kk : KtOk K CA own kt) : SimC K CA (rIsiU K) (fIsT own kt) := by
  intro W σ m h H xs ds Q' S r t
  unfold fIsT at t
  split at t
  · split at t
    · rename_i a bs ea eb
      obtain ⟨ok, t⟩ := post_ite t
      split at t
      · rename_i r' ek
        cases r with
        | cons r1 r2 => cases r2 with
          | cons r2 r3 =>
            cases r3
            cases r2 with
            | tup n2 e2 ra => exact .inl ⟨_, _, _, _, _, _, rfl, e2, rp_clss ra eb, rp_tg kk S r1 ea ok, kt_any kk ek, t.here S (.bl _)⟩
            | ktup hk ra =>
              have hp := rp_clss ra eb
              have ha := kt_any kk ek
              rcases hk with hk | ⟨ob, its, m2, h1, h2, h3, h4, h5⟩
              · rcases hk with hk | ⟨_, hk⟩ <;> cases hk
              · have e3 := ClsV.all hp h5
                obtain ⟨oc, od, dt, sl⟩ := ob
                simp only at h2 h3
                subst h2 h3
                refine .inr ⟨_, _, od, _, m2, sl, _, _, rfl, ?_, rp_tg kk S r1 ea ok, ha, t.here S (.bl _)⟩
                rw [h1, ← e3]
      · exact t.elim
    · exact t.elim
  · exact t.elim
end
section
variable {X : Cx} {K : PySem.W.Frag} {CA : CAs} {W : WX} {m : Mp} {h : CH} {H : Hp}
def fListOf (nm : Bool) : FD := fun ds h => match ds with
  | [d] => match seqOf h d with
    | some xs => mkL nm xs h
    | none => .no
  | _ => .no
def fTupOf : FD := fun ds h => match ds with
  | [.tup xs] => .ok (.tup xs) h
  | [d] => match lstOf h d with
    | some xs => .ok (.tup xs) h
    | none => .no
  | _ => .no
def rListOf (K : PySem.W.Frag) : List V → Hp → VK → Prop := fun xs H Q => ∃ p ys, xs = [V.ref p] ∧ (SqL K H p ys ∨ SqT K H p ys) ∧ ∀ l, H l = none → Q (.ref l) (upd H l (.lst ys))
def rTupOf (K : PySem.W.Frag) : List V → Hp → VK → Prop := fun xs H Q => ∃ p ys, xs = [V.ref p] ∧ ((SqL K H p ys ∧ ∀ l, H l = none → Q (.ref l) (upd H l (.tup ys))) ∨ (SqT K H p ys ∧ Q (.ref p) H))
theorem call_listOf (hK : X.K = K := by rfl) : CallR X (.type "list") (rListOf K) := by subst hK; exact call_list_of
theorem call_tupOf (hK : X.K = K := by rfl) : CallR X (.type "tuple") (rTupOf K) := by subst hK; exact call_tuple_of
theorem sim_listOf {nm : Bool} : SimC K CA (rListOf K) (fListOf nm) := by
  intro W σ m h H xs ds Q' S r t
  unfold fListOf at t
  split at t
  · split at t
    · rename_i xs e
      cases r with
      | cons r1 r2 =>
        cases r2
        obtain ⟨a, ys, rfl, e1, rr⟩ := rp_seq S r1 e
        exact ⟨a, ys, rfl, e1, fun l n => mkL_post S n rr t⟩
    · exact t.elim
  · exact t.elim
theorem sim_tupOf : SimC K CA (rTupOf K) fTupOf := by
  intro W σ m h H xs ds Q' S r t
  unfold fTupOf at t
  split at t
  · cases r with
    | cons r1 r2 =>
      cases r2
      obtain ⟨a, ys, rfl, e1, rr⟩ := rp_tup r1
      exact ⟨a, ys, rfl, .inr ⟨e1, t.here S r1⟩⟩
  · split at t
    · rename_i xs e
      cases r with
      | cons r1 r2 =>
        cases r2
        obtain ⟨a, ys, rfl, e1, rr⟩ := rp_lst S r1 e
        exact ⟨a, ys, rfl, .inl ⟨.of e1, fun l n => t.laid S n (.tup (S.fresh n) upd_same (rps_laid S n rr))⟩⟩
    · exact t.elim
  · exact t.elim
def fMin : FD := fun ds h => match ds with
  | [.int i, .int j] => .ok (.int (if j < i then j else i)) h
  | _ => .no
def fAbs : FD := fun ds h => match ds with
  | [.int i] => .ok (.int (if i < 0 then -i else i)) h
  | _ => .no
def fInt : FD := fun ds h => match ds with
  | [.int i] => .ok (.int i) h
  | [.bl k] => .ok (.int (if k then 1 else 0)) h
  | _ => .no
def fNeg : F1 := fun d h => match d with
  | .int i => .ok (.int (-i)) h
  | _ => .no
def rMin : List V → Hp → VK → Prop := fun xs H Q => ∃ i j, xs = [V.int i, V.int j] ∧ Q (.int (if j < i then j else i)) H
def rAbs : List V → Hp → VK → Prop := fun xs H Q => ∃ i, xs = [V.int i] ∧ Q (.int (if i < 0 then -i else i)) H
def rInt : List V → Hp → VK → Prop := fun xs H Q => (∃ i, xs = [V.int i] ∧ Q (.int i) H) ∨ ∃ k, xs = [V.bl k] ∧ Q (.int (if k then 1 else 0)) H
theorem call_minU (hc : X.calm = true := by rfl) : CallR X (.builtin "min") rMin := call_min2 hc
theorem sim_min : SimC K CA rMin fMin := by
  intro W σ m h H xs ds Q' S r t
  unfold fMin at t
  split at t
  · cases r with
    | cons r1 r2 => cases r2 with
      | cons r2 r3 => cases r1; cases r2; cases r3; exact ⟨_, _, rfl, t.here S (.int _)⟩
  · exact t.elim
theorem sim_abs : SimC K CA rAbs fAbs := by
  intro W σ m h H xs ds Q' S r t
  unfold fAbs at t
  split at t
  · cases r with
    | cons r1 r2 => cases r1; cases r2; exact ⟨_, rfl, t.here S (.int _)⟩
  · exact t.elim
theorem sim_int : SimC K CA rInt fInt := by
  intro W σ m h H xs ds Q' S r t
  unfold fInt at t
  split at t
  · cases r with
    | cons r1 r2 => cases r1; cases r2; exact .inl ⟨_, rfl, t.here S (.int _)⟩
  · cases r with
    | cons r1 r2 => cases r1; cases r2; exact .inr ⟨_, rfl, t.here S (.int _)⟩
  · exact t.elim
end
def intsOf : List D → Option (List Int)
  | [] => some []
  | .int i :: r => match intsOf r with
    | some is => some (i :: is)
    | none => none
  | _ => none
def blsOf : List D → Option (List Bool)
  | [] => some []
  | .bl i :: r => match blsOf r with
    | some is => some (i :: is)
    | none => none
  | _ => none
def fAllB (neg : Bool) : FD := fun ds h => match ds with
  | [d] => match lstOf h d with
    | some xs => match blsOf xs with
      | some bs => .ok (.bl (if neg then bs.any id else bs.all id)) h
      | none => .no
    | none => .no
  | _ => .no
section
variable {X : Cx} {K : PySem.W.Frag} {CA : CAs} {W : WX} {m : Mp} {h : CH} {H : Hp} {e : Expr} {pos : Pos} {ha : TE} {ta : TD}
theorem rp_ints : ∀ {ds : List D} {is : List Int} {vs : List V}, RpAll K CA m h H vs ds → intsOf ds = some is → vs = is.map V.int ∧ ds = is.map D.int
  | [], is, vs, r, e => by cases r; cases e; exact ⟨rfl, rfl⟩
  | d :: ds, is, vs, r, e => by
    cases r with
    | cons r1 r2 =>
      cases r1 with
      | int i =>
        simp only [intsOf] at e
        split at e
        · rename_i is' e'
          cases e
          obtain ⟨e1, e2⟩ := rp_ints r2 e'
          exact ⟨by rw [e1]; rfl, by rw [e2]; rfl⟩
        · cases e
      | _ => simp [intsOf] at e
theorem rp_bls : ∀ {ds : List D} {is : List Bool} {vs : List V}, RpAll K CA m h H vs ds → blsOf ds = some is → vs = is.map V.bl ∧ ds = is.map D.bl
  | [], is, vs, r, e => by cases r; cases e; exact ⟨rfl, rfl⟩
  | d :: ds, is, vs, r, e => by
    cases r with
    | cons r1 r2 =>
      cases r1 with
      | bl i =>
        simp only [blsOf] at e
        split at e
        · rename_i is' e'
          cases e
          obtain ⟨e1, e2⟩ := rp_bls r2 e'
          exact ⟨by rw [e1]; rfl, by rw [e2]; rfl⟩
        · cases e
      | _ => simp [blsOf] at e
theorem call_allU (hc : X.calm = true := by rfl) (hK : X.K = K := by rfl) : CallR X (.builtin "all") (rAll K) := by subst hK; exact cr_all hc
theorem sim_all : SimC K CA (rAll K) (fAllB false) := by
  intro W σ m h H xs ds Q' S r t
  unfold fAllB at t
  split at t
  · split at t
    · rename_i xs e
      split at t
      · rename_i bs eb
        cases r with
        | cons r1 r2 =>
          cases r2
          obtain ⟨a, ys, rfl, e1, rr⟩ := rp_lst S r1 e
          obtain ⟨q1, q2⟩ := rp_bls rr eb
          subst q1
          exact ⟨a, bs, rfl, .of e1, t.here S (.bl _)⟩
      · exact t.elim
    · exact t.elim
  · exact t.elim
theorem we_neg (x : WE X K CA W e ha ta) : WE X K CA W (.UnaryOp .USub e pos) (tUn (rU fun i => .int (-i)) ha) (dUn fNeg ta) :=
  ⟨pe_un un_neg x.pe, fun m h H σ ρ Q' S t => x.sim m h H σ ρ _ S (t.bind fun d h1 m1 v H1 s1 S1 r1 t1 => by
    unfold fNeg at t1
    split at t1
    · cases r1; exact ⟨_, rfl, t1.here S1 (.int _)⟩
    · exact t1.elim)⟩
end
def SM (base : Heap) : Prop := ∃ o es ep, base.get? sysModules = some o ∧ o.data = .dict es ep
def LawF (F : FD) : Prop := ∀ ns : List Int, ns.length ≤ 63 → ∃ h, F [.scr ns] CH.emp = .ok (.bl true) h
theorem boot_lenU : bootBuiltins "len" = some (.builtin "len") := by rfl
theorem boot_isinstanceU : bootBuiltins "isinstance" = some (.builtin "isinstance") := by rfl
theorem boot_minU : bootBuiltins "min" = some (.builtin "min") := by rfl
theorem boot_maxU : bootBuiltins "max" = some (.builtin "max") := by rfl
theorem boot_absU : bootBuiltins "abs" = some (.builtin "abs") := by rfl
theorem boot_reprU : bootBuiltins "repr" = some (.builtin "repr") := by rfl
theorem boot_allU : bootBuiltins "all" = some (.builtin "all") := by rfl
theorem boot_sortedU : bootBuiltins "sorted" = some (.builtin "sorted") := by rfl
theorem boot_intU : bootBuiltins "int" = some (.type "int") := by rfl
theorem boot_boolU : bootBuiltins "bool" = some (.type "bool") := by rfl
theorem boot_strU : bootBuiltins "str" = some (.type "str") := by rfl
theorem boot_tupleU : bootBuiltins "tuple" = some (.type "tuple") := by rfl
theorem boot_listU : bootBuiltins "list" = some (.type "list") := by rfl
theorem call_lenRd {X : Cx} : CallR X (.builtin "len") (fun xs H Q => ∃ a kvs, xs = [V.ref a] ∧ Rd H a (.dK kvs) ∧ Q (.int kvs.length) H) := by
  rintro pins s σ H xs us Q I r ⟨a, kvs, rfl, rd, q⟩
  obtain ⟨u, rfl, ru⟩ := vals1 r
  cases ru
  exact d_len I rd fun t s2 I2 => ⟨V.int kvs.length, H, I2, ⟨t, rfl⟩, q⟩
section
variable {P : Program} {w : World} {K : PySem.W.Frag} {mg : Str → Option Value} {base : Heap} {CA : CAs}
theorem WrV.rel : ∀ {u : Value} {d : D}, WrV K u d → ∃ v, RelV v u ∧ ∀ m h H, Rp K CA m h H v d := fun {u d} w => by
  refine WrV.rec (motive_1 := fun u d _ => ∃ v, RelV v u ∧ ∀ m h H, Rp K CA m h H v d) (motive_2 := fun us ds _ => ∃ vs, Vals vs us ∧ ∀ m h H, RpAll K CA m h H vs ds) ?_ ?_ ?_ ?_ ?_ ?_ ?_ w
  · exact fun x t => ⟨.str x, ⟨t, rfl⟩, fun _ _ _ => .str x⟩
  · exact fun x t => ⟨.int x, ⟨t, rfl⟩, fun _ _ _ => .int x⟩
  · exact fun b => ⟨.bl b, rfl, fun _ _ _ => .bl b⟩
  · exact ⟨.non, rfl, fun _ _ _ => .non⟩
  · intro a dd us n sl ds hk _ hl ⟨vs, h1, h2⟩
    exact ⟨.ref a, rfl, fun m h H => .ktup (.inr ⟨_, us.toArray, n, hk, rfl, rfl, by rw [List.size_toArray]; exact hl, by simpa using h1⟩) (h2 m h H)⟩
  · exact ⟨[], .nil, fun _ _ _ => .nil⟩
  · intro u d us ds _ _ ⟨v, h1, h2⟩ ⟨vs, h3, h4⟩
    exact ⟨v :: vs, .cons h1 h3, fun m h H => .cons (h2 m h H) (h4 m h H)⟩
theorem gv_wr {x : Str} {u : Value} {d : D} (h : mg x = some u) (w : WrV K u d) : GV K CA mg x d := by
  obtain ⟨v, h1, h2⟩ := w.rel (CA := CA)
  exact ⟨v, u, h, h1, h2⟩
end
def ktB : KT := fun a b => match a, b with
  | .b a, .b b => if a ∈ tys ∧ b ∈ tys then some (a == b || (a == "bool" && b == "int")) else none
  | _, _ => none
theorem kitB_tys : ∀ a, a ∈ tys → ∀ b, b ∈ tys → kitB a b = some (a == b || (a == "bool" && b == "int")) := by decide +kernel
theorem ktB_ok {K : PySem.W.Frag} {CA : CAs} : KtOk K CA [] ktB := by
  refine ⟨fun a b r e => ?_, fun c hc => (nomatch hc)⟩
  cases a with
  | b a => cases b with
    | b b =>
      simp only [ktB] at e
      by_cases c : a ∈ tys ∧ b ∈ tys
      · rw [if_pos c] at e
        rw [← e]
        exact kit_ty (kitB_tys a c.1 b c.2)
      · rw [if_neg c] at e; cases e
    | o c => cases e
  | o c => cases e
abbrev eSet (w : World) : Obj := { cls := .type "set", dict := none, data := .set #[] 0 (.fresh 0 0 (!w.params.followText "set-order")) }
section
variable {P : Program} {w : World} {A : Around} {E : Value → Shared → Prop} {s : Shared}
theorem set_by_list {l : Addr} {its : Array Value} {Post : Heap → Prop} {Q : Value → Shared → Prop} (calm : A.handled = none) (hl : s.heap.IsList l its)
    (fill : ∀ (R : Result → Shared → Prop) (I : Addr) (St : Nat → Shared → Prop) (s1 : Shared), s.heap.objs.size ∉ [I, l] → WalksS P w A.in1.in1.in1 I [I, l] [I] (fun a b => b = a) its.size (fun i v => its[i]? = some v) St → St 0 s1 →
      s1.heap.get? s.heap.objs.size = some (eSet w) → (∀ s2, Moved [s.heap.objs.size, I] (fun a b => b = a) s1 s2 → Post s2.heap → R (.ok (.ret .none)) s2) → codeAny (model P w) A.in1.in1 (.builtin "set.update.loop" ⟨[.ref s.heap.objs.size, .ref I], []⟩) R s1)
    (done : ∀ (h2 : Heap) (tk : Nat), Post h2 → (∀ b o, s.heap.get? b = some o → h2.get? b = some o) → Q (.ref s.heap.objs.size) { s with heap := h2, toks := tk }) :
    wpAny (model P w) A (call (.type "set") [.ref l]) Q E s := by
  obtain ⟨_, _, f_mro⟩ := PySem.F.called_set.mro
  have f_made := PySem.F.called_set.made
  have f_sub := PySem.F.called_set.sub
  refine wpAny_call (codeAny_of_tree ?_)
  show wpAny _ _ (callAny (.type "set") _) _ _ _
  refine wpAny_pure ⟨Code.quiet_builtin _ (by decide +kernel), codeAny_builtin PySem.F.entry_type_call ?_⟩
  rw [Around.under_plain (weight_type_call_type "set" [.ref l] []) rfl]
  have f_1 := PySem.F.called_set.notType
  have f_2 := PySem.F.called_set.canCreate
  have f_3 := PySem.F.typeCall_set_1 (.ref l)
  repeat any_goals (first | assumption | wp_step)
  refine codeAny_mono (code_set_led1 (.ref l) (E := E) (Q₁ := fun ob s1 => ob = .ref s.heap.objs.size ∧ s1 = { s with heap := s.heap.push (eSet w) }) ⟨rfl, rfl⟩) fun r s1 hr => ?_
  rcases r with e | fl
  · exact hr
  · rcases fl with _ | _ | _ | ob
    · exact hr.elim
    · exact hr.elim
    · exact hr.elim
    · obtain ⟨rfl, rfl⟩ := hr
      have atS : (s.heap.push (eSet w)).get? s.heap.objs.size = some (eSet w) := Heap.get?_push_size _ rfl
      have tyS : Shared.TypeIs { s with heap := s.heap.push (eSet w) } (.ref s.heap.objs.size) "set" := ⟨_, atS, rfl⟩
      have f_4 := PySem.F.called_set.init.lookup
      have f_5 := PySem.F.called_set.init.bind (.ref s.heap.objs.size)
      repeat any_goals (first | assumption | wp_step)
      refine codeAny_mono (codeAny_call_builtin (R := wants (fun r s2 => r = .none ∧ ∃ h2 tk, s2 = { s with heap := h2, toks := tk } ∧ Post h2 ∧ (∀ b o, s.heap.get? b = some o → h2.get? b = some o)) E)
        PySem.F.called_set.init.plain PySem.F.entry_set_init (check_set_init_1 tyS ?_)) fun r2 s2 hr2 => ?_
      · obtain ⟨ol, look, ec, nl, ed⟩ := hl
        obtain ⟨oc, od, oda, osl⟩ := ol
        dsimp only at ec ed
        subst ec ed
        have look2 : (s.heap.push (eSet w)).get? l = some { cls := .type "list", dict := od, data := .seq its nl, slots := osl } := Heap.get?_push_of_some _ look
        have f_6 := PySem.F.sub_list_set
        have f_7 := PySem.F.sub_list_frozenset
        have f_8 : (Value.type "list" == Value.type "dict") = false := by decide
        have is2 : (s.heap.push (eSet w)).IsList l its := ⟨_, look2, rfl, nl, rfl⟩
        unfold Builtin.«set.__init__» noKeywords Builtin.Frozenset.updateFrom
        generalize ePI : pyIter = PI
        wp_walk
        subst ePI
        refine wpAny_pyIter_list is2 ?_
        refine wpAny_bind (wpAny_runValue ?_)
        have lts : l < s.heap.objs.size := Heap.lt_size look
        have calm3 : A.in1.in1.in1.handled = none := by simp [calm]
        have sz : (s.heap.push (eSet w)).objs.size = s.heap.objs.size + 1 := Heap.size_push ..
        have neI : l ≠ (s.heap.push (eSet w)).objs.size := by rw [sz]; exact Nat.ne_of_lt (Nat.lt_succ_of_lt lts)
        have nin : s.heap.objs.size ∉ [(s.heap.push (eSet w)).objs.size, l] := by
          rw [sz]
          intro z
          rcases List.mem_cons.mp z with z | z
          · exact absurd z (Nat.ne_of_lt (Nat.lt_succ_self _))
          · exact absurd (List.mem_singleton.mp z) (Nat.ne_of_gt lts)
        refine fill _ _ _ _ nin ((Walks.list calm3 _ l neI its).toS) ⟨⟨_, Heap.get?_push_size _ rfl, rfl, rfl⟩, is2.push _⟩ (Heap.get?_push_of_some _ atS) fun s3 mv p3 => ?_
        obtain ⟨h3, g3, d3, tk3, os3⟩ := s3
        obtain rfl : g3 = s.gens := mv.gens
        obtain rfl : d3 = s.drawn := mv.drawn
        obtain rfl : os3 = s.os := mv.os
        show wpAny _ _ _ _ _ _
        refine wpAny_pure ?_
        show wpAny _ _ (ret Value.none) _ _ _
        refine wpAny_pure ⟨rfl, h3, tk3, rfl, p3, fun b o e => ?_⟩
        have ltb := Heap.lt_size e
        refine mv.heap b o (fun z => ?_) (Heap.get?_push_of_some _ (Heap.get?_push_of_some _ e))
        rcases List.mem_cons.mp z with z | z
        · exact absurd z (Nat.ne_of_lt ltb)
        · exact absurd (List.mem_singleton.mp z) (by rw [sz]; exact Nat.ne_of_lt (Nat.lt_succ_of_lt ltb))
      · rcases r2 with e | fl2
        · exact hr2
        · rcases fl2 with _ | _ | _ | u
          · exact hr2.elim
          · exact hr2.elim
          · exact hr2.elim
          · obtain ⟨rfl, h2, tk, rfl, p2, k2⟩ := hr2
            repeat any_goals (first | assumption | wp_step)
            exact done _ _ p2 k2
theorem set_by_tuple {l : Addr} {its : Array Value} {Post : Heap → Prop} {Q : Value → Shared → Prop} (calm : A.handled = none) (hl : s.heap.IsTuple l its)
    (fill : ∀ (R : Result → Shared → Prop) (I : Addr) (St : Nat → Shared → Prop) (s1 : Shared), s.heap.objs.size ∉ [I, l] → WalksS P w A.in1.in1.in1 I [I, l] [I] (fun a b => b = a) its.size (fun i v => its[i]? = some v) St → St 0 s1 →
      s1.heap.get? s.heap.objs.size = some (eSet w) → (∀ s2, Moved [s.heap.objs.size, I] (fun a b => b = a) s1 s2 → Post s2.heap → R (.ok (.ret .none)) s2) → codeAny (model P w) A.in1.in1 (.builtin "set.update.loop" ⟨[.ref s.heap.objs.size, .ref I], []⟩) R s1)
    (done : ∀ (h2 : Heap) (tk : Nat), Post h2 → (∀ b o, s.heap.get? b = some o → h2.get? b = some o) → Q (.ref s.heap.objs.size) { s with heap := h2, toks := tk }) :
    wpAny (model P w) A (call (.type "set") [.ref l]) Q E s := by
  obtain ⟨_, _, f_mro⟩ := PySem.F.called_set.mro
  have f_made := PySem.F.called_set.made
  have f_sub := PySem.F.called_set.sub
  refine wpAny_call (codeAny_of_tree ?_)
  show wpAny _ _ (callAny (.type "set") _) _ _ _
  refine wpAny_pure ⟨Code.quiet_builtin _ (by decide +kernel), codeAny_builtin PySem.F.entry_type_call ?_⟩
  rw [Around.under_plain (weight_type_call_type "set" [.ref l] []) rfl]
  have f_1 := PySem.F.called_set.notType
  have f_2 := PySem.F.called_set.canCreate
  have f_3 := PySem.F.typeCall_set_1 (.ref l)
  repeat any_goals (first | assumption | wp_step)
  refine codeAny_mono (code_set_led1 (.ref l) (E := E) (Q₁ := fun ob s1 => ob = .ref s.heap.objs.size ∧ s1 = { s with heap := s.heap.push (eSet w) }) ⟨rfl, rfl⟩) fun r s1 hr => ?_
  rcases r with e | fl
  · exact hr
  · rcases fl with _ | _ | _ | ob
    · exact hr.elim
    · exact hr.elim
    · exact hr.elim
    · obtain ⟨rfl, rfl⟩ := hr
      have atS : (s.heap.push (eSet w)).get? s.heap.objs.size = some (eSet w) := Heap.get?_push_size _ rfl
      have tyS : Shared.TypeIs { s with heap := s.heap.push (eSet w) } (.ref s.heap.objs.size) "set" := ⟨_, atS, rfl⟩
      have f_4 := PySem.F.called_set.init.lookup
      have f_5 := PySem.F.called_set.init.bind (.ref s.heap.objs.size)
      repeat any_goals (first | assumption | wp_step)
      refine codeAny_mono (codeAny_call_builtin (R := wants (fun r s2 => r = .none ∧ ∃ h2 tk, s2 = { s with heap := h2, toks := tk } ∧ Post h2 ∧ (∀ b o, s.heap.get? b = some o → h2.get? b = some o)) E)
        PySem.F.called_set.init.plain PySem.F.entry_set_init (check_set_init_1 tyS ?_)) fun r2 s2 hr2 => ?_
      · obtain ⟨ol, look, ec, nl, ed⟩ := hl
        obtain ⟨oc, od, oda, osl⟩ := ol
        dsimp only at ec ed
        subst ec ed
        have look2 : (s.heap.push (eSet w)).get? l = some { cls := .type "tuple", dict := od, data := .seq its nl, slots := osl } := Heap.get?_push_of_some _ look
        have f_6 := PySem.F.sub_tuple_set
        have f_7 := PySem.F.sub_tuple_frozenset
        have f_8 : (Value.type "tuple" == Value.type "dict") = false := by decide
        have is2 : (s.heap.push (eSet w)).IsTuple l its := ⟨_, look2, rfl, nl, rfl⟩
        unfold Builtin.«set.__init__» noKeywords Builtin.Frozenset.updateFrom
        generalize ePI : pyIter = PI
        wp_walk
        subst ePI
        refine wpAny_pyIter_tuple is2 ?_
        refine wpAny_bind (wpAny_runValue ?_)
        have lts : l < s.heap.objs.size := Heap.lt_size look
        have calm3 : A.in1.in1.in1.handled = none := by simp [calm]
        have sz : (s.heap.push (eSet w)).objs.size = s.heap.objs.size + 1 := Heap.size_push ..
        have neI : l ≠ (s.heap.push (eSet w)).objs.size := by rw [sz]; exact Nat.ne_of_lt (Nat.lt_succ_of_lt lts)
        have nin : s.heap.objs.size ∉ [(s.heap.push (eSet w)).objs.size, l] := by
          rw [sz]
          intro z
          rcases List.mem_cons.mp z with z | z
          · exact absurd z (Nat.ne_of_lt (Nat.lt_succ_self _))
          · exact absurd (List.mem_singleton.mp z) (Nat.ne_of_gt lts)
        refine fill _ _ _ _ nin ((Walks.tuple calm3 _ l neI its).toS) ⟨⟨_, Heap.get?_push_size _ rfl, rfl, rfl⟩, is2.push _⟩ (Heap.get?_push_of_some _ atS) fun s3 mv p3 => ?_
        obtain ⟨h3, g3, d3, tk3, os3⟩ := s3
        obtain rfl : g3 = s.gens := mv.gens
        obtain rfl : d3 = s.drawn := mv.drawn
        obtain rfl : os3 = s.os := mv.os
        show wpAny _ _ _ _ _ _
        refine wpAny_pure ?_
        show wpAny _ _ (ret Value.none) _ _ _
        refine wpAny_pure ⟨rfl, h3, tk3, rfl, p3, fun b o e => ?_⟩
        have ltb := Heap.lt_size e
        refine mv.heap b o (fun z => ?_) (Heap.get?_push_of_some _ (Heap.get?_push_of_some _ e))
        rcases List.mem_cons.mp z with z | z
        · exact absurd z (Nat.ne_of_lt ltb)
        · exact absurd (List.mem_singleton.mp z) (by rw [sz]; exact Nat.ne_of_lt (Nat.lt_succ_of_lt ltb))
      · rcases r2 with e | fl2
        · exact hr2
        · rcases fl2 with _ | _ | _ | u
          · exact hr2.elim
          · exact hr2.elim
          · exact hr2.elim
          · obtain ⟨rfl, h2, tk, rfl, p2, k2⟩ := hr2
            repeat any_goals (first | assumption | wp_step)
            exact done _ _ p2 k2
end
def insU (x : Int) : List Int → List Int
  | [] => [x]
  | y :: r => if x < y then x :: y :: r else if x = y then y :: r else y :: insU x r
def sortU : List Int → List Int
  | [] => []
  | x :: r => insU x (sortU r)
theorem mem_insU (x z : Int) : ∀ l, z ∈ insU x l ↔ z = x ∨ z ∈ l
  | [] => by simp [insU]
  | y :: r => by
    unfold insU
    split
    · simp
    · split
      · rename_i e
        subst e
        simp
      · rw [List.mem_cons, mem_insU x z r, List.mem_cons]
        constructor
        · rintro (a | a | a)
          · exact .inr (.inl a)
          · exact .inl a
          · exact .inr (.inr a)
        · rintro (a | a | a)
          · exact .inr (.inl a)
          · exact .inl a
          · exact .inr (.inr a)
theorem mem_sortU (z : Int) : ∀ l, z ∈ sortU l ↔ z ∈ l
  | [] => by simp [sortU]
  | x :: r => by rw [sortU, mem_insU, mem_sortU z r, List.mem_cons]
theorem insU_lt (x : Int) : ∀ l : List Int, l.Pairwise (· < ·) → (insU x l).Pairwise (· < ·)
  | [], _ => by simp [insU]
  | y :: r, h => by
    unfold insU
    have h' := List.pairwise_cons.mp h
    split
    · rename_i c
      refine List.pairwise_cons.mpr ⟨fun z hz => ?_, h⟩
      rcases List.mem_cons.mp hz with e | e
      · omega
      · have := h'.1 z e; omega
    · split
      · exact h
      · refine List.pairwise_cons.mpr ⟨fun z hz => ?_, insU_lt x r h'.2⟩
        rcases (mem_insU x z r).mp hz with e | e
        · omega
        · exact h'.1 z e
theorem sortU_lt : ∀ l : List Int, (sortU l).Pairwise (· < ·)
  | [] => .nil
  | x :: r => insU_lt x _ (sortU_lt r)
theorem lt_same : ∀ {l l' : List Int}, l.Pairwise (· < ·) → l'.Pairwise (· < ·) → (∀ z, z ∈ l ↔ z ∈ l') → l = l'
  | [], [], _, _, _ => rfl
  | [], y :: r, _, _, e => by have := (e y).mpr (List.mem_cons_self ..); cases this
  | y :: r, [], _, _, e => by have := (e y).mp (List.mem_cons_self ..); cases this
  | x :: r, y :: t, h1, h2, e => by
    have a1 := List.pairwise_cons.mp h1
    have a2 := List.pairwise_cons.mp h2
    have exy : x = y := by
      rcases List.mem_cons.mp ((e x).mp (List.mem_cons_self ..)) with z | z
      · exact z
      · rcases List.mem_cons.mp ((e y).mpr (List.mem_cons_self ..)) with u | u
        · exact u.symm
        · have := a2.1 x z; have := a1.1 y u; omega
    subst exy
    rw [lt_same a1.2 a2.2 fun z => ?_]
    constructor
    · intro hz
      rcases List.mem_cons.mp ((e z).mp (List.mem_cons_of_mem _ hz)) with u | u
      · have := a1.1 z hz; omega
      · exact u
    · intro hz
      rcases List.mem_cons.mp ((e z).mpr (List.mem_cons_of_mem _ hz)) with u | u
      · have := a2.1 z hz; omega
      · exact u
def fSortSet (nm : Bool) : F1 := fun d h => match seqOf h d with
  | some xs => match intsOf xs with
    | some is => if is.length < 64 then mkL nm ((sortU is).map D.int) h else .no
    | none => .no
  | none => .no
def tSortSet (K : PySem.W.Frag) (ta : TE) : TE := fun σ H Q => ta σ H fun x H1 => ∃ a ns, x = V.ref a ∧ (SqL K H1 a (ns.map V.int) ∨ SqT K H1 a (ns.map V.int)) ∧ ns.length < 64 ∧ ∀ p, H1 p = none → Q (.ref p) (upd H1 p (.lst ((sortU ns).map V.int)))
section
variable {X : Cx} {K : PySem.W.Frag} {CA : CAs} {W : WX} {e : Expr} {p p2 q pos : Pos} {ha : TE} {ta : TD}
theorem valsI_of {ns : List Int} {its : List Value} (hi : IntsAre its ns) : ∀ (i : Nat) (v : Value), its.toArray[i]? = some v → ∃ k t, ns[i]? = some k ∧ v = .int k t := fun i v hv => by
  have hv' : its[i]? = some v := by simpa using hv
  obtain ⟨t, e⟩ := PyProof.Rows.IntsAre.int_at hi i v hv'
  have lt : i < ns.length := by
    rw [← IntsAre.length hi]
    exact (List.getElem?_eq_some_iff.mp hv').1
  refine ⟨ns[i], t, List.getElem?_eq_getElem lt, ?_⟩
  rw [e, List.getD_eq_getElem?_getD, List.getElem?_eq_getElem lt]
  rfl
theorem pe_sortSet (hc : X.calm = true) (hg : Gl X "sorted") (hm : X.mg "sorted" = none) (hg2 : Gl X "set") (hm2 : X.mg "set" = none) (ha' : PE X e ha) (hK : X.K = K := by rfl)
    (na : starEach [e] X.env = (false, eval e X.env) :: starEach [] X.env := by rfl) : PE X (.Call (.Name "sorted" p) [.Call (.Name "set" p2) [e] [] q] [] pos) (tSortSet K ha) := by
  subst hK
  refine ⟨fun pins s σ H Q I h => ?_⟩
  refine Call_ (ld_blt I hg hm boot_sortedU ?_)
  refine PyProof.Rows.callWith_builtin1 (PyProof.Rows.args_cons ?_ rfl) rfl rfl
  refine Call_ (ld_blt I hg2 hm2 boot_set ?_)
  refine PyProof.Rows.callWith_type1 (PyProof.Rows.args_cons (thn (ha'.run pins s σ H _ I h) fun v s1 ⟨x, H1, I1, r1, q1⟩ => PyProof.Rows.args_nil ?_) na) na rfl
  obtain ⟨a, ns, rfl, hs, l3, q2⟩ := q1
  cases r1
  have room : ns.length + 1 < scanBound := by unfold scanBound; omega
  have last : ∀ (h2 : Heap) (tk : Nat), (∃ c, c ≤ ns.length ∧ SetR X.w h2 s1.heap.objs.size (fun j => decide (j ∈ ns)) c) → (∀ b o, s1.heap.get? b = some o → h2.get? b = some o) →
      wpAny (model X.prog X.w) X.A (spliced (backTo pos (starEach [] X.env))) (fun vs s₂ => wpAny (model X.prog X.w) X.A (call (.builtin "sorted") (Value.ref s1.heap.objs.size :: vs)) (EP X pins σ Q) X.xe s₂) X.xe { s1 with heap := h2, toks := tk } := fun h2 tk ⟨c, lc, R⟩ kp => by
    refine PyProof.Rows.args_nil ?_
    have I2 : Inv X pins σ H1 { s1 with heap := h2, toks := tk } := I1.kept kp
    refine sorted_set (P := X.prog) R (I1.ok.hd hc) (by omega) fun s3 pp out cc l k3 g3 o3 lp atp isI pw mem len => ?_
    have el : l = sortU ns := lt_same pw (sortU_lt ns) fun z => by rw [mem, mem_sortU]; simp
    have nP := I2.hok.fresh lp
    have lz : (l.map V.int).length ≤ sizeLine := by rw [List.length_map, len]; exact Nat.le_trans lc (Nat.le_trans (Nat.le_of_lt l3) (by decide))
    have I3 : Inv X pins σ (upd H1 pp (.lst (l.map V.int))) s3 :=
      I2.call' (ch := []) o3 (Un.laid k3 lp nP) (I2.hok.laid k3 lp ⟨lz, out.toList, cc, vals_of_ints isI, by rw [Array.toArray_toList]; exact atp⟩) (by rw [g3]; exact I2.bare) (fun _ z => nomatch z)
    subst el
    exact ⟨.ref pp, _, I3, rfl, q2 pp (I2.hok.fresh lp)⟩
  have fill : ∀ {its : List Value} (hi : IntsAre its ns) (R : Result → Shared → Prop) (I : Addr) (St : Nat → Shared → Prop) (s2 : Shared), s1.heap.objs.size ∉ [I, a] → WalksS X.prog X.w X.A.in1.in1.in1 I [I, a] [I] (fun a b => b = a) its.toArray.size (fun i v => its.toArray[i]? = some v) St → St 0 s2 →
      s2.heap.get? s1.heap.objs.size = some (eSet X.w) → (∀ s3, Moved [s1.heap.objs.size, I] (fun a b => b = a) s2 s3 → (∃ c, c ≤ ns.length ∧ SetR X.w s3.heap s1.heap.objs.size (fun j => decide (j ∈ ns)) c) → R (.ok (.ret .none)) s3) →
      codeAny (model X.prog X.w) X.A.in1.in1 (.builtin "set.update.loop" ⟨[.ref s1.heap.objs.size, .ref I], []⟩) R s2 := fun {its} hi R I St s2 nin Wk st at0 fin => by
    have en : its.toArray.size = ns.length := by rw [List.size_toArray]; exact IntsAre.length hi
    exact set_update_ints Wk _ nin ns en room (valsI_of hi) _ 0 s2 rfl (Nat.zero_le _) st ⟨0, Nat.le_refl _, setR_new_at at0⟩ fun s3 c mv lc hS => fin s3 mv ⟨c, by rw [← en]; exact lc, hS⟩
  rcases hs with hs | hs
  · obtain ⟨its, rv, pl, hz⟩ := I1.list hs
    exact set_by_list (I1.ok.hd hc) pl.isList (fill rv.ints) last
  · obtain ⟨its, rv, pl, hz⟩ := I1.tuple hs
    exact set_by_tuple (I1.ok.hd hc) pl (fill rv.ints) last
theorem we_sortSet (nm : Bool) (x : WE X K CA W e ha ta) (hm : X.mg "sorted" = none) (hm2 : X.mg "set" = none) (hc : X.calm = true := by rfl) (hg : Gl X "sorted" := by rfl) (hg2 : Gl X "set" := by rfl) (hK : X.K = K := by rfl)
    (na : starEach [e] X.env = (false, eval e X.env) :: starEach [] X.env := by rfl) : WE X K CA W (.Call (.Name "sorted" p) [.Call (.Name "set" p2) [e] [] q] [] pos) (tSortSet K ha) (dUn (fSortSet nm) ta) :=
  ⟨pe_sortSet hc hg hm hg2 hm2 x.pe hK na, fun m h H σ ρ Q' S t => x.sim m h H σ ρ _ S (t.bind fun d h1 m1 v H1 s1 S1 r1 t1 => by
    unfold fSortSet at t1
    split at t1
    · rename_i xs e
      split at t1
      · rename_i ss es
        obtain ⟨l3, t2⟩ := post_ite t1
        obtain ⟨a, zs, rfl, e1, rr⟩ := rp_seq S1 r1 e
        obtain ⟨q1, q2⟩ := rp_ints rr es
        subst q1
        exact ⟨a, ss, rfl, e1, l3, fun p n => mkL_post S1 n (all_ints _) t2⟩
      · exact t1.elim
    · exact t1.elim)⟩
end
theorem noG {p : Prop} : (false = true) → p := fun z => nomatch z
theorem pick_cons (d : D) (ds zs : List D) : ∀ (n i : Nat), pickD (d :: ds) zs (srcP (i + 1) n) = pickD ds zs (srcP i n)
  | 0, _ => rfl
  | n + 1, i => by
    show (d :: ds).getD (i + 1) .non :: pickD (d :: ds) zs (srcP (i + 1 + 1) n) = ds.getD i .non :: pickD ds zs (srcP (i + 1) n)
    rw [pick_cons d ds zs n (i + 1)]
    rfl
theorem pick_srcP (zs : List D) : ∀ ds : List D, pickD ds zs (srcP 0 ds.length) = ds
  | [] => rfl
  | d :: ds => by
    show (d :: ds).getD 0 .non :: pickD (d :: ds) zs (srcP 1 ds.length) = d :: ds
    rw [pick_cons, pick_srcP zs ds]
    rfl
theorem srcP_length : ∀ (n i : Nat), (srcP i n).length = n
  | 0, _ => rfl
  | n + 1, i => by rw [srcP, List.length_cons, srcP_length n]
section
variable {X : Cx} {K : PySem.W.Frag} {CA : CAs} {W : WX} {e : Expr} {es : List Expr} {pos p : Pos} {hs : TA} {ts : TDs} {x : Str} {g : Bool} {k : Nat} {ps : List Str} {F : FD} {f : Addr} {fd : FuncData}
theorem we_callP (D : Df X.prog X.w X.K X.mg X.base CA x g k ps F f fd) (hG : g = true → X.A.guards = some []) (hr : Room k X.A) (tk' : Takes X W) (h : WA X K CA W (e :: es) hs ts) (B : KwB K CA fd ps ps.length [] (srcP 0 ps.length)) (hg : Gl X x := by rfl) (hK : X.K = K := by rfl)
    (hdb : (x == ("__debug__" : Str)) = false := by decide) (he : starEach (e :: es) X.env = (false, eval e X.env) :: starEach es X.env := by rfl) (hpl : (backTo pos (starEach es X.env)).any (·.1) = false := by rfl) :
    WE X K CA W (.Call (.Name x p) (e :: es) [] pos) (tCallN K CA W ps.length 0 (fun ds _ => F ds) hs L2.tNil) (dCall ps.length F ts) := by
  subst hK
  refine ⟨⟨fun pins s σ H Q I hq => wpAny_Call_Name_kw (ld_glob I hg D.hm ?_ hdb)⟩, sim_call h.sim⟩
  refine PySem.W.callWith_K (h₀ := X.base) I.ok.mod.kin D.hk (thn (h.pe.run pos pins s σ H _ I hq) fun us s1 ⟨vs, H1, I1, r, l1, l2, m, h, ds, es, hR, rd, re, q⟩ => ⟨I1.kIn, ?_⟩) he hpl
  refine run_callN (ws := []) D.G hG hr B tk' I1 r .nil l1 l2 hR rd re (srcP_length _ _) ?_
  have e : pickD ds es (srcP 0 ps.length) = ds := by rw [← l1, rd.length]; exact pick_srcP es ds
  rw [e]
  exact q
end
theorem clsB_ok {K : PySem.W.Frag} {C : Addr} (h : clsB K C = true) : ClsOk K C := by
  unfold clsB at h
  simp only [Bool.and_eq_true, decide_eq_true_eq] at h
  obtain ⟨h1, h2, h3, h4, h5, h6, h7, h8⟩ := h
  exact ⟨⟨h1, h2, h3, h4⟩, h5, h6, h7, h8⟩
theorem noB_ok {K : PySem.W.Frag} {C : Addr} {fs : List Str} (h : noB K C fs = true) {f : Str} (hf : f ∈ fs) : NoAttr K C f := by
  have := List.all_eq_true.mp h f hf
  have e : PySem.W.findIn K (.ref C) f = some none := by simpa using this
  exact e
def ktT (sup : List (List Tg)) (bs : List String) : KT := fun a b => match a, b with
  | .b x, .b y => ktB (.b x) (.b y)
  | .b x, .o d => if x ∈ tys ∧ d < sup.length then some false else none
  | .o c, b => match sup[c]? with
    | some l => if (match b with | .b y => decide (y ∈ bs) | .o d => decide (d < sup.length)) = true then some (decide (b ∈ l)) else none
    | none => none
theorem ktT_ok {K : PySem.W.Frag} {CA : CAs} {sup : List (List Tg)} {bs : List String} {own : List Nat} (h : ktChk K CA sup bs = true) (hc : ∀ c, c ∈ own → ClsOk K (CA c)) : KtOk K CA own (ktT sup bs) := by
  have look : ∀ c, c < sup.length → (tys.all fun x => decide (PySem.W.kitOne K (.type x) (.ref (CA c)) = some false)) = true ∧ (bs.all fun y => decide (PySem.W.kitOne K (.ref (CA c)) (.type y) = some (decide (Tg.b y ∈ sup.getD c [])))) = true ∧
      (List.range sup.length).all (fun d => decide (PySem.W.kitOne K (.ref (CA c)) (.ref (CA d)) = some (decide (Tg.o d ∈ sup.getD c [])))) = true := fun c lt => by
    have := List.all_eq_true.mp h c (List.mem_range.mpr lt)
    rw [Bool.and_eq_true, Bool.and_eq_true] at this
    exact ⟨this.1, this.2.1, this.2.2⟩
  refine ⟨fun a b r e => ?_, fun c hm => ⟨(hc c hm).cl, (hc c hm).i1, (hc c hm).i2, (hc c hm).i3, (hc c hm).i4⟩⟩
  cases a with
  | b x =>
    cases b with
    | b y => exact (ktB_ok (K := K) (CA := CA)).one _ _ r e
    | o d =>
      simp only [ktT] at e
      by_cases q : x ∈ tys ∧ d < sup.length
      · rw [if_pos q] at e
        cases e
        exact of_decide_eq_true (List.all_eq_true.mp (look d q.2).1 x q.1)
      · rw [if_neg q] at e; cases e
  | o c =>
    simp only [ktT] at e
    split at e
    · rename_i l el
      have lt : c < sup.length := (List.getElem?_eq_some_iff.mp el).1
      have gl : sup.getD c [] = l := by rw [List.getD_eq_getElem?_getD, el]; rfl
      have lk := look c lt
      rw [gl] at lk
      cases b with
      | b y =>
        by_cases q : y ∈ bs
        · simp only [q, decide_true, if_true] at e
          cases e
          exact of_decide_eq_true (List.all_eq_true.mp lk.2.1 y q)
        · simp [q] at e
      | o d =>
        by_cases q : d < sup.length
        · simp only [q, decide_true, if_true] at e
          cases e
          exact of_decide_eq_true (List.all_eq_true.mp lk.2.2 d (List.mem_range.mpr q))
        · simp [q] at e
    · cases e
section
variable {P : Program} {w : World} {K : PySem.W.Frag} {mg : Str → Option Value} {base : Heap} {CA : CAs} {c0 k : Nat} {ps : List Str} {F : FD} {f p : Addr} {fd : FuncData} {nm nmf qual : Str} {st : Stmt}
end
def keyP : Key → PyData
  | .inl i => .int i
  | .inr x => .str x
section
variable {X : Cx} {pins : List (Addr × Obj)} {σ : L2.St} {H : Hp} {s : Shared}
theorem keys_reads {P : Program} {w : World} {h : Heap} : ∀ {kvs : List (Key × Value)} {es : List DictEntry}, Pairs (mixKind P w) es kvs → ReadsAll h (es.map (·.key)) (kvs.map fun p => keyP p.1) []
  | [], _, r => by cases r; exact .nil
  | (k, v) :: kvs, _, r => by
    cases r with
    | @cons e _ es _ h1 h2 h3 =>
      have ih := keys_reads (h := h) h3
      have hk : Reads h e.key (keyP k) [] := by
        have h1' : keyIs k e.key = true := h1
        rcases keyIs_shape h1' with ⟨i, t, rfl, q⟩ | ⟨x, t, rfl, q⟩
        · rw [q]; exact .int i t
        · rw [q]; exact .str x t
      exact ReadsAll.cons (as := []) (bs := []) hk ih
theorem vals_pairs {P : Program} {w : World} : ∀ {kvs : List (Key × V)} {vs : List (Key × Value)} {es : List DictEntry}, KV kvs vs → Pairs (mixKind P w) es vs → Vals (kvs.map (·.2)) (es.map (·.val)) ∧ kvs.map (·.1) = vs.map (·.1)
  | [], _, _, r, p => by cases r; cases p; exact ⟨.nil, rfl⟩
  | kv :: kvs, _, _, r, p => by
    cases r with
    | cons a r =>
      cases p with
      | cons h1 h2 h3 =>
        obtain ⟨q1, q2⟩ := vals_pairs r h3
        have hv : L2.RelV kv.2 _ := a.2
        rw [← h2] at hv
        exact ⟨.cons hv q1, by simp only [List.map_cons, q2, a.1]⟩
theorem sm_ne (I : Inv X pins σ H s) (sm : SM X.base) {a : Addr} {o : Obj} {vs : Array Value} {n : Nat} (e : s.heap.get? a = some o) (d : o.data = .seq vs n) : a ≠ sysModules := fun z => by
  obtain ⟨o', es, ep, e', d'⟩ := sm
  have e2 := I.bk _ _ e'
  rw [← z, e] at e2
  cases e2
  rw [d] at d'
  cases d'
mutual
theorem DpD.reads (I : Inv X pins σ H s) (sm : SM X.base) : ∀ (d : PyData) (v : V) (u : Value), DpD X.K H v d → RelV v u → ∃ as, Reads s.heap u d as ∧ sysModules ∉ as
  | .none, _, _, h, r => by cases h; cases r; exact ⟨_, Reads.none, by simp⟩
  | .bool b, _, _, h, r => by cases h; cases r; exact ⟨_, Reads.bool b, by simp⟩
  | .int i, _, _, h, r => by cases h; obtain ⟨t, rfl⟩ := r; exact ⟨_, Reads.int i t, by simp⟩
  | .str x, _, _, h, r => by cases h; obtain ⟨t, rfl⟩ := r; exact ⟨_, Reads.str x t, by simp⟩
  | .list ds, _, _, h, r => by
    cases h with
    | lst hs ha =>
      cases r
      obtain ⟨its, rv, ⟨o, n, ho, hc, _, hd⟩, _⟩ := I.list hs
      obtain ⟨as, hr, na⟩ := DpDs.reads I sm ds _ its ha rv
      refine ⟨_, Reads.list ho hc hd hr, fun z => ?_⟩
      rcases List.mem_cons.mp z with z | z
      · exact sm_ne I sm ho hd z.symm
      · exact na z
  | .tuple ds, _, _, h, r => by
    cases h with
    | tup hs ha =>
      cases r
      obtain ⟨its, rv, ⟨o, ho, hc, n, hd⟩, _⟩ := I.tuple hs
      obtain ⟨as, hr, na⟩ := DpDs.reads I sm ds _ its ha rv
      exact ⟨_, Reads.tuple ho hc hd hr, na⟩
  | .dict kvs0, _, _, h, r => by
    cases h with
    | @dct a kvs ks ds hr ek ha =>
      cases r
      obtain ⟨z, lo, vs, rel, o, es, ep, ho, hx, hd, _, pr, _⟩ := dk_rd I.hok hr
      obtain ⟨q1, q2⟩ := vals_pairs rel pr
      have kr := keys_reads (h := s.heap) pr
      have ll := ha.length
      have ek2 : ks = vs.map fun p => keyP p.1 := by
        rw [ek]
        have : (fun p : Key × V => (match p.1 with | .inl i => PyData.int i | .inr x => PyData.str x)) = fun p => keyP p.1 := by
          funext p
          obtain ⟨k, v⟩ := p
          cases k <;> rfl
        rw [this]
        have e3 : (kvs.map (·.1)).map keyP = (vs.map (·.1)).map keyP := by rw [q2]
        rw [List.map_map, List.map_map] at e3
        exact e3
      have lk : ks.length = ds.length := by rw [ek, List.length_map, ← ll, List.length_map]
      have m1 : (ks.zip ds).map (·.1) = ks := by rw [List.map_fst_zip]; omega
      have m2 : (ks.zip ds).map (·.2) = ds := by rw [List.map_snd_zip]; omega
      have sz : ∀ p ∈ ks.zip ds, p.2 ∈ ds := fun p hp => (List.of_mem_zip hp).2
      obtain ⟨as, hr2, na⟩ := DpDs.readsZ I sm (ks.zip ds) ds _ _ m2 ha q1
      refine ⟨_, Reads.dict ho hx.1 hd (by rw [m1, ek2]; exact kr) (by rw [m2]; exact hr2), fun z => ?_⟩
      simp only [List.append_nil, List.cons_append, List.mem_cons, List.nil_append] at z
      rcases z with z | z
      · rw [z] at lo; simp at lo
      · exact na z
theorem DpDs.reads (I : Inv X pins σ H s) (sm : SM X.base) : ∀ (ds : List PyData) (vs : List V) (us : List Value), DpDs X.K H vs ds → Vals vs us → ∃ as, ReadsAll s.heap us ds as ∧ sysModules ∉ as
  | [], _, _, h, r => by cases h; cases r; exact ⟨_, ReadsAll.nil, by simp⟩
  | d :: ds, _, _, h, r => by
    cases h with
    | cons h1 h2 =>
      cases r with
      | cons r1 r2 =>
        obtain ⟨as, q1, n1⟩ := DpD.reads I sm d _ _ h1 r1
        obtain ⟨bs, q2, n2⟩ := DpDs.reads I sm ds _ _ h2 r2
        exact ⟨_, ReadsAll.cons q1 q2, by simp [n1, n2]⟩
theorem DpDs.readsZ (I : Inv X pins σ H s) (sm : SM X.base) : ∀ (zs : List (PyData × PyData)) (ds : List PyData) (vs : List V) (us : List Value), zs.map (·.2) = ds → DpDs X.K H vs ds → Vals vs us → ∃ as, ReadsAll s.heap us ds as ∧ sysModules ∉ as
  | [], _, _, _, e, h, r => by subst e; cases h; cases r; exact ⟨_, ReadsAll.nil, by simp⟩
  | (k, d) :: zs, _, _, _, e, h, r => by
    subst e
    cases h with
    | cons h1 h2 =>
      cases r with
      | cons r1 r2 =>
        obtain ⟨as, q1, n1⟩ := DpD.reads I sm d _ _ h1 r1
        obtain ⟨bs, q2, n2⟩ := DpDs.readsZ I sm zs _ _ _ rfl h2 r2
        exact ⟨_, ReadsAll.cons q1 q2, by simp [n1, n2]⟩
end
end
def toQ (h : CH) : Nat → D → Option PyData
  | 0, _ => none
  | n + 1, d => match d with
    | .non => some .none
    | .bl b => some (.bool b)
    | .int i => some (.int i)
    | .str x => some (.str x)
    | .lst xs => (xs.mapM (toQ h n)).map .list
    | .tup xs => (xs.mapM (toQ h n)).map .tuple
    | .dct kvs => ((kvs.map (·.2)).mapM (toQ h n)).map fun ds => .dict ((kvs.map fun p => keyP p.1).zip ds)
    | .ref k => match h.ob k with
      | some (.lst xs) => (xs.mapM (toQ h n)).map .list
      | some (.dct kvs) => ((kvs.map (·.2)).mapM (toQ h n)).map fun ds => .dict ((kvs.map fun p => keyP p.1).zip ds)
      | _ => none
    | _ => none
section
variable {X : Cx} {K : PySem.W.Frag} {CA : CAs} {W : WX} {m : Mp} {h : CH} {H : Hp}
theorem rp_dpq_of {f : D → Option PyData} (ih : ∀ (d : D) (v : V) (p : PyData), Rp K CA m h H v d → f d = some p → DpD K H v p) : ∀ (ds : List D) (vs : List V) (ps : List PyData), RpAll K CA m h H vs ds → ds.mapM f = some ps → DpDs K H vs ps
  | [], _, _, r, e => by cases r; simp at e; subst e; exact .nil
  | d :: ds, _, _, r, e => by
    cases r with
    | cons h1 h2 =>
      simp only [List.mapM_cons, Option.bind_eq_bind, Option.bind_eq_some_iff, Option.pure_def, Option.some.injEq] at e
      obtain ⟨p, e1, ps, e2, rfl⟩ := e
      exact .cons (ih d _ p h1 e1) (rp_dpq_of ih ds _ ps h2 e2)
theorem dct_dpq {n : Nat} {v : V} {d : D} {kvs : List (Key × D)} {p : PyData} (S : HR K CA m h H) (ih : ∀ (d : D) (v : V) (p : PyData), Rp K CA m h H v d → toQ h n d = some p → DpD K H v p) (r : Rp K CA m h H v d) (ed : dctOf h d = some kvs)
    (e : ((kvs.map (·.2)).mapM (toQ h n)).map (fun ds => PyData.dict ((kvs.map fun p => keyP p.1).zip ds)) = some p) : DpD K H v p := by
  simp only [Option.map_eq_some_iff] at e
  obtain ⟨ps, e1, rfl⟩ := e
  obtain ⟨a, o, hk, rfl, ea, ec, en, r2⟩ := rp_dct S r ed
  have hrd : Rd H a (.dK hk) := by
    rcases core_dK ec with rfl | ⟨ob, rfl⟩
    · exact .inl ea
    · exact .inr ⟨ob, ea⟩
  refine .dct hrd ?_ (rp_dpq_of ih _ _ ps r2 e1)
  have e3 : (kvs.map (·.1)).map keyP = (hk.map (·.1)).map keyP := by rw [en]
  have this : (fun p : Key × V => (match p.1 with | .inl i => PyData.int i | .inr x => PyData.str x)) = fun p => keyP p.1 := by
    funext p
    obtain ⟨k, v⟩ := p
    cases k <;> rfl
  rw [this]
  rw [List.map_map, List.map_map] at e3
  exact e3
theorem rp_dpq (S : HR K CA m h H) : ∀ (n : Nat) (d : D) (v : V) (p : PyData), Rp K CA m h H v d → toQ h n d = some p → DpD K H v p
  | 0, d, _, _, _, e => by cases d <;> cases e
  | n + 1, .non, _, _, r, e => by cases r; simp only [toQ, Option.some.injEq] at e; subst e; exact .non
  | n + 1, .bl b, _, _, r, e => by cases r; simp only [toQ, Option.some.injEq] at e; subst e; exact .bl b
  | n + 1, .int b, _, _, r, e => by cases r; simp only [toQ, Option.some.injEq] at e; subst e; exact .int b
  | n + 1, .str b, _, _, r, e => by cases r; simp only [toQ, Option.some.injEq] at e; subst e; exact .str b
  | n + 1, .lst ds, _, _, r, e => by
    simp only [toQ, Option.map_eq_some_iff] at e
    obtain ⟨ps, e1, rfl⟩ := e
    obtain ⟨a, xs, rfl, e2, r2⟩ := rp_lst S r rfl
    exact .lst (.of e2) (rp_dpq_of (rp_dpq S n) ds xs ps r2 e1)
  | n + 1, .tup ds, _, _, r, e => by
    simp only [toQ, Option.map_eq_some_iff] at e
    obtain ⟨ps, e1, rfl⟩ := e
    obtain ⟨a, xs, rfl, e2, r2⟩ := rp_tup r
    exact .tup e2 (rp_dpq_of (rp_dpq S n) ds xs ps r2 e1)
  | n + 1, .dct kvs, v, p, r, e => dct_dpq S (rp_dpq S n) r rfl (by simpa only [toQ] using e)
  | n + 1, .ref k, v, p, r, e => by
    simp only [toQ] at e
    split at e
    · rename_i ds q
      simp only [Option.map_eq_some_iff] at e
      obtain ⟨ps, e1, rfl⟩ := e
      obtain ⟨a, xs, rfl, e2, r2⟩ := rp_lst S r (show lstOf h (.ref k) = some ds by simp only [lstOf, q])
      exact .lst (.of e2) (rp_dpq_of (rp_dpq S n) ds xs ps r2 e1)
    · rename_i kvs q
      exact dct_dpq S (rp_dpq S n) r (show dctOf h (.ref k) = some kvs by simp only [dctOf, q]) e
    · cases e
  | n + 1, .obj _ _, _, _, _, e => by simp [toQ] at e
  | n + 1, .scr _, _, _, _, e => by simp [toQ] at e
  | n + 1, .ty _, _, _, _, e => by simp [toQ] at e
  | n + 1, .cls _, _, _, _, e => by simp [toQ] at e
  | n + 1, .exc _ _, _, _, _, e => by simp [toQ] at e
def boxed (h : CH) (d : D) : Bool := (seqOf h d).isSome || (dctOf h d).isSome
def fRep : FD := fun ds h => match ds with
  | [.int i] => if i.natAbs.log2 < 1920 then .ok (.str (toString i)) h else .no
  | [d] => match toQ h 14 d with
    | some p => if boxed h d = true ∧ p.showable = true ∧ p.depth ≤ 60 ∧ p.shown.length ≤ sizeLine then .ok (.str p.shown) h else .no
    | none => .no
  | _ => .no
def rRep (K : PySem.W.Frag) : List V → Hp → VK → Prop := fun xs H Q => (∃ i, xs = [.int i] ∧ i.natAbs.log2 < 1920 ∧ Q (.str (toString i)) H) ∨
  ∃ a p, xs = [V.ref a] ∧ DpD K H (V.ref a) p ∧ p.showable = true ∧ p.depth ≤ 60 ∧ p.shown.length ≤ sizeLine ∧ Q (.str p.shown) H
theorem call_rep (sm : SM X.base) (hG : X.A.guards = some []) (hu : X.A.units + 64 < cLine) (hK : X.K = K := by rfl) : CallR X (.builtin "repr") (rRep K) := by
  subst hK
  rintro pins s σ H xs us Q I r (⟨i, rfl, l, q⟩ | ⟨a, p, rfl, dp, sh, dep, sz, q⟩)
  · exact SkE.call_repr_int pins s σ H _ us Q I r ⟨i, rfl, l, q⟩
  · obtain ⟨u, rfl, rx⟩ := vals1 r
    cases (show u = Value.ref a from rx)
    obtain ⟨as, rd, na⟩ := DpD.reads I sm p (V.ref a) _ dp rfl
    exact repr_of_reads' rd sh (fun _ => na) hG (by omega) (fun _ _ e => e) (fun h' u tk hk => ⟨.str p.shown, H, I.kept hk, ⟨u, rfl⟩, q⟩) sz
theorem sim_rep : SimC K CA (rRep K) fRep := by
  intro W σ m h H xs ds Q' S r t
  unfold fRep at t
  split at t
  · cases r with
    | cons r1 r2 =>
      cases r1
      cases r2
      obtain ⟨c, t⟩ := post_ite t
      exact .inl ⟨_, rfl, c, t.here S (.str _)⟩
  · rename_i d _
    split at t
    · rename_i p e2
      obtain ⟨⟨c0, c1, c2, c3⟩, t⟩ := post_ite t
      cases r with
      | cons r1 r2 =>
        cases r2
        unfold boxed at c0
        cases e1 : seqOf h d with
        | some ys =>
          obtain ⟨a, zs, rfl, _, _⟩ := rp_seq S r1 e1
          exact .inr ⟨a, p, rfl, rp_dpq S _ _ _ p r1 e2, c1, c2, c3, t.here S (.str _)⟩
        | none =>
          rw [e1] at c0
          cases e3 : dctOf h d with
          | none => rw [e3] at c0; simp at c0
          | some kvs =>
            obtain ⟨a, o, hk, rfl, _⟩ := rp_dct S r1 e3
            exact .inr ⟨a, p, rfl, rp_dpq S _ _ _ p r1 e2, c1, c2, c3, t.here S (.str _)⟩
    · exact t.elim
  · exact t.elim
end
open PySem PySem.Spec PySem.Calls PyProof.Rows L2
open PySem PySem.Spec PySem.Calls PyProof.Rows L2 PySem.HandSPX
structure Xmo (K : PySem.W.Frag) (mg : Str → Option Value) (C : Addr) (x : Str) : Prop where
  hm : mg x = some (.ref C)
  q : PySem.W.excIn K C veBm "ValueError.__new__" = true
  k : PySem.W.keepIn K (.ref C) = true
def XfOf (K : PySem.W.Frag) (CA : CAs) (cs : List Nat) (n : Str) : Prop := ∀ c ∈ cs, XfC K (CA c) ∧ PySem.W.findIn K (.ref (CA c)) n = some none
def fXf (cs : List Nat) (n : Str) : F1 := fun d h => match d with
  | .exc c fs => if c ∈ cs then (match fs.lookup n with
    | some v => .ok v h
    | none => .no) else .no
  | _ => .no
def tXfv (K : PySem.W.Frag) (n : Str) (te : TE) : TE := fun σ H Q => te σ H fun x H1 => ∃ a C dd fs v, x = .ref a ∧ H1 a = some (ExV C a (some dd)) ∧ H1 dd = some (.xd fs) ∧ XfC K C ∧ PySem.W.findIn K (.ref C) n = some none ∧ fs.lookup n = some v ∧ Q v H1
section
variable {X : Cx} {K : PySem.W.Frag} {CA : CAs} {W : WX} {e : Expr} {pos : Pos} {te : TE} {ta : TD} {n : Str} {cs : List Nat} {s : Shared} {σ : L2.St} {H : Hp} {pins : List (Addr × Obj)}
theorem exv_inst {C a : Addr} {dd : Option Addr} (I : Inv X pins σ H s) (e : H a = some (ExV C a dd)) (hd : dd = none ∨ ∃ x fs, dd = some x ∧ H x = some (.xd fs)) : ∃ oe od, PySem.W.InstAt s.heap a oe C od ∧
    ∀ x fs, dd = some x → H x = some (.xd fs) → ∃ (mA : Str → Option Value) (ob : Obj), od = some ob ∧ (∀ y, RelO (fs.lookup y) (mA y)) ∧ ∀ n, PySem.W.lookIn n ob = some (mA n) := by
  obtain ⟨⟨oe, vs, ho, hz, hdt⟩, _, _⟩ := I.hok a _ e
  have nc : PySem.W.notCls oe = true := by unfold PySem.W.notCls; rw [hdt] <;> rfl
  rcases hd with rfl | ⟨x, fs, rfl, ex⟩
  · exact ⟨oe, none, ⟨ho, hz.1, nc, by rw [hz.2]; trivial⟩, fun x fs e => by cases e⟩
  · obtain ⟨mA, hns, hr⟩ := (show ObjOk X.prog X.w H s.heap x (.xd fs) from I.hok x _ ex)
    obtain ⟨od, hod, hl⟩ := lookIn_ns hns
    refine ⟨oe, some od, ⟨ho, hz.1, nc, by rw [hz.2]; exact hod⟩, fun x' fs' e1 e2 => ?_⟩
    cases e1
    rw [ex] at e2
    cases e2
    exact ⟨mA, od, rfl, hr, hl⟩
theorem we_xf (hf : XfOf K CA cs n) (x : WE X K CA W e te ta) (hb : attributeBase e n X.env (eval e X.env) = eval e X.env := by rfl) (hK : X.K = K := by rfl) : WE X K CA W (.Attribute e n pos) (tXfv K n te) (dUn (fXf cs n) ta) := by
  subst hK
  refine ⟨⟨fun pins s σ H Q I h => ?_⟩, fun m h H σ ρ Q' S t => x.sim m h H σ ρ _ S (t.bind fun d h1 m1 v H1 s1 S1 r1 t1 => ?_)⟩
  · refine attr_of hb (thn (x.pe.run pins s σ H _ I h) fun u s1 hh => ?_)
    obtain ⟨x, H1, I1, rx, a, C, dd, fs, v, ex, ea, ed, T, hno, l, q⟩ := hh
    subst ex
    obtain rfl : u = Value.ref a := rx
    obtain ⟨oe, od, J, g⟩ := exv_inst I1 ea (.inr ⟨dd, fs, rfl, ed⟩)
    obtain ⟨mA, ob, rfl, hr, hl⟩ := g _ _ rfl ed
    obtain ⟨u, hu, ru⟩ := RelO.some_of (v := v) (o := mA n) (by rw [← l]; exact hr n)
    exact HandSPX.exc_get I1.kIn J T.ga T.gg T.exC (PySem.W.findObj_own T.hdC hno rfl (by rw [hl, hu])) (handed_of ru) ⟨v, H1, I1.tok _, ru, q⟩
  · unfold fXf at t1
    split at t1
    · rename_i c fs
      by_cases hc : c ∈ cs
      · rw [if_pos hc] at t1
        split at t1
        · rename_i y el
          cases r1 with
          | exc na ea hd en ra =>
            obtain ⟨v, hv, rv⟩ := rp_look en ra el
            rcases hd with ⟨rfl, rfl⟩ | ⟨x, rfl, nx, ex⟩
            · cases hv
            · exact ⟨_, _, _, _, v, rfl, ea, ex, (hf c hc).1, (hf c hc).2, hv, t1.here S1 rv⟩
        · exact t1.elim
      · rw [if_neg hc] at t1; exact t1.elim
    · exact t1.elim
end
structure XkC (K : PySem.W.Frag) (C : Addr) : Prop where
  cl : (PySem.W.clsIn K C).isSome = true
  ga : PySem.W.findIn K (.ref C) "__getattribute__" = some (some (.builtin "BaseException.__getattribute__"))
  gg : PySem.W.findIn K (.ref C) "__getattr__" = some none
  ex : PySem.W.subIn K (.ref C) (.type "BaseException") = some true
  ca : PySem.W.findIn K (.ref C) "__class__" = some (some (.builtin "object.__class__"))
  sp : PySem.W.specialIn K (.builtin "object.__class__") "__get__" = some (some (.builtin "getset_descriptor.__get__"))
  tk : PySem.W.takesIn K (.builtin "object.__class__") = some true
  ob : PySem.W.mroIn K C (.type "object") = some true
def fIsX (xs own : List Nat) (kt : KT) : FD := fun ds h => match ds with
  | [.exc c fs, t] => match clsOf t with
    | some b => if c ∈ xs then (match kt (.o c) b with
      | some r => .ok (.bl r) h
      | none => .no) else .no
    | none => .no
  | _ => fIsi own kt ds h
def rIsX (K : PySem.W.Frag) : List V → Hp → VK → Prop := fun xs H Q => ∃ (a C : Addr) (c : V) (u : Value) (dd : Option Addr) (b : Bool), xs = [.ref a, c] ∧ ClsV c u ∧ H a = some (ExV C a dd) ∧ (dd = none ∨ ∃ x fs, dd = some x ∧ H x = some (.xd fs)) ∧ XkC K C ∧ PySem.W.kitOne K (.ref C) u = some b ∧ Q (.bl b) H
section
variable {X : Cx} {K : PySem.W.Frag} {CA : CAs} {xs own : List Nat} {kt : KT}
theorem call_isX0 : CallR X (.builtin "isinstance") (rIsX X.K) := by
  intro pins s σ H xs us Q I r h
  obtain ⟨a, C, c, u, dd, b, rfl, k, ea, hd, T, e, q⟩ := h
  obtain ⟨u1, u2, rfl, r1, r2⟩ := vals2 r
  have e2 := k.eq r2
  subst e2
  obtain rfl : u1 = Value.ref a := r1
  obtain ⟨oe, od, J, _⟩ := exv_inst I ea hd
  exact PySem.W.kia_one (PySem.W.kitx_exc (ox := oe) (od := od) T.cl T.ga T.gg T.ex T.ca T.sp T.tk T.ob) I.kIn J e (fun z => by cases z) fun tk => ⟨.bl b, H, I.tok tk, rfl, q⟩
def rIsXU (K : PySem.W.Frag) : List V → Hp → VK → Prop := fun xs H Q => rIsX K xs H Q ∨ rIsi K xs H Q
theorem call_isX (hK : X.K = K := by rfl) : CallR X (.builtin "isinstance") (rIsXU K) := by subst hK; exact call_isX0.or call_isi
theorem sim_isX (hx : ∀ c ∈ xs, XkC K (CA c)) (kk : KtOk K CA own kt) : SimC K CA (rIsXU K) (fIsX xs own kt) := by
  intro W σ m h H ys ds Q' S r t
  unfold fIsX at t
  split at t
  · split at t
    · rename_i b eb
      obtain ⟨ok, t⟩ := post_ite t
      split at t
      · rename_i r' ek
        cases r with
        | cons r1 r2 => cases r2 with
          | cons r2 r3 =>
            cases r3
            cases r1 with
            | exc na ea hd en ra =>
              refine .inl ⟨_, _, _, _, _, _, rfl, rp_cls r2 eb, ea, ?_, hx _ ok, kk.one _ _ _ ek, t.here S (.bl _)⟩
              rcases hd with ⟨rfl, _⟩ | ⟨x, rfl, _, ex⟩
              · exact .inl rfl
              · exact .inr ⟨x, _, rfl, ex⟩
      · exact t.elim
    · exact t.elim
  · exact .inr (sim_isi kk W σ m h H ys ds Q' S r t)
end
structure ExcOk (K : PySem.W.Frag) (C : Addr) : Prop extends XkC K C where
  hd : PySem.W.hasDictIn K C = true
  ty : PySem.W.typeIn K (.ref C) = some (.type "type")
  kp : PySem.W.keepIn K (.ref C) = true
theorem excB_ok {K : PySem.W.Frag} {C : Addr} (h : excB K C = true) : ExcOk K C := by
  unfold excB at h
  simp only [Bool.and_eq_true, decide_eq_true_eq] at h
  obtain ⟨h1, h2, h3, h4, h5, h6, h7, h8, h9, h10, h11⟩ := h
  exact ⟨⟨h1, h2, h3, h4, h5, h6, h7, h8⟩, h9, h10, h11⟩
theorem ExcOk.xf {K : PySem.W.Frag} {C : Addr} (h : ExcOk K C) : XfC K C := ⟨h.ga, h.gg, h.ex, h.hd⟩
theorem xfOf_by {K : PySem.W.Frag} {CA : CAs} {cs : List Nat} {n : Str} (h : ∀ c ∈ cs, ExcOk K (CA c)) (h2 : (cs.all fun c => decide (PySem.W.findIn K (.ref (CA c)) n = some none)) = true) : XfOf K CA cs n := fun c hc => ⟨(h c hc).xf, of_decide_eq_true (List.all_eq_true.mp h2 c hc)⟩
theorem boot_ValueErrorU : bootBuiltins "ValueError" = some (.type "ValueError") := Boot.«ValueError»
def dRaise0 (c0 : Nat) : SD := fun ρ h => .ex ρ c0 [] h
section
variable {X : Cx} {K : PySem.W.Frag} {CA : CAs} {W : WX} {e : Expr} {pos p pos' : Pos} {hs : TA} {ts : TDs} {x fl arg : Str} {c0 j : Nat} {m : Str}
theorem ws_raise0 {txt : Str} {q1 : Pos} (D : Xmo X.K X.mg (CA c0) x) (E : ExcOk X.K (CA c0)) (tk' : Takes X W) (hc : X.calm = true := by rfl) (hg : Gl X x := by rfl) (hK : X.K = K := by rfl) (hdb : (x == ("__debug__" : Str)) = false := by decide) :
    WS X K CA W (.Raise (some (.Call (.Name x p) [.Constant (.str txt) j q1] [] pos)) none pos') (fun _ σ H => W (.ref (CA c0)) none σ H) (dRaise0 c0) := by
  subst hK
  exact ⟨ps_raise hc tk' (L2.pmk_own F.excBase_ValueError D.q D.hm D.k (raises_own E.ex E.ty) hg hdb), fun m h H σ ρ D' S t => t m _ _ σ H .refl S ⟨rfl, .inl ⟨rfl, rfl⟩⟩⟩
end
def ExW (cls : Value) (a : Addr) (dd : Option Addr) : HO := .ext fun h => ∃ (oe : Obj) (vs : Array Value), h.get? a = some oe ∧ Zc cls dd oe ∧ oe.data = .fields vs
section
variable {X : Cx} {pins : List (Addr × Obj)} {σ : L2.St} {H : Hp} {s : Shared} {a : Addr} {cls : Value} {d : Option Addr} {oe : Obj}
theorem inv_track (I : Inv X pins σ H s) (ha : s.heap.get? a = some oe) (hz : Zc cls d oe) (hd : ∃ vs, oe.data = .fields vs) (na : H a = none) (n0 : X.s_0.heap.get? a = none) (nL : a ≠ X.env.locals) (np : ∀ p ∈ X.pn ++ pins, p.1 ≠ a) : Inv X pins σ (upd H a (ExW cls a d)) s := by
  obtain ⟨vs, hd⟩ := hd
  have ne0 : ∀ b o, X.s_0.heap.get? b = some o → b ≠ a := fun b o e z => by
    rw [z, n0] at e
    cases e
  refine ⟨I.ok, I.os, I.bare, ⟨I.base.keep, I.base.slot, fun b o e n hx => by rw [upd_ne (ne0 b o e)]; exact I.base.free b o e n hx, I.base.there, fun b xs e => ?_, fun b o u e => ?_, fun b ps e => ?_⟩, I.loc, I.cell, by rw [upd_ne (Ne.symm nL)]; exact I.free, fun x c e => ?_, fun p hp => ?_, fun b u e => ?_, I.len⟩
  · have q := I.base.tups b xs e
    rw [upd_ne (ne_of_none q na)]
    exact q
  · have q := I.base.frzs b o u e
    rw [upd_ne (ne_of_none q na)]
    exact q
  · obtain ⟨m, q⟩ := I.base.tbls b ps e
    exact ⟨m, by rw [upd_ne (ne_of_none q na)]; exact q⟩
  · have nc : c ≠ a := fun z => by
      obtain ⟨v, o, ho, hv⟩ := I.cell x c e
      rw [z, ha] at ho
      cases ho
      rw [hd] at hv
      cases hv
    rw [upd_ne nc]
    exact I.freeC x c e
  · obtain ⟨e, n, ne, nf, dd⟩ := I.pin p hp
    exact ⟨e, by rw [upd_ne (np p hp)]; exact n, ne, nf, dd⟩
  · by_cases hb : b = a
    · subst hb
      rw [upd_same] at e
      cases e
      exact ⟨⟨oe, vs, ha, hz, hd⟩, ⟨oe, ha⟩, fun _ _ ⟨o, v, q, r⟩ k => ⟨o, v, k o q, r⟩⟩
    · rw [upd_ne hb] at e
      exact (I.hok b u e).stay (fun _ _ _ k => k) (fun c hc => by rw [upd_ne (ne_of_none hc na)]; exact hc) fun c xs hc => by rw [upd_ne (ne_of_none hc na)]; exact hc
end
def wAsV (K : PySem.W.Frag) (c : Value) (i nl : Nat) (ts : Addr → Value → Option Addr → TS) (Wout : WX) (D : Ends) : WX := fun cls d σ H =>
  ∃ b, PySem.W.exmOne K cls c = some b ∧ (b = true → σ.length = nl → ∀ a, H a = none → ts a cls d { nx := fun σ' H' => D.nx (σ'.set i none) (upd H' a (ExW cls a d)), rt := fun _ _ => False, bk := fun _ _ => False, ct := fun _ _ => False } (σ.set i (some (.ref a))) H) ∧
    (b = false → Wout cls d σ H)
section
variable {X : Cx} {x n : Str} {c : Value} {i : Nat} {body suite : List Stmt} {b₀ : Stmt} {np pos pos' : Pos} {tb : WX → TS} {ts : Addr → Value → Option Addr → TS} {Wout : WX}
theorem ps_try_asV (hex : X.ex = []) (hs : X.stack = X.env :: X.outer) (hf : X.env.frame = some X.env.locals) (hN : X.N.Nodup) (hi : X.N[i]? = some n) (hln : X.env.kindOf n = some .local) (hc : Names X x c) (tk : Takes X Wout)
    (hb : ∀ (W : WX) (pn : List (Addr × Obj)) (xe : Value → Shared → Prop), Takes (X.tr pn xe) W → PassesOwn (model X.prog X.w) X.A X.env xe → PSs (X.tr pn xe) body (tb W))
    (hsu : ∀ (a : Addr) (oe : Obj) (cls : Value) (d : Option Addr) (pn : List (Addr × Obj)), Zc cls d oe → (∃ vs, oe.data = .fields vs) → PSs (X.suite a ((a, oe) :: pn)) (b₀ :: suite) (ts a cls d)) :
    PS X (.Try body [.ExceptHandler (some (.Name x np)) (some n) (b₀ :: suite) pos'] [] [] pos) (fun D σ H => tb (wAsV X.K c i X.N.length ts Wout D) D σ H) := by
  refine ⟨fun pins s σ H D I h => ?_⟩
  have ok := I.ok
  have hfr : X.A.frames = some (X.env :: X.outer) := by rw [ok.frames, hs]
  have hloc : Loc X.env.scope n := .inl hln
  refine wpAny_Try_except ?_
  refine wpAny_mono ((hb (wAsV X.K c i X.N.length ts Wout D) (X.pn ++ pins) (fun e s₁ => wpAny (model X.prog X.w) X.A (noteFrame e X.env) (fun _ s₂ => wpAny (model X.prog X.w) X.A (setFlight e none) (fun _ s₃ =>
    wpAny (model X.prog X.w) X.A (handleBy e X.env [.ExceptHandler (some (.Name x np)) (some n) (b₀ :: suite) pos']) (SP X pins D) X.xe s₃) X.xe s₂) X.xe s₁) (fun u s' xx => ?_) PassesOwn.looking).run [] s σ H D (I.toTry _) h) (fun f s1 hsp => ?_) (fun e s1 he => he)
  · -- the catch
    obtain ⟨a, B, sI, pins', σ', H', cls, d, rfl, J', nb, up, sky, na, os, ag, b, hb1, hyes, hno⟩ := xx
    have J : Inv X pins σ' H' sI := J'.ofTry ok
    have sky' : Sky B (X.env :: X.outer) a (Zc cls d) X.env.locals s'.heap := by rw [← hs]; exact sky
    show wpAny (model X.prog X.w) X.A (noteFrame (.ref a) X.env) _ _ _
    refine Sky.land Zc.steady hfr hf sky' fun h3 fl3 up3 => ?_
    have J3 : Inv X pins σ' H' { s' with heap := h3 } := J.landed nb fl3.1 (up.trans up3) os ag
    obtain ⟨oe3, vs3, he3, hz3, hd3⟩ := fl3.there
    have notFr : ∀ {h : Heap} {o : Obj} {vs : Array Value}, h.FunFrames B (X.env :: X.outer) → h.get? a = some o → o.data = .fields vs → a ∉ frs (X.env :: X.outer) := fun {h o vs} ff e dd hm => by
      obtain ⟨_, o', e', hnf⟩ := ff.mem hm
      rw [e] at e'; cases e'
      exact hnf _ dd
    have nfr := notFr fl3.2.2.1 he3 hd3
    have nL : a ≠ X.env.locals := fun z => nfr (List.mem_filterMap.mpr ⟨X.env, List.mem_cons_self, by rw [hf, z]⟩)
    have nF : a ∉ X.fs := fun hm => by
      obtain ⟨e, he, q⟩ := List.mem_filterMap.mp hm
      exact nfr (List.mem_filterMap.mpr ⟨e, List.mem_cons_of_mem _ he, q⟩)
    have nB : B.get? a = none := fl3.2.1
    have nI : sI.heap.get? a = none := by
      cases q : sI.heap.get? a with
      | none => rfl
      | some o =>
        have z := nb a o q (by rw [hs]; exact nfr)
        rw [nB] at z
        cases z
    have n0 : X.s_0.heap.get? a = none := by
      cases q : X.s_0.heap.get? a with
      | none => rfl
      | some o =>
        obtain ⟨o', z⟩ := J.base.there a o q (fun hx => by rw [hex] at hx; cases hx)
        rw [nI] at z
        cases z
    have nP : ∀ p ∈ X.pn ++ pins, p.1 ≠ a := fun p hp z => by
      obtain ⟨e, _⟩ := J.pin p hp
      rw [z, nI] at e
      cases e
    have S3 := J3.suite he3 hd3 na nL nF
    refine wpAny_handleBy_cons (codeAny_handlers_test ?_) (by intro q; cases q)
    have LT : PySem.W.Looks (model X.prog X.w) h3 (typeOf (.ref a)) cls := fun A Q E s k q => wpAny_typeOf_ref (k _ _ he3) (by rw [hz3.1]; exact q)
    have LM := PySem.W.exm_one (M := model X.prog X.w) (J3.kIn) LT hb1
    have test : ∀ {Q : Value → Shared → Prop} {E : Value → Shared → Prop}, Q c { s' with heap := h3 } → wpAny (model X.prog X.w) (X.A.mark (some (.ref a))) (eval (.Name x np) X.env) Q E { s' with heap := h3 } := fun {Q E} q => by
      obtain ⟨hg, hdbg, hm | ⟨hm, hv, hnn⟩⟩ := hc
      · exact ld_glob (X := X.suite a ((a, oe3) :: (X.pn ++ pins))) S3 hg hm q hdbg
      · exact ld_blt (X := X.suite a ((a, oe3) :: (X.pn ++ pins))) S3 hg hm hv q hnn hdbg
    refine test (LM.here ?_)
    cases b with
    | true =>
      refine codeAny_handlers_suite_as ?_
      refine HandSPX.lands_againZ fl3 fun h4 fl4 up4 => ?_
      have J4 : Inv X pins σ' H' { s' with heap := h4 } := J.landed nb fl4.1 ((up.trans up3).trans up4) os ag
      obtain ⟨oe4, vs4, he4, hz4, hd4⟩ := fl4.there
      have S4 := J4.suite he4 hd4 na nL nF
      refine store_ok (X := X.suite a ((a, oe4) :: (X.pn ++ pins))) (v := .ref a) S4 hN hi hloc rfl (fun s5 S5 => ?_) (.inr hln)
      refine wpAny_mono ((hsu a oe4 cls d (X.pn ++ pins) hz4 ⟨_, hd4⟩).run [] s5 _ H' _ S5 (hyes rfl J.len a na)) (fun f s6 hsp => ?_) (fun _ _ z => False.elim z)
      cases f with
      | next =>
        obtain ⟨σ6, H6, S6, q6⟩ := hsp
        obtain ⟨e6, n6, _⟩ := S6.pin (a, oe4) (List.mem_append_left _ List.mem_cons_self)
        have T6 := inv_track (S6.unsuite ok) e6 hz4 ⟨_, hd4⟩ n6 n0 nL nP
        exact gone_ok T6 hN hi hln fun s7 J7 => ⟨_, _, J7, q6⟩
      | brk =>
        obtain ⟨σ6, H6, S6, q6⟩ := hsp
        exact q6.elim
      | cont =>
        obtain ⟨σ6, H6, S6, q6⟩ := hsp
        exact q6.elim
      | ret u =>
        obtain ⟨v6, σ6, H6, S6, r6, q6⟩ := hsp
        exact q6.elim
    | false =>
      show wpAny _ X.A (handleBy (.ref a) X.env []) _ _ _
      refine wpAny_handleBy_nil ?_
      obtain ⟨k1, k2, k3, oe, vs, T, oT, ts', he, hz, hd, h1, hr⟩ := id fl3
      unfold PySem.passOn
      refine wpAny_bind (wpAny_field he hd h1 ?_)
      rw [if_neg (show ¬ ((Value.ref T == Value.none) = true) from by simp)]
      have fin : wpAny (model X.prog X.w) X.A (setFlight (.ref a) X.env.frame) (fun _ s4 => wpAny (model X.prog X.w) X.A (throw (.ref a) : Sem Flow) (SP X pins D) X.xe s4) X.xe { s' with heap := h3 } := by
        rw [hf]
        refine HandSPX.setFlight_upZ fl3 fun h4 hh4 up4 => wpAny_throw (tk _ _ ?_)
        exact ⟨a, B, sI, pins, σ', H', cls, d, rfl, J, nb, (up.trans up3).trans up4, .inr (.inr (by rw [hs]; exact hh4)), na, os, ag, hno rfl⟩
      first
        | exact wpAny_bind (wpAny_pure (wpAny_bind fin))
        | exact wpAny_bind fin
  · cases f with
    | next =>
      obtain ⟨σ', H', J', q⟩ := hsp
      exact wpAny_execs_nil ⟨σ', H', J'.ofTry ok, q⟩
    | brk =>
      obtain ⟨σ', H', J', q⟩ := hsp
      exact ⟨σ', H', J'.ofTry ok, q⟩
    | cont =>
      obtain ⟨σ', H', J', q⟩ := hsp
      exact ⟨σ', H', J'.ofTry ok, q⟩
    | ret u =>
      obtain ⟨v, σ', H', J', r, q⟩ := hsp
      exact ⟨v, σ', H', J'.ofTry ok, r, q⟩
end
def TCaught (K : PySem.W.Frag) (CS : Addr) : (XK → Hp → VK → Prop) → Hp → VK → Prop := fun tl H Q =>
  tl (fun cls d H' => ∃ b, PySem.W.exmOne K cls (.ref CS) = some b ∧ (b = true → ∀ a, H' a = none → Q (.ref a) (upd H' a (ExW cls a d))) ∧ (b = false → False)) H (fun _ H' => ∃ v : V, (some (some V.non) : Option (Option V)) = some (some v) ∧ Q v H')
theorem caught_gives {X : Cx} {x a e q c n : Str} {sg : Scope} {g CS : Addr} {cdg : Value} {j1 : Nat} {p1 p2 p3 p4 p7 p8 q2 q3 q4 q5 q6 q7 q8 q9 : Pos} (hge : sg.names.lookup e = some .globalImplicit) (hme : X.mg e = some (.ref CS)) (hde : (e == ("__debug__" : Str)) = false)
    (S : FnScope [a, c, n] [a] sg) (hc : sg.names.lookup c = some .local) (hn : sg.names.lookup n = some .local) (hd1 : (c == ("__debug__" : Str)) = false) (hd2 : (n == ("__debug__" : Str)) = false) (hd3 : (c == ("__classdict__" : Str)) = false) (hd4 : (n == ("__classdict__" : Str)) = false) :
    LamX.GivesTo X [a, c, n] x sg g cdg [.Assign [.Name c q2] (.Constant .none j1 q3) q4, .Try [.Expr (.Call (.Name a p1) [] [] p2) p3] [.ExceptHandler (some (.Name e p4)) (some n) [.Assign [.Name c q5] (.Name n q6) q7] p7] [] [] p8, .Return (some (.Name c q8)) q9] a q (TCaught X.K CS) := by
  intro f c' s H Q tl act hcc h
  have hgl : Gl (cxOf C8.CX0 X.prog X.w X.K X.mg X.base [a, c, n] x sg g cdg X.A X.stack s H C8.E0).nox e := hge
  have nd := S.nd
  refine ⟨_, pss_cons (ps_set (i := 1) nd rfl (.inl hc) pe_non) (pss_cons (ps_try_asV (X := (cxOf C8.CX0 X.prog X.w X.K X.mg X.base [a, c, n] x sg g cdg X.A X.stack s H C8.E0).nox) (c := .ref CS) (i := 2)
      (tb := fun W D σ H => ∃ Ech : XK, (∀ cls d σ' H', Ech cls d H' → W cls d σ' H') ∧ σ[0]? = some (some (.ref f)) ∧ H c' = some (LamX.CodeO c' q) ∧ tl Ech H fun _ H' => D.nx σ H')
      rfl rfl rfl nd rfl hn ⟨hgl, hde, .inl hme⟩ LamX.takes0 (fun W pn xe tk _ => ?_) (fun a oe cls d pn _ _ => pss_one (ps_set (i := 1) nd rfl (.inl hc) (pe_var (i := 2) rfl (.inl hn) hd2 hd4)))) (pss_one (ps_ret (pe_var (i := 1) rfl (.inl hc) hd1 hd3)))), ?_⟩
  · refine ⟨fun pins s' σ H' D I h' => ?_⟩
    obtain ⟨Ech, hW, h1, h2, h3⟩ := h'
    have hp := act W pn xe Ech p1 p2 tk hW
    have hq := pss_one (ps_expr (pos := p3) hp)
    exact hq.run pins s' σ H' D I ⟨h1, h2, h3⟩
  · refine ⟨fun cls d H' => ∃ b, PySem.W.exmOne X.K cls (.ref CS) = some b ∧ (b = true → ∀ a, H' a = none → Q (.ref a) (upd H' a (ExW cls a d))) ∧ (b = false → False), fun cls d σ' H' ⟨b, e1, e2, e3⟩ => ⟨b, e1, fun hb hl a na => ?_, fun hb => e3 hb⟩, rfl, hcc, ?_⟩
    · have l1 : 1 < σ'.length := by rw [hl]; exact (by decide : 1 < 3)
      have l2 : 2 < σ'.length := by rw [hl]; exact (by decide : 2 < 3)
      refine ⟨.ref a, by simp [l2], .ref a, by simp [l1, l2], e2 hb a na⟩
    · exact h
theorem stp_ext {K : PySem.W.Frag} {CA : CAs} {m : Mp} {h : CH} {H H1 : Hp} (S : HR K CA m h H) (e : LamX.ExtN H H1) (T : LamX.Tabs CA.T H1) : Stp m h H m h H1 ∧ HR K CA m h H1 := by
  have nt : ∀ {u : HO}, NoTb u → ∀ ps, u ≠ .tbl ps := fun {u} n ps z => by rw [z] at n; exact n
  have ntb : ∀ {u : HO}, NTab u → ∀ ps, u ≠ .tbl ps := fun {u} n ps z => by rw [z] at n; exact n
  have s : Stp m h H m h H1 := .mk' ⟨Nat.le_refl _, fun _ _ => rfl, fun b o l q n => ⟨l, o, e b o q (nt n), .inl rfl⟩⟩ (fun k o _ q _ => ⟨q, by
    obtain ⟨u, q1, n⟩ := mok_nt (S.ob k o q).2
    rw [q1, e _ _ q1 (ntb n)]⟩) rfl fun a l => by
    obtain ⟨u, q, n⟩ := S.zh a l
    rw [q, e _ _ q (ntb n)]
  refine ⟨s, fun k o q => ⟨(S.ob k o q).1, (S.ob k o q).2.move s ?_⟩, S.inj, S.zn, fun a l => ?_, T⟩
  · obtain ⟨u, q1, n⟩ := mok_nt (S.ob k o q).2
    rw [q1, e _ _ q1 (ntb n)]
  · obtain ⟨u, q, n⟩ := S.zh a l
    exact ⟨u, e _ _ q (ntb n), n⟩
section
variable {P : Program} {w : World} {K : PySem.W.Frag} {CA : CAs} {mg mb : Str → Option Value} {k : Nat} {fa a : Addr} {fd : FuncData} {sh : Shared} {vs : List Value} {ns : List Int} {F : FD} {cs : List (Addr × Addr)}
theorem law_endT (kin : K.In sh.heap) (gl : sh.heap.Ns mainGlobals mg) (bl : sh.heap.Ns builtinsNs mb)
    (blt : ∀ x : Str, x ≠ "__name__" → mb x = bootBuiltins x) (nl : sh.heap.NoLimit) (gens : sh.gens = #[]) (ha : sh.heap.get? a = some { cls := .type "list", data := .seq vs.toArray }) (hi : IntsAre vs ns) (hl : ns.length ≤ 63) (hr : Room k callerA) (hF : LawF F) (sm : SM sh.heap)
    (hT : ∀ p ∈ cs, sh.heap.get? p.2 = some { cls := .none, data := .fields #[] }) (nT : ∀ p ∈ cs, K.lookup p.2 = none) (hC : ∀ p ∈ cs, PySem.W.CodeHd sh.heap p.1 p.2)
    (hbm : ∃ (bm : Addr) (ob : Obj), mg "__builtins__" = some (.ref bm) ∧ bm ≠ builtinsNs ∧ sh.heap.get? bm = some ob ∧ ob.cls = .type "module" ∧ ob.dict = some builtinsNs ∧ ob.data = .plain) (T0 : ∀ p ∈ CA.T, ∃ c, (c, p.1) ∈ cs)
    (G : ∀ base : Heap, K.In base → base.Ns mainGlobals mg → SM base → (∀ p ∈ cs, LamX.TabB base mg p.1 p.2) → FnG P w K mg base true k fa fd ["_law_script"] (spD K CA 1 F)) (bind : ∀ (s : Shared) (u : Value), BindsTo s fd ⟨[u], []⟩ [("_law_script", u)]) :
    codeAny (model P w) callerA (.call (.ref fa) ⟨[.ref a], []⟩) (fun r s' => r = .ok (.ret (.bool true)) ∧ OldK sh.heap s'.heap ∧ s'.os = sh.os ∧ AllBare s'.gens) sh := by
  have rv := vals_ints hi
  have hv := hi.length
  have isT : ∀ b : Addr, b ∈ cs.map (·.2) → sh.heap.get? b = some { cls := .none, data := .fields #[] } := fun b hb => by
    obtain ⟨p, hp, e⟩ := List.mem_map.mp hb
    rw [← e]
    exact hT p hp
  have memT : ∀ p ∈ cs, p.2 ∈ cs.map (·.2) := fun p hp => List.mem_map.mpr ⟨p, hp, rfl⟩
  have aT : a ∉ cs.map (·.2) := fun z => by
    have q := isT a z
    rw [ha] at q
    have z' : Data.seq vs.toArray _ = Data.fields #[] := congrArg Obj.data (Option.some.inj q)
    cases z'
  suffices main : ∀ H : Hp, (∀ b, H b = none ∨ (b = a ∧ ∃ o xs, H b = some (.frz o (.lst xs))) ∨ (b ∈ cs.map (·.2) ∧ H b = some (.tbl #[]))) → (∀ p ∈ cs, H p.2 = some (.tbl #[])) → Rp K CA ⟨fun _ => 0, []⟩ CH.emp H (.ref a) (.scr ns) → HOk P w H sh.heap → (H a ≠ none → K.lookup a = none) →
      codeAny (model P w) callerA (.call (.ref fa) ⟨[.ref a], []⟩) (fun r s' => r = .ok (.ret (.bool true)) ∧ OldK sh.heap s'.heap ∧ s'.os = sh.os ∧ AllBare s'.gens) sh by
    have nlive : ∀ b, ¬ Live ⟨fun _ => 0, []⟩ CH.emp b := fun b z => by
      rcases z with ⟨k, o, e, _⟩ | z
      · cases e
      · cases z
    cases hk : K.lookup a with
    | some o =>
      have e := kin a o hk
      rw [ha] at e
      cases e
      refine main (fun b => if b ∈ cs.map (·.2) then some (.tbl #[]) else none) (fun b => ?_) (fun p hp => if_pos (memT p hp)) (.kscr (.inr ⟨_, vs.toArray, _, hk, rfl, rfl, rfl, ?_, by simpa using rv⟩)) (fun b u z => ?_) fun z => absurd (if_neg aT) z
      · by_cases h : b ∈ cs.map (·.2)
        · exact .inr (.inr ⟨h, if_pos h⟩)
        · exact .inl (if_neg h)
      · rw [List.size_toArray, hv]
        exact Nat.le_trans hl (by decide)
      · by_cases h : b ∈ cs.map (·.2)
        · have z' := (if_pos h).symm.trans z
          cases z'
          exact isT b h
        · have z' := (if_neg h).symm.trans z
          cases z'
    | none =>
      refine main (fun b => if b = a then some (.frz { cls := .type "list", data := .seq vs.toArray } (.lst (ns.map V.int))) else if b ∈ cs.map (·.2) then some (.tbl #[]) else none) (fun b => ?_) (fun p hp => (if_neg (show ¬ p.2 = a from fun z => aT (by rw [← z]; exact memT p hp))).trans (if_pos (memT p hp)))
        (.scr (nlive a) (if_pos rfl)) (fun b u z => ?_) fun _ => hk
      · by_cases h : b = a
        · exact .inr (.inl ⟨h, _, _, if_pos h⟩)
        · by_cases h2 : b ∈ cs.map (·.2)
          · exact .inr (.inr ⟨h2, (if_neg h).trans (if_pos h2)⟩)
          · exact .inl ((if_neg h).trans (if_neg h2))
      · by_cases h : b = a
        · cases (if_pos h).symm.trans z
          subst h
          exact ⟨ha, by rw [List.length_map]; exact Nat.le_trans hl (by decide), vs, _, rv, ha⟩
        · have z1 := (if_neg h).symm.trans z
          by_cases h2 : b ∈ cs.map (·.2)
          · have z' := (if_pos h2).symm.trans z1
            cases z'
            exact isT b h2
          · have z' := (if_neg h2).symm.trans z1
            cases z'
  intro H only hH rp hok hK
  have noD : ∀ {b : Addr} {o : Obj}, sh.heap.get? b = some o → (∀ vs n, o.data ≠ .seq vs n) → o.data ≠ .fields #[] → H b = none := fun {b o} e h1 h2 => by
    rcases only b with q | ⟨q, _⟩ | ⟨q, _⟩
    · exact q
    · rw [q, ha] at e
      cases e
      exact (h1 _ _ rfl).elim
    · rw [isT b q] at e
      cases e
      exact (h2 rfl).elim
  have offA : ∀ {b : Addr} {o : Obj}, sh.heap.get? b = some o → H b = none → (hidT sh.heap H).get? b = some o := fun {b o} e n => hidT_get e n
  have noDict : ∀ {b : Addr} {o : Obj} {es : Array DictEntry} {ep : Nat}, sh.heap.get? b = some o → o.data = .dict es ep → H b = none := fun {b o es ep} e d => by
    refine noD e (fun vs n z => ?_) fun z => ?_
    · rw [d] at z
      cases z
    · rw [d] at z
      cases z
  have ns' : ∀ {b : Addr} {m : Str → Option Value}, sh.heap.Ns b m → (hidT sh.heap H).Ns b m := fun {b m} ⟨o, es, ep, e, d, r⟩ => ⟨o, es, ep, offA e (noDict e d), d, r⟩
  have kb : K.In (hidT sh.heap H) := fun b o e => offA (kin b o e) (by
    rcases only b with q | ⟨q, _⟩ | ⟨q, _⟩
    · exact q
    · by_cases h : H b = none
      · exact h
      · rw [q] at h e
        rw [hK h] at e
        cases e
    · obtain ⟨p, hp, ep⟩ := List.mem_map.mp q
      rw [← ep, nT p hp] at e
      cases e)
  have TB : ∀ p ∈ cs, LamX.TabB (hidT sh.heap H) mg p.1 p.2 := fun p hp => by
    have hTp := hT p hp
    refine ⟨?_, ?_, fun z => ?_⟩
    · obtain ⟨o, us, file, tf, flags, tg, inF, text, tt, e1, r1, r2, r3, rest⟩ := hC p hp
      refine ⟨o, us, file, tf, flags, tg, inF, text, tt, offA e1 (noD e1 (fun vs n z => ?_) fun z => ?_), r1, r2, r3, rest⟩
      · rw [r2] at z
        cases z
      · rw [r2] at z
        cases z
        simp at r3
    · obtain ⟨bm, ob, b1, b2, b3, b4, b5, b6⟩ := hbm
      have nG : bm ≠ mainGlobals := fun q => by
        obtain ⟨o, es, ep, e, hd, _⟩ := gl
        rw [q, e] at b3
        cases b3
        rw [hd] at b6
        cases b6
      have nP : bm ≠ p.2 := fun q => by
        rw [q, hTp] at b3
        cases b3
        cases b6
      refine ⟨bm, ob, b1, b2, nG, nP, offA b3 (noD b3 (fun vs n z => ?_) fun z => ?_), b4, b5, b6⟩
      · rw [b6] at z
        cases z
      · rw [b6] at z
        cases z
    · obtain ⟨o, es, ep, e, hd, _⟩ := gl
      rw [z, hTp] at e
      cases e
      cases hd
  have env : Env0 P w K mg (hidT sh.heap H) callerA [] sh H := ⟨rfl, ⟨kb, ns' gl, ⟨mb, ns' bl, blt⟩, nl.imp fun mc h => ⟨ns' h.1, h.2⟩⟩, fun b o e => of_hidT e, Nat.le_of_eq (hidT_size _ _), trivial, fun b hb => absurd hb List.not_mem_nil, hok, .of_eq gens⟩
  have hR : HR K CA ⟨fun _ => 0, []⟩ CH.emp H := ⟨fun k o e => (nomatch e), fun k j o u e => (nomatch e), fun k o e => (nomatch e), fun a l => (nomatch l), fun p hp => by
    obtain ⟨c, hc⟩ := T0 p hp
    exact LamX.TabS.nil (hH _ hc)⟩
  have smB : SM (hidT sh.heap H) := by
    obtain ⟨o, es, ep, e, d⟩ := sm
    exact ⟨o, es, ep, offA e (noDict e d), d⟩
  obtain ⟨hf, eF⟩ := hF ns hl
  refine codeAny_mono ((G _ kb (ns' gl) smB TB).go callerA [] sh H ⟨[.ref a], []⟩ [.ref a] [.ref a] (fun v _ => v = .bl true) (fun _ _ _ => False) (fun _ => rfl) hr env (bind sh (.ref a)) (.cons rfl .nil) ⟨rfl, ⟨fun _ => 0, []⟩, CH.emp, [.scr ns], hR, .cons rp .nil, by
    rw [eF]
    intro m' v H' s S r
    cases r
    rfl⟩) fun r s' h => ?_
  rcases r with e | fl
  · obtain ⟨_, _, _, _, _, _, _, _, _, _, _, _, z⟩ := h
    exact z.elim
  · rcases fl with _ | _ | _ | u
    · exact False.elim h
    · exact False.elim h
    · exact False.elim h
    · obtain ⟨v, H2, os, bare, un, hok2, r2, q⟩ := h
      obtain rfl : v = .bl true := q
      obtain rfl : u = Value.bool true := r2
      have key : ∀ b o, b ∉ cs.map (·.2) → sh.heap.get? b = some o → s'.heap.get? b = some o := fun b o nb e => by
        rcases only b with z | ⟨_, ob, xs, z⟩ | ⟨z, _⟩
        · exact un.keep b o e z (fun y => absurd y List.not_mem_nil) (by simp)
        · obtain ⟨e1, _⟩ := hok b _ z
          obtain ⟨e2, _⟩ := hok2 b _ (un.frzs b ob _ z)
          rw [e] at e1
          cases e1
          exact e2
        · exact absurd z nb
      have grown : ∀ p ∈ cs, ∃ more : Array Value, s'.heap.get? p.2 = some { cls := .none, data := .fields more } := fun p hp => by
        obtain ⟨more, z⟩ := un.tbls p.2 #[] (hH p hp)
        exact ⟨_, hok2 p.2 _ z⟩
      refine ⟨rfl, ⟨fun b o e => ?_, fun b o e => ?_⟩, os, bare⟩
      · by_cases hb : b ∈ cs.map (·.2)
        · obtain ⟨p, hp, ep⟩ := List.mem_map.mp hb
          obtain ⟨more, hm⟩ := grown p hp
          rw [← ep] at e ⊢
          rw [hT p hp] at e
          cases e
          exact .inr (.inl ⟨((hC p hp).tab (hT p hp)).isCodeTable, rfl, #[], more, rfl, by rw [Array.empty_append]; exact hm⟩)
        · exact .inl (key b o hb e)
      · by_cases hb : b ∈ cs.map (·.2)
        · obtain ⟨p, hp, ep⟩ := List.mem_map.mp hb
          obtain ⟨more, hm⟩ := grown p hp
          rw [← ep]
          exact ⟨_, hm⟩
        · exact ⟨o, key b o hb e⟩
end
structure FunC (K : PySem.W.Frag) (nm qual : Str) (st : Stmt) (f : Addr) (fd : FuncData) (c : Addr) : Prop where
  ex : ∃ (oc : Value) (od : Option Addr) (kV doc pm : Value) (an : Option Addr) (ct : Value) (osl : Array (Option Value)),
    fd = PySem.W.fnOf nm qual (defArgs st) (defBody st) (defScope st) .none kV doc pm an (.ref c) ct ∧ K.lookup f = some ⟨oc, od, .func fd, osl⟩ ∧ PySem.W.codeIn K (.ref c) qual = true
section
variable {P : Program} {w : World} {K : PySem.W.Frag} {mg : Str → Option Value} {base : Heap} {CA : CAs} {g : Bool}
theorem func_mk {nm qual : Str} {st : Stmt} {f c : Addr} {oc : Value} {od an : Option Addr} {osl : Array (Option Value)} {kV doc pm ct : Value} (l : K.lookup f = some ⟨oc, od, .func (PySem.W.fnOf nm qual (defArgs st) (defBody st) (defScope st) .none kV doc pm an (.ref c) ct), osl⟩) (h : PySem.W.codeIn K (.ref c) qual = true) :
    FunC K nm qual st f (PySem.W.fnOf nm qual (defArgs st) (defBody st) (defScope st) .none kV doc pm an (.ref c) ct) c := ⟨_, _, _, _, _, _, _, _, rfl, l, h⟩
theorem FnG.mkL {nm qual : Str} {st : Stmt} {f c : Addr} {fd : FuncData} {N ps : List Str} {k : Nat} {sp : Sp} (F : FunC K nm qual st f fd c) (S : FnScope N ps (defScope st)) (ln : ∀ vs H Q E, sp vs H Q E → vs.length = ps.length)
    (body : ∀ (A : Around) (outer : List Env) (s : Shared) (H : Hp) (vs : List V) (Q : VK) (E : XK), (g = true → A.guards = some []) → Room k (A.deeper (envOfC qual (defScope st) s.heap.objs.size f (.ref c))) → sp vs H Q E →
      ∃ t, PSs (cxD P w K mg base N qual st f (.ref c) A outer s H E) (defBody st) t ∧ t { nx := fun _ H2 => Q .non H2, rt := Q } (start N vs) H) : FnG P w K mg base g (k + 1) f fd ps sp := by
  obtain ⟨x1, x2, x4, x5, x6, x7, x8, x9, rfl, look, code⟩ := F.ex
  refine ⟨ln, fun A outer s H args us vs Q E hg room e0 bd rv hs => ?_⟩
  have len1 := ln _ _ _ _ hs
  have kin : K.In s.heap := e0.mod.kin.keeps fun b o e => (e0.bs b o e).1
  have nl : s.heap.NoLimit := e0.mod.nolimit.keeps fun b o e => (e0.bs b o e).1
  have kinds : ∀ y, y ∈ ps.zip us → (defScope st).names.lookup y.1 = some .local ∨ ((defScope st).names.lookup y.1 = some .cell ∧ ((cellsFrom (s.heap.objs.size + 1) (defScope st).names []).lookup y.1).isSome = true) := by
    rintro ⟨a, b⟩ hm
    exact (S.par a (List.of_mem_zip hm).1).imp id fun q => ⟨q, PySem.W.cellsFrom_some _ _ _ (.inl q)⟩
  refine codeAny_call_function room.depth (kin _ _ look) rfl S.co S.gen rfl (PySem.W.codeRec_of kin code) (bd _ _ _ _ (wpAny_newFunctionEnv_cells S.kind kinds fun env ee s1 hc => ?_))
  cases ee
  refine ⟨nl.keeps hc.toInCall.keep, codeAny_func ?_⟩
  obtain ⟨t, ht, hq⟩ := body A outer s H vs Q E hg (room.deeper _) hs
  have inv : Inv (cxD P w K mg base N qual st f (.ref c) A outer s H E) [] (start N vs) H s1 := inv_start S room.hd e0 len1 rv hc
  have back : ∀ {σ' : L2.St} {H2 : Hp} {v : V} {u : Value} {s2 : Shared}, Inv (cxD P w K mg base N qual st f (.ref c) A outer s H E) [] σ' H2 s2 → RelV v u → Q v H2 → CE outer P w H s Q u s2 := fun {_ H2 v _ _} J r q => ⟨v, H2, J.os, J.bare, J.base, J.hok, r, q⟩
  refine wpAny_mono (ht.run [] s1 (start N vs) H _ inv hq) (fun fl s2 h2 => ?_) fun _ _ z => z
  rcases fl with _ | _ | _ | u
  · obtain ⟨_, _, J, q⟩ := h2
    exact back (v := V.non) (u := Value.none) J rfl q
  · obtain ⟨_, _, _, q⟩ := h2; exact False.elim q
  · obtain ⟨_, _, _, q⟩ := h2; exact False.elim q
  · obtain ⟨_, _, _, J, r, q⟩ := h2
    exact back J r q
theorem okDL {nm qual : Str} {st : Stmt} {f c : Addr} {fd : FuncData} {N ps : List Str} {k n l : Nat} {u : SD} (F : FunC K nm qual st f fd c) (S : FnScope N ps (defScope st)) (hm : ps.length = l) (hn : N.length = n)
    (hb : ∀ (A : Around) (outer : List Env) (s : Shared) (H : Hp) (E : XK), (g = true → A.guards = some []) → Room k (A.deeper (envOfC qual (defScope st) s.heap.objs.size f (.ref c))) →
      Takes (cxD P w K mg base N qual st f (.ref c) A outer s H E) (wxD E) → ∃ tS, WSs (cxD P w K mg base N qual st f (.ref c) A outer s H E) K CA (wxD E) (defBody st) tS u) : FnG P w K mg base g (k + 1) f fd ps (spD K CA l (bodyF n u)) := by
  subst hm hn
  refine FnG.mkL F S (fun vs H Q E h => h.1) fun A outer s H vs Q E hg hr h => ?_
  obtain ⟨hl, m, ch, ds, hR, r, q⟩ := h
  obtain ⟨t, ws⟩ := hb A outer s H E hg hr (takes_of rfl rfl rfl rfl)
  have hle : vs.length ≤ N.length := by
    have := congrArg List.length S.pre
    rw [List.length_take] at this
    omega
  exact ⟨t, ws.pe, ws.sim m ch H _ _ _ (so_start N hle hR r) (res_post q)⟩
structure Cgt (K : PySem.W.Frag) (CA : CAs) (mg : Str → Option Value) (x : Str) (cs : Nat) : Prop where
  ex : ∃ (g : Addr) (a : Str) (pg : Arguments) (bg : List Stmt) (sg : Scope) (kV doc pm cdv ct oc : Value) (an od : Option Addr) (osl : Array (Option Value)) (Ng : List Str),
    mg x = some (.ref g) ∧ PySem.W.keepIn K (.ref g) = true ∧ K.lookup g = some ⟨oc, od, .func (PySem.W.fnOf x x pg bg sg .none kV doc pm an cdv ct), osl⟩ ∧ PySem.W.codeIn K cdv x = true ∧
    L2.Binds K (PySem.W.fnOf x x pg bg sg .none kV doc pm an cdv ct) [a] [] ∧ FnScope Ng [a] sg ∧ Ng[0]? = some a ∧ Vis sg a ∧ (a == ("__debug__" : Str)) = false ∧ (a == ("__classdict__" : Str)) = false ∧
    ∀ (X : Cx) (q : Str), X.K = K → X.mg = mg → LamX.GivesTo X Ng x sg g cdv bg a q (TCaught K (CA cs))
theorem cgt_mk {x a e c n : Str} {sg : Scope} {g : Addr} {cs : Nat} {pg : Arguments} {kV doc' pm cdv ct oc : Value} {an od : Option Addr} {osl : Array (Option Value)} {j1 : Nat} {p1 p2 p3 p4 p7 p8 q2 q3 q4 q5 q6 q7 q8 q9 : Pos}
    (lk : K.lookup g = some ⟨oc, od, .func (PySem.W.fnOf x x pg [.Assign [.Name c q2] (.Constant .none j1 q3) q4, .Try [.Expr (.Call (.Name a p1) [] [] p2) p3] [.ExceptHandler (some (.Name e p4)) (some n) [.Assign [.Name c q5] (.Name n q6) q7] p7] [] [] p8, .Return (some (.Name c q8)) q9] sg .none kV doc' pm an cdv ct), osl⟩)
    (hc0 : PySem.W.codeIn K cdv x = true) (hk : PySem.W.keepIn K (.ref g) = true) (hm : mg x = some (.ref g)) (hme : mg e = some (.ref (CA cs))) (hb : L2.Binds K (PySem.W.fnOf x x pg [.Assign [.Name c q2] (.Constant .none j1 q3) q4, .Try [.Expr (.Call (.Name a p1) [] [] p2) p3] [.ExceptHandler (some (.Name e p4)) (some n) [.Assign [.Name c q5] (.Name n q6) q7] p7] [] [] p8, .Return (some (.Name c q8)) q9] sg .none kV doc' pm an cdv ct) [a] [])
    (S : FnScope [a, c, n] [a] sg) (hge : sg.names.lookup e = some .globalImplicit) (hde : (e == ("__debug__" : Str)) = false) (ha : sg.names.lookup a = some .local) (hc : sg.names.lookup c = some .local) (hn : sg.names.lookup n = some .local)
    (da : (a == ("__debug__" : Str)) = false) (da2 : (a == ("__classdict__" : Str)) = false) (hd1 : (c == ("__debug__" : Str)) = false) (hd2 : (n == ("__debug__" : Str)) = false) (hd3 : (c == ("__classdict__" : Str)) = false) (hd4 : (n == ("__classdict__" : Str)) = false) : Cgt K CA mg x cs :=
  ⟨g, a, pg, _, sg, kV, doc', pm, cdv, ct, oc, an, od, osl, [a, c, n], hm, hk, lk, hc0, hb, S, rfl, .inl ha, da, da2, fun X q hK hmg => by
    subst hK hmg
    exact caught_gives hge hme hde S hc hn hd1 hd2 hd3 hd4⟩
end
def dStar (ta : TD) (ts : TDs) : TDs := fun ρ h => (ta ρ h).bind fun d h => match seqOf h d with
  | some xs => (ts ρ h).bind fun ys h => .ok (xs ++ ys) h
  | none => .no
section
variable {X : Cx} {K : PySem.W.Frag} {CA : CAs} {W : WX} {e : Expr} {es : List Expr} {pos p sp_ : Pos} {ha : TE} {ta : TD} {hs : TA} {ts : TDs}
theorem rps_app {m : Mp} {h : CH} {H : Hp} : ∀ {xs ys : List V} {ds es : List D}, RpAll K CA m h H xs ds → RpAll K CA m h H ys es → RpAll K CA m h H (xs ++ ys) (ds ++ es)
  | [], _, _, _, a, b => by cases a; exact b
  | x :: xs, _, _, _, a, b => by
    cases a with
    | cons a1 a2 => exact .cons a1 (rps_app a2 b)
theorem wa_star (x : WE X K CA W e ha ta) (y : WA X K CA W es hs ts) (hK : X.K = K := by rfl) (hst : starEach (.Starred e sp_ :: es) X.env = (true, eval e X.env) :: starEach es X.env := by rfl) : WA X K CA W (.Starred e sp_ :: es) (StX.tStar K ha hs) (dStar ta ts) := by
  subst hK
  refine ⟨StX.pa_star x.pe y.pe hst, fun m h H σ ρ Q' S t => x.sim m h H σ ρ _ S (t.bind fun d h1 m1 v H1 s1 S1 r1 t1 => ?_)⟩
  split at t1
  · rename_i xs e1
    obtain ⟨a, zs, rfl, q, rr⟩ := rp_seq S1 r1 e1
    refine ⟨a, zs, rfl, q.symm, y.sim m1 h1 H1 σ ρ _ (S.move s1 S1) (t1.bind fun ys h2 m2 ws H2 s2 S2 r2 t2 => ?_)⟩
    exact t2.here S2 (rps_app (rr.move s2) r2)
  · exact t1.elim
end
section
variable {X : Cx} {K : PySem.W.Frag} {CA : CAs} {W : WX} {e : Expr} {es : List Expr} {pos p : Pos} {ha : TE} {ta : TD} {hs : TA} {ts : TDs} {x : Str} {g : Bool} {k : Nat} {ps : List Str} {F : FD} {f : Addr} {fd : FuncData}
theorem we_callS (D : Df X.prog X.w X.K X.mg X.base CA x g k ps F f fd) (hG : g = true → X.A.guards = some []) (hr : Room k X.A) (tk' : Takes X W) (h : WA X K CA W (e :: es) hs ts) (B : KwB K CA fd ps ps.length [] (srcP 0 ps.length)) (hg : Gl X x := by rfl) (hK : X.K = K := by rfl)
    (hdb : (x == ("__debug__" : Str)) = false := by decide) (he : starEach (e :: es) X.env = (false, eval e X.env) :: starEach es X.env := by rfl) (hst : (backTo pos (starEach es X.env)).any (·.1) = true := by rfl) :
    WE X K CA W (.Call (.Name x p) (e :: es) [] pos) (tCallN K CA W ps.length 0 (fun ds _ => F ds) hs L2.tNil) (dCall ps.length F ts) := by
  subst hK
  refine ⟨⟨fun pins s σ H Q I hq => wpAny_Call_Name_kw (ld_glob I hg D.hm ?_ hdb)⟩, sim_call h.sim⟩
  refine PySem.W.callWith_S2 (h₀ := X.base) I.ok.mod.kin D.hk (thn (h.pe.run pos pins s σ H _ I hq) fun us s1 ⟨vs, H1, I1, r, l1, l2, m, h, ds, es, hR, rd, re, q⟩ => ⟨I1.kIn, ?_⟩) he hst
  refine run_callN (ws := []) D.G hG hr B tk' I1 r .nil l1 l2 hR rd re (srcP_length _ _) ?_
  have e : pickD ds es (srcP 0 ps.length) = ds := by rw [← l1, rd.length]; exact pick_srcP es ds
  rw [e]
  exact q
end
def dTupR (ta : TD) : TD := fun ρ h => (ta ρ h).bind fun d h => match d with
  | .int n => if 0 ≤ n ∧ n ≤ 100000 then .ok (.tup (rgD 0 n.toNat)) h else .no
  | _ => .no
section
variable {X : Cx} {K : PySem.W.Frag} {CA : CAs} {W : WX} {e : Expr} {pos p p2 pos2 : Pos} {ha : TE} {ta : TD}
theorem rp_ints_l {m : Mp} {h : CH} {H : Hp} : ∀ (l : List Nat), RpAll K CA m h H (l.map fun i : Nat => V.int (0 + (i : Int))) (l.map fun i : Nat => D.int (0 + (i : Int)))
  | [] => .nil
  | i :: l => .cons (.int _) (rp_ints_l l)
theorem we_tupR (x : WE X K CA W e ha ta) (hm : X.mg "tuple" = none) (hm2 : X.mg "range" = none) (hc : X.calm = true := by rfl) (hg : Gl X "tuple" := by rfl) (hg2 : Gl X "range" := by rfl) (n1 : starEach [e] X.env = (false, eval e X.env) :: starEach [] X.env := by rfl)
    (n2 : starEach [Expr.Call (.Name "range" p2) [e] [] pos2] X.env = (false, eval (Expr.Call (.Name "range" p2) [e] [] pos2) X.env) :: starEach [] X.env := by rfl) :
    WE X K CA W (.Call (.Name "tuple" p) [.Call (.Name "range" p2) [e] [] pos2] [] pos) (tTupRg (tRg1 ha)) (dTupR ta) :=
  ⟨pe_tupRg hc hg hm (prg_1 hg2 hm2 x.pe n1) n2, fun m h H σ ρ Q' S t => x.sim m h H σ ρ _ S (t.bind fun d h1 m1 v H1 s1 S1 r1 t1 => by
    split at t1
    · rename_i n
      obtain ⟨⟨c1, c2⟩, t2⟩ := post_ite t1
      cases r1
      refine ⟨n, rfl, ⟨by omega, by omega, by omega, by omega, by omega⟩, fun q nq => ?_⟩
      have e1 : rgV 0 n = (List.range n.toNat).map fun i : Nat => V.int (0 + (i : Int)) := by
        unfold rgV
        rw [Int.sub_zero]
      rw [e1]
      exact t2.laid S1 nq (.tup (S1.fresh nq) upd_same (rps_laid S1 nq (rp_ints_l _)))
    · exact t1.elim)⟩
end
def keysL (ds : List D) : Option (List Key) := ds.mapM keyD
def dGetT (kvs : List (List Key × D)) (k : List Key) : Option D := (kvs.find? fun kv => decide (kv.1 = k)).map (·.2)
def dPutT (ps : List (List Key × D)) (k : List Key) (d : D) : List (List Key × D) :=
  if (ps.any fun p => decide (p.1 = k)) = true then ps.map (fun p => if p.1 = k then (p.1, d) else p) else ps ++ [(k, d)]
section
variable {K : PySem.W.Frag} {CA : CAs} {m : Mp} {h : CH} {H : Hp} {v : V} {d : D}
theorem rp_keysL : ∀ {vs : List V} {ds : List D} {ks : List Key}, RpAll K CA m h H vs ds → keysL ds = some ks → vs = ks.map kV
  | [], _, _, r, e => by
    cases r
    unfold keysL at e
    simp at e
    subst e
    rfl
  | v :: vs, _, _, r, e => by
    cases r with
    | cons r1 r2 =>
      unfold keysL at e
      simp only [List.mapM_cons, Option.bind_eq_bind, Option.bind_eq_some_iff, Option.pure_def, Option.some.injEq] at e
      obtain ⟨k, e1, ks, e2, rfl⟩ := e
      rw [List.map_cons, rp_key r1 e1, rp_keysL r2 (show keysL _ = some ks from e2)]
theorem rp_dgetT {k : List Key} : ∀ {kvs : List (List Key × V)} {ds : List (List Key × D)} {d : D}, kvs.map (·.1) = ds.map (·.1) → RpAll K CA m h H (kvs.map (·.2)) (ds.map (·.2)) → dGetT ds k = some d → ∃ v, valV kvs k = some v ∧ Rp K CA m h H v d
  | [], [], _, _, _, g => by cases g
  | [], _ :: _, _, e, _, _ => by simp at e
  | _ :: _, [], _, e, _, _ => by simp at e
  | p :: kvs, q :: ds, d, e, r, g => by
    obtain ⟨pk, pv⟩ := p
    obtain ⟨qk, qv⟩ := q
    simp only [List.map_cons, List.cons.injEq] at e
    obtain ⟨e1, e2⟩ := e
    subst e1
    cases r with
    | cons r1 r2 =>
      by_cases c : pk = k
      · subst c
        have : d = qv := by simpa [dGetT] using g.symm
        exact ⟨pv, by simp [valV], by rw [this]; exact r1⟩
      · obtain ⟨w, h1, h2⟩ := rp_dgetT (k := k) e2 r2 (show dGetT ds k = some d by simpa only [dGetT, List.find?_cons, decide_eq_false c] using g)
        exact ⟨w, by rw [valV_neg c]; exact h1, h2⟩
theorem rp_dputT {k : List Key} {kvs : List (List Key × V)} {ds : List (List Key × D)} (e : kvs.map (·.1) = ds.map (·.1)) (r : RpAll K CA m h H (kvs.map (·.2)) (ds.map (·.2))) (r' : Rp K CA m h H v d) :
    (putK kvs k v).map (·.1) = (dPutT ds k d).map (·.1) ∧ RpAll K CA m h H ((putK kvs k v).map (·.2)) ((dPutT ds k d).map (·.2)) := by
  unfold putK dPutT
  rw [keys_any e]
  by_cases q : (ds.any fun kv => decide (kv.1 = k)) = true
  · rw [if_pos q, if_pos q]
    clear q
    induction kvs generalizing ds with
    | nil => cases ds with
      | nil => exact ⟨rfl, .nil⟩
      | cons => simp at e
    | cons p kvs ih => cases ds with
      | nil => simp at e
      | cons q ds =>
        simp only [List.map_cons, List.cons.injEq] at e
        cases r with
        | cons r1 r2 =>
          obtain ⟨i1, i2⟩ := ih e.2 r2
          simp only [List.map_cons]
          by_cases hk : q.1 = k
          · rw [if_pos (e.1.trans hk), if_pos hk]
            exact ⟨by rw [i1, e.1], .cons r' i2⟩
          · rw [if_neg (fun z => hk (e.1.symm.trans z)), if_neg hk]
            exact ⟨by rw [i1, e.1], .cons r1 i2⟩
  · rw [if_neg q, if_neg q]
    simp only [List.map_append, List.map_cons, List.map_nil]
    exact ⟨by rw [e], r.append (.cons r' .nil)⟩
end
def dIxT (ta : TD) (ts : TDs) : TD := fun ρ h => (ta ρ h).bind fun x h => (ts ρ h).bind fun ds h => match x with
  | .ref k => match h.ob k, keysL ds with
    | some (.dctT kvs), some ks => if ds.length ≤ sizeLine then (match dGetT kvs ks with
      | some d => .ok d h
      | none => .no) else .no
    | _, _ => .no
  | _ => .no
def gdSubT (ta : TD) (ts : TDs) : TGD := fun d ρ h => (ta ρ h).calm fun x h => (ts ρ h).calm fun ds h => match x with
  | .ref k => match h.ob k, keysL ds with
    | some (.dctT kvs), some ks => if ds.length ≤ sizeLine ∧ kvs.length < sizeLine then .ok ρ (h.put k (.dctT (dPutT kvs ks d))) else .no
    | _, _ => .no
  | _ => .no
section
variable {X : Cx} {K : PySem.W.Frag} {CA : CAs} {W : WX} {a o e : Expr} {es : List Expr} {x1 : Nat} {pos p2 : Pos} {ha : TE} {ta : TD} {hs : TA} {ts : TDs}
theorem we_ixT (hu : X.A.units + 1 < cLine) (x : WE X K CA W a ha ta) (y : WA X K CA W es hs ts) (hK : X.K = K := by rfl) (hp : PlainIx (.Tuple es x1 p2) := by exact fun _ _ => rfl) : WE X K CA W (.Subscript a (.Tuple es x1 p2) pos) (L2.tOp (rIxU K) ha (L2.tTup hs)) (dIxT ta ts) := by
  refine ⟨pe_ix (ixU hu hK) x.pe (pe_tup y.pe) hp, fun m h H σ ρ Q' S t => x.sim m h H σ ρ _ S (t.bind fun d h1 m1 v H1 s1 S1 r1 t1 => y.sim m1 h1 H1 σ ρ _ (S.move s1 S1) (t1.bind fun ds h2 m2 vs H2 s2 S2 r2 t2 => ?_))⟩
  split at t2
  · rename_i k
    split at t2
    · rename_i kvs ks eo ek
      obtain ⟨l, t3⟩ := post_ite t2
      split at t3
      · rename_i d eg
        have ev := rp_ref (r1.move s2)
        subst ev
        obtain ⟨xs, e1, en, rr⟩ := mo_dctT S2 eo
        obtain ⟨w, g1, g2⟩ := rp_dgetT en rr eg
        have evs := rp_keysL r2 ek
        refine ⟨by rw [r2.length]; exact l, fun p n => .inr ⟨_, w, rfl, ?_, t3 m2 w _ (stp_laid S2 n) (S2.laid n) (g2.move (stp_laid S2 n))⟩⟩
        rw [← g1]
        exact DGet.t (by rw [upd_ne (ne_of_none e1 n)]; exact e1) (by rw [upd_same, evs])
      · exact t3.elim
    · exact t2.elim
  · exact t2.elim
theorem wg_subT (hu : X.A.units + 1 < cLine) (x : WE X K CA W a ha ta) (y : WA X K CA W es hs ts) (hp : PE X a ha → PE X (.Tuple es x1 p2) (L2.tTup hs) → PSet X rSetU → PG X e (gSub ha (L2.tTup hs) rSetU)) : WG X K CA e [] (gSub ha (L2.tTup hs) rSetU) (gdSubT ta ts) := by
  refine ⟨hp x.pe (pe_tup y.pe) (set_U hu), fun m hh H σ ρ v d Q' S r q => x.sim m hh H σ ρ _ S (PostT'.calm q fun a h1 m1 w H1 s1 S1 r1 q1 => y.sim m1 h1 H1 σ ρ _ (S.move s1 S1) (PostT'.calm q1 fun ds h2 m2 vs H2 s2 S2 r2 q2 => ?_))⟩
  split at q2
  · rename_i k
    split at q2
    · rename_i kvs ks eo ek
      by_cases c : ds.length ≤ sizeLine ∧ kvs.length < sizeLine
      · rw [if_pos c] at q2
        have ev := rp_ref (r1.move s2)
        subst ev
        have evs := rp_keysL r2 ek
        have SS := (S.move s1 S1).move s2 S2
        have rv := (r.move s1).move s2
        refine ⟨by rw [r2.length]; exact c.1, fun p n => ?_⟩
        have sL := stp_laid (u := .tup vs) S2 n
        have S3 := S2.laid (u := .tup vs) n
        obtain ⟨xs, e1, en, rr⟩ := mo_dctT S3 eo
        obtain ⟨i1, i2⟩ := rp_dputT (k := ks) en rr (rv.move sL)
        have sp := stp_put (o' := .dctT (dPutT kvs ks d)) (u := .dT (putK xs ks v)) S3 eo trivial
        have lx : xs.length = kvs.length := by simpa using congrArg List.length en
        exact .inr ⟨_, _, rfl, DPut.t e1 (by rw [upd_same, evs]) (by rw [lx]; exact c.2), q2 m2 σ _ (sL.trans sp) ((SS.move sL S3).move sp (S3.put eo (.dctT upd_same i1 (i2.mv (mv_put eo))))) rfl fun _ _ => rfl⟩
      · rw [if_neg c] at q2; exact q2.elim
    · exact q2.elim
  · exact q2.elim
end
abbrev NoE : Value → Shared → Prop := fun _ _ => False
abbrev tests (ifs : List Expr) (env : Env) : Sem Bool := forIn ifs true fun c r => if r = true then do let ok ← isTrue c env (eval c env); pure (ForInStep.yield ok) else pure (ForInStep.yield r)
def TurnIs (E : Expr) (c : Nat) (tg iter : Expr) (ifs : List Expr) (it acc : Value) (env : Env) (bk : Sem Fin → Sem Fin) : Prop :=
  compTurn E c it acc env = (standAt iter.pos >>= fun _ => pyNext it >>= fun r => match r with
    | none => pure (.done .next)
    | some v => letOwnedTupleGo tg it v >>= fun _ => assign tg env v >>= fun _ => tests ifs env >>= fun ok => if ok = true then bk (again (.compLoop E c it acc env)) else again (.compLoop E c it acc env))
section
variable {prog : Program} {w : World} {A : Around} {R : Result → Shared → Prop} {s : Shared} {kx vx tg iter : Expr} {gens : List Comprehension} {scope : Scope} {pos : Pos} {ifs : List Expr} {c : Nat} {it acc : Value} {env : Env} {bk : Sem Fin → Sem Fin} {Wsh : (Shared → Prop) → Shared → Prop}
theorem g_loop (eq : TurnIs (.DictComp kx vx gens scope pos) c tg iter ifs it acc env bk)
    (hbk : ∀ (P : Shared → Prop) (k : Sem Fin) (Q : Fin → Shared → Prop) (E' : Value → Shared → Prop) (s : Shared), Wsh P s → (∀ s', P s' → wpAny (model prog w) A k Q E' s') → wpAny (model prog w) A (bk k) Q E' s) (I : Nat → Shared → Prop)
    (turn : ∀ n s, I n s → wpAny (model prog w) A (pyNext it) (fun r s1 => match r with
      | none => R (.ok .next) s1
      | some v => wpAny (model prog w) A (letOwnedTupleGo tg it v) (fun _ s2 => wpAny (model prog w) A (assign tg env v) (fun _ s3 => wpAny (model prog w) A (tests ifs env)
          (fun ok s4 => if ok = true then Wsh (fun s5 => ∃ m, m < n ∧ I m s5) s4 else ∃ m, m < n ∧ I m s4) NoE s3) NoE s2) NoE s1) NoE s)
    (n : Nat) (h : I n s) : codeAny (model prog w) A (.compLoop (.DictComp kx vx gens scope pos) c it acc env) R s := by
  have up : ∀ {α : Type} {t : Sem α} {Q Q' : α → Shared → Prop} {E' : Value → Shared → Prop} {s : Shared}, wpAny (model prog w) A t Q NoE s → (∀ a s, Q a s → Q' a s) → wpAny (model prog w) A t Q' E' s := fun h hQ => wpAny_mono h hQ fun _ _ z => z.elim
  refine codeAny_loop rfl I (fun n s hI => ?_) n h
  show wpAny _ A ((compTurn (.DictComp kx vx gens scope pos) c it acc env).onRaise (fun x => do noteFrame x env; theTreesLotGoes x)) _ _ s
  refine wpAny_noted ?_
  rw [show compTurn (.DictComp kx vx gens scope pos) c it acc env = _ from eq]
  refine wpAny_bind (wpAny_standAt (wpAny_bind (up (turn n s hI) fun r s1 q1 => ?_)))
  cases r with
  | none => exact wpAny_pure q1
  | some v =>
    refine wpAny_bind (up q1 fun _ s2 q2 => wpAny_bind (up q2 fun _ s3 q3 => wpAny_bind (up q3 fun ok s4 q4 => ?_)))
    cases ok with
    | false => exact wpAny_pure ⟨rfl, q4⟩
    | true => exact hbk _ _ _ _ _ q4 fun s5 q5 => wpAny_pure ⟨rfl, q5⟩
end
abbrev putB (kx vx : Expr) (D : Addr) (env : Env) : Sem Unit := do
      let kv ← eval kx env
      let vv ← holding [kv] (eval vx env)
      standAt { kx.pos with endLine := vx.pos.endLine, endCol := vx.pos.endCol }
      holding [kv, vv] (dictSet D kv vv)
theorem turn_one {kx vx tg iter : Expr} {ifs : List Expr} {scope : Scope} {pos : Pos} {it : Value} {D : Addr} {env : Env} :
    TurnIs (.DictComp kx vx [⟨tg, iter, ifs, 0⟩] scope pos) 0 tg iter ifs it (.ref D) env (fun k => putB kx vx D env >>= fun _ => k) := by
  unfold TurnIs
  rfl
theorem turn_in {kx vx t0 i0 tg iter : Expr} {ifs0 ifs : List Expr} {scope : Scope} {pos : Pos} {it : Value} {D : Addr} {env : Env} :
    TurnIs (.DictComp kx vx [⟨t0, i0, ifs0, 0⟩, ⟨tg, iter, ifs, 0⟩] scope pos) 1 tg iter ifs it (.ref D) env (fun k => putB kx vx D env >>= fun _ => k) := by
  unfold TurnIs
  rfl
theorem turn_out {kx vx t0 i0 tg iter : Expr} {ifs0 ifs : List Expr} {scope : Scope} {pos : Pos} {it : Value} {D : Addr} {env : Env} :
    TurnIs (.DictComp kx vx [⟨t0, i0, ifs0, 0⟩, ⟨tg, iter, ifs, 0⟩] scope pos) 0 t0 i0 ifs0 it (.ref D) env (fun k => eval iter env >>= fun x => standAt iter.pos >>= fun _ => foldedSetIterable iter env x >>= fun x => holding [x] (pyIter x) >>= fun i =>
      runOwn (.compStart (.DictComp kx vx [⟨t0, i0, ifs0, 0⟩, ⟨tg, iter, ifs, 0⟩] scope pos) 1 i (.ref D) env) env >>= fun _ => k) := by
  unfold TurnIs
  rfl
def wPut (P : Program) (w : World) (A : Around) (kx vx : Expr) (D : Addr) (env : Env) (P1 : Shared → Prop) (s : Shared) : Prop :=
  wpAny (model P w) A (eval kx env) (fun kv s1 => wpAny (model P w) A (eval vx env) (fun vv s2 => wpAny (model P w) A (dictSet D kv vv) (fun _ s3 => P1 s3) NoE s2) NoE s1) NoE s
theorem bk_put {P : Program} {w : World} {A : Around} {kx vx : Expr} {D : Addr} {env : Env} (P1 : Shared → Prop) (k : Sem Fin) (Q : Fin → Shared → Prop) (E' : Value → Shared → Prop) (s : Shared) (h : wPut P w A kx vx D env P1 s) (hk : ∀ s', P1 s' → wpAny (model P w) A k Q E' s') :
    wpAny (model P w) A (putB kx vx D env >>= fun _ => k) Q E' s := by
  have up : ∀ {α : Type} {t : Sem α} {Q Q' : α → Shared → Prop} {E' : Value → Shared → Prop} {s : Shared}, wpAny (model P w) A t Q NoE s → (∀ a s, Q a s → Q' a s) → wpAny (model P w) A t Q' E' s := fun h hQ => wpAny_mono h hQ fun _ _ z => z.elim
  refine wpAny_bind (wpAny_bind (up h fun kv s1 q1 => wpAny_bind (wpAny_holding (up q1 fun vv s2 q2 => wpAny_bind (wpAny_standAt (wpAny_holding (up q2 fun _ s3 q3 => hk s3 q3)))))))
def wOut (P : Program) (w : World) (A : Around) (E iter : Expr) (D : Addr) (env : Env) (P1 : Shared → Prop) (s : Shared) : Prop :=
  wpAny (model P w) A (eval iter env) (fun x s1 => wpAny (model P w) A (pyIter x) (fun i s2 => codeAny (model P w) A (.compStart E 1 i (.ref D) env) (fun r s' => match r with
    | .ok _ => P1 s'
    | .error _ => False) s2) NoE s1) NoE s
theorem bk_out {P : Program} {w : World} {A : Around} {E iter : Expr} {D : Addr} {env : Env} (hs : ∀ x, foldedSetIterable iter env x = pure x) (P1 : Shared → Prop) (k : Sem Fin) (Q : Fin → Shared → Prop) (E' : Value → Shared → Prop) (s : Shared) (h : wOut P w A E iter D env P1 s) (hk : ∀ s', P1 s' → wpAny (model P w) A k Q E' s') :
    wpAny (model P w) A (eval iter env >>= fun x => standAt iter.pos >>= fun _ => foldedSetIterable iter env x >>= fun x => holding [x] (pyIter x) >>= fun i => runOwn (.compStart E 1 i (.ref D) env) env >>= fun _ => k) Q E' s := by
  have up : ∀ {α : Type} {t : Sem α} {Q Q' : α → Shared → Prop} {E' : Value → Shared → Prop} {s : Shared}, wpAny (model P w) A t Q NoE s → (∀ a s, Q a s → Q' a s) → wpAny (model P w) A t Q' E' s := fun h hQ => wpAny_mono h hQ fun _ _ z => z.elim
  refine wpAny_bind (up h fun x s1 q1 => wpAny_bind (wpAny_standAt (wpAny_bind (wpAny_of_eq (hs x) (wpAny_bind (wpAny_holding (up q1 fun i s2 q2 => wpAny_bind (wpAny_runOwn ?_))))))))
  rw [Around.mark_none]
  refine codeAny_mono q2 fun r s' hr => ?_
  cases r with
  | ok f => exact hk s' hr
  | error e => exact hr.elim
section
variable {Y : Cx} {pins : List (Addr × Obj)} {σb : L2.St} {vs : List Nat} {J : It} {fp : List Addr} {ia : Addr} {tn : Nat → Heap → Prop} {g : TG} {tt : TT} {tb : L2.St → Hp → (Hp → Prop) → Prop} {W : Nat → Nat → Hp → Prop} {Done : Hp → Prop}
  {R : Result → Shared → Prop} {kx vx tg iter : Expr} {gens : List Comprehension} {scope : Scope} {pos : Pos} {ifs : List Expr} {c : Nat} {acc : Value} {bk : Sem Fin → Sem Fin} {Wsh : (Shared → Prop) → Shared → Prop}
theorem b_loop (hc : Y.calm = true) (hx : Y.xe = NoE) (T : Turn Y.prog Y.w Y.K tg J fp ia tn) (eq : TurnIs (.DictComp kx vx gens scope pos) c tg iter ifs (.ref ia) acc Y.env bk)
    (hbk : ∀ (P : Shared → Prop) (k : Sem Fin) (Q : Fin → Shared → Prop) (E' : Value → Shared → Prop) (s : Shared), Wsh P s → (∀ s', P s' → wpAny (model Y.prog Y.w) Y.A k Q E' s') → wpAny (model Y.prog Y.w) Y.A (bk k) Q E' s)
    (hm : ∀ (P P' : Shared → Prop) (s : Shared), (∀ s', P s' → P' s') → Wsh P s → Wsh P' s) (pg : PG Y tg g) (pt : PTs Y ifs tt)
    (hb : ∀ (pl : List (Addr × Obj)) (s : Shared) (σ2 : L2.St) (H : Hp) (Nx : Hp → Prop), Inv Y pl σ2 H s → wipe σ2 vs = wipe σb vs → tb σ2 H Nx → Wsh (fun s' => ∃ σ3 H', Inv Y pl σ3 H' s' ∧ σ3.length = σ2.length ∧ (∀ (j : Nat) v, (wipe σb vs)[j]? = some (some v) → σ3[j]? = some (some v)) ∧ Nx H') s)
    (fpo : ∀ {σ' : L2.St} {H' : Hp} {s' : Shared}, Inv Y pins σ' H' s' → (∀ b ∈ fp, H' b = none) → ∀ b ∈ fp, FpOk Y pins H' b)
    (turn : ∀ i m H, W i m H → (J.stop i H ∧ Done H) ∨ (J.go i H ∧ ∃ Nx : Hp → Prop, (∀ H', Nx H' → ∃ m', m' < m ∧ W (i + 1) m' H') ∧ ∀ x H', J.yld i H x H' → g x (wipe σb vs) H' fun σ2 H2 => wipe σ2 vs = wipe σb vs ∧ tt σ2 H2 fun b H3 => if b = true then tb σ2 H3 Nx else Nx H3))
    (hR : ∀ s' H', Inv Y pins (wipe σb vs) H' s' → Done H' → R (.ok .next) s') {m0 : Nat} {H0 : Hp} {s0 : Shared} (I0 : Inv Y pins (wipe σb vs) H0 s0) (st0 : tn 0 s0.heap) (n0 : ∀ b ∈ fp, H0 b = none) (w0 : W 0 m0 H0) :
    codeAny (model Y.prog Y.w) Y.A (.compLoop (.DictComp kx vx gens scope pos) c (.ref ia) acc Y.env) R s0 := by
  refine g_loop eq hbk (fun n s' => ∃ i H', Inv Y pins (wipe σb vs) H' s' ∧ tn i s'.heap ∧ (∀ b ∈ fp, H' b = none) ∧ W i n H') ?_ m0 ⟨0, H0, I0, st0, n0, w0⟩
  rintro n s5 ⟨i, H5, I5, st5, n5, w5⟩
  rcases turn i n H5 w5 with ⟨stop, dn⟩ | ⟨go, Nx, hNx, step⟩
  · refine wpAny_mono (T.done Y rfl rfl rfl hc i pins s5 _ H5 NoE I5 (fpo I5 n5) st5 stop) (fun r s6 q => ?_) (fun _ _ z => z)
    obtain ⟨rfl, I6⟩ := q
    exact hR _ _ I6 dn
  · refine wpAny_mono (T.item Y rfl rfl rfl hc i pins s5 _ H5 NoE I5 (fpo I5 n5) st5 go) (fun r s6 q => ?_) (fun _ _ z => z)
    obtain ⟨u, rfl, h6⟩ := q
    refine wpAny_mono h6 (fun _ s7 q => ?_) (fun _ _ z => z)
    obtain ⟨x, H7, I7, r7, y7, st7, n7⟩ := q
    have IP := I7.pinned (fpo I7 n7) (T.obj _ _ st7)
    have hpg := pg.run _ s7 _ H7 x u _ IP r7 (step x H7 y7)
    rw [hx] at hpg
    refine wpAny_mono hpg (fun _ s8 q => ?_) (fun _ _ z => z)
    obtain ⟨σ8, H8, I8, hw8, q8⟩ := q
    have hpt := pt.run _ s8 σ8 H8 _ I8 q8
    rw [hx] at hpt
    refine wpAny_mono hpt (fun b s9 q => ?_) (fun _ _ z => z)
    obtain ⟨H9, I9, q9⟩ := q
    have l8 : σ8.length = (wipe σb vs).length := by rw [← hw8, wipe_length]
    have fin : ∀ {s' : Shared}, (∃ σ3 H', Inv Y (pins ++ pinsAt fp s7.heap) σ3 H' s' ∧ σ3.length = σ8.length ∧ (∀ (j : Nat) v, (wipe σb vs)[j]? = some (some v) → σ3[j]? = some (some v)) ∧ Nx H') →
        ∃ m, m < n ∧ ∃ i H', Inv Y pins (wipe σb vs) H' s' ∧ tn i s'.heap ∧ (∀ b ∈ fp, H' b = none) ∧ W i m H' := fun {s'} q => by
      obtain ⟨σ3, H', I', hl, hk, nx⟩ := q
      obtain ⟨m', hm, w'⟩ := hNx H' nx
      have stay : ∀ b ∈ fp, ∀ o, s7.heap.get? b = some o → s'.heap.get? b = some o ∧ H' b = none := fun b hb o e => by
        obtain ⟨z1, z2, _⟩ := I'.pin (b, o) (List.mem_append_right _ (List.mem_append_right _ (mem_pinsAt hb e)))
        exact ⟨z1, z2⟩
      refine ⟨m', hm, i + 1, H', I'.unpinned.weak (by rw [hl, l8]) hk, T.keep _ _ _ st7 fun b hb o e => (stay b hb o e).1, fun b hb => ?_, w'⟩
      obtain ⟨o, e, _⟩ := T.obj _ _ st7 b hb
      exact (stay b hb o e).2
    cases b with
    | false =>
      rw [if_neg Bool.false_ne_true] at q9 ⊢
      exact fin ⟨σ8, H9, I9, rfl, fun j v e => (wipe_some (by rw [hw8]; exact e)).1, q9⟩
    | true =>
      rw [if_pos rfl] at q9 ⊢
      exact hm _ _ _ (fun s' => fin) (hb _ s9 σ8 H9 Nx I9 hw8 q9)
end
theorem c_start1 {P : Program} {w : World} {A : Around} {R : Result → Shared → Prop} {s : Shared} {kx vx t0 i0 tg iter : Expr} {ifs0 ifs : List Expr} {scope : Scope} {pos : Pos} {it acc : Value} {env : Env}
    (h0 : codeAny (model P w) A (.compLoop (.DictComp kx vx [⟨t0, i0, ifs0, 0⟩, ⟨tg, iter, ifs, 0⟩] scope pos) 1 it acc env) R s)
    (h : wpAny (model P w) A (pyIter it) (fun i s' => codeAny (model P w) A (.compLoop (.DictComp kx vx [⟨t0, i0, ifs0, 0⟩, ⟨tg, iter, ifs, 0⟩] scope pos) 1 i acc env) R s') NoE s) :
    codeAny (model P w) A (.compStart (.DictComp kx vx [⟨t0, i0, ifs0, 0⟩, ⟨tg, iter, ifs, 0⟩] scope pos) 1 it acc env) R s := by
  refine codeAny_of_tree ?_
  show wpAny _ A ((compStart (.DictComp kx vx [⟨t0, i0, ifs0, 0⟩, ⟨tg, iter, ifs, 0⟩] scope pos) 1 it acc env).onRaise (fun x => do noteFrame x env; standAt theWindowsPlace)) _ _ s
  refine wpAny_notedAt ?_
  unfold compStart
  show wpAny _ A (ask >>= _) _ _ s
  refine wpAny_bind (wpAny_askSetting (wpAny_ite ?_))
  have go : ∀ {E' : Value → Shared → Prop}, wpAny (model P w) A (pyIter it) (fun i s' => codeAny (model P w) A (.compLoop (.DictComp kx vx [⟨t0, i0, ifs0, 0⟩, ⟨tg, iter, ifs, 0⟩] scope pos) 1 i acc env) R s') E' s := fun {E'} => wpAny_mono h (fun _ _ z => z) fun _ _ z => z.elim
  split
  · first
      | exact wpAny_bind (wpAny_pure (wpAny_pure ⟨rfl, h0⟩))
      | exact wpAny_pure ⟨rfl, h0⟩
  · first
      | exact wpAny_bind (wpAny_rule (wpAny_bind (wpAny_standAt (wpAny_bind (wpAny_mono go (fun i s' q => wpAny_pure ⟨rfl, q⟩) fun _ _ z => z)))))
      | (refine wpAny_bind (wpAny_rule ?_); show wpAny _ _ (standAt iter.pos >>= _) _ _ s; exact wpAny_bind (wpAny_standAt (wpAny_bind (wpAny_mono go (fun i s' q => wpAny_pure ⟨rfl, q⟩) fun _ _ z => z))))
def tDcG (u0 : HO) (wi : TI) (g : TG) (tt : TT) (tb : Addr → L2.St → Hp → (Hp → Prop) → Prop) (vs : List Nat) : TE := fun σ H Q => wi σ H fun J H1 => ∀ D, H1 D = none → ∃ W : Nat → Nat → Hp → Prop, (∃ m, W 0 m (upd H1 D u0)) ∧ ∀ i m H, W i m H →
  (J.stop i H ∧ Q (.ref D) H) ∨ (J.go i H ∧ ∃ Nx : Hp → Prop, (∀ H', Nx H' → ∃ m', m' < m ∧ W (i + 1) m' H') ∧ ∀ x H', J.yld i H x H' → g x (wipe σ vs) H' fun σ2 H2 => wipe σ2 vs = wipe σ vs ∧ tt σ2 H2 fun b H3 => if b = true then tb D σ2 H3 Nx else Nx H3)
section
variable {X : Cx} {kx vx tg iter : Expr} {ifs : List Expr} {rest : List Comprehension} {scope : Scope} {own : List (Str × Nat)} {pos : Pos} {wi : TI} {g : TG} {tt : TT} {tb : Addr → L2.St → Hp → (Hp → Prop) → Prop} {u0 : HO} {bk : Addr → Env → Sem Fin → Sem Fin} {Wsh : Addr → Env → (Shared → Prop) → Shared → Prop}
theorem dcG_core {use : Option (Value → Sem Unit)} {Qf : Value → Shared → Prop} {pins : List (Addr × Obj)} {s : Shared} {σ : L2.St} {H : Hp} {Q : VK} {pos' : Pos} (hc : X.calm = true) (hN : X.N.Nodup) (hi : PI X tg iter wi) (ok : BlkOk X.N X.env.scope scope own) (eq : ∀ (D : Addr) (it : Value) (env : Env), TurnIs (.DictComp kx vx (⟨tg, iter, ifs, 0⟩ :: rest) scope pos) 0 tg iter ifs it (.ref D) env (bk D env))
    (hbk : ∀ (D : Addr) (env : Env) (P : Shared → Prop) (k : Sem Fin) (Q : Fin → Shared → Prop) (E' : Value → Shared → Prop) (s : Shared), Wsh D env P s → (∀ s', P s' → wpAny (model X.prog X.w) X.A k Q E' s') → wpAny (model X.prog X.w) X.A (bk D env k) Q E' s)
    (hm : ∀ (D : Addr) (env : Env) (P P' : Shared → Prop) (s : Shared), (∀ s', P s' → P' s') → Wsh D env P s → Wsh D env P' s)
    (hg : ∀ (s : Shared) (H : Hp) (C : Addr) (cl : List (Str × Addr)) (fp : List Addr), PG (X.blk s H scope (compEnvC scope cl C X.env) fp) tg g) (ht : ∀ (s : Shared) (H : Hp) (C : Addr) (cl : List (Str × Addr)) (fp : List Addr), PTs (X.blk s H scope (compEnvC scope cl C X.env) fp) ifs tt)
    (hb : ∀ (s0 : Shared) (H0 : Hp) (C : Addr) (cl : List (Str × Addr)) (fp : List Addr) (D : Addr) (pl : List (Addr × Obj)) (s : Shared) (σb σ2 : L2.St) (H : Hp) (Nx : Hp → Prop), Inv (X.blk s0 H0 scope (compEnvC scope cl C X.env) fp) pl σ2 H s → wipe σ2 (own.map (·.2)) = wipe σb (own.map (·.2)) → tb D σ2 H Nx →
      Wsh D (compEnvC scope cl C X.env) (fun s' => ∃ σ3 H', Inv (X.blk s0 H0 scope (compEnvC scope cl C X.env) fp) pl σ3 H' s' ∧ σ3.length = σ2.length ∧ (∀ (j : Nat) v, (wipe σb (own.map (·.2)))[j]? = some (some v) → σ3[j]? = some (some v)) ∧ Nx H') s)
    (h0 : ∀ (H : Hp) (h : Heap), sysModules < h.objs.size → ObjOk X.prog X.w H (h.push { cls := .type "dict", data := .dict #[] }) h.objs.size u0) (hs : ∀ x, foldedSetIterable iter X.env x = pure x)
    (I : Inv X pins σ H s) (h : tDcG u0 wi g tt tb (own.map (·.2)) σ H Q) (hRR : ∀ D C s' m H', Inv X pins σ H' s' → Q (.ref D) H' → s'.heap.Ns C m → FpOk X pins H' C → compPost (model X.prog X.w) X.A X.xe use Qf (.ref D) C (.ok .next) s') :
    wpAny (model X.prog X.w) X.A (comprehension (.DictComp kx vx (⟨tg, iter, ifs, 0⟩ :: rest) scope pos) scope X.env pos' newDict false (eval iter X.env) use) Qf X.xe s := by
  have fr : ∀ y ∈ scope.names, y.2 = .free → ∃ c, X.env.cells.lookup y.1 = some c := fun y hy e => (ok.free y hy e).elim (fun k => I.ok.has _ (.inl k)) fun k => I.ok.has _ (.inr k)
  refine wpAny_comprehension_free (use := use) rfl hs (closure_ok fr) ok.kind (fun y hy e => by rw [ok.uniq y hy, e]) (thn (hi.run pins s σ H _ I h) fun xv s1 hx => thn hx fun itv s2 pe => ?_)
  obtain ⟨ia, fp, tn, J, H2, rfl, I2, T, st2, f2, q⟩ := pe
  refine wpAny_newObj_type (newEnv_comp ?_)
  obtain ⟨W, ⟨m0, w0⟩, turn⟩ := q s2.heap.objs.size (I2.hok.fresh (Nat.le_refl _))
  generalize eH3 : upd H2 s2.heap.objs.size u0 = H3 at w0
  generalize es3 : ({ s2 with heap := s2.heap.push { cls := .type "dict", data := .dict #[] } } : Shared) = s3
  have k3 : ∀ b o, s2.heap.get? b = some o → s3.heap.get? b = some o := fun b o e => by rw [← es3]; exact Heap.get?_push_of_some _ e
  have I3 : Inv X pins σ H3 s3 := by
    rw [← es3, ← eH3]
    exact I2.laid (t' := s2.toks) (fun b o e => Heap.get?_push_of_some _ e) (Nat.le_refl _) (h0 _ _ I2.big)
  have sz3 : s3.heap.objs.size = s2.heap.objs.size + 1 := by rw [← es3]; exact Heap.size_push _ _
  have low : ∀ b ∈ fp, b < s2.heap.objs.size := fun b hb => by
    obtain ⟨o, e, _⟩ := T.obj _ _ st2 b hb
    exact Heap.lt_size e
  have f3 : ∀ b ∈ fp, FpOk X pins H3 b ∧ b < s3.heap.objs.size := fun b hb => ⟨⟨by rw [← eH3, upd_ne (Nat.ne_of_lt (low b hb))]; exact (f2 b hb).1, (f2 b hb).2⟩, by rw [sz3]; exact Nat.lt_succ_of_lt (low b hb)⟩
  have st3 : tn 0 s3.heap := T.keep _ _ _ st2 fun b _ o e => k3 b o e
  have I4 := block_start I3 ok hN f3
  show codeAny _ _ (.compStart (.DictComp kx vx (⟨tg, iter, ifs, 0⟩ :: rest) scope pos) 0 (.ref ia) (.ref s2.heap.objs.size) (compEnvC scope (cellsFrom (s3.heap.objs.size + 1) scope.names (cloFrom X.env.cells scope.names [])) s3.heap.objs.size X.env)) _ { s3 with heap := pushCells (s3.heap.push { cls := .type "dict", data := .dict #[] }) scope.names }
  generalize ecl : cellsFrom (s3.heap.objs.size + 1) scope.names (cloFrom X.env.cells scope.names []) = cl at I4 ⊢
  have hg' := hg s3 H3 s3.heap.objs.size cl fp
  have ht' := ht s3 H3 s3.heap.objs.size cl fp
  have hb' := hb s3 H3 s3.heap.objs.size cl fp s2.heap.objs.size
  generalize es4 : ({ s3 with heap := pushCells (s3.heap.push { cls := .type "dict", data := .dict #[] }) scope.names } : Shared) = s4 at I4 ⊢
  have st4 : tn 0 s4.heap := T.keep _ _ _ st3 fun b _ o e => by rw [← es4]; exact pushCells_keeps _ _ _ _ (Heap.get?_push_of_some _ e)
  have loop : codeAny (model X.prog X.w) X.A (.compLoop (.DictComp kx vx (⟨tg, iter, ifs, 0⟩ :: rest) scope pos) 0 (.ref ia) (.ref s2.heap.objs.size) (compEnvC scope cl s3.heap.objs.size X.env)) (compPost (model X.prog X.w) X.A X.xe use Qf (.ref s2.heap.objs.size) s3.heap.objs.size) s4 := by
    refine b_loop (Y := X.blk s3 H3 scope (compEnvC scope cl s3.heap.objs.size X.env) fp) (pins := []) (vs := own.map (·.2)) (σb := σ) (Done := Q (.ref s2.heap.objs.size)) hc rfl T (eq _ _ _) (hbk _ _) (hm _ _) hg' ht' (fun pl s σ2 H Nx I' hw q => hb' pl s σ σ2 H Nx I' hw q) (fun {σ' H' s'} I' hn b hb => ?_) turn (fun s' H' I' dn => ?_) I4 st4 (fun b hb => (f3 b hb).1.1) w0
    · exact ⟨hn b hb, (I'.ok.exf b hb).1, I'.ok.exfs b hb, .inl hb, fun x c e => (I'.ok.exf b hb).2 x c e, fun p hp => absurd (show p ∈ ([] : List (Addr × Obj)) ++ [] from hp) (by simp)⟩
    · have I7 : Inv X pins σ H' s' := I3.call' (ch := fp) I'.os I'.base I'.hok I'.bare fun b hb => ⟨(f3 b hb).1.2.2.2.1, (f3 b hb).1.2.1, (f3 b hb).1.2.2.2.2.1, (f3 b hb).1.2.2.2.2.2⟩
      have nC : H' s3.heap.objs.size = none := I'.free
      obtain ⟨m, hn, _⟩ := I'.loc
      exact hRR _ _ s' m H' I7 dn hn (I3.fpOk (Nat.le_refl _) nC)
  exact codeAny_compStart_dict loop (T.self X.A 0 _ _ _ st4 loop)
theorem pe_dcG (hc : X.calm = true) (hN : X.N.Nodup) (hi : PI X tg iter wi) (ok : BlkOk X.N X.env.scope scope own) (eq : ∀ (D : Addr) (it : Value) (env : Env), TurnIs (.DictComp kx vx (⟨tg, iter, ifs, 0⟩ :: rest) scope pos) 0 tg iter ifs it (.ref D) env (bk D env))
    (hbk : ∀ (D : Addr) (env : Env) (P : Shared → Prop) (k : Sem Fin) (Q : Fin → Shared → Prop) (E' : Value → Shared → Prop) (s : Shared), Wsh D env P s → (∀ s', P s' → wpAny (model X.prog X.w) X.A k Q E' s') → wpAny (model X.prog X.w) X.A (bk D env k) Q E' s)
    (hm : ∀ (D : Addr) (env : Env) (P P' : Shared → Prop) (s : Shared), (∀ s', P s' → P' s') → Wsh D env P s → Wsh D env P' s)
    (hg : ∀ (s : Shared) (H : Hp) (C : Addr) (cl : List (Str × Addr)) (fp : List Addr), PG (X.blk s H scope (compEnvC scope cl C X.env) fp) tg g) (ht : ∀ (s : Shared) (H : Hp) (C : Addr) (cl : List (Str × Addr)) (fp : List Addr), PTs (X.blk s H scope (compEnvC scope cl C X.env) fp) ifs tt)
    (hb : ∀ (s0 : Shared) (H0 : Hp) (C : Addr) (cl : List (Str × Addr)) (fp : List Addr) (D : Addr) (pl : List (Addr × Obj)) (s : Shared) (σb σ2 : L2.St) (H : Hp) (Nx : Hp → Prop), Inv (X.blk s0 H0 scope (compEnvC scope cl C X.env) fp) pl σ2 H s → wipe σ2 (own.map (·.2)) = wipe σb (own.map (·.2)) → tb D σ2 H Nx →
      Wsh D (compEnvC scope cl C X.env) (fun s' => ∃ σ3 H', Inv (X.blk s0 H0 scope (compEnvC scope cl C X.env) fp) pl σ3 H' s' ∧ σ3.length = σ2.length ∧ (∀ (j : Nat) v, (wipe σb (own.map (·.2)))[j]? = some (some v) → σ3[j]? = some (some v)) ∧ Nx H') s)
    (h0 : ∀ (H : Hp) (h : Heap), sysModules < h.objs.size → ObjOk X.prog X.w H (h.push { cls := .type "dict", data := .dict #[] }) h.objs.size u0) (hs : ∀ x, foldedSetIterable iter X.env x = pure x := by intro _; rfl) :
    PE X (.DictComp kx vx (⟨tg, iter, ifs, 0⟩ :: rest) scope pos) (tDcG u0 wi g tt tb (own.map (·.2))) := by
  refine ⟨fun pins s σ H Q I h => ?_⟩
  rw [arm_eval_DictComp]
  refine dcG_core (bk := bk) (Wsh := Wsh) hc hN hi ok eq hbk hm hg ht hb h0 hs I h fun D C s' m H' I' q hn f => ⟨m, hn, fun h'' sb => ?_⟩
  obtain ⟨f0, f1, f2, f3, f4, f5⟩ := f
  exact ⟨.ref D, H', I'.turned (t' := s'.toks) (fun b o hb e => (sb.2 b hb).trans e) f0 f1 f3 f4 f5, rfl, q⟩
theorem ps_setDcG {i : Nat} {y : Str} {py spos : Pos} (hy : X.N[i]? = some y) (hyl : X.env.scope.names.lookup y = some .local) (hsw : swapsWith (.DictComp kx vx (⟨tg, iter, ifs, 0⟩ :: rest) scope pos) (some (.Name y py)) spos.line X.env = pure true) (hc : X.calm = true) (hN : X.N.Nodup) (hi : PI X tg iter wi) (ok : BlkOk X.N X.env.scope scope own) (eq : ∀ (D : Addr) (it : Value) (env : Env), TurnIs (.DictComp kx vx (⟨tg, iter, ifs, 0⟩ :: rest) scope pos) 0 tg iter ifs it (.ref D) env (bk D env))
    (hbk : ∀ (D : Addr) (env : Env) (P : Shared → Prop) (k : Sem Fin) (Q : Fin → Shared → Prop) (E' : Value → Shared → Prop) (s : Shared), Wsh D env P s → (∀ s', P s' → wpAny (model X.prog X.w) X.A k Q E' s') → wpAny (model X.prog X.w) X.A (bk D env k) Q E' s)
    (hm : ∀ (D : Addr) (env : Env) (P P' : Shared → Prop) (s : Shared), (∀ s', P s' → P' s') → Wsh D env P s → Wsh D env P' s)
    (hg : ∀ (s : Shared) (H : Hp) (C : Addr) (cl : List (Str × Addr)) (fp : List Addr), PG (X.blk s H scope (compEnvC scope cl C X.env) fp) tg g) (ht : ∀ (s : Shared) (H : Hp) (C : Addr) (cl : List (Str × Addr)) (fp : List Addr), PTs (X.blk s H scope (compEnvC scope cl C X.env) fp) ifs tt)
    (hb : ∀ (s0 : Shared) (H0 : Hp) (C : Addr) (cl : List (Str × Addr)) (fp : List Addr) (D : Addr) (pl : List (Addr × Obj)) (s : Shared) (σb σ2 : L2.St) (H : Hp) (Nx : Hp → Prop), Inv (X.blk s0 H0 scope (compEnvC scope cl C X.env) fp) pl σ2 H s → wipe σ2 (own.map (·.2)) = wipe σb (own.map (·.2)) → tb D σ2 H Nx →
      Wsh D (compEnvC scope cl C X.env) (fun s' => ∃ σ3 H', Inv (X.blk s0 H0 scope (compEnvC scope cl C X.env) fp) pl σ3 H' s' ∧ σ3.length = σ2.length ∧ (∀ (j : Nat) v, (wipe σb (own.map (·.2)))[j]? = some (some v) → σ3[j]? = some (some v)) ∧ Nx H') s)
    (h0 : ∀ (H : Hp) (h : Heap), sysModules < h.objs.size → ObjOk X.prog X.w H (h.push { cls := .type "dict", data := .dict #[] }) h.objs.size u0) (hs : ∀ x, foldedSetIterable iter X.env x = pure x) :
    PS X (.Assign [.Name y py] (.DictComp kx vx (⟨tg, iter, ifs, 0⟩ :: rest) scope pos) spos) (tAsg (tDcG u0 wi g tt tb (own.map (·.2))) (gName i)) := by
  refine ⟨fun pins s σ H D I h => ?_⟩
  rw [exec_Assign_Name_used _ _ _ _ hsw]
  refine wpAny_bind (wpAny_standAt (wpAny_bind ?_))
  show wpAny _ X.A (do let _ ← comprehension (.DictComp kx vx (⟨tg, iter, ifs, 0⟩ :: rest) scope pos) scope X.env (firstIterPos (⟨tg, iter, ifs, 0⟩ :: rest) pos) newDict false (eval iter X.env) (some (assign (.Name y py) X.env))) _ _ s
  have hq : tDcG u0 wi g tt tb (own.map (·.2)) σ H (fun x H1 => gName i x σ H1 D.nx) := h
  refine wpAny_bind (thn (dcG_core (bk := bk) (Wsh := Wsh) (Qf := fun _ s' => SP X pins D .next s') hc hN hi ok eq hbk hm hg ht hb h0 hs I hq fun L C s' m H' I' q hn f => ?_) fun _ s' z => wpAny_pure (wpAny_pure z))
  show wpAny _ _ (assign (.Name y py) X.env (.ref L)) _ _ _
  obtain ⟨f0, f1, f2, f3, f4, f5⟩ := f
  refine wpAny_assign_Name (store_ok2 (v := V.ref L) I' hN hy (.inl hyl) rfl (fun s2 I2 ⟨a, sb, ha⟩ => ?_) (.inr hyl))
  have ne : C ≠ a := ha.elim (fun z => by rw [z]; exact f1) fun z e => f4 y a z e.symm
  exact ⟨m, hn.sameBut sb ne, fun h3 sb3 => ⟨_, H', I2.turned (t' := s2.toks) (fun b o hb e => (sb3.2 b hb).trans e) f0 f1 f3 f4 f5, q⟩⟩
end
def dGL {α : Type} (tg : TGD) (tt : TB) (body : α → DE → CH → R α) (ρ0 : DE) : α → List D → CH → R α
  | acc, [], h => .ok acc h
  | acc, d :: r, h => (tg d ρ0 h).calm fun ρ2 h => (tt ρ2 h).calm fun b h => if b = true then (body acc ρ2 h).calm fun acc h => dGL tg tt body ρ0 acc r h else dGL tg tt body ρ0 acc r h
section
variable {K : PySem.W.Frag} {CA : CAs} {α : Type}
theorem so_sc {a : Addr} {m m2 : Mp} {h h2 : CH} {H H2 : Hp} {σ : L2.St} {ρ : DE} (S : SO K CA m h H σ ρ) (s : Sc a m h H m2 h2 H2) (S2 : HR K CA m2 h2 H2) : SO K CA m2 h2 H2 σ ρ :=
  ⟨S2, S.len, fun j d e => let ⟨v, e1, q⟩ := S.sl j d e; ⟨v, e1, q.mv s.toMv⟩⟩
def Moves (RA : Addr → α → Mp → CH → Hp → Prop) : Prop := ∀ (a : Addr) (x : α) (m : Mp) (h : CH) (H : Hp) (m' : Mp) (h' : CH) (H' : Hp), RA a x m h H → Stp m h H m' h' H' → a ∈ m.z → RA a x m' h' H'
def SimB (K : PySem.W.Frag) (CA : CAs) (RA : Addr → α → Mp → CH → Hp → Prop) (tb : Addr → L2.St → Hp → (Hp → Prop) → Prop) (body : α → DE → CH → R α) : Prop :=
  ∀ (a : Addr) (m : Mp) (h : CH) (H : Hp) (σ : L2.St) (ρ : DE) (x : α) (Nx : Hp → Prop), SO K CA m h H σ ρ → a ∈ m.z → RA a x m h H → PB K CA a m h H (fun y m' h' H' => RA a y m' h' H' → Nx H') (body x ρ h) → tb a σ H Nx
variable {RA : Addr → α → Mp → CH → Hp → Prop} {tb : Addr → L2.St → Hp → (Hp → Prop) → Prop} {body : α → DE → CH → R α} {gH : TG} {tg : TGD} {hT : TT} {tt : TB} {vs sl : List Nat} {J : It} {ds : List D} {m0 m1 : Mp} {h0 h1 : CH} {H0 H1 : Hp} {σ : L2.St} {ρ : DE} {a : Addr} {x : α} {Done : Hp → Prop}
theorem loop_sim (hg : SimG K CA sl gH tg) (ht : SimT K CA W0 hT tt) (hb : SimB K CA RA tb body) (mv : Moves RA) (ho : ∀ j, j ∈ sl → j ∈ vs) (wk : Wk K CA m0 h0 H0 J ds) (sz : Sz m0 h0 H0 m1 h1 H1) (S : SO K CA m1 h1 H1 σ ρ) (pz : a ∈ m1.z) (ra : RA a x m1 h1 H1)
    (fin : PB K CA a m1 h1 H1 (fun y m' h' H' => RA a y m' h' H' → Done H') (dGL tg tt body (wipeD ρ vs) x ds h1)) :
    ∃ W : Nat → Nat → Hp → Prop, (∃ n, W 0 n H1) ∧ ∀ i n H, W i n H → (J.stop i H ∧ Done H) ∨ (J.go i H ∧ ∃ Nx : Hp → Prop, (∀ H', Nx H' → ∃ n', n' < n ∧ W (i + 1) n' H') ∧ ∀ v H', J.yld i H v H' → gH v (wipe σ vs) H' fun σ2 H2 => wipe σ2 vs = wipe σ vs ∧ hT σ2 H2 fun b H3 => if b = true then tb a σ2 H3 Nx else Nx H3) := by
  refine ⟨fun i n H' => n + i = ds.length ∧ ∃ y m' h', Sc a m1 h1 H1 m' h' H' ∧ SO K CA m' h' H' σ ρ ∧ RA a y m' h' H' ∧ PB K CA a m' h' H' (fun y m' h' H' => RA a y m' h' H' → Done H') (dGL tg tt body (wipeD ρ vs) y (ds.drop i) h'), ⟨ds.length, rfl, x, m1, h1, Stp.sc .refl, S, ra, fin⟩, ?_⟩
  rintro i n H' ⟨hn, y, m', h', st, S', ra', q⟩
  have sz' := sz.trans st.toSz
  have pz' : a ∈ m'.z := by rw [st.z]; exact pz
  cases hd : ds[i]? with
  | none =>
    have hl : ds.length ≤ i := List.getElem?_eq_none_iff.mp hd
    obtain rfl : i = ds.length := by omega
    rw [List.drop_length] at q
    exact .inl ⟨wk.stop m' h' H' sz' S'.hr, q m' H' (Stp.sc .refl) S'.hr ra'⟩
  | some d =>
    obtain ⟨hlt, ed⟩ := List.getElem?_eq_some_iff.mp hd
    rw [List.drop_eq_getElem_cons hlt, ed] at q
    obtain ⟨go, yl⟩ := wk.go i m' h' H' d sz' S'.hr hd
    refine .inr ⟨go, fun H3 => ∃ y m' h', Sc a m1 h1 H1 m' h' H3 ∧ SO K CA m' h' H3 σ ρ ∧ RA a y m' h' H3 ∧ PB K CA a m' h' H3 (fun y m' h' H' => RA a y m' h' H' → Done H') (dGL tg tt body (wipeD ρ vs) y (ds.drop (i + 1)) h'), fun H3 n3 => ⟨n - 1, by omega, by omega, n3⟩, fun v H2 y2 => ?_⟩
    obtain ⟨gr, r2⟩ := yl v H2 y2
    have a2 := stp_grow S'.hr gr
    have S3 := S'.move a2 (S'.hr.grow gr)
    have st3 := st.trans (a2.sc (p := a))
    have ra3 := mv _ _ _ _ _ _ _ _ ra' a2 pz'
    have q3 := q.base (a2.sc (p := a))
    have wip : wipe (wipe σ vs) vs = wipe σ vs := wipe_eq (wipe_length _ _) fun j hj => wipe_at hj
    refine hg m' h' H2 (wipe σ vs) (wipeD ρ vs) v d _ (S3.wiped vs) r2 ?_
    unfold dGL at q3
    obtain ⟨ρ2, h4, eg, q4⟩ := q3.calm
    rw [eg]
    intro m4 σ4 H4 s4 S4 hl4 hn4
    refine ⟨(wipe_eq hl4 fun j hj => hn4 j fun z => hj (ho j z)).trans wip, ht m4 h4 H4 σ4 ρ2 _ S4 ?_⟩
    obtain ⟨b, h5, et, q5⟩ := (q4.base (s4.sc (p := a))).calm
    rw [et]
    have ra4 := mv _ _ _ _ _ _ _ _ ra3 s4 pz'
    have pz4 : a ∈ m4.z := by rw [s4.z]; exact pz'
    intro m5 b' H5 s5 S5 eb
    cases (show b' = b from eb)
    have ra5 := mv _ _ _ _ _ _ _ _ ra4 s5 pz4
    have pz5 : a ∈ m5.z := by rw [s5.z]; exact pz4
    have st5 := (st3.trans (s4.sc (p := a))).trans (s5.sc (p := a))
    have So5 := (S3.move s4 S4.hr).move s5 S5
    have q6 := q5.base (s5.sc (p := a))
    cases b with
    | false => exact ⟨y, m5, h5, st5, So5, ra5, q6⟩
    | true =>
      refine hb a m5 h5 H5 σ4 ρ2 y _ (S4.move s5 S5) pz5 ra5 ?_
      rw [if_pos rfl] at q6
      obtain ⟨y', h6, ee, q7⟩ := q6.calm
      rw [ee]
      exact fun m6 H6 s6 S6 ra6 => ⟨y', m6, h6, st5.trans s6, so_sc So5 s6 S6, ra6, q7.base s6⟩
end
section
variable {K : PySem.W.Frag} {CA : CAs}
def RK (K : PySem.W.Frag) (CA : CAs) : Addr → List (Key × D) → Mp → CH → Hp → Prop := fun a acc m h H => ∃ kv, H a = some (.dK kv) ∧ kv.map (·.1) = acc.map (·.1) ∧ RpAll K CA m h H (kv.map (·.2)) (acc.map (·.2))
def RT (K : PySem.W.Frag) (CA : CAs) : Addr → List (List Key × D) → Mp → CH → Hp → Prop := fun a acc m h H => ∃ kv, H a = some (.dT kv) ∧ kv.map (·.1) = acc.map (·.1) ∧ RpAll K CA m h H (kv.map (·.2)) (acc.map (·.2))
theorem mv_RK : Moves (RK K CA) := fun a x m h H m' h' H' ⟨kv, e, en, r⟩ s z => ⟨kv, (s.zk a z).trans e, en, r.move s⟩
theorem mv_RT : Moves (RT K CA) := fun a x m h H m' h' H' ⟨kv, e, en, r⟩ s z => ⟨kv, (s.zk a z).trans e, en, r.move s⟩
def bK (tk tv : TD) : List (Key × D) → DE → CH → R (List (Key × D)) := fun acc ρ h => (tk ρ h).calm fun y h => (tv ρ h).calm fun z h => match keyD y with
  | some k => if acc.length < sizeLine then .ok (dPut acc k z) h else .no
  | none => .no
def tbK (hk hv : TE) : Addr → L2.St → Hp → (Hp → Prop) → Prop := fun a σ H Nx => hk σ H fun y H4 => hv σ H4 fun z H5 => ∃ kvs k, y = kV k ∧ H5 a = some (.dK kvs) ∧ kvs.length < sizeLine ∧ Nx (upd H5 a (.dK (putK kvs k z)))
variable {hk hv : TE} {tk tv : TD} {hs : TA} {ts : TDs}
theorem sim_bK (sk : SimE K CA W0 hk tk) (sv : SimE K CA W0 hv tv) : SimB K CA (RK K CA) (tbK hk hv) (bK tk tv) := fun a m h H σ ρ acc Nx S pz ra q => by
  unfold bK at q
  obtain ⟨y, h1, e1, q1⟩ := q.calm
  refine sk m h H σ ρ _ S ?_
  rw [e1]
  intro m1 v1 H1 s1 S1 r1
  obtain ⟨z, h2, e2, q2⟩ := (q1.base (s1.sc (p := a))).calm
  refine sv m1 h1 H1 σ ρ _ (S.move s1 S1) ?_
  rw [e2]
  intro m2 v2 H2 s2 S2 r2
  have q3 := q2.base (s2.sc (p := a))
  have pz1 : a ∈ m1.z := by rw [s1.z]; exact pz
  have pz2 : a ∈ m2.z := by rw [s2.z]; exact pz1
  obtain ⟨kv, ea, en, rr⟩ := mv_RK _ _ _ _ _ _ _ _ (mv_RK _ _ _ _ _ _ _ _ ra s1 pz) s2 pz1
  split at q3
  · rename_i k ek
    by_cases hz : acc.length < sizeLine
    · rw [if_pos hz] at q3
      have ey := rp_key r1 ek
      obtain ⟨en', rr'⟩ := rp_dput (k := k) en rr r2
      have sm := sc_made (u := .dK (putK kv k v2)) S2 pz2
      exact ⟨kv, k, ey, ea, by rw [len_of en]; exact hz, q3 _ _ sm (S2.made pz2) ⟨_, upd_same, en', rr'.mv sm.toMv⟩⟩
    · rw [if_neg hz] at q3
      exact q3.elim
  · exact q3.elim
def bT (ts : TDs) (tv : TD) : List (List Key × D) → DE → CH → R (List (List Key × D)) := fun acc ρ h => (ts ρ h).calm fun ds h => (tv ρ h).calm fun z h => match keysL ds with
  | some ks => if ds.length ≤ sizeLine ∧ acc.length < sizeLine then .ok (dPutT acc ks z) h else .no
  | none => .no
def tbT (hs : TA) (hv : TE) : Addr → L2.St → Hp → (Hp → Prop) → Prop := fun a σ H Nx => L2.tTup hs σ H fun y H4 => hv σ H4 fun z H5 => ∃ kvs k b, y = .ref b ∧ H5 b = some (.tup (k.map kV)) ∧ H5 a = some (.dT kvs) ∧ kvs.length < sizeLine ∧ Nx (upd H5 a (.dT (putK kvs k z)))
theorem lk_tup {vs : List V} {o : HO} (l : Lk (.tup vs) o) : o = .tup vs := by
  rcases l with e | ⟨ob, kvs, e, _⟩ | ⟨ps, qs, e, _⟩
  · exact e
  · rcases e with e | e <;> cases e
  · cases e
theorem sim_bT (sk : SimA K CA W0 hs ts) (sv : SimE K CA W0 hv tv) : SimB K CA (RT K CA) (tbT hs hv) (bT ts tv) := fun a m h H σ ρ acc Nx S pz ra q => by
  unfold bT at q
  obtain ⟨ds, h1, e1, q1⟩ := q.calm
  refine sk m h H σ ρ _ S ?_
  rw [e1]
  intro m1 vs H1 s1 S1 r1
  have q1 := q1.base (s1.sc (p := a))
  have lz : ds.length ≤ sizeLine := by
    obtain ⟨z, h2, _, q2⟩ := q1.calm
    split at q2
    · by_cases c : ds.length ≤ sizeLine ∧ acc.length < sizeLine
      · exact c.1
      · rw [if_neg c] at q2; exact q2.elim
    · exact q2.elim
  refine ⟨by rw [r1.length]; exact lz, fun p n => ?_⟩
  have sL := stp_laid (u := .tup vs) S1 n
  have SL := S1.laid (u := .tup vs) n
  obtain ⟨z, h2, e2, q2⟩ := (q1.base (sL.sc (p := a))).calm
  refine sv m1 h1 _ σ ρ _ ((S.move s1 S1).move sL SL) ?_
  rw [e2]
  intro m2 v2 H2 s2 S2 r2
  have q3 := q2.base (s2.sc (p := a))
  have pz1 : a ∈ m1.z := by rw [s1.z]; exact pz
  have pz2 : a ∈ m2.z := by rw [s2.z]; exact pz1
  obtain ⟨kv, ea, en, rr⟩ := mv_RT _ _ _ _ _ _ _ _ (mv_RT _ _ _ _ _ _ _ _ (mv_RT _ _ _ _ _ _ _ _ ra s1 pz) sL pz1) s2 pz1
  obtain ⟨_, o', e3, lk⟩ := s2.kp p _ (S1.fresh n) upd_same trivial
  have e4 := lk_tup lk
  subst e4
  split at q3
  · rename_i ks ek
    by_cases hz : ds.length ≤ sizeLine ∧ acc.length < sizeLine
    · rw [if_pos hz] at q3
      have evs := rp_keysL r1 ek
      obtain ⟨en', rr'⟩ := rp_dputT (k := ks) en rr r2
      have sm := sc_made (u := .dT (putK kv ks v2)) S2 pz2
      have lx : kv.length = acc.length := by simpa using congrArg List.length en
      exact ⟨kv, ks, p, rfl, by rw [e3, evs], ea, by rw [lx]; exact hz.2, q3 _ _ sm (S2.made pz2) ⟨_, upd_same, en', rr'.mv sm.toMv⟩⟩
    · rw [if_neg hz] at q3
      exact q3.elim
  · exact q3.elim
end
section
variable {X : Cx} {pins : List (Addr × Obj)} {σ : L2.St} {H : Hp} {s : Shared} {E : Value → Shared → Prop} {a b : Addr} {kvs : List (List Key × V)} {k : List Key} {v : V} {r : Value} {Q : Unit → Shared → Prop}
theorem d_dictSetT (hu : X.A.units + 1 < cLine) (I : Inv X pins σ H s) (e : H a = some (.dT kvs)) (eb : H b = some (.tup (k.map kV))) (l : kvs.length < sizeLine) (rv : RelV v r) (h : ∀ s', Inv X pins σ (upd H a (.dT (putK kvs k v))) s' → Q () s') : wpAny (model X.prog X.w) X.A (dictSet a (.ref b) r) Q E s := by
  obtain ⟨z, hd, xs, rel, dd⟩ := dt_of I.hok e
  have hz : xs.length ≤ sizeLine := by rw [← Paired.length rel]; exact z
  have hl : (putK kvs k v).length ≤ sizeLine := by have := length_putK kvs k v; omega
  refine wpAny_dictSet_heap (hsz := hz) (show (tupleKind (mixKind X.prog X.w)).room X.A from Nat.lt_of_succ_lt hu) (key_of I.hok eb) dd fun h' dd' hs => h _ ?_
  obtain ⟨q, es, ep, hq, h2, h3, h4, _, h5⟩ := dd'
  refine d_write I (by rw [e]; exact True.intro) hs ⟨q, hq⟩ ⟨hl, hd, _, (rel.put k eb rv).keeps fun c ys ec => ?_, q, es, ep, hq, h2, h3, h4, h5⟩
  rw [upd_ne (ne_of ec e (fun z => nomatch z))]
  exact ec
end
section
variable {Y : Cx} {pl : List (Addr × Obj)} {σ2 σb : L2.St} {vs : List Nat} {H : Hp} {s : Shared} {Nx : Hp → Prop} {D : Addr} {kx vx : Expr} {hk hv : TE} {hs : TA} {es : List Expr} {x1 : Nat} {p2 : Pos}
theorem know_of (hw : wipe σ2 vs = wipe σb vs) : ∀ (j : Nat) v, (wipe σb vs)[j]? = some (some v) → σ2[j]? = some (some v) := fun j v e => (wipe_some (vs := vs) (by rw [hw]; exact e)).1
theorem put_K (hx : Y.xe = NoE) (pk : PE Y kx hk) (pv : PE Y vx hv) (I : Inv Y pl σ2 H s) (hw : wipe σ2 vs = wipe σb vs) (q : tbK hk hv D σ2 H Nx) :
    wPut Y.prog Y.w Y.A kx vx D Y.env (fun s' => ∃ σ3 H', Inv Y pl σ3 H' s' ∧ σ3.length = σ2.length ∧ (∀ (j : Nat) v, (wipe σb vs)[j]? = some (some v) → σ3[j]? = some (some v)) ∧ Nx H') s := by
  have h1 := pk.run pl s σ2 H _ I q
  rw [hx] at h1
  refine wpAny_mono h1 (fun kv s1 z => ?_) (fun _ _ z => z)
  obtain ⟨y, H1, I1, r1, q1⟩ := z
  have h2 := pv.run pl s1 σ2 H1 _ I1 q1
  rw [hx] at h2
  refine wpAny_mono h2 (fun vv s2 z => ?_) (fun _ _ z => z)
  obtain ⟨y2, H2, I2, r2, kvs, k, ek, e, hz, nx⟩ := z
  subst ek
  exact d_dictSet I2 e hz r1 r2 fun s3 I3 => ⟨σ2, _, I3, rfl, know_of hw, nx⟩
theorem put_T (hu : Y.A.units + 1 < cLine) (hx : Y.xe = NoE) (pk : PA Y es hs) (pv : PE Y vx hv) (I : Inv Y pl σ2 H s) (hw : wipe σ2 vs = wipe σb vs) (q : tbT hs hv D σ2 H Nx) :
    wPut Y.prog Y.w Y.A (.Tuple es x1 p2) vx D Y.env (fun s' => ∃ σ3 H', Inv Y pl σ3 H' s' ∧ σ3.length = σ2.length ∧ (∀ (j : Nat) v, (wipe σb vs)[j]? = some (some v) → σ3[j]? = some (some v)) ∧ Nx H') s := by
  have h1 := (pe_tup (x1 := x1) (pos := p2) pk).run pl s σ2 H _ I q
  rw [hx] at h1
  refine wpAny_mono h1 (fun kv s1 z => ?_) (fun _ _ z => z)
  obtain ⟨y, H1, I1, r1, q1⟩ := z
  have h2 := pv.run pl s1 σ2 H1 _ I1 q1
  rw [hx] at h2
  refine wpAny_mono h2 (fun vv s2 z => ?_) (fun _ _ z => z)
  obtain ⟨y2, H2, I2, r2, kvs, k, b, ek, eb, e, hz, nx⟩ := z
  subst ek
  obtain rfl : kv = Value.ref b := r1
  exact d_dictSetT hu I2 e eb hz r2 fun s3 I3 => ⟨σ2, _, I3, rfl, know_of hw, nx⟩
theorem wPut_mono {P : Program} {w : World} {A : Around} {env : Env} (P1 P2 : Shared → Prop) (s : Shared) (h : ∀ s', P1 s' → P2 s') (x : wPut P w A kx vx D env P1 s) : wPut P w A kx vx D env P2 s :=
  wpAny_mono x (fun _ _ z => wpAny_mono z (fun _ _ z => wpAny_mono z (fun _ _ z => h _ z) fun _ _ z => z) fun _ _ z => z) fun _ _ z => z
theorem wOut_mono {P : Program} {w : World} {A : Around} {E iter : Expr} {env : Env} (P1 P2 : Shared → Prop) (s : Shared) (h : ∀ s', P1 s' → P2 s') (x : wOut P w A E iter D env P1 s) : wOut P w A E iter D env P2 s :=
  wpAny_mono x (fun _ _ z => wpAny_mono z (fun _ _ z => codeAny_mono z fun r s' q => by
    cases r with
    | ok f => exact h _ q
    | error e => exact q) fun _ _ z => z) fun _ _ z => z
end
def tb2 (wi : TI) (g : TG) (tt : TT) (hk hv : TE) (vs1 : List Nat) : Addr → L2.St → Hp → (Hp → Prop) → Prop := fun a σ H Nx => wi σ H fun J H4 => ∃ W : Nat → Nat → Hp → Prop, (∃ m, W 0 m H4) ∧ ∀ j k H, W j k H →
  (J.stop j H ∧ Nx H) ∨ (J.go j H ∧ ∃ Nx1 : Hp → Prop, (∀ H', Nx1 H' → ∃ k', k' < k ∧ W (j + 1) k' H') ∧ ∀ x H', J.yld j H x H' → g x (wipe σ vs1) H' fun σ3 H5 => wipe σ3 vs1 = wipe σ vs1 ∧ tt σ3 H5 fun b H6 => if b = true then tbK hk hv a σ3 H6 Nx1 else Nx1 H6)
section
variable {Y : Cx} {pl : List (Addr × Obj)} {σ2 σb : L2.St} {vs vs1 : List Nat} {H : Hp} {s : Shared} {Nx : Hp → Prop} {D : Addr} {kx vx t0 i0 tg iter : Expr} {ifs0 ifs : List Expr} {scope : Scope} {pos : Pos} {hk hv : TE} {wi : TI} {g : TG} {tt : TT}
theorem out_K (hc : Y.calm = true) (hx : Y.xe = NoE) (hi : PI Y tg iter wi) (pg : PG Y tg g) (pt : PTs Y ifs tt) (pk : PE Y kx hk) (pv : PE Y vx hv) (hv1 : ∀ i ∈ vs1, i ∈ vs) (I : Inv Y pl σ2 H s) (hw : wipe σ2 vs = wipe σb vs) (q : tb2 wi g tt hk hv vs1 D σ2 H Nx) :
    wOut Y.prog Y.w Y.A (.DictComp kx vx [⟨t0, i0, ifs0, 0⟩, ⟨tg, iter, ifs, 0⟩] scope pos) iter D Y.env (fun s' => ∃ σ3 H', Inv Y pl σ3 H' s' ∧ σ3.length = σ2.length ∧ (∀ (j : Nat) v, (wipe σb vs)[j]? = some (some v) → σ3[j]? = some (some v)) ∧ Nx H') s := by
  have h1 := hi.run pl s σ2 H _ I q
  rw [hx] at h1
  refine wpAny_mono h1 (fun xv s1 z => wpAny_mono z (fun itv s2 pe => ?_) fun _ _ z => z) (fun _ _ z => z)
  obtain ⟨ia, fp, tn, J, H1, rfl, I1, T, st, f, W, ⟨m, w0⟩, turn⟩ := pe
  have kn : ∀ (j : Nat) v, (wipe σb vs)[j]? = some (some v) → (wipe σ2 vs1)[j]? = some (some v) := fun j v e => by
    rw [← hw] at e
    obtain ⟨e1, e2⟩ := wipe_some e
    rw [wipe_out fun z => e2 (hv1 j z)]
    exact e1
  have loop : codeAny (model Y.prog Y.w) Y.A (.compLoop (.DictComp kx vx [⟨t0, i0, ifs0, 0⟩, ⟨tg, iter, ifs, 0⟩] scope pos) 1 (.ref ia) (.ref D) Y.env) (fun r s' => match r with
      | .ok _ => ∃ σ3 H', Inv Y pl σ3 H' s' ∧ σ3.length = σ2.length ∧ (∀ (j : Nat) v, (wipe σb vs)[j]? = some (some v) → σ3[j]? = some (some v)) ∧ Nx H'
      | .error _ => False) s2 :=
    b_loop (Y := Y) (pins := pl) (σb := σ2) (vs := vs1) (Done := Nx) hc hx T turn_in bk_put wPut_mono pg pt (fun pl s σ3 H Nx I hw q => put_K hx pk pv I hw q) (fun {σ' H' s'} I' hn b hb => ⟨hn b hb, (f b hb).2⟩) turn
      (fun s' H' I' nx => ⟨_, H', I', wipe_length _ _, kn, nx⟩) (I1.weak (wipe_length _ _) fun j v e => (wipe_some e).1) st (fun b hb => (f b hb).1) w0
  exact c_start1 loop (T.self Y.A 0 _ _ _ st loop)
end
theorem calm_ex {α β : Type} {r : R α} {k : α → CH → R β} {c : Nat} {fs : List (Str × D)} {h : CH} (e : r.calm k = .ex c fs h) : ∃ b h', r = .ok b h' ∧ k b h' = .ex c fs h := by
  cases r with
  | ok b h' => exact ⟨b, h', rfl, e⟩
  | ex => cases e
  | no => cases e
theorem dGL_noex {α : Type} {tg : TGD} {tt : TB} {body : α → DE → CH → R α} {ρ0 : DE} {c : Nat} {fs : List (Str × D)} {h' : CH} : ∀ {ds : List D} {x : α} {h : CH}, dGL tg tt body ρ0 x ds h ≠ .ex c fs h'
  | [], x, h => fun z => nomatch z
  | d :: r, x, h => fun z => by
    unfold dGL at z
    obtain ⟨ρ2, h2, _, z⟩ := calm_ex z
    obtain ⟨b, h3, _, z⟩ := calm_ex z
    cases b with
    | true =>
      rw [if_pos rfl] at z
      obtain ⟨y, h4, _, z⟩ := calm_ex z
      exact dGL_noex z
    | false =>
      rw [if_neg Bool.false_ne_true] at z
      exact dGL_noex z
def b2 (ti : TDw) (tg : TGD) (tt : TB) (tk tv : TD) (vs1 : List Nat) : List (Key × D) → DE → CH → R (List (Key × D)) := fun acc ρ h => (ti ρ h).calm fun w h => match w.2 with
  | none => dGL tg tt (bK tk tv) (wipeD ρ vs1) acc w.1 h
  | some _ => .no
section
variable {X : Cx} {K : PySem.W.Frag} {CA : CAs} {W : WX} {H0 : Hp}
theorem sim_b2 {ti : TDw} {tg : TGD} {tt : TB} {tk tv : TD} {vs1 sl : List Nat} {wi : TI} {g : TG} {hT : TT} {hk hv : TE} (hi : SimI K CA W0 H0 wi ti) (hg : SimG K CA sl g tg) (ht : SimT K CA W0 hT tt) (sk : SimE K CA W0 hk tk) (sv : SimE K CA W0 hv tv) (ho : ∀ j, j ∈ sl → j ∈ vs1) :
    SimB K CA (RK K CA) (tb2 wi g hT hk hv vs1) (b2 ti tg tt tk tv vs1) := fun a m h H σ ρ acc Nx S pz ra q => by
  unfold b2 at q
  obtain ⟨w, h1, e1, q1⟩ := q.calm
  refine hi m h H σ ρ _ S ?_
  rw [e1]
  intro m1 J H1 s1 S1 wk uo
  split at q1
  · have q2 := q1.base (s1.sc (p := a))
    exact loop_sim hg ht (sim_bK sk sv) mv_RK ho wk Stp.refl.toSz (S.move s1 S1) (by rw [s1.z]; exact pz) (mv_RK _ _ _ _ _ _ _ _ ra s1 pz) q2
  · exact q1.elim
theorem sim_dcG {α : Type} {RA : Addr → α → Mp → CH → Hp → Prop} {tb : Addr → L2.St → Hp → (Hp → Prop) → Prop} {body : α → DE → CH → R α} {u0 : HO} {x0 : α} {mk : α → CH → R D} {gH : TG} {tg : TGD} {hT : TT} {tt : TB} {wH : TI} {ti : TDw} {vs sl : List Nat} (hi : SimI K CA W X.H_0 wH ti) (hg : SimG K CA sl gH tg) (ht : SimT K CA W0 hT tt)
    (hb : SimB K CA RA tb body) (mv : Moves RA) (ho : ∀ j, j ∈ sl → j ∈ vs) (nt : NTab u0) (r0 : ∀ (m : Mp) (h : CH) (H : Hp) (a : Addr), RA a x0 (m.add a) h (upd H a u0))
    (dn : ∀ {mb : Mp} {hb : CH} {Hb : Hp} {m1 : Mp} {h1 : CH} {H1 : Hp} {m2 : Mp} {h2 : CH} {H2 : Hp} {p : Addr} {un : Unl} {σ : L2.St} {Q1 : VK} {y : α}, Stp mb hb Hb m1 h1 H1 → HR K CA m1 h1 H1 → H1 p = none → Sc p (m1.add p) h1 (upd H1 p u0) m2 h2 H2 → HR K CA m2 h2 H2 → RA p y m2 h2 H2 → UnlOk K CA X.H_0 mb hb Hb m1 h1 H1 un →
      PostE K CA W mb hb Hb σ Q1 ((mk y h2).unl un) → UnlP X (Q1 (.ref p)) H2) :
    SimE K CA W (fun σ H Q => tDcG u0 wH gH hT tb vs σ H fun v => UnlP X (Q v)) (fun ρ h => (ti ρ h).bind fun w h => ((dGL tg tt body (wipeD ρ vs) x0 w.1 h).bind fun y h => mk y h).unl w.2) := by
  intro m h H σ ρ Q' S t
  refine hi m h H σ ρ _ S (PostI.bindE t fun w h1 m1 J H1 s1 S1 wk uo t1 => ?_)
  intro a n
  have S2 := S1.add (u := u0) n nt
  have So : SO K CA (m1.add a) h1 (upd H1 a u0) σ ρ := ⟨S2, S.len, fun i d e => let ⟨v, e1, q⟩ := (S.move s1 S1).sl i d e; ⟨v, e1, q.add n⟩⟩
  refine loop_sim hg ht hb mv ho wk (sz_add (u := u0) S1 n) So (List.mem_cons_self ..) (r0 _ _ _ _) ?_
  cases er : dGL tg tt body (wipeD ρ vs) x0 w.1 h1 with
  | ex c fs h2 => exact absurd er dGL_noex
  | no => rw [er] at t1; exact t1.elim
  | ok y h2 =>
    rw [er] at t1
    exact fun m2 H2 st S3 ra => dn s1 S1 n st S3 ra uo t1
end
def mkT (y : List (List Key × D)) (h : CH) : R D := .ok (.ref h.nx) (h.new (.dctT y))
def dDcT (ti : TDw) (tg : TGD) (tt : TB) (ts : TDs) (tv : TD) (vs : List Nat) : TD := fun ρ h => (ti ρ h).bind fun w h => ((dGL tg tt (bT ts tv) (wipeD ρ vs) [] w.1 h).bind fun y h => mkT y h).unl w.2
def dDc2 (nm : Bool) (ti : TDw) (tg : TGD) (tt : TB) (ti1 : TDw) (tg1 : TGD) (tt1 : TB) (tk tv : TD) (vs vs1 : List Nat) : TD := fun ρ h => (ti ρ h).bind fun w h => ((dGL tg tt (b2 ti1 tg1 tt1 tk tv vs1) (wipeD ρ vs) [] w.1 h).bind fun y h => mkD nm y h).unl w.2
section
variable {X : Cx} {K : PySem.W.Frag} {CA : CAs} {W : WX} {mb : Mp} {hb : CH} {Hb : Hp} {m1 : Mp} {h1 : CH} {H1 : Hp} {m2 : Mp} {h2 : CH} {H2 : Hp} {p : Addr} {un : Unl} {σ : L2.St}
theorem doneT {ds : List (List Key × D)} {Q1 : VK} {u : HO} (sb : Stp mb hb Hb m1 h1 H1) (S : HR K CA m1 h1 H1) (n : H1 p = none) (s : Sc p (m1.add p) h1 (upd H1 p u) m2 h2 H2) (S2 : HR K CA m2 h2 H2) (ra : RT K CA p ds m2 h2 H2) (uo : UnlOk K CA X.H_0 mb hb Hb m1 h1 H1 un) (t : PostE K CA W mb hb Hb σ Q1 ((mkT ds h2).unl un)) : UnlP X (Q1 (.ref p)) H2 := by
  obtain ⟨kv, e, en, r⟩ := ra
  have z2 : m2.z = p :: m1.z := s.z
  obtain ⟨s3, S3⟩ := done_named (o := .dctT ds) S n s S2 (.dctT e en (r.named S2 z2))
  refine unl_at sb uo s3 S3 fun H3 s4 S4 k => t _ _ H3 s4 S4 (k _ _ ?_)
  have q := Rp.ref (K := K) (CA := CA) (m := mpNew ⟨m2.f, m1.z⟩ h2 p) (h := h2.new (.dctT ds)) (H := H2) (k := h2.nx) (Nat.lt_succ_self _)
  rw [show (mpNew ⟨m2.f, m1.z⟩ h2 p) h2.nx = p from mpNew_nx] at q
  exact q
end
section
variable {X : Cx} {K : PySem.W.Frag} {CA : CAs} {W : WX} {kx vx tge iter tg1e iter1 : Expr} {ifs ifs1 : List Expr} {es : List Expr} {x1 : Nat} {pos p2 : Pos} {gH g1H : TG} {tg tg1 : TGD} {hT h1T : TT} {tt tt1 : TB} {hk hv : TE} {tk tv : TD} {hs_ : TA} {ts : TDs} {wH w1H : TI} {ti ti1 : TDw}
theorem ws_setDcT (hu : X.A.units + 1 < cLine) {i : Nat} {y : Str} {py spos : Pos} {scope : Scope} {own : List (Str × Nat)} {sl : List Nat} (hc : X.calm = true) (hN : X.N.Nodup) (hy : X.N[i]? = some y) (hyl : X.env.scope.names.lookup y = some .local) (hi : WI X K CA W tge iter wH ti) (ok : BlkOk X.N X.env.scope scope own)
    (hg : ∀ (s : Shared) (H : Hp) (C : Addr) (cl : List (Str × Addr)) (fp : List Addr), WG (X.blk s H scope (compEnvC scope cl C X.env) fp) K CA tge sl gH tg)
    (ht : ∀ (s : Shared) (H : Hp) (C : Addr) (cl : List (Str × Addr)) (fp : List Addr), WTs (X.blk s H scope (compEnvC scope cl C X.env) fp) K CA W0 ifs hT tt)
    (hek : ∀ (s : Shared) (H : Hp) (C : Addr) (cl : List (Str × Addr)) (fp : List Addr), WA (X.blk s H scope (compEnvC scope cl C X.env) fp) K CA W0 es hs_ ts)
    (hev : ∀ (s : Shared) (H : Hp) (C : Addr) (cl : List (Str × Addr)) (fp : List Addr), WE (X.blk s H scope (compEnvC scope cl C X.env) fp) K CA W0 vx hv tv)
    (ho : ∀ j, j ∈ sl → j ∈ own.map (·.2)) (hsw : swapsWith (.DictComp (.Tuple es x1 p2) vx [⟨tge, iter, ifs, 0⟩] scope pos) (some (.Name y py)) spos.line X.env = pure true := by rfl) (hs : ∀ x, foldedSetIterable iter X.env x = pure x := by intro _; rfl) :
    WS X K CA W (.Assign [.Name y py] (.DictComp (.Tuple es x1 p2) vx [⟨tge, iter, ifs, 0⟩] scope pos) spos) (fun D σ H => tAsg (tDcG (.dT []) wH gH hT (tbT hs_ hv) (own.map (·.2))) (gName i) (unlE X D) σ H) (dAsg (dDcT ti tg tt ts tv (own.map (·.2))) (gdName i)) :=
  ⟨ps_unl (ps_setDcG (bk := fun D env k => putB (.Tuple es x1 p2) vx D env >>= fun _ => k) (Wsh := fun D env => wPut X.prog X.w X.A (.Tuple es x1 p2) vx D env) hy hyl hsw hc hN hi.pe ok (fun D it env => turn_one) (fun D env => bk_put) (fun D env => wPut_mono)
      (fun s H C cl fp => (hg s H C cl fp).pe) (fun s H C cl fp => (ht s H C cl fp).pe) (fun s0 H0 C cl fp D pl s σb σ2 H Nx I hw q => put_T (Y := X.blk s0 H0 scope (compEnvC scope cl C X.env) fp) hu rfl (hek s0 H0 C cl fp).pe (hev s0 H0 C cl fp).pe I hw q) (fun H h b => dt_empty h b) hs),
    sim_asg (sim_dcG (X := X) (u0 := .dT []) (x0 := ([] : List (List Key × D))) (RA := RT K CA) (mk := mkT) hi.sim (hg X.s_0 X.H_0 0 [] []).sim (ht X.s_0 X.H_0 0 [] []).sim (sim_bT (hek X.s_0 X.H_0 0 [] []).sim (hev X.s_0 X.H_0 0 [] []).sim) mv_RT ho trivial (fun m h H a => ⟨[], upd_same, rfl, .nil⟩) fun sb S n s S2 ra uo t => doneT sb S n s S2 ra uo t) sim_gName⟩
theorem we_dc2 (nm : Bool) {scope : Scope} {own : List (Str × Nat)} {sl sl1 vs1 : List Nat} (hc : X.calm = true) (hN : X.N.Nodup) (hi : WI X K CA W tge iter wH ti) (ok : BlkOk X.N X.env.scope scope own)
    (hg : ∀ (s : Shared) (H : Hp) (C : Addr) (cl : List (Str × Addr)) (fp : List Addr), WG (X.blk s H scope (compEnvC scope cl C X.env) fp) K CA tge sl gH tg)
    (ht : ∀ (s : Shared) (H : Hp) (C : Addr) (cl : List (Str × Addr)) (fp : List Addr), WTs (X.blk s H scope (compEnvC scope cl C X.env) fp) K CA W0 ifs hT tt)
    (hi1 : ∀ (s : Shared) (H : Hp) (C : Addr) (cl : List (Str × Addr)) (fp : List Addr), WI (X.blk s H scope (compEnvC scope cl C X.env) fp) K CA W0 tg1e iter1 w1H ti1)
    (hg1 : ∀ (s : Shared) (H : Hp) (C : Addr) (cl : List (Str × Addr)) (fp : List Addr), WG (X.blk s H scope (compEnvC scope cl C X.env) fp) K CA tg1e sl1 g1H tg1)
    (ht1 : ∀ (s : Shared) (H : Hp) (C : Addr) (cl : List (Str × Addr)) (fp : List Addr), WTs (X.blk s H scope (compEnvC scope cl C X.env) fp) K CA W0 ifs1 h1T tt1)
    (hek : ∀ (s : Shared) (H : Hp) (C : Addr) (cl : List (Str × Addr)) (fp : List Addr), WE (X.blk s H scope (compEnvC scope cl C X.env) fp) K CA W0 kx hk tk)
    (hev : ∀ (s : Shared) (H : Hp) (C : Addr) (cl : List (Str × Addr)) (fp : List Addr), WE (X.blk s H scope (compEnvC scope cl C X.env) fp) K CA W0 vx hv tv)
    (ho : ∀ j, j ∈ sl → j ∈ own.map (·.2)) (ho1 : ∀ j, j ∈ sl1 → j ∈ vs1) (hv1 : ∀ i ∈ vs1, i ∈ own.map (·.2)) (hs : ∀ x, foldedSetIterable iter X.env x = pure x := by intro _; rfl) (hs1 : ∀ env x, foldedSetIterable iter1 env x = pure x := by intro _ _; rfl) :
    WE X K CA W (.DictComp kx vx [⟨tge, iter, ifs, 0⟩, ⟨tg1e, iter1, ifs1, 0⟩] scope pos) (fun σ H Q => tDcG (.dK []) wH gH hT (tb2 w1H g1H h1T hk hv vs1) (own.map (·.2)) σ H fun v => UnlP X (Q v)) (dDc2 nm ti tg tt ti1 tg1 tt1 tk tv (own.map (·.2)) vs1) :=
  ⟨pe_unl (pe_dcG (Wsh := fun D env => wOut X.prog X.w X.A (.DictComp kx vx [⟨tge, iter, ifs, 0⟩, ⟨tg1e, iter1, ifs1, 0⟩] scope pos) iter1 D env) hc hN hi.pe ok (fun D it env => turn_out) (fun D env => bk_out (hs1 env)) (fun D env => wOut_mono)
      (fun s H C cl fp => (hg s H C cl fp).pe) (fun s H C cl fp => (ht s H C cl fp).pe) (fun s0 H0 C cl fp D pl s σb σ2 H Nx I hw q => out_K (Y := X.blk s0 H0 scope (compEnvC scope cl C X.env) fp) hc rfl (hi1 s0 H0 C cl fp).pe (hg1 s0 H0 C cl fp).pe (ht1 s0 H0 C cl fp).pe (hek s0 H0 C cl fp).pe (hev s0 H0 C cl fp).pe hv1 I hw q) (fun H h b => dk_empty h b) hs),
    sim_dcG (mk := fun y h => mkD nm y h) hi.sim (hg X.s_0 X.H_0 0 [] []).sim (ht X.s_0 X.H_0 0 [] []).sim (sim_b2 (hi1 X.s_0 X.H_0 0 [] []).sim (hg1 X.s_0 X.H_0 0 [] []).sim (ht1 X.s_0 X.H_0 0 [] []).sim (hek X.s_0 X.H_0 0 [] []).sim (hev X.s_0 X.H_0 0 [] []).sim ho1) mv_RK ho trivial (fun m h H a => ⟨[], upd_same, rfl, .nil⟩)
      fun sb S n s S2 ra uo t => let ⟨kv, e, en, r⟩ := ra; doneD sb S n s S2 e en r uo t⟩
end
def rListK : List V → Hp → VK → Prop := fun xs H Q => ∃ p kvs, xs = [V.ref p] ∧ Rd H p (.dK kvs) ∧ ∀ q, H q = none → Q (.ref q) (upd H q (.lst (kvs.map fun kv => kV kv.1)))
theorem call_listK {X : Cx} (hc : X.calm = true := by rfl) : CallR X (.type "list") rListK := by
  intro pins s σ H xs us Q I r h
  obtain ⟨p, kvs, rfl, rd, q⟩ := h
  obtain ⟨u, rfl, rx⟩ := vals1 r
  obtain rfl : u = Value.ref p := rx
  obtain ⟨z, lo, vs, rel, dof⟩ := dk_rd I.hok rd
  obtain ⟨ep, dat⟩ := dof.dictAt
  have hl : kvs.length = vs.length := Paired.length rel
  refine PySem.W.kdl_call (PySem.W.kdl_dict (knd := mixKind X.prog X.w) (kvs := vs) (ep := ep) lo) (I.ok.hd hc) dat (by rw [← hl]; exact z) fun h' tk acc c' hk hS hacc => ?_
  refine ⟨.ref _, upd H _ (.lst (kvs.map fun kv => kV kv.1)), I.laid hk (Nat.le_refl _) (show ObjOk X.prog X.w _ _ _ (.lst (kvs.map fun kv => kV kv.1)) from ⟨by rw [List.length_map]; exact z, acc.toList, c', ?_, by rw [Array.toArray_toList]; exact hS⟩), rfl, q _ (I.hok.fresh (Nat.le_refl _))⟩
  have el : acc.toList.length = acc.size := by simp
  refine vals_of_at (by rw [List.length_map, el, hacc.1, hl]) fun j x w h1 h2 => ?_
  obtain ⟨k, y, hky, hi⟩ := hacc.2 j w (by rw [← Array.getElem?_toList]; exact h2)
  have e1 : (kvs.map (·.1))[j]? = some k := by
    rw [KV.keys rel, List.getElem?_map, hky] <;> rfl
  have e2 : (kvs.map fun kv => kV kv.1)[j]? = some (kV k) := by
    rw [show (kvs.map fun kv => kV kv.1) = (kvs.map (·.1)).map kV by rw [List.map_map] <;> rfl, List.getElem?_map, e1] <;> rfl
  rw [e2] at h1
  cases h1
  exact keyIs_rel hi
def fListK (nm : Bool) : FD := fun ds h => match ds with
  | [d] => match dctOf h d with
    | some kvs => mkL nm (kvs.map fun kv => kD kv.1) h
    | none => .no
  | _ => .no
def minL : List Int → Int
  | [] => 0
  | [i] => i
  | i :: r => if minL r < i then minL r else i
section
variable {K : PySem.W.Frag} {CA : CAs}
theorem rp_keysA {m : Mp} {h : CH} {H : Hp} : ∀ {hk : List (Key × V)} {kvs : List (Key × D)}, hk.map (·.1) = kvs.map (·.1) → RpAll K CA m h H (hk.map fun kv => kV kv.1) (kvs.map fun kv => kD kv.1)
  | [], [], _ => .nil
  | [], _ :: _, e => by simp at e
  | _ :: _, [], e => by simp at e
  | p :: hk, q :: kvs, e => by
    simp only [List.map_cons, List.cons.injEq] at e
    obtain ⟨pk, pv⟩ := p
    obtain ⟨qk, qv⟩ := q
    obtain ⟨e1, e2⟩ := e
    cases e1
    refine .cons ?_ (rp_keysA e2)
    cases pk with
    | inl i => exact .int i
    | inr x => exact .str x
theorem sim_listK {nm : Bool} : SimC K CA rListK (fListK nm) := by
  intro W σ m h H xs ds Q' S r t
  unfold fListK at t
  split at t
  · split at t
    · rename_i kvs ek
      cases r with
      | cons r1 r2 =>
        cases r2
        obtain ⟨a, o, hk, rfl, e1, c, en, rr⟩ := rp_dct S r1 ek
        have rd : Rd H a (.dK hk) := by
          rcases core_dK c with rfl | ⟨ob, rfl⟩
          · exact .inl e1
          · exact .inr ⟨ob, e1⟩
        exact ⟨a, hk, rfl, rd, fun p n => mkL_post S n (rp_keysA en) t⟩
    · exact t.elim
  · exact t.elim
theorem minL_mem : ∀ {is : List Int}, is ≠ [] → minL is ∈ is ∧ ∀ j ∈ is, minL is ≤ j
  | [], h => absurd rfl h
  | [i], _ => ⟨List.mem_cons_self .., fun j hj => by rw [List.mem_singleton.mp hj]; exact Int.le_refl _⟩
  | i :: k :: r, _ => by
    obtain ⟨h1, h2⟩ := minL_mem (is := k :: r) (by simp)
    unfold minL
    by_cases c : minL (k :: r) < i
    · rw [if_pos c]
      exact ⟨List.mem_cons_of_mem _ h1, fun j hj => (List.mem_cons.mp hj).elim (fun e => by rw [e]; omega) fun q => h2 j q⟩
    · rw [if_neg c]
      exact ⟨List.mem_cons_self .., fun j hj => (List.mem_cons.mp hj).elim (fun e => by rw [e]; omega) fun q => by have := h2 j q; omega⟩
def fMinL : FD := fun ds h => match ds with
  | [d] => match lstOf h d with
    | some xs => match intsOf xs with
      | some is => if 0 < is.length then .ok (.int (minL is)) h else .no
      | none => .no
    | none => .no
  | _ => .no
theorem call_minL {X : Cx} (hc : X.calm = true := by rfl) (hK : X.K = K := by rfl) : CallR X (.builtin "min") (L2.rMin K) := by subst hK; exact cr_min hc
theorem sim_minL : SimC K CA (L2.rMin K) fMinL := by
  intro W σ m h H xs ds Q' S r t
  unfold fMinL at t
  split at t
  · split at t
    · rename_i ys e
      split at t
      · rename_i is ei
        obtain ⟨l, t⟩ := post_ite t
        cases r with
        | cons r1 r2 =>
          cases r2
          obtain ⟨a, zs, rfl, e1, rr⟩ := rp_lst S r1 e
          obtain ⟨q1, q2⟩ := rp_ints rr ei
          subst q1
          have ne : is ≠ [] := List.length_pos_iff.mp l
          obtain ⟨a1, a2⟩ := minL_mem ne
          refine ⟨a, is, rfl, .of e1, l, fun m' h1 h2 => ?_⟩
          have em : m' = minL is := by
            have := h2 _ a1
            have := a2 _ h1
            omega
          rw [em]
          exact t.here S (.int _)
      · exact t.elim
    · exact t.elim
  · exact t.elim
end
def fAddA (nm : Bool) : F2 := fun x y h => match x, y with
  | .tup [], .tup b => if b.length ≤ sizeLine then .ok (.tup b) h else .no
  | x, y => fAdd nm x y h
section
variable {X : Cx} {K : PySem.W.Frag} {CA : CAs} {W : WX} {m : Mp} {h : CH} {H : Hp} {σ : L2.St}
abbrev rAddA (K : PySem.W.Frag) : R2 := fun x y H Q => rAddU K x y H Q ∨ rCatA K x y H Q
theorem sim_addA {nm : Bool} : SimR K CA (rAddA K) (fAddA nm) := by
  intro W σ m h H x y dx dy Q' S rx ry t
  unfold fAddA at t
  split at t
  · obtain ⟨lz, t⟩ := post_ite t
    obtain ⟨a, xs, rfl, e1, r1⟩ := rp_tup rx
    obtain ⟨b, ys, rfl, e2, r2⟩ := rp_tup ry
    cases r1
    have hz : ys.length ≤ sizeLine := by rw [r2.length]; exact lz
    exact .inr ⟨a, b, [], ys, rfl, rfl, e1, e2, by simpa using hz, fun _ => t.here S ry, fun z => absurd rfl z, fun z => absurd rfl z⟩
  · exact .inl (sim_add W σ m h H x y _ _ Q' S rx ry t)
theorem op_addA (hK : X.K = K := by rfl) : OpR X (binaryOp .Add) (rAddA K) := by subst hK; exact (op_addU rfl).or op_catA
end
def dLstR (nm : Bool) (ta : TD) : TD := fun ρ h => (ta ρ h).bind fun d h => match d with
  | .int n => if 0 ≤ n ∧ n ≤ 100000 then mkL nm (rgD 0 n.toNat) h else .no
  | _ => .no
section
variable {X : Cx} {K : PySem.W.Frag} {CA : CAs} {W : WX} {e : Expr} {pos p p2 pos2 : Pos} {ha : TE} {ta : TD}
theorem we_lstR (nm : Bool) (x : WE X K CA W e ha ta) (hm : X.mg "list" = none) (hm2 : X.mg "range" = none) (hc : X.calm = true := by rfl) (hg : Gl X "list" := by rfl) (hg2 : Gl X "range" := by rfl) (n1 : starEach [e] X.env = (false, eval e X.env) :: starEach [] X.env := by rfl)
    (n2 : starEach [Expr.Call (.Name "range" p2) [e] [] pos2] X.env = (false, eval (Expr.Call (.Name "range" p2) [e] [] pos2) X.env) :: starEach [] X.env := by rfl) :
    WE X K CA W (.Call (.Name "list" p) [.Call (.Name "range" p2) [e] [] pos2] [] pos) (tLstRg (tRg1 ha)) (dLstR nm ta) :=
  ⟨pe_listRg hc hg hm (prg_1 hg2 hm2 x.pe n1) n2, fun m h H σ ρ Q' S t => x.sim m h H σ ρ _ S (t.bind fun d h1 m1 v H1 s1 S1 r1 t1 => by
    split at t1
    · rename_i n
      obtain ⟨⟨c1, c2⟩, t2⟩ := post_ite t1
      cases r1
      refine ⟨n, rfl, ⟨by omega, by omega, by omega, by omega, by omega⟩, fun q nq => ?_⟩
      have e1 : rgV 0 n = (List.range n.toNat).map fun i : Nat => V.int (0 + (i : Int)) := by
        unfold rgV
        rw [Int.sub_zero]
      rw [e1]
      exact mkL_post S1 nq (rp_ints_l _) t2
    · exact t1.elim)⟩
end
def maxL : List Int → Int
  | [] => 0
  | [i] => i
  | i :: r => if i < maxL r then maxL r else i
section
variable {K : PySem.W.Frag} {CA : CAs}
theorem maxL_mem : ∀ {is : List Int}, is ≠ [] → maxL is ∈ is ∧ ∀ j ∈ is, j ≤ maxL is
  | [], h => absurd rfl h
  | [i], _ => ⟨List.mem_cons_self .., fun j hj => by rw [List.mem_singleton.mp hj]; exact Int.le_refl _⟩
  | i :: k :: r, _ => by
    obtain ⟨h1, h2⟩ := maxL_mem (is := k :: r) (by simp)
    unfold maxL
    by_cases c : i < maxL (k :: r)
    · rw [if_pos c]
      exact ⟨List.mem_cons_of_mem _ h1, fun j hj => (List.mem_cons.mp hj).elim (fun e => by rw [e]; omega) fun q => h2 j q⟩
    · rw [if_neg c]
      exact ⟨List.mem_cons_self .., fun j hj => (List.mem_cons.mp hj).elim (fun e => by rw [e]; omega) fun q => by have := h2 j q; omega⟩
end
section
variable {X : Cx} {pins : List (Addr × Obj)} {σ : L2.St} {H : Hp} {s : Shared}
abbrev lamO (X : Cx) (params : Arguments) (body : Expr) (scope : Scope) (pm : Value) (c' : Addr) (ctv : Value) : Obj := PySem.W.kla_obj "<lambda>" (X.env.qual ++ "<lambda>") params body scope (cloFrom X.env.cells scope.names []) pm c' ctv
end
def dUnset (ix : Nat) : SD := fun ρ h => .nx (ρ.set ix none) h
def fEqL (neg : Bool) : F2 := fun x y h => match lstOf h x, lstOf h y with
  | some xs, some [] => .ok (.bl (bneg neg xs.isEmpty)) h
  | _, _ => fEq neg x y h
def rEqL (K : PySem.W.Frag) (neg : Bool) : R2 := fun x y H Q => ∃ a b xs, x = .ref a ∧ y = .ref b ∧ SqL K H a xs ∧ SqL K H b [] ∧ Q (.bl (bneg neg xs.isEmpty)) H
section
variable {X : Cx} {K : PySem.W.Frag} {CA : CAs}
theorem op_neL1 (hu : X.A.units + 64 < cLine) : OpR X (compareOp .NotEq) (rEqL X.K true) := by
  intro pins s σ H x y v u Q I rx ry h
  obtain ⟨a, b, xs, rfl, rfl, ha, hb, q⟩ := h
  cases rx
  cases ry
  obtain ⟨its, r1, ⟨o1, m1, p1, c1, d1, n1⟩, _⟩ := I.list ha
  obtain ⟨its2, r2, ⟨o2, m2, p2, c2, d2, n2⟩, _⟩ := I.list hb
  cases r2
  cases r1 with
  | nil => exact SeqAt.RcNeAt.lists (e := fun _ => true) ⟨o1, p1, c1, m1, n1⟩ ⟨o2, p2, c2, m2, n2⟩ rfl (by omega) (fun j h1 h2 => absurd h2 (by simp)) _ _ _ _ ⟨.bl false, H, I, rfl, q⟩
  | cons _ _ => exact SeqAt.RcNeAt.lists_lengths ⟨o1, p1, c1, m1, n1⟩ ⟨o2, p2, c2, m2, n2⟩ (by simp) (by omega) _ _ _ _ ⟨.bl true, H, I, rfl, q⟩
theorem op_neL (hu : X.A.units + 64 < cLine) (hK : X.K = K := by rfl) : OpR X (compareOp .NotEq) (fun x y H Q => (rNe x y H Q ∨ rNeD K x y H Q) ∨ rEqL K true x y H Q) := by subst hK; exact (op_neU hu rfl).or (op_neL1 hu)
theorem rel_L {W : WX} {m : Mp} {h : CH} {H : Hp} {neg : Bool} {x y : V} {dx dy : D} {xs : List D} {Q : VK} (S : HR K CA m h H) (rx : Rp K CA m h H x dx) (ry : Rp K CA m h H y dy) (e1 : lstOf h dx = some xs) (e2 : lstOf h dy = some []) (q : Q (.bl (bneg neg xs.isEmpty)) H) : rEqL K neg x y H Q := by
  obtain ⟨a, vs, rfl, h1, r1⟩ := rp_lst S rx e1
  obtain ⟨b, ws, rfl, h2, r2⟩ := rp_lst S ry e2
  cases r2
  refine ⟨a, b, vs, rfl, rfl, .inl (.inl h1), .inl (.inl h2), ?_⟩
  have : vs.isEmpty = xs.isEmpty := by cases r1 <;> rfl
  rw [this]; exact q
theorem sim_neL : SimR K CA (fun x y H Q => (rNe x y H Q ∨ rNeD K x y H Q) ∨ rEqL K true x y H Q) (fEqL true) := by
  intro W σ m h H x y dx dy Q' S rx ry t
  unfold fEqL at t
  split at t
  · rename_i e1 e2
    exact .inr (rel_L (W := W) S rx ry e1 e2 (t.here S (.bl _)))
  · exact .inl (sim_ne W σ m h H x y _ _ Q' S rx ry t)
end
end CM
namespace PySem
open Sem (wp)
theorem cm_meets_enum {v : Value} {o : Obj} {H : Heap → Prop} (B : Begins v o H) :
    Meets (Builtin.«enumerate.__new__» ⟨[.type "enumerate", v], []⟩) (fun _ R s => H s.heap ∧
      R (.ok (.ret (.ref (s.heap.push o).objs.size))) { s with heap := (s.heap.push o).push { cls := .type "enumerate", data := .fields #[.none, .bool false, .ref s.heap.objs.size, rawInt 0, .none, .none] } }) :=
  .of_wp fun prog w A R s h => by
    obtain ⟨hp, g, d, tk, os⟩ := s; obtain ⟨h1, h⟩ := h
    have hsub := sub_enumerate
    have q1 : ∀ {A' : Around} {E : Value → Shared → Prop} {Q : Value → Shared → Prop}, Q (.ref hp.objs.size) ⟨hp.push o, g, d, tk, os⟩ → wpAny (model prog w) A' (pyIter v) Q E ⟨hp, g, d, tk, os⟩ :=
      fun q => B.iter prog w _ _ ⟨hp, g, d, tk, os⟩ _ h1 q
    wp_walk using q1
    refine wpAny_stack_any fun st => wpAny_pure ?_
    split
    · rename_i c _ _ _ _ _
      cases (c == Value.type "enumerate")
      · wp_walk using q1
        exact ⟨_, rfl, h⟩
      · wp_walk using q1
        exact ⟨_, rfl, h⟩
    · wp_walk using q1
      exact ⟨_, rfl, h⟩
section
variable {prog : Program} {w : World} {A : Around} {E : Value → Shared → Prop} {s : Shared}
theorem cm_enum_begins {v : Value} {o : Obj} {H : Heap → Prop} {Q : Value → Shared → Prop} (B : Begins v o H) (h1 : H s.heap)
    (h : ∀ h', IsEnum h' (s.heap.objs.size + 1) s.heap.objs.size 0 .none → h'.get? s.heap.objs.size = some o → h'.objs.size = s.heap.objs.size + 2 →
      (∀ b o, s.heap.get? b = some o → h'.get? b = some o) → Q (.ref (s.heap.objs.size + 1)) { s with heap := h' }) :
    wpAny (model prog w) A (call (.type "enumerate") [v]) Q E s := by
  refine callType_new F.called_enumerate (by decide) (F.typeCall_enumerate_1 _) (F.newCall_enumerate_1 _) (fun obj => F.args_object_init_2 obj _) F.entry_enumerate_new
    (cm_meets_enum B) ⟨h1, ?_⟩
  have hz : (s.heap.push o).objs.size = s.heap.objs.size + 1 := Heap.size_push ..
  show _ ∧ _
  rw [hz]
  have he : IsEnum ((s.heap.push o).push { cls := .type "enumerate", data := .fields #[.none, .bool false, .ref s.heap.objs.size, rawInt 0, .none, .none] }) (s.heap.objs.size + 1) s.heap.objs.size 0 .none := by
    have := Heap.get?_push_size (s.heap.push o) (o := { cls := .type "enumerate", data := .fields #[.none, .bool false, .ref s.heap.objs.size, rawInt 0, .none, .none] }) rfl
    rw [hz] at this; exact this
  refine ⟨⟨_, he, rfl⟩, h _ he (Heap.get?_push_of_some _ (Heap.get?_push_size _ B.free)) (by rw [Heap.size_push, hz]) fun b o x => Heap.get?_push_of_some _ (Heap.get?_push_of_some _ x)⟩
theorem cm_enum_end {e it t : Addr} {n : Nat} {items : Array Value} {i : Int} {old : Value} {Q : Option Value → Shared → Prop} (hh : A.handled = none)
    (he : IsEnum s.heap e it i old) (hit : s.heap.IsTupleIter it t n) (ht : s.heap.IsTuple t items) (hx : items[n]? = none)
    (hQ : ∀ h', Heap.ExtBut it s.heap h' → Q none { s with heap := h' }) : wpAny (model prog w) A (pyNext (.ref e)) Q E s := by
  have hT : s.TypeIs (.ref e) "enumerate" := ⟨_, he, rfl⟩
  unfold pyNext
  refine wpAny_bind (wpAny_attempt (wpAny_callSpecial?_slot (name := Str.ofString "__next__") hT F.slot_enumerate_next
    (wpAny_call_entry F.slot_enumerate_next hT F.entry_enumerate_next ?_ (F.args_enumerate_next_1 _))))
  show wpAny _ _ (field (.ref e) 2 >>= _) _ _ _
  refine wpAny_bind (wpAny_field he rfl (x := .ref it) rfl ?_)
  refine wpAny_bind (wpAny_nextOf_tuple_end (A := A.in1) hh hit ht hx fun h' x he' hx' => ?_)
  obtain ⟨o, ho, hc⟩ := hx'
  refine wpAny_bind (wpAny_isInstance (T := "StopIteration") (b := true) ⟨o, ho, hc⟩ isSubtype_stop ?_)
  exact wpAny_pure (hQ _ he')
end
end PySem
namespace L2
open PySem PySem.Spec PyProof.Rows
def Itet (K : PySem.W.Frag) (a : Addr) : It :=
  ⟨fun i H => ∃ (xs : List V) (x : V), SqT K H a xs ∧ xs[i]? = some x, fun i H v H' => ∃ T x, v = .ref T ∧ H T = none ∧ H' = upd H T (.tup [.int (i : Nat), x]) ∧ ∀ xs, SqT K H a xs → xs[i]? = some x, fun i H => ∃ xs : List V, SqT K H a xs ∧ xs.length ≤ i⟩
theorem turn_enumT {P : Program} {w : World} {K : PySem.W.Frag} {elts : List Expr} {kk : Nat} {tpos : Pos} (a e it : Addr) :
    Turn P w K (.Tuple elts kk tpos) (Itet K a) [e, it] e (fun i h => (∃ old, IsEnum h e it ((i : Nat) : Int) old) ∧ h.IsTupleIter it a i ∧ e ≠ it) where
  mem := by simp
  obj := fun i h st b hb => by
    obtain ⟨⟨old, he⟩, ⟨o, ho, hc, hd⟩, _⟩ := st
    have e' : b = e ∨ b = it := by simpa using hb
    rcases e' with z | z
    · rw [z]; exact ⟨_, he, fun v q => nomatch q⟩
    · rw [z]; exact ⟨o, ho, fun v q => by rw [hd] at q; cases q⟩
  keep := fun i h h' st k => let ⟨⟨old, he⟩, hi, hne⟩ := st; ⟨⟨old, k e (by simp) _ he⟩, hi.at fun o q => k it (by simp) o q, hne⟩
  item := by
    intro X hP hw hK hc i pins s σ H E I hf st hg
    subst hP hw hK
    obtain ⟨⟨old, he⟩, hit, hne⟩ := st
    obtain ⟨xs, x, hq, hx⟩ := hg
    obtain ⟨its, rv, p, hz⟩ := I.tuple hq
    obtain ⟨u, hu, ru⟩ := rv.get hx
    have pt : s.heap.IsTuple a its.toArray := p
    obtain ⟨ot, hot, hct, _⟩ := id pt
    obtain ⟨oi, hoi, hci, _⟩ := id hit
    have ha1 : a ≠ it := fun z => by
      subst z
      rw [hoi] at hot
      cases hot
      rw [hci] at hct
      exact absurd hct (by decide)
    have ha2 : e ≠ a := fun z => by
      subst z
      have he' := he
      unfold IsEnum at he'
      rw [hot] at he'
      cases he'
      exact absurd hct (by simp)
    have hel : e < s.heap.objs.size := Heap.lt_size he
    have hil : it < s.heap.objs.size := Heap.lt_size hoi
    have hl : i < its.toArray.size := by
      have := (List.getElem?_eq_some_iff.mp hu).1
      simpa using this
    have D := Draws.tuple (prog := X.prog) (w := X.w) (A := X.A.in1) (I.ok.hd hc) it a ha1 its.toArray
    refine wpAny_pyNext_enum_itemD D he ⟨hit, pt⟩ hl hne (by simp [hne, ha2]) fun x' h' tk hPx ho hst' hT hsz hk => ?_
    have ex : x' = u := by
      have h1 : its.toArray[i]? = some x' := hPx
      have h2 : its.toArray[i]? = some u := by simpa using hu
      rw [h1] at h2
      exact Option.some.inj h2
    subst ex
    refine ⟨_, rfl, wpAny_letOwnedTupleGo_enum (s := { s with heap := h', toks := tk + 1 }) ho fun h'' he' sb => ?_⟩
    have hT2 : h''.get? s.heap.objs.size = some { cls := .type "tuple", data := .seq #[.int i tk, x'] } := (sb.2 _ (Nat.ne_of_gt hel)).trans hT
    have new : ObjOk X.prog X.w (upd H s.heap.objs.size (.tup [.int (i : Nat), x])) h'' s.heap.objs.size (.tup [.int (i : Nat), x]) :=
      ⟨by show 2 ≤ sizeLine; decide, [.int i tk, x'], .cons ⟨_, rfl⟩ (.cons ru .nil), ⟨_, hT2, rfl, _, rfl⟩⟩
    have I1 : Inv X pins σ (upd H s.heap.objs.size (.tup [.int (i : Nat), x])) { s with heap := h'', toks := tk + 1 } :=
      I.turnedNew (ch := [e, it]) (fun b ob hb q => (sb.2 b (fun z => hb (by simp [z]))).trans (hk b ob (fun z => hb (by simp [z])) (fun z => hb (by simp [z])) q)) hf (Nat.le_refl _) new
    refine ⟨.ref s.heap.objs.size, _, I1, rfl, ⟨_, x, rfl, I.hok.fresh (Nat.le_refl _), rfl, fun ys hy => by rw [I.tuple_inj hy hq]; exact hx⟩, ⟨⟨x', ?_⟩, hst'.1.at fun o q => (sb.2 it (Ne.symm hne)).trans q, hne⟩, fun b hb => ?_⟩
    · have e1 : ((i + 1 : Nat) : Int) = (i : Int) + 1 := by omega
      rw [e1]; exact he'
    · have hb' : b < s.heap.objs.size := by
        have e' : b = e ∨ b = it := by simpa using hb
        rcases e' with z | z
        · rw [z]; exact hel
        · rw [z]; exact hil
      rw [upd_ne (Nat.ne_of_lt hb')]
      exact (hf b hb).1
  done := by
    intro X hP hw hK hc i pins s σ H E I hf st hg
    subst hP hw hK
    obtain ⟨⟨old, he⟩, hit, hne⟩ := st
    obtain ⟨xs, hq, hx⟩ := hg
    obtain ⟨its, rv, p, hz⟩ := I.tuple hq
    obtain ⟨f0, f1, f2, f3, f4, f5⟩ := hf it (by simp)
    have hl := rv.length
    have pt : s.heap.IsTuple a its.toArray := p
    exact cm_enum_end (I.ok.hd hc) he hit pt (by simp; omega) fun h' eb => ⟨rfl, I.turned (t' := s.toks) (fun b o hb q => eb b o hb q) f0 f1 f3 f4 f5⟩
  self := fun A i s Q E st h => let ⟨⟨_, he⟩, _⟩ := st; wpAny_pyIter_enum he h
def iEnumT (K : PySem.W.Frag) (ta : TA) : TI := fun σ H R => ta σ H fun vs H1 => (∃ a xs, vs = [.ref a] ∧ SqL K H1 a xs ∧ R (Ite K a) H1) ∨ ∃ a xs, vs = [.ref a] ∧ SqT K H1 a xs ∧ R (Itet K a) H1
theorem pi_enumT {X : Cx} {e : Expr} {ta : TA} {p pos tpos : Pos} {elts : List Expr} {kk : Nat} (hg : Gl X "enumerate") (hm : X.mg "enumerate" = none) (ha : PA X [e] ta) (hs : starEach [e] X.env = [(false, eval e X.env)] := by rfl) :
    PI X (.Tuple elts kk tpos) (.Call (.Name "enumerate" p) [e] [] pos) (iEnumT X.K ta) := by
  refine ⟨fun pins s σ H R I h => ?_⟩
  refine Call_ (ld_blt I hg hm boot_enumerate (PyProof.Rows.callWith_type1 (thn (ha.run pos pins s σ H _ I h) fun us s1 ⟨vs, H1, I1, r1, q1⟩ => ?_) hs rfl))
  rcases q1 with ⟨a, xs, ex, hq, q⟩ | ⟨a, xs, ex, hq, q⟩
  · subst ex
    cases r1 with
    | cons r rr =>
      cases rr
      cases r
      obtain ⟨its, rv, p', hz⟩ := I1.list hq
      refine call_enumerate_list p'.isList fun h' he hit hsz hk => wpAny_pyIter_enum he ?_
      have I2 : Inv X pins σ H1 { s1 with heap := h' } := I1.kept (t' := s1.toks) hk
      refine ⟨s1.heap.objs.size + 1, [s1.heap.objs.size + 1, s1.heap.objs.size], _, _, H1, rfl, I2, turn_enum a (s1.heap.objs.size + 1) s1.heap.objs.size, ⟨⟨.none, he⟩, hit, Nat.succ_ne_self _⟩, fun b hb => ?_, q⟩
      have e' : b = s1.heap.objs.size + 1 ∨ b = s1.heap.objs.size := by simpa using hb
      have hle : s1.heap.objs.size ≤ b := by
        rcases e' with z | z
        · rw [z]; exact Nat.le_add_right _ _
        · rw [z]; exact Nat.le_refl _
      exact I1.fpOk hle (I1.hok.fresh hle)
  · subst ex
    cases r1 with
    | cons r rr =>
      cases rr
      cases r
      obtain ⟨its, rv, p', hz⟩ := I1.tuple hq
      refine cm_enum_begins (begins_tuple a its.toArray) p' fun h' he hit hsz hk => wpAny_pyIter_enum he ?_
      have I2 : Inv X pins σ H1 { s1 with heap := h' } := I1.kept (t' := s1.toks) hk
      refine ⟨s1.heap.objs.size + 1, [s1.heap.objs.size + 1, s1.heap.objs.size], _, _, H1, rfl, I2, turn_enumT a (s1.heap.objs.size + 1) s1.heap.objs.size, ⟨⟨.none, he⟩, ⟨_, hit, rfl, rfl⟩, Nat.succ_ne_self _⟩, fun b hb => ?_, q⟩
      have e' : b = s1.heap.objs.size + 1 ∨ b = s1.heap.objs.size := by simpa using hb
      have hle : s1.heap.objs.size ≤ b := by
        rcases e' with z | z
        · rw [z]; exact Nat.le_add_right _ _
        · rw [z]; exact Nat.le_refl _
      exact I1.fpOk hle (I1.hok.fresh hle)
end L2
namespace CM
open PySem PySem.Spec PySem.Calls PyProof.Rows L2
def dEnumT (ts : TDs) : TDw := fun ρ h => (ts ρ h).bind fun ds h => match ds with
  | [.lst xs] => .ok (enD 0 xs, none) h
  | [.tup xs] => .ok (enD 0 xs, none) h
  | _ => .no
section
variable {X : Cx} {K : PySem.W.Frag} {CA : CAs} {W : WX} {es : List Expr} {tge l : Expr} {hs : TA} {ts : TDs}
theorem wk_enumT {m : Mp} {h : CH} {H : Hp} {a : Addr} {xs : List V} {ds : List D} (k : ∀ m' h' H', Sz m h H m' h' H' → SqT K H' a xs) (r : RpAll K CA m h H xs ds) : Wk K CA m h H (Itet K a) (enD 0 ds) :=
  ⟨fun i m' h' H' d s S hd => by
    obtain ⟨y, hy, rfl⟩ := enD_get ds 0 i d hd
    obtain ⟨v, hv, rv⟩ := r.getD hy
    have e' := k m' h' H' s
    refine ⟨⟨xs, v, e', hv⟩, fun x H2 yl => ?_⟩
    obtain ⟨T, z, rfl, nT, rfl, hz⟩ := yl
    have ex := (hz xs e').symm.trans hv
    cases ex
    have ri : ((0 + i : Nat) : Int) = ((i : Nat) : Int) := by omega
    rw [ri]
    exact ⟨upd_new nT, .tup (S.fresh nT) upd_same (.cons (.int _) (.cons ((rv.mv s.toMv).move (stp_laid S nT)) .nil))⟩, fun m' h' H' s S => ⟨xs, k m' h' H' s, by rw [enD_length, r.length]; exact Nat.le_refl _⟩⟩
theorem wi_enumT (h : WA X K CA W es hs ts) (hp : PA X es hs → PI X tge l (iEnumT K hs)) : WI X K CA W tge l (iEnumT K hs) (dEnumT ts) := by
  refine ⟨hp h.pe, fun m hh H σ ρ R' S t => h.sim m hh H σ ρ _ S (PostI.bind t fun ds h1 m1 vs H1 s1 S1 r1 t1 => ?_)⟩
  split at t1
  · cases r1 with
    | cons r1 r2 =>
      cases r1 with
      | lst n e r =>
        cases r2
        exact .inl ⟨_, _, rfl, .of e, t1.walk s1 S1 (wk_enum n e r)⟩
  · cases r1 with
    | cons r1 r2 =>
      cases r2
      cases r1 with
      | tup n e r => exact .inr ⟨_, _, rfl, .of e, t1.walk s1 S1 (wk_enumT (keep_tup n e) r)⟩
      | ktup e r => exact .inr ⟨_, _, rfl, sq_emp e, t1.walk s1 S1 (wk_enumT (fun _ _ _ _ => sq_emp e) r)⟩
  · exact t1.elim
end
open PySem PySem.Spec PyProof.Rows L2
section
variable {X : Cx} {pins : List (Addr × Obj)} {σ : L2.St} {H : Hp} {s : Shared}
theorem pe_actG {CXg : CXT} {Eg : XK} {Ng : List Str} {qg : Str} {sg : Scope} {g f c' : Addr} {cdg pm ctv : Value} {params : Arguments} {body : Expr} {scope : Scope} {k i : Nat} {a : Str} {pn : List (Addr × Obj)} {xe : Value → Shared → Prop} {W : WX} {E : XK} {tb : TE} {p1 p2 : Pos} {A0 : Around} {st0 : List Env} {s0 : Shared} {H0 : Hp}
    (I : Inv X pins σ H s) (L : LamX.LamS X.env.scope scope) (hf : s.heap.get? f = some (PySem.W.kla_obj "<lambda>" (X.env.qual ++ "<lambda>") params body scope (cloFrom X.env.cells scope.names []) pm c' ctv)) (hfn : H f = none) (hfr : f ∉ frs X.stack)
    (hbind : bindArgs (PySem.W.kla_fn "<lambda>" (X.env.qual ++ "<lambda>") params body scope (cloFrom X.env.cells scope.names []) pm (.ref c') ctv) ⟨[], []⟩ = pure [])
    (tk : Takes ((cxOf CXg X.prog X.w X.K X.mg X.base Ng qg sg g cdg A0 st0 s0 H0 Eg).tr pn xe) W) (hW : ∀ cls d σ' H', E cls d H' → W cls d σ' H') (hr : Room (k + 1) (A0.deeper (envOfC qg sg s0.heap.objs.size g cdg)))
    (hun : ∀ (HZ : Hp) (s1 : Shared), s1.os = s0.os → AllBare s1.gens → HOk X.prog X.w HZ s1.heap → Un (frs st0) [] H0 HZ s0.heap s1.heap → Un (frs X.stack) [] H HZ s.heap s1.heap)
    (hbody : ∀ (A : Around) (outer : List Env) (s : Shared) (H : Hp), Room k (A.deeper (LamX.lamEnv X scope s.heap.objs.size f c')) → PE (LamX.lamCx X A outer s H E scope f c') body tb)
    (hN : Ng[i]? = some a) (hv : Vis sg a) (hd : (a == ("__debug__" : Str)) = false) (hcd : (a == ("__classdict__" : Str)) = false) :
    PE ((cxOf CXg X.prog X.w X.K X.mg X.base Ng qg sg g cdg A0 st0 s0 H0 Eg).tr pn xe) (.Call (.Name a p1) [] [] p2)
      (fun σZ HZ Q => σZ[i]? = some (some (.ref f)) ∧ HZ c' = some (LamX.CodeO c' (X.env.qual ++ "<lambda>")) ∧ tb σ HZ Q) := by
  refine ⟨fun pinsZ sZ σZ HZ Q IZ h => ?_⟩
  obtain ⟨hs, hc, ht⟩ := h
  refine wpAny_Call_Name_kw (thn ((pe_var (pos := p1) (i := i) hN hv hd hcd).run pinsZ sZ σZ HZ (fun v H1 => v = .ref f ∧ H1 = HZ) IZ ⟨.ref f, hs, rfl, rfl⟩) fun u s1 ⟨v, H1, I1, r1, q1⟩ => ?_)
  obtain ⟨ev, eH⟩ := q1
  subst ev
  rw [eH] at I1
  obtain rfl : u = Value.ref f := r1
  have un : Un (frs X.stack) [] H HZ s.heap s1.heap := hun HZ s1 I1.os I1.bare I1.hok I1.base
  have of1 : s1.heap.get? f = some (PySem.W.kla_obj "<lambda>" (X.env.qual ++ "<lambda>") params body scope (cloFrom X.env.cells scope.names []) pm c' ctv) := un.keep f _ hf hfn hfr (fun z => nomatch (show f ∈ ([] : List Addr) from z))
  refine PySem.W.callWith_F0 ⟨_, _, _, _, of1⟩ ?_
  obtain ⟨⟨oc, vs, t, hoc, hdc, hvc⟩, _, _⟩ := I1.hok c' _ hc
  have rc : codeAny (model X.prog X.w) (A0.deeper (envOfC qg sg s0.heap.objs.size g cdg)) (.call (.ref f) ⟨[], []⟩) (CR (L2.CX X.prog X.w) (envOfC qg sg s0.heap.objs.size g cdg :: st0) X.prog X.w HZ s1 Q E) s1 := by
    refine PySem.W.kla_callFunE hr.depth of1 rfl L.co L.gen rfl ⟨c', oc, vs, t, rfl, hoc, hdc, hvc⟩ ?_
    rw [hbind]
    refine wpAny_pure (wpAny_newFunctionEnv (fun y hy => (L.own y hy).2) (fun y hy => absurd hy (by simp)) (fun h₁ hns hsb => ⟨I1.nolimit.fresh _ hsb, ?_⟩) L.kind)
    show codeAny _ _ (.expr body (LamX.lamEnv X scope s1.heap.objs.size f c')) _ _
    have kp : ∀ b o, s1.heap.get? b = some o → h₁.get? b = some o := fun b o e => hsb.extBut b o (Nat.ne_of_lt (Heap.lt_size e)) (Heap.get?_push_of_some _ e)
    have J : Inv (LamX.lamCx X (A0.deeper (envOfC qg sg s0.heap.objs.size g cdg)) (envOfC qg sg s0.heap.objs.size g cdg :: st0) s1 HZ E scope f c') [] σ HZ { s1 with heap := h₁, toks := s1.toks + ([] : List (Str × Value)).length } :=
      LamX.lam_start2 I L I1.env0 hr.hd un hns kp
    refine PySem.W.kla_codeExpr (wpAny_mono ((hbody _ _ s1 HZ (hr.deeper _)).run [] _ _ HZ Q J ht) (fun v s' hq => ?_) fun e s' hq => hq)
    obtain ⟨w', H', J', rv, q⟩ := hq
    exact ⟨w', H', J'.os, J'.bare, J'.base, J'.hok, rv, q⟩
  have hx : Passes (L2.CX X.prog X.w) ((cxOf CXg X.prog X.w X.K X.mg X.base Ng qg sg g cdg A0 st0 s0 H0 Eg).tr pn xe) E := passes_call tk hW
  refine wpAny_call (codeAny_mono rc fun r s' hq => ?_)
  cases r with
  | error e => exact hx pinsZ σZ HZ s1 e s' I1 hq
  | ok fl =>
    cases fl with
    | ret u => exact I1.after hq
    | next => exact False.elim hq
    | brk => exact False.elim hq
    | cont => exact False.elim hq
end
structure LamF (X : Cx) (f c' : Addr) (k : Nat) (tl : XK → Hp → VK → Prop) (st0 : List Env) (s0 : Shared) (H0 : Hp) : Prop where
  ex : ∃ (pins : List (Addr × Obj)) (σ : L2.St) (H : Hp) (s : Shared) (params : Arguments) (body : Expr) (scope : Scope) (pm ctv : Value) (t : XK → TE), Inv X pins σ H s ∧ LamX.LamS X.env.scope scope ∧
    s.heap.get? f = some (PySem.W.kla_obj "<lambda>" (X.env.qual ++ "<lambda>") params body scope (cloFrom X.env.cells scope.names []) pm c' ctv) ∧ H f = none ∧ f ∉ frs X.stack ∧
    bindArgs (PySem.W.kla_fn "<lambda>" (X.env.qual ++ "<lambda>") params body scope (cloFrom X.env.cells scope.names []) pm (.ref c') ctv) ⟨[], []⟩ = pure [] ∧
    (∀ (A : Around) (outer : List Env) (s : Shared) (H : Hp) (E : XK), Room k (A.deeper (LamX.lamEnv X scope s.heap.objs.size f c')) → PE (LamX.lamCx X A outer s H E scope f c') body (t E)) ∧
    (tl = fun E HZ Q => t E σ HZ Q) ∧
    (∀ (HZ : Hp) (s1 : Shared), s1.os = s0.os → AllBare s1.gens → HOk X.prog X.w HZ s1.heap → Un (frs st0) [] H0 HZ s0.heap s1.heap → Un (frs X.stack) [] H HZ s.heap s1.heap)
section
variable {X : Cx} {f c' : Addr} {k : Nat} {tl : XK → Hp → VK → Prop} {st0 : List Env} {s0 : Shared} {H0 : Hp}
theorem LamF.act (F : LamF X f c' k tl st0 s0 H0) {CXg : CXT} {Eg : XK} {Ng : List Str} {qg : Str} {sg : Scope} {g : Addr} {cdg : Value} {i : Nat} {a : Str} {pn : List (Addr × Obj)} {xe : Value → Shared → Prop} {W : WX} {E : XK} {p1 p2 : Pos} {A0 : Around}
    (tk : Takes ((cxOf CXg X.prog X.w X.K X.mg X.base Ng qg sg g cdg A0 st0 s0 H0 Eg).tr pn xe) W) (hW : ∀ cls d σ' H', E cls d H' → W cls d σ' H') (hr : Room (k + 1) (A0.deeper (envOfC qg sg s0.heap.objs.size g cdg)))
    (hN : Ng[i]? = some a) (hv : Vis sg a) (hd : (a == ("__debug__" : Str)) = false) (hcd : (a == ("__classdict__" : Str)) = false) :
    PE ((cxOf CXg X.prog X.w X.K X.mg X.base Ng qg sg g cdg A0 st0 s0 H0 Eg).tr pn xe) (.Call (.Name a p1) [] [] p2)
      (fun σZ HZ Q => σZ[i]? = some (some (.ref f)) ∧ HZ c' = some (LamX.CodeO c' (X.env.qual ++ "<lambda>")) ∧ tl E HZ Q) := by
  obtain ⟨pins, σ, H, s, params, body, scope, pm, ctv, t, I, L, hf, hfn, hfr, hbind, hbody, rfl, hun⟩ := F.ex
  exact pe_actG I L hf hfn hfr hbind tk hW hr hun (fun A outer s H hr2 => hbody A outer s H E hr2) hN hv hd hcd
theorem LamF.deeper (F : LamF X f c' k tl st0 s0 H0) {CX1 : CXT} {E1 : XK} {N1 : List Str} {q1 : Str} {sg1 : Scope} {g1 : Addr} {cd1 : Value} {A0 : Around} {pins1 : List (Addr × Obj)} {σ1 : L2.St} {H1 : Hp} {s1 : Shared}
    (I1 : Inv (cxOf CX1 X.prog X.w X.K X.mg X.base N1 q1 sg1 g1 cd1 A0 st0 s0 H0 E1) pins1 σ1 H1 s1) : LamF X f c' k tl (envOfC q1 sg1 s0.heap.objs.size g1 cd1 :: st0) s1 H1 := by
  obtain ⟨pins, σ, H, s, params, body, scope, pm, ctv, t, I, L, hf, hfn, hfr, hbind, hbody, e, hun⟩ := F.ex
  refine ⟨pins, σ, H, s, params, body, scope, pm, ctv, t, I, L, hf, hfn, hfr, hbind, hbody, e, fun HZ s3 os bare hok un => ?_⟩
  have J := I1.call' os un hok bare (fun b hb => absurd hb (by simp))
  exact hun HZ s3 J.os bare hok J.base
theorem pe_lamarg (F : LamF X f c' k tl st0 s0 H0) {TT : (XK → Hp → VK → Prop) → Hp → VK → Prop} {CX1 : CXT} {E1 : XK} {N1 : List Str} {q1 : Str} {sg1 : Scope} {g1 : Addr} {cd1 : Value} {A0 : Around} {x a y : Str} {g : Addr} {iy : Nat} {pg : Arguments} {bg : List Stmt} {sg : Scope} {dV kV doc pm0 cdv ct oc : Value} {an od : Option Addr} {osl : Array (Option Value)} {Ng : List Str} {p p3 pos : Pos}
    (hg : Gl (cxOf CX1 X.prog X.w X.K X.mg X.base N1 q1 sg1 g1 cd1 A0 st0 s0 H0 E1) x) (hm : X.mg x = some (.ref g)) (hk : PySem.W.keepIn X.K (.ref g) = true)
    (lk : X.K.lookup g = some ⟨oc, od, .func (PySem.W.fnOf x x pg bg sg dV kV doc pm0 an cdv ct), osl⟩) (hcg : PySem.W.codeIn X.K cdv x = true) (hb : L2.Binds X.K (PySem.W.fnOf x x pg bg sg dV kV doc pm0 an cdv ct) [a] []) (Sg : FnScope Ng [a] sg) (hNg : Ng[0]? = some a) (hva : Vis sg a)
    (hG : LamX.GivesTo (cxOf CX1 X.prog X.w X.K X.mg X.base N1 q1 sg1 g1 cd1 A0 st0 s0 H0 E1) Ng x sg g cdv bg a (X.env.qual ++ "<lambda>") TT) (hr : Room (k + 2) (A0.deeper (envOfC q1 sg1 s0.heap.objs.size g1 cd1)))
    (hyN : N1[iy]? = some y) (hyv : Vis sg1 y)
    (hdb : (x == ("__debug__" : Str)) = false) (hd : (a == ("__debug__" : Str)) = false) (hcd : (a == ("__classdict__" : Str)) = false)
    (hyd : (y == ("__debug__" : Str)) = false) (hyc : (y == ("__classdict__" : Str)) = false) :
    PE (cxOf CX1 X.prog X.w X.K X.mg X.base N1 q1 sg1 g1 cd1 A0 st0 s0 H0 E1) (.Call (.Name x p) [.Name y p3] [] pos)
      (fun σ H Q => σ[iy]? = some (some (.ref f)) ∧ H c' = some (LamX.CodeO c' (X.env.qual ++ "<lambda>")) ∧ TT tl H Q) := by
  refine ⟨fun pins s σ H Q I h => ?_⟩
  obtain ⟨hσ, hco, ht⟩ := h
  refine wpAny_Call_Name_kw (ld_glob I hg hm ?_ hdb)
  refine PySem.W.callWith_K (h₀ := X.base) I.ok.mod.kin hk ?_ (by rfl) (by rfl)
  show wpAny _ _ (spliced ((false, eval (.Name y p3) (envOfC q1 sg1 s0.heap.objs.size g1 cd1)) :: backTo pos (starEach [] (envOfC q1 sg1 s0.heap.objs.size g1 cd1)))) _ _ s
  refine Calls.spliced_cons (thn ((pe_var (X := cxOf CX1 X.prog X.w X.K X.mg X.base N1 q1 sg1 g1 cd1 A0 st0 s0 H0 E1) (pos := p3) (i := iy) hyN hyv hyd hyc).run _ s σ H (fun v H1 => v = .ref f ∧ H1 = H) I ⟨.ref f, hσ, rfl, rfl⟩) fun u s1 ⟨v, H1, I1, r1, q1⟩ => ?_)
  obtain ⟨ev, eH⟩ := q1
  subst ev
  rw [eH] at I1
  obtain rfl : u = Value.ref f := r1
  refine Calls.spliced_nil ⟨I1.kIn, ?_⟩
  have rc : codeAny (model X.prog X.w) (A0.deeper (envOfC q1 sg1 s0.heap.objs.size g1 cd1)) (.call (.ref g) ⟨[.ref f], []⟩) (CR C8.CX0 (envOfC q1 sg1 s0.heap.objs.size g1 cd1 :: st0) X.prog X.w H s1 Q C8.E0) s1 := by
    refine LamX.run_ofS (N := Ng) (ps := [a]) (us := [.ref f]) (vs := [.ref f]) lk hcg Sg hr I1.env0 (hb s1 [.ref f] I1.kIn rfl) (.cons rfl .nil) rfl fun hr' => ?_
    obtain ⟨t', ht', hq'⟩ := hG f c' s1 H Q tl (fun W pn xe E p1 p2 tk hW => (F.deeper I1).act (i := 0) tk hW hr' hNg hva hd hcd) hco ht
    exact ⟨t', ht'.nox, hq'⟩
  refine wpAny_call (codeAny_mono rc fun r s2 hq => ?_)
  cases r with
  | error e => exact (show False from hq).elim
  | ok fl =>
    cases fl with
    | ret u => exact I1.after hq
    | next => exact False.elim hq
    | brk => exact False.elim hq
    | cont => exact False.elim hq
end
def caughtR (xs : List Nat) : R D → R D
  | .ok _ h => .ok .non h
  | .ex c fs h => if c ∈ xs then .ok (.exc c fs) h else .no
  | .no => .no
def dKr (r : R D) : TD := fun _ _ => r
def noxR (r : R D) : R D := r.calm fun d h => .ok d h
def E00 : XK := fun _ _ _ => False
def LamSim (K : PySem.W.Frag) (CA : CAs) (m : Mp) (h : CH) (H : Hp) (tl : XK → Hp → VK → Prop) (r : R D) : Prop := ∀ (E : XK) (σ : L2.St) (Q' : VK), PostE K CA (wxD E) m h H σ Q' r → tl E H Q'
section
variable {K : PySem.W.Frag} {CA : CAs} {W : WX} {f c' : Addr} {m m' : Mp} {h h' : CH} {H H' : Hp} {σ σ' : L2.St} {Q : VK} {r : R D} {q : Str}
theorem post_sig {E : XK} (t : PostE K CA (wxD E) m h H σ Q r) : PostE K CA (wxD E) m h H σ' Q r := by cases r <;> exact t
theorem postN {W' : WX} (t : PostE K CA W m h H σ Q (noxR r)) : PostE K CA W' m h H σ' Q r := by
  cases r with
  | ok d h => exact t
  | ex c fs h => exact t.elim
  | no => exact t
theorem post_w0 {W' : WX} (t : PostE K CA W' m h H σ Q (noxR r)) : PostE K CA W0 m h H σ' Q (noxR r) := by
  cases r with
  | ok d h => exact t
  | ex c fs h => exact t.elim
  | no => exact t
theorem stp_code (S : HR K CA m h H) (s : Stp m h H m' h' H') (e : H c' = some (LamX.CodeO c' q)) : H' c' = some (LamX.CodeO c' q) := by
  by_cases z : c' ∈ m.z
  · rw [s.zk c' z]; exact e
  · have nl : ¬ Live m h c' := fun l => by
      rcases l with ⟨k, o, ek, em⟩ | l
      · have x := (S.ob k o ek).2
        rw [em] at x
        unfold LamX.CodeO at e
        cases x with
        | lst e1 _ => rw [e] at e1; cases e1
        | dct e1 _ _ => rw [e] at e1; cases e1
        | lck e1 _ _ => rw [e] at e1; cases e1
        | lkl e1 _ => rw [e] at e1; cases e1
        | obj e1 _ _ => rw [e] at e1; cases e1
        | dctT e1 _ _ => rw [e] at e1; cases e1
        | dctD e1 _ _ _ _ _ _ =>
          rcases e1 with ⟨e1, _⟩ | ⟨e1, _⟩
          · rw [e] at e1
            exact ndict_nt c' q (Option.some.inj e1).symm
          · rw [e] at e1; cases e1
      · exact z l
    obtain ⟨_, o', e', l⟩ := s.kp c' _ nl e trivial
    rcases l with rfl | ⟨ob, kvs, q1, _⟩ | ⟨ps, qs, q1, _⟩
    · exact e'
    · unfold LamX.CodeO at q1; cases q1
    · unfold LamX.CodeO at q1; cases q1
def SimL (K : PySem.W.Frag) (CA : CAs) (W : WX) (f : Addr) (m : Mp) (h : CH) (H : Hp) (te : TE) (td : TD) : Prop := ∀ (σ : L2.St) (ρ : DE) (Q' : VK), SO K CA m h H σ ρ → σ[0]? = some (some (.ref f)) → PostE K CA W m h H σ Q' (td ρ h) → te σ H Q'
def SimLS (K : PySem.W.Frag) (CA : CAs) (W : WX) (f : Addr) (m : Mp) (h : CH) (H : Hp) (tS : TS) (u : SD) : Prop := ∀ (σ : L2.St) (ρ : DE) (D' : Ends), SO K CA m h H σ ρ → σ[0]? = some (some (.ref f)) → PostS K CA W m h H D' (u ρ h) → tS D' σ H
theorem simL_asg {sl : List Nat} {ha : TE} {ta : TD} {gH : TG} {tg : TGD} (x : SimL K CA W f m h H ha ta) (hg : SimG K CA sl gH tg) : SimLS K CA W f m h H (tAsg ha gH) (dAsg ta tg) := fun σ ρ D' S e0 q =>
  x σ ρ _ S e0 (PostS.bind S q fun d h1 m1 v H1 s1 S1 r q1 => hg m1 h1 H1 σ ρ v d _ (S.move s1 S1) r (put_post q1 fun ρ' h' m' σ' H' s' S' q' => q' m' σ' H' .refl S'))
theorem simL_seq {t t' : TS} {u w : SD} (x : SimLS K CA W f m h H t u) (y : SimS K CA W t' w) : SimLS K CA W f m h H (tSeq t t') (dSeq u w) := fun σ ρ D' S e0 q =>
  x σ ρ { D' with nx := t' D' } S e0 (by
    unfold dSeq at q
    cases e : u ρ h with
    | nx ρ' h' => rw [e] at q; exact fun m' σ' H' s S' => y m' h' H' σ' ρ' D' S' (PostS.from (show PostS K CA W m h H D' (w ρ' h') from q) s)
    | rt d h' => rw [e] at q; exact q
    | bk d h' => rw [e] at q; exact q
    | ct d h' => rw [e] at q; exact q
    | ex ρ' c fs h' => rw [e] at q; exact q
    | no => rw [e] at q; exact q)
def tCght (f c' : Addr) (q : Str) (K : PySem.W.Frag) (CS : Addr) (tl : XK → Hp → VK → Prop) : TE := fun σ H Q => σ[0]? = some (some (.ref f)) ∧ H c' = some (LamX.CodeO c' q) ∧ TCaught K CS tl H Q
theorem simL_caught {xs : List Nat} {cs : Nat} {tl : XK → Hp → VK → Prop} (hx : ∀ c ∈ xs, PySem.W.exmOne K (.ref (CA c)) (.ref (CA cs)) = some true) (s : LamSim K CA m h H tl r) (hc : H c' = some (LamX.CodeO c' q)) : SimL K CA W f m h H (tCght f c' q K (CA cs) tl) (dKr (caughtR xs r)) := fun σ ρ Q' S e0 t => by
  refine ⟨e0, hc, s _ σ _ ?_⟩
  unfold dKr at t
  cases r with
  | no => exact t.elim
  | ok d h' => exact fun m' v H' s' S' r => ⟨.non, rfl, t m' .non H' s' S' .non⟩
  | ex c fs h' =>
    obtain ⟨hc, t⟩ := post_ite t
    intro m' cls dd H' s' S' xr
    obtain ⟨rfl, hd⟩ := xr
    refine ⟨true, hx c hc, fun _ a na => ?_, fun z => nomatch z⟩
    have sA := stp_laid (u := ExV (CA c) a dd) S' na
    refine t m' _ _ (s'.trans sA) (S'.laid na) ?_
    rcases hd with ⟨rfl, rfl⟩ | ⟨x, hf, rfl, nx, ex, en, ra⟩
    · exact .exc (fs := []) (S'.fresh na) upd_same (.inl ⟨rfl, rfl⟩) rfl .nil
    · have ne : x ≠ a := ne_of_none ex na
      exact .exc (fs := hf) (S'.fresh na) upd_same (.inr ⟨x, rfl, nx, by rw [upd_ne ne]; exact ex⟩) en (ra.move sA)
end
structure FnL (P : Program) (w : World) (K : PySem.W.Frag) (mg : Str → Option Value) (base : Heap) (CA : CAs) (g : Bool) (k kb : Nat) (fa : Addr) (fd : FuncData) (ps : List Str) (n : Nat) (F : R D → FD) : Prop where
  go : ∀ (X : Cx) (f c' : Addr) (tl : XK → Hp → VK → Prop) (A : Around) (outer : List Env) (s : Shared) (H : Hp) (args : Args) (us : List Value) (vs : List V) (Q : VK) (m : Mp) (h : CH) (ds : List D) (r : R D),
    X.prog = P → X.w = w → X.K = K → X.mg = mg → X.base = base → (g = true → A.guards = some []) → Room k A → Env0 P w K mg base A outer s H → BindsTo s fd args (ps.zip (.ref f :: us)) → Vals vs us → vs.length = n →
    LamF X f c' kb tl outer s H → H c' = some (LamX.CodeO c' (X.env.qual ++ "<lambda>")) → LamSim K CA m h H tl r → HR K CA m h H → RpAll K CA m h H vs ds → PostE K CA W0 m h H [] Q (noxR (F r ds h)) →
    codeAny (model P w) A (.call (.ref fa) args) (CR (L2.CX P w) outer P w H s Q E00) s
def startL (N : Nat) (ds : List D) : DE := none :: startD N ds
section
variable {P : Program} {w : World} {K : PySem.W.Frag} {mg : Str → Option Value} {base : Heap} {CA : CAs} {g : Bool}
theorem cx_00 {outer : List Env} {H : Hp} {s s' : Shared} {e : Value} (z : L2.CX P w outer H s E00 e s') : False := by
  obtain ⟨_, _, _, _, _, _, _, _, _, _, _, _, _, _, _, _, z⟩ := z
theorem okL {nm qual : Str} {st : Stmt} {fa : Addr} {fd : FuncData} {N ps : List Str} {k kb n nn : Nat} {u : R D → SD} (F : Fun K nm qual st fa fd) (S : FnScope N ps (defScope st)) (hm : ps.length = n + 1) (hn : N.length = nn + 1)
    (hb : ∀ (cd : Value) (X : Cx) (f c' : Addr) (tl : XK → Hp → VK → Prop) (A : Around) (outer : List Env) (s : Shared) (H : Hp), X.prog = P → X.w = w → X.K = K → X.mg = mg → X.base = base → (g = true → A.guards = some []) → Room k (A.deeper (envOfC qual (defScope st) s.heap.objs.size fa cd)) →
      LamF X f c' kb tl outer s H → H c' = some (LamX.CodeO c' (X.env.qual ++ "<lambda>")) → Takes (cxD P w K mg base N qual st fa cd A outer s H E00) (wxD E00) →
      ∃ tS, PSs (cxD P w K mg base N qual st fa cd A outer s H E00) (defBody st) tS ∧ ∀ (m : Mp) (h : CH) (r : R D), HR K CA m h H → LamSim K CA m h H tl r → SimLS K CA (wxD E00) f m h H tS (u r)) :
    FnL P w K mg base CA g (k + 1) kb fa fd ps n (fun r ds h => (u r (startL nn ds) h).res) := by
  obtain ⟨x1, x2, x3, x4, x5, x6, cd, x8, x9, rfl, look, code⟩ := F.ex
  refine ⟨fun X f c' tl A outer s H args us vs Q m h ds r p1 p2 p3 p4 p5 hg room e0 bd rv hl LF hc hsim hR rp hq => ?_⟩
  have len1 : (V.ref f :: vs).length = ps.length := by rw [hm]; simp [hl]
  have kin : K.In s.heap := e0.mod.kin.keeps fun b o e => (e0.bs b o e).1
  have nl : s.heap.NoLimit := e0.mod.nolimit.keeps fun b o e => (e0.bs b o e).1
  have kinds : ∀ y, y ∈ ps.zip (.ref f :: us) → (defScope st).names.lookup y.1 = some .local ∨ ((defScope st).names.lookup y.1 = some .cell ∧ ((cellsFrom (s.heap.objs.size + 1) (defScope st).names []).lookup y.1).isSome = true) := by
    rintro ⟨a, b⟩ hm
    exact (S.par a (List.of_mem_zip hm).1).imp id fun q => ⟨q, PySem.W.cellsFrom_some _ _ _ (.inl q)⟩
  refine codeAny_call_function room.depth (kin _ _ look) rfl S.co S.gen rfl (PySem.W.codeRec_of kin code) (bd _ _ _ _ (wpAny_newFunctionEnv_cells S.kind kinds fun env ee s1 hc => ?_))
  cases ee
  refine ⟨nl.keeps hc.toInCall.keep, codeAny_func ?_⟩
  obtain ⟨t, ht, hS⟩ := hb cd X f c' tl A outer s H p1 p2 p3 p4 p5 hg (room.deeper _) LF ‹_› (takes_of rfl rfl rfl rfl)
  have inv : Inv (cxD P w K mg base N qual st fa cd A outer s H E00) [] (start N (.ref f :: vs)) H s1 := inv_start S room.hd e0 len1 (.cons rfl rv) hc
  have back : ∀ {σ' : L2.St} {H2 : Hp} {v : V} {u : Value} {s2 : Shared}, Inv (cxD P w K mg base N qual st fa cd A outer s H E00) [] σ' H2 s2 → RelV v u → Q v H2 → CE outer P w H s Q u s2 := fun {_ H2 v _ _} J r q => ⟨v, H2, J.os, J.bare, J.base, J.hok, r, q⟩
  have hle : (V.ref f :: vs).length ≤ N.length := by
    have := congrArg List.length S.pre
    rw [List.length_take] at this
    rw [len1]
    omega
  have so : SO K CA m h H (start N (.ref f :: vs)) (startL nn ds) := by
    have dl := rp.length
    refine ⟨hR, ?_, fun i d e => ?_⟩
    · simp only [L2.start, startL, startD, List.length_append, List.length_map, List.length_replicate, List.length_cons] at hle ⊢
      omega
    · cases i with
      | zero => cases e
      | succ i =>
        have e' : (startD nn ds)[i]? = some (some d) := e
        obtain ⟨v, e1, e2⟩ := (so_start (K := K) (CA := CA) (N.drop 1) (vs := vs) (by rw [List.length_drop]; simp at hle; omega) hR rp).sl i d (by rw [List.length_drop, hn]; exact e')
        refine ⟨v, ?_, e2⟩
        have : (L2.start N (.ref f :: vs))[i + 1]? = (L2.start (N.drop 1) vs)[i]? := by
          simp only [L2.start, List.map_cons, List.cons_append, List.getElem?_cons_succ, List.length_drop, List.length_cons]
          congr 3
          omega
        rw [this]
        exact e1
  have s0 : (start N (.ref f :: vs))[0]? = some (some (.ref f)) := rfl
  have hq' := hS m h r hR hsim _ _ { nx := fun _ H2 => Q .non H2, rt := Q } so s0 (res_post (σ := []) (postN hq))
  refine wpAny_mono (ht.run [] s1 (start N (.ref f :: vs)) H _ inv hq') (fun fl s2 h2 => ?_) fun _ _ z => z
  rcases fl with _ | _ | _ | u
  · obtain ⟨_, _, J, q⟩ := h2
    exact back (v := V.non) (u := Value.none) J rfl q
  · obtain ⟨_, _, _, q⟩ := h2; exact False.elim q
  · obtain ⟨_, _, _, q⟩ := h2; exact False.elim q
  · obtain ⟨_, _, _, J, r, q⟩ := h2
    exact back J r q
end
structure Dl (P : Program) (w : World) (K : PySem.W.Frag) (mg : Str → Option Value) (base : Heap) (CA : CAs) (x : Str) (g : Bool) (k kb : Nat) (ps : List Str) (n : Nat) (F : R D → FD) : Prop where
  ex : ∃ (fx : Addr) (fd : FuncData), FnL P w K mg base CA g k kb fx fd ps n F ∧ mg x = some (.ref fx) ∧ PySem.W.keepIn K (.ref fx) = true ∧ L2.Binds K fd ps []
  ln : ps.length = n + 1
section
variable {X : Cx} {f c' : Addr} {k kb : Nat} {tl : XK → Hp → VK → Prop} {st0 : List Env} {s0 : Shared} {H0 : Hp} {P : Program} {w : World} {K : PySem.W.Frag} {mg : Str → Option Value} {base : Heap} {CA : CAs} {g : Bool}
theorem pe_cght (F : LamF X f c' kb tl st0 s0 H0) {x y : Str} {cs : Nat} {E1 : XK} {N1 : List Str} {q1 : Str} {st1 : Stmt} {g1 : Addr} {cd1 : Value} {A0 : Around} {p p3 pos : Pos} (G : Cgt K CA mg x cs) (e1 : X.prog = P) (e2 : X.w = w) (e3 : X.K = K) (e4 : X.mg = mg) (e5 : X.base = base)
    (hg : Gl (cxD P w K mg base N1 q1 st1 g1 cd1 A0 st0 s0 H0 E1) x) (hr : Room (kb + 2) (A0.deeper (envOfC q1 (defScope st1) s0.heap.objs.size g1 cd1))) (hyN : N1[0]? = some y) (hyv : Vis (defScope st1) y)
    (hdb : (x == ("__debug__" : Str)) = false := by decide) (hyd : (y == ("__debug__" : Str)) = false := by decide) (hyc : (y == ("__classdict__" : Str)) = false := by decide) :
    PE (cxD P w K mg base N1 q1 st1 g1 cd1 A0 st0 s0 H0 E1) (.Call (.Name x p) [.Name y p3] [] pos) (tCght f c' (X.env.qual ++ "<lambda>") K (CA cs) tl) := by
  subst e1 e2 e3 e4 e5
  obtain ⟨g, a, pg, bg, sg, kV, doc, pm, cdv, ct, oc, an, od, osl, Ng, h1, h2, h3, h4, h5, h6, h7, h8, h9, h10, h11⟩ := G.ex
  exact pe_lamarg F hg h1 h2 h3 h4 h5 h6 h7 h8 (h11 _ _ rfl rfl) hr hyN hyv hdb h9 h10 hyd hyc
end
def eqB (k : Bool) (v : Value) : Bool := match v with
  | .bool b => b == k
  | _ => false
theorem vals_bls : ∀ {bs : List Bool} {us : List Value}, Vals (bs.map V.bl) us → us = bs.map Value.bool
  | [], _, r => by cases r; rfl
  | b :: bs, _, r => by
    cases r with
    | cons r1 r2 =>
      rw [vals_bls r2]
      have : _ = Value.bool b := r1
      rw [this]
      rfl
theorem eqB_count {k : Bool} : ∀ bs : List Bool, (bs.map Value.bool).countP (eqB k) = bs.count k
  | [] => rfl
  | b :: bs => by
    rw [List.map_cons, List.countP_cons, List.count_cons, eqB_count bs]
    rfl
def rCntB (K : PySem.W.Frag) : V → List V → Hp → VK → Prop := fun x xs H Q => ∃ (p : Addr) (bs : List Bool) (k : Bool), x = .ref p ∧ xs = [.bl k] ∧ SqL K H p (bs.map V.bl) ∧ Q (.int (bs.count k : Nat)) H
theorem mt_bcount {X : Cx} : MtR X "list.count" (rCntB X.K) := by
  intro pins s σ H x xs v us Q I rx rxs h
  obtain ⟨p, bs, k, rfl, rfl, hs, q⟩ := h
  cases rx
  obtain ⟨u, rfl, ru⟩ := rxs.one
  obtain rfl : u = Value.bool k := ru
  obtain ⟨its, rv, ⟨⟨cls, dd, data, sl⟩, n, ho, hc, hdn, hd⟩, hlen⟩ := I.list hs
  simp only at hc hd
  subst hc hd
  have hi := vals_bls rv
  refine call_meets PySem.F.slot_list_count ⟨_, ho, rfl⟩ PySem.F.entry_list_count (PySem.F.args_list_count_2 _ _)
    (SeqAt.list_countAt p its.toArray n dd sl (.bool k) (eqB k)) ⟨ho, fun y hy => ?_, ?_⟩
  · have hy' : y ∈ bs.map Value.bool := by rw [← hi]; simpa using hy
    obtain ⟨b, _, rfl⟩ := List.mem_map.mp hy'
    exact SeqAt.EqAt.bool_bool b k
  have ec : its.toArray.toList.countP (eqB k) = bs.count k := by
    rw [List.toList_toArray, hi]
    exact eqB_count bs
  refine ⟨.int (bs.count k : Nat), H, I.tok _, ⟨s.toks, ?_⟩, q⟩
  show Value.int ((its.toArray.toList.countP (eqB k) : Nat) : Int) s.toks = Value.int ((bs.count k : Nat) : Int) s.toks
  rw [ec]
def fCntB : FM := fun x xs h => match xs with
  | [.bl k] => match lstOf h x with
    | some ds => match blsOf ds with
      | some bs => .ok (.int (bs.count k : Nat)) h
      | none => .no
    | none => .no
  | _ => .no
section
variable {K : PySem.W.Frag} {CA : CAs}
theorem bls_rel {m : Mp} {h : CH} {H : Hp} : ∀ {vs : List V} {ds : List D} {ys : List Bool}, RpAll K CA m h H vs ds → blsOf ds = some ys → vs = ys.map V.bl
  | _, [], ys, r, e => by
    cases r
    cases e
    rfl
  | _, d :: ds, ys, r, e => by
    cases r with
    | cons r1 r2 =>
      cases d with
      | bl x =>
        cases r1
        simp only [blsOf] at e
        cases q : blsOf ds with
        | none => rw [q] at e; cases e
        | some zs =>
          rw [q] at e
          cases e
          rw [bls_rel r2 q]
          rfl
      | _ => cases e
theorem sim_cntB : SimM K CA (rCntB K) fCntB := by
  intro W σ m h H x dx xs ds Q' S rx rs t
  unfold fCntB at t
  split at t
  · split at t
    · rename_i es e1
      split at t
      · rename_i ys e2
        cases rs with
        | cons r1 r2 =>
          cases r1; cases r2
          obtain ⟨a, vs, rfl, q, rr⟩ := rp_lst S rx e1
          rw [bls_rel rr e2] at q
          exact ⟨a, ys, _, rfl, rfl, .of q, t.here S (.int _)⟩
      · exact t.elim
    · exact t.elim
  · exact t.elim
end
end CM
namespace L2
open PySem PySem.Spec PyProof.Rows
end L2
namespace CM
open PySem PySem.Spec PySem.Calls PyProof.Rows L2
open PySem PySem.Spec PyProof.Rows L2
section
variable {P : Program} {w : World} {K : PySem.W.Frag} {H : Hp} {h : Heap}
end
def dPutN (kvs : List (D × D)) (x : D) (k : NestedKey) (d : D) : List (D × D) :=
  if (kvs.any fun p => decide (nkD 8 p.1 = some k)) = true then kvs.map (fun p => if nkD 8 p.1 = some k then (p.1, d) else p) else kvs ++ [(x, d)]
section
variable {K : PySem.W.Frag} {CA : CAs} {m m' : Mp} {h h' : CH} {H H' : Hp} {v : V} {d x : D} {k : NestedKey} {xs : List (NestedKey × Addr × Value)} {kvs : List (D × D)} {a b : Addr} {u : Value} {j : Nat}
theorem DNs.from : ∀ {xs : List (NestedKey × Addr × Value)} {kvs : List (D × D)} {vs : List V}, xs.map (fun x => some x.1) = kvs.map (fun p => nkD 8 p.1) → RpAll K CA m h H (xs.map fun x => V.ref x.2.1) (kvs.map (·.1)) → Vals vs (xs.map (·.2.2)) → RpAll K CA m h H vs (kvs.map (·.2)) → DNs K CA m h H xs kvs
  | [], [], _, _, _, _, _ => .nil
  | [], _ :: _, _, e, _, _, _ => by simp at e
  | _ :: _, [], _, e, _, _, _ => by simp at e
  | (k, b, u) :: xs, (x, d) :: kvs, vs, e, r1, rv, r2 => by
    simp only [List.map_cons, List.cons.injEq] at e
    cases r1 with
    | cons r1 r1' => cases rv with
      | cons rv rv' => cases r2 with
        | cons r2 r2' => exact .cons e.1.symm r1 rv r2 (DNs.from e.2 r1' rv' r2')
theorem DNs.mv (s : Mv m h H m' h' H') (r : DNs K CA m h H xs kvs) : DNs K CA m' h' H' xs kvs := by
  induction r with
  | nil => exact .nil
  | cons e r1 rv r2 _ ih => exact .cons e (r1.mv s) rv (r2.mv s) ih
theorem DNs.append {ys : List (NestedKey × Addr × Value)} {ls : List (D × D)} (r : DNs K CA m h H xs kvs) (r' : DNs K CA m h H ys ls) : DNs K CA m h H (xs ++ ys) (kvs ++ ls) := by
  induction r with
  | nil => exact r'
  | cons e r1 rv r2 _ ih => exact .cons e r1 rv r2 ih
theorem DNs.any (r : DNs K CA m h H xs kvs) : (kvs.any fun p => decide (nkD 8 p.1 = some k)) = (atKey xs k).isSome := by
  induction r with
  | nil => rfl
  | @cons k1 b u v x d xs kvs e r1 rv r2 _ ih =>
    by_cases c : k1 = k
    · subst c
      simp [atKey, e]
    · simp only [List.any_cons, e, Option.some.injEq, decide_eq_false c, Bool.false_or, ih]
      simp [atKey, c]
theorem DNs.put (r : DNs K CA m h H xs kvs) (ek : nkD 8 x = some k) (rk : Rp K CA m h H (.ref b) x) (rv : RelV v u) (rd : Rp K CA m h H v d) : DNs K CA m h H (storedH xs k b u) (dPutN kvs x k d) := by
  unfold storedH dPutN
  rw [r.any]
  split
  · rename_i c0
    clear c0 ek rk
    induction r with
    | nil => exact .nil
    | @cons k1 b1 u1 v1 x1 d1 xs kvs e r1 rv1 r2 _ ih =>
      simp only [List.map_cons]
      by_cases c : k1 = k
      · subst c
        rw [if_pos e, show putAt k1 u (k1, b1, u1) = (k1, b1, u) from if_pos rfl]
        exact .cons e r1 rv rd ih
      · rw [if_neg (by rw [e]; simpa using c), show putAt k u (k1, b1, u1) = (k1, b1, u1) from if_neg c]
        exact .cons e r1 rv1 r2 ih
  · exact r.append (.cons ek rk rv rd .nil)
end
open PySem PySem.Spec PySem.Calls PyProof.Rows L2 PySem.W
section
variable {K : PySem.W.Frag} {CA : CAs} {H0 : Hp} {he : TE} {te : TD}
def RL (K : PySem.W.Frag) (CA : CAs) : Addr → List D → Mp → CH → Hp → Prop := fun a acc m h H => ∃ xs, H a = some (.lst xs) ∧ RpAll K CA m h H xs acc
theorem mv_RL : Moves (RL K CA) := fun a x m h H m' h' H' ⟨xs, e, r⟩ s z => ⟨xs, (s.zk a z).trans e, r.move s⟩
def bL (te : TD) : List D → DE → CH → R (List D) := fun acc ρ h => (te ρ h).calm fun y h => if acc.length < sizeLine then .ok (acc ++ [y]) h else .no
def tbL (he : TE) : Addr → L2.St → Hp → (Hp → Prop) → Prop := fun a σ H Nx => he σ H fun y H7 => ∃ acc, H7 a = some (.lst acc) ∧ acc.length < sizeLine ∧ Nx (upd H7 a (.lst (acc ++ [y])))
theorem sim_bL (sv : SimE K CA W0 he te) : SimB K CA (RL K CA) (tbL he) (bL te) := fun a m h H σ ρ acc Nx S pz ra q => by
  unfold bL at q
  obtain ⟨y, h1, e1, q1⟩ := q.calm
  refine sv m h H σ ρ _ S ?_
  rw [e1]
  intro m1 v1 H1 s1 S1 r1
  have q3 := q1.base (s1.sc (p := a))
  have pz1 : a ∈ m1.z := by rw [s1.z]; exact pz
  obtain ⟨xs, ea, rr⟩ := mv_RL _ _ _ _ _ _ _ _ ra s1 pz
  by_cases hz : acc.length < sizeLine
  · rw [if_pos hz] at q3
    have sm := sc_made (u := .lst (xs ++ [v1])) S1 pz1
    exact ⟨xs, ea, by rw [rr.length]; exact hz, q3 _ _ sm (S1.made pz1) ⟨_, upd_same, (rr.append (.cons r1 .nil)).mv sm.toMv⟩⟩
  · rw [if_neg hz] at q3
    exact q3.elim
def tb2L (wi : TI) (g : TG) (tt : TT) (he : TE) (vs1 : List Nat) : Addr → L2.St → Hp → (Hp → Prop) → Prop := fun a σ H Nx => wi σ H fun J H4 => ∃ W : Nat → Nat → Hp → Prop, (∃ m, W 0 m H4) ∧ ∀ j k H, W j k H →
  (J.stop j H ∧ Nx H) ∨ (J.go j H ∧ ∃ Nx1 : Hp → Prop, (∀ H', Nx1 H' → ∃ k', k' < k ∧ W (j + 1) k' H') ∧ ∀ x H', J.yld j H x H' → g x (wipe σ vs1) H' fun σ3 H5 => wipe σ3 vs1 = wipe σ vs1 ∧ tt σ3 H5 fun b H6 => if b = true then tbL he a σ3 H6 Nx1 else Nx1 H6)
def b2L (ti : TDw) (tg : TGD) (tt : TB) (te : TD) (vs1 : List Nat) : List D → DE → CH → R (List D) := fun acc ρ h => (ti ρ h).calm fun w h => match w.2 with
  | none => dGL tg tt (bL te) (wipeD ρ vs1) acc w.1 h
  | some _ => .no
theorem sim_b2L {ti : TDw} {tg : TGD} {tt : TB} {vs1 sl : List Nat} {wi : TI} {g : TG} {hT : TT} (hi : SimI K CA W0 H0 wi ti) (hg : SimG K CA sl g tg) (ht : SimT K CA W0 hT tt) (sv : SimE K CA W0 he te) (ho : ∀ j, j ∈ sl → j ∈ vs1) :
    SimB K CA (RL K CA) (tb2L wi g hT he vs1) (b2L ti tg tt te vs1) := fun a m h H σ ρ acc Nx S pz ra q => by
  unfold b2L at q
  obtain ⟨w, h1, e1, q1⟩ := q.calm
  refine hi m h H σ ρ _ S ?_
  rw [e1]
  intro m1 J H1 s1 S1 wk uo
  split at q1
  · have q2 := q1.base (s1.sc (p := a))
    exact loop_sim hg ht (sim_bL sv) mv_RL ho wk Stp.refl.toSz (S.move s1 S1) (by rw [s1.z]; exact pz) (mv_RL _ _ _ _ _ _ _ _ ra s1 pz) q2
  · exact q1.elim
end
def dLc2 (nm : Bool) (ti : TDw) (tg : TGD) (tt : TB) (ti1 : TDw) (tg1 : TGD) (tt1 : TB) (te : TD) (vs vs1 : List Nat) : TD := fun ρ h => (ti ρ h).bind fun w h => ((dGL tg tt (b2L ti1 tg1 tt1 te vs1) (wipeD ρ vs) [] w.1 h).bind fun y h => mkL nm y h).unl w.2
section
variable {X : Cx} {K : PySem.W.Frag} {CA : CAs} {W : WX} {elt tge iter tg1e iter1 : Expr} {ifs ifs1 : List Expr} {pos : Pos} {gH g1H : TG} {tg tg1 : TGD} {hT h1T : TT} {tt tt1 : TB} {he : TE} {te : TD} {wH w1H : TI} {ti ti1 : TDw}
theorem we_lc2 (nm : Bool) {scope : Scope} {own : List (Str × Nat)} {sl sl1 vs1 : List Nat} (hc : X.calm = true) (hN : X.N.Nodup) (hi : WI X K CA W tge iter wH ti) (ok : BlkOk X.N X.env.scope scope own)
    (hg : ∀ (s : Shared) (H : Hp) (C : Addr) (cl : List (Str × Addr)) (fp : List Addr), WG (X.blk s H scope (compEnvC scope cl C X.env) fp) K CA tge sl gH tg)
    (ht : ∀ (s : Shared) (H : Hp) (C : Addr) (cl : List (Str × Addr)) (fp : List Addr), WTs (X.blk s H scope (compEnvC scope cl C X.env) fp) K CA W0 ifs hT tt)
    (hi1 : ∀ (s : Shared) (H : Hp) (C : Addr) (cl : List (Str × Addr)) (fp : List Addr), WI (X.blk s H scope (compEnvC scope cl C X.env) fp) K CA W0 tg1e iter1 w1H ti1)
    (hg1 : ∀ (s : Shared) (H : Hp) (C : Addr) (cl : List (Str × Addr)) (fp : List Addr), WG (X.blk s H scope (compEnvC scope cl C X.env) fp) K CA tg1e sl1 g1H tg1)
    (ht1 : ∀ (s : Shared) (H : Hp) (C : Addr) (cl : List (Str × Addr)) (fp : List Addr), WTs (X.blk s H scope (compEnvC scope cl C X.env) fp) K CA W0 ifs1 h1T tt1)
    (hel : ∀ (s : Shared) (H : Hp) (C : Addr) (cl : List (Str × Addr)) (fp : List Addr), WE (X.blk s H scope (compEnvC scope cl C X.env) fp) K CA W0 elt he te)
    (ho : ∀ j, j ∈ sl → j ∈ own.map (·.2)) (ho1 : ∀ j, j ∈ sl1 → j ∈ vs1) (hv1 : ∀ i ∈ vs1, i ∈ own.map (·.2)) (hs : ∀ x, foldedSetIterable iter X.env x = pure x := by intro _; rfl) (hs1 : ∀ env x, foldedSetIterable iter1 env x = pure x := by intro _ _; rfl) :
    WE X K CA W (.ListComp elt [⟨tge, iter, ifs, 0⟩, ⟨tg1e, iter1, ifs1, 0⟩] scope pos) (fun σ H Q => tDcG (.lst []) wH gH hT (tb2L w1H g1H h1T he vs1) (own.map (·.2)) σ H fun v => UnlP X (Q v)) (dLc2 nm ti tg tt ti1 tg1 tt1 te (own.map (·.2)) vs1) :=
  ⟨pe_unl (t := tDcG (.lst []) wH gH hT (tb2L w1H g1H h1T he vs1) (own.map (·.2))) (pe_lc2 hc hN hi.pe ok hv1 (fun s H C cl fp => (hg s H C cl fp).pe) (fun s H C cl fp => (ht s H C cl fp).pe) (fun s H C cl fp => (hi1 s H C cl fp).pe) (fun s H C cl fp => (hg1 s H C cl fp).pe) (fun s H C cl fp => (ht1 s H C cl fp).pe) (fun s H C cl fp => (hel s H C cl fp).pe) hs hs1),
    sim_dcG (mk := fun y h => mkL nm y h) hi.sim (hg X.s_0 X.H_0 0 [] []).sim (ht X.s_0 X.H_0 0 [] []).sim (sim_b2L (hi1 X.s_0 X.H_0 0 [] []).sim (hg1 X.s_0 X.H_0 0 [] []).sim (ht1 X.s_0 X.H_0 0 [] []).sim (hel X.s_0 X.H_0 0 [] []).sim ho1) mv_RL ho trivial (fun m h H a => ⟨[], upd_same, .nil⟩)
      fun sb S n s S2 ra uo t => let ⟨kv, e, r⟩ := ra; doneL sb S n s S2 e r uo t⟩
end
section
variable {X : Cx} {K : PySem.W.Frag} {CA : CAs} {W : WX} {o value : Expr} {f : Str} {pos tpos : Pos} {ha hv : TE} {ta tv : TD} {cs : List Nat}
theorem ws_fldAug (hf : FldOf K CA cs f) (x : WE X K CA W o ha ta) (y : WE X K CA W value hv tv) (hK : X.K = K := by rfl) : WS X K CA W (.AugAssign (.Attribute o f tpos) .Add value pos) (sFldAug K ha hv rAdd f) (dFldAug cs f ta tv) := by
  subst hK
  refine ⟨ps_fldaug x.pe y.pe in_add, fun m hh H σ ρ D' S q => x.sim m hh H σ ρ _ S (PostS.bind S q fun d h1 m1 v H1 s1 S1 r q1 => ?_)⟩
  split at q1
  · rename_i k er
    have er := refOf_eq er
    subst er
    split at q1
    · rename_i c fs eo
      by_cases hc : c ∈ cs ∧ fs.length < 1000
      · rw [if_pos hc] at q1
        split at q1
        · rename_i i el
          obtain ⟨dx, hfs, e1, en, rr⟩ := mo_obj S1 eo
          obtain ⟨u, hu, ru⟩ := rp_look en rr el
          cases ru
          refine ⟨_, _, dx, hfs, _, rp_ref r, e1, (hf c hc.1).1, (hf c hc.1).2, hu, y.sim m1 h1 H1 σ ρ _ (S.move s1 S1) (PostS.bind (S.move s1 S1) q1 fun d2 h2 m2 v2 H2 s2 S2 r2 q2 => ?_)⟩
          split at q2
          · rename_i j
            cases r2
            refine ⟨i, j, rfl, rfl, ?_⟩
            split at q2
            · rename_i c' fs' eo2
              by_cases hc2 : c' = c ∧ fs'.length < 1000
              · rw [if_pos hc2] at q2
                obtain ⟨rfl, hl⟩ := hc2
                obtain ⟨dx2, hfs2, e2, en2, rr2⟩ := mo_obj S2 eo2
                have em : m1 k = m2 k := by
                  have := rp_ref (r.move s2)
                  rw [rp_ref r] at this
                  exact V.ref.inj this
                obtain ⟨i1, i2⟩ := rp_putF (f := f) (Rp.int (K := X.K) (CA := CA) (m := m2) (h := h2) (H := H2) (i + j)) en2 rr2
                refine ⟨dx2, hfs2, by rw [em]; exact e2, by have := congrArg List.length en2; simp at this; omega, ?_⟩
                have sp := stp_put (o' := .obj c' (putD f (.int (i + j)) fs')) (u := .ins (CA c') dx2 (putF f (V.int (i + j)) hfs2)) S2 eo2 trivial
                rw [em]
                exact q2 m2 σ _ sp (((S.move s1 S1).move s2 S2).move sp (S2.put eo2 (.obj upd_same i1 (i2.mv (mv_put eo2)))))
              · rw [if_neg hc2] at q2; exact q2.elim
            · exact q2.elim
          · exact q2.elim
        · exact q1.elim
      · rw [if_neg hc] at q1; exact q1.elim
    · exact q1.elim
  · exact q1.elim
end
structure LamB where
  params : Arguments
  body : Expr
  scope : Scope
  t : XK → TE
  tb : TD
structure LamI where
  b : LamB
  f : Addr
  c' : Addr
  pm : Value
  ctv : Value
def LamI.pin (X : Cx) (l : LamI) : Addr × Obj := (l.f, lamO X l.b.params l.b.body l.b.scope l.pm l.c' l.ctv)
structure LamB.Ok (X : Cx) (K : PySem.W.Frag) (CA : CAs) (kb : Nat) (b : LamB) : Prop where
  L : LamX.LamS X.env.scope b.scope
  hdef : defaultsOf b.params X.env = ([], [])
  hbind : ∀ (q : Str) (cl : List (Str × Addr)) (pm cv ctv : Value), bindArgs (PySem.W.kla_fn "<lambda>" q b.params b.body b.scope cl pm cv ctv) ⟨[], []⟩ = pure []
  hbody : ∀ (A : Around) (outer : List Env) (s : Shared) (H : Hp) (E : XK) (f c' : Addr), Room kb (A.deeper (LamX.lamEnv X b.scope s.heap.objs.size f c')) → PE (LamX.lamCx X A outer s H E b.scope f c') b.body (b.t E)
  sim : ∀ E : XK, SimE K CA (wxD E) (b.t E) b.tb
section
variable {X : Cx} {pins : List (Addr × Obj)} {σ : L2.St} {H : Hp} {s : Shared} {K : PySem.W.Frag} {CA : CAs} {kb k : Nat} {g : Bool}
def tFr (K : PySem.W.Frag) (CA : CAs) (Fr : R D → FD) (t : XK → TE) : TE := fun σ H Q => ∃ (m : Mp) (h : CH) (r : R D), HR K CA m h H ∧ LamSim K CA m h H (fun E H' Q' => t E σ H' Q') r ∧ PostE K CA W0 m h H [] Q (noxR (Fr r [] h))
def dFr (Fr : R D → FD) (tb : TD) : TD := fun ρ h => noxR (Fr (tb ρ h) [] h)
theorem sim_fr {W : WX} {Fr : R D → FD} {t : XK → TE} {tb : TD} (s : ∀ E : XK, SimE K CA (wxD E) (t E) tb) : SimE K CA W (tFr K CA Fr t) (dFr Fr tb) := fun m h H σ ρ Q' S q =>
  ⟨m, h, tb ρ h, S.hr, fun E σ' Q'' q2 => s E m h H σ ρ Q'' S (post_sig q2), post_w0 q⟩
def refsL (ls : List LamI) : List V := ls.map fun l => .ref l.f
theorem pe_blklam {ls : List LamI} {x y : Str} {ps : List Str} {Fr : R D → FD} {ix : Nat} {p p3 pos : Pos} {s3 : Shared} {H3 : Hp} {cscope : Scope} {cl : List (Str × Addr)} {C : Addr} {fp : List Addr}
    (G : Dl X.prog X.w X.K X.mg X.base CA x g k kb ps 0 Fr) (hK : X.K = K) (hO : ∀ l ∈ ls, l.b.Ok X K CA kb) (hg : Gl (X.blk s3 H3 cscope (compEnvC cscope cl C X.env) fp) x) (hG : g = true → X.A.guards = some []) (hr : Room k X.A) (hyN : X.N[ix]? = some y) (hyv : Vis (compEnvC cscope cl C X.env).scope y)
    (Ie : Inv X (ls.map (LamI.pin X) ++ pins) σ H3 s3) (hfp : ∀ b ∈ fp, FpOk X (ls.map (LamI.pin X) ++ pins) H3 b)
    (hdb : (x == ("__debug__" : Str)) = false) (hyd : (y == ("__debug__" : Str)) = false) (hyc : (y == ("__classdict__" : Str)) = false) :
    PE (X.blk s3 H3 cscope (compEnvC cscope cl C X.env) fp) (.Call (.Name x p) [.Name y p3] [] pos)
      (fun σB H Q => ∃ l ∈ ls, σB[ix]? = some (some (.ref l.f)) ∧ H l.c' = some (LamX.CodeO l.c' (X.env.qual ++ "<lambda>")) ∧ tFr K CA Fr l.b.t σ H Q) := by
  subst hK
  obtain ⟨fx, fd, FL, hm, hk, hb⟩ := G.ex
  have ln := G.ln
  refine ⟨fun pinsB s σB H Q J h => ?_⟩
  obtain ⟨l, hl, hσ, hco, m, ch, r, hR, hsim, hq⟩ := h
  refine wpAny_Call_Name_kw (ld_glob J hg hm ?_ hdb)
  refine PySem.W.callWith_K (h₀ := X.base) Ie.ok.mod.kin hk ?_ (by rfl) (by rfl)
  show wpAny _ _ (spliced ((false, eval (.Name y p3) (compEnvC cscope cl C X.env)) :: backTo pos (starEach [] (compEnvC cscope cl C X.env)))) _ _ s
  refine Calls.spliced_cons (thn ((pe_var (X := X.blk s3 H3 cscope (compEnvC cscope cl C X.env) fp) (pos := p3) (i := ix) hyN hyv hyd hyc).run _ s σB H (fun v H1 => v = .ref l.f ∧ H1 = H) J ⟨.ref l.f, hσ, rfl, rfl⟩) fun u s1 ⟨v, H1, J1, r1, q1⟩ => ?_)
  obtain ⟨ev, eH⟩ := q1
  subst ev
  rw [eH] at J1
  obtain rfl : u = Value.ref l.f := r1
  refine Calls.spliced_nil ⟨J1.kIn, ?_⟩
  have I1 : Inv X (ls.map (LamI.pin X) ++ pins) σ H s1 := Ie.call' (ch := fp) J1.os J1.base J1.hok J1.bare fun b hb => ⟨(hfp b hb).2.2.2.1, (hfp b hb).2.1, (hfp b hb).2.2.2.2.1, (hfp b hb).2.2.2.2.2⟩
  obtain ⟨pf, pn, pl, pfs, _⟩ := I1.pin (l.pin X) (List.mem_append_right _ (List.mem_append_left _ (List.mem_map.mpr ⟨l, hl, rfl⟩)))
  have hfr : l.f ∉ frs X.stack := fun z => by
    rcases List.mem_cons.mp (I1.stkSub _ z) with e | e
    · exact pl e
    · exact pfs e
  have O := hO l hl
  have LF : LamF X l.f l.c' kb (fun E H' Q' => l.b.t E σ H' Q') X.stack s1 H := ⟨_, σ, H, s1, l.b.params, l.b.body, l.b.scope, l.pm, l.ctv, l.b.t, I1, O.L, pf, pn, hfr, O.hbind _ _ _ _ _, fun A outer s H E hr2 => O.hbody A outer s H E l.f l.c' hr2, rfl, fun _ _ _ _ _ un => un⟩
  have bt := hb s1 [.ref l.f] I1.kIn (by simp [ln])
  rw [List.append_nil] at bt
  have rc := FL.go X l.f l.c' _ _ _ s1 H ⟨[.ref l.f], []⟩ [] [] Q m ch [] r rfl rfl rfl rfl rfl hG hr I1.env0 bt .nil rfl LF hco hsim hR .nil hq
  refine wpAny_call (codeAny_mono rc fun r s2 hq => ?_)
  cases r with
  | error e => exact (cx_00 hq).elim
  | ok fl =>
    cases fl with
    | ret u => exact J1.after hq
    | next => exact False.elim hq
    | brk => exact False.elim hq
    | cont => exact False.elim hq
theorem lq_core {Q : VK} {elt tg iter : Expr} {scope : Scope} {own : List (Str × Nat)} {pos pos' : Pos} {wi : TI} {gt : TG} {te : TE} {use : Option (Value → Sem Unit)} {Qf : Value → Shared → Prop}
    (hc : X.calm = true) (hN : X.N.Nodup) (I : Inv X pins σ H s) (hi : PI X tg iter wi) (ok : BlkOk X.N X.env.scope scope own) (hg : ∀ (s : Shared) (H : Hp) (C : Addr) (cl : List (Str × Addr)) (fp : List Addr), PG (X.blk s H scope (compEnvC scope cl C X.env) fp) tg gt)
    (he : ∀ (s : Shared) (H : Hp) (C : Addr) (cl : List (Str × Addr)) (fp : List Addr), Inv X pins σ H s → (∀ b ∈ fp, FpOk X pins H b) → PE (X.blk s H scope (compEnvC scope cl C X.env) fp) elt te)
    (hs : ∀ x, foldedSetIterable iter X.env x = pure x) (h : tLc wi gt L2.tYes te (own.map (·.2)) σ H Q)
    (hRR : ∀ D C s' m H', Inv X pins σ H' s' → Q (.ref D) H' → s'.heap.Ns C m → FpOk X pins H' C → compPost (model X.prog X.w) X.A X.xe use Qf (.ref D) C (.ok .next) s') :
    wpAny (model X.prog X.w) X.A (comprehension (.ListComp elt [⟨tg, iter, [], 0⟩] scope pos) scope X.env pos' (newList []) false (eval iter X.env) use) Qf X.xe s := by
  have fr : ∀ y ∈ scope.names, y.2 = .free → ∃ c, X.env.cells.lookup y.1 = some c := fun y hy e => (ok.free y hy e).elim (fun k => I.ok.has _ (.inl k)) fun k => I.ok.has _ (.inr k)
  refine wpAny_comprehension_free (use := use) rfl hs (closure_ok fr) ok.kind (fun y hy e => by rw [ok.uniq y hy, e]) (thn (hi.run pins s σ H _ I h) fun xv s1 hx => thn hx fun itv s2 pe => ?_)
  obtain ⟨ia, fp, tn, J, H2, rfl, I2, T, st2, f2, q⟩ := pe
  refine wpAny_newObj_type (newEnv_comp ?_) (by show 0 ≤ sizeLine; decide)
  obtain ⟨W, ⟨m0, w0⟩, turn⟩ := q s2.heap.objs.size (I2.hok.fresh (Nat.le_refl _))
  generalize eH3 : upd H2 s2.heap.objs.size (.lst []) = H3 at w0
  generalize es3 : ({ s2 with heap := s2.heap.push { cls := .type "list", data := .seq ([] : List Value).toArray } } : Shared) = s3
  have k3 : ∀ b o, s2.heap.get? b = some o → s3.heap.get? b = some o := fun b o e => by rw [← es3]; exact Heap.get?_push_of_some _ e
  have I3 : Inv X pins σ H3 s3 := by
    rw [← es3, ← eH3]
    exact I2.laid (t' := s2.toks) (fun b o e => Heap.get?_push_of_some _ e) (Nat.le_refl _) ⟨Nat.zero_le _, [], 0, .nil, Heap.get?_push_size _ rfl⟩
  have h3 : s3.heap = s2.heap.push { cls := .type "list", data := .seq ([] : List Value).toArray } := by rw [← es3]
  have sz3 : s3.heap.objs.size = s2.heap.objs.size + 1 := by rw [← es3]; exact Heap.size_push _ _
  have low : ∀ b ∈ fp, b < s2.heap.objs.size := fun b hb => by
    obtain ⟨o, e, _⟩ := T.obj _ _ st2 b hb
    exact Heap.lt_size e
  have f3 : ∀ b ∈ fp, FpOk X pins H3 b ∧ b < s3.heap.objs.size := fun b hb => ⟨⟨by rw [← eH3, upd_ne (Nat.ne_of_lt (low b hb))]; exact (f2 b hb).1, (f2 b hb).2⟩, by rw [sz3]; exact Nat.lt_succ_of_lt (low b hb)⟩
  have st3 : tn 0 s3.heap := T.keep _ _ _ st2 fun b _ o e => k3 b o e
  have I4 := block_start I3 ok hN f3
  show codeAny _ _ (.compStart (.ListComp elt [⟨tg, iter, [], 0⟩] scope pos) 0 (.ref ia) (.ref s2.heap.objs.size) (compEnvC scope (cellsFrom (s3.heap.objs.size + 1) scope.names (cloFrom X.env.cells scope.names [])) s3.heap.objs.size X.env)) _ { s3 with heap := pushCells (s3.heap.push { cls := .type "dict", data := .dict #[] }) scope.names }
  generalize ecl : cellsFrom (s3.heap.objs.size + 1) scope.names (cloFrom X.env.cells scope.names []) = cl at I4 ⊢
  have pg := hg s3 H3 s3.heap.objs.size cl fp
  have pe := he s3 H3 s3.heap.objs.size cl fp I3 fun b hb => (f3 b hb).1
  generalize es4 : ({ s3 with heap := pushCells (s3.heap.push { cls := .type "dict", data := .dict #[] }) scope.names } : Shared) = s4 at I4 ⊢
  have st4 : tn 0 s4.heap := T.keep _ _ _ st3 fun b _ o e => by rw [← es4]; exact pushCells_keeps _ _ _ _ (Heap.get?_push_of_some _ e)
  have stat : ∀ {σ' : L2.St} {H' : Hp} {s' : Shared}, Inv (X.blk s3 H3 scope (compEnvC scope cl s3.heap.objs.size X.env) fp) [] σ' H' s' → (∀ b ∈ fp, H' b = none) → ∀ b ∈ fp, FpOk (X.blk s3 H3 scope (compEnvC scope cl s3.heap.objs.size X.env) fp) [] H' b := fun {σ' H' s'} I' hn b hb =>
    ⟨hn b hb, (I'.ok.exf b hb).1, I'.ok.exfs b hb, .inl hb, fun x c e => (I'.ok.exf b hb).2 x c e, fun p hp => absurd (show p ∈ ([] : List (Addr × Obj)) ++ [] from hp) (by simp)⟩
  have up : ∀ {α : Type} {t : Sem α} {Q Q' : α → Shared → Prop} {E' : Value → Shared → Prop} {s : Shared}, wpAny (model X.prog X.w) X.A t Q NoE s → (∀ a s, Q a s → Q' a s) → wpAny (model X.prog X.w) X.A t Q' E' s := fun h hQ => wpAny_mono h hQ fun _ _ z => z.elim
  have loop : codeAny (model X.prog X.w) X.A (.compLoop (.ListComp elt [⟨tg, iter, [], 0⟩] scope pos) 0 (.ref ia) (.ref s2.heap.objs.size) (compEnvC scope cl s3.heap.objs.size X.env)) (compPost (model X.prog X.w) X.A X.xe use Qf (.ref s2.heap.objs.size) s3.heap.objs.size) s4 := by
    refine compLoop_any (fun n s' => ∃ i H', Inv (X.blk s3 H3 scope (compEnvC scope cl s3.heap.objs.size X.env) fp) [] (wipe σ (own.map (·.2))) H' s' ∧ tn i s'.heap ∧ (∀ b ∈ fp, H' b = none) ∧ W i n H') ?_ m0 ⟨0, H3, I4, st4, fun b hb => (f3 b hb).1.1, w0⟩
    rintro n s5 ⟨i, H5, I5, st5, n5, w5⟩
    rcases turn i n H5 w5 with ⟨stop, dn⟩ | ⟨go, Nx, hNx, step⟩
    · refine up (T.done (X.blk s3 H3 scope (compEnvC scope cl s3.heap.objs.size X.env) fp) rfl rfl rfl hc i [] s5 _ H5 NoE I5 (stat I5 n5) st5 stop) fun r s6 q => ?_
      obtain ⟨rfl, I6⟩ := q
      have I7 : Inv X pins σ H5 s6 := I3.call' (ch := fp) I6.os I6.base I6.hok I6.bare fun b hb => ⟨(f3 b hb).1.2.2.2.1, (f3 b hb).1.2.1, (f3 b hb).1.2.2.2.2.1, (f3 b hb).1.2.2.2.2.2⟩
      have nC : H5 s3.heap.objs.size = none := I6.free
      obtain ⟨m, hn, _⟩ := I6.loc
      exact hRR _ _ s6 m H5 I7 dn hn (I3.fpOk (Nat.le_refl _) nC)
    · refine up (T.item (X.blk s3 H3 scope (compEnvC scope cl s3.heap.objs.size X.env) fp) rfl rfl rfl hc i [] s5 _ H5 NoE I5 (stat I5 n5) st5 go) fun r s6 q => ?_
      obtain ⟨u, rfl, h6⟩ := q
      refine up h6 fun _ s7 q => ?_
      obtain ⟨x, H7, I7, r7, y7, st7, n7⟩ := q
      have IP := I7.pinned (stat I7 n7) (T.obj _ _ st7)
      refine up (pg.run _ s7 _ H7 x u _ IP r7 (step x H7 y7)) fun _ s8 q => ?_
      obtain ⟨σ8, H8, I8, hw8, q8⟩ := q
      refine wpAny_tests_nil ?_
      unfold L2.tYes at q8
      simp only [if_true] at q8 ⊢
      have fin : ∀ {s' : Shared} {H' : Hp}, Inv (X.blk s3 H3 scope (compEnvC scope cl s3.heap.objs.size X.env) fp) ([] ++ pinsAt fp s7.heap) σ8 H' s' → Nx H' → ∃ m, m < n ∧ ∃ i H', Inv (X.blk s3 H3 scope (compEnvC scope cl s3.heap.objs.size X.env) fp) [] (wipe σ (own.map (·.2))) H' s' ∧ tn i s'.heap ∧ (∀ b ∈ fp, H' b = none) ∧ W i m H' := fun {s' H'} I' nx => by
        obtain ⟨m', hm, w'⟩ := hNx H' nx
        have stay : ∀ b ∈ fp, ∀ o, s7.heap.get? b = some o → s'.heap.get? b = some o ∧ H' b = none := fun b hb o e => by
          obtain ⟨z1, z2, _⟩ := I'.pin (b, o) (List.mem_append_right _ (List.mem_append_right _ (mem_pinsAt hb e)))
          exact ⟨z1, z2⟩
        have l8 : (wipe σ (own.map (·.2))).length = σ8.length := by rw [← hw8, wipe_length]
        refine ⟨m', hm, i + 1, H', (I'.unpinned (pins := [])).weak l8 (fun j v e => (wipe_some (by rw [hw8]; exact e)).1), T.keep _ _ _ st7 fun b hb o e => (stay b hb o e).1, fun b hb => ?_, w'⟩
        obtain ⟨o, e, _⟩ := T.obj _ _ st7 b hb
        exact (stay b hb o e).2
      refine up (pe.run _ s8 σ8 H8 _ I8 q8) fun z s10 q => ?_
      obtain ⟨yv, H10, I10, r10, acc, hD10, hz10, nx⟩ := q
      exact app_ok (X := X.blk s3 H3 scope (compEnvC scope cl s3.heap.objs.size X.env) fp) I10 hD10 hz10 r10 fun s11 I11 => fin I11 nx
  exact codeAny_compStart_list loop (T.self X.A 0 _ _ _ st4 loop)
end
def goL (L : Addr) (xs : List V) (cs : List Addr) (q : Str) (D : Addr) (Q : VK) : List (Hp → VK → Prop) → Hp → Prop
  | [], H => Q (.ref D) H
  | t :: ts, H => t H fun v H2 => ∃ acc, H2 D = some (.lst acc) ∧ acc.length < sizeLine ∧ (upd H2 D (.lst (acc ++ [v]))) L = some (.lst xs) ∧ (∀ c ∈ cs, (upd H2 D (.lst (acc ++ [v]))) c = some (LamX.CodeO c q)) ∧ goL L xs cs q D Q ts (upd H2 D (.lst (acc ++ [v])))
def tLamL (q : Str) (tE : TE → TE) (ts : List TE) (L : Addr) (xs : List V) (cs : List Addr) : TE := fun σ H Q => ∀ D, H D = none → goL L xs cs q D Q (ts.map fun t => tE t σ) (upd H D (.lst []))
abbrev CodesL (q : Str) (ls : List LamI) (H : Hp) : Prop := ∀ c ∈ ls.map (·.c'), H c = some (LamX.CodeO c q)
section
variable {X : Cx} {pins : List (Addr × Obj)} {σ : L2.St} {H : Hp} {s : Shared} {K : PySem.W.Frag} {CA : CAs} {kb k : Nat} {g : Bool}
  {ls : List LamI} {x y z : Str} {ps : List Str} {Fr : R D → FD} {ix iy : Nat} {p p3 cpos pz py pos : Pos} {elt : Expr} {tE : TE → TE} {scope : Scope} {own : List (Str × Nat)} {L : Addr}
theorem run_lamL {Q : VK} (G : Dl X.prog X.w X.K X.mg X.base CA x g k kb ps 0 Fr) (hK : X.K = K) (hO : ∀ l ∈ ls, l.b.Ok X K CA kb) (hG : g = true → X.A.guards = some []) (hr : Room k X.A) (hc : X.calm = true) (hN : X.N.Nodup)
    (hg : ∀ (s : Shared) (H : Hp) (C : Addr) (cl : List (Str × Addr)) (fp : List Addr), Gl (X.blk s H scope (compEnvC scope cl C X.env) fp) x)
    (hpg : ∀ (s : Shared) (H : Hp) (C : Addr) (cl : List (Str × Addr)) (fp : List Addr), PG (X.blk s H scope (compEnvC scope cl C X.env) fp) (.Name y py) (gName iy))
    (hE : ∀ (s : Shared) (H : Hp) (C : Addr) (cl : List (Str × Addr)) (fp : List Addr) (tc : TE), PE (X.blk s H scope (compEnvC scope cl C X.env) fp) (.Call (.Name x p) [.Name y p3] [] cpos) tc → PE (X.blk s H scope (compEnvC scope cl C X.env) fp) elt (tE tc))
    (mono : ∀ (tc tc' : TE) (σ σ' : L2.St) (H : Hp) (Q : VK), (∀ Q, tc σ H Q → tc' σ' H Q) → tE tc σ H Q → tE tc' σ' H Q)
    (ok : BlkOk X.N X.env.scope scope own) (hzN : X.N[ix]? = some z) (hzv : Vis X.env.scope z) (hyN : X.N[iy]? = some y) (hyv : ∀ (cl : List (Str × Addr)) (C : Addr), Vis (compEnvC scope cl C X.env).scope y) (hyo : iy ∈ own.map (·.2))
    (hdb : (x == ("__debug__" : Str)) = false) (hyd : (y == ("__debug__" : Str)) = false) (hyc : (y == ("__classdict__" : Str)) = false) (hzd : (z == ("__debug__" : Str)) = false) (hzc : (z == ("__classdict__" : Str)) = false) (hs : ∀ x, foldedSetIterable (.Name z pz) X.env x = pure x)
    (I : Inv X (ls.map (LamI.pin X) ++ pins) σ H s) (hσ : σ[ix]? = some (some (.ref L))) (hL : H L = some (.lst (refsL ls))) (hco : CodesL (X.env.qual ++ "<lambda>") ls H)
    (h : tLamL (X.env.qual ++ "<lambda>") tE (ls.map fun l => tFr K CA Fr l.b.t) L (refsL ls) (ls.map (·.c')) σ H Q) :
    wpAny (model X.prog X.w) X.A (eval (.ListComp elt [⟨.Name y py, .Name z pz, [], 0⟩] scope pos) X.env) (EP X (ls.map (LamI.pin X) ++ pins) σ Q) X.xe s := by
  rw [eval_ListComp]
  refine lq_core hc hN I (pi_seq (pe_var (i := ix) hzN hzv hzd hzc) rfl) ok hpg (te := tE fun σB H Q => ∃ l ∈ ls, σB[iy]? = some (some (.ref l.f)) ∧ H l.c' = some (LamX.CodeO l.c' (X.env.qual ++ "<lambda>")) ∧ tFr K CA Fr l.b.t σ H Q)
    (fun s H C cl fp I f => hE s H C cl fp _ (pe_blklam G hK hO (hg s H C cl fp) hG hr hyN (hyv cl C) I f hdb hyd hyc)) hs (Q := Q) ?_ fun D C s' m H' I' q hn f => ⟨m, hn, fun h'' sb => ?_⟩
  · refine ⟨.ref L, hσ, L, rfl, .inl ⟨⟨_, .of hL⟩, fun D n => ?_⟩⟩
    have nL : L ≠ D := ne_of_none hL n
    refine lc_list (xs := refsL ls) (fun i H' => H' L = some (.lst (refsL ls)) ∧ CodesL (X.env.qual ++ "<lambda>") ls H' ∧ goL L (refsL ls) (ls.map (·.c')) (X.env.qual ++ "<lambda>") D Q (((ls.map fun (l : LamI) => tFr K CA Fr l.b.t).map fun t => tE t σ).drop i) H') ⟨by rw [upd_ne nL]; exact hL, fun c hc' => by rw [upd_ne (ne_of_none (hco c hc') n)]; exact hco c hc', h D n⟩
      (fun i H' _ q => .of q.1) (fun i x' H' hx q => ?_) fun H' q => ?_
    · obtain ⟨q1, q2, q3⟩ := q
      have lt : i < ls.length := by
        have := (List.getElem?_eq_some_iff.mp hx).1
        unfold refsL at this
        rwa [List.length_map] at this
      have ex : x' = .ref (ls[i]).f := by
        unfold refsL at hx
        rw [List.getElem?_map, List.getElem?_eq_getElem lt] at hx
        exact (Option.some.inj hx).symm
      subst ex
      have ed : ((ls.map fun l => tFr K CA Fr l.b.t).map fun t => tE t σ).drop i = tE (tFr K CA Fr (ls[i]).b.t) σ :: ((ls.map fun l => tFr K CA Fr l.b.t).map fun t => tE t σ).drop (i + 1) := by
        rw [List.drop_eq_getElem_cons (by rw [List.length_map, List.length_map]; exact lt)]
        simp only [List.getElem_map]
      rw [ed] at q3
      have lw : (wipe σ (own.map (·.2))).length = σ.length := wipe_length ..
      refine ⟨wipe_eq (by rw [List.length_set, lw]) fun j hj => ?_, ?_⟩
      · rw [List.getElem?_set_ne (fun e : iy = j => hj (e ▸ hyo)), wipe_at hj]
      · unfold L2.tYes
        simp only [if_true]
        refine mono _ _ _ _ _ _ (fun Q1 z1 => ?_) q3
        have li : iy < σ.length := by rw [I.len]; exact (List.getElem?_eq_some_iff.mp hyN).1
        exact ⟨ls[i], List.getElem_mem lt, by rw [List.getElem?_set_self (by rw [lw]; exact li)], q2 _ (List.mem_map.mpr ⟨_, List.getElem_mem lt, rfl⟩), z1⟩
    · obtain ⟨_, _, q3⟩ := q
      have e0 : ((ls.map fun l => tFr K CA Fr l.b.t).map fun t => tE t σ).drop (refsL ls).length = [] := by
        apply List.drop_eq_nil_of_le
        unfold refsL
        simp
      rw [e0] at q3
      exact q3
  · obtain ⟨f0, f1, f2, f3, f4, f5⟩ := f
    exact ⟨.ref D, H', I'.turned (t' := s'.toks) (fun b o hb e => (sb.2 b hb).trans e) f0 f1 f3 f4 f5, rfl, q⟩
theorem pe_lamL {pins0 : List (Addr × Obj)} (G : Dl X.prog X.w X.K X.mg X.base CA x g k kb ps 0 Fr) (hK : X.K = K) (hO : ∀ l ∈ ls, l.b.Ok X K CA kb) (hG : g = true → X.A.guards = some []) (hr : Room k X.A) (hc : X.calm = true) (hN : X.N.Nodup)
    (hg : ∀ (s : Shared) (H : Hp) (C : Addr) (cl : List (Str × Addr)) (fp : List Addr), Gl (X.blk s H scope (compEnvC scope cl C X.env) fp) x)
    (hpg : ∀ (s : Shared) (H : Hp) (C : Addr) (cl : List (Str × Addr)) (fp : List Addr), PG (X.blk s H scope (compEnvC scope cl C X.env) fp) (.Name y py) (gName iy))
    (hE : ∀ (s : Shared) (H : Hp) (C : Addr) (cl : List (Str × Addr)) (fp : List Addr) (tc : TE), PE (X.blk s H scope (compEnvC scope cl C X.env) fp) (.Call (.Name x p) [.Name y p3] [] cpos) tc → PE (X.blk s H scope (compEnvC scope cl C X.env) fp) elt (tE tc))
    (mono : ∀ (tc tc' : TE) (σ σ' : L2.St) (H : Hp) (Q : VK), (∀ Q, tc σ H Q → tc' σ' H Q) → tE tc σ H Q → tE tc' σ' H Q)
    (ok : BlkOk X.N X.env.scope scope own) (hzN : X.N[ix]? = some z) (hzv : Vis X.env.scope z) (hyN : X.N[iy]? = some y) (hyv : ∀ (cl : List (Str × Addr)) (C : Addr), Vis (compEnvC scope cl C X.env).scope y) (hyo : iy ∈ own.map (·.2))
    (hdb : (x == ("__debug__" : Str)) = false) (hyd : (y == ("__debug__" : Str)) = false) (hyc : (y == ("__classdict__" : Str)) = false) (hzd : (z == ("__debug__" : Str)) = false) (hzc : (z == ("__classdict__" : Str)) = false) (hs : ∀ x, foldedSetIterable (.Name z pz) X.env x = pure x) :
    PE (X.tr (X.pn ++ (ls.map (LamI.pin X) ++ pins0)) X.xe) (.ListComp elt [⟨.Name y py, .Name z pz, [], 0⟩] scope pos)
      (fun σ H Q => (σ[ix]? = some (some (.ref L)) ∧ H L = some (.lst (refsL ls)) ∧ CodesL (X.env.qual ++ "<lambda>") ls H) ∧ tLamL (X.env.qual ++ "<lambda>") tE (ls.map fun l => tFr K CA Fr l.b.t) L (refsL ls) (ls.map (·.c')) σ H Q) := by
  refine ⟨fun pins1 s σ H Q I h => ?_⟩
  obtain ⟨⟨hσ, hL, hco⟩, ht⟩ := h
  have J : Inv X (ls.map (LamI.pin X) ++ (pins0 ++ pins1)) σ H s := (I.ofTry I.ok.ofTry).pins_of fun p hp => I.pin p (by
    rcases List.mem_append.mp hp with z | hp
    · exact List.mem_append_left _ (List.mem_append_right _ (List.mem_append_left _ z))
    · rcases List.mem_append.mp hp with z | z
      · exact List.mem_append_left _ (List.mem_append_right _ (List.mem_append_right _ z))
      · exact List.mem_append_right _ z)
  refine thn (run_lamL (X := X) G hK hO hG hr hc hN hg hpg hE mono ok hzN hzv hyN hyv hyo hdb hyd hyc hzd hzc hs J hσ hL hco ht) fun u s1 ⟨v, H1, I1, r1, q1⟩ => ⟨v, H1, ⟨I.ok, I1.os, I1.bare, I1.base, I1.loc, I1.cell, I1.free, I1.freeC, fun p hp => I1.pin p (by
    rcases List.mem_append.mp hp with z | z
    · rcases List.mem_append.mp z with z | z
      · exact List.mem_append_left _ z
      · rcases List.mem_append.mp z with z | z
        · exact List.mem_append_right _ (List.mem_append_left _ z)
        · exact List.mem_append_right _ (List.mem_append_right _ (List.mem_append_left _ z))
    · exact List.mem_append_right _ (List.mem_append_right _ (List.mem_append_right _ z))), I1.hok, I1.len⟩, r1, q1⟩
abbrev NoOb (H : Hp) (L : Addr) : Prop := ∀ u, H L = some u → ∃ ps, u = .tbl ps
def tReg (q : Str) (T : List (Addr × Str)) (ix : Nat) (t : Addr → List V → List Addr → TS) : TS := fun D σ H => LamX.Tabs T H ∧ ∀ (L : Addr) (xs : List V) (cs : List Addr) (H1 : Hp), NoOb H L → LamX.ExtN H H1 → LamX.Tabs T H1 → H1 L = some (.lst xs) → (∀ c ∈ cs, H1 c = some (LamX.CodeO c q)) → t L xs cs D (σ.set ix (some (.ref L))) H1
def PSR (X : Cx) (CA : CAs) (ix : Nat) (bs : List LamB) (rest : List Stmt) (t : Addr → List V → List Addr → TS) : Prop := ∀ (ls : List LamI), ls.map (·.b) = bs → ∀ (L : Addr) (pins : List (Addr × Obj)) (s : Shared) (σ : L2.St) (H0 H : Hp) (D : Ends),
  Inv X (ls.map (LamI.pin X) ++ pins) (σ.set ix (some (.ref L))) H s → ix < σ.length → NoOb H0 L → LamX.ExtN H0 H → LamX.Tabs CA.T H → H L = some (.lst (refsL ls)) → CodesL (X.env.qual ++ "<lambda>") ls H → tReg (X.env.qual ++ "<lambda>") CA.T ix t D σ H0 →
  wpAny (model X.prog X.w) X.A (execs rest X.env) (SP X pins D) X.xe s
theorem pins_lam {f c' : Addr} {pm ctv : Value} {b : LamB} (hst : X.stack = X.env :: X.outer) (hfm : X.env.frame = some X.env.locals) (I : Inv X (ls.map (LamI.pin X) ++ pins) σ H s)
    (hf : s.heap.get? f = some (PySem.W.kla_obj "<lambda>" (X.env.qual ++ "<lambda>") b.params b.body b.scope (cloFrom X.env.cells b.scope.names []) pm c' ctv)) (hfn : H f = none) (hfr : f ∉ frs X.stack) : Inv X ((ls ++ [(⟨b, f, c', pm, ctv⟩ : LamI)]).map (LamI.pin X) ++ pins) σ H s :=
  I.pins_of fun p hp => by
    have fe : frs X.stack = X.env.locals :: X.fs := by
      rw [hst]
      unfold frs
      rw [List.filterMap_cons, hfm]
      rfl
    rw [fe] at hfr
    rw [List.map_append] at hp
    rcases List.mem_append.mp hp with hp | z
    · rcases List.mem_append.mp hp with z | z
      · exact I.pin p (List.mem_append_right _ (List.mem_append_left _ z))
      · rw [List.map_singleton, List.mem_singleton] at z
        subst z
        exact ⟨hf, hfn, fun e => hfr (List.mem_cons.mpr (.inl e)), fun e => hfr (List.mem_cons_of_mem _ e), fun v e => by cases e⟩
    · exact I.pin p (List.mem_append_right _ (List.mem_append_right _ z))
theorem unpinL (I : Inv X (ls.map (LamI.pin X) ++ pins) σ H s) : Inv X pins σ H s := I.pins_of fun r hr => I.pin r (List.mem_append_right _ (List.mem_append_right _ hr))
theorem pss_reg {c P : Addr} {b : LamB} {rest : List Stmt} {t : Addr → List V → List Addr → TS} {lpos lp : Pos} (TB : LamX.TabB X.base X.mg c P) (hmT : (P, X.env.qual ++ "<lambda>") ∈ CA.T) (hu : ∀ p ∈ CA.T, p.1 = P → p.2 = X.env.qual ++ "<lambda>") (O : b.Ok X K CA kb)
    (hN : X.N.Nodup) (hi : X.N[ix]? = some z) (hz : Loc X.env.scope z) (hp : PSR X CA ix [b] rest t) (hcode : X.env.code = .ref c := by rfl) (hst : X.stack = X.env :: X.outer := by rfl) (hfm : X.env.frame = some X.env.locals := by rfl)
    (he : starEach [.Lambda b.params b.body b.scope lpos] X.env = (false, eval (.Lambda b.params b.body b.scope lpos) X.env) :: starEach [] X.env := by rfl)
    (hs : swapsWith (.List [.Lambda b.params b.body b.scope lpos] lp) (some (.Name z pz)) pos.line X.env = pure false := by rfl) (hf : X.fn z = true ∨ X.env.scope.names.lookup z = some .local := by first | exact .inl rfl | exact .inr rfl | assumption) :
    PSs X (.Assign [.Name z pz] (.List [.Lambda b.params b.body b.scope lpos] lp) pos :: rest) (tReg (X.env.qual ++ "<lambda>") CA.T ix t) := by
  refine ⟨fun pins s σ H D I h => ?_⟩
  refine wpAny_execs_cons (wpAny_Assign_Name (wpAny_List_spliced ?_) hs)
  rw [he]
  show wpAny _ _ (spliced ((false, eval (.Lambda b.params b.body b.scope lpos) X.env) :: backTo lp (starEach [] X.env))) _ _ s
  refine Calls.spliced_cons (LamX.lam_make2 I TB hcode hmT hu h.1 O.hdef (O.L.has I.ok) fun f c' pm ctv H1 s' I1 eN T1 hf1 hfn hfr hco => Calls.spliced_nil ⟨by show 1 ≤ sizeLine; decide, ?_⟩)
  have I2 := pins_lam (ls := []) (pins := pins) hst hfm I1 hf1 hfn hfr
  have nf : H1 s'.heap.objs.size = none := I1.hok.fresh (Nat.le_refl _)
  have I3 : Inv X (([] ++ [(⟨b, f, c', pm, ctv⟩ : LamI)]).map (LamI.pin X) ++ pins) σ (upd H1 s'.heap.objs.size (.lst [.ref f])) { s' with heap := s'.heap.push { cls := .type "list", data := .seq [Value.ref f].toArray } } :=
    I2.laid (t' := s'.toks) (fun b u e => Heap.get?_push_of_some _ e) (Nat.le_refl _) ⟨by show 1 ≤ sizeLine; decide, [.ref f], 0, .cons rfl .nil, Heap.get?_push_size _ rfl⟩
  refine store_ok I3 hN hi hz (v := .ref s'.heap.objs.size) rfl (fun s2 I4 => ?_) hf
  have g1 : ∀ a u, H1 a = some u → (upd H1 s'.heap.objs.size (.lst [.ref f])) a = some u := upd_new nf
  have nH : NoOb H s'.heap.objs.size := fun u e => by
    by_cases tb : ∃ ps, u = .tbl ps
    · exact tb
    · have := eN _ _ e fun ps z => tb ⟨ps, z⟩
      rw [nf] at this
      cases this
  exact hp [⟨b, f, c', pm, ctv⟩] rfl s'.heap.objs.size pins s2 σ H _ D I4 (by rw [I.len]; exact (List.getElem?_eq_some_iff.mp hi).1) nH (eN.trans (.of g1)) (T1.ext g1) upd_same (fun c hc => by
    rw [List.map_singleton, List.mem_singleton] at hc
    subst hc
    exact g1 _ _ hco) h
theorem psr_app {c P : Addr} {b : LamB} {bs : List LamB} {rest : List Stmt} {t : Addr → List V → List Addr → TS} {lpos apos : Pos} (TB : LamX.TabB X.base X.mg c P) (hmT : (P, X.env.qual ++ "<lambda>") ∈ CA.T) (hu : ∀ p ∈ CA.T, p.1 = P → p.2 = X.env.qual ++ "<lambda>") (O : b.Ok X K CA kb)
    (hN : X.N.Nodup) (hi : X.N[ix]? = some z) (hz : Vis X.env.scope z) (hn : bs.length < 1000) (hp : PSR X CA ix (bs ++ [b]) rest t) (hcode : X.env.code = .ref c := by rfl) (hst : X.stack = X.env :: X.outer := by rfl) (hfm : X.env.frame = some X.env.locals := by rfl)
    (hzd : (z == ("__debug__" : Str)) = false := by decide) (hzc : (z == ("__classdict__" : Str)) = false := by decide)
    (he : starEach [.Lambda b.params b.body b.scope lpos] X.env = (false, eval (.Lambda b.params b.body b.scope lpos) X.env) :: starEach [] X.env := by rfl)
    (hbase : attributeBase (.Name z pz) "append" X.env (eval (.Name z pz) X.env) = eval (.Name z pz) X.env := by rfl)
    (hfew : ((backTo cpos (starEach [.Lambda b.params b.body b.scope lpos] X.env)).all (fun x => !x.1) && (backToKw cpos (keywordEach [] X.env)).all (fun x => x.1.isSome)
      && decide (([.Lambda b.params b.body b.scope lpos] : List Expr).length + ([] : List Keyword).length + (if ([] : List Keyword).isEmpty then 0 else 1) < 30)) = true := by rfl)
    (hline : (apos.endLine == cpos.line) = true := by rfl)
    (hs : swapsWith (.Call (.Attribute (.Name z pz) "append" apos) [.Lambda b.params b.body b.scope lpos] [] cpos) none pos.line X.env = pure false := by rfl) :
    PSR X CA ix bs (.Expr (.Call (.Attribute (.Name z pz) "append" apos) [.Lambda b.params b.body b.scope lpos] [] cpos) pos :: rest) t := by
  intro ls els L pins s σ H0 H D I hix hL0 ex T hL hco h
  refine wpAny_execs_cons (wpAny_Expr_any ?_ I.quiet hs)
  refine wpAny_Call_method_late hbase hfew hline rfl (thn ((pe_var (pos := pz) (i := ix) hi hz hzd hzc).run _ s _ H (fun v H1 => v = .ref L ∧ H1 = H) I ⟨.ref L, by rw [List.getElem?_set_self hix], rfl, rfl⟩) fun u s1 ⟨v, H1, I1, r1, q1⟩ => ?_)
  obtain ⟨ev, eH⟩ := q1
  subst ev
  rw [eH] at I1
  obtain rfl : u = Value.ref L := r1
  obtain ⟨h1, h2⟩ := tyV_is (x := .ref L) I1 rfl (.inl ⟨rfl, _, .of hL⟩ : tyV X.K "list" (.ref L) H)
  refine ⟨"list", "list.append", F.plainAttrs_list, F.slot_list_append, F.type_list_append, h1, h2, ?_⟩
  rw [he]
  refine Calls.callWith_builtin (by rfl) (Calls.evalArgs_plain ?_)
  show wpAny _ _ (spliced ((false, eval (.Lambda b.params b.body b.scope lpos) X.env) :: backTo cpos (starEach [] X.env))) _ _ s1
  refine Calls.spliced_cons (LamX.lam_make2 I1 TB hcode hmT hu T O.hdef (O.L.has I1.ok) fun f c' pm ctv H2 s2 I2 eN T2 hf1 hfn hfr hco2 => Calls.spliced_nil ?_)
  have I3 := pins_lam (ls := ls) (pins := pins) hst hfm I2 hf1 hfn hfr
  have eL : H2 L = some (.lst (refsL ls)) := eN _ _ hL fun ps z => by cases z
  have ll : (refsL ls).length = bs.length := by
    rw [← els]
    unfold refsL
    simp
  have er : refsL (ls ++ [(⟨b, f, c', pm, ctv⟩ : LamI)]) = refsL ls ++ [.ref f] := by
    unfold refsL
    simp
  have cn : ∀ c q, H2 c = some (LamX.CodeO c q) → c ≠ L := fun c q e z => by
    rw [z, eL] at e
    unfold LamX.CodeO at e
    cases e
  refine app_ok I3 eL (by rw [ll]; exact Nat.lt_trans hn (by decide)) (y := .ref f) rfl fun s3 I4 => ?_
  refine hp (ls ++ [⟨b, f, c', pm, ctv⟩]) (by rw [List.map_append, els]; rfl) L pins s3 σ H0 _ D I4 hix hL0 (fun d o e nt => ?_) (tabs_upd T2 eL trivial) (by rw [er]; exact upd_same) (fun c hc => ?_) h
  · have nd : d ≠ L := fun z => by
      rw [z] at e
      obtain ⟨ps, e2⟩ := hL0 o e
      exact nt ps e2
    rw [upd_ne nd]
    exact eN _ _ (ex _ _ e nt) nt
  · rw [List.map_append] at hc
    rcases List.mem_append.mp hc with z | z
    · have e := eN _ _ (hco c z) LamX.codeO_ne
      rw [upd_ne (cn _ _ e)]
      exact e
    · rw [List.map_singleton, List.mem_singleton] at z
      subst z
      rw [upd_ne (cn _ _ hco2)]
      exact hco2
def LQ (X : Cx) (K : PySem.W.Frag) (CA : CAs) (kb ix : Nat) (Fr : R D → FD) (tE : TE → TE) (LC : Expr) : Prop := ∀ (ls : List LamI) (L : Addr) (pins0 : List (Addr × Obj)), (∀ l ∈ ls, l.b.Ok X K CA kb) →
  PE (X.tr (X.pn ++ (ls.map (LamI.pin X) ++ pins0)) X.xe) LC (fun σ H Q => (σ[ix]? = some (some (.ref L)) ∧ H L = some (.lst (refsL ls)) ∧ CodesL (X.env.qual ++ "<lambda>") ls H) ∧ tLamL (X.env.qual ++ "<lambda>") tE (ls.map fun l => tFr K CA Fr l.b.t) L (refsL ls) (ls.map (·.c')) σ H Q)
section
variable {LC e : Expr} {bs : List LamB} {tX : TE → TE} {tT : TE → L2.TT}
theorem oks_of {ls : List LamI} (hb : ∀ b ∈ bs, b.Ok X K CA kb) (els : ls.map (·.b) = bs) : ∀ l ∈ ls, l.b.Ok X K CA kb := fun l hl => hb _ (els ▸ List.mem_map.mpr ⟨l, hl, rfl⟩)
theorem trs_of {ls : List LamI} (els : ls.map (·.b) = bs) : (ls.map fun l => tFr K CA Fr l.b.t) = bs.map fun b => tFr K CA Fr b.t := by rw [← els, List.map_map]; rfl
theorem psr_ret (hb : ∀ b ∈ bs, b.Ok X K CA kb) (hLC : LQ X K CA kb ix Fr tE LC) (hX : ∀ (pn : List (Addr × Obj)) (tc : TE), PE (X.tr pn X.xe) LC tc → PE (X.tr pn X.xe) e (tX tc)) (mX : ∀ (tc tc' : TE) (σ : L2.St) (H : Hp) (Q : VK), (∀ Q, tc σ H Q → tc' σ H Q) → tX tc σ H Q → tX tc' σ H Q) :
    PSR X CA ix bs [.Return (some e) pos] (fun L xs cs => tRet (tX (tLamL (X.env.qual ++ "<lambda>") tE (bs.map fun b => tFr K CA Fr b.t) L xs cs))) := by
  intro ls els L pins s σ H0 H D I hix hL0 ex T hL hco h
  have P := (hX _ _ (hLC ls L pins (oks_of hb els))).run [] s (σ.set ix (some (.ref L))) H D.rt (I.toTry X.xe) (mX _ _ _ _ _ (fun Q q => ⟨⟨by rw [List.getElem?_set_self hix], hL, hco⟩, by rw [trs_of els]; exact q⟩) (h.2 L (refsL ls) (ls.map (·.c')) H hL0 ex T hL hco))
  refine wpAny_execs_cons (wpAny_Return_some (thn P fun v s1 ⟨w, H1, I1, r1, q1⟩ => ?_))
  exact ⟨w, _, H1, unpinL (I1.ofTry I.ok), r1, q1⟩
theorem psr_if {test : Expr} {b1 b2 rest : List Stmt} {t1 t2 tw : TS} (hb : ∀ b ∈ bs, b.Ok X K CA kb) (hLC : LQ X K CA kb ix Fr tE LC) (hT : ∀ (pn : List (Addr × Obj)) (tc : TE), PE (X.tr pn X.xe) LC tc → PT (X.tr pn X.xe) test (tT tc)) (mT : ∀ (tc tc' : TE) (σ : L2.St) (H : Hp) (Q : Bool → Hp → Prop), (∀ Q, tc σ H Q → tc' σ H Q) → tT tc σ H Q → tT tc' σ H Q)
    (h1 : PSs X b1 t1) (h2 : PSs X b2 t2) (hr : PSs X rest tw) :
    PSR X CA ix bs (.If test b1 b2 pos :: rest) (fun L xs cs => tSeq (tIfS (tT (tLamL (X.env.qual ++ "<lambda>") tE (bs.map fun b => tFr K CA Fr b.t) L xs cs)) t1 t2) tw) := by
  intro ls els L pins s σ H0 H D I hix hL0 ex T hL hco h
  have P := (hT _ _ (hLC ls L pins (oks_of hb els))).run [] s (σ.set ix (some (.ref L))) H _ (I.toTry X.xe) (mT _ _ _ _ _ (fun Q q => ⟨⟨by rw [List.getElem?_set_self hix], hL, hco⟩, by rw [trs_of els]; exact q⟩) (h.2 L (refsL ls) (ls.map (·.c')) H hL0 ex T hL hco))
  refine wpAny_execs_cons (wpAny_If (thn P fun d s1 ⟨H1, I1, q1⟩ => ?_))
  have I2 := unpinL (I1.ofTry I.ok)
  have go : ∀ {b : List Stmt} {t : TS}, PSs X b t → t { D with nx := tw D } (σ.set ix (some (.ref L))) H1 → wpAny (model X.prog X.w) X.A (execs b X.env) (fun fl s2 => match fl with
      | .next => wpAny (model X.prog X.w) X.A (execs rest X.env) (SP X pins D) X.xe s2
      | f => SP X pins D f s2) X.xe s1 := fun hb hq => thn (hb.run pins s1 _ H1 _ I2 hq) fun fl s2 q => by
    cases fl with
    | next =>
      obtain ⟨σ', H', I', q⟩ := q
      exact hr.run pins s2 σ' H' D I' q
    | ret v => exact q
    | brk => exact q
    | cont => exact q
  cases d with
  | true => exact thn (go h1 q1) fun fl s2 q => by cases fl <;> exact q
  | false => exact thn (go h2 q1) fun fl s2 q => by cases fl <;> exact q
end
end
def dGo : List TD → DE → List D → CH → R (List D)
  | [], _, acc, h => .ok acc h
  | t :: ts, ρ, acc, h => (t ρ h).calm fun y h => if acc.length < sizeLine then dGo ts ρ (acc ++ [y]) h else .no
def dLamL (ts : List TD) : TD := fun ρ h => (dGo ts ρ [] h).bind fun ys h => .ok (.lst ys) h
section
variable {X : Cx} {K : PySem.W.Frag} {CA : CAs} {W : WX} {L : Addr} {xs : List V} {cs : List Addr} {q : Str} {tE : TE → TE} {dE : TD → TD} {Fr : R D → FD} {ix kb : Nat}
def SimF (K : PySem.W.Frag) (CA : CAs) (W : WX) (L : Addr) (xs : List V) (cs : List Addr) (q : Str) (te : TE) (td : TD) : Prop := ∀ (m : Mp) (h : CH) (H : Hp) (σ : L2.St) (ρ : DE) (Q' : VK), SO K CA m h H σ ρ → ¬ Live m h L → H L = some (.lst xs) → (∀ c ∈ cs, H c = some (LamX.CodeO c q)) → PostE K CA W m h H σ Q' (td ρ h) → te σ H Q'
def SimFS (K : PySem.W.Frag) (CA : CAs) (W : WX) (L : Addr) (xs : List V) (cs : List Addr) (q : Str) (tS : TS) (u : SD) : Prop := ∀ (m : Mp) (h : CH) (H : Hp) (σ : L2.St) (ρ : DE) (D' : Ends), SO K CA m h H σ ρ → ¬ Live m h L → H L = some (.lst xs) → (∀ c ∈ cs, H c = some (LamX.CodeO c q)) → PostS K CA W m h H D' (u ρ h) → tS D' σ H
theorem simF_lamL {bs : List LamB} (hb : ∀ b ∈ bs, SimE K CA W0 (tE (tFr K CA Fr b.t)) (dE (dFr Fr b.tb))) : SimF K CA W L xs cs q (tLamL q tE (bs.map fun b => tFr K CA Fr b.t) L xs cs) (dLamL (bs.map fun b => dE (dFr Fr b.tb))) := by
  intro m h H σ ρ Q' S nl hL hco t D n
  have S2 := S.hr.add (u := .lst []) n
  have SO2 : SO K CA (m.add D) h (upd H D (.lst [])) σ ρ := ⟨S2, S.len, fun i d e => let ⟨v, e1, q⟩ := S.sl i d e; ⟨v, e1, q.add n⟩⟩
  have key : ∀ (bs' : List LamB), (∀ b ∈ bs', SimE K CA W0 (tE (tFr K CA Fr b.t)) (dE (dFr Fr b.tb))) → ∀ (m2 : Mp) (h2 : CH) (H2 : Hp) (acc : List V) (dacc : List CM.D), Sc D (m.add D) h (upd H D (.lst [])) m2 h2 H2 → SO K CA m2 h2 H2 σ ρ → H2 D = some (.lst acc) → RpAll K CA m2 h2 H2 acc dacc →
      PostE K CA W m h H σ Q' ((dGo (bs'.map fun b => dE (dFr Fr b.tb)) ρ dacc h2).bind fun ys h => .ok (.lst ys) h) → goL L xs cs q D Q' ((bs'.map fun b => tFr K CA Fr b.t).map fun t => tE t σ) H2 := by
    intro bs'
    induction bs' with
    | nil =>
      intro _ m2 h2 H2 acc dacc st S' eD ra q'
      have z2 : m2.z = D :: m.z := st.z
      exact q' ⟨m2.f, m.z⟩ (.ref D) H2 (stp_done S.hr n st) (S'.hr.done z2) (.lst (done_data S.hr n st S'.hr) eD (ra.done z2))
    | cons b bs' ih =>
      intro hb m2 h2 H2 acc dacc st S' eD ra q'
      refine hb b List.mem_cons_self m2 h2 H2 σ ρ _ S' ?_
      replace q' : PostE K CA W m h H σ Q' (((dE (dFr Fr b.tb) ρ h2).calm fun y h => if dacc.length < sizeLine then dGo (bs'.map fun b => dE (dFr Fr b.tb)) ρ (dacc ++ [y]) h else .no).bind fun ys h => .ok (.lst ys) h) := q'
      cases ee : dE (dFr Fr b.tb) ρ h2 with
      | ex c fs h3 => rw [ee] at q'; exact q'.elim
      | no => rw [ee] at q'; exact q'.elim
      | ok y h3 =>
        rw [ee] at q'
        intro m3 v3 H3 s3 S3 r3
        have pz : D ∈ m2.z := by rw [st.z]; exact List.mem_cons_self ..
        have eD3 := (s3.zk D pz).trans eD
        have pz3 : D ∈ m3.z := by rw [s3.z]; exact pz
        have ra3 := (ra.move s3).append (.cons r3 .nil)
        have S3' := S'.move s3 S3
        have sm := sc_made (u := .lst (acc ++ [v3])) S3 pz3
        have st3 := (st.trans (s3.sc (p := D))).trans sm
        have sd := stp_done S.hr n st3
        replace q' : PostE K CA W m h H σ Q' ((if dacc.length < sizeLine then dGo (bs'.map fun b => dE (dFr Fr b.tb)) ρ (dacc ++ [y]) h3 else .no).bind fun ys h => .ok (.lst ys) h) := q'
        by_cases hz : dacc.length < sizeLine
        · rw [if_pos hz] at q'
          refine ⟨acc, eD3, by rw [ra.length]; exact hz, ?_, fun c hc => stp_code S.hr sd (hco c hc), ih (fun b hb' => hb b (List.mem_cons_of_mem _ hb')) m3 h3 _ _ (dacc ++ [y]) st3 ⟨S3.made pz3, S3'.len, fun j dj ej => let ⟨vj, e1, q⟩ := S3'.sl j dj ej; ⟨vj, e1, q.mv sm.toMv⟩⟩ upd_same (ra3.mv sm.toMv) q'⟩
          obtain ⟨_, o', e', l⟩ := sd.kp L _ nl hL trivial
          rcases l with rfl | ⟨ob, kvs, q1, _⟩ | ⟨ps, qs, q1, _⟩
          · exact e'
          · cases q1
          · cases q1
        · rw [if_neg hz] at q'
          exact q'.elim
  exact key bs hb (m.add D) h _ [] [] (Stp.sc .refl) SO2 upd_same .nil t
theorem simF_op {r : R2} {f : F2} {tH tH' : TE} {ta tb : TD} (hs : SimR K CA r f) (ha : SimF K CA W L xs cs q tH ta) (hb : SimE K CA W tH' tb) : SimF K CA W L xs cs q (L2.tOp r tH tH') (dOp f ta tb) := fun m h H σ ρ Q' S nl e1 e2 t =>
  ha m h H σ ρ _ S nl e1 e2 (t.bind fun x h1 m1 v H1 s1 S1 r1 t1 => hb m1 h1 H1 σ ρ _ (S.move s1 S1) (t1.bind fun y h2 m2 w H2 s2 S2 r2 t2 => hs W σ m2 h2 H2 v w x y Q' S2 (r1.move s2) r2 t2))
theorem simF_ret {tH : TE} {d : TD} (x : SimF K CA W L xs cs q tH d) : SimFS K CA W L xs cs q (tRet tH) (dRet d) := fun m h H σ ρ D' S nl e1 e2 t =>
  x m h H σ ρ _ S nl e1 e2 (PostS.bind S t fun a h1 m1 v H1 s1 S1 r q1 => q1 m1 v H1 .refl S1 r)
theorem simF_if {tH : TE} {ta : TD} {t t' : TS} {u w : SD} (x : SimF K CA W L xs cs q tH ta) (y : SimS K CA W t u) (y' : SimS K CA W t' w) : SimFS K CA W L xs cs q (tIfS (tTest tH) t t') (dIfS (dB ta) u w) := fun m h H σ ρ D' S nl e1 e2 tt => by
  have q1 : PostT K CA W m h H σ (fun b H1 => if b = true then t D' σ H1 else t' D' σ H1) (dB ta ρ h) := PostS.bind S tt fun b h1 m1 b' H1 s1 S1 e q1 => by
    cases (show b' = b from e)
    cases b with
    | true => exact y m1 h1 H1 σ ρ D' (S.move s1 S1) q1
    | false => exact y' m1 h1 H1 σ ρ D' (S.move s1 S1) q1
  exact x m h H σ ρ _ S nl e1 e2 (PostG.bind (show PostT K CA W m h H σ _ ((ta ρ h).bind asB) from q1) fun x h1 m1 v H1 s1 S1 r1 t1 => by
    obtain ⟨b, _, e, q⟩ := asB_inv r1 S1 t1
    exact ⟨b, e, q⟩)
theorem simF_seq {t t' : TS} {u w : SD} (x : SimFS K CA W L xs cs q t u) (y : SimS K CA W t' w) : SimFS K CA W L xs cs q (tSeq t t') (dSeq u w) := fun m h H σ ρ D' S nl e1 e2 q =>
  x m h H σ ρ { D' with nx := t' D' } S nl e1 e2 (by
    unfold dSeq at q
    cases e : u ρ h with
    | nx ρ' h' => rw [e] at q; exact fun m' σ' H' s S' => y m' h' H' σ' ρ' D' S' (PostS.from (show PostS K CA W m h H D' (w ρ' h') from q) s)
    | rt d h' => rw [e] at q; exact q
    | bk d h' => rw [e] at q; exact q
    | ct d h' => rw [e] at q; exact q
    | ex ρ' c fs h' => rw [e] at q; exact q
    | no => rw [e] at q; exact q)
theorem sim_reg {t : Addr → List V → List Addr → TS} {u : SD} (hs : ∀ L xs cs, SimFS K CA W L xs cs q (t L xs cs) u) : SimS K CA W (tReg q CA.T ix t) (dSeq (dUnset ix) u) := fun m h H σ ρ D' S qq => by
  refine ⟨S.hr.tb, fun L xs cs H1 nL ex T1 hL hco => ?_⟩
  obtain ⟨s1, S1⟩ := stp_ext S.hr ex T1
  have S2 := S.move s1 S1
  have nl : ¬ Live m h L := fun l => by
    rcases l with ⟨k, o, e, rfl⟩ | z
    · obtain ⟨u, eu, nt⟩ := mok_nt (S.hr.ob k o e).2
      obtain ⟨ps, rfl⟩ := nL u eu
      exact nt
    · obtain ⟨u, eu, nt⟩ := S.hr.zh L z
      obtain ⟨ps, rfl⟩ := nL u eu
      exact nt
  refine hs L xs cs m h H1 (σ.set ix (some (.ref L))) (ρ.set ix none) D' ⟨S2.hr, by rw [List.length_set, List.length_set]; exact S2.len, fun i d e => ?_⟩ nl hL hco ?_
  · by_cases z : ix = i
    · subst z
      rw [List.getElem?_set] at e
      split at e
      · split at e <;> cases e
      · rename_i ne
        exact absurd rfl ne
    · rw [List.getElem?_set_ne z] at e ⊢
      exact S2.sl i d e
  · exact qq.from s1
end
structure WR (X : Cx) (K : PySem.W.Frag) (CA : CAs) (W : WX) (kb ix : Nat) (bs : List LamB) (rest : List Stmt) (t : Addr → List V → List Addr → TS) (u : SD) : Prop where
  pe : (∀ b ∈ bs, b.Ok X K CA kb) → PSR X CA ix bs rest t
  sim : (∀ b ∈ bs, b.Ok X K CA kb) → ∀ L xs cs, SimFS K CA W L xs cs (X.env.qual ++ "<lambda>") (t L xs cs) u
section
variable {X : Cx} {K : PySem.W.Frag} {CA : CAs} {W : WX} {ix kb k iy : Nat} {g : Bool} {x y z : Str} {ps : List Str} {Fr : R D → FD} {tE : TE → TE} {dE : TD → TD} {bs : List LamB} {LC e2 elt : Expr} {p p3 cpos pz py pos pc : Pos} {scope : Scope} {own : List (Str × Nat)} {r : R2} {f : F2} {op : CmpOp} {h2e : TE} {t2 : TD}
theorem LamB.ok_of {params : Arguments} {body : Expr} {scope : Scope} {t : XK → TE} {tb : TD} (hrb : Room (kb + 1) X.A) (L : LamX.lamSB X.env.scope scope = true)
    (hbody : ∀ (A : Around) (outer : List Env) (s : Shared) (H : Hp) (E : XK) (f c' : Addr), Room kb (A.deeper (LamX.lamEnv X scope s.heap.objs.size f c')) → Takes (LamX.lamCx X A outer s H E scope f c') (wxD E) → WE (LamX.lamCx X A outer s H E scope f c') K CA (wxD E) body (t E) tb)
    (hdef : defaultsOf params X.env = ([], []) := by rfl) (hbind : ∀ (q : Str) (cl : List (Str × Addr)) (pm cv ctv : Value), bindArgs (PySem.W.kla_fn "<lambda>" q params body scope cl pm cv ctv) ⟨[], []⟩ = pure [] := by intros; rfl) :
    LamB.Ok X K CA kb ⟨params, body, scope, t, tb⟩ :=
  ⟨LamX.lamS_by L, hdef, hbind, fun A outer s H E f c' hr => (hbody A outer s H E f c' hr (takes_of rfl rfl rfl rfl)).pe, fun E => (hbody X.A X.outer X.s_0 X.H_0 E 0 0 (hrb.deeper _) (takes_of rfl rfl rfl rfl)).sim⟩
theorem lq_of (G : Dl X.prog X.w X.K X.mg X.base CA x g k kb ps 0 Fr) (hG : g = true → X.A.guards = some []) (hr : Room k X.A) (hc : X.calm = true) (hN : X.N.Nodup)
    (hpg : ∀ (s : Shared) (H : Hp) (C : Addr) (cl : List (Str × Addr)) (fp : List Addr), PG (X.blk s H scope (compEnvC scope cl C X.env) fp) (.Name y py) (gName iy))
    (hE : ∀ (s : Shared) (H : Hp) (C : Addr) (cl : List (Str × Addr)) (fp : List Addr) (tc : TE), PE (X.blk s H scope (compEnvC scope cl C X.env) fp) (.Call (.Name x p) [.Name y p3] [] cpos) tc → PE (X.blk s H scope (compEnvC scope cl C X.env) fp) elt (tE tc))
    (mono : ∀ (tc tc' : TE) (σ σ' : L2.St) (H : Hp) (Q : VK), (∀ Q, tc σ H Q → tc' σ' H Q) → tE tc σ H Q → tE tc' σ' H Q)
    (ok : BlkOk X.N X.env.scope scope own) (hzN : X.N[ix]? = some z) (hzv : Vis X.env.scope z) (hyN : X.N[iy]? = some y) (hyv : ∀ (cl : List (Str × Addr)) (C : Addr), Vis (compEnvC scope cl C X.env).scope y) (hyo : iy ∈ own.map (·.2)) (hK : X.K = K := by rfl)
    (hg : ∀ (s : Shared) (H : Hp) (C : Addr) (cl : List (Str × Addr)) (fp : List Addr), Gl (X.blk s H scope (compEnvC scope cl C X.env) fp) x := by intros; rfl)
    (hdb : (x == ("__debug__" : Str)) = false := by decide) (hyd : (y == ("__debug__" : Str)) = false := by decide) (hyc : (y == ("__classdict__" : Str)) = false := by decide) (hzd : (z == ("__debug__" : Str)) = false := by decide) (hzc : (z == ("__classdict__" : Str)) = false := by decide) (hs : ∀ x, foldedSetIterable (.Name z pz) X.env x = pure x := by intro _; rfl) :
    LQ X K CA kb ix Fr tE (.ListComp elt [⟨.Name y py, .Name z pz, [], 0⟩] scope pos) := fun ls L pins0 hO =>
  pe_lamL G hK hO hG hr hc hN hg hpg hE mono ok hzN hzv hyN hyv hyo hdb hyd hyc hzd hzc hs
theorem wr_ret (hLC : LQ X K CA kb ix Fr tE LC) (hdE : ∀ t tb, SimE K CA W0 t tb → SimE K CA W0 (tE t) (dE tb)) (ho : ∀ pn, OpR (X.tr pn X.xe) (compareOp op) r) (so : SimR K CA r f) (x2 : ∀ pn, WE (X.tr pn X.xe) K CA W e2 h2e t2) (hm : behindInMarks op e2 = false := by rfl) :
    WR X K CA W kb ix bs [.Return (some (.Compare LC [op] [e2] pc)) pos] (fun L xs cs => tRet (L2.tOp r (tLamL (X.env.qual ++ "<lambda>") tE (bs.map fun b => tFr K CA Fr b.t) L xs cs) h2e)) (dRet (dOp f (dLamL (bs.map fun b => dE (dFr Fr b.tb))) t2)) :=
  ⟨fun hb => psr_ret (tX := fun tc => L2.tOp r tc h2e) hb hLC (fun pn tc hc => pe_cmpR (ho pn) hc (x2 pn).pe hm) (fun tc tc' σ H Q hq q => hq _ q),
    fun hb L xs cs => simF_ret (simF_op so (simF_lamL fun b hbm => hdE _ _ (sim_fr (hb b hbm).sim)) (x2 []).sim)⟩
theorem wr_if {b1 b2 rest : List Stmt} {ta1 tb2 tw : TS} {ua ub w : SD} (hLC : LQ X K CA kb ix Fr tE LC) (hdE : ∀ t tb, SimE K CA W0 t tb → SimE K CA W0 (tE t) (dE tb)) (ho : ∀ pn, OpR (X.tr pn X.xe) (compareOp op) r) (so : SimR K CA r f) (x2 : ∀ pn, WE (X.tr pn X.xe) K CA W e2 h2e t2)
    (ha : WSs X K CA W b1 ta1 ua) (hb2 : WSs X K CA W b2 tb2 ub) (hrest : WSs X K CA W rest tw w) (hm : behindInMarks op e2 = false := by rfl) :
    WR X K CA W kb ix bs (.If (.Compare LC [op] [e2] pc) b1 b2 pos :: rest) (fun L xs cs => tSeq (tIfS (tTest (L2.tOp r (tLamL (X.env.qual ++ "<lambda>") tE (bs.map fun b => tFr K CA Fr b.t) L xs cs) h2e)) ta1 tb2) tw)
      (dSeq (dIfS (dB (dOp f (dLamL (bs.map fun b => dE (dFr Fr b.tb))) t2)) ua ub) w) :=
  ⟨fun hb => psr_if (tT := fun tc => tTest (L2.tOp r tc h2e)) hb hLC (fun pn tc hc => pt_cmpR (ho pn) hc (x2 pn).pe hm) (fun tc tc' σ H Q hq q => hq _ q) ha.pe hb2.pe hrest.pe,
    fun hb L xs cs => simF_seq (simF_if (simF_op so (simF_lamL fun b hbm => hdE _ _ (sim_fr (hb b hbm).sim)) (x2 []).sim) ha.sim hb2.sim) hrest.sim⟩
theorem wr_app {c P : Addr} {params : Arguments} {body : Expr} {scope : Scope} {t : XK → TE} {tb : TD} {rest : List Stmt} {tr : Addr → List V → List Addr → TS} {u : SD} {lpos apos : Pos} (TB : LamX.TabB X.base X.mg c P) (hmT : (P, X.env.qual ++ "<lambda>") ∈ CA.T) (hu : ∀ p ∈ CA.T, p.1 = P → p.2 = X.env.qual ++ "<lambda>")
    (O : LamB.Ok X K CA kb ⟨params, body, scope, t, tb⟩) (hN : X.N.Nodup) (hi : X.N[ix]? = some z) (hz : Vis X.env.scope z) (hp : WR X K CA W kb ix (bs ++ [⟨params, body, scope, t, tb⟩]) rest tr u) (hn : bs.length < 1000 := by simp) (hcode : X.env.code = .ref c := by rfl) (hst : X.stack = X.env :: X.outer := by rfl) (hfm : X.env.frame = some X.env.locals := by rfl)
    (hzd : (z == ("__debug__" : Str)) = false := by decide) (hzc : (z == ("__classdict__" : Str)) = false := by decide)
    (he : starEach [.Lambda params body scope lpos] X.env = (false, eval (.Lambda params body scope lpos) X.env) :: starEach [] X.env := by rfl)
    (hbase : attributeBase (.Name z pz) "append" X.env (eval (.Name z pz) X.env) = eval (.Name z pz) X.env := by rfl)
    (hfew : ((backTo cpos (starEach [.Lambda params body scope lpos] X.env)).all (fun x => !x.1) && (backToKw cpos (keywordEach [] X.env)).all (fun x => x.1.isSome)
      && decide (([.Lambda params body scope lpos] : List Expr).length + ([] : List Keyword).length + (if ([] : List Keyword).isEmpty then 0 else 1) < 30)) = true := by rfl)
    (hline : (apos.endLine == cpos.line) = true := by rfl)
    (hs : swapsWith (.Call (.Attribute (.Name z pz) "append" apos) [.Lambda params body scope lpos] [] cpos) none pos.line X.env = pure false := by rfl) :
    WR X K CA W kb ix bs (.Expr (.Call (.Attribute (.Name z pz) "append" apos) [.Lambda params body scope lpos] [] cpos) pos :: rest) tr u :=
  have all : (∀ b ∈ bs, b.Ok X K CA kb) → ∀ b ∈ bs ++ [⟨params, body, scope, t, tb⟩], b.Ok X K CA kb := fun hb b hm => (List.mem_append.mp hm).elim (hb b) fun z => by
    rw [List.mem_singleton] at z
    subst z
    exact O
  ⟨fun hb => psr_app (b := ⟨params, body, scope, t, tb⟩) TB hmT hu O hN hi hz hn (hp.pe (all hb)) hcode hst hfm hzd hzc he hbase hfew hline hs, fun hb => hp.sim (all hb)⟩
theorem wss_reg {c P : Addr} {params : Arguments} {body : Expr} {scope : Scope} {t : XK → TE} {tb : TD} {rest : List Stmt} {tr : Addr → List V → List Addr → TS} {u : SD} {lpos lp : Pos} (TB : LamX.TabB X.base X.mg c P) (hmT : (P, X.env.qual ++ "<lambda>") ∈ CA.T) (hu : ∀ p ∈ CA.T, p.1 = P → p.2 = X.env.qual ++ "<lambda>")
    (O : LamB.Ok X K CA kb ⟨params, body, scope, t, tb⟩) (hN : X.N.Nodup) (hi : X.N[ix]? = some z) (hz : Loc X.env.scope z) (hp : WR X K CA W kb ix [⟨params, body, scope, t, tb⟩] rest tr u) (hcode : X.env.code = .ref c := by rfl) (hst : X.stack = X.env :: X.outer := by rfl) (hfm : X.env.frame = some X.env.locals := by rfl)
    (he : starEach [.Lambda params body scope lpos] X.env = (false, eval (.Lambda params body scope lpos) X.env) :: starEach [] X.env := by rfl)
    (hs : swapsWith (.List [.Lambda params body scope lpos] lp) (some (.Name z pz)) pos.line X.env = pure false := by rfl) (hf : X.fn z = true ∨ X.env.scope.names.lookup z = some .local := by first | exact .inl rfl | exact .inr rfl | assumption) :
    WSs X K CA W (.Assign [.Name z pz] (.List [.Lambda params body scope lpos] lp) pos :: rest) (tReg (X.env.qual ++ "<lambda>") CA.T ix tr) (dSeq (dUnset ix) u) :=
  have all : ∀ b ∈ [(⟨params, body, scope, t, tb⟩ : LamB)], b.Ok X K CA kb := fun b hm => by
    rw [List.mem_singleton] at hm
    subst hm
    exact O
  ⟨pss_reg (b := ⟨params, body, scope, t, tb⟩) TB hmT hu O hN hi hz (hp.pe all) hcode hst hfm he hs hf, sim_reg (hp.sim all)⟩
theorem sim_idE : ∀ t tb, SimE K CA W0 t tb → SimE K CA W0 ((fun tc : TE => tc) t) ((fun d : TD => d) tb) := fun _ _ h => h
end
section
variable {prog : Program} {w : World} {A : Around} {E : Value → Shared → Prop} {s : Shared} {l : Addr} {its : List Value} {ns : List Int} {Q : Value → Shared → Prop}
theorem max_tup (hh : A.handled = none) (hl : s.heap.IsTuple l its.toArray) (hi : IntsAre its ns) (hne : 0 < ns.length)
    (h : ∀ h' tk M t', (∀ b o, s.heap.get? b = some o → h'.get? b = some o) → M ∈ ns → (∀ a, a ∈ ns → a ≤ M) → Q (.int M t') { s with heap := h', toks := tk }) : wpAny (model prog w) A (call (.builtin "max") [.ref l]) Q E s := by
  obtain ⟨xs, e⟩ := hi.allInts.items
  have hn : numsOf (intItems xs).toList = ns := by rw [← e]; exact hi.numsOf
  rw [nums_intItems] at hn
  subst hn
  rw [e] at hl
  have lt : l < s.heap.objs.size := by
    obtain ⟨o, eo, _⟩ := hl
    exact Heap.lt_size eo
  have n0 : 0 < xs.size := by simpa using hne
  refine call_max_walk (wpAny_pyIter_tuple hl ⟨s.heap.objs.size, [s.heap.objs.size, l], [s.heap.objs.size], (intItems xs).size, _, _, _, rfl, Walks.tuple (A := A.in1) hh _ l (Nat.ne_of_lt lt) (intItems xs), ⟨⟨_, Heap.get?_push_size _ rfl, rfl, rfl⟩, hl.push _⟩, fun b hb => ?_, by simpa [intItems] using n0, CmpOf.ints_gt (numAt xs) (fun _ _ => intItems_at), fun v h' tk hP hk => ?_⟩)
  · rw [Heap.size_push]
    rcases List.mem_cons.mp hb with z | z
    · rw [z]; exact Nat.lt_succ_self _
    · rw [List.mem_singleton.mp z]; exact Nat.lt_succ_of_lt lt
  · obtain ⟨t, rfl⟩ := intItems_at hP
    have es : (intItems xs).size = xs.size := by simp [intItems]
    obtain ⟨h1, h2⟩ := argBest_gt (numAt xs) ((intItems xs).size - 1)
    refine h h' tk _ t (fun b o eb => hk b o (fun z => ?_) (Heap.get?_push_of_some _ eb)) ?_ fun a ha => ?_
    · rw [List.mem_singleton.mp z] at eb
      exact Nat.lt_irrefl _ (Heap.lt_size eb)
    · rw [numAt_eq]; exact PySem.getD_mem (by rw [List.length_map, Array.length_toList]; omega)
    · obtain ⟨j, hj, rfl⟩ := mem_getD ha
      rw [List.length_map, Array.length_toList] at hj
      rw [← numAt_eq]; exact h2 j (by omega)
end
def rMaxS (K : PySem.W.Frag) : List V → Hp → VK → Prop := fun vs H Q => ∃ (a : Addr) (ns : List Int), vs = [V.ref a] ∧ (SqL K H a (ns.map V.int) ∨ SqT K H a (ns.map V.int)) ∧ 0 < ns.length ∧ ∀ m, m ∈ ns → (∀ y, y ∈ ns → y ≤ m) → Q (.int m) H
def fMaxS : FD := fun ds h => match ds with
  | [d] => match seqOf h d with
    | some xs => match intsOf xs with
      | some is => if 0 < is.length then .ok (.int (maxL is)) h else .no
      | none => .no
    | none => .no
  | _ => .no
theorem call_maxS {X : Cx} {K : PySem.W.Frag} (hc : X.calm = true := by rfl) (hK : X.K = K := by rfl) : CallR X (.builtin "max") (rMaxS K) := by
  subst hK
  rintro pins s σ H vs us Q I r ⟨a, ns, rfl, hs | hs, hne, q⟩
  · exact cr_max hc pins s σ H _ us Q I r ⟨a, ns, rfl, hs, hne, q⟩
  · obtain ⟨its, rv, hl, _⟩ := I.tuple hs
    rw [Vals.ref1 r]
    exact max_tup (I.ok.hd hc) (show s.heap.IsTuple a its.toArray from hl) rv.ints hne fun h' tk m t' hk h1 h2 => ⟨.int _, H, I.kept hk, ⟨_, rfl⟩, q m h1 h2⟩
section
variable {K : PySem.W.Frag} {CA : CAs}
theorem sim_maxS : SimC K CA (rMaxS K) fMaxS := by
  intro W σ m h H xs ds Q' S r t
  unfold fMaxS at t
  split at t
  · split at t
    · rename_i ys e
      split at t
      · rename_i is ei
        obtain ⟨l, t⟩ := post_ite t
        cases r with
        | cons r1 r2 =>
          cases r2
          obtain ⟨a, zs, rfl, e1, rr⟩ := rp_seq S r1 e
          obtain ⟨q1, q2⟩ := rp_ints rr ei
          subst q1
          have ne : is ≠ [] := List.length_pos_iff.mp l
          obtain ⟨a1, a2⟩ := maxL_mem ne
          refine ⟨a, is, rfl, e1, l, fun m' h1 h2 => ?_⟩
          have em : m' = maxL is := by
            have := h2 _ a1
            have := a2 _ h1
            omega
          rw [em]
          exact t.here S (.int _)
      · exact t.elim
    · exact t.elim
  · exact t.elim
end
section
variable (K : PySem.W.Frag) (a : Addr)
def seqN : Nat := match (objD K a).data with
  | .seq _ n => n
  | _ => 0
end
section
variable {K : PySem.W.Frag} {a : Addr} {name qual : Str} {st : Stmt}
theorem fnO_ok (e : fnO K a = fnE name qual st) : K.lookup a = some ⟨(objD K a).cls, (objD K a).dict, .func (PySem.W.fnOf name qual (defArgs st) (defBody st) (defScope st) .none (fdD K a).kwdefaults (fdD K a).doc (fdD K a).pyModule (fdD K a).annotations (fdD K a).code (fdD K a).closureTuple), (objD K a).slots⟩ := by
  unfold fnO at e
  cases q : K.lookup a with
  | none => rw [q] at e; cases e
  | some o =>
    obtain ⟨oc, od, dt, osl⟩ := o
    have eo : objD K a = ⟨oc, od, dt, osl⟩ := by unfold objD; rw [q]; rfl
    rw [q] at e
    cases dt with
    | func fd =>
      have ef : fdD K a = fd := by unfold fdD; rw [eo]
      rw [eo, ef]
      obtain ⟨n1, n2, n3, n4, n5, n6, n7, n8, n9, n10, n11, n12, n13, n14, n15⟩ := fd
      simp only [fnE, Option.some.injEq, Prod.mk.injEq, List.map_eq_nil_iff] at e
      obtain ⟨h1, h2, h3, h4, h5, h6, h7, h8, h9⟩ := e
      subst h1 h2 h3 h4 h5 h6 h7 h8 h9
      rfl
    | _ => cases e
theorem knd_ex {n : Nat} (e : decide (kndD K a = n) = true) (n0 : n ≠ 0) : ∃ o, K.lookup a = some o ∧ objD K a = o ∧ (match o.data with
    | .func _ => 1
    | .fields _ => 2
    | .seq _ _ => 3
    | .dict _ _ => 4
    | .cell _ => 5
    | _ => 0) = n := by
  have e := of_decide_eq_true e
  unfold kndD at e
  cases q : K.lookup a with
  | none => rw [q] at e; exact absurd e.symm n0
  | some o => rw [q] at e; exact ⟨o, rfl, by unfold objD; rw [q]; rfl, e⟩
theorem fld_ok (e : decide (kndD K a = 2) = true) : K.lookup a = some ⟨(objD K a).cls, (objD K a).dict, .fields (fldD K a), (objD K a).slots⟩ := by
  obtain ⟨⟨c, d, dt, sl⟩, h1, h2, h3⟩ := knd_ex e (by decide)
  unfold fldD
  rw [h1, h2]
  cases dt <;> first | rfl | (simp at h3)
theorem seq_ok (e : decide (kndD K a = 3) = true) : K.lookup a = some ⟨(objD K a).cls, (objD K a).dict, .seq (seqD K a) (seqN K a), (objD K a).slots⟩ := by
  obtain ⟨⟨c, d, dt, sl⟩, h1, h2, h3⟩ := knd_ex e (by decide)
  unfold seqD seqN
  rw [h1, h2]
  cases dt <;> first | rfl | (simp at h3)
theorem tup_ok {vs : List Value} (e : decide (kndD K a = 3) = true) (c : decide ((objD K a).cls = .type "tuple") = true) (v : decide ((seqD K a).toList = vs) = true) : K.lookup a = some ⟨.type "tuple", (objD K a).dict, .seq vs.toArray (seqN K a), (objD K a).slots⟩ := by
  rw [seq_ok e, of_decide_eq_true c]
  have : seqD K a = vs.toArray := by rw [← of_decide_eq_true v]
  rw [this]
theorem non_ok (e : (K.lookup a).isNone = true) : K.lookup a = none := Option.isNone_iff_eq_none.mp e
end
theorem ckF {l : List Bool} (h : l.all id = true) (i : Nat) {b : Bool} (e : l[i]? = some b) : b = true := List.all_eq_true.mp h b (List.mem_of_getElem? e)
theorem fnF {X : SpecX} {K : PySem.W.Frag} (e : X.fn K = X.fe) (i : Nat) {a b : FnV} (ea : (X.fn K)[i]? = some a) (eb : X.fe[i]? = some b) : a = b := by
  rw [e, eb] at ea
  exact (Option.some.inj ea).symm
theorem walkGX {l : PySem.W.OpenLaw} {k : Nat} {q : Program} {loose : List Str} {XP : (Str → Option Value) → Heap → Prop} {YP : World → Heap → Prop} {d : DefRec} {F : FD} (hF : LawF F) (hi : importsNone q = true) (hn : l.most = some 63) (hdf : d.params.defaults = []) (hr : Room k callerA)
    (G0 : ∀ (w : World) (mg : Str → Option Value) (fa : Addr) (h : Heap), YP w h → h.Ns mainGlobals mg → mg d.name = some (.ref fa) → ∃ K : PySem.W.Frag, K.In h ∧ ∃ (fd : FuncData) (CA : CAs) (cs : List (Addr × Addr)), (∀ p ∈ CA.T, ∃ c, (c, p.1) ∈ cs) ∧ (∀ p ∈ cs, h.get? p.2 = some { cls := .none, data := .fields #[] }) ∧ (∀ p ∈ cs, K.lookup p.2 = none) ∧ (∀ p ∈ cs, PySem.W.CodeHd h p.1 p.2) ∧
      (∀ (s : Shared) (u : Value), BindsTo s fd ⟨[u], []⟩ [("_law_script", u)]) ∧
      ∀ base : Heap, K.In base → base.Ns mainGlobals mg → SM base → (∀ p ∈ cs, LamX.TabB base mg p.1 p.2) → FnG l.prog w K mg base true k fa fd ["_law_script"] (spD K CA 1 F)) : PySem.W.WalkO q loose XP YP l.row.toRowW d [] (fun f vs => PySem.call f vs) := by
  refine Att.attach_callB hn hdf fun w s0 s1 mg mb fa o pm cd doc a vs ns G Y _ _ _ hm ha his hl _ gens => ?_
  obtain ⟨mm, hm2, _⟩ := (G.T.seer hi).mods
  have sm : SM s1.heap := by
    obtain ⟨o, es, ep, e, d, _⟩ := hm2
    exact ⟨o, es, ep, e, d⟩
  obtain ⟨K, KX, fd, CA, cs, T0, hT, nT, hC, bd, G1⟩ := G0 w mg fa _ Y G.T.g hm
  exact law_endT KX G.T.g G.T.b G.T.builtins G.T.nolimit gens ha his hl hr hF sm hT nT hC G.T.bmain T0 G1 bd
end CM
namespace CM
open PySem PySem.Spec PyProof.Rows L2
section
variable {α β : Type} {a : α} {h : CH} {c : Nat} {fs : List (Str × D)} {f : α → CH → R β} {g : α → CH → RS} {ρ : DE} {w : SD} {d : D}
@[simp] theorem bind_ok : (R.ok a h).bind f = f a h := rfl
@[simp] theorem bind_ex : (R.ex c fs h : R α).bind f = .ex c fs h := rfl
@[simp] theorem bind_no : (R.no : R α).bind f = .no := rfl
@[simp] theorem calm_ok : (R.ok a h).calm f = f a h := rfl
@[simp] theorem calm_no : (R.no : R α).calm f = .no := rfl
@[simp] theorem toS_ok : (R.ok a h).toS ρ g = g a h := rfl
@[simp] theorem toS_ex : (R.ex c fs h : R α).toS ρ g = .ex ρ c fs h := rfl
@[simp] theorem toS_no : (R.no : R α).toS ρ g = .no := rfl
@[simp] theorem sbind_nx : (RS.nx ρ h).bind w = w ρ h := rfl
@[simp] theorem sbind_rt : (RS.rt d h).bind w = .rt d h := rfl
@[simp] theorem sbind_bk : (RS.bk ρ h).bind w = .bk ρ h := rfl
@[simp] theorem sbind_ct : (RS.ct ρ h).bind w = .ct ρ h := rfl
@[simp] theorem sbind_ex : (RS.ex ρ c fs h).bind w = .ex ρ c fs h := rfl
@[simp] theorem sbind_no : (RS.no).bind w = .no := rfl
@[simp] theorem res_nx : (RS.nx ρ h).res = .ok .non h := rfl
@[simp] theorem res_rt : (RS.rt d h).res = .ok d h := rfl
@[simp] theorem res_ex : (RS.ex ρ c fs h).res = .ex c fs h := rfl
@[simp] theorem put_ok {ρ : DE} {k : SD} : (R.ok ρ h).put k = k ρ h := rfl
@[simp] theorem unl_nx : (RS.nx ρ h).unl none = .nx ρ h := rfl
@[simp] theorem unl_none {r : RS} : r.unl none = r := by cases r <;> rfl
@[simp] theorem runl_none {r : R α} : r.unl none = r := by cases r <;> rfl
end
section
variable {ta tb tc : TD} {ts : TDs} {t u : TB} {ρ : DE} {h : CH} {d : D} {f : F2} {f1 : F1} {F : FD} {FMm : FM} {n i : Nat} {nm : Bool} {T : String}
@[simp] theorem e_C : dC d ρ h = .ok d h := rfl
@[simp] theorem e_op : dOp f ta tb ρ h = (ta ρ h).bind fun x h => (tb ρ h).bind fun y h => f x y h := rfl
@[simp] theorem e_un : dUn f1 ta ρ h = (ta ρ h).bind f1 := rfl
@[simp] theorem e_nil : dNil ρ h = .ok [] h := rfl
@[simp] theorem e_cons : dCons ta ts ρ h = (ta ρ h).bind fun x h => (ts ρ h).bind fun xs h => .ok (x :: xs) h := rfl
@[simp] theorem e_tup : dTup ts ρ h = (ts ρ h).bind fun xs h => if xs.length ≤ sizeLine then .ok (.tup xs) h else .no := rfl
@[simp] theorem e_lst : dLst nm ts ρ h = (ts ρ h).bind fun xs h => if xs.length ≤ sizeLine then mkL nm xs h else .no := rfl
@[simp] theorem e_B : dB ta ρ h = (ta ρ h).bind asB := rfl
@[simp] theorem e_and : dAnd t u ρ h = (t ρ h).bind fun c h => if c = true then u ρ h else .ok false h := rfl
@[simp] theorem e_or : dOr t u ρ h = (t ρ h).bind fun c h => if c = true then .ok true h else u ρ h := rfl
@[simp] theorem e_not : dNot t ρ h = (t ρ h).bind fun c h => .ok (!c) h := rfl
@[simp] theorem e_andV : dAndV ta tb ρ h = (ta ρ h).bind fun x h => (asB x h).bind fun c h => if c = true then tb ρ h else .ok (.bl false) h := rfl
@[simp] theorem e_orV : dOrV ta tb ρ h = (ta ρ h).bind fun x h => (asB x h).bind fun c h => if c = true then .ok (.bl true) h else tb ρ h := rfl
@[simp] theorem e_notV : dNotV ta ρ h = (ta ρ h).bind fun x h => (asB x h).bind fun c h => .ok (.bl (!c)) h := rfl
@[simp] theorem e_if : dIf t ta tb ρ h = (t ρ h).bind fun c h => if c = true then ta ρ h else tb ρ h := rfl
@[simp] theorem e_CB : dCB F ts ρ h = (ts ρ h).bind F := rfl
@[simp] theorem e_call : dCall n F ts ρ h = (ts ρ h).bind fun ds h => if ds.length = n then F ds h else .no := rfl
@[simp] theorem asB_bl {b : Bool} : asB (.bl b) h = .ok b h := rfl
@[simp] theorem e_var : dVar i ρ h = match ρ[i]? with
  | some (some d) => .ok d h
  | _ => .no := rfl
@[simp] theorem e_BM : dBM T FMm ta ts ρ h = (ta ρ h).bind fun x h => if isTy T x h = true then (ts ρ h).bind fun xs h => FMm x xs h else .no := rfl
@[simp] theorem e_BM0 : dBM0 T FMm ta ρ h = (ta ρ h).bind fun x h => if isTy T x h = true then FMm x [] h else .no := rfl
end
section
variable {ta : TD} {tg : TGD} {tgs : TGDs} {u w : SD} {ρ : DE} {h : CH} {t : TB} {ts : TDs} {i j : Nat} {d : D} {ds : List D} {N : Nat} {ti : TDw}
@[simp] theorem s_next : dNext ρ h = .nx ρ h := rfl
@[simp] theorem s_seq : dSeq u w ρ h = (u ρ h).bind w := rfl
@[simp] theorem s_if : dIfS t u w ρ h = (t ρ h).toS ρ fun b h => if b = true then u ρ h else w ρ h := rfl
@[simp] theorem s_ret : dRet ta ρ h = (ta ρ h).toS ρ fun d h => .rt d h := rfl
@[simp] theorem s_cont : dCont ρ h = .ct ρ h := rfl
@[simp] theorem s_drop : dDrop ta ρ h = (ta ρ h).toS ρ fun _ h => .nx ρ h := rfl
@[simp] theorem s_asg : dAsg ta tg ρ h = (ta ρ h).toS ρ fun d h => (tg d ρ h).put fun ρ h => .nx ρ h := rfl
@[simp] theorem s_par : dPar i j ts ρ h = (ts ρ h).toS ρ fun ds h => match ds with
  | [x, y] => .nx ((ρ.set i (some x)).set j (some y)) h
  | _ => .no := rfl
@[simp] theorem g_name : gdName i d ρ h = .ok (ρ.set i (some d)) h := rfl
@[simp] theorem s_for : dFor ti tg u ρ h = (ti ρ h).toS ρ fun w h => (dForL tg u w.1 ρ h).unl w.2 := rfl
@[simp] theorem e_seqI : dSeqI ta ρ h = (ta ρ h).bind fun d h => match itemsD h d with
  | some ds => .ok (ds, none) h
  | none => lockD d h := rfl
end
def Fr (S : List Nat) (h h' : CH) : Prop := h.nx ≤ h'.nx ∧ ∀ k, k < h.nx → k ∉ S → h'.ob k = h.ob k
theorem Fr.refl {S : List Nat} {h : CH} : Fr S h h := ⟨Nat.le_refl _, fun _ _ _ => rfl⟩
theorem Fr.trans {S : List Nat} {h h1 h2 : CH} (a : Fr S h h1) (b : Fr S h1 h2) : Fr S h h2 := ⟨Nat.le_trans a.1 b.1, fun k l n => (b.2 k (Nat.lt_of_lt_of_le l a.1) n).trans (a.2 k l n)⟩
theorem s_wc : ("wide" : Str) ≠ "cells" := by decide +kernel
theorem s_wr : ("wide" : Str) ≠ "rest" := by decide +kernel
theorem s_wt : ("wide" : Str) ≠ "turn" := by decide +kernel
theorem s_cr : ("cells" : Str) ≠ "rest" := by decide +kernel
theorem s_ct : ("cells" : Str) ≠ "turn" := by decide +kernel
theorem s_rt : ("rest" : Str) ≠ "turn" := by decide +kernel
def drKvs (w : Nat) (cs : List Int) (x t : Int) : List (Key × D) := [(.inr "wide", .ref w), (.inr "cells", .lst (cs.map D.int)), (.inr "rest", .int x), (.inr "turn", .int t)]
section
variable {w : Nat} {cs : List Int} {x t z : Int}
theorem dr_wide : dGet (drKvs w cs x t) (.inr "wide") = some (.ref w) := by simp [dGet, drKvs]
theorem dr_cells : dGet (drKvs w cs x t) (.inr "cells") = some (.lst (cs.map D.int)) := by simp [dGet, drKvs, s_wc]
theorem dr_rest : dGet (drKvs w cs x t) (.inr "rest") = some (.int x) := by simp [dGet, drKvs, s_wr, s_cr]
theorem dr_turn : dGet (drKvs w cs x t) (.inr "turn") = some (.int t) := by simp [dGet, drKvs, s_wt, s_ct, s_rt]
theorem dr_putR : dPut (drKvs w cs x t) (.inr "rest") (.int z) = drKvs w cs z t := by simp [dPut, drKvs, s_wr, s_cr, s_rt.symm]
theorem dr_putT : dPut (drKvs w cs x t) (.inr "turn") (.int z) = drKvs w cs x z := by simp [dPut, drKvs, s_wt, s_ct, s_rt]
end
structure DrawAt (r w : Nat) (n : Nat) (ws cs : List Int) (x t : Int) (h : CH) : Prop where
  or_ : h.ob r = some (.dct (drKvs w cs x t))
  ow : h.ob w = some (.lst (ws.map D.int))
  ne : r ≠ w
  lr : r < h.nx
  lw : w < h.nx
  cs_ : ∀ c, c ∈ cs → 0 ≤ c ∧ c < 2147483629
  lws : ws.length ≤ 63
  lcs : cs.length ≤ 63
  t0 : 0 ≤ t
  tn : t + (n : Int) ≤ 1000000000
def DrawOk (r w n : Nat) (h : CH) : Prop := ∃ ws cs x t, DrawAt r w n ws cs x t h
def u__law_begun : SD := dSeq (dAsg (dLc true (dSeqI (dVar 0)) (gdName 2) (dB (dOp (fB fun i j => decide (i ≥ j)) (dCB fAbs (dCons (dVar 2) (dNil))) (dOp fPow (dC (.int 10)) (dC (.int 18))))) (dOp fSubI (dCB fAbs (dCons (dVar 2) (dNil))) (dOp fPow (dC (.int 10)) (dC (.int 18)))) [2]) (gdName 1)) (dRet (dDisp true [(dC (.str "wide"), dVar 1), (dC (.str "cells"), dLc false (dSeqI (dVar 0)) (gdName 2) (dYes) (dOp fMod (dCB fInt (dCons (dCB fAbs (dCons (dVar 2) (dNil))) (dNil))) (dC (.int 2147483629))) [2]), (dC (.str "rest"), dC (.int 0)), (dC (.str "turn"), dC (.int 0))]))
def F__law_begun : FD := bodyF 3 u__law_begun
def u__law_mixed : SD := dSeq (dPar 1 2 (dCons (dOp (fAdd false) (dOp fIx (dVar 0) (dC (.str "turn"))) (dC (.int 1))) (dCons (dC (.int 0)) (dNil)))) (dSeq (dAsg (dVar 1) (gdSub (dVar 0) (dC (.str "turn")))) (dSeq (dFor (dSeqI (dLst false (dCons (dC (.int 2147483629)) (dCons (dC (.int 2147483587)) (dCons (dC (.int 2147483579)) (dCons (dC (.int 2147483563)) (dNil))))))) (gdName 3) (dSeq (dAsg (dOp (fAdd false) (dOp (fMul false) (dC (.int 61441)) (dVar 1)) (dOp fDiv (dVar 3) (dC (.int 19)))) (gdName 4)) (dSeq (dFor (dSeqI (dOp fIx (dVar 0) (dC (.str "cells")))) (gdName 5) (dAsg (dOp fMod (dCB fInt (dCons (dOp (fAdd false) (dOp (fAdd false) (dOp (fMul false) (dVar 4) (dC (.int 48271))) (dVar 5)) (dVar 1)) (dNil))) (dVar 3)) (gdName 4))) (dAsg (dOp (fAdd false) (dOp (fMul false) (dVar 2) (dC (.int 2147483647))) (dOp fMod (dCB fInt (dCons (dOp fPow (dVar 4) (dC (.int 5))) (dNil))) (dVar 3))) (gdName 2))))) (dRet (dVar 2))))
def F__law_mixed : FD := bodyF 6 u__law_mixed
def u__law_take : SD := dSeq (dIfS (dB (dOp (fEq false) (dOp fIx (dVar 0) (dC (.str "rest"))) (dC (.int 0)))) (dAsg (dIf (dB (dOp (fEq true) (dOp fIx (dVar 0) (dC (.str "wide"))) (dLst false (dNil)))) (dBM "list" fPopAt (dOp fIx (dVar 0) (dC (.str "wide"))) (dCons (dC (.int 0)) (dNil))) (dCall 1 F__law_mixed (dCons (dVar 0) (dNil)))) (gdSub (dVar 0) (dC (.str "rest")))) (dNext)) (dSeq (dAsg (dOp fMod (dCB fInt (dCons (dOp fIx (dVar 0) (dC (.str "rest"))) (dNil))) (dVar 1)) (gdName 2)) (dSeq (dAsg (dOp fDiv (dOp fIx (dVar 0) (dC (.str "rest"))) (dVar 1)) (gdSub (dVar 0) (dC (.str "rest")))) (dRet (dVar 2))))
def F__law_take : FD := bodyF 3 u__law_take
def u__law_pick : SD := dRet (dOp fIx (dVar 1) (dCall 2 F__law_take (dCons (dVar 0) (dCons (dCB fLen (dCons (dVar 1) (dNil))) (dNil)))))
def F__law_pick : FD := bodyF 2 u__law_pick
section
variable {r w n : Nat} {ws cs : List Int} {x t : Int} {h : CH}
abbrev mixBody : SD := dAsg (dOp fMod (dCB fInt (dCons (dOp (fAdd false) (dOp (fAdd false) (dOp (fMul false) (dVar 4) (dC (.int 48271))) (dVar 5)) (dVar 1)) (dNil))) (dVar 3)) (gdName 4)
theorem mix_in {d0 f : D} {tn p : Int} (hp : 0 < p) : ∀ (cs : List Int) (b : Int) (y : Option D), ∃ (b' : Int) (y' : Option D), dForL (gdName 5) mixBody (cs.map D.int) [some d0, some (.int tn), some f, some (.int p), some (.int b), y] h = .nx [some d0, some (.int tn), some f, some (.int p), some (.int b'), y'] h ∧ ((cs = [] ∧ b' = b) ∨ (0 ≤ b' ∧ b' < p))
  | [], b, y => ⟨b, y, rfl, .inl ⟨rfl, rfl⟩⟩
  | c :: cs, b, y => by
    obtain ⟨b', y', e, q⟩ := mix_in hp cs ((b * 48271 + c + tn) % p) (some (.int c))
    refine ⟨b', y', ?_, .inr ?_⟩
    · have cm : CMul b 48271 := .inr ⟨by decide, by decide⟩
      simp only [List.map_cons, dForL]
      simp [fMul, fAdd, fInt, fMod, hp, cm]
      exact e
    · rcases q with ⟨_, rfl⟩ | q
      · exact ⟨Int.emod_nonneg _ (by omega), Int.emod_lt_of_pos _ hp⟩
      · exact q
theorem ix_dr {k : Key} {d : D} {kd : D} (hk : keyD kd = some k) (e : h.ob r = some (.dct (drKvs w cs x t))) (g : dGet (drKvs w cs x t) k = some d) (ni : ∀ i, kd ≠ .int i) : fIx (.ref r) kd h = .ok d h := by
  cases kd with
  | str z => cases hk; simp [fIx, seqOf, dctOf, e, keyD, g]
  | _ => first | (cases hk; done) | exact absurd rfl (ni _)
abbrev outBody : SD := dSeq (dAsg (dOp (fAdd false) (dOp (fMul false) (dC (.int 61441)) (dVar 1)) (dOp fDiv (dVar 3) (dC (.int 19)))) (gdName 4)) (dSeq (dFor (dSeqI (dOp fIx (dVar 0) (dC (.str "cells")))) (gdName 5) mixBody) (dAsg (dOp (fAdd false) (dOp (fMul false) (dVar 2) (dC (.int 2147483647))) (dOp fMod (dCB fInt (dCons (dOp fPow (dVar 4) (dC (.int 5))) (dNil))) (dVar 3))) (gdName 2)))
theorem mix_one {f p tn : Int} {y4 y5 : Option D} (e : h.ob r = some (.dct (drKvs w cs x t))) (hp : 0 < p) (hp2 : p < 2147483648) (h1 : 0 ≤ tn) (h2 : tn ≤ 1000000000) :
    ∃ (f' : Int) (y4' y5' : Option D), outBody [some (.ref r), some (.int tn), some (.int f), some (.int p), y4, y5] h = .nx [some (.ref r), some (.int tn), some (.int f'), some (.int p), y4', y5'] h := by
  obtain ⟨b', y', ei, q⟩ := mix_in (h := h) (d0 := .ref r) (f := .int f) (tn := tn) hp cs (61441 * tn + p / 19) y5
  have c1 : CMul 61441 tn := .inl ⟨by decide, by decide⟩
  have c2 : CDiv p 19 := ⟨by decide, by decide⟩
  have c3 : CMul f 2147483647 := .inr ⟨by decide, by decide⟩
  have c4 : CPow b' 5 := by
    refine ⟨by decide, by decide, ?_⟩
    rcases q with ⟨_, rfl⟩ | q <;> omega
  have ic := ix_dr (kd := .str "cells") rfl e dr_cells (fun i => by simp)
  refine ⟨f * 2147483647 + b' ^ (5 : Int).toNat % p, some (.int b'), y', ?_⟩
  simp [outBody, c1, c2, fMul, fAdd, fDiv, ic, itemsD]
  rw [ei]
  simp [c3, c4, fMul, fAdd, fPow, fInt, fMod, hp]
theorem mixed_ok (A : DrawAt r w (n + 1) ws cs x t h) : ∃ v : Int, F__law_mixed [.ref r] h = .ok (.int v) (h.put r (.dct (drKvs w cs x (t + 1)))) := by
  have it := ix_dr (kd := .str "turn") rfl A.or_ dr_turn (fun i => by simp)
  have tn := A.tn
  have t0 := A.t0
  have e1 : (h.put r (.dct (drKvs w cs x (t + 1)))).ob r = some (.dct (drKvs w cs x (t + 1))) := put_same
  obtain ⟨f1, y1, z1, q1⟩ := mix_one (f := 0) (p := 2147483629) (tn := t + 1) (y4 := none) (y5 := none) e1 (by decide) (by decide) (by omega) (by omega)
  obtain ⟨f2, y2, z2, q2⟩ := mix_one (f := f1) (p := 2147483587) (tn := t + 1) (y4 := y1) (y5 := z1) e1 (by decide) (by decide) (by omega) (by omega)
  obtain ⟨f3, y3, z3, q3⟩ := mix_one (f := f2) (p := 2147483579) (tn := t + 1) (y4 := y2) (y5 := z2) e1 (by decide) (by decide) (by omega) (by omega)
  obtain ⟨f4, y4, z4, q4⟩ := mix_one (f := f3) (p := 2147483563) (tn := t + 1) (y4 := y3) (y5 := z3) e1 (by decide) (by decide) (by omega) (by omega)
  refine ⟨f4, ?_⟩
  have kl : (drKvs w cs x t).length < sizeLine := by show 4 < sizeLine; decide
  have l4 : 4 ≤ sizeLine := by decide
  have L : dForL (gdName 3) outBody [.int 2147483629, .int 2147483587, .int 2147483579, .int 2147483563] [some (.ref r), some (.int (t + 1)), some (.int 0), none, none, none] (h.put r (.dct (drKvs w cs x (t + 1)))) = .nx [some (.ref r), some (.int (t + 1)), some (.int f4), some (.int 2147483563), y4, z4] (h.put r (.dct (drKvs w cs x (t + 1)))) := by
    simp only [dForL, g_name, put_ok, List.set_cons_zero, List.set_cons_succ]
    rw [q1]
    simp only [List.set_cons_zero, List.set_cons_succ]
    rw [q2]
    simp only [List.set_cons_zero, List.set_cons_succ]
    rw [q3]
    simp only [List.set_cons_zero, List.set_cons_succ]
    rw [q4]
  simp only [F__law_mixed, bodyF, startD, u__law_mixed]
  simp [it, fAdd, gdSub, refOf, A.or_, keyD, kl, dr_putT, mkL, itemsD, l4]
  rw [L]
  simp
theorem toP_ints {k : Nat} : ∀ ns : List Int, (ns.map D.int).mapM (toP h (k + 1)) = some (ns.map PyData.int)
  | [] => rfl
  | n :: ns => by
    rw [List.map_cons, List.mapM_cons, toP_ints ns]
    rfl
theorem toP_ref {k n : Nat} {xs : List D} (e : h.ob k = some (.lst xs)) : toP h (n + 1) (.ref k) = (xs.mapM (toP h n)).map .list := by simp only [toP, e]
theorem lay_ints : ∀ ns : List Int, PyData.canLayAll0 (ns.map PyData.int) = true
  | [] => rfl
  | n :: ns => by simp only [List.map_cons, PyData.canLayAll0, PyData.canLay0, lay_ints ns, Bool.and_self]
theorem dep_ints : ∀ ns : List Int, PyData.depthAll (ns.map PyData.int) = 0
  | [] => rfl
  | n :: ns => by simp only [List.map_cons, PyData.depthAll, PyData.depth, dep_ints ns]; rfl
theorem shaped_ints (ns : List Int) : SeqAt.shaped (.list (ns.map PyData.int)) = true := by
  simp only [SeqAt.shaped, PyData.canLay0, lay_ints, PyData.depth, dep_ints, Bool.true_and]
  decide
theorem ne_nil_ints {k : Nat} (e : h.ob k = some (.lst (ws.map D.int))) : fEq true (.ref k) (.lst []) h = .ok (.bl (!ws.isEmpty)) h := by
  have e1 : toP h 10 (.ref k) = some (.list (ws.map PyData.int)) := by
    rw [toP_ref (n := 9) e, toP_ints (h := h) (k := 8) ws]
    rfl
  have e2 : toP h 10 (.lst []) = some (.list []) := rfl
  have e3 : SeqAt.shaped (.list []) = true := shaped_ints []
  have e4 : PyData.eqv (.list (ws.map PyData.int)) (.list []) = ws.isEmpty := by
    cases ws with
    | nil => rfl
    | cons a l => rfl
  have e5 : scalD (.ref k) (.lst []) = false := rfl
  unfold fEq
  rw [e5, e1, e2]
  simp [shaped_ints, e3, e4, bneg]
theorem eq0_int {i j : Int} : fEq false (.int i) (.int j) h = .ok (.bl (i == j)) h := by simp [fEq, scalD, flatD, eqF, bneg]
def DrFr (r w : Nat) (h h' : CH) : Prop := h'.nx = h.nx ∧ ∀ k, k ≠ r → k ≠ w → h'.ob k = h.ob k
theorem DrFr.refl : DrFr r w h h := ⟨rfl, fun _ _ _ => rfl⟩
theorem DrFr.trans {h1 h2 : CH} (a : DrFr r w h h1) (b : DrFr r w h1 h2) : DrFr r w h h2 := ⟨b.1.trans a.1, fun k n m => (b.2 k n m).trans (a.2 k n m)⟩
theorem DrFr.putR {o : MO} : DrFr r w h (h.put r o) := ⟨rfl, fun k n _ => put_ne n⟩
theorem DrFr.putW {o : MO} : DrFr r w h (h.put w o) := ⟨rfl, fun k _ n => put_ne n⟩
theorem DrawAt.setR {x' t' : Int} {m : Nat} (A : DrawAt r w n ws cs x t h) (t0 : 0 ≤ t') (tn : t' + (m : Int) ≤ 1000000000) : DrawAt r w m ws cs x' t' (h.put r (.dct (drKvs w cs x' t'))) :=
  ⟨put_same, by rw [put_ne A.ne.symm]; exact A.ow, A.ne, A.lr, A.lw, A.cs_, A.lws, A.lcs, t0, tn⟩
theorem take_first (A : DrawAt r w (n + 1) ws cs x t h) {s : Int} : ∃ (ws' : List Int) (x' t' : Int) (h' : CH), (dIfS (dB (dOp (fEq false) (dOp fIx (dVar 0) (dC (.str "rest"))) (dC (.int 0)))) (dAsg (dIf (dB (dOp (fEq true) (dOp fIx (dVar 0) (dC (.str "wide"))) (dLst false (dNil)))) (dBM "list" fPopAt (dOp fIx (dVar 0) (dC (.str "wide"))) (dCons (dC (.int 0)) (dNil))) (dCall 1 F__law_mixed (dCons (dVar 0) (dNil)))) (gdSub (dVar 0) (dC (.str "rest")))) (dNext)) [some (.ref r), some (.int s), none] h = .nx [some (.ref r), some (.int s), none] h' ∧ DrawAt r w n ws' cs x' t' h' ∧ DrFr r w h h' := by
  have ir := ix_dr (kd := .str "rest") rfl A.or_ dr_rest (fun i => by simp)
  have iw := ix_dr (kd := .str "wide") rfl A.or_ dr_wide (fun i => by simp)
  have kl : ∀ y z, (drKvs w cs y z).length < sizeLine := fun y z => by show 4 < sizeLine; decide
  have A1 : DrawAt r w n ws cs x t h := ⟨A.or_, A.ow, A.ne, A.lr, A.lw, A.cs_, A.lws, A.lcs, A.t0, by have := A.tn; omega⟩
  by_cases hx : x = 0
  · cases ws with
    | nil =>
      obtain ⟨v, ev⟩ := mixed_ok A
      have A2 : DrawAt r w n [] cs x (t + 1) (h.put r (.dct (drKvs w cs x (t + 1)))) := A.setR (by have := A.t0; omega) (by have := A.tn; omega)
      refine ⟨[], v, t + 1, _, ?_, A2.setR A2.t0 A2.tn, DrFr.putR.trans DrFr.putR⟩
      simp [ir, iw, eq0_int, hx, ne_nil_ints A.ow, mkL]
      have ev' := ev
      rw [hx] at ev'
      rw [ev']
      simp [gdSub, refOf, keyD, put_same, kl, dr_putR]
    | cons a ws =>
      have e1 : h.ob w = some (.lst (D.int a :: ws.map D.int)) := A.ow
      have ne := A.ne
      have o1 : (h.put w (.lst (ws.map D.int))).ob r = some (.dct (drKvs w cs x t)) := by rw [put_ne ne]; exact A.or_
      refine ⟨ws, a, t, (h.put w (.lst (ws.map D.int))).put r (.dct (drKvs w cs a t)), ?_, ⟨put_same, by rw [put_ne ne.symm]; exact put_same, ne, A.lr, A.lw, A.cs_, Nat.le_of_succ_le A.lws, A.lcs, A.t0, A1.tn⟩, DrFr.putW.trans DrFr.putR⟩
      have si : seqIndex? 0 (ws.length + 1) = some 0 := by simp [seqIndex?]
      simp [ir, iw, eq0_int, hx, ne_nil_ints A.ow, mkL, isTy, lstOf, fPopAt, e1, si]
      rw [hx] at o1
      simp [gdSub, refOf, keyD, o1, kl, dr_putR]
  · refine ⟨ws, x, t, h, ?_, A1, .refl⟩
    simp [ir, eq0_int, hx]
theorem take_ok (A : DrawOk r w (n + 1) h) {s : Int} (hs : 0 < s) (hs2 : s < 1073741824) : ∃ (v : Int) (h' : CH), F__law_take [.ref r, .int s] h = .ok (.int v) h' ∧ 0 ≤ v ∧ v < s ∧ DrawOk r w n h' ∧ DrFr r w h h' := by
  obtain ⟨ws, cs, x, t, A⟩ := A
  obtain ⟨ws', x', t', h1, e1, A1, f1⟩ := take_first A (s := s)
  have ir := ix_dr (kd := .str "rest") rfl A1.or_ dr_rest (fun i => by simp)
  have kl : ∀ y z, (drKvs w cs y z).length < sizeLine := fun y z => by show 4 < sizeLine; decide
  have cd : CDiv x' s := ⟨hs, hs2⟩
  refine ⟨x' % s, h1.put r (.dct (drKvs w cs (x' / s) t')), ?_, Int.emod_nonneg _ (by omega), Int.emod_lt_of_pos _ hs, ⟨ws', cs, _, t', A1.setR A1.t0 A1.tn⟩, f1.trans DrFr.putR⟩
  simp only [F__law_take, bodyF, startD, u__law_take]
  rw [s_seq]
  show ((_ : RS).bind _).res = _
  simp only [List.map_cons, List.map_nil, List.length_cons, List.length_nil, List.cons_append, List.nil_append]
  show (((dIfS _ _ _) [some (D.ref r), some (D.int s), none] h).bind _).res = _
  rw [e1]
  simp [ir, fInt, fMod, hs, fDiv, cd, gdSub, refOf, A1.or_, keyD, kl, dr_putR]
theorem pick_ok (A : DrawOk r w (n + 1) h) {xs : D} {ds : List D} (e : xs = .lst ds ∨ xs = .tup ds) (h0 : ds ≠ []) (h1 : ds.length < 1073741824) : ∃ (d : D) (h' : CH), F__law_pick [.ref r, xs] h = .ok d h' ∧ d ∈ ds ∧ DrawOk r w n h' ∧ DrFr r w h h' := by
  have hp : 0 < ds.length := List.length_pos_iff.mpr h0
  obtain ⟨v, h', e1, l1, l2, A', f⟩ := take_ok A (s := (ds.length : Int)) (by omega) (by omega)
  have sq : ∀ hh, seqOf hh xs = some ds := fun hh => by rcases e with rfl | rfl <;> rfl
  have hv : v.toNat < ds.length := by omega
  have ai : atI ds v = some ds[v.toNat] := by
    have : ixN ds.length v = some v.toNat := by
      unfold ixN
      rw [if_pos (by omega), if_pos l2]
    unfold atI
    rw [this]
    exact List.getElem?_eq_getElem hv
  refine ⟨ds[v.toNat], h', ?_, List.getElem_mem hv, A', f⟩
  have len : fLen [xs] h = .ok (.int ds.length) h := by
    rcases e with rfl | rfl <;> rfl
  have ix : fIx xs (.int v) h' = .ok ds[v.toNat] h' := by
    rcases e with rfl | rfl <;> simp [fIx, seqOf, ai]
  simp [F__law_pick, bodyF, startD, u__law_pick, len, e1, ix]
theorem b1_loop {a : D} : ∀ ns : List Int, ∃ ws : List Int, ws.length ≤ ns.length ∧ dLcL (gdName 2) (dB (dOp (fB fun i j => decide (i ≥ j)) (dCB fAbs (dCons (dVar 2) (dNil))) (dOp fPow (dC (.int 10)) (dC (.int 18))))) (dOp fSubI (dCB fAbs (dCons (dVar 2) (dNil))) (dOp fPow (dC (.int 10)) (dC (.int 18)))) [some a, none, none] (ns.map D.int) h = .ok (ws.map D.int) h
  | [] => ⟨[], Nat.le_refl _, rfl⟩
  | c :: ns => by
    obtain ⟨ws, l, e⟩ := b1_loop ns
    have cp : CPow 10 18 := by decide
    by_cases q : (if c < 0 then -c else c) ≥ 10 ^ (18 : Int).toNat
    · refine ⟨((if c < 0 then -c else c) - 10 ^ (18 : Int).toNat) :: ws, by simp; exact l, ?_⟩
      simp only [List.map_cons, dLcL]
      simp only [g_name, calm_ok, e_B, e_op, e_CB, e_cons, e_var, e_nil, e_C, List.set_cons_zero, List.set_cons_succ, List.getElem?_cons_zero, List.getElem?_cons_succ, bind_ok, fAbs, fPow, fB, if_pos cp, asB_bl, decide_eq_true q, if_true, fSubI]
      rw [e]
      rfl
    · refine ⟨ws, Nat.le_succ_of_le l, ?_⟩
      simp only [List.map_cons, dLcL]
      simp only [g_name, calm_ok, e_B, e_op, e_CB, e_cons, e_var, e_nil, e_C, List.set_cons_zero, List.set_cons_succ, List.getElem?_cons_zero, List.getElem?_cons_succ, bind_ok, fAbs, fPow, fB, if_pos cp, asB_bl, decide_eq_false q, Bool.false_eq_true, if_false]
      exact e
theorem b2_loop {a b : D} : ∀ ns : List Int, ∃ cs : List Int, cs.length = ns.length ∧ (∀ c, c ∈ cs → 0 ≤ c ∧ c < 2147483629) ∧ dLcL (gdName 2) dYes (dOp fMod (dCB fInt (dCons (dCB fAbs (dCons (dVar 2) (dNil))) (dNil))) (dC (.int 2147483629))) [some a, some b, none] (ns.map D.int) h = .ok (cs.map D.int) h
  | [] => ⟨[], rfl, fun _ h => (nomatch h), rfl⟩
  | c :: ns => by
    obtain ⟨cs, l, hc, e⟩ := b2_loop ns
    refine ⟨((if c < 0 then -c else c) % 2147483629) :: cs, by simp [l], fun y hy => ?_, ?_⟩
    · rcases List.mem_cons.mp hy with rfl | hy
      · exact ⟨Int.emod_nonneg _ (by decide), Int.emod_lt_of_pos _ (by decide)⟩
      · exact hc y hy
    · simp only [List.map_cons, dLcL, dYes]
      simp only [g_name, calm_ok, e_op, e_CB, e_cons, e_var, e_nil, e_C, List.set_cons_zero, List.set_cons_succ, List.getElem?_cons_zero, List.getElem?_cons_succ, bind_ok, fAbs, fInt, fMod, if_true, show ((0 : Int) < 2147483629) from by decide]
      rw [e]
      rfl
theorem begun_ok {ns : List Int} (hn : ns.length ≤ 63) : ∃ h', F__law_begun [.scr ns] h = .ok (.ref (h.nx + 1)) h' ∧ DrawOk (h.nx + 1) h.nx 1000000000 h' ∧ h'.nx = h.nx + 2 ∧ ∀ k, k < h.nx → h'.ob k = h.ob k := by
  obtain ⟨ws, lw, e1⟩ := b1_loop (h := h) (a := .scr ns) ns
  obtain ⟨cs, lc, hc, e2⟩ := b2_loop (h := h.new (.lst (ws.map D.int))) (a := .scr ns) (b := .ref h.nx) ns
  have sz : ns.length ≤ sizeLine := Nat.le_trans hn (by decide)
  refine ⟨(h.new (.lst (ws.map D.int))).new (.dct (drKvs h.nx cs 0 0)), ?_, ⟨ws, cs, 0, 0, ?_, ?_, by omega, by show h.nx + 1 < h.nx + 2; omega, by show h.nx < h.nx + 2; omega, hc, by omega, by omega, by decide, by decide⟩, rfl, fun k hk => ?_⟩
  · simp only [F__law_begun, bodyF, startD, u__law_begun]
    have i1 : itemsD h (.scr ns) = some (ns.map D.int) := rfl
    have i2 : itemsD (h.new (.lst (ws.map D.int))) (.scr ns) = some (ns.map D.int) := rfl
    have me : mergeD [] (drKvs h.nx cs 0 0) = drKvs h.nx cs 0 0 := by simp [mergeD, dPut, drKvs, s_wc, s_wr, s_wt, s_cr, s_ct, s_rt]
    simp only [List.map_cons, List.map_nil, List.length_cons, List.length_nil, List.cons_append, List.nil_append, s_seq, s_asg, dLc, e_seqI, e_var, List.getElem?_cons_zero, bind_ok, i1, List.length_map, if_pos sz, wipeD, List.replicate, List.set_cons_zero, List.set_cons_succ, e1, runl_none, mkL, toS_ok, g_name, put_ok, sbind_nx, s_ret, dDisp, dPairs, e_C, List.getElem?_cons_succ, i2, e2, keysOf, keyD]
    show ((if 4 ≤ 15 then mkD true (mergeD [] (drKvs h.nx cs 0 0)) _ else R.no).toS _ _).res = _
    rw [me]
    rfl
  · show (if h.nx + 1 = h.nx + 1 then _ else _) = _
    rw [if_pos rfl]
  · show (if h.nx = h.nx + 1 then _ else (if h.nx = h.nx then _ else _)) = _
    rw [if_neg (by omega), if_pos rfl]
  · show (if k = h.nx + 1 then _ else (if k = h.nx then _ else _)) = _
    rw [if_neg (by omega), if_neg (by omega)]
end
def R.sat {α : Type} (r : R α) (Q : α → CH → Prop) : Prop := match r with
  | .ok a h => Q a h
  | _ => False
def RS.sat (r : RS) (N : DE → CH → Prop) (T : D → CH → Prop) : Prop := match r with
  | .nx ρ h => N ρ h
  | .rt d h => T d h
  | _ => False
def Kont (w : SD) (N : DE → CH → Prop) (T : D → CH → Prop) (ρ : DE) (h : CH) : Prop := (w ρ h).sat N T
section
variable {α β : Type} {a : α} {h : CH} {m : R α} {f : α → CH → R β} {g : α → CH → RS} {ρ : DE} {w u : SD} {d : D} {Q : β → CH → Prop} {P P' : α → CH → Prop} {N : DE → CH → Prop} {T : D → CH → Prop} {r : RS}
@[simp] theorem sat_ok : (R.ok a h).sat P = P a h := rfl
@[simp] theorem sat_no : (R.no : R α).sat P = False := rfl
@[simp] theorem sat_bind : (m.bind f).sat Q = m.sat fun a h => (f a h).sat Q := by cases m <;> rfl
@[simp] theorem sat_calm : (m.calm f).sat Q = m.sat fun a h => (f a h).sat Q := by cases m <;> rfl
@[simp] theorem sat_toS : (m.toS ρ g).sat N T = m.sat fun a h => (g a h).sat N T := by cases m <;> rfl
@[simp] theorem sat_put {m : R DE} : (m.put w).sat N T = m.sat fun ρ h => (w ρ h).sat N T := by cases m <;> rfl
@[simp] theorem sat_ite {c : Prop} [Decidable c] {m m' : R α} : (if c then m else m').sat P = if c then m.sat P else m'.sat P := by split <;> rfl
@[simp] theorem sat_iteS {c : Prop} [Decidable c] {r' : RS} : (if c then r else r').sat N T = if c then r.sat N T else r'.sat N T := by split <;> rfl
@[simp] theorem sat_nx : (RS.nx ρ h).sat N T = N ρ h := rfl
@[simp] theorem sat_rt : (RS.rt d h).sat N T = T d h := rfl
@[simp] theorem sat_noS : (RS.no).sat N T = False := rfl
@[simp] theorem sat_bindS : (r.bind w).sat N T = r.sat (Kont w N T) T := by cases r <;> rfl
@[simp] theorem sat_res {Q : D → CH → Prop} : r.res.sat Q = r.sat (fun _ h => Q .non h) Q := by cases r <;> rfl
@[simp] theorem sat_unl : (r.unl none).sat N T = r.sat N T := by rw [unl_none]
@[simp] theorem sat_unlR : (m.unl none).sat P = m.sat P := by rw [runl_none]
theorem R.sat.mono (x : m.sat P) (k : ∀ a h, P a h → P' a h) : m.sat P' := by
  cases m with
  | ok a h => exact k a h x
  | ex => exact x.elim
  | no => exact x.elim
theorem R.sat.ex (x : m.sat P) : ∃ a h, m = .ok a h ∧ P a h := by
  cases m with
  | ok a h => exact ⟨a, h, rfl, x⟩
  | ex => exact x.elim
  | no => exact x.elim
theorem sat_of {a : α} {h : CH} (e : m = .ok a h) (p : P a h) : m.sat P := by rw [e]; exact p
theorem RS.sat.mono {N' : DE → CH → Prop} {T' : D → CH → Prop} (x : r.sat N T) (k : ∀ ρ h, N ρ h → N' ρ h) (k' : ∀ d h, T d h → T' d h) : r.sat N' T' := by
  cases r with
  | nx => exact k _ _ x
  | rt => exact k' _ _ x
  | _ => exact x.elim
theorem sat_lcl {tg : TGD} {tt : TB} {te : TD} {ρ0 : DE} {Q : List D → CH → Prop} (I : List D → List D → CH → Prop) (step : ∀ d r ys h, I (d :: r) ys h → (tg d ρ0 h).sat fun ρ2 h => (tt ρ2 h).sat fun b h => if b = true then (te ρ2 h).sat fun y h => I r (ys ++ [y]) h else I r ys h) :
    ∀ {ds ys : List D} {h : CH}, I ds ys h → (∀ zs h, I [] zs h → ∀ l, zs = ys ++ l → Q l h) → (dLcL tg tt te ρ0 ds h).sat Q
  | [], ys, h, i, k => k ys h i [] (by simp)
  | d :: r, ys, h, i, k => by
    have st := step d r ys h i
    obtain ⟨ρ2, h1, e1, st⟩ := st.ex
    obtain ⟨b, h2, e2, st⟩ := st.ex
    show ((tg d ρ0 h).calm _).sat Q
    rw [sat_calm, e1]
    show ((tt ρ2 h1).calm _).sat Q
    rw [sat_calm, e2]
    cases b with
    | true =>
      obtain ⟨y, h3, e3, st⟩ := R.sat.ex (show (te ρ2 h2).sat _ from st)
      show (if true = true then (te ρ2 h2).calm _ else _ : R (List D)).sat Q
      rw [if_pos rfl, sat_calm, e3]
      show ((dLcL tg tt te ρ0 r h3).bind _).sat Q
      rw [sat_bind]
      exact sat_lcl I step st fun zs h i l e => k zs h i (y :: l) (by rw [e]; simp)
    | false =>
      show (if false = true then _ else dLcL tg tt te ρ0 r h2 : R (List D)).sat Q
      rw [if_neg Bool.false_ne_true]
      exact sat_lcl I step st k
end
section
variable {r w n m : Nat} {h h1 : CH}
theorem DrawOk.mono (A : DrawOk r w n h) (l : m ≤ n) : DrawOk r w m h := by
  obtain ⟨ws, cs, x, t, A⟩ := A
  exact ⟨ws, cs, x, t, A.or_, A.ow, A.ne, A.lr, A.lw, A.cs_, A.lws, A.lcs, A.t0, by have := A.tn; omega⟩
theorem DrawOk.keep (A : DrawOk r w n h) (nx : h.nx ≤ h1.nx) (k : ∀ j, j = r ∨ j = w → h1.ob j = h.ob j) : DrawOk r w n h1 := by
  obtain ⟨ws, cs, x, t, A⟩ := A
  exact ⟨ws, cs, x, t, by rw [k r (.inl rfl)]; exact A.or_, by rw [k w (.inr rfl)]; exact A.ow, A.ne, Nat.lt_of_lt_of_le A.lr nx, Nat.lt_of_lt_of_le A.lw nx, A.cs_, A.lws, A.lcs, A.t0, A.tn⟩
theorem DrawOk.lt (A : DrawOk r w n h) : r < h.nx ∧ w < h.nx := by
  obtain ⟨ws, cs, x, t, A⟩ := A
  exact ⟨A.lr, A.lw⟩
theorem take_sat (A : DrawOk r w (n + 1) h) {s : Int} (hs : 0 < s) (hs2 : s < 1073741824) : (F__law_take [.ref r, .int s] h).sat fun d h1 => ∃ v, d = .int v ∧ 0 ≤ v ∧ v < s ∧ DrawOk r w n h1 ∧ DrFr r w h h1 := by
  obtain ⟨v, h1, e, p⟩ := take_ok A hs hs2
  exact sat_of e ⟨v, rfl, p⟩
theorem pick_sat (A : DrawOk r w (n + 1) h) {xs : D} {ds : List D} (e : xs = .lst ds ∨ xs = .tup ds) (h0 : ds ≠ []) (h1 : ds.length < 1073741824) : (F__law_pick [.ref r, xs] h).sat fun d h1 => d ∈ ds ∧ DrawOk r w n h1 ∧ DrFr r w h h1 := by
  obtain ⟨d, h1, e, p⟩ := pick_ok A e h0 h1
  exact sat_of e p
end
abbrev stL (l : List Str) : List D := l.map D.str
def SeqS (h : CH) (X : D) (l : List Str) : Prop := (∃ k, X = .ref k ∧ h.ob k = some (.lst (stL l))) ∨ X = .lst (stL l) ∨ X = .tup (stL l)
section
variable {h : CH} {X : D} {l ws : List Str}
theorem SeqS.seq (s : SeqS h X l) : seqOf h X = some (stL l) := by
  rcases s with ⟨k, rfl, e⟩ | rfl | rfl
  · simp only [seqOf, e]
  · rfl
  · rfl
theorem CH.ext' {h h' : CH} (a : h.nx = h'.nx) (b : ∀ k, h.ob k = h'.ob k) : h = h' := by
  obtain ⟨n, o⟩ := h
  obtain ⟨n', o'⟩ := h'
  cases a
  have : o = o' := funext b
  rw [this]
theorem put_put {k : Nat} {o o' : MO} : (h.put k o).put k o' = h.put k o' := CH.ext' rfl fun j => by
  by_cases z : j = k
  · subst z; rw [put_same, put_same]
  · rw [put_ne z, put_ne z, put_ne z]
end
end CM
namespace W_whilemerged_k60_chains_and_plans_judged
open PySem PySem.Spec PyProof.Rows L2 CM
structure Txt (mg : Str → Option Value) : Prop where
  z_abs : mg "abs" = none
  z_int : mg "int" = none
  z_len : mg "len" = none
  z_tuple : mg "tuple" = none
  z_range : mg "range" = none
  z_isinstance : mg "isinstance" = none
  z_bool : mg "bool" = none
  z_list : mg "list" = none
  z_sorted : mg "sorted" = none
  z_set : mg "set" = none
  z_max : mg "max" = none
  z_str : mg "str" = none
  z_all : mg "all" = none
  z_enumerate : mg "enumerate" = none
  z_ValueError : mg "ValueError" = none
  z_min : mg "min" = none
  z_repr : mg "repr" = none
structure Cst (K : PySem.W.Frag) (CA : CAs) (mg : Str → Option Value) : Prop where
  g_MOST_LAYERS : GV K CA mg "MOST_LAYERS" (.int 8)
  g_KINDS : GV K CA mg "KINDS" (.tup [.str "down", .str "up"])
  g_BadDeed : GV K CA mg "BadDeed" (.cls 2)
  g_BadNumber : GV K CA mg "BadNumber" (.cls 3)
  g_BadBook : GV K CA mg "BadBook" (.cls 4)
  g_BadPlan : GV K CA mg "BadPlan" (.cls 5)
  g_BadChain : GV K CA mg "BadChain" (.cls 6)
  g_BadText : GV K CA mg "BadText" (.cls 7)
structure Fld (K : PySem.W.Frag) (CA : CAs) : Prop where
  x_line : FldOf K CA [0] "line"
  x_cells_there : FldOf K CA [0] "cells_there"
  x_begun_jobs : FldOf K CA [0] "begun_jobs"
structure XFd (K : PySem.W.Frag) (CA : CAs) : Prop where
  x_field : XfOf K CA [4] "field"
  x_number : XfOf K CA [3] "number"
  x_at : XfOf K CA [2] "at"
abbrev xs0 : List Nat := [1, 2, 3, 4, 5, 6, 7]
def kt0 : KT := (ktT [[.o 0], [.o 1, .b "ValueError"], [.o 2, .o 1, .b "ValueError"], [.o 3, .o 1, .b "ValueError"], [.o 4, .o 1, .b "ValueError"], [.o 5, .o 1, .b "ValueError"], [.o 6, .o 1, .b "ValueError"], [.o 7, .o 1, .b "ValueError"]] ("ValueError" :: tys))
def u__law_owned : SD := dSeq (dAsg (dCall 2 F__law_take (dCons (dVar 0) (dCons (dC (.int 6)) (dNil)))) (gdName 2)) (dSeq (dIfS (dB (dOp (fEq false) (dVar 2) (dC (.int 0)))) (dRet (dTup (dNil))) (dNext)) (dSeq (dIfS (dB (dOp (fEq false) (dVar 2) (dC (.int 1)))) (dRet (dTupR (dVar 1))) (dNext)) (dRet (dCB fTupOf (dCons (dLc false (dRng1 (dCons (dVar 1) (dNil))) (gdName 3) (dB (dOp (fEq false) (dCall 2 F__law_take (dCons (dVar 0) (dCons (dIf (dB (dOp (fB fun i j => decide (i < j)) (dVar 2) (dC (.int 5)))) (dC (.int 2)) (dC (.int 4))) (dNil)))) (dC (.int 0)))) (dVar 3) [3]) (dNil))))))
def F__law_owned : FD := bodyF 4 u__law_owned
def u__law_chain : SD := dSeq (dAsg (dCall 2 F__law_pick (dCons (dVar 0) (dCons (dLst false (dCons (dC (.int 1)) (dCons (dC (.int 3)) (dCons (dC (.int 6)) (dCons (dC (.int 10)) (dNil)))))) (dNil)))) (gdName 3)) (dRet (dLc false (dRng1 (dCons (dOp (fAdd false) (dVar 1) (dCall 2 F__law_take (dCons (dVar 0) (dCons (dOp (fAdd false) (dOp fSubI (dVar 2) (dVar 1)) (dC (.int 1))) (dNil))))) (dNil))) (gdName 4) (dYes) (dCall 2 F__law_owned (dCons (dVar 0) (dCons (dVar 3) (dNil)))) [4]))
def F__law_chain : FD := bodyF 5 u__law_chain
def u__law_plan (R_ : FD) : SD := dSeq (dIfS (dB (dOp (fEq false) (dVar 1) (dVar 2))) (dRet (dVar 1)) (dNext)) (dSeq (dAsg (dOp (fAdd false) (dVar 1) (dCall 2 F__law_take (dCons (dVar 0) (dCons (dOp fSubI (dVar 2) (dVar 1)) (dNil))))) (gdName 3)) (dSeq (dAsg (dCall 2 F__law_pick (dCons (dVar 0) (dCons (dLst false (dCons (dC (.str "up")) (dCons (dC (.str "down")) (dNil)))) (dNil)))) (gdName 4)) (dRet (dTup (dCons (dVar 4) (dCons (dCall 3 R_ (dCons (dVar 0) (dCons (dVar 1) (dCons (dVar 3) (dNil))))) (dCons (dCall 3 R_ (dCons (dVar 0) (dCons (dOp (fAdd false) (dVar 3) (dC (.int 1))) (dCons (dVar 2) (dNil))))) (dNil))))))))
def F__law_plan_ : Nat → FD
  | 0 => fun _ _ => .no
  | k + 1 => bodyF 5 (u__law_plan (F__law_plan_ k))
def F__law_plan : FD := F__law_plan_ 9
def u__law_is_cell : SD := dRet (dAndV (dCB (fIsX xs0 [0] kt0) (dCons (dVar 0) (dCons (dC (.ty "int")) (dNil)))) (dAndV (dNotV (dCB (fIsX xs0 [0] kt0) (dCons (dVar 0) (dCons (dC (.ty "bool")) (dNil))))) (dOp (fB fun i j => decide (i ≥ j)) (dVar 0) (dC (.int 0)))))
def F__law_is_cell : FD := bodyF 1 u__law_is_cell
def u__law_is_chain : SD := dSeq (dIfS (dOr (dNot (dB (dCB (fIsT [0] kt0) (dCons (dVar 0) (dCons (dTup (dCons (dC (.ty "list")) (dCons (dC (.ty "tuple")) (dNil)))) (dNil)))))) (dNot (dB (dChain (fB fun i j => decide (i ≤ j)) (fB fun i j => decide (i ≤ j)) (dC (.int 1)) (dCB fLen (dCons (dVar 0) (dNil))) (dC (.int 8)))))) (dRet (dC (.bl false))) (dNext)) (dSeq (dFor (dSeqI (dVar 0)) (gdName 1) (dSeq (dIfS (dOr (dNot (dB (dCB (fIsX xs0 [0] kt0) (dCons (dVar 1) (dCons (dC (.ty "tuple")) (dNil)))))) (dB (dOp (fEqL true) (dLc false (dSeqI (dVar 1)) (gdName 2) (dNot (dB (dCall 1 F__law_is_cell (dCons (dVar 2) (dNil))))) (dVar 2) [2]) (dLst false (dNil))))) (dRet (dC (.bl false))) (dNext)) (dIfS (dB (dOp (fEq true) (dCB (fListOf false) (dCons (dVar 1) (dNil))) (dUn (fSortSet false) (dVar 1)))) (dRet (dC (.bl false))) (dNext)))) (dRet (dC (.bl true))))
def F__law_is_chain : FD := bodyF 3 u__law_is_chain
def u__law_is_great : SD := dRet (dAndV (dCall 1 F__law_is_chain (dCons (dVar 0) (dNil))) (dOp (fEqL true) (dLc false (dSeqI (dVar 0)) (gdName 1) (dB (dOp (fB fun i j => decide (i > j)) (dCB fMaxS (dCons (dOp (fAddA false) (dVar 1) (dTup (dCons (dC (.int 0)) (dNil)))) (dNil))) (dC (.int 9)))) (dVar 1) [1]) (dLst false (dNil))))
def F__law_is_great : FD := bodyF 2 u__law_is_great
def u__law_span (R_ : FD) : SD := dSeq (dIfS (dB (dCall 1 F__law_is_cell (dCons (dVar 0) (dNil)))) (dRet (dLst false (dCons (dVar 0) (dNil)))) (dNext)) (dSeq (dIfS (dOr (dNot (dB (dCB (fIsX xs0 [0] kt0) (dCons (dVar 0) (dCons (dC (.ty "tuple")) (dNil)))))) (dOr (dB (dOp (fEq true) (dCB fLen (dCons (dVar 0) (dNil))) (dC (.int 3)))) (dNot (dB (dCB (fIsX xs0 [0] kt0) (dCons (dOp fIx (dVar 0) (dC (.int 0))) (dCons (dC (.ty "str")) (dNil)))))))) (dRet (dC .non)) (dNext)) (dSeq (dPar 1 2 (dCons (dCall 1 R_ (dCons (dOp fIx (dVar 0) (dC (.int 1))) (dNil))) (dCons (dCall 1 R_ (dCons (dOp fIx (dVar 0) (dC (.int 2))) (dNil))) (dNil)))) (dSeq (dIfS (dOr (dB (dOp (fIn true) (dOp fIx (dVar 0) (dC (.int 0))) (dTup (dCons (dC (.str "up")) (dCons (dC (.str "down")) (dNil)))))) (dOr (dB (dOp (fIsN false) (dVar 1) (dC .non))) (dB (dOp (fIsN false) (dVar 2) (dC .non))))) (dRet (dC .non)) (dNext)) (dRet (dOp (fAdd false) (dVar 1) (dVar 2))))))
def F__law_span_ : Nat → FD
  | 0 => fun _ _ => .no
  | k + 1 => bodyF 3 (u__law_span (F__law_span_ k))
def F__law_span : FD := F__law_span_ 30
def u_is_cell : SD := dRet (dAndV (dCB (fIsX xs0 [0] kt0) (dCons (dVar 0) (dCons (dC (.ty "int")) (dNil)))) (dAndV (dNotV (dCB (fIsX xs0 [0] kt0) (dCons (dVar 0) (dCons (dC (.ty "bool")) (dNil))))) (dOp (fB fun i j => decide (i ≥ j)) (dVar 0) (dC (.int 0)))))
def F_is_cell : FD := bodyF 1 u_is_cell
def u_is_owned : SD := dSeq (dIfS (dOr (dNot (dB (dCB (fIsX xs0 [0] kt0) (dCons (dVar 0) (dCons (dC (.ty "tuple")) (dNil)))))) (dNot (dB (dCB (fAllB false) (dCons (dLc false (dSeqI (dVar 0)) (gdName 1) (dYes) (dCall 1 F_is_cell (dCons (dVar 1) (dNil))) [1]) (dNil)))))) (dRet (dC (.bl false))) (dNext)) (dRet (dOp (fEq false) (dCB (fListOf false) (dCons (dVar 0) (dNil))) (dUn (fSortSet false) (dVar 0))))
def F_is_owned : FD := bodyF 2 u_is_owned
def u_need_chain : SD := dSeq (dIfS (dOr (dNot (dB (dCB (fIsT [0] kt0) (dCons (dVar 0) (dCons (dTup (dCons (dC (.ty "list")) (dCons (dC (.ty "tuple")) (dNil)))) (dNil)))))) (dNot (dB (dChain (fB fun i j => decide (i ≤ j)) (fB fun i j => decide (i ≤ j)) (dC (.int 1)) (dCB fLen (dCons (dVar 0) (dNil))) (dC (.int 8)))))) (dRaise0 6) (dNext)) (dIfS (dNot (dB (dCB (fAllB false) (dCons (dLc false (dSeqI (dVar 0)) (gdName 1) (dYes) (dCall 1 F_is_owned (dCons (dVar 1) (dNil))) [1]) (dNil))))) (dRaise0 6) (dNext))
def F_need_chain : FD := bodyF 2 u_need_chain
def u_span_of (R_ : FD) : SD := dSeq (dIfS (dB (dCall 1 F_is_cell (dCons (dVar 1) (dNil)))) (dRet (dIf (dB (dOp (fB fun i j => decide (i < j)) (dVar 1) (dVar 0))) (dTup (dCons (dVar 1) (dCons (dVar 1) (dNil)))) (dC .non))) (dNext)) (dSeq (dIfS (dOr (dNot (dB (dCB (fIsX xs0 [0] kt0) (dCons (dVar 1) (dCons (dC (.ty "tuple")) (dNil)))))) (dOr (dB (dOp (fEq true) (dCB fLen (dCons (dVar 1) (dNil))) (dC (.int 3)))) (dOr (dNot (dB (dCB (fIsX xs0 [0] kt0) (dCons (dOp fIx (dVar 1) (dC (.int 0))) (dCons (dC (.ty "str")) (dNil)))))) (dB (dOp (fIn true) (dOp fIx (dVar 1) (dC (.int 0))) (dC (.tup [.str "down", .str "up"]))))))) (dRet (dC .non)) (dNext)) (dSeq (dPar 2 3 (dCons (dCall 2 R_ (dCons (dVar 0) (dCons (dOp fIx (dVar 1) (dC (.int 1))) (dNil)))) (dCons (dCall 2 R_ (dCons (dVar 0) (dCons (dOp fIx (dVar 1) (dC (.int 2))) (dNil)))) (dNil)))) (dSeq (dIfS (dOr (dB (dOp (fIsN false) (dVar 2) (dC .non))) (dOr (dB (dOp (fIsN false) (dVar 3) (dC .non))) (dB (dOp (fEq true) (dOp (fAdd false) (dOp fIx (dVar 2) (dC (.int 1))) (dC (.int 1))) (dOp fIx (dVar 3) (dC (.int 0))))))) (dRet (dC .non)) (dNext)) (dRet (dTup (dCons (dOp fIx (dVar 2) (dC (.int 0))) (dCons (dOp fIx (dVar 3) (dC (.int 1))) (dNil))))))))
def F_span_of_ : Nat → FD
  | 0 => fun _ _ => .no
  | k + 1 => bodyF 4 (u_span_of (F_span_of_ k))
def F_span_of : FD := F_span_of_ 30
def u_is_plan : SD := dSeq (dDrop (dCall 1 F_need_chain (dCons (dVar 0) (dNil)))) (dRet (dOp (fEq false) (dCall 2 F_span_of (dCons (dCB fLen (dCons (dVar 0) (dNil))) (dCons (dVar 1) (dNil)))) (dTup (dCons (dC (.int 0)) (dCons (dOp fSubI (dCB fLen (dCons (dVar 0) (dNil))) (dC (.int 1))) (dNil))))))
def F_is_plan : FD := bodyF 2 u_is_plan
def u_need_plan : SD := dIfS (dNot (dB (dCall 2 F_is_plan (dCons (dVar 0) (dCons (dVar 1) (dNil)))))) (dRaise0 5) (dNext)
def F_need_plan : FD := bodyF 2 u_need_plan
def u_copied : SD := dRet (dIf (dB (dOp (fEq false) (dVar 0) (dC (.str "down")))) (dCB fLen (dCons (dVar 2) (dNil))) (dCB fLen (dCons (dLc false (dSeqI (dVar 1)) (gdName 3) (dB (dOp (fIn true) (dVar 3) (dVar 2))) (dVar 3) [3]) (dNil))))
def F_copied : FD := bodyF 4 u_copied
def u_owned_by : SD := dRet (dCB (fListK false) (dCons (dDc2 false (dSeqI (dSl false (dVar 0) (dPart (dVar 1)) (dPart (dOp (fAdd false) (dVar 2) (dC (.int 1)))))) (gdName 3) (dYes) (dSeqI (dVar 3)) (gdName 4) (dYes) (dVar 4) (dC (.bl true)) [3, 4] [4]) (dNil)))
def F_owned_by : FD := bodyF 5 u_owned_by
def u_cost_of (R_ : FD) : SD := dSeq (dIfS (dB (dCall 1 F_is_cell (dCons (dVar 1) (dNil)))) (dRet (dC (.int 0))) (dNext)) (dSeq (dAsg (dVar 1) (gdTup 3 (gdCons (gdName 2) (gdCons (gdName 3) (gdCons (gdName 4) (gdNil)))))) (dSeq (dPar 5 6 (dCons (dCall 2 F_span_of (dCons (dCB fLen (dCons (dVar 0) (dNil))) (dCons (dVar 3) (dNil)))) (dCons (dCall 2 F_span_of (dCons (dCB fLen (dCons (dVar 0) (dNil))) (dCons (dVar 4) (dNil)))) (dNil)))) (dSeq (dAsg (dCall 3 F_copied (dCons (dVar 2) (dCons (dCall 3 F_owned_by (dCons (dVar 0) (dCons (dOp fIx (dVar 5) (dC (.int 0))) (dCons (dOp fIx (dVar 5) (dC (.int 1))) (dNil))))) (dCons (dCall 3 F_owned_by (dCons (dVar 0) (dCons (dOp fIx (dVar 6) (dC (.int 0))) (dCons (dOp fIx (dVar 6) (dC (.int 1))) (dNil))))) (dNil))))) (gdName 7)) (dRet (dOp (fAdd false) (dOp (fAdd false) (dCall 2 R_ (dCons (dVar 0) (dCons (dVar 3) (dNil)))) (dCall 2 R_ (dCons (dVar 0) (dCons (dVar 4) (dNil))))) (dVar 7))))))
def F_cost_of_ : Nat → FD
  | 0 => fun _ _ => .no
  | k + 1 => bodyF 8 (u_cost_of (F_cost_of_ k))
def F_cost_of : FD := F_cost_of_ 9
def u_cost : SD := dSeq (dDrop (dCall 2 F_need_plan (dCons (dVar 0) (dCons (dVar 1) (dNil))))) (dRet (dCall 2 F_cost_of (dCons (dVar 0) (dCons (dVar 1) (dNil)))))
def F_cost : FD := bodyF 2 u_cost
def u_Work_merged (R_ : FD) : SD := dSeq (dIfS (dB (dCall 1 F_is_cell (dCons (dVar 1) (dNil)))) (dRet (dOp (fAdd false) (dVar 1) (dC (.int 1)))) (dNext)) (dSeq (dPar 2 3 (dCons (dMethN 0 "merged" 2 0 (srcP 0 2) R_ (dVar 0) (dCons (dOp fIx (dVar 1) (dC (.int 1))) (dNil)) (dNil)) (dCons (dMethN 0 "merged" 2 0 (srcP 0 2) R_ (dVar 0) (dCons (dOp fIx (dVar 1) (dC (.int 2))) (dNil)) (dNil)) (dNil)))) (dSeq (dDrop (dBM "list" fAppend (dUn (fFld [0] "line") (dVar 0)) (dCons (dTup (dCons (dC (.str "begin")) (dCons (dOp fIx (dVar 1) (dC (.int 0))) (dCons (dVar 3) (dNil))))) (dNil)))) (dSeq (dDrop (dBM "list" fExtend (dUn (fFld [0] "line") (dVar 0)) (dCons (dLc false (dRng1 (dCons (dOp (fAdd false) (dUn (fFld [0] "cells_there") (dVar 0)) (dC (.int 1))) (dNil))) (gdName 4) (dYes) (dTup (dCons (dC (.str "step")) (dCons (dUn (fFld [0] "begun_jobs") (dVar 0)) (dNil)))) [4]) (dNil)))) (dSeq (dFldAug [0] "begun_jobs" (dVar 0) (dC (.int 1))) (dRet (dIf (dB (dOp (fEq false) (dOp fIx (dVar 1) (dC (.int 0))) (dC (.str "up")))) (dVar 3) (dVar 2)))))))
def F_Work_merged_ : Nat → FD
  | 0 => fun _ _ => .no
  | k + 1 => bodyF 5 (u_Work_merged (F_Work_merged_ k))
def F_Work_merged : FD := F_Work_merged_ 9
def u_Work_init : SD := dSeq (dAsg (dVar 1) (gdFld [0] "cells_there" (dVar 0))) (dSeq (dAsg (dLst true (dNil)) (gdFld [0] "line" (dVar 0))) (dAsg (dC (.int 0)) (gdFld [0] "begun_jobs" (dVar 0))))
def F_Work_init : FD := bodyF 2 u_Work_init
def u_cells_of : SD := dSeq (dDrop (dCall 1 F_need_chain (dCons (dVar 0) (dNil)))) (dRet (dCB fMaxS (dCons (dOp (fAdd false) (dLc2 false (dSeqI (dVar 0)) (gdName 1) (dYes) (dSeqI (dVar 1)) (gdName 2) (dYes) (dOp (fAdd false) (dVar 2) (dC (.int 1))) [1, 2] [2]) (dLst false (dCons (dC (.int 1)) (dNil)))) (dNil))))
def F_cells_of : FD := bodyF 3 u_cells_of
def u_deeds_for : SD := dSeq (dDrop (dCall 2 F_need_plan (dCons (dVar 0) (dCons (dVar 1) (dNil))))) (dSeq (dPar 2 3 (dCons (dLst true (dNil)) (dCons (dMakeN 0 false 2 0 (srcP 0 2) F_Work_init (dCons (dCall 1 F_cells_of (dCons (dVar 0) (dNil))) (dNil)) (dNil)) (dNil)))) (dSeq (dFor (dEnumT (dCons (dVar 0) (dNil))) (gdTup 2 (gdCons (gdName 4) (gdCons (gdName 5) (gdNil)))) (dSeq (dDrop (dBM "list" fAppend (dVar 2) (dCons (dTup (dCons (dC (.str "cover")) (dCons (dC (.int 0)) (dNil)))) (dNil)))) (dDrop (dBM "list" fExtend (dVar 2) (dCons (dLc false (dSeqI (dVar 5)) (gdName 6) (dYes) (dTup (dCons (dC (.str "write")) (dCons (dC (.int 0)) (dCons (dVar 6) (dCons (dOp (fAdd false) (dVar 4) (dC (.int 1))) (dNil)))))) [6]) (dNil)))))) (dSeq (dDrop (dMethN 0 "merged" 2 0 (srcP 0 2) F_Work_merged (dVar 3) (dCons (dVar 1) (dNil)) (dNil))) (dRet (dLst true (dStar (dVar 2) (dCons (dTup (dCons (dC (.str "cover")) (dCons (dC (.int 0)) (dNil)))) (dStar (dUn (fFld [0] "line") (dVar 3)) (dNil)))))))))
def F_deeds_for : FD := bodyF 7 u_deeds_for
def u__law_refusal (r_ : R D) : SD := dSeq (dAsg (dKr (caughtR xs0 r_)) (gdName 1)) (dSeq (dIfS (dB (dOp (fIsN false) (dVar 1) (dC .non))) (dRet (dTup (dCons (dC (.str "none")) (dCons (dC .non) (dNil))))) (dNext)) (dSeq (dAsg (dLst false (dCons (dCB (fIsX xs0 [0] kt0) (dCons (dVar 1) (dCons (dC (.cls 4)) (dNil)))) (dCons (dCB (fIsX xs0 [0] kt0) (dCons (dVar 1) (dCons (dC (.cls 3)) (dNil)))) (dCons (dCB (fIsX xs0 [0] kt0) (dCons (dVar 1) (dCons (dC (.cls 2)) (dNil)))) (dNil))))) (gdName 2)) (dSeq (dAsg (dOp (fAdd false) (dVar 2) (dLst false (dCons (dCB (fIsX xs0 [0] kt0) (dCons (dVar 1) (dCons (dC (.cls 7)) (dNil)))) (dCons (dCB (fIsX xs0 [0] kt0) (dCons (dVar 1) (dCons (dC (.cls 6)) (dNil)))) (dCons (dCB (fIsX xs0 [0] kt0) (dCons (dVar 1) (dCons (dC (.cls 5)) (dNil)))) (dNil)))))) (gdName 2)) (dSeq (dIfS (dOr (dB (dOp (fEq true) (dBM "list" fCntB (dVar 2) (dCons (dC (.bl true)) (dNil))) (dC (.int 1)))) (dNot (dB (dCB (fIsX xs0 [0] kt0) (dCons (dVar 1) (dCons (dC (.ty "ValueError")) (dNil))))))) (dRet (dTup (dCons (dC (.str "other")) (dCons (dC .non) (dNil))))) (dNext)) (dSeq (dIfS (dB (dOp fIx (dVar 2) (dC (.int 0)))) (dRet (dTup (dCons (dC (.str "book")) (dCons (dUn (fXf [4] "field") (dVar 1)) (dNil))))) (dNext)) (dSeq (dIfS (dB (dOp fIx (dVar 2) (dC (.int 1)))) (dRet (dTup (dCons (dC (.str "number")) (dCons (dUn (fXf [3] "number") (dVar 1)) (dNil))))) (dNext)) (dSeq (dIfS (dB (dOp fIx (dVar 2) (dC (.int 2)))) (dRet (dTup (dCons (dC (.str "deed")) (dCons (dUn (fXf [2] "at") (dVar 1)) (dNil))))) (dNext)) (dRet (dIf (dB (dOp fIx (dVar 2) (dC (.int 3)))) (dTup (dCons (dC (.str "text")) (dCons (dUn (fFld [0] "line") (dVar 1)) (dNil)))) (dTup (dCons (dOp fIx (dLst false (dCons (dC (.str "chain")) (dCons (dC (.str "plan")) (dNil)))) (dCB fInt (dCons (dOp fIx (dVar 2) (dC (.int 5))) (dNil)))) (dCons (dC .non) (dNil)))))))))))))
def F__law_refusal : R D → FD := fun r_ ds h => (u__law_refusal r_ (startL 2 ds) h).res
def u_cheapest : SD := dSeq (dDrop (dCall 1 F_need_chain (dCons (dVar 0) (dNil)))) (dSeq (dAsg (dDcT (dRng1 (dCons (dCB fLen (dCons (dVar 0) (dNil))) (dNil))) (gdName 2) (dYes) (dCons (dVar 2) (dCons (dVar 2) (dNil))) (dTup (dCons (dC (.int 0)) (dCons (dVar 2) (dNil)))) [2]) (gdName 1)) (dSeq (dFor (dRng2 (dCons (dC (.int 1)) (dCons (dCB fLen (dCons (dVar 0) (dNil))) (dNil)))) (gdName 3) (dFor (dRng1 (dCons (dOp fSubI (dCB fLen (dCons (dVar 0) (dNil))) (dVar 3)) (dNil))) (gdName 4) (dSeq (dPar 5 6 (dCons (dOp (fAdd false) (dVar 4) (dVar 3)) (dCons (dLst true (dNil)) (dNil)))) (dSeq (dFor (dRng2 (dCons (dVar 4) (dCons (dVar 5) (dNil)))) (gdName 7) (dSeq (dPar 8 9 (dCons (dIxT (dVar 1) (dCons (dVar 4) (dCons (dVar 7) (dNil)))) (dCons (dIxT (dVar 1) (dCons (dOp (fAdd false) (dVar 7) (dC (.int 1))) (dCons (dVar 5) (dNil)))) (dNil)))) (dSeq (dAsg (dTup (dCons (dCall 3 F_owned_by (dCons (dVar 0) (dCons (dVar 4) (dCons (dVar 7) (dNil))))) (dCons (dCall 3 F_owned_by (dCons (dVar 0) (dCons (dOp (fAdd false) (dVar 7) (dC (.int 1))) (dCons (dVar 5) (dNil))))) (dNil)))) (gdName 10)) (dFor (dSeqI (dC (.tup [.str "down", .str "up"]))) (gdName 11) (dDrop (dBM "list" fAppend (dVar 6) (dCons (dTup (dCons (dOp (fAdd false) (dOp (fAdd false) (dOp fIx (dVar 8) (dC (.int 0))) (dOp fIx (dVar 9) (dC (.int 0)))) (dCall 3 F_copied (dCons (dVar 11) (dStar (dVar 10) (dNil))))) (dCons (dTup (dCons (dVar 11) (dCons (dOp fIx (dVar 8) (dC (.int 1))) (dCons (dOp fIx (dVar 9) (dC (.int 1))) (dNil))))) (dNil)))) (dNil)))))))) (dSeq (dAsg (dCB fMinL (dCons (dLc false (dSeqI (dVar 6)) (gdTup 2 (gdCons (gdName 13) (gdCons (gdName 14) (gdNil)))) (dYes) (dVar 13) [13, 14]) (dNil))) (gdName 12)) (dAsg (dOp fIx (dLc false (dSeqI (dVar 6)) (gdName 15) (dB (dOp (fEq false) (dOp fIx (dVar 15) (dC (.int 0))) (dVar 12))) (dVar 15) [15]) (dC (.int 0))) (gdSubT (dVar 1) (dCons (dVar 4) (dCons (dVar 5) (dNil)))))))))) (dRet (dIxT (dVar 1) (dCons (dC (.int 0)) (dCons (dOp fSubI (dCB fLen (dCons (dVar 0) (dNil))) (dC (.int 1))) (dNil)))))))
def F_cheapest : FD := bodyF 16 u_cheapest
def u__law_all_right : SD := dSeq (dIfS (dB (dCall 1 F__law_is_great (dCons (dVar 0) (dNil)))) (dRet (dC (.bl true))) (dNext)) (dSeq (dIfS (dNot (dB (dCall 1 F__law_is_chain (dCons (dVar 0) (dNil))))) (dSeq (dUnset 2) (dRet (dOp (fEq false) (dLamL [dFr F__law_refusal (dCall 1 F_cheapest (dCons (dVar 0) (dNil))), dFr F__law_refusal (dCall 1 F_cells_of (dCons (dVar 0) (dNil))), dFr F__law_refusal (dCall 2 F_is_plan (dCons (dVar 0) (dCons (dVar 1) (dNil)))), dFr F__law_refusal (dCall 2 F_cost (dCons (dVar 0) (dCons (dVar 1) (dNil)))), dFr F__law_refusal (dCallN 0 2 ([.k 1, .k 0]) F_deeds_for (dNil) (dCons (dVar 1) (dCons (dVar 0) (dNil))))]) (dOp (fMul false) (dLst false (dCons (dTup (dCons (dC (.str "chain")) (dCons (dC .non) (dNil)))) (dNil))) (dC (.int 5)))))) (dNext)) (dSeq (dAsg (dOp (fEq false) (dCall 1 F__law_span (dCons (dVar 1) (dNil))) (dLstR false (dCB fLen (dCons (dVar 0) (dNil))))) (gdName 4)) (dSeq (dIfS (dB (dOp (fEq true) (dCB fRep (dCons (dLst false (dCons (dCall 2 F_is_plan (dCons (dVar 0) (dCons (dVar 1) (dNil)))) (dCons (dCallN 0 2 ([.k 1, .k 0]) F_is_plan (dNil) (dCons (dVar 1) (dCons (dVar 0) (dNil)))) (dNil)))) (dNil))) (dCB fRep (dCons (dLst false (dCons (dVar 4) (dCons (dVar 4) (dNil)))) (dNil))))) (dRet (dC (.bl false))) (dNext)) (dSeq (dAsg (dIf (dB (dVar 4)) (dTup (dCons (dC (.str "none")) (dCons (dC .non) (dNil)))) (dTup (dCons (dC (.str "plan")) (dCons (dC .non) (dNil))))) (gdName 5)) (dSeq (dUnset 2) (dSeq (dIfS (dB (dOp (fEq true) (dLamL [dFr F__law_refusal (dCall 2 F_cost (dCons (dVar 0) (dCons (dVar 1) (dNil)))), dFr F__law_refusal (dCall 2 F_deeds_for (dCons (dVar 0) (dCons (dVar 1) (dNil))))]) (dLst false (dCons (dVar 5) (dCons (dVar 5) (dNil)))))) (dRet (dC (.bl false))) (dNext)) (dSeq (dAsg (dCB fMaxS (dCons (dOp (fAdd false) (dLst false (dCons (dC (.int 1)) (dNil))) (dLc false (dSeqI (dVar 0)) (gdName 7) (dB (dOp (fEq true) (dVar 7) (dTup (dNil)))) (dOp (fAdd false) (dCB fMaxS (dCons (dVar 7) (dNil))) (dC (.int 1))) [7])) (dNil))) (gdName 6)) (dRet (dOp (fEq false) (dCB fRep (dCons (dLst false (dCons (dCall 1 F_cells_of (dCons (dVar 0) (dNil))) (dCons (dCallN 0 1 ([.k 0]) F_cells_of (dNil) (dCons (dVar 0) (dNil))) (dNil)))) (dNil))) (dCB fRep (dCons (dLst false (dCons (dVar 6) (dCons (dVar 6) (dNil)))) (dNil))))))))))))
def F__law_all_right : FD := bodyF 8 u__law_all_right
def u__law_odd : SD := dSeq (dAsg (dLst false (dCons (dC .non) (dCons (dC (.bl true)) (dCons (dC (.bl false)) (dCons (dUn fNeg (dC (.int 1))) (dCons (dC (.int 0)) (dCons (dC (.int 7)) (dCons (dOp fPow (dC (.int 10)) (dC (.int 30))) (dCons (dC (.str "")) (dCons (dC (.str "up")) (dCons (dC (.str "down")) (dCons (dC (.str "x")) (dCons (dTup (dNil)) (dCons (dTup (dCons (dC (.int 0)) (dNil))) (dCons (dLst false (dNil)) (dCons (dLst false (dCons (dC (.int 0)) (dNil))) (dCons (dDNew false) (dCons (dDisp false [(dC (.int 0), dC (.int 1))]) (dCons (dTup (dCons (dTup (dNil)) (dNil))) (dNil)))))))))))))))))))) (gdName 1)) (dRet (dCall 2 F__law_pick (dCons (dVar 0) (dCons (dOp (fAdd false) (dVar 1) (dLst false (dCons (dTup (dCons (dC (.str "up")) (dCons (dC (.int 0)) (dCons (dC (.int 1)) (dNil))))) (dCons (dTup (dCons (dC (.str "up")) (dNil))) (dCons (dTup (dCons (dC (.str "write")) (dCons (dC (.int 0)) (dCons (dC (.int 0)) (dCons (dC (.int 1)) (dNil)))))) (dCons (dLst false (dCons (dTup (dCons (dC (.int 0)) (dNil))) (dNil))) (dCons (dC (.str "0")) (dCons (dTup (dCons (dC (.bl true)) (dNil))) (dCons (dTup (dCons (dC .non) (dNil))) (dNil)))))))))) (dNil)))))
def F__law_odd : FD := bodyF 2 u__law_odd
def u__law_bent (R_ : FD) : SD := dSeq (dAsg (dLst false (dCons (dUn fNeg (dC (.int 1))) (dCons (dC (.int 0)) (dCons (dC (.int 1)) (dCons (dC (.int 7)) (dCons (dC (.int 8)) (dCons (dC (.bl true)) (dCons (dC (.bl false)) (dCons (dC .non) (dCons (dC (.str "up")) (dCons (dC (.str "down")) (dCons (dC (.str "Up")) (dCons (dC (.str "")) (dCons (dTup (dNil)) (dCons (dLst false (dNil)) (dCons (dTup (dCons (dC (.int 0)) (dNil))) (dCons (dTup (dCons (dC (.str "up")) (dCons (dC (.int 0)) (dCons (dC (.int 1)) (dNil))))) (dNil)))))))))))))))))) (gdName 2)) (dSeq (dIfS (dOr (dNot (dB (dCB (fIsT [0] kt0) (dCons (dVar 1) (dCons (dTup (dCons (dC (.ty "list")) (dCons (dC (.ty "tuple")) (dNil)))) (dNil)))))) (dOr (dB (dOp (fEq false) (dCB fLen (dCons (dVar 1) (dNil))) (dC (.int 0)))) (dB (dOp (fEq false) (dCall 2 F__law_take (dCons (dVar 0) (dCons (dC (.int 6)) (dNil)))) (dC (.int 0)))))) (dRet (dCall 2 F__law_pick (dCons (dVar 0) (dCons (dOp (fAdd false) (dVar 2) (dLst false (dCons (dCall 1 F__law_odd (dCons (dVar 0) (dNil))) (dNil)))) (dNil))))) (dNext)) (dSeq (dPar3 3 4 5 (dCons (dCall 2 F__law_take (dCons (dVar 0) (dCons (dCB fLen (dCons (dVar 1) (dNil))) (dNil)))) (dCons (dCall 2 F__law_take (dCons (dVar 0) (dCons (dC (.int 8)) (dNil)))) (dCons (dCB (fListOf true) (dCons (dVar 1) (dNil))) (dNil))))) (dSeq (dIfS (dB (dOp (fEq false) (dVar 4) (dC (.int 0)))) (dDrop (dBM "list" fPopAt (dVar 5) (dCons (dVar 3) (dNil)))) (dIfS (dB (dOp (fEq false) (dVar 4) (dC (.int 1)))) (dDrop (dBM "list" fInsert (dVar 5) (dCons (dVar 3) (dCons (dCall 2 F__law_pick (dCons (dVar 0) (dCons (dOp (fAdd false) (dVar 2) (dLst false (dCons (dOp fIx (dVar 5) (dVar 3)) (dNil)))) (dNil)))) (dNil))))) (dIfS (dB (dOp (fEq false) (dVar 4) (dC (.int 2)))) (dRet (dUn fzI (dIf (dB (dCB (fIsX xs0 [0] kt0) (dCons (dVar 1) (dCons (dC (.ty "list")) (dNil))))) (dCB fTupOf (dCons (dVar 5) (dNil))) (dVar 5)))) (dIfS (dB (dOp (fEq false) (dVar 4) (dC (.int 3)))) (dSeq (dAsg (dCall 2 F__law_take (dCons (dVar 0) (dCons (dCB fLen (dCons (dVar 5) (dNil))) (dNil)))) (gdName 6)) (dAsg (dTup (dCons (dOp fIx (dVar 5) (dVar 6)) (dCons (dOp fIx (dVar 5) (dVar 3)) (dNil)))) (gdTup 2 (gdCons (gdSub (dVar 5) (dVar 3)) (gdCons (gdSub (dVar 5) (dVar 6)) (gdNil)))))) (dAsg (dCall 2 R_ (dCons (dVar 0) (dCons (dOp fIx (dVar 5) (dVar 3)) (dNil)))) (gdSub (dVar 5) (dVar 3))))))) (dRet (dUn fzI (dIf (dB (dCB (fIsX xs0 [0] kt0) (dCons (dVar 1) (dCons (dC (.ty "tuple")) (dNil))))) (dCB fTupOf (dCons (dVar 5) (dNil))) (dVar 5)))))))
def F__law_bent_ : Nat → FD
  | 0 => fun _ _ => .no
  | k + 1 => bodyF 7 (u__law_bent (F__law_bent_ k))
def F__law_bent : FD := F__law_bent_ 30
def u_law : SD := dSeq (dAsg (dCall 1 F__law_begun (dCons (dVar 0) (dNil))) (gdName 1)) (dSeq (dFor (dRng1 (dCons (dOp (fAdd false) (dC (.int 4)) (dCB fMin (dCons (dCB fLen (dCons (dVar 0) (dNil))) (dCons (dC (.int 16)) (dNil))))) (dNil))) (gdName 2) (dSeq (dAsg (dCall 3 F__law_chain (dCons (dVar 1) (dCons (dC (.int 1)) (dCons (dC (.int 8)) (dNil))))) (gdName 3)) (dSeq (dAsg (dCall 3 F__law_plan (dCons (dVar 1) (dCons (dC (.int 0)) (dCons (dOp fSubI (dCB fLen (dCons (dVar 3) (dNil))) (dC (.int 1))) (dNil))))) (gdName 4)) (dSeq (dIfS (dOr (dNot (dB (dCall 2 F__law_all_right (dCons (dVar 3) (dCons (dVar 4) (dNil)))))) (dNot (dB (dCall 2 F__law_all_right (dCons (dCB fTupOf (dCons (dVar 3) (dNil))) (dCons (dVar 4) (dNil))))))) (dRet (dC (.bl false))) (dNext)) (dSeq (dAsg (dCall 2 F__law_pick (dCons (dVar 1) (dCons (dLst false (dCons (dC (.int 0)) (dCons (dC (.int 1)) (dCons (dOp fSubI (dCB fLen (dCons (dVar 3) (dNil))) (dC (.int 1))) (dNil))))) (dNil)))) (gdName 5)) (dSeq (dFor (dSeqI (dLst false (dCons (dCall 3 F__law_plan (dCons (dVar 1) (dCons (dC (.int 0)) (dCons (dVar 5) (dNil))))) (dCons (dCall 3 F__law_plan (dCons (dVar 1) (dCons (dVar 5) (dCons (dOp (fAdd false) (dVar 5) (dC (.int 2))) (dNil))))) (dNil))))) (gdName 6) (dIfS (dNot (dB (dCall 2 F__law_all_right (dCons (dVar 3) (dCons (dVar 6) (dNil)))))) (dRet (dC (.bl false))) (dNext))) (dSeq (dPar 7 8 (dCons (dVar 3) (dCons (dVar 4) (dNil)))) (dSeq (dFor (dRng1 (dCons (dOp (fAdd false) (dC (.int 1)) (dCall 2 F__law_take (dCons (dVar 1) (dCons (dC (.int 2)) (dNil))))) (dNil))) (gdName 9) (dIfS (dB (dOp (fEq false) (dCall 2 F__law_take (dCons (dVar 1) (dCons (dC (.int 2)) (dNil)))) (dC (.int 0)))) (dAsg (dCall 2 F__law_bent (dCons (dVar 1) (dCons (dVar 7) (dNil)))) (gdName 7)) (dAsg (dCall 2 F__law_bent (dCons (dVar 1) (dCons (dVar 8) (dNil)))) (gdName 8)))) (dSeq (dAsg (dCB fRep (dCons (dLst false (dCons (dVar 7) (dCons (dVar 8) (dNil)))) (dNil))) (gdName 10)) (dIfS (dOr (dNot (dB (dCall 2 F__law_all_right (dCons (dVar 7) (dCons (dVar 8) (dNil)))))) (dOr (dNot (dB (dCall 2 F__law_all_right (dCons (dVar 3) (dCons (dVar 8) (dNil)))))) (dB (dOp (fEq true) (dCB fRep (dCons (dLst false (dCons (dVar 7) (dCons (dVar 8) (dNil)))) (dNil))) (dVar 10))))) (dRet (dC (.bl false))) (dNext))))))))))) (dRet (dC (.bl true))))
def F_law : FD := bodyF 11 u_law
section
variable {P : Program} {w : World} {K : PySem.W.Frag} {mg : Str → Option Value} {base : Heap} {CA : CAs} {f : Addr} {fd : FuncData}
theorem sc__law_begun : FnScope ["_law_script", "_law_wide", "_law_cell"] ["_law_script"] (defScope s__law_begun) := ⟨rfl, rfl, rfl, by decide +kernel, rfl, by decide +kernel, by decide +kernel⟩
theorem ok__law_begun  (F : Fun K "_law_begun" "_law_begun" s__law_begun f fd) (T : Txt mg) (Hx : ∀ c ∈ (xs0 : List Nat), PySem.W.exmOne K (.ref (CA c)) (.ref (CA 1)) = some true) (XE : ∀ c ∈ (xs0 : List Nat), ExcOk K (CA c)) (Xf : XFd K CA) (SMb : SM base) (C : Cst K CA mg) (Fl : Fld K CA) (Kt : KtOk K CA [0] kt0)  : FnG P w K mg base false 1 f fd ["_law_script"] (spD K CA 1 (bodyF 3 u__law_begun)) := by
  have nd := (sc__law_begun).nd
  refine okD F sc__law_begun rfl rfl fun cd A outer s H E hg hr tk => ?_
  have Y : WSs (cxD P w K mg base ["_law_script", "_law_wide", "_law_cell"] "_law_begun" s__law_begun f cd A outer s H E) K CA (wxD E) (defBody s__law_begun) _ _ := wss_cons (ws_setLc true (i := 1) rfl nd rfl rfl (own := [("_law_cell", 2)]) (wi_seq (we_var (pv 0))) (blkOk_by (N := ["_law_script", "_law_wide", "_law_cell"]) (sc := defScope s__law_begun) (by decide +kernel)) (fun s_ H_ C_ cl_ fp_ => wg_name (pg_name (i := 2) nd rfl (by first | exact Or.inl rfl | exact Or.inr rfl))) (fun s_ H_ C_ cl_ fp_ => wts_one (wt_cmp op_ge sim_cB (we_cb sim_abs (wa_cons (we_var (pv 2)) (wa_nil)) (fun a => pe_callB call_abs (by rfl) T.z_abs boot_absU a)) (we_op op_pow sim_pow (we_int) (we_int)) (by rfl))) (fun s_ H_ C_ cl_ fp_ => we_op op_sub sim_subI (we_cb sim_abs (wa_cons (we_var (pv 2)) (wa_nil)) (fun a => pe_callB call_abs (by rfl) T.z_abs boot_absU a)) (we_op op_pow sim_pow (we_int) (we_int))) (by decide)) (wss_one (ws_ret (we_disp true (wp_cons (we_str) (we_var (pv 1)) (wp_cons (we_str) (we_lc false rfl nd (own := [("_law_cell", 2)]) (wi_seq (we_var (pv 0))) (blkOk_by (N := ["_law_script", "_law_wide", "_law_cell"]) (sc := defScope s__law_begun) (by decide +kernel)) (fun s_ H_ C_ cl_ fp_ => wg_name (pg_name (i := 2) nd rfl (by first | exact Or.inl rfl | exact Or.inr rfl))) (fun s_ H_ C_ cl_ fp_ => wts_nil) (fun s_ H_ C_ cl_ fp_ => we_op op_mod sim_mod (we_cb sim_int (wa_cons (we_cb sim_abs (wa_cons (we_var (pv 2)) (wa_nil)) (fun a => pe_callB call_abs (by rfl) T.z_abs boot_absU a)) (wa_nil)) (fun a => pe_callTy call_int1 (by rfl) T.z_int boot_intU a)) (we_int)) (by decide)) (wp_cons (we_str) (we_int) (wp_cons (we_str) (we_int) (wp_nil))))) (by rfl) (by rfl) (by decide) (by decide))))
  exact ⟨_, Y⟩
theorem sc__law_mixed : FnScope ["_law_draw", "_law_turn", "_law_found", "_law_prime", "_law_blend", "_law_cell"] ["_law_draw"] (defScope s__law_mixed) := ⟨rfl, rfl, rfl, by decide +kernel, rfl, by decide +kernel, by decide +kernel⟩
theorem ok__law_mixed  (F : Fun K "_law_mixed" "_law_mixed" s__law_mixed f fd) (T : Txt mg) (Hx : ∀ c ∈ (xs0 : List Nat), PySem.W.exmOne K (.ref (CA c)) (.ref (CA 1)) = some true) (XE : ∀ c ∈ (xs0 : List Nat), ExcOk K (CA c)) (Xf : XFd K CA) (SMb : SM base) (C : Cst K CA mg) (Fl : Fld K CA) (Kt : KtOk K CA [0] kt0)  : FnG P w K mg base false 1 f fd ["_law_draw"] (spD K CA 1 (bodyF 6 u__law_mixed)) := by
  have nd := (sc__law_mixed).nd
  refine okD F sc__law_mixed rfl rfl fun cd A outer s H E hg hr tk => ?_
  have Y : WSs (cxD P w K mg base ["_law_draw", "_law_turn", "_law_found", "_law_prime", "_law_blend", "_law_cell"] "_law_mixed" s__law_mixed f cd A outer s H E) K CA (wxD E) (defBody s__law_mixed) _ _ := wss_cons (ws_par (wa_cons (we_op op_addU (sim_add (nm := false)) (we_ix (ixU (hu_of hr)) sim_ix (we_var (pv 0)) (we_str)) (we_int)) (wa_cons (we_int) (wa_nil))) (fun q => ps_par (i := 1) (j := 2) rfl nd rfl rfl (by decide) rfl rfl q (by rfl))) (wss_cons (ws_asg (we_var (pv 1)) (wg_sub (W := wxD E) (hu_of hr) (we_var (pv 0)) (we_str) (fun a b c => pg_sub a b c))) (wss_cons (ws_for (wi_seq (we_lst false (wa_cons (we_int) (wa_cons (we_int) (wa_cons (we_int) (wa_cons (we_int) (wa_nil))))))) (wg_name (pg_name (i := 3) nd rfl (by first | exact Or.inl rfl | exact Or.inr rfl))) (wss_cons (ws_set (we_op op_addU (sim_add (nm := false)) (we_op op_mulU (sim_mul (nm := false)) (we_int) (we_var (pv 1))) (we_op op_fdiv sim_div (we_var (pv 3)) (we_int))) (fun q => ps_set (i := 4) nd rfl (by first | exact Or.inl rfl | exact Or.inr rfl) q)) (wss_cons (ws_for (wi_seq (we_ix (ixU (hu_of hr)) sim_ix (we_var (pv 0)) (we_str))) (wg_name (pg_name (i := 5) nd rfl (by first | exact Or.inl rfl | exact Or.inr rfl))) (wss_one (ws_set (we_op op_mod sim_mod (we_cb sim_int (wa_cons (we_op op_addU (sim_add (nm := false)) (we_op op_addU (sim_add (nm := false)) (we_op op_mulU (sim_mul (nm := false)) (we_var (pv 4)) (we_int)) (we_var (pv 5))) (we_var (pv 1))) (wa_nil)) (fun a => pe_callTy call_int1 (by rfl) T.z_int boot_intU a)) (we_var (pv 3))) (fun q => ps_set (i := 4) nd rfl (by first | exact Or.inl rfl | exact Or.inr rfl) q))) (fun i g b => ps_for (passes_of rfl) rfl i g b)) (wss_one (ws_set (we_op op_addU (sim_add (nm := false)) (we_op op_mulU (sim_mul (nm := false)) (we_var (pv 2)) (we_int)) (we_op op_mod sim_mod (we_cb sim_int (wa_cons (we_op op_pow sim_pow (we_var (pv 4)) (we_int)) (wa_nil)) (fun a => pe_callTy call_int1 (by rfl) T.z_int boot_intU a)) (we_var (pv 3)))) (fun q => ps_set (i := 2) nd rfl (by first | exact Or.inl rfl | exact Or.inr rfl) q))))) (fun i g b => ps_for (passes_of rfl) rfl i g b)) (wss_one (ws_ret (we_var (pv 2))))))
  exact ⟨_, Y⟩
theorem sc__law_take : FnScope ["_law_draw", "_law_size", "_law_found"] ["_law_draw", "_law_size"] (defScope s__law_take) := ⟨rfl, rfl, rfl, by decide +kernel, rfl, by decide +kernel, by decide +kernel⟩
theorem ok__law_take {f__law_mixed : Addr} {fd__law_mixed : FuncData} (F : Fun K "_law_take" "_law_take" s__law_take f fd) (T : Txt mg) (Hx : ∀ c ∈ (xs0 : List Nat), PySem.W.exmOne K (.ref (CA c)) (.ref (CA 1)) = some true) (XE : ∀ c ∈ (xs0 : List Nat), ExcOk K (CA c)) (Xf : XFd K CA) (SMb : SM base) (C : Cst K CA mg) (Fl : Fld K CA) (Kt : KtOk K CA [0] kt0) (B__law_mixed_1 : KwB K CA fd__law_mixed ["_law_draw"] 1 [] (srcP 0 1)) (D__law_mixed : Df P w K mg base CA "_law_mixed" false 1 ["_law_draw"] F__law_mixed f__law_mixed fd__law_mixed) : FnG P w K mg base false 2 f fd ["_law_draw", "_law_size"] (spD K CA 2 (bodyF 3 u__law_take)) := by
  have nd := (sc__law_take).nd
  refine okD F sc__law_take rfl rfl fun cd A outer s H E hg hr tk => ?_
  have Y : WSs (cxD P w K mg base ["_law_draw", "_law_size", "_law_found"] "_law_take" s__law_take f cd A outer s H E) K CA (wxD E) (defBody s__law_take) _ _ := wss_cons (ws_if (wt_cmp (op_eqU hr.units) sim_eq (we_ix (ixU (hu_of hr)) sim_ix (we_var (pv 0)) (we_str)) (we_int) (by rfl)) (wss_one (ws_asg (we_ifExp (wt_cmp (op_neU hr.units) sim_ne (we_ix (ixU (hu_of hr)) sim_ix (we_var (pv 0)) (we_str)) (we_lst false (wa_nil)) (by rfl)) (we_bm (T := "list") (r := rPopAt) sim_popAt (we_ix (ixU (hu_of hr)) sim_ix (we_var (pv 0)) (we_str)) (wa_cons (we_int) (wa_nil)) (fun a b => pe_bm PySem.F.plainAttrs_list PySem.F.slot_list_pop PySem.F.type_list_pop mt_popAt a b)) (we_callP D__law_mixed noG (hr.mono (by decide)) tk (wa_cons (we_var (pv 0)) (wa_nil)) B__law_mixed_1)) (wg_sub (W := wxD E) (hu_of hr) (we_var (pv 0)) (we_str) (fun a b c => pg_sub a b c)))) (wss_nil)) (wss_cons (ws_set (we_op op_mod sim_mod (we_cb sim_int (wa_cons (we_ix (ixU (hu_of hr)) sim_ix (we_var (pv 0)) (we_str)) (wa_nil)) (fun a => pe_callTy call_int1 (by rfl) T.z_int boot_intU a)) (we_var (pv 1))) (fun q => ps_set (i := 2) nd rfl (by first | exact Or.inl rfl | exact Or.inr rfl) q)) (wss_cons (ws_asg (we_op op_fdiv sim_div (we_ix (ixU (hu_of hr)) sim_ix (we_var (pv 0)) (we_str)) (we_var (pv 1))) (wg_sub (W := wxD E) (hu_of hr) (we_var (pv 0)) (we_str) (fun a b c => pg_sub a b c))) (wss_one (ws_ret (we_var (pv 2))))))
  exact ⟨_, Y⟩
theorem sc__law_pick : FnScope ["_law_draw", "_law_some"] ["_law_draw", "_law_some"] (defScope s__law_pick) := ⟨rfl, rfl, rfl, by decide +kernel, rfl, by decide +kernel, by decide +kernel⟩
theorem ok__law_pick {f__law_take : Addr} {fd__law_take : FuncData} (F : Fun K "_law_pick" "_law_pick" s__law_pick f fd) (T : Txt mg) (Hx : ∀ c ∈ (xs0 : List Nat), PySem.W.exmOne K (.ref (CA c)) (.ref (CA 1)) = some true) (XE : ∀ c ∈ (xs0 : List Nat), ExcOk K (CA c)) (Xf : XFd K CA) (SMb : SM base) (C : Cst K CA mg) (Fl : Fld K CA) (Kt : KtOk K CA [0] kt0) (B__law_take_2 : KwB K CA fd__law_take ["_law_draw", "_law_size"] 2 [] (srcP 0 2)) (D__law_take : Df P w K mg base CA "_law_take" false 2 ["_law_draw", "_law_size"] F__law_take f__law_take fd__law_take) : FnG P w K mg base false 3 f fd ["_law_draw", "_law_some"] (spD K CA 2 (bodyF 2 u__law_pick)) := by
  have nd := (sc__law_pick).nd
  refine okD F sc__law_pick rfl rfl fun cd A outer s H E hg hr tk => ?_
  have Y : WSs (cxD P w K mg base ["_law_draw", "_law_some"] "_law_pick" s__law_pick f cd A outer s H E) K CA (wxD E) (defBody s__law_pick) _ _ := wss_one (ws_ret (we_ix (ixU (hu_of hr)) sim_ix (we_var (pv 1)) (we_callP D__law_take noG (hr.mono (by decide)) tk (wa_cons (we_var (pv 0)) (wa_cons (we_cb sim_len (wa_cons (we_var (pv 1)) (wa_nil)) (fun a => pe_callB (call_lenU rfl call_lenRd) (by rfl) T.z_len boot_lenU a)) (wa_nil))) B__law_take_2)))
  exact ⟨_, Y⟩
theorem sc__law_owned : FnScope ["_law_draw", "_law_most", "_law_way", "_law_cell"] ["_law_draw", "_law_most"] (defScope s__law_owned) := ⟨rfl, rfl, rfl, by decide +kernel, rfl, by decide +kernel, by decide +kernel⟩
theorem ok__law_owned {f__law_take : Addr} {fd__law_take : FuncData} (F : Fun K "_law_owned" "_law_owned" s__law_owned f fd) (T : Txt mg) (Hx : ∀ c ∈ (xs0 : List Nat), PySem.W.exmOne K (.ref (CA c)) (.ref (CA 1)) = some true) (XE : ∀ c ∈ (xs0 : List Nat), ExcOk K (CA c)) (Xf : XFd K CA) (SMb : SM base) (C : Cst K CA mg) (Fl : Fld K CA) (Kt : KtOk K CA [0] kt0) (B__law_take_2 : KwB K CA fd__law_take ["_law_draw", "_law_size"] 2 [] (srcP 0 2)) (D__law_take : Df P w K mg base CA "_law_take" false 2 ["_law_draw", "_law_size"] F__law_take f__law_take fd__law_take) : FnG P w K mg base false 3 f fd ["_law_draw", "_law_most"] (spD K CA 2 (bodyF 4 u__law_owned)) := by
  have nd := (sc__law_owned).nd
  refine okD F sc__law_owned rfl rfl fun cd A outer s H E hg hr tk => ?_
  have Y : WSs (cxD P w K mg base ["_law_draw", "_law_most", "_law_way", "_law_cell"] "_law_owned" s__law_owned f cd A outer s H E) K CA (wxD E) (defBody s__law_owned) _ _ := wss_cons (ws_set (we_callP D__law_take noG (hr.mono (by decide)) tk (wa_cons (we_var (pv 0)) (wa_cons (we_int) (wa_nil))) B__law_take_2) (fun q => ps_set (i := 2) nd rfl (by first | exact Or.inl rfl | exact Or.inr rfl) q)) (wss_cons (ws_if (wt_cmp (op_eqU hr.units) sim_eq (we_var (pv 2)) (we_int) (by rfl)) (wss_one (ws_ret (we_tup (wa_nil)))) (wss_nil)) (wss_cons (ws_if (wt_cmp (op_eqU hr.units) sim_eq (we_var (pv 2)) (we_int) (by rfl)) (wss_one (ws_ret (we_tupR (we_var (pv 1)) T.z_tuple T.z_range))) (wss_nil)) (wss_one (ws_ret (we_cb sim_tupOf (wa_cons (we_lc false rfl nd (own := [("_law_cell", 3)]) (wi_rng1 (wa_cons (we_var (pv 1)) (wa_nil)) (fun a => pi_range1 (by rfl) T.z_range a)) (blkOk_by (N := ["_law_draw", "_law_most", "_law_way", "_law_cell"]) (sc := defScope s__law_owned) (by decide +kernel)) (fun s_ H_ C_ cl_ fp_ => wg_name (pg_name (i := 3) nd rfl (by first | exact Or.inl rfl | exact Or.inr rfl))) (fun s_ H_ C_ cl_ fp_ => wts_one (wt_cmp (op_eqU hr.units) sim_eq (we_callP D__law_take noG (hr.mono (by decide)) takes0 (wa_cons (we_var (pv 0)) (wa_cons (we_ifExp (wt_cmp op_lt sim_cB (we_var (pv 2)) (we_int) (by rfl)) (we_int) (we_int)) (wa_nil))) B__law_take_2) (we_int) (by rfl))) (fun s_ H_ C_ cl_ fp_ => we_var (pv 3)) (by decide)) (wa_nil)) (fun a => pe_callTy call_tupOf (by rfl) T.z_tuple boot_tupleU a))))))
  exact ⟨_, Y⟩
theorem sc__law_chain : FnScope ["_law_draw", "_law_least", "_law_most", "_law_cells", "_law_turn"] ["_law_draw", "_law_least", "_law_most"] (defScope s__law_chain) := ⟨rfl, rfl, rfl, by decide +kernel, rfl, by decide +kernel, by decide +kernel⟩
theorem ok__law_chain {f__law_pick : Addr} {fd__law_pick : FuncData} {f__law_take : Addr} {fd__law_take : FuncData} {f__law_owned : Addr} {fd__law_owned : FuncData} (F : Fun K "_law_chain" "_law_chain" s__law_chain f fd) (T : Txt mg) (Hx : ∀ c ∈ (xs0 : List Nat), PySem.W.exmOne K (.ref (CA c)) (.ref (CA 1)) = some true) (XE : ∀ c ∈ (xs0 : List Nat), ExcOk K (CA c)) (Xf : XFd K CA) (SMb : SM base) (C : Cst K CA mg) (Fl : Fld K CA) (Kt : KtOk K CA [0] kt0) (B__law_pick_2 : KwB K CA fd__law_pick ["_law_draw", "_law_some"] 2 [] (srcP 0 2)) (D__law_pick : Df P w K mg base CA "_law_pick" false 3 ["_law_draw", "_law_some"] F__law_pick f__law_pick fd__law_pick) (B__law_take_2 : KwB K CA fd__law_take ["_law_draw", "_law_size"] 2 [] (srcP 0 2)) (D__law_take : Df P w K mg base CA "_law_take" false 2 ["_law_draw", "_law_size"] F__law_take f__law_take fd__law_take) (B__law_owned_2 : KwB K CA fd__law_owned ["_law_draw", "_law_most"] 2 [] (srcP 0 2)) (D__law_owned : Df P w K mg base CA "_law_owned" false 3 ["_law_draw", "_law_most"] F__law_owned f__law_owned fd__law_owned) : FnG P w K mg base false 4 f fd ["_law_draw", "_law_least", "_law_most"] (spD K CA 3 (bodyF 5 u__law_chain)) := by
  have nd := (sc__law_chain).nd
  refine okD F sc__law_chain rfl rfl fun cd A outer s H E hg hr tk => ?_
  have Y : WSs (cxD P w K mg base ["_law_draw", "_law_least", "_law_most", "_law_cells", "_law_turn"] "_law_chain" s__law_chain f cd A outer s H E) K CA (wxD E) (defBody s__law_chain) _ _ := wss_cons (ws_set (we_callP D__law_pick noG (hr.mono (by decide)) tk (wa_cons (we_var (pv 0)) (wa_cons (we_lst false (wa_cons (we_int) (wa_cons (we_int) (wa_cons (we_int) (wa_cons (we_int) (wa_nil)))))) (wa_nil))) B__law_pick_2) (fun q => ps_set (i := 3) nd rfl (by first | exact Or.inl rfl | exact Or.inr rfl) q)) (wss_one (ws_ret (we_lc false rfl nd (own := [("_law_turn", 4)]) (wi_rng1 (wa_cons (we_op op_addU (sim_add (nm := false)) (we_var (pv 1)) (we_callP D__law_take noG (hr.mono (by decide)) tk (wa_cons (we_var (pv 0)) (wa_cons (we_op op_addU (sim_add (nm := false)) (we_op op_sub sim_subI (we_var (pv 2)) (we_var (pv 1))) (we_int)) (wa_nil))) B__law_take_2)) (wa_nil)) (fun a => pi_range1 (by rfl) T.z_range a)) (blkOk_by (N := ["_law_draw", "_law_least", "_law_most", "_law_cells", "_law_turn"]) (sc := defScope s__law_chain) (by decide +kernel)) (fun s_ H_ C_ cl_ fp_ => wg_name (pg_name (i := 4) nd rfl (by first | exact Or.inl rfl | exact Or.inr rfl))) (fun s_ H_ C_ cl_ fp_ => wts_nil) (fun s_ H_ C_ cl_ fp_ => we_callP D__law_owned noG (hr.mono (by decide)) takes0 (wa_cons (we_var (pv 0)) (wa_cons (we_var (pv 3)) (wa_nil))) B__law_owned_2) (by decide))))
  exact ⟨_, Y⟩
theorem sc__law_plan : FnScope ["_law_draw", "_law_first", "_law_last", "_law_middle", "_law_kind"] ["_law_draw", "_law_first", "_law_last"] (defScope s__law_plan) := ⟨rfl, rfl, rfl, by decide +kernel, rfl, by decide +kernel, by decide +kernel⟩
theorem ok__law_plan {f__law_take : Addr} {fd__law_take : FuncData} {f__law_pick : Addr} {fd__law_pick : FuncData} {f__law_plan : Addr} {fd__law_plan : FuncData} (j : Nat) {R_ : FD} (F : Fun K "_law_plan" "_law_plan" s__law_plan f fd) (T : Txt mg) (Hx : ∀ c ∈ (xs0 : List Nat), PySem.W.exmOne K (.ref (CA c)) (.ref (CA 1)) = some true) (XE : ∀ c ∈ (xs0 : List Nat), ExcOk K (CA c)) (Xf : XFd K CA) (SMb : SM base) (C : Cst K CA mg) (Fl : Fld K CA) (Kt : KtOk K CA [0] kt0) (B__law_take_2 : KwB K CA fd__law_take ["_law_draw", "_law_size"] 2 [] (srcP 0 2)) (D__law_take : Df P w K mg base CA "_law_take" false 2 ["_law_draw", "_law_size"] F__law_take f__law_take fd__law_take) (B__law_pick_2 : KwB K CA fd__law_pick ["_law_draw", "_law_some"] 2 [] (srcP 0 2)) (D__law_pick : Df P w K mg base CA "_law_pick" false 3 ["_law_draw", "_law_some"] F__law_pick f__law_pick fd__law_pick) (B__law_plan_3 : KwB K CA fd__law_plan ["_law_draw", "_law_first", "_law_last"] 3 [] (srcP 0 3)) (D__law_plan : Df P w K mg base CA "_law_plan" false (3 + j) ["_law_draw", "_law_first", "_law_last"] R_ f__law_plan fd__law_plan) : FnG P w K mg base false (3 + j + 1) f fd ["_law_draw", "_law_first", "_law_last"] (spD K CA 3 (bodyF 5 (u__law_plan R_))) := by
  have nd := (sc__law_plan).nd
  refine okD F sc__law_plan rfl rfl fun cd A outer s H E hg hr tk => ?_
  have Y : WSs (cxD P w K mg base ["_law_draw", "_law_first", "_law_last", "_law_middle", "_law_kind"] "_law_plan" s__law_plan f cd A outer s H E) K CA (wxD E) (defBody s__law_plan) _ _ := wss_cons (ws_if (wt_cmp (op_eqU hr.units) sim_eq (we_var (pv 1)) (we_var (pv 2)) (by rfl)) (wss_one (ws_ret (we_var (pv 1)))) (wss_nil)) (wss_cons (ws_set (we_op op_addU (sim_add (nm := false)) (we_var (pv 1)) (we_callP D__law_take noG (hr.mono (by omega)) tk (wa_cons (we_var (pv 0)) (wa_cons (we_op op_sub sim_subI (we_var (pv 2)) (we_var (pv 1))) (wa_nil))) B__law_take_2)) (fun q => ps_set (i := 3) nd rfl (by first | exact Or.inl rfl | exact Or.inr rfl) q)) (wss_cons (ws_set (we_callP D__law_pick noG (hr.mono (by omega)) tk (wa_cons (we_var (pv 0)) (wa_cons (we_lst false (wa_cons (we_str) (wa_cons (we_str) (wa_nil)))) (wa_nil))) B__law_pick_2) (fun q => ps_set (i := 4) nd rfl (by first | exact Or.inl rfl | exact Or.inr rfl) q)) (wss_one (ws_ret (we_tup (wa_cons (we_var (pv 4)) (wa_cons (we_callP D__law_plan noG (hr.mono (by omega)) tk (wa_cons (we_var (pv 0)) (wa_cons (we_var (pv 1)) (wa_cons (we_var (pv 3)) (wa_nil)))) B__law_plan_3) (wa_cons (we_callP D__law_plan noG (hr.mono (by omega)) tk (wa_cons (we_var (pv 0)) (wa_cons (we_op op_addU (sim_add (nm := false)) (we_var (pv 3)) (we_int)) (wa_cons (we_var (pv 2)) (wa_nil)))) B__law_plan_3) (wa_nil)))))))))
  exact ⟨_, Y⟩
theorem sc__law_is_cell : FnScope ["_law_thing_here"] ["_law_thing_here"] (defScope s__law_is_cell) := ⟨rfl, rfl, rfl, by decide +kernel, rfl, by decide +kernel, by decide +kernel⟩
theorem ok__law_is_cell  (F : Fun K "_law_is_cell" "_law_is_cell" s__law_is_cell f fd) (T : Txt mg) (Hx : ∀ c ∈ (xs0 : List Nat), PySem.W.exmOne K (.ref (CA c)) (.ref (CA 1)) = some true) (XE : ∀ c ∈ (xs0 : List Nat), ExcOk K (CA c)) (Xf : XFd K CA) (SMb : SM base) (C : Cst K CA mg) (Fl : Fld K CA) (Kt : KtOk K CA [0] kt0)  : FnG P w K mg base false 1 f fd ["_law_thing_here"] (spD K CA 1 (bodyF 1 u__law_is_cell)) := by
  have nd := (sc__law_is_cell).nd
  refine okD F sc__law_is_cell rfl rfl fun cd A outer s H E hg hr tk => ?_
  have Y : WSs (cxD P w K mg base ["_law_thing_here"] "_law_is_cell" s__law_is_cell f cd A outer s H E) K CA (wxD E) (defBody s__law_is_cell) _ _ := wss_one (ws_ret (we_and (we_cb (sim_isX (fun c hc => (XE c hc).toXkC) Kt) (wa_cons (we_var (pv 0)) (wa_cons (we_ty (pe_bltn (by rfl) T.z_int boot_intU rfl)) (wa_nil))) (fun a => pe_callB call_isX (by rfl) T.z_isinstance boot_isinstanceU a)) (we_and (we_not (we_cb (sim_isX (fun c hc => (XE c hc).toXkC) Kt) (wa_cons (we_var (pv 0)) (wa_cons (we_ty (pe_bltn (by rfl) T.z_bool boot_boolU rfl)) (wa_nil))) (fun a => pe_callB call_isX (by rfl) T.z_isinstance boot_isinstanceU a))) (we_one (we_cmp op_ge sim_cB (we_var (pv 0)) (we_int) (by rfl))))))
  exact ⟨_, Y⟩
theorem sc__law_is_chain : FnScope ["_law_thing_here", "_law_owned_here", "_law_cell"] ["_law_thing_here"] (defScope s__law_is_chain) := ⟨rfl, rfl, rfl, by decide +kernel, rfl, by decide +kernel, by decide +kernel⟩
theorem ok__law_is_chain {f__law_is_cell : Addr} {fd__law_is_cell : FuncData} (F : Fun K "_law_is_chain" "_law_is_chain" s__law_is_chain f fd) (T : Txt mg) (Hx : ∀ c ∈ (xs0 : List Nat), PySem.W.exmOne K (.ref (CA c)) (.ref (CA 1)) = some true) (XE : ∀ c ∈ (xs0 : List Nat), ExcOk K (CA c)) (Xf : XFd K CA) (SMb : SM base) (C : Cst K CA mg) (Fl : Fld K CA) (Kt : KtOk K CA [0] kt0) (B__law_is_cell_1 : KwB K CA fd__law_is_cell ["_law_thing_here"] 1 [] (srcP 0 1)) (D__law_is_cell : Df P w K mg base CA "_law_is_cell" false 1 ["_law_thing_here"] F__law_is_cell f__law_is_cell fd__law_is_cell) : FnG P w K mg base false 2 f fd ["_law_thing_here"] (spD K CA 1 (bodyF 3 u__law_is_chain)) := by
  have nd := (sc__law_is_chain).nd
  refine okD F sc__law_is_chain rfl rfl fun cd A outer s H E hg hr tk => ?_
  have Y : WSs (cxD P w K mg base ["_law_thing_here", "_law_owned_here", "_law_cell"] "_law_is_chain" s__law_is_chain f cd A outer s H E) K CA (wxD E) (defBody s__law_is_chain) _ _ := wss_cons (ws_if (CM.WW.wt (ww_or (wt_not (wt_val (we_cb (sim_isT Kt) (wa_cons (we_var (pv 0)) (wa_cons (we_tup (wa_cons (we_ty (pe_bltn (by rfl) T.z_list boot_listU rfl)) (wa_cons (we_ty (pe_bltn (by rfl) T.z_tuple boot_tupleU rfl)) (wa_nil)))) (wa_nil))) (fun a => pe_callB call_isiTU (by rfl) T.z_isinstance boot_isinstanceU a)))) (ww_or1 (wt_not (wt_chain sim_cB sim_cB (we_int) (we_cb sim_len (wa_cons (we_var (pv 0)) (wa_nil)) (fun a => pe_callB (call_lenU rfl call_lenRd) (by rfl) T.z_len boot_lenU a)) (we_int) (fun a b c => pt_chain op_le op_le a b c)))))) (wss_one (ws_ret (we_bl))) (wss_nil)) (wss_cons (ws_for (wi_seq (we_var (pv 0))) (wg_name (pg_name (i := 1) nd rfl (by first | exact Or.inl rfl | exact Or.inr rfl))) (wss_cons (ws_if (CM.WW.wt (ww_or (wt_not (wt_val (we_cb (sim_isX (fun c hc => (XE c hc).toXkC) Kt) (wa_cons (we_var (pv 1)) (wa_cons (we_ty (pe_bltn (by rfl) T.z_tuple boot_tupleU rfl)) (wa_nil))) (fun a => pe_callB call_isX (by rfl) T.z_isinstance boot_isinstanceU a)))) (ww_or1 (wt_cmp (op_neL hr.units) sim_neL (we_lc false rfl nd (own := [("_law_cell", 2)]) (wi_seq (we_var (pv 1))) (blkOk_by (N := ["_law_thing_here", "_law_owned_here", "_law_cell"]) (sc := defScope s__law_is_chain) (by decide +kernel)) (fun s_ H_ C_ cl_ fp_ => wg_name (pg_name (i := 2) nd rfl (by first | exact Or.inl rfl | exact Or.inr rfl))) (fun s_ H_ C_ cl_ fp_ => wts_one (wt_not (wt_val (we_callP D__law_is_cell noG (hr.mono (by decide)) takes0 (wa_cons (we_var (pv 2)) (wa_nil)) B__law_is_cell_1)))) (fun s_ H_ C_ cl_ fp_ => we_var (pv 2)) (by decide)) (we_lst false (wa_nil)) (by rfl))))) (wss_one (ws_ret (we_bl))) (wss_nil)) (wss_one (ws_if (wt_cmp (op_neU hr.units) sim_ne (we_cb (sim_listOf (nm := false)) (wa_cons (we_var (pv 1)) (wa_nil)) (fun a => pe_callTy call_listOf (by rfl) T.z_list boot_listU a)) (we_sortSet false (we_var (pv 1)) T.z_sorted T.z_set) (by rfl)) (wss_one (ws_ret (we_bl))) (wss_nil)))) (fun i g b => ps_for (passes_of rfl) rfl i g b)) (wss_one (ws_ret (we_bl))))
  exact ⟨_, Y⟩
theorem sc__law_is_great : FnScope ["_law_rows", "_law_owned_here"] ["_law_rows"] (defScope s__law_is_great) := ⟨rfl, rfl, rfl, by decide +kernel, rfl, by decide +kernel, by decide +kernel⟩
theorem ok__law_is_great {f__law_is_chain : Addr} {fd__law_is_chain : FuncData} (F : Fun K "_law_is_great" "_law_is_great" s__law_is_great f fd) (T : Txt mg) (Hx : ∀ c ∈ (xs0 : List Nat), PySem.W.exmOne K (.ref (CA c)) (.ref (CA 1)) = some true) (XE : ∀ c ∈ (xs0 : List Nat), ExcOk K (CA c)) (Xf : XFd K CA) (SMb : SM base) (C : Cst K CA mg) (Fl : Fld K CA) (Kt : KtOk K CA [0] kt0) (B__law_is_chain_1 : KwB K CA fd__law_is_chain ["_law_thing_here"] 1 [] (srcP 0 1)) (D__law_is_chain : Df P w K mg base CA "_law_is_chain" false 2 ["_law_thing_here"] F__law_is_chain f__law_is_chain fd__law_is_chain) : FnG P w K mg base false 3 f fd ["_law_rows"] (spD K CA 1 (bodyF 2 u__law_is_great)) := by
  have nd := (sc__law_is_great).nd
  refine okD F sc__law_is_great rfl rfl fun cd A outer s H E hg hr tk => ?_
  have Y : WSs (cxD P w K mg base ["_law_rows", "_law_owned_here"] "_law_is_great" s__law_is_great f cd A outer s H E) K CA (wxD E) (defBody s__law_is_great) _ _ := wss_one (ws_ret (we_and (we_callP D__law_is_chain noG (hr.mono (by decide)) tk (wa_cons (we_var (pv 0)) (wa_nil)) B__law_is_chain_1) (we_one (we_cmp (op_neL hr.units) sim_neL (we_lc false rfl nd (own := [("_law_owned_here", 1)]) (wi_seq (we_var (pv 0))) (blkOk_by (N := ["_law_rows", "_law_owned_here"]) (sc := defScope s__law_is_great) (by decide +kernel)) (fun s_ H_ C_ cl_ fp_ => wg_name (pg_name (i := 1) nd rfl (by first | exact Or.inl rfl | exact Or.inr rfl))) (fun s_ H_ C_ cl_ fp_ => wts_one (wt_cmp op_gt sim_cB (we_cb sim_maxS (wa_cons (we_op op_addA (sim_addA (nm := false)) (we_var (pv 1)) (we_tup (wa_cons (we_int) (wa_nil)))) (wa_nil)) (fun a => pe_callB call_maxS (by rfl) T.z_max boot_maxU a)) (we_int) (by rfl))) (fun s_ H_ C_ cl_ fp_ => we_var (pv 1)) (by decide)) (we_lst false (wa_nil)) (by rfl)))))
  exact ⟨_, Y⟩
theorem sc__law_span : FnScope ["_law_thing_here", "_law_lower", "_law_upper"] ["_law_thing_here"] (defScope s__law_span) := ⟨rfl, rfl, rfl, by decide +kernel, rfl, by decide +kernel, by decide +kernel⟩
theorem ok__law_span {f__law_is_cell : Addr} {fd__law_is_cell : FuncData} {f__law_span : Addr} {fd__law_span : FuncData} (j : Nat) {R_ : FD} (F : Fun K "_law_span" "_law_span" s__law_span f fd) (T : Txt mg) (Hx : ∀ c ∈ (xs0 : List Nat), PySem.W.exmOne K (.ref (CA c)) (.ref (CA 1)) = some true) (XE : ∀ c ∈ (xs0 : List Nat), ExcOk K (CA c)) (Xf : XFd K CA) (SMb : SM base) (C : Cst K CA mg) (Fl : Fld K CA) (Kt : KtOk K CA [0] kt0) (B__law_is_cell_1 : KwB K CA fd__law_is_cell ["_law_thing_here"] 1 [] (srcP 0 1)) (D__law_is_cell : Df P w K mg base CA "_law_is_cell" false 1 ["_law_thing_here"] F__law_is_cell f__law_is_cell fd__law_is_cell) (B__law_span_1 : KwB K CA fd__law_span ["_law_thing_here"] 1 [] (srcP 0 1)) (D__law_span : Df P w K mg base CA "_law_span" false (1 + j) ["_law_thing_here"] R_ f__law_span fd__law_span) : FnG P w K mg base false (1 + j + 1) f fd ["_law_thing_here"] (spD K CA 1 (bodyF 3 (u__law_span R_))) := by
  have nd := (sc__law_span).nd
  refine okD F sc__law_span rfl rfl fun cd A outer s H E hg hr tk => ?_
  have Y : WSs (cxD P w K mg base ["_law_thing_here", "_law_lower", "_law_upper"] "_law_span" s__law_span f cd A outer s H E) K CA (wxD E) (defBody s__law_span) _ _ := wss_cons (ws_if (wt_val (we_callP D__law_is_cell noG (hr.mono (by omega)) tk (wa_cons (we_var (pv 0)) (wa_nil)) B__law_is_cell_1)) (wss_one (ws_ret (we_lst false (wa_cons (we_var (pv 0)) (wa_nil))))) (wss_nil)) (wss_cons (ws_if (CM.WW.wt (ww_or (wt_not (wt_val (we_cb (sim_isX (fun c hc => (XE c hc).toXkC) Kt) (wa_cons (we_var (pv 0)) (wa_cons (we_ty (pe_bltn (by rfl) T.z_tuple boot_tupleU rfl)) (wa_nil))) (fun a => pe_callB call_isX (by rfl) T.z_isinstance boot_isinstanceU a)))) (ww_or (wt_cmp (op_neU hr.units) sim_ne (we_cb sim_len (wa_cons (we_var (pv 0)) (wa_nil)) (fun a => pe_callB (call_lenU rfl call_lenRd) (by rfl) T.z_len boot_lenU a)) (we_int) (by rfl)) (ww_or1 (wt_not (wt_val (we_cb (sim_isX (fun c hc => (XE c hc).toXkC) Kt) (wa_cons (we_ix (ixU (hu_of hr)) sim_ix (we_var (pv 0)) (we_int)) (wa_cons (we_ty (pe_bltn (by rfl) T.z_str boot_strU rfl)) (wa_nil))) (fun a => pe_callB call_isX (by rfl) T.z_isinstance boot_isinstanceU a)))))))) (wss_one (ws_ret (we_non))) (wss_nil)) (wss_cons (ws_par (wa_cons (we_callP D__law_span noG (hr.mono (by omega)) tk (wa_cons (we_ix (ixU (hu_of hr)) sim_ix (we_var (pv 0)) (we_int)) (wa_nil)) B__law_span_1) (wa_cons (we_callP D__law_span noG (hr.mono (by omega)) tk (wa_cons (we_ix (ixU (hu_of hr)) sim_ix (we_var (pv 0)) (we_int)) (wa_nil)) B__law_span_1) (wa_nil))) (fun q => ps_par (i := 1) (j := 2) rfl nd rfl rfl (by decide) rfl rfl q (by rfl))) (wss_cons (ws_if (CM.WW.wt (ww_or (wt_cmp (op_notInU (hu_of hr)) (sim_in (neg := true)) (we_ix (ixU (hu_of hr)) sim_ix (we_var (pv 0)) (we_int)) (we_tup (wa_cons (we_str) (wa_cons (we_str) (wa_nil)))) (by rfl)) (ww_or (wt_cmp op_isN sim_isN (we_var (pv 1)) (we_non) (by rfl)) (ww_or1 (wt_cmp op_isN sim_isN (we_var (pv 2)) (we_non) (by rfl)))))) (wss_one (ws_ret (we_non))) (wss_nil)) (wss_one (ws_ret (we_op op_addU (sim_add (nm := false)) (we_var (pv 1)) (we_var (pv 2))))))))
  exact ⟨_, Y⟩
theorem sc_is_cell : FnScope ["thing"] ["thing"] (defScope s_is_cell) := ⟨rfl, rfl, rfl, by decide +kernel, rfl, by decide +kernel, by decide +kernel⟩
theorem ok_is_cell  (F : Fun K "is_cell" "is_cell" s_is_cell f fd) (T : Txt mg) (Hx : ∀ c ∈ (xs0 : List Nat), PySem.W.exmOne K (.ref (CA c)) (.ref (CA 1)) = some true) (XE : ∀ c ∈ (xs0 : List Nat), ExcOk K (CA c)) (Xf : XFd K CA) (SMb : SM base) (C : Cst K CA mg) (Fl : Fld K CA) (Kt : KtOk K CA [0] kt0)  : FnG P w K mg base false 1 f fd ["thing"] (spD K CA 1 (bodyF 1 u_is_cell)) := by
  have nd := (sc_is_cell).nd
  refine okD F sc_is_cell rfl rfl fun cd A outer s H E hg hr tk => ?_
  have Y : WSs (cxD P w K mg base ["thing"] "is_cell" s_is_cell f cd A outer s H E) K CA (wxD E) (defBody s_is_cell) _ _ := wss_one (ws_ret (we_and (we_cb (sim_isX (fun c hc => (XE c hc).toXkC) Kt) (wa_cons (we_var (pv 0)) (wa_cons (we_ty (pe_bltn (by rfl) T.z_int boot_intU rfl)) (wa_nil))) (fun a => pe_callB call_isX (by rfl) T.z_isinstance boot_isinstanceU a)) (we_and (we_not (we_cb (sim_isX (fun c hc => (XE c hc).toXkC) Kt) (wa_cons (we_var (pv 0)) (wa_cons (we_ty (pe_bltn (by rfl) T.z_bool boot_boolU rfl)) (wa_nil))) (fun a => pe_callB call_isX (by rfl) T.z_isinstance boot_isinstanceU a))) (we_one (we_cmp op_ge sim_cB (we_var (pv 0)) (we_int) (by rfl))))))
  exact ⟨_, Y⟩
theorem sc_is_owned : FnScope ["thing", "cell"] ["thing"] (defScope s_is_owned) := ⟨rfl, rfl, rfl, by decide +kernel, rfl, by decide +kernel, by decide +kernel⟩
theorem ok_is_owned {f_is_cell : Addr} {fd_is_cell : FuncData} (F : Fun K "is_owned" "is_owned" s_is_owned f fd) (T : Txt mg) (Hx : ∀ c ∈ (xs0 : List Nat), PySem.W.exmOne K (.ref (CA c)) (.ref (CA 1)) = some true) (XE : ∀ c ∈ (xs0 : List Nat), ExcOk K (CA c)) (Xf : XFd K CA) (SMb : SM base) (C : Cst K CA mg) (Fl : Fld K CA) (Kt : KtOk K CA [0] kt0) (B_is_cell_1 : KwB K CA fd_is_cell ["thing"] 1 [] (srcP 0 1)) (D_is_cell : Df P w K mg base CA "is_cell" false 1 ["thing"] F_is_cell f_is_cell fd_is_cell) : FnG P w K mg base false 2 f fd ["thing"] (spD K CA 1 (bodyF 2 u_is_owned)) := by
  have nd := (sc_is_owned).nd
  refine okD F sc_is_owned rfl rfl fun cd A outer s H E hg hr tk => ?_
  have Y : WSs (cxD P w K mg base ["thing", "cell"] "is_owned" s_is_owned f cd A outer s H E) K CA (wxD E) (defBody s_is_owned) _ _ := wss_cons (ws_if (CM.WW.wt (ww_or (wt_not (wt_val (we_cb (sim_isX (fun c hc => (XE c hc).toXkC) Kt) (wa_cons (we_var (pv 0)) (wa_cons (we_ty (pe_bltn (by rfl) T.z_tuple boot_tupleU rfl)) (wa_nil))) (fun a => pe_callB call_isX (by rfl) T.z_isinstance boot_isinstanceU a)))) (ww_or1 (wt_not (wt_val (we_cb sim_all (wa_cons (we_lc false rfl nd (own := [("cell", 1)]) (wi_seq (we_var (pv 0))) (blkOk_by (N := ["thing", "cell"]) (sc := defScope s_is_owned) (by decide +kernel)) (fun s_ H_ C_ cl_ fp_ => wg_name (pg_name (i := 1) nd rfl (by first | exact Or.inl rfl | exact Or.inr rfl))) (fun s_ H_ C_ cl_ fp_ => wts_nil) (fun s_ H_ C_ cl_ fp_ => we_callP D_is_cell noG (hr.mono (by decide)) takes0 (wa_cons (we_var (pv 1)) (wa_nil)) B_is_cell_1) (by decide)) (wa_nil)) (fun a => pe_callB call_allU (by rfl) T.z_all boot_allU a))))))) (wss_one (ws_ret (we_bl))) (wss_nil)) (wss_one (ws_ret (we_cmp (op_eqU hr.units) sim_eq (we_cb (sim_listOf (nm := false)) (wa_cons (we_var (pv 0)) (wa_nil)) (fun a => pe_callTy call_listOf (by rfl) T.z_list boot_listU a)) (we_sortSet false (we_var (pv 0)) T.z_sorted T.z_set) (by rfl))))
  exact ⟨_, Y⟩
theorem sc_need_chain : FnScope ["chain", "owned"] ["chain"] (defScope s_need_chain) := ⟨rfl, rfl, rfl, by decide +kernel, rfl, by decide +kernel, by decide +kernel⟩
theorem ok_need_chain {f_is_owned : Addr} {fd_is_owned : FuncData} (F : Fun K "need_chain" "need_chain" s_need_chain f fd) (T : Txt mg) (Hx : ∀ c ∈ (xs0 : List Nat), PySem.W.exmOne K (.ref (CA c)) (.ref (CA 1)) = some true) (XE : ∀ c ∈ (xs0 : List Nat), ExcOk K (CA c)) (Xf : XFd K CA) (SMb : SM base) (C : Cst K CA mg) (Fl : Fld K CA) (Kt : KtOk K CA [0] kt0) (Y_BadChain : Xmo K mg (CA 6) "BadChain") (B_is_owned_1 : KwB K CA fd_is_owned ["thing"] 1 [] (srcP 0 1)) (D_is_owned : Df P w K mg base CA "is_owned" false 2 ["thing"] F_is_owned f_is_owned fd_is_owned) : FnG P w K mg base false 3 f fd ["chain"] (spD K CA 1 (bodyF 2 u_need_chain)) := by
  have nd := (sc_need_chain).nd
  refine okD F sc_need_chain rfl rfl fun cd A outer s H E hg hr tk => ?_
  have Y : WSs (cxD P w K mg base ["chain", "owned"] "need_chain" s_need_chain f cd A outer s H E) K CA (wxD E) (defBody s_need_chain) _ _ := wss_cons (ws_if (CM.WW.wt (ww_or (wt_not (wt_val (we_cb (sim_isT Kt) (wa_cons (we_var (pv 0)) (wa_cons (we_tup (wa_cons (we_ty (pe_bltn (by rfl) T.z_list boot_listU rfl)) (wa_cons (we_ty (pe_bltn (by rfl) T.z_tuple boot_tupleU rfl)) (wa_nil)))) (wa_nil))) (fun a => pe_callB call_isiTU (by rfl) T.z_isinstance boot_isinstanceU a)))) (ww_or1 (wt_not (wt_chain sim_cB sim_cB (we_int) (we_cb sim_len (wa_cons (we_var (pv 0)) (wa_nil)) (fun a => pe_callB (call_lenU rfl call_lenRd) (by rfl) T.z_len boot_lenU a)) (we_gv C.g_MOST_LAYERS) (fun a b c => pt_chain op_le op_le a b c)))))) (wss_one (ws_raise0 Y_BadChain (XE 6 (by decide)) tk)) (wss_nil)) (wss_one (ws_if (wt_not (wt_val (we_cb sim_all (wa_cons (we_lc false rfl nd (own := [("owned", 1)]) (wi_seq (we_var (pv 0))) (blkOk_by (N := ["chain", "owned"]) (sc := defScope s_need_chain) (by decide +kernel)) (fun s_ H_ C_ cl_ fp_ => wg_name (pg_name (i := 1) nd rfl (by first | exact Or.inl rfl | exact Or.inr rfl))) (fun s_ H_ C_ cl_ fp_ => wts_nil) (fun s_ H_ C_ cl_ fp_ => we_callP D_is_owned noG (hr.mono (by decide)) takes0 (wa_cons (we_var (pv 1)) (wa_nil)) B_is_owned_1) (by decide)) (wa_nil)) (fun a => pe_callB call_allU (by rfl) T.z_all boot_allU a)))) (wss_one (ws_raise0 Y_BadChain (XE 6 (by decide)) tk)) (wss_nil)))
  exact ⟨_, Y⟩
theorem sc_span_of : FnScope ["many", "thing", "lower", "upper"] ["many", "thing"] (defScope s_span_of) := ⟨rfl, rfl, rfl, by decide +kernel, rfl, by decide +kernel, by decide +kernel⟩
theorem ok_span_of {f_is_cell : Addr} {fd_is_cell : FuncData} {f_span_of : Addr} {fd_span_of : FuncData} (j : Nat) {R_ : FD} (F : Fun K "span_of" "span_of" s_span_of f fd) (T : Txt mg) (Hx : ∀ c ∈ (xs0 : List Nat), PySem.W.exmOne K (.ref (CA c)) (.ref (CA 1)) = some true) (XE : ∀ c ∈ (xs0 : List Nat), ExcOk K (CA c)) (Xf : XFd K CA) (SMb : SM base) (C : Cst K CA mg) (Fl : Fld K CA) (Kt : KtOk K CA [0] kt0) (B_is_cell_1 : KwB K CA fd_is_cell ["thing"] 1 [] (srcP 0 1)) (D_is_cell : Df P w K mg base CA "is_cell" false 1 ["thing"] F_is_cell f_is_cell fd_is_cell) (B_span_of_2 : KwB K CA fd_span_of ["many", "thing"] 2 [] (srcP 0 2)) (D_span_of : Df P w K mg base CA "span_of" false (1 + j) ["many", "thing"] R_ f_span_of fd_span_of) : FnG P w K mg base false (1 + j + 1) f fd ["many", "thing"] (spD K CA 2 (bodyF 4 (u_span_of R_))) := by
  have nd := (sc_span_of).nd
  refine okD F sc_span_of rfl rfl fun cd A outer s H E hg hr tk => ?_
  have Y : WSs (cxD P w K mg base ["many", "thing", "lower", "upper"] "span_of" s_span_of f cd A outer s H E) K CA (wxD E) (defBody s_span_of) _ _ := wss_cons (ws_if (wt_val (we_callP D_is_cell noG (hr.mono (by omega)) tk (wa_cons (we_var (pv 1)) (wa_nil)) B_is_cell_1)) (wss_one (ws_ret (we_ifExp (wt_cmp op_lt sim_cB (we_var (pv 1)) (we_var (pv 0)) (by rfl)) (we_tup (wa_cons (we_var (pv 1)) (wa_cons (we_var (pv 1)) (wa_nil)))) (we_non)))) (wss_nil)) (wss_cons (ws_if (CM.WW.wt (ww_or (wt_not (wt_val (we_cb (sim_isX (fun c hc => (XE c hc).toXkC) Kt) (wa_cons (we_var (pv 1)) (wa_cons (we_ty (pe_bltn (by rfl) T.z_tuple boot_tupleU rfl)) (wa_nil))) (fun a => pe_callB call_isX (by rfl) T.z_isinstance boot_isinstanceU a)))) (ww_or (wt_cmp (op_neU hr.units) sim_ne (we_cb sim_len (wa_cons (we_var (pv 1)) (wa_nil)) (fun a => pe_callB (call_lenU rfl call_lenRd) (by rfl) T.z_len boot_lenU a)) (we_int) (by rfl)) (ww_or (wt_not (wt_val (we_cb (sim_isX (fun c hc => (XE c hc).toXkC) Kt) (wa_cons (we_ix (ixU (hu_of hr)) sim_ix (we_var (pv 1)) (we_int)) (wa_cons (we_ty (pe_bltn (by rfl) T.z_str boot_strU rfl)) (wa_nil))) (fun a => pe_callB call_isX (by rfl) T.z_isinstance boot_isinstanceU a)))) (ww_or1 (wt_cmp (op_notInU (hu_of hr)) (sim_in (neg := true)) (we_ix (ixU (hu_of hr)) sim_ix (we_var (pv 1)) (we_int)) (we_gv C.g_KINDS) (by rfl))))))) (wss_one (ws_ret (we_non))) (wss_nil)) (wss_cons (ws_par (wa_cons (we_callP D_span_of noG (hr.mono (by omega)) tk (wa_cons (we_var (pv 0)) (wa_cons (we_ix (ixU (hu_of hr)) sim_ix (we_var (pv 1)) (we_int)) (wa_nil))) B_span_of_2) (wa_cons (we_callP D_span_of noG (hr.mono (by omega)) tk (wa_cons (we_var (pv 0)) (wa_cons (we_ix (ixU (hu_of hr)) sim_ix (we_var (pv 1)) (we_int)) (wa_nil))) B_span_of_2) (wa_nil))) (fun q => ps_par (i := 2) (j := 3) rfl nd rfl rfl (by decide) rfl rfl q (by rfl))) (wss_cons (ws_if (CM.WW.wt (ww_or (wt_cmp op_isN sim_isN (we_var (pv 2)) (we_non) (by rfl)) (ww_or (wt_cmp op_isN sim_isN (we_var (pv 3)) (we_non) (by rfl)) (ww_or1 (wt_cmp (op_neU hr.units) sim_ne (we_op op_addU (sim_add (nm := false)) (we_ix (ixU (hu_of hr)) sim_ix (we_var (pv 2)) (we_int)) (we_int)) (we_ix (ixU (hu_of hr)) sim_ix (we_var (pv 3)) (we_int)) (by rfl)))))) (wss_one (ws_ret (we_non))) (wss_nil)) (wss_one (ws_ret (we_tup (wa_cons (we_ix (ixU (hu_of hr)) sim_ix (we_var (pv 2)) (we_int)) (wa_cons (we_ix (ixU (hu_of hr)) sim_ix (we_var (pv 3)) (we_int)) (wa_nil)))))))))
  exact ⟨_, Y⟩
theorem sc_is_plan : FnScope ["chain", "thing"] ["chain", "thing"] (defScope s_is_plan) := ⟨rfl, rfl, rfl, by decide +kernel, rfl, by decide +kernel, by decide +kernel⟩
theorem ok_is_plan {f_need_chain : Addr} {fd_need_chain : FuncData} {f_span_of : Addr} {fd_span_of : FuncData} (F : Fun K "is_plan" "is_plan" s_is_plan f fd) (T : Txt mg) (Hx : ∀ c ∈ (xs0 : List Nat), PySem.W.exmOne K (.ref (CA c)) (.ref (CA 1)) = some true) (XE : ∀ c ∈ (xs0 : List Nat), ExcOk K (CA c)) (Xf : XFd K CA) (SMb : SM base) (C : Cst K CA mg) (Fl : Fld K CA) (Kt : KtOk K CA [0] kt0) (B_need_chain_1 : KwB K CA fd_need_chain ["chain"] 1 [] (srcP 0 1)) (D_need_chain : Df P w K mg base CA "need_chain" false 3 ["chain"] F_need_chain f_need_chain fd_need_chain) (B_span_of_2 : KwB K CA fd_span_of ["many", "thing"] 2 [] (srcP 0 2)) (D_span_of : Df P w K mg base CA "span_of" false 31 ["many", "thing"] F_span_of f_span_of fd_span_of) : FnG P w K mg base false 32 f fd ["chain", "thing"] (spD K CA 2 (bodyF 2 u_is_plan)) := by
  have nd := (sc_is_plan).nd
  refine okD F sc_is_plan rfl rfl fun cd A outer s H E hg hr tk => ?_
  have Y : WSs (cxD P w K mg base ["chain", "thing"] "is_plan" s_is_plan f cd A outer s H E) K CA (wxD E) (defBody s_is_plan) _ _ := wss_cons (ws_expr (we_callP D_need_chain noG (hr.mono (by decide)) tk (wa_cons (we_var (pv 0)) (wa_nil)) B_need_chain_1)) (wss_one (ws_ret (we_cmp (op_eqU hr.units) sim_eq (we_callP D_span_of noG (hr.mono (by decide)) tk (wa_cons (we_cb sim_len (wa_cons (we_var (pv 0)) (wa_nil)) (fun a => pe_callB (call_lenU rfl call_lenRd) (by rfl) T.z_len boot_lenU a)) (wa_cons (we_var (pv 1)) (wa_nil))) B_span_of_2) (we_tup (wa_cons (we_int) (wa_cons (we_op op_sub sim_subI (we_cb sim_len (wa_cons (we_var (pv 0)) (wa_nil)) (fun a => pe_callB (call_lenU rfl call_lenRd) (by rfl) T.z_len boot_lenU a)) (we_int)) (wa_nil)))) (by rfl))))
  exact ⟨_, Y⟩
theorem sc_need_plan : FnScope ["chain", "plan"] ["chain", "plan"] (defScope s_need_plan) := ⟨rfl, rfl, rfl, by decide +kernel, rfl, by decide +kernel, by decide +kernel⟩
theorem ok_need_plan {f_is_plan : Addr} {fd_is_plan : FuncData} (F : Fun K "need_plan" "need_plan" s_need_plan f fd) (T : Txt mg) (Hx : ∀ c ∈ (xs0 : List Nat), PySem.W.exmOne K (.ref (CA c)) (.ref (CA 1)) = some true) (XE : ∀ c ∈ (xs0 : List Nat), ExcOk K (CA c)) (Xf : XFd K CA) (SMb : SM base) (C : Cst K CA mg) (Fl : Fld K CA) (Kt : KtOk K CA [0] kt0) (B_is_plan_2 : KwB K CA fd_is_plan ["chain", "thing"] 2 [] (srcP 0 2)) (D_is_plan : Df P w K mg base CA "is_plan" false 32 ["chain", "thing"] F_is_plan f_is_plan fd_is_plan) (Y_BadPlan : Xmo K mg (CA 5) "BadPlan") : FnG P w K mg base false 33 f fd ["chain", "plan"] (spD K CA 2 (bodyF 2 u_need_plan)) := by
  have nd := (sc_need_plan).nd
  refine okD F sc_need_plan rfl rfl fun cd A outer s H E hg hr tk => ?_
  have Y : WSs (cxD P w K mg base ["chain", "plan"] "need_plan" s_need_plan f cd A outer s H E) K CA (wxD E) (defBody s_need_plan) _ _ := wss_one (ws_if (wt_not (wt_val (we_callP D_is_plan noG (hr.mono (by decide)) tk (wa_cons (we_var (pv 0)) (wa_cons (we_var (pv 1)) (wa_nil))) B_is_plan_2))) (wss_one (ws_raise0 Y_BadPlan (XE 5 (by decide)) tk)) (wss_nil))
  exact ⟨_, Y⟩
theorem sc_copied : FnScope ["kind", "lower", "upper", "cell"] ["kind", "lower", "upper"] (defScope s_copied) := ⟨rfl, rfl, rfl, by decide +kernel, rfl, by decide +kernel, by decide +kernel⟩
theorem ok_copied  (F : Fun K "copied" "copied" s_copied f fd) (T : Txt mg) (Hx : ∀ c ∈ (xs0 : List Nat), PySem.W.exmOne K (.ref (CA c)) (.ref (CA 1)) = some true) (XE : ∀ c ∈ (xs0 : List Nat), ExcOk K (CA c)) (Xf : XFd K CA) (SMb : SM base) (C : Cst K CA mg) (Fl : Fld K CA) (Kt : KtOk K CA [0] kt0)  : FnG P w K mg base false 1 f fd ["kind", "lower", "upper"] (spD K CA 3 (bodyF 4 u_copied)) := by
  have nd := (sc_copied).nd
  refine okD F sc_copied rfl rfl fun cd A outer s H E hg hr tk => ?_
  have Y : WSs (cxD P w K mg base ["kind", "lower", "upper", "cell"] "copied" s_copied f cd A outer s H E) K CA (wxD E) (defBody s_copied) _ _ := wss_one (ws_ret (we_ifExp (wt_cmp (op_eqU hr.units) sim_eq (we_var (pv 0)) (we_str) (by rfl)) (we_cb sim_len (wa_cons (we_var (pv 2)) (wa_nil)) (fun a => pe_callB (call_lenU rfl call_lenRd) (by rfl) T.z_len boot_lenU a)) (we_cb sim_len (wa_cons (we_lc false rfl nd (own := [("cell", 3)]) (wi_seq (we_var (pv 1))) (blkOk_by (N := ["kind", "lower", "upper", "cell"]) (sc := defScope s_copied) (by decide +kernel)) (fun s_ H_ C_ cl_ fp_ => wg_name (pg_name (i := 3) nd rfl (by first | exact Or.inl rfl | exact Or.inr rfl))) (fun s_ H_ C_ cl_ fp_ => wts_one (wt_cmp (op_notInU (hu_of hr)) (sim_in (neg := true)) (we_var (pv 3)) (we_var (pv 2)) (by rfl))) (fun s_ H_ C_ cl_ fp_ => we_var (pv 3)) (by decide)) (wa_nil)) (fun a => pe_callB (call_lenU rfl call_lenRd) (by rfl) T.z_len boot_lenU a))))
  exact ⟨_, Y⟩
theorem sc_owned_by : FnScope ["chain", "first", "last", "owned", "cell"] ["chain", "first", "last"] (defScope s_owned_by) := ⟨rfl, rfl, rfl, by decide +kernel, rfl, by decide +kernel, by decide +kernel⟩
theorem ok_owned_by  (F : Fun K "owned_by" "owned_by" s_owned_by f fd) (T : Txt mg) (Hx : ∀ c ∈ (xs0 : List Nat), PySem.W.exmOne K (.ref (CA c)) (.ref (CA 1)) = some true) (XE : ∀ c ∈ (xs0 : List Nat), ExcOk K (CA c)) (Xf : XFd K CA) (SMb : SM base) (C : Cst K CA mg) (Fl : Fld K CA) (Kt : KtOk K CA [0] kt0)  : FnG P w K mg base false 1 f fd ["chain", "first", "last"] (spD K CA 3 (bodyF 5 u_owned_by)) := by
  have nd := (sc_owned_by).nd
  refine okD F sc_owned_by rfl rfl fun cd A outer s H E hg hr tk => ?_
  have Y : WSs (cxD P w K mg base ["chain", "first", "last", "owned", "cell"] "owned_by" s_owned_by f cd A outer s H E) K CA (wxD E) (defBody s_owned_by) _ _ := wss_one (ws_ret (we_cb (sim_listK (nm := false)) (wa_cons (we_dc2 false (own := [("owned", 3), ("cell", 4)]) (vs1 := [4]) rfl nd (wi_seq (we_slice false (we_var (pv 0)) (wo_some (we_var (pv 1))) (wo_some (we_op op_addU (sim_add (nm := false)) (we_var (pv 2)) (we_int))))) (blkOk_by (N := ["chain", "first", "last", "owned", "cell"]) (sc := defScope s_owned_by) (by decide +kernel)) (fun s_ H_ C_ cl_ fp_ => wg_name (pg_name (i := 3) nd rfl (by first | exact Or.inl rfl | exact Or.inr rfl))) (fun s_ H_ C_ cl_ fp_ => wts_nil) (fun s_ H_ C_ cl_ fp_ => wi_seq (we_var (pv 3))) (fun s_ H_ C_ cl_ fp_ => wg_name (pg_name (i := 4) nd rfl (by first | exact Or.inl rfl | exact Or.inr rfl))) (fun s_ H_ C_ cl_ fp_ => wts_nil) (fun s_ H_ C_ cl_ fp_ => we_var (pv 4)) (fun s_ H_ C_ cl_ fp_ => we_bl) (by decide) (by decide) (by decide)) (wa_nil)) (fun a => pe_callTy call_listK (by rfl) T.z_list boot_listU a)))
  exact ⟨_, Y⟩
theorem sc_cost_of : FnScope ["chain", "plan", "kind", "lower", "upper", "low", "high", "last"] ["chain", "plan"] (defScope s_cost_of) := ⟨rfl, rfl, rfl, by decide +kernel, rfl, by decide +kernel, by decide +kernel⟩
theorem ok_cost_of {f_is_cell : Addr} {fd_is_cell : FuncData} {f_span_of : Addr} {fd_span_of : FuncData} {f_copied : Addr} {fd_copied : FuncData} {f_owned_by : Addr} {fd_owned_by : FuncData} {f_cost_of : Addr} {fd_cost_of : FuncData} (j : Nat) {R_ : FD} (F : Fun K "cost_of" "cost_of" s_cost_of f fd) (T : Txt mg) (Hx : ∀ c ∈ (xs0 : List Nat), PySem.W.exmOne K (.ref (CA c)) (.ref (CA 1)) = some true) (XE : ∀ c ∈ (xs0 : List Nat), ExcOk K (CA c)) (Xf : XFd K CA) (SMb : SM base) (C : Cst K CA mg) (Fl : Fld K CA) (Kt : KtOk K CA [0] kt0) (B_is_cell_1 : KwB K CA fd_is_cell ["thing"] 1 [] (srcP 0 1)) (D_is_cell : Df P w K mg base CA "is_cell" false 1 ["thing"] F_is_cell f_is_cell fd_is_cell) (B_span_of_2 : KwB K CA fd_span_of ["many", "thing"] 2 [] (srcP 0 2)) (D_span_of : Df P w K mg base CA "span_of" false 31 ["many", "thing"] F_span_of f_span_of fd_span_of) (B_copied_3 : KwB K CA fd_copied ["kind", "lower", "upper"] 3 [] (srcP 0 3)) (D_copied : Df P w K mg base CA "copied" false 1 ["kind", "lower", "upper"] F_copied f_copied fd_copied) (B_owned_by_3 : KwB K CA fd_owned_by ["chain", "first", "last"] 3 [] (srcP 0 3)) (D_owned_by : Df P w K mg base CA "owned_by" false 1 ["chain", "first", "last"] F_owned_by f_owned_by fd_owned_by) (B_cost_of_2 : KwB K CA fd_cost_of ["chain", "plan"] 2 [] (srcP 0 2)) (D_cost_of : Df P w K mg base CA "cost_of" false (31 + j) ["chain", "plan"] R_ f_cost_of fd_cost_of) : FnG P w K mg base false (31 + j + 1) f fd ["chain", "plan"] (spD K CA 2 (bodyF 8 (u_cost_of R_))) := by
  have nd := (sc_cost_of).nd
  refine okD F sc_cost_of rfl rfl fun cd A outer s H E hg hr tk => ?_
  have Y : WSs (cxD P w K mg base ["chain", "plan", "kind", "lower", "upper", "low", "high", "last"] "cost_of" s_cost_of f cd A outer s H E) K CA (wxD E) (defBody s_cost_of) _ _ := wss_cons (ws_if (wt_val (we_callP D_is_cell noG (hr.mono (by omega)) tk (wa_cons (we_var (pv 1)) (wa_nil)) B_is_cell_1)) (wss_one (ws_ret (we_int))) (wss_nil)) (wss_cons (ws_asg (we_var (pv 1)) (wg_tup (n := 3) rfl (wgs_cons (wg_name (pg_name (i := 2) nd rfl (by first | exact Or.inl rfl | exact Or.inr rfl))) (wgs_cons (wg_name (pg_name (i := 3) nd rfl (by first | exact Or.inl rfl | exact Or.inr rfl))) (wgs_cons (wg_name (pg_name (i := 4) nd rfl (by first | exact Or.inl rfl | exact Or.inr rfl))) (wgs_nil)))))) (wss_cons (ws_par (wa_cons (we_callP D_span_of noG (hr.mono (by omega)) tk (wa_cons (we_cb sim_len (wa_cons (we_var (pv 0)) (wa_nil)) (fun a => pe_callB (call_lenU rfl call_lenRd) (by rfl) T.z_len boot_lenU a)) (wa_cons (we_var (pv 3)) (wa_nil))) B_span_of_2) (wa_cons (we_callP D_span_of noG (hr.mono (by omega)) tk (wa_cons (we_cb sim_len (wa_cons (we_var (pv 0)) (wa_nil)) (fun a => pe_callB (call_lenU rfl call_lenRd) (by rfl) T.z_len boot_lenU a)) (wa_cons (we_var (pv 4)) (wa_nil))) B_span_of_2) (wa_nil))) (fun q => ps_par (i := 5) (j := 6) rfl nd rfl rfl (by decide) rfl rfl q (by rfl))) (wss_cons (ws_set (we_callP D_copied noG (hr.mono (by omega)) tk (wa_cons (we_var (pv 2)) (wa_cons (we_callP D_owned_by noG (hr.mono (by omega)) tk (wa_cons (we_var (pv 0)) (wa_cons (we_ix (ixU (hu_of hr)) sim_ix (we_var (pv 5)) (we_int)) (wa_cons (we_ix (ixU (hu_of hr)) sim_ix (we_var (pv 5)) (we_int)) (wa_nil)))) B_owned_by_3) (wa_cons (we_callP D_owned_by noG (hr.mono (by omega)) tk (wa_cons (we_var (pv 0)) (wa_cons (we_ix (ixU (hu_of hr)) sim_ix (we_var (pv 6)) (we_int)) (wa_cons (we_ix (ixU (hu_of hr)) sim_ix (we_var (pv 6)) (we_int)) (wa_nil)))) B_owned_by_3) (wa_nil)))) B_copied_3) (fun q => ps_set (i := 7) nd rfl (by first | exact Or.inl rfl | exact Or.inr rfl) q)) (wss_one (ws_ret (we_op op_addU (sim_add (nm := false)) (we_op op_addU (sim_add (nm := false)) (we_callP D_cost_of noG (hr.mono (by omega)) tk (wa_cons (we_var (pv 0)) (wa_cons (we_var (pv 3)) (wa_nil))) B_cost_of_2) (we_callP D_cost_of noG (hr.mono (by omega)) tk (wa_cons (we_var (pv 0)) (wa_cons (we_var (pv 4)) (wa_nil))) B_cost_of_2)) (we_var (pv 7))))))))
  exact ⟨_, Y⟩
theorem sc_cost : FnScope ["chain", "plan"] ["chain", "plan"] (defScope s_cost) := ⟨rfl, rfl, rfl, by decide +kernel, rfl, by decide +kernel, by decide +kernel⟩
theorem ok_cost {f_need_plan : Addr} {fd_need_plan : FuncData} {f_cost_of : Addr} {fd_cost_of : FuncData} (F : Fun K "cost" "cost" s_cost f fd) (T : Txt mg) (Hx : ∀ c ∈ (xs0 : List Nat), PySem.W.exmOne K (.ref (CA c)) (.ref (CA 1)) = some true) (XE : ∀ c ∈ (xs0 : List Nat), ExcOk K (CA c)) (Xf : XFd K CA) (SMb : SM base) (C : Cst K CA mg) (Fl : Fld K CA) (Kt : KtOk K CA [0] kt0) (B_need_plan_2 : KwB K CA fd_need_plan ["chain", "plan"] 2 [] (srcP 0 2)) (D_need_plan : Df P w K mg base CA "need_plan" false 33 ["chain", "plan"] F_need_plan f_need_plan fd_need_plan) (B_cost_of_2 : KwB K CA fd_cost_of ["chain", "plan"] 2 [] (srcP 0 2)) (D_cost_of : Df P w K mg base CA "cost_of" false 40 ["chain", "plan"] F_cost_of f_cost_of fd_cost_of) : FnG P w K mg base false 41 f fd ["chain", "plan"] (spD K CA 2 (bodyF 2 u_cost)) := by
  have nd := (sc_cost).nd
  refine okD F sc_cost rfl rfl fun cd A outer s H E hg hr tk => ?_
  have Y : WSs (cxD P w K mg base ["chain", "plan"] "cost" s_cost f cd A outer s H E) K CA (wxD E) (defBody s_cost) _ _ := wss_cons (ws_expr (we_callP D_need_plan noG (hr.mono (by decide)) tk (wa_cons (we_var (pv 0)) (wa_cons (we_var (pv 1)) (wa_nil))) B_need_plan_2)) (wss_one (ws_ret (we_callP D_cost_of noG (hr.mono (by decide)) tk (wa_cons (we_var (pv 0)) (wa_cons (we_var (pv 1)) (wa_nil))) B_cost_of_2)))
  exact ⟨_, Y⟩
theorem sc_Work_merged : FnScope ["self", "plan", "lower", "upper", "turn"] ["self", "plan"] (defScope s_Work_merged) := ⟨rfl, rfl, rfl, by decide +kernel, rfl, by decide +kernel, by decide +kernel⟩
theorem ok_Work_merged {f_is_cell : Addr} {fd_is_cell : FuncData} {f_Work_merged : Addr} {fd_Work_merged : FuncData} (j : Nat) {R_ : FD} (F : Fun K "merged" "Work.merged" s_Work_merged f fd) (T : Txt mg) (Hx : ∀ c ∈ (xs0 : List Nat), PySem.W.exmOne K (.ref (CA c)) (.ref (CA 1)) = some true) (XE : ∀ c ∈ (xs0 : List Nat), ExcOk K (CA c)) (Xf : XFd K CA) (SMb : SM base) (C : Cst K CA mg) (Fl : Fld K CA) (Kt : KtOk K CA [0] kt0) (B_is_cell_1 : KwB K CA fd_is_cell ["thing"] 1 [] (srcP 0 1)) (D_is_cell : Df P w K mg base CA "is_cell" false 1 ["thing"] F_is_cell f_is_cell fd_is_cell) (B_Work_merged_2 : KwB K CA fd_Work_merged ["self", "plan"] 2 [] (srcP 0 2)) (M_Work_merged : Mtd P w K mg base CA 0 "merged" false (1 + j) ["self", "plan"] R_ f_Work_merged fd_Work_merged) : FnG P w K mg base false (1 + j + 1) f fd ["self", "plan"] (spD K CA 2 (bodyF 5 (u_Work_merged R_))) := by
  have nd := (sc_Work_merged).nd
  refine okD F sc_Work_merged rfl rfl fun cd A outer s H E hg hr tk => ?_
  have Y : WSs (cxD P w K mg base ["self", "plan", "lower", "upper", "turn"] "Work.merged" s_Work_merged f cd A outer s H E) K CA (wxD E) (defBody s_Work_merged) _ _ := wss_cons (ws_if (wt_val (we_callP D_is_cell noG (hr.mono (by omega)) tk (wa_cons (we_var (pv 1)) (wa_nil)) B_is_cell_1)) (wss_one (ws_ret (we_op op_addU (sim_add (nm := false)) (we_var (pv 1)) (we_int)))) (wss_nil)) (wss_cons (ws_par (wa_cons (we_meth M_Work_merged noG (hr.mono (by omega)) tk (we_var (pv 0)) (wa_cons (we_ix (ixU (hu_of hr)) sim_ix (we_var (pv 1)) (we_int)) (wa_nil)) B_Work_merged_2) (wa_cons (we_meth M_Work_merged noG (hr.mono (by omega)) tk (we_var (pv 0)) (wa_cons (we_ix (ixU (hu_of hr)) sim_ix (we_var (pv 1)) (we_int)) (wa_nil)) B_Work_merged_2) (wa_nil))) (fun q => ps_par (i := 2) (j := 3) rfl nd rfl rfl (by decide) rfl rfl q (by rfl))) (wss_cons (ws_expr (we_bm (T := "list") (r := rAppend) sim_append (we_fld Fl.x_line (we_var (pv 0))) (wa_cons (we_tup (wa_cons (we_str) (wa_cons (we_ix (ixU (hu_of hr)) sim_ix (we_var (pv 1)) (we_int)) (wa_cons (we_var (pv 3)) (wa_nil))))) (wa_nil)) (fun a b => pe_bm PySem.F.plainAttrs_list PySem.F.slot_list_append PySem.F.type_list_append mt_append a b))) (wss_cons (ws_expr (we_bm (T := "list") (r := rExtend) sim_extend (we_fld Fl.x_line (we_var (pv 0))) (wa_cons (we_lc false rfl nd (own := [("turn", 4)]) (wi_rng1 (wa_cons (we_op op_addU (sim_add (nm := false)) (we_fld Fl.x_cells_there (we_var (pv 0))) (we_int)) (wa_nil)) (fun a => pi_range1 (by rfl) T.z_range a)) (blkOk_by (N := ["self", "plan", "lower", "upper", "turn"]) (sc := defScope s_Work_merged) (by decide +kernel)) (fun s_ H_ C_ cl_ fp_ => wg_name (pg_name (i := 4) nd rfl (by first | exact Or.inl rfl | exact Or.inr rfl))) (fun s_ H_ C_ cl_ fp_ => wts_nil) (fun s_ H_ C_ cl_ fp_ => we_tup (wa_cons (we_str) (wa_cons (we_fld Fl.x_begun_jobs (we_var (pv 0))) (wa_nil)))) (by decide)) (wa_nil)) (fun a b => pe_bm PySem.F.plainAttrs_list PySem.F.slot_list_extend PySem.F.type_list_extend mt_extend a b))) (wss_cons (ws_fldAug (W := wxD E) Fl.x_begun_jobs (we_var (pv 0)) (we_int)) (wss_one (ws_ret (we_ifExp (wt_cmp (op_eqU hr.units) sim_eq (we_ix (ixU (hu_of hr)) sim_ix (we_var (pv 1)) (we_int)) (we_str) (by rfl)) (we_var (pv 3)) (we_var (pv 2)))))))))
  exact ⟨_, Y⟩
theorem sc_Work_init : FnScope ["self", "cells"] ["self", "cells"] (defScope s_Work_init) := ⟨rfl, rfl, rfl, by decide +kernel, rfl, by decide +kernel, by decide +kernel⟩
theorem ok_Work_init  (F : Fun K "__init__" "Work.__init__" s_Work_init f fd) (T : Txt mg) (Hx : ∀ c ∈ (xs0 : List Nat), PySem.W.exmOne K (.ref (CA c)) (.ref (CA 1)) = some true) (XE : ∀ c ∈ (xs0 : List Nat), ExcOk K (CA c)) (Xf : XFd K CA) (SMb : SM base) (C : Cst K CA mg) (Fl : Fld K CA) (Kt : KtOk K CA [0] kt0)  : FnG P w K mg base false 1 f fd ["self", "cells"] (spD K CA 2 (bodyF 2 u_Work_init)) := by
  have nd := (sc_Work_init).nd
  refine okD F sc_Work_init rfl rfl fun cd A outer s H E hg hr tk => ?_
  have Y : WSs (cxD P w K mg base ["self", "cells"] "Work.__init__" s_Work_init f cd A outer s H E) K CA (wxD E) (defBody s_Work_init) _ _ := wss_cons (ws_asg (we_var (pv 1)) (wg_fld (W := wxD E) Fl.x_cells_there (we_var (pv 0)))) (wss_cons (ws_asg (we_lst true (wa_nil)) (wg_fld (W := wxD E) Fl.x_line (we_var (pv 0)))) (wss_one (ws_asg (we_int) (wg_fld (W := wxD E) Fl.x_begun_jobs (we_var (pv 0))))))
  exact ⟨_, Y⟩
theorem sc_cells_of : FnScope ["chain", "owned", "cell"] ["chain"] (defScope s_cells_of) := ⟨rfl, rfl, rfl, by decide +kernel, rfl, by decide +kernel, by decide +kernel⟩
theorem ok_cells_of {f_need_chain : Addr} {fd_need_chain : FuncData} (F : Fun K "cells_of" "cells_of" s_cells_of f fd) (T : Txt mg) (Hx : ∀ c ∈ (xs0 : List Nat), PySem.W.exmOne K (.ref (CA c)) (.ref (CA 1)) = some true) (XE : ∀ c ∈ (xs0 : List Nat), ExcOk K (CA c)) (Xf : XFd K CA) (SMb : SM base) (C : Cst K CA mg) (Fl : Fld K CA) (Kt : KtOk K CA [0] kt0) (B_need_chain_1 : KwB K CA fd_need_chain ["chain"] 1 [] (srcP 0 1)) (D_need_chain : Df P w K mg base CA "need_chain" false 3 ["chain"] F_need_chain f_need_chain fd_need_chain) : FnG P w K mg base false 4 f fd ["chain"] (spD K CA 1 (bodyF 3 u_cells_of)) := by
  have nd := (sc_cells_of).nd
  refine okD F sc_cells_of rfl rfl fun cd A outer s H E hg hr tk => ?_
  have Y : WSs (cxD P w K mg base ["chain", "owned", "cell"] "cells_of" s_cells_of f cd A outer s H E) K CA (wxD E) (defBody s_cells_of) _ _ := wss_cons (ws_expr (we_callP D_need_chain noG (hr.mono (by decide)) tk (wa_cons (we_var (pv 0)) (wa_nil)) B_need_chain_1)) (wss_one (ws_ret (we_cb sim_maxS (wa_cons (we_op op_addU (sim_add (nm := false)) (we_lc2 false (own := [("owned", 1), ("cell", 2)]) (vs1 := [2]) rfl nd (wi_seq (we_var (pv 0))) (blkOk_by (N := ["chain", "owned", "cell"]) (sc := defScope s_cells_of) (by decide +kernel)) (fun s_ H_ C_ cl_ fp_ => wg_name (pg_name (i := 1) nd rfl (by first | exact Or.inl rfl | exact Or.inr rfl))) (fun s_ H_ C_ cl_ fp_ => wts_nil) (fun s_ H_ C_ cl_ fp_ => wi_seq (we_var (pv 1))) (fun s_ H_ C_ cl_ fp_ => wg_name (pg_name (i := 2) nd rfl (by first | exact Or.inl rfl | exact Or.inr rfl))) (fun s_ H_ C_ cl_ fp_ => wts_nil) (fun s_ H_ C_ cl_ fp_ => we_op op_addU (sim_add (nm := false)) (we_var (pv 2)) (we_int)) (by decide) (by decide) (by decide)) (we_lst false (wa_cons (we_int) (wa_nil)))) (wa_nil)) (fun a => pe_callB call_maxS (by rfl) T.z_max boot_maxU a))))
  exact ⟨_, Y⟩
theorem sc_deeds_for : FnScope ["chain", "plan", "deeds", "work", "at", "owned", "cell"] ["chain", "plan"] (defScope s_deeds_for) := ⟨rfl, rfl, rfl, by decide +kernel, rfl, by decide +kernel, by decide +kernel⟩
theorem ok_deeds_for {f_need_plan : Addr} {fd_need_plan : FuncData} {f_Work_init : Addr} {fd_Work_init : FuncData} {f_cells_of : Addr} {fd_cells_of : FuncData} {f_Work_merged : Addr} {fd_Work_merged : FuncData} (F : Fun K "deeds_for" "deeds_for" s_deeds_for f fd) (T : Txt mg) (Hx : ∀ c ∈ (xs0 : List Nat), PySem.W.exmOne K (.ref (CA c)) (.ref (CA 1)) = some true) (XE : ∀ c ∈ (xs0 : List Nat), ExcOk K (CA c)) (Xf : XFd K CA) (SMb : SM base) (C : Cst K CA mg) (Fl : Fld K CA) (Kt : KtOk K CA [0] kt0) (B_need_plan_2 : KwB K CA fd_need_plan ["chain", "plan"] 2 [] (srcP 0 2)) (D_need_plan : Df P w K mg base CA "need_plan" false 33 ["chain", "plan"] F_need_plan f_need_plan fd_need_plan) (B_Work_init_2 : KwB K CA fd_Work_init ["self", "cells"] 2 [] (srcP 0 2)) (N_Work : Mkd P w K mg base CA 0 "Work" 1 ["self", "cells"] F_Work_init f_Work_init fd_Work_init) (B_cells_of_1 : KwB K CA fd_cells_of ["chain"] 1 [] (srcP 0 1)) (D_cells_of : Df P w K mg base CA "cells_of" false 4 ["chain"] F_cells_of f_cells_of fd_cells_of) (B_Work_merged_2 : KwB K CA fd_Work_merged ["self", "plan"] 2 [] (srcP 0 2)) (M_Work_merged : Mtd P w K mg base CA 0 "merged" false 10 ["self", "plan"] F_Work_merged f_Work_merged fd_Work_merged) : FnG P w K mg base false 34 f fd ["chain", "plan"] (spD K CA 2 (bodyF 7 u_deeds_for)) := by
  have nd := (sc_deeds_for).nd
  refine okD F sc_deeds_for rfl rfl fun cd A outer s H E hg hr tk => ?_
  have Y : WSs (cxD P w K mg base ["chain", "plan", "deeds", "work", "at", "owned", "cell"] "deeds_for" s_deeds_for f cd A outer s H E) K CA (wxD E) (defBody s_deeds_for) _ _ := wss_cons (ws_expr (we_callP D_need_plan noG (hr.mono (by decide)) tk (wa_cons (we_var (pv 0)) (wa_cons (we_var (pv 1)) (wa_nil))) B_need_plan_2)) (wss_cons (ws_par (wa_cons (we_lst true (wa_nil)) (wa_cons (we_make false N_Work (hr.mono (by decide)) tk (wa_cons (we_callP D_cells_of noG (hr.mono (by decide)) tk (wa_cons (we_var (pv 0)) (wa_nil)) B_cells_of_1) (wa_nil)) B_Work_init_2) (wa_nil))) (fun q => ps_par (i := 2) (j := 3) rfl nd rfl rfl (by decide) rfl rfl q (by rfl))) (wss_cons (ws_for (wi_enumT (wa_cons (we_var (pv 0)) (wa_nil)) (fun a => pi_enumT (by rfl) T.z_enumerate a)) (wg_tup (n := 2) rfl (wgs_cons (wg_name (pg_name (i := 4) nd rfl (by first | exact Or.inl rfl | exact Or.inr rfl))) (wgs_cons (wg_name (pg_name (i := 5) nd rfl (by first | exact Or.inl rfl | exact Or.inr rfl))) (wgs_nil)))) (wss_cons (ws_expr (we_bm (T := "list") (r := rAppend) sim_append (we_var (pv 2)) (wa_cons (we_tup (wa_cons (we_str) (wa_cons (we_int) (wa_nil)))) (wa_nil)) (fun a b => pe_bm PySem.F.plainAttrs_list PySem.F.slot_list_append PySem.F.type_list_append mt_append a b))) (wss_one (ws_expr (we_bm (T := "list") (r := rExtend) sim_extend (we_var (pv 2)) (wa_cons (we_lc false rfl nd (own := [("cell", 6)]) (wi_seq (we_var (pv 5))) (blkOk_by (N := ["chain", "plan", "deeds", "work", "at", "owned", "cell"]) (sc := defScope s_deeds_for) (by decide +kernel)) (fun s_ H_ C_ cl_ fp_ => wg_name (pg_name (i := 6) nd rfl (by first | exact Or.inl rfl | exact Or.inr rfl))) (fun s_ H_ C_ cl_ fp_ => wts_nil) (fun s_ H_ C_ cl_ fp_ => we_tup (wa_cons (we_str) (wa_cons (we_int) (wa_cons (we_var (pv 6)) (wa_cons (we_op op_addU (sim_add (nm := false)) (we_var (pv 4)) (we_int)) (wa_nil)))))) (by decide)) (wa_nil)) (fun a b => pe_bm PySem.F.plainAttrs_list PySem.F.slot_list_extend PySem.F.type_list_extend mt_extend a b))))) (fun i g b => ps_for (passes_of rfl) rfl i g b)) (wss_cons (ws_expr (we_meth M_Work_merged noG (hr.mono (by decide)) tk (we_var (pv 3)) (wa_cons (we_var (pv 1)) (wa_nil)) B_Work_merged_2)) (wss_one (ws_ret (we_lst true (wa_star (we_var (pv 2)) (wa_cons (we_tup (wa_cons (we_str) (wa_cons (we_int) (wa_nil)))) (wa_star (we_fld Fl.x_line (we_var (pv 3))) (wa_nil))))))))))
  exact ⟨_, Y⟩
theorem sc__law_refusal : FnScope ["_law_work", "_law_error", "_law_marks"] ["_law_work"] (defScope s__law_refusal) := ⟨rfl, rfl, rfl, by decide +kernel, rfl, by decide +kernel, by decide +kernel⟩
theorem ok__law_refusal  (kb : Nat) (F : Fun K "_law_refusal" "_law_refusal" s__law_refusal f fd) (T : Txt mg) (Hx : ∀ c ∈ (xs0 : List Nat), PySem.W.exmOne K (.ref (CA c)) (.ref (CA 1)) = some true) (XE : ∀ c ∈ (xs0 : List Nat), ExcOk K (CA c)) (Xf : XFd K CA) (SMb : SM base) (C : Cst K CA mg) (Fl : Fld K CA) (Kt : KtOk K CA [0] kt0) (G__law_caught : Cgt K CA mg "_law_caught" 1) : FnL P w K mg base CA false (kb + 3) kb f fd ["_law_work"] 0 F__law_refusal := by
  have nd := (sc__law_refusal).nd
  refine okL (k := kb + 2) F sc__law_refusal rfl rfl fun cd X f_ c_ tl A outer s H e1 e2 e3 e4 e5 hg hr LF hc tk => ?_
  have Y : WSs (cxD P w K mg base ["_law_work", "_law_error", "_law_marks"] "_law_refusal" s__law_refusal f cd A outer s H E00) K CA (wxD E00) ((defBody s__law_refusal).drop 1) _ _ := wss_cons (ws_if (wt_cmp op_isN sim_isN (we_var (pv 1)) (we_non) (by rfl)) (wss_one (ws_ret (we_tup (wa_cons (we_str) (wa_cons (we_non) (wa_nil)))))) (wss_nil)) (wss_cons (ws_set (we_lst false (wa_cons (we_cb (sim_isX (fun c hc => (XE c hc).toXkC) Kt) (wa_cons (we_var (pv 1)) (wa_cons (we_gv C.g_BadBook) (wa_nil))) (fun a => pe_callB call_isX (by rfl) T.z_isinstance boot_isinstanceU a)) (wa_cons (we_cb (sim_isX (fun c hc => (XE c hc).toXkC) Kt) (wa_cons (we_var (pv 1)) (wa_cons (we_gv C.g_BadNumber) (wa_nil))) (fun a => pe_callB call_isX (by rfl) T.z_isinstance boot_isinstanceU a)) (wa_cons (we_cb (sim_isX (fun c hc => (XE c hc).toXkC) Kt) (wa_cons (we_var (pv 1)) (wa_cons (we_gv C.g_BadDeed) (wa_nil))) (fun a => pe_callB call_isX (by rfl) T.z_isinstance boot_isinstanceU a)) (wa_nil))))) (fun q => ps_set (i := 2) nd rfl (by first | exact Or.inl rfl | exact Or.inr rfl) q)) (wss_cons (ws_set (we_op op_addU (sim_add (nm := false)) (we_var (pv 2)) (we_lst false (wa_cons (we_cb (sim_isX (fun c hc => (XE c hc).toXkC) Kt) (wa_cons (we_var (pv 1)) (wa_cons (we_gv C.g_BadText) (wa_nil))) (fun a => pe_callB call_isX (by rfl) T.z_isinstance boot_isinstanceU a)) (wa_cons (we_cb (sim_isX (fun c hc => (XE c hc).toXkC) Kt) (wa_cons (we_var (pv 1)) (wa_cons (we_gv C.g_BadChain) (wa_nil))) (fun a => pe_callB call_isX (by rfl) T.z_isinstance boot_isinstanceU a)) (wa_cons (we_cb (sim_isX (fun c hc => (XE c hc).toXkC) Kt) (wa_cons (we_var (pv 1)) (wa_cons (we_gv C.g_BadPlan) (wa_nil))) (fun a => pe_callB call_isX (by rfl) T.z_isinstance boot_isinstanceU a)) (wa_nil)))))) (fun q => ps_set (i := 2) nd rfl (by first | exact Or.inl rfl | exact Or.inr rfl) q)) (wss_cons (ws_if (CM.WW.wt (ww_or (wt_cmp (op_neU hr.units) sim_ne (we_bm (T := "list") (r := rCntB K) sim_cntB (we_var (pv 2)) (wa_cons (we_bl) (wa_nil)) (fun a b => pe_bm PySem.F.plainAttrs_list PySem.F.slot_list_count PySem.F.type_list_count mt_bcount a b)) (we_int) (by rfl)) (ww_or1 (wt_not (wt_val (we_cb (sim_isX (fun c hc => (XE c hc).toXkC) Kt) (wa_cons (we_var (pv 1)) (wa_cons (we_ty (pe_bltn (by rfl) T.z_ValueError boot_ValueErrorU rfl)) (wa_nil))) (fun a => pe_callB call_isX (by rfl) T.z_isinstance boot_isinstanceU a))))))) (wss_one (ws_ret (we_tup (wa_cons (we_str) (wa_cons (we_non) (wa_nil)))))) (wss_nil)) (wss_cons (ws_if (wt_val (we_ix (ixU (hu_of hr)) sim_ix (we_var (pv 2)) (we_int))) (wss_one (ws_ret (we_tup (wa_cons (we_str) (wa_cons (we_xf Xf.x_field (we_var (pv 1))) (wa_nil)))))) (wss_nil)) (wss_cons (ws_if (wt_val (we_ix (ixU (hu_of hr)) sim_ix (we_var (pv 2)) (we_int))) (wss_one (ws_ret (we_tup (wa_cons (we_str) (wa_cons (we_xf Xf.x_number (we_var (pv 1))) (wa_nil)))))) (wss_nil)) (wss_cons (ws_if (wt_val (we_ix (ixU (hu_of hr)) sim_ix (we_var (pv 2)) (we_int))) (wss_one (ws_ret (we_tup (wa_cons (we_str) (wa_cons (we_xf Xf.x_at (we_var (pv 1))) (wa_nil)))))) (wss_nil)) (wss_one (ws_ret (we_ifExp (wt_val (we_ix (ixU (hu_of hr)) sim_ix (we_var (pv 2)) (we_int))) (we_tup (wa_cons (we_str) (wa_cons (we_fld Fl.x_line (we_var (pv 1))) (wa_nil)))) (we_tup (wa_cons (we_ix (ixU (hu_of hr)) sim_ix (we_lst false (wa_cons (we_str) (wa_cons (we_str) (wa_nil)))) (we_cb sim_int (wa_cons (we_ix (ixU (hu_of hr)) sim_ix (we_var (pv 2)) (we_int)) (wa_nil)) (fun a => pe_callTy call_int1 (by rfl) T.z_int boot_intU a))) (wa_cons (we_non) (wa_nil)))))))))))))
  exact ⟨_, pss_cons (ps_set (i := 1) nd rfl (by first | exact Or.inl rfl | exact Or.inr rfl) (pe_cght LF G__law_caught e1 e2 e3 e4 e5 rfl (hr.mono (by omega)) rfl (.inl rfl))) Y.pe, fun m h r_ hR hsim => simL_seq (simL_asg (simL_caught Hx hsim hc) sim_gName) Y.sim⟩
theorem sc_cheapest : FnScope ["chain", "best", "at", "width", "first", "last", "offers", "middle", "lower", "upper", "sets", "kind", "least", "price", "plan", "offer"] ["chain"] (defScope s_cheapest) := ⟨rfl, rfl, rfl, by decide +kernel, rfl, by decide +kernel, by decide +kernel⟩
theorem ok_cheapest {f_need_chain : Addr} {fd_need_chain : FuncData} {f_owned_by : Addr} {fd_owned_by : FuncData} {f_copied : Addr} {fd_copied : FuncData} (F : Fun K "cheapest" "cheapest" s_cheapest f fd) (T : Txt mg) (Hx : ∀ c ∈ (xs0 : List Nat), PySem.W.exmOne K (.ref (CA c)) (.ref (CA 1)) = some true) (XE : ∀ c ∈ (xs0 : List Nat), ExcOk K (CA c)) (Xf : XFd K CA) (SMb : SM base) (C : Cst K CA mg) (Fl : Fld K CA) (Kt : KtOk K CA [0] kt0) (B_need_chain_1 : KwB K CA fd_need_chain ["chain"] 1 [] (srcP 0 1)) (D_need_chain : Df P w K mg base CA "need_chain" false 3 ["chain"] F_need_chain f_need_chain fd_need_chain) (B_owned_by_3 : KwB K CA fd_owned_by ["chain", "first", "last"] 3 [] (srcP 0 3)) (D_owned_by : Df P w K mg base CA "owned_by" false 1 ["chain", "first", "last"] F_owned_by f_owned_by fd_owned_by) (B_copied_3 : KwB K CA fd_copied ["kind", "lower", "upper"] 3 [] (srcP 0 3)) (D_copied : Df P w K mg base CA "copied" false 1 ["kind", "lower", "upper"] F_copied f_copied fd_copied) : FnG P w K mg base false 4 f fd ["chain"] (spD K CA 1 (bodyF 16 u_cheapest)) := by
  have nd := (sc_cheapest).nd
  refine okD F sc_cheapest rfl rfl fun cd A outer s H E hg hr tk => ?_
  have Y : WSs (cxD P w K mg base ["chain", "best", "at", "width", "first", "last", "offers", "middle", "lower", "upper", "sets", "kind", "least", "price", "plan", "offer"] "cheapest" s_cheapest f cd A outer s H E) K CA (wxD E) (defBody s_cheapest) _ _ := wss_cons (ws_expr (we_callP D_need_chain noG (hr.mono (by decide)) tk (wa_cons (we_var (pv 0)) (wa_nil)) B_need_chain_1)) (wss_cons (ws_setDcT (hu_of hr) (i := 1) rfl nd rfl rfl (own := [("at", 2)]) (wi_rng1 (wa_cons (we_cb sim_len (wa_cons (we_var (pv 0)) (wa_nil)) (fun a => pe_callB (call_lenU rfl call_lenRd) (by rfl) T.z_len boot_lenU a)) (wa_nil)) (fun a => pi_range1 (by rfl) T.z_range a)) (blkOk_by (N := ["chain", "best", "at", "width", "first", "last", "offers", "middle", "lower", "upper", "sets", "kind", "least", "price", "plan", "offer"]) (sc := defScope s_cheapest) (by decide +kernel)) (fun s_ H_ C_ cl_ fp_ => wg_name (pg_name (i := 2) nd rfl (by first | exact Or.inl rfl | exact Or.inr rfl))) (fun s_ H_ C_ cl_ fp_ => wts_nil) (fun s_ H_ C_ cl_ fp_ => wa_cons (we_var (pv 2)) (wa_cons (we_var (pv 2)) (wa_nil))) (fun s_ H_ C_ cl_ fp_ => we_tup (wa_cons (we_int) (wa_cons (we_var (pv 2)) (wa_nil)))) (by decide)) (wss_cons (ws_for (wi_rng2 (wa_cons (we_int) (wa_cons (we_cb sim_len (wa_cons (we_var (pv 0)) (wa_nil)) (fun a => pe_callB (call_lenU rfl call_lenRd) (by rfl) T.z_len boot_lenU a)) (wa_nil))) (fun a => pi_range2 (by rfl) T.z_range a)) (wg_name (pg_name (i := 3) nd rfl (by first | exact Or.inl rfl | exact Or.inr rfl))) (wss_one (ws_for (wi_rng1 (wa_cons (we_op op_sub sim_subI (we_cb sim_len (wa_cons (we_var (pv 0)) (wa_nil)) (fun a => pe_callB (call_lenU rfl call_lenRd) (by rfl) T.z_len boot_lenU a)) (we_var (pv 3))) (wa_nil)) (fun a => pi_range1 (by rfl) T.z_range a)) (wg_name (pg_name (i := 4) nd rfl (by first | exact Or.inl rfl | exact Or.inr rfl))) (wss_cons (ws_par (wa_cons (we_op op_addU (sim_add (nm := false)) (we_var (pv 4)) (we_var (pv 3))) (wa_cons (we_lst true (wa_nil)) (wa_nil))) (fun q => ps_par (i := 5) (j := 6) rfl nd rfl rfl (by decide) rfl rfl q (by rfl))) (wss_cons (ws_for (wi_rng2 (wa_cons (we_var (pv 4)) (wa_cons (we_var (pv 5)) (wa_nil))) (fun a => pi_range2 (by rfl) T.z_range a)) (wg_name (pg_name (i := 7) nd rfl (by first | exact Or.inl rfl | exact Or.inr rfl))) (wss_cons (ws_par (wa_cons (we_ixT (hu_of hr) (we_var (pv 1)) (wa_cons (we_var (pv 4)) (wa_cons (we_var (pv 7)) (wa_nil)))) (wa_cons (we_ixT (hu_of hr) (we_var (pv 1)) (wa_cons (we_op op_addU (sim_add (nm := false)) (we_var (pv 7)) (we_int)) (wa_cons (we_var (pv 5)) (wa_nil)))) (wa_nil))) (fun q => ps_par (i := 8) (j := 9) rfl nd rfl rfl (by decide) rfl rfl q (by rfl))) (wss_cons (ws_set (we_tup (wa_cons (we_callP D_owned_by noG (hr.mono (by decide)) tk (wa_cons (we_var (pv 0)) (wa_cons (we_var (pv 4)) (wa_cons (we_var (pv 7)) (wa_nil)))) B_owned_by_3) (wa_cons (we_callP D_owned_by noG (hr.mono (by decide)) tk (wa_cons (we_var (pv 0)) (wa_cons (we_op op_addU (sim_add (nm := false)) (we_var (pv 7)) (we_int)) (wa_cons (we_var (pv 5)) (wa_nil)))) B_owned_by_3) (wa_nil)))) (fun q => ps_set (i := 10) nd rfl (by first | exact Or.inl rfl | exact Or.inr rfl) q)) (wss_one (ws_for (wi_seq (we_gv C.g_KINDS)) (wg_name (pg_name (i := 11) nd rfl (by first | exact Or.inl rfl | exact Or.inr rfl))) (wss_one (ws_expr (we_bm (T := "list") (r := rAppend) sim_append (we_var (pv 6)) (wa_cons (we_tup (wa_cons (we_op op_addU (sim_add (nm := false)) (we_op op_addU (sim_add (nm := false)) (we_ix (ixU (hu_of hr)) sim_ix (we_var (pv 8)) (we_int)) (we_ix (ixU (hu_of hr)) sim_ix (we_var (pv 9)) (we_int))) (we_callS D_copied noG (hr.mono (by decide)) tk (wa_cons (we_var (pv 11)) (wa_star (we_var (pv 10)) (wa_nil))) B_copied_3)) (wa_cons (we_tup (wa_cons (we_var (pv 11)) (wa_cons (we_ix (ixU (hu_of hr)) sim_ix (we_var (pv 8)) (we_int)) (wa_cons (we_ix (ixU (hu_of hr)) sim_ix (we_var (pv 9)) (we_int)) (wa_nil))))) (wa_nil)))) (wa_nil)) (fun a b => pe_bm PySem.F.plainAttrs_list PySem.F.slot_list_append PySem.F.type_list_append mt_append a b)))) (fun i g b => ps_for (passes_of rfl) rfl i g b))))) (fun i g b => ps_for (passes_of rfl) rfl i g b)) (wss_cons (ws_set (we_cb sim_minL (wa_cons (we_lc false rfl nd (own := [("price", 13), ("plan", 14)]) (wi_seq (we_var (pv 6))) (blkOk_by (N := ["chain", "best", "at", "width", "first", "last", "offers", "middle", "lower", "upper", "sets", "kind", "least", "price", "plan", "offer"]) (sc := defScope s_cheapest) (by decide +kernel)) (fun s_ H_ C_ cl_ fp_ => wg_tup (n := 2) rfl (wgs_cons (wg_name (pg_name (i := 13) nd rfl (by first | exact Or.inl rfl | exact Or.inr rfl))) (wgs_cons (wg_name (pg_name (i := 14) nd rfl (by first | exact Or.inl rfl | exact Or.inr rfl))) (wgs_nil)))) (fun s_ H_ C_ cl_ fp_ => wts_nil) (fun s_ H_ C_ cl_ fp_ => we_var (pv 13)) (by decide)) (wa_nil)) (fun a => pe_callB call_minL (by rfl) T.z_min boot_minU a)) (fun q => ps_set (i := 12) nd rfl (by first | exact Or.inl rfl | exact Or.inr rfl) q)) (wss_one (ws_asg (we_ix (ixU (hu_of hr)) sim_ix (we_lc false rfl nd (own := [("offer", 15)]) (wi_seq (we_var (pv 6))) (blkOk_by (N := ["chain", "best", "at", "width", "first", "last", "offers", "middle", "lower", "upper", "sets", "kind", "least", "price", "plan", "offer"]) (sc := defScope s_cheapest) (by decide +kernel)) (fun s_ H_ C_ cl_ fp_ => wg_name (pg_name (i := 15) nd rfl (by first | exact Or.inl rfl | exact Or.inr rfl))) (fun s_ H_ C_ cl_ fp_ => wts_one (wt_cmp (op_eqU hr.units) sim_eq (we_ix (ixU (hu_of hr)) sim_ix (we_var (pv 15)) (we_int)) (we_var (pv 12)) (by rfl))) (fun s_ H_ C_ cl_ fp_ => we_var (pv 15)) (by decide)) (we_int)) (wg_subT (W := wxD E) (hu_of hr) (we_var (pv 1)) (wa_cons (we_var (pv 4)) (wa_cons (we_var (pv 5)) (wa_nil))) (fun a b c => pg_sub a b c))))))) (fun i g b => ps_for (passes_of rfl) rfl i g b))) (fun i g b => ps_for (passes_of rfl) rfl i g b)) (wss_one (ws_ret (we_ixT (hu_of hr) (we_var (pv 1)) (wa_cons (we_int) (wa_cons (we_op op_sub sim_subI (we_cb sim_len (wa_cons (we_var (pv 0)) (wa_nil)) (fun a => pe_callB (call_lenU rfl call_lenRd) (by rfl) T.z_len boot_lenU a)) (we_int)) (wa_nil))))))))
  exact ⟨_, Y⟩
theorem sc__law_all_right : FnScope ["_law_rows", "_law_plan_here", "_law_works", "_law_work", "_law_is_due", "_law_due", "_law_most", "_law_owned_here"] ["_law_rows", "_law_plan_here"] (defScope s__law_all_right) := ⟨rfl, rfl, rfl, by decide +kernel, rfl, by decide +kernel, by decide +kernel⟩
theorem ok__law_all_right {f__law_is_great : Addr} {fd__law_is_great : FuncData} {f__law_is_chain : Addr} {fd__law_is_chain : FuncData} {f_cheapest : Addr} {fd_cheapest : FuncData} {f_cells_of : Addr} {fd_cells_of : FuncData} {f_is_plan : Addr} {fd_is_plan : FuncData} {f_cost : Addr} {fd_cost : FuncData} {f_deeds_for : Addr} {fd_deeds_for : FuncData} {f__law_span : Addr} {fd__law_span : FuncData} {c P_ : Addr} (F : FunC K "_law_all_right" "_law_all_right" s__law_all_right f fd c) (T : Txt mg) (Hx : ∀ c ∈ (xs0 : List Nat), PySem.W.exmOne K (.ref (CA c)) (.ref (CA 1)) = some true) (XE : ∀ c ∈ (xs0 : List Nat), ExcOk K (CA c)) (Xf : XFd K CA) (SMb : SM base) (C : Cst K CA mg) (Fl : Fld K CA) (Kt : KtOk K CA [0] kt0) (TB : LamX.TabB base mg c P_) (hmT : (P_, ("_law_all_right" : Str) ++ (".<locals>." : Str) ++ ("<lambda>" : Str)) ∈ CA.T) (hu : ∀ p ∈ CA.T, p.1 = P_ → p.2 = ("_law_all_right" : Str) ++ (".<locals>." : Str) ++ ("<lambda>" : Str)) (B__law_is_great_1 : KwB K CA fd__law_is_great ["_law_rows"] 1 [] (srcP 0 1)) (D__law_is_great : Df P w K mg base CA "_law_is_great" false 3 ["_law_rows"] F__law_is_great f__law_is_great fd__law_is_great) (B__law_is_chain_1 : KwB K CA fd__law_is_chain ["_law_thing_here"] 1 [] (srcP 0 1)) (D__law_is_chain : Df P w K mg base CA "_law_is_chain" false 2 ["_law_thing_here"] F__law_is_chain f__law_is_chain fd__law_is_chain) (B_cheapest_1 : KwB K CA fd_cheapest ["chain"] 1 [] (srcP 0 1)) (D_cheapest : Df P w K mg base CA "cheapest" false 4 ["chain"] F_cheapest f_cheapest fd_cheapest) (B_cells_of_1 : KwB K CA fd_cells_of ["chain"] 1 [] (srcP 0 1)) (D_cells_of : Df P w K mg base CA "cells_of" false 4 ["chain"] F_cells_of f_cells_of fd_cells_of) (B_is_plan_2 : KwB K CA fd_is_plan ["chain", "thing"] 2 [] (srcP 0 2)) (D_is_plan : Df P w K mg base CA "is_plan" false 32 ["chain", "thing"] F_is_plan f_is_plan fd_is_plan) (B_cost_2 : KwB K CA fd_cost ["chain", "plan"] 2 [] (srcP 0 2)) (D_cost : Df P w K mg base CA "cost" false 41 ["chain", "plan"] F_cost f_cost fd_cost) (B_deeds_for_0_plan_chain : KwB K CA fd_deeds_for ["chain", "plan"] 0 ["plan", "chain"] ([.k 1, .k 0])) (D_deeds_for : Df P w K mg base CA "deeds_for" false 34 ["chain", "plan"] F_deeds_for f_deeds_for fd_deeds_for) (L__law_refusal : ∀ kb : Nat, Dl P w K mg base CA "_law_refusal" false (kb + 3) kb ["_law_work"] 0 F__law_refusal) (B__law_span_1 : KwB K CA fd__law_span ["_law_thing_here"] 1 [] (srcP 0 1)) (D__law_span : Df P w K mg base CA "_law_span" false 31 ["_law_thing_here"] F__law_span f__law_span fd__law_span) (B_is_plan_0_thing_chain : KwB K CA fd_is_plan ["chain", "thing"] 0 ["thing", "chain"] ([.k 1, .k 0])) (B_deeds_for_2 : KwB K CA fd_deeds_for ["chain", "plan"] 2 [] (srcP 0 2)) (B_cells_of_0_chain : KwB K CA fd_cells_of ["chain"] 0 ["chain"] ([.k 0])) : FnG P w K mg base true 47 f fd ["_law_rows", "_law_plan_here"] (spD K CA 2 (bodyF 8 u__law_all_right)) := by
  have nd := (sc__law_all_right).nd
  refine okDL F sc__law_all_right rfl rfl fun A outer s H E hg hr tk => ?_
  have Y : WSs (cxD P w K mg base ["_law_rows", "_law_plan_here", "_law_works", "_law_work", "_law_is_due", "_law_due", "_law_most", "_law_owned_here"] "_law_all_right" s__law_all_right f (.ref c) A outer s H E) K CA (wxD E) (defBody s__law_all_right) _ _ := wss_cons (ws_if (wt_val (we_callP D__law_is_great noG (hr.mono (by decide)) tk (wa_cons (we_var (pv 0)) (wa_nil)) B__law_is_great_1)) (wss_one (ws_ret (we_bl))) (wss_nil)) (wss_cons (ws_if (wt_not (wt_val (we_callP D__law_is_chain noG (hr.mono (by decide)) tk (wa_cons (we_var (pv 0)) (wa_nil)) B__law_is_chain_1))) (wss_reg (ix := 2) TB hmT hu (LamB.ok_of (kb := 43) (hr.mono (by decide)) (by kernel_rfl) (fun A outer s H E f c hr tk => we_callP D_cheapest noG (hr.mono (by decide)) tk (wa_cons (we_var (pv 0)) (wa_nil)) B_cheapest_1)) nd rfl (by first | exact Or.inl rfl | exact Or.inr rfl) (wr_app TB hmT hu (LamB.ok_of (kb := 43) (hr.mono (by decide)) (by kernel_rfl) (fun A outer s H E f c hr tk => we_callP D_cells_of noG (hr.mono (by decide)) tk (wa_cons (we_var (pv 0)) (wa_nil)) B_cells_of_1)) nd rfl (by first | exact Or.inl rfl | exact Or.inr (Or.inl rfl) | exact Or.inr (Or.inr rfl)) (wr_app TB hmT hu (LamB.ok_of (kb := 43) (hr.mono (by decide)) (by kernel_rfl) (fun A outer s H E f c hr tk => we_callP D_is_plan noG (hr.mono (by decide)) tk (wa_cons (we_var (pv 0)) (wa_cons (we_var (pv 1)) (wa_nil))) B_is_plan_2)) nd rfl (by first | exact Or.inl rfl | exact Or.inr (Or.inl rfl) | exact Or.inr (Or.inr rfl)) (wr_app TB hmT hu (LamB.ok_of (kb := 43) (hr.mono (by decide)) (by kernel_rfl) (fun A outer s H E f c hr tk => we_callP D_cost noG (hr.mono (by decide)) tk (wa_cons (we_var (pv 0)) (wa_cons (we_var (pv 1)) (wa_nil))) B_cost_2)) nd rfl (by first | exact Or.inl rfl | exact Or.inr (Or.inl rfl) | exact Or.inr (Or.inr rfl)) (wr_app TB hmT hu (LamB.ok_of (kb := 43) (hr.mono (by decide)) (by kernel_rfl) (fun A outer s H E f c hr tk => we_callK0 D_deeds_for noG (hr.mono (by decide)) tk (wk_cons (we_var (pv 1)) (wk_cons (we_var (pv 0)) (wk_nil))) B_deeds_for_0_plan_chain)) nd rfl (by first | exact Or.inl rfl | exact Or.inr (Or.inl rfl) | exact Or.inr (Or.inr rfl)) (wr_ret (dE := fun d => d) (lq_of (own := [("_law_work", 3)]) (iy := 3) (ix := 2) (tE := fun tc => tc) (L__law_refusal 43) noG (hr.mono (by decide)) rfl nd (fun s_ H_ C_ cl_ fp_ => pg_name (i := 3) nd rfl (by first | exact Or.inl rfl | exact Or.inr rfl)) (fun s_ H_ C_ cl_ fp_ => fun tc h => h) (fun _ _ _ _ _ _ hq q => hq _ q) (blkOk_by (N := ["_law_rows", "_law_plan_here", "_law_works", "_law_work", "_law_is_due", "_law_due", "_law_most", "_law_owned_here"]) (sc := defScope s__law_all_right) (by decide +kernel)) rfl (by first | exact Or.inl rfl | exact Or.inr (Or.inl rfl) | exact Or.inr (Or.inr rfl)) rfl (fun cl_ C_ => (by first | exact Or.inl rfl | exact Or.inr (Or.inl rfl) | exact Or.inr (Or.inr rfl))) (by decide)) sim_idE (fun pn => (op_eqU hr.units)) sim_eq (fun pn => we_op op_mulU (sim_mul (nm := false)) (we_lst false (wa_cons (we_tup (wa_cons (we_str) (wa_cons (we_non) (wa_nil)))) (wa_nil))) (we_int)))))))) (wss_nil)) (wss_cons (ws_set (we_cmp (op_eqU hr.units) sim_eq (we_callP D__law_span noG (hr.mono (by decide)) tk (wa_cons (we_var (pv 1)) (wa_nil)) B__law_span_1) (we_lstR false (we_cb sim_len (wa_cons (we_var (pv 0)) (wa_nil)) (fun a => pe_callB (call_lenU rfl call_lenRd) (by rfl) T.z_len boot_lenU a)) T.z_list T.z_range) (by rfl)) (fun q => ps_set (i := 4) nd rfl (by first | exact Or.inl rfl | exact Or.inr rfl) q)) (wss_cons (ws_if (wt_cmp (op_neU hr.units) sim_ne (we_cb sim_rep (wa_cons (we_lst false (wa_cons (we_callP D_is_plan noG (hr.mono (by decide)) tk (wa_cons (we_var (pv 0)) (wa_cons (we_var (pv 1)) (wa_nil))) B_is_plan_2) (wa_cons (we_callK0 D_is_plan noG (hr.mono (by decide)) tk (wk_cons (we_var (pv 1)) (wk_cons (we_var (pv 0)) (wk_nil))) B_is_plan_0_thing_chain) (wa_nil)))) (wa_nil)) (fun a => pe_callB (call_rep SMb (hg rfl) hr.units) (by rfl) T.z_repr boot_reprU a)) (we_cb sim_rep (wa_cons (we_lst false (wa_cons (we_var (pv 4)) (wa_cons (we_var (pv 4)) (wa_nil)))) (wa_nil)) (fun a => pe_callB (call_rep SMb (hg rfl) hr.units) (by rfl) T.z_repr boot_reprU a)) (by rfl)) (wss_one (ws_ret (we_bl))) (wss_nil)) (wss_cons (ws_set (we_ifExp (wt_val (we_var (pv 4))) (we_tup (wa_cons (we_str) (wa_cons (we_non) (wa_nil)))) (we_tup (wa_cons (we_str) (wa_cons (we_non) (wa_nil))))) (fun q => ps_set (i := 5) nd rfl (by first | exact Or.inl rfl | exact Or.inr rfl) q)) (wss_reg (ix := 2) TB hmT hu (LamB.ok_of (kb := 43) (hr.mono (by decide)) (by kernel_rfl) (fun A outer s H E f c hr tk => we_callP D_cost noG (hr.mono (by decide)) tk (wa_cons (we_var (pv 0)) (wa_cons (we_var (pv 1)) (wa_nil))) B_cost_2)) nd rfl (by first | exact Or.inl rfl | exact Or.inr rfl) (wr_app TB hmT hu (LamB.ok_of (kb := 43) (hr.mono (by decide)) (by kernel_rfl) (fun A outer s H E f c hr tk => we_callP D_deeds_for noG (hr.mono (by decide)) tk (wa_cons (we_var (pv 0)) (wa_cons (we_var (pv 1)) (wa_nil))) B_deeds_for_2)) nd rfl (by first | exact Or.inl rfl | exact Or.inr (Or.inl rfl) | exact Or.inr (Or.inr rfl)) (wr_if (dE := fun d => d) (lq_of (own := [("_law_work", 3)]) (iy := 3) (ix := 2) (tE := fun tc => tc) (L__law_refusal 43) noG (hr.mono (by decide)) rfl nd (fun s_ H_ C_ cl_ fp_ => pg_name (i := 3) nd rfl (by first | exact Or.inl rfl | exact Or.inr rfl)) (fun s_ H_ C_ cl_ fp_ => fun tc h => h) (fun _ _ _ _ _ _ hq q => hq _ q) (blkOk_by (N := ["_law_rows", "_law_plan_here", "_law_works", "_law_work", "_law_is_due", "_law_due", "_law_most", "_law_owned_here"]) (sc := defScope s__law_all_right) (by decide +kernel)) rfl (by first | exact Or.inl rfl | exact Or.inr (Or.inl rfl) | exact Or.inr (Or.inr rfl)) rfl (fun cl_ C_ => (by first | exact Or.inl rfl | exact Or.inr (Or.inl rfl) | exact Or.inr (Or.inr rfl))) (by decide)) sim_idE (fun pn => (op_neU hr.units)) sim_ne (fun pn => we_lst false (wa_cons (we_var (pv 5)) (wa_cons (we_var (pv 5)) (wa_nil)))) (wss_one (ws_ret (we_bl))) (wss_nil) (wss_cons (ws_set (we_cb sim_maxS (wa_cons (we_op op_addU (sim_add (nm := false)) (we_lst false (wa_cons (we_int) (wa_nil))) (we_lc false rfl nd (own := [("_law_owned_here", 7)]) (wi_seq (we_var (pv 0))) (blkOk_by (N := ["_law_rows", "_law_plan_here", "_law_works", "_law_work", "_law_is_due", "_law_due", "_law_most", "_law_owned_here"]) (sc := defScope s__law_all_right) (by decide +kernel)) (fun s_ H_ C_ cl_ fp_ => wg_name (pg_name (i := 7) nd rfl (by first | exact Or.inl rfl | exact Or.inr rfl))) (fun s_ H_ C_ cl_ fp_ => wts_one (wt_cmp (op_neU hr.units) sim_ne (we_var (pv 7)) (we_tup (wa_nil)) (by rfl))) (fun s_ H_ C_ cl_ fp_ => we_op op_addU (sim_add (nm := false)) (we_cb sim_maxS (wa_cons (we_var (pv 7)) (wa_nil)) (fun a => pe_callB call_maxS (by rfl) T.z_max boot_maxU a)) (we_int)) (by decide))) (wa_nil)) (fun a => pe_callB call_maxS (by rfl) T.z_max boot_maxU a)) (fun q => ps_set (i := 6) nd rfl (by first | exact Or.inl rfl | exact Or.inr rfl) q)) (wss_one (ws_ret (we_cmp (op_eqU hr.units) sim_eq (we_cb sim_rep (wa_cons (we_lst false (wa_cons (we_callP D_cells_of noG (hr.mono (by decide)) tk (wa_cons (we_var (pv 0)) (wa_nil)) B_cells_of_1) (wa_cons (we_callK0 D_cells_of noG (hr.mono (by decide)) tk (wk_cons (we_var (pv 0)) (wk_nil)) B_cells_of_0_chain) (wa_nil)))) (wa_nil)) (fun a => pe_callB (call_rep SMb (hg rfl) hr.units) (by rfl) T.z_repr boot_reprU a)) (we_cb sim_rep (wa_cons (we_lst false (wa_cons (we_var (pv 6)) (wa_cons (we_var (pv 6)) (wa_nil)))) (wa_nil)) (fun a => pe_callB (call_rep SMb (hg rfl) hr.units) (by rfl) T.z_repr boot_reprU a)) (by rfl))))))))))))
  exact ⟨_, Y⟩
theorem sc__law_odd : FnScope ["_law_draw", "_law_some"] ["_law_draw"] (defScope s__law_odd) := ⟨rfl, rfl, rfl, by decide +kernel, rfl, by decide +kernel, by decide +kernel⟩
theorem ok__law_odd {f__law_pick : Addr} {fd__law_pick : FuncData} (F : Fun K "_law_odd" "_law_odd" s__law_odd f fd) (T : Txt mg) (Hx : ∀ c ∈ (xs0 : List Nat), PySem.W.exmOne K (.ref (CA c)) (.ref (CA 1)) = some true) (XE : ∀ c ∈ (xs0 : List Nat), ExcOk K (CA c)) (Xf : XFd K CA) (SMb : SM base) (C : Cst K CA mg) (Fl : Fld K CA) (Kt : KtOk K CA [0] kt0) (B__law_pick_2 : KwB K CA fd__law_pick ["_law_draw", "_law_some"] 2 [] (srcP 0 2)) (D__law_pick : Df P w K mg base CA "_law_pick" false 3 ["_law_draw", "_law_some"] F__law_pick f__law_pick fd__law_pick) : FnG P w K mg base false 4 f fd ["_law_draw"] (spD K CA 1 (bodyF 2 u__law_odd)) := by
  have nd := (sc__law_odd).nd
  refine okD F sc__law_odd rfl rfl fun cd A outer s H E hg hr tk => ?_
  have Y : WSs (cxD P w K mg base ["_law_draw", "_law_some"] "_law_odd" s__law_odd f cd A outer s H E) K CA (wxD E) (defBody s__law_odd) _ _ := wss_cons (ws_set (we_lst false (wa_cons (we_non) (wa_cons (we_bl) (wa_cons (we_bl) (wa_cons (we_neg (we_int)) (wa_cons (we_int) (wa_cons (we_int) (wa_cons (we_op op_pow sim_pow (we_int) (we_int)) (wa_cons (we_str) (wa_cons (we_str) (wa_cons (we_str) (wa_cons (we_str) (wa_cons (we_tup (wa_nil)) (wa_cons (we_tup (wa_cons (we_int) (wa_nil))) (wa_cons (we_lst false (wa_nil)) (wa_cons (we_lst false (wa_cons (we_int) (wa_nil))) (wa_cons (we_dnew false) (wa_cons (we_disp false (wp_cons (we_int) (we_int) (wp_nil)) (by rfl) (by rfl) (by decide) (by decide)) (wa_cons (we_tup (wa_cons (we_tup (wa_nil)) (wa_nil))) (wa_nil)))))))))))))))))))) (fun q => ps_set (i := 1) nd rfl (by first | exact Or.inl rfl | exact Or.inr rfl) q)) (wss_one (ws_ret (we_callP D__law_pick noG (hr.mono (by decide)) tk (wa_cons (we_var (pv 0)) (wa_cons (we_op op_addU (sim_add (nm := false)) (we_var (pv 1)) (we_lst false (wa_cons (we_tup (wa_cons (we_str) (wa_cons (we_int) (wa_cons (we_int) (wa_nil))))) (wa_cons (we_tup (wa_cons (we_str) (wa_nil))) (wa_cons (we_tup (wa_cons (we_str) (wa_cons (we_int) (wa_cons (we_int) (wa_cons (we_int) (wa_nil)))))) (wa_cons (we_lst false (wa_cons (we_tup (wa_cons (we_int) (wa_nil))) (wa_nil))) (wa_cons (we_str) (wa_cons (we_tup (wa_cons (we_bl) (wa_nil))) (wa_cons (we_tup (wa_cons (we_non) (wa_nil))) (wa_nil)))))))))) (wa_nil))) B__law_pick_2)))
  exact ⟨_, Y⟩
theorem sc__law_bent : FnScope ["_law_draw", "_law_thing_here", "_law_spare", "_law_at", "_law_way", "_law_left", "_law_other"] ["_law_draw", "_law_thing_here"] (defScope s__law_bent) := ⟨rfl, rfl, rfl, by decide +kernel, rfl, by decide +kernel, by decide +kernel⟩
theorem ok__law_bent {f__law_take : Addr} {fd__law_take : FuncData} {f__law_pick : Addr} {fd__law_pick : FuncData} {f__law_odd : Addr} {fd__law_odd : FuncData} {f__law_bent : Addr} {fd__law_bent : FuncData} (j : Nat) {R_ : FD} (F : Fun K "_law_bent" "_law_bent" s__law_bent f fd) (T : Txt mg) (Hx : ∀ c ∈ (xs0 : List Nat), PySem.W.exmOne K (.ref (CA c)) (.ref (CA 1)) = some true) (XE : ∀ c ∈ (xs0 : List Nat), ExcOk K (CA c)) (Xf : XFd K CA) (SMb : SM base) (C : Cst K CA mg) (Fl : Fld K CA) (Kt : KtOk K CA [0] kt0) (B__law_take_2 : KwB K CA fd__law_take ["_law_draw", "_law_size"] 2 [] (srcP 0 2)) (D__law_take : Df P w K mg base CA "_law_take" false 2 ["_law_draw", "_law_size"] F__law_take f__law_take fd__law_take) (B__law_pick_2 : KwB K CA fd__law_pick ["_law_draw", "_law_some"] 2 [] (srcP 0 2)) (D__law_pick : Df P w K mg base CA "_law_pick" false 3 ["_law_draw", "_law_some"] F__law_pick f__law_pick fd__law_pick) (B__law_odd_1 : KwB K CA fd__law_odd ["_law_draw"] 1 [] (srcP 0 1)) (D__law_odd : Df P w K mg base CA "_law_odd" false 4 ["_law_draw"] F__law_odd f__law_odd fd__law_odd) (B__law_bent_2 : KwB K CA fd__law_bent ["_law_draw", "_law_thing_here"] 2 [] (srcP 0 2)) (D__law_bent : Df P w K mg base CA "_law_bent" false (4 + j) ["_law_draw", "_law_thing_here"] R_ f__law_bent fd__law_bent) : FnG P w K mg base false (4 + j + 1) f fd ["_law_draw", "_law_thing_here"] (spD K CA 2 (bodyF 7 (u__law_bent R_))) := by
  have nd := (sc__law_bent).nd
  refine okD F sc__law_bent rfl rfl fun cd A outer s H E hg hr tk => ?_
  have Y : WSs (cxD P w K mg base ["_law_draw", "_law_thing_here", "_law_spare", "_law_at", "_law_way", "_law_left", "_law_other"] "_law_bent" s__law_bent f cd A outer s H E) K CA (wxD E) (defBody s__law_bent) _ _ := wss_cons (ws_set (we_lst false (wa_cons (we_neg (we_int)) (wa_cons (we_int) (wa_cons (we_int) (wa_cons (we_int) (wa_cons (we_int) (wa_cons (we_bl) (wa_cons (we_bl) (wa_cons (we_non) (wa_cons (we_str) (wa_cons (we_str) (wa_cons (we_str) (wa_cons (we_str) (wa_cons (we_tup (wa_nil)) (wa_cons (we_lst false (wa_nil)) (wa_cons (we_tup (wa_cons (we_int) (wa_nil))) (wa_cons (we_tup (wa_cons (we_str) (wa_cons (we_int) (wa_cons (we_int) (wa_nil))))) (wa_nil)))))))))))))))))) (fun q => ps_set (i := 2) nd rfl (by first | exact Or.inl rfl | exact Or.inr rfl) q)) (wss_cons (ws_if (CM.WW.wt (ww_or (wt_not (wt_val (we_cb (sim_isT Kt) (wa_cons (we_var (pv 1)) (wa_cons (we_tup (wa_cons (we_ty (pe_bltn (by rfl) T.z_list boot_listU rfl)) (wa_cons (we_ty (pe_bltn (by rfl) T.z_tuple boot_tupleU rfl)) (wa_nil)))) (wa_nil))) (fun a => pe_callB call_isiTU (by rfl) T.z_isinstance boot_isinstanceU a)))) (ww_or (wt_cmp (op_eqU hr.units) sim_eq (we_cb sim_len (wa_cons (we_var (pv 1)) (wa_nil)) (fun a => pe_callB (call_lenU rfl call_lenRd) (by rfl) T.z_len boot_lenU a)) (we_int) (by rfl)) (ww_or1 (wt_cmp (op_eqU hr.units) sim_eq (we_callP D__law_take noG (hr.mono (by omega)) tk (wa_cons (we_var (pv 0)) (wa_cons (we_int) (wa_nil))) B__law_take_2) (we_int) (by rfl)))))) (wss_one (ws_ret (we_callP D__law_pick noG (hr.mono (by omega)) tk (wa_cons (we_var (pv 0)) (wa_cons (we_op op_addU (sim_add (nm := false)) (we_var (pv 2)) (we_lst false (wa_cons (we_callP D__law_odd noG (hr.mono (by omega)) tk (wa_cons (we_var (pv 0)) (wa_nil)) B__law_odd_1) (wa_nil)))) (wa_nil))) B__law_pick_2))) (wss_nil)) (wss_cons (ws_par3 (wa_cons (we_callP D__law_take noG (hr.mono (by omega)) tk (wa_cons (we_var (pv 0)) (wa_cons (we_cb sim_len (wa_cons (we_var (pv 1)) (wa_nil)) (fun a => pe_callB (call_lenU rfl call_lenRd) (by rfl) T.z_len boot_lenU a)) (wa_nil))) B__law_take_2) (wa_cons (we_callP D__law_take noG (hr.mono (by omega)) tk (wa_cons (we_var (pv 0)) (wa_cons (we_int) (wa_nil))) B__law_take_2) (wa_cons (we_cb (sim_listOf (nm := true)) (wa_cons (we_var (pv 1)) (wa_nil)) (fun a => pe_callTy call_listOf (by rfl) T.z_list boot_listU a)) (wa_nil)))) (fun q => ps_par3 (i := 3) (j := 4) (l := 5) rfl nd rfl rfl rfl (by decide) (by decide) (by decide) rfl rfl rfl q (by rfl))) (wss_cons (ws_if (wt_cmp (op_eqU hr.units) sim_eq (we_var (pv 4)) (we_int) (by rfl)) (wss_one (ws_expr (we_bm (T := "list") (r := rPopAt) sim_popAt (we_var (pv 5)) (wa_cons (we_var (pv 3)) (wa_nil)) (fun a b => pe_bm PySem.F.plainAttrs_list PySem.F.slot_list_pop PySem.F.type_list_pop mt_popAt a b)))) (wss_one (ws_if (wt_cmp (op_eqU hr.units) sim_eq (we_var (pv 4)) (we_int) (by rfl)) (wss_one (ws_expr (we_bm (T := "list") (r := rInsert) sim_insert (we_var (pv 5)) (wa_cons (we_var (pv 3)) (wa_cons (we_callP D__law_pick noG (hr.mono (by omega)) tk (wa_cons (we_var (pv 0)) (wa_cons (we_op op_addU (sim_add (nm := false)) (we_var (pv 2)) (we_lst false (wa_cons (we_ix (ixU (hu_of hr)) sim_ix (we_var (pv 5)) (we_var (pv 3))) (wa_nil)))) (wa_nil))) B__law_pick_2) (wa_nil))) (fun a b => pe_bm PySem.F.plainAttrs_list PySem.F.slot_list_insert PySem.F.type_list_insert mt_insert a b)))) (wss_one (ws_if (wt_cmp (op_eqU hr.units) sim_eq (we_var (pv 4)) (we_int) (by rfl)) (wss_one (ws_ret (we_fzI (we_ifExp (wt_val (we_cb (sim_isX (fun c hc => (XE c hc).toXkC) Kt) (wa_cons (we_var (pv 1)) (wa_cons (we_ty (pe_bltn (by rfl) T.z_list boot_listU rfl)) (wa_nil))) (fun a => pe_callB call_isX (by rfl) T.z_isinstance boot_isinstanceU a))) (we_cb sim_tupOf (wa_cons (we_var (pv 5)) (wa_nil)) (fun a => pe_callTy call_tupOf (by rfl) T.z_tuple boot_tupleU a)) (we_var (pv 5)))))) (wss_one (ws_if (wt_cmp (op_eqU hr.units) sim_eq (we_var (pv 4)) (we_int) (by rfl)) (wss_cons (ws_set (we_callP D__law_take noG (hr.mono (by omega)) tk (wa_cons (we_var (pv 0)) (wa_cons (we_cb sim_len (wa_cons (we_var (pv 5)) (wa_nil)) (fun a => pe_callB (call_lenU rfl call_lenRd) (by rfl) T.z_len boot_lenU a)) (wa_nil))) B__law_take_2) (fun q => ps_set (i := 6) nd rfl (by first | exact Or.inl rfl | exact Or.inr rfl) q)) (wss_one (ws_asg (we_tup (wa_cons (we_ix (ixU (hu_of hr)) sim_ix (we_var (pv 5)) (we_var (pv 6))) (wa_cons (we_ix (ixU (hu_of hr)) sim_ix (we_var (pv 5)) (we_var (pv 3))) (wa_nil)))) (wg_tup (n := 2) rfl (wgs_cons (wg_sub (W := wxD E) (hu_of hr) (we_var (pv 5)) (we_var (pv 3)) (fun a b c => pg_sub a b c)) (wgs_cons (wg_sub (W := wxD E) (hu_of hr) (we_var (pv 5)) (we_var (pv 6)) (fun a b c => pg_sub a b c)) (wgs_nil))))))) (wss_one (ws_asg (we_callP D__law_bent noG (hr.mono (by omega)) tk (wa_cons (we_var (pv 0)) (wa_cons (we_ix (ixU (hu_of hr)) sim_ix (we_var (pv 5)) (we_var (pv 3))) (wa_nil))) B__law_bent_2) (wg_sub (W := wxD E) (hu_of hr) (we_var (pv 5)) (we_var (pv 3)) (fun a b c => pg_sub a b c))))))))))) (wss_one (ws_ret (we_fzI (we_ifExp (wt_val (we_cb (sim_isX (fun c hc => (XE c hc).toXkC) Kt) (wa_cons (we_var (pv 1)) (wa_cons (we_ty (pe_bltn (by rfl) T.z_tuple boot_tupleU rfl)) (wa_nil))) (fun a => pe_callB call_isX (by rfl) T.z_isinstance boot_isinstanceU a))) (we_cb sim_tupOf (wa_cons (we_var (pv 5)) (wa_nil)) (fun a => pe_callTy call_tupOf (by rfl) T.z_tuple boot_tupleU a)) (we_var (pv 5)))))))))
  exact ⟨_, Y⟩
theorem sc_law : FnScope ["_law_script", "_law_draw", "_law_turn", "_law_rows", "_law_plan_here", "_law_some", "_law_near", "_law_bent_here", "_law_other", "_law_change", "_law_shown"] ["_law_script"] (defScope s_law) := ⟨rfl, rfl, rfl, by decide +kernel, rfl, by decide +kernel, by decide +kernel⟩
theorem ok_law {f__law_begun : Addr} {fd__law_begun : FuncData} {f__law_chain : Addr} {fd__law_chain : FuncData} {f__law_plan : Addr} {fd__law_plan : FuncData} {f__law_all_right : Addr} {fd__law_all_right : FuncData} {f__law_pick : Addr} {fd__law_pick : FuncData} {f__law_take : Addr} {fd__law_take : FuncData} {f__law_bent : Addr} {fd__law_bent : FuncData} (F : Fun K "law" "law" s_law f fd) (T : Txt mg) (Hx : ∀ c ∈ (xs0 : List Nat), PySem.W.exmOne K (.ref (CA c)) (.ref (CA 1)) = some true) (XE : ∀ c ∈ (xs0 : List Nat), ExcOk K (CA c)) (Xf : XFd K CA) (SMb : SM base) (C : Cst K CA mg) (Fl : Fld K CA) (Kt : KtOk K CA [0] kt0) (B__law_begun_1 : KwB K CA fd__law_begun ["_law_script"] 1 [] (srcP 0 1)) (D__law_begun : Df P w K mg base CA "_law_begun" false 1 ["_law_script"] F__law_begun f__law_begun fd__law_begun) (B__law_chain_3 : KwB K CA fd__law_chain ["_law_draw", "_law_least", "_law_most"] 3 [] (srcP 0 3)) (D__law_chain : Df P w K mg base CA "_law_chain" false 4 ["_law_draw", "_law_least", "_law_most"] F__law_chain f__law_chain fd__law_chain) (B__law_plan_3 : KwB K CA fd__law_plan ["_law_draw", "_law_first", "_law_last"] 3 [] (srcP 0 3)) (D__law_plan : Df P w K mg base CA "_law_plan" false 12 ["_law_draw", "_law_first", "_law_last"] F__law_plan f__law_plan fd__law_plan) (B__law_all_right_2 : KwB K CA fd__law_all_right ["_law_rows", "_law_plan_here"] 2 [] (srcP 0 2)) (D__law_all_right : Df P w K mg base CA "_law_all_right" true 47 ["_law_rows", "_law_plan_here"] F__law_all_right f__law_all_right fd__law_all_right) (B__law_pick_2 : KwB K CA fd__law_pick ["_law_draw", "_law_some"] 2 [] (srcP 0 2)) (D__law_pick : Df P w K mg base CA "_law_pick" false 3 ["_law_draw", "_law_some"] F__law_pick f__law_pick fd__law_pick) (B__law_take_2 : KwB K CA fd__law_take ["_law_draw", "_law_size"] 2 [] (srcP 0 2)) (D__law_take : Df P w K mg base CA "_law_take" false 2 ["_law_draw", "_law_size"] F__law_take f__law_take fd__law_take) (B__law_bent_2 : KwB K CA fd__law_bent ["_law_draw", "_law_thing_here"] 2 [] (srcP 0 2)) (D__law_bent : Df P w K mg base CA "_law_bent" false 34 ["_law_draw", "_law_thing_here"] F__law_bent f__law_bent fd__law_bent) : FnG P w K mg base true 48 f fd ["_law_script"] (spD K CA 1 (bodyF 11 u_law)) := by
  have nd := (sc_law).nd
  refine okD F sc_law rfl rfl fun cd A outer s H E hg hr tk => ?_
  have Y : WSs (cxD P w K mg base ["_law_script", "_law_draw", "_law_turn", "_law_rows", "_law_plan_here", "_law_some", "_law_near", "_law_bent_here", "_law_other", "_law_change", "_law_shown"] "law" s_law f cd A outer s H E) K CA (wxD E) (defBody s_law) _ _ := wss_cons (ws_set (we_callP D__law_begun noG (hr.mono (by decide)) tk (wa_cons (we_var (pv 0)) (wa_nil)) B__law_begun_1) (fun q => ps_set (i := 1) nd rfl (by first | exact Or.inl rfl | exact Or.inr rfl) q)) (wss_cons (ws_for (wi_rng1 (wa_cons (we_op op_addU (sim_add (nm := false)) (we_int) (we_cb sim_min (wa_cons (we_cb sim_len (wa_cons (we_var (pv 0)) (wa_nil)) (fun a => pe_callB (call_lenU rfl call_lenRd) (by rfl) T.z_len boot_lenU a)) (wa_cons (we_int) (wa_nil))) (fun a => pe_callB call_minU (by rfl) T.z_min boot_minU a))) (wa_nil)) (fun a => pi_range1 (by rfl) T.z_range a)) (wg_name (pg_name (i := 2) nd rfl (by first | exact Or.inl rfl | exact Or.inr rfl))) (wss_cons (ws_set (we_callP D__law_chain noG (hr.mono (by decide)) tk (wa_cons (we_var (pv 1)) (wa_cons (we_int) (wa_cons (we_int) (wa_nil)))) B__law_chain_3) (fun q => ps_set (i := 3) nd rfl (by first | exact Or.inl rfl | exact Or.inr rfl) q)) (wss_cons (ws_set (we_callP D__law_plan noG (hr.mono (by decide)) tk (wa_cons (we_var (pv 1)) (wa_cons (we_int) (wa_cons (we_op op_sub sim_subI (we_cb sim_len (wa_cons (we_var (pv 3)) (wa_nil)) (fun a => pe_callB (call_lenU rfl call_lenRd) (by rfl) T.z_len boot_lenU a)) (we_int)) (wa_nil)))) B__law_plan_3) (fun q => ps_set (i := 4) nd rfl (by first | exact Or.inl rfl | exact Or.inr rfl) q)) (wss_cons (ws_if (CM.WW.wt (ww_or (wt_not (wt_val (we_callP D__law_all_right hg (hr.mono (by decide)) tk (wa_cons (we_var (pv 3)) (wa_cons (we_var (pv 4)) (wa_nil))) B__law_all_right_2))) (ww_or1 (wt_not (wt_val (we_callP D__law_all_right hg (hr.mono (by decide)) tk (wa_cons (we_cb sim_tupOf (wa_cons (we_var (pv 3)) (wa_nil)) (fun a => pe_callTy call_tupOf (by rfl) T.z_tuple boot_tupleU a)) (wa_cons (we_var (pv 4)) (wa_nil))) B__law_all_right_2)))))) (wss_one (ws_ret (we_bl))) (wss_nil)) (wss_cons (ws_set (we_callP D__law_pick noG (hr.mono (by decide)) tk (wa_cons (we_var (pv 1)) (wa_cons (we_lst false (wa_cons (we_int) (wa_cons (we_int) (wa_cons (we_op op_sub sim_subI (we_cb sim_len (wa_cons (we_var (pv 3)) (wa_nil)) (fun a => pe_callB (call_lenU rfl call_lenRd) (by rfl) T.z_len boot_lenU a)) (we_int)) (wa_nil))))) (wa_nil))) B__law_pick_2) (fun q => ps_set (i := 5) nd rfl (by first | exact Or.inl rfl | exact Or.inr rfl) q)) (wss_cons (ws_for (wi_seq (we_lst false (wa_cons (we_callP D__law_plan noG (hr.mono (by decide)) tk (wa_cons (we_var (pv 1)) (wa_cons (we_int) (wa_cons (we_var (pv 5)) (wa_nil)))) B__law_plan_3) (wa_cons (we_callP D__law_plan noG (hr.mono (by decide)) tk (wa_cons (we_var (pv 1)) (wa_cons (we_var (pv 5)) (wa_cons (we_op op_addU (sim_add (nm := false)) (we_var (pv 5)) (we_int)) (wa_nil)))) B__law_plan_3) (wa_nil))))) (wg_name (pg_name (i := 6) nd rfl (by first | exact Or.inl rfl | exact Or.inr rfl))) (wss_one (ws_if (wt_not (wt_val (we_callP D__law_all_right hg (hr.mono (by decide)) tk (wa_cons (we_var (pv 3)) (wa_cons (we_var (pv 6)) (wa_nil))) B__law_all_right_2))) (wss_one (ws_ret (we_bl))) (wss_nil))) (fun i g b => ps_for (passes_of rfl) rfl i g b)) (wss_cons (ws_par (wa_cons (we_var (pv 3)) (wa_cons (we_var (pv 4)) (wa_nil))) (fun q => ps_par (i := 7) (j := 8) rfl nd rfl rfl (by decide) rfl rfl q (by rfl))) (wss_cons (ws_for (wi_rng1 (wa_cons (we_op op_addU (sim_add (nm := false)) (we_int) (we_callP D__law_take noG (hr.mono (by decide)) tk (wa_cons (we_var (pv 1)) (wa_cons (we_int) (wa_nil))) B__law_take_2)) (wa_nil)) (fun a => pi_range1 (by rfl) T.z_range a)) (wg_name (pg_name (i := 9) nd rfl (by first | exact Or.inl rfl | exact Or.inr rfl))) (wss_one (ws_if (wt_cmp (op_eqU hr.units) sim_eq (we_callP D__law_take noG (hr.mono (by decide)) tk (wa_cons (we_var (pv 1)) (wa_cons (we_int) (wa_nil))) B__law_take_2) (we_int) (by rfl)) (wss_one (ws_set (we_callP D__law_bent noG (hr.mono (by decide)) tk (wa_cons (we_var (pv 1)) (wa_cons (we_var (pv 7)) (wa_nil))) B__law_bent_2) (fun q => ps_set (i := 7) nd rfl (by first | exact Or.inl rfl | exact Or.inr rfl) q))) (wss_one (ws_set (we_callP D__law_bent noG (hr.mono (by decide)) tk (wa_cons (we_var (pv 1)) (wa_cons (we_var (pv 8)) (wa_nil))) B__law_bent_2) (fun q => ps_set (i := 8) nd rfl (by first | exact Or.inl rfl | exact Or.inr rfl) q))))) (fun i g b => ps_for (passes_of rfl) rfl i g b)) (wss_cons (ws_set (we_cb sim_rep (wa_cons (we_lst false (wa_cons (we_var (pv 7)) (wa_cons (we_var (pv 8)) (wa_nil)))) (wa_nil)) (fun a => pe_callB (call_rep SMb (hg rfl) hr.units) (by rfl) T.z_repr boot_reprU a)) (fun q => ps_set (i := 10) nd rfl (by first | exact Or.inl rfl | exact Or.inr rfl) q)) (wss_one (ws_if (CM.WW.wt (ww_or (wt_not (wt_val (we_callP D__law_all_right hg (hr.mono (by decide)) tk (wa_cons (we_var (pv 7)) (wa_cons (we_var (pv 8)) (wa_nil))) B__law_all_right_2))) (ww_or (wt_not (wt_val (we_callP D__law_all_right hg (hr.mono (by decide)) tk (wa_cons (we_var (pv 3)) (wa_cons (we_var (pv 8)) (wa_nil))) B__law_all_right_2))) (ww_or1 (wt_cmp (op_neU hr.units) sim_ne (we_cb sim_rep (wa_cons (we_lst false (wa_cons (we_var (pv 7)) (wa_cons (we_var (pv 8)) (wa_nil)))) (wa_nil)) (fun a => pe_callB (call_rep SMb (hg rfl) hr.units) (by rfl) T.z_repr boot_reprU a)) (we_var (pv 10)) (by rfl)))))) (wss_one (ws_ret (we_bl))) (wss_nil))))))))))) (fun i g b => ps_for (passes_of rfl) rfl i g b)) (wss_one (ws_ret (we_bl))))
  exact ⟨_, Y⟩
theorem all_mk {l : PySem.W.OpenLaw} {h : Heap} {fa : Addr} {C0 : Addr} {C1 : Addr} {C2 : Addr} {C3 : Addr} {C4 : Addr} {C5 : Addr} {C6 : Addr} {C7 : Addr} {f0 : Addr} {od0 an0 : Option Addr} {sl0 : Array (Option Value)} {oc0 kV0 dc0 pm0 cd0 ct0 : Value} {f1 : Addr} {od1 an1 : Option Addr} {sl1 : Array (Option Value)} {oc1 kV1 dc1 pm1 cd1 ct1 : Value} {f2 : Addr} {od2 an2 : Option Addr} {sl2 : Array (Option Value)} {oc2 kV2 dc2 pm2 cd2 ct2 : Value} {f3 : Addr} {od3 an3 : Option Addr} {sl3 : Array (Option Value)} {oc3 kV3 dc3 pm3 cd3 ct3 : Value} {f4 : Addr} {od4 an4 : Option Addr} {sl4 : Array (Option Value)} {oc4 kV4 dc4 pm4 cd4 ct4 : Value} {f5 : Addr} {od5 an5 : Option Addr} {sl5 : Array (Option Value)} {oc5 kV5 dc5 pm5 cd5 ct5 : Value} {f6 : Addr} {od6 an6 : Option Addr} {sl6 : Array (Option Value)} {oc6 kV6 dc6 pm6 cd6 ct6 : Value} {f7 : Addr} {od7 an7 : Option Addr} {sl7 : Array (Option Value)} {oc7 kV7 dc7 pm7 cd7 ct7 : Value} {f8 : Addr} {od8 an8 : Option Addr} {sl8 : Array (Option Value)} {oc8 kV8 dc8 pm8 cd8 ct8 : Value} {f9 : Addr} {od9 an9 : Option Addr} {sl9 : Array (Option Value)} {oc9 kV9 dc9 pm9 cd9 ct9 : Value} {f10 : Addr} {od10 an10 : Option Addr} {sl10 : Array (Option Value)} {oc10 kV10 dc10 pm10 cd10 ct10 : Value} {f11 : Addr} {od11 an11 : Option Addr} {sl11 : Array (Option Value)} {oc11 kV11 dc11 pm11 cd11 ct11 : Value} {f12 : Addr} {od12 an12 : Option Addr} {sl12 : Array (Option Value)} {oc12 kV12 dc12 pm12 cd12 ct12 : Value} {f13 : Addr} {od13 an13 : Option Addr} {sl13 : Array (Option Value)} {oc13 kV13 dc13 pm13 cd13 ct13 : Value} {f14 : Addr} {od14 an14 : Option Addr} {sl14 : Array (Option Value)} {oc14 kV14 dc14 pm14 cd14 ct14 : Value} {f15 : Addr} {od15 an15 : Option Addr} {sl15 : Array (Option Value)} {oc15 kV15 dc15 pm15 cd15 ct15 : Value} {f16 : Addr} {od16 an16 : Option Addr} {sl16 : Array (Option Value)} {oc16 kV16 dc16 pm16 cd16 ct16 : Value} {f17 : Addr} {od17 an17 : Option Addr} {sl17 : Array (Option Value)} {oc17 kV17 dc17 pm17 cd17 ct17 : Value} {f18 : Addr} {od18 an18 : Option Addr} {sl18 : Array (Option Value)} {oc18 kV18 dc18 pm18 cd18 ct18 : Value} {f19 : Addr} {od19 an19 : Option Addr} {sl19 : Array (Option Value)} {oc19 kV19 dc19 pm19 cd19 ct19 : Value} {f20 : Addr} {od20 an20 : Option Addr} {sl20 : Array (Option Value)} {oc20 kV20 dc20 pm20 cd20 ct20 : Value} {f21 : Addr} {od21 an21 : Option Addr} {sl21 : Array (Option Value)} {oc21 kV21 dc21 pm21 cd21 ct21 : Value} {f22 : Addr} {od22 an22 : Option Addr} {sl22 : Array (Option Value)} {oc22 kV22 dc22 pm22 cd22 ct22 : Value} {f23 : Addr} {od23 an23 : Option Addr} {sl23 : Array (Option Value)} {oc23 kV23 dc23 pm23 cd23 ct23 : Value} {f24 : Addr} {od24 an24 : Option Addr} {sl24 : Array (Option Value)} {oc24 kV24 dc24 pm24 cd24 ct24 : Value} {f25 : Addr} {od25 an25 : Option Addr} {sl25 : Array (Option Value)} {oc25 kV25 dc25 pm25 cd25 ct25 : Value} {f26 : Addr} {od26 an26 : Option Addr} {sl26 : Array (Option Value)} {oc26 kV26 dc26 pm26 cd26 ct26 : Value} {f27 : Addr} {od27 an27 : Option Addr} {sl27 : Array (Option Value)} {oc27 kV27 dc27 pm27 ct27 : Value} {ca27 P27 : Addr} {vs27 : Array Value} {tcl27 : Value} {tod27 : Option Addr} {tsl27 : Array (Option Value)} {f28 : Addr} {od28 an28 : Option Addr} {sl28 : Array (Option Value)} {oc28 kV28 dc28 pm28 cd28 ct28 : Value} {f29 : Addr} {od29 an29 : Option Addr} {sl29 : Array (Option Value)} {oc29 kV29 dc29 pm29 cd29 ct29 : Value} {f30 : Addr} {od30 an30 : Option Addr} {sl30 : Array (Option Value)} {oc30 kV30 dc30 pm30 cd30 ct30 : Value} {t_MOST_LAYERS : Tok} {t_KINDS0 t_KINDS1 : Tok} {p_KINDS : Addr} {dd_KINDS : Option Addr} {n_KINDS : Nat} {sl_KINDS : Array (Option Value)} {fg0 : Addr} {odg0 ang0 : Option Addr} {slg0 : Array (Option Value)} {ocg0 kVg0 dcg0 pmg0 cdg0 ctg0 : Value} (X : K.In h) (G : h.Ns mainGlobals mg) (hfa : mg "law" = some (.ref fa))
    (ac0 : PySem.W.nsIn K mainGlobals "Work" = some (some (.ref C0)))
    (ac1 : PySem.W.nsIn K mainGlobals "MergeError" = some (some (.ref C1)))
    (ac2 : PySem.W.nsIn K mainGlobals "BadDeed" = some (some (.ref C2)))
    (ac3 : PySem.W.nsIn K mainGlobals "BadNumber" = some (some (.ref C3)))
    (ac4 : PySem.W.nsIn K mainGlobals "BadBook" = some (some (.ref C4)))
    (ac5 : PySem.W.nsIn K mainGlobals "BadPlan" = some (some (.ref C5)))
    (ac6 : PySem.W.nsIn K mainGlobals "BadChain" = some (some (.ref C6)))
    (ac7 : PySem.W.nsIn K mainGlobals "BadText" = some (some (.ref C7)))
    (a0 : PySem.W.nsIn K mainGlobals "_law_begun" = some (some (.ref f0)))
    (l0 : K.lookup f0 = some ⟨oc0, od0, .func (PySem.W.fnOf "_law_begun" "_law_begun" (defArgs s__law_begun) (defBody s__law_begun) (defScope s__law_begun) .none kV0 dc0 pm0 an0 cd0 ct0), sl0⟩)
    (c0 : PySem.W.codeIn K cd0 "_law_begun" = true)
    (k0 : PySem.W.keepIn K (.ref f0) = true)
    (a1 : PySem.W.nsIn K mainGlobals "_law_mixed" = some (some (.ref f1)))
    (l1 : K.lookup f1 = some ⟨oc1, od1, .func (PySem.W.fnOf "_law_mixed" "_law_mixed" (defArgs s__law_mixed) (defBody s__law_mixed) (defScope s__law_mixed) .none kV1 dc1 pm1 an1 cd1 ct1), sl1⟩)
    (c1 : PySem.W.codeIn K cd1 "_law_mixed" = true)
    (k1 : PySem.W.keepIn K (.ref f1) = true)
    (a2 : PySem.W.nsIn K mainGlobals "_law_take" = some (some (.ref f2)))
    (l2 : K.lookup f2 = some ⟨oc2, od2, .func (PySem.W.fnOf "_law_take" "_law_take" (defArgs s__law_take) (defBody s__law_take) (defScope s__law_take) .none kV2 dc2 pm2 an2 cd2 ct2), sl2⟩)
    (c2 : PySem.W.codeIn K cd2 "_law_take" = true)
    (k2 : PySem.W.keepIn K (.ref f2) = true)
    (a3 : PySem.W.nsIn K mainGlobals "_law_pick" = some (some (.ref f3)))
    (l3 : K.lookup f3 = some ⟨oc3, od3, .func (PySem.W.fnOf "_law_pick" "_law_pick" (defArgs s__law_pick) (defBody s__law_pick) (defScope s__law_pick) .none kV3 dc3 pm3 an3 cd3 ct3), sl3⟩)
    (c3 : PySem.W.codeIn K cd3 "_law_pick" = true)
    (k3 : PySem.W.keepIn K (.ref f3) = true)
    (a4 : PySem.W.nsIn K mainGlobals "_law_owned" = some (some (.ref f4)))
    (l4 : K.lookup f4 = some ⟨oc4, od4, .func (PySem.W.fnOf "_law_owned" "_law_owned" (defArgs s__law_owned) (defBody s__law_owned) (defScope s__law_owned) .none kV4 dc4 pm4 an4 cd4 ct4), sl4⟩)
    (c4 : PySem.W.codeIn K cd4 "_law_owned" = true)
    (k4 : PySem.W.keepIn K (.ref f4) = true)
    (a5 : PySem.W.nsIn K mainGlobals "_law_chain" = some (some (.ref f5)))
    (l5 : K.lookup f5 = some ⟨oc5, od5, .func (PySem.W.fnOf "_law_chain" "_law_chain" (defArgs s__law_chain) (defBody s__law_chain) (defScope s__law_chain) .none kV5 dc5 pm5 an5 cd5 ct5), sl5⟩)
    (c5 : PySem.W.codeIn K cd5 "_law_chain" = true)
    (k5 : PySem.W.keepIn K (.ref f5) = true)
    (a6 : PySem.W.nsIn K mainGlobals "_law_plan" = some (some (.ref f6)))
    (l6 : K.lookup f6 = some ⟨oc6, od6, .func (PySem.W.fnOf "_law_plan" "_law_plan" (defArgs s__law_plan) (defBody s__law_plan) (defScope s__law_plan) .none kV6 dc6 pm6 an6 cd6 ct6), sl6⟩)
    (c6 : PySem.W.codeIn K cd6 "_law_plan" = true)
    (k6 : PySem.W.keepIn K (.ref f6) = true)
    (a7 : PySem.W.nsIn K mainGlobals "_law_is_cell" = some (some (.ref f7)))
    (l7 : K.lookup f7 = some ⟨oc7, od7, .func (PySem.W.fnOf "_law_is_cell" "_law_is_cell" (defArgs s__law_is_cell) (defBody s__law_is_cell) (defScope s__law_is_cell) .none kV7 dc7 pm7 an7 cd7 ct7), sl7⟩)
    (c7 : PySem.W.codeIn K cd7 "_law_is_cell" = true)
    (k7 : PySem.W.keepIn K (.ref f7) = true)
    (a8 : PySem.W.nsIn K mainGlobals "_law_is_chain" = some (some (.ref f8)))
    (l8 : K.lookup f8 = some ⟨oc8, od8, .func (PySem.W.fnOf "_law_is_chain" "_law_is_chain" (defArgs s__law_is_chain) (defBody s__law_is_chain) (defScope s__law_is_chain) .none kV8 dc8 pm8 an8 cd8 ct8), sl8⟩)
    (c8 : PySem.W.codeIn K cd8 "_law_is_chain" = true)
    (k8 : PySem.W.keepIn K (.ref f8) = true)
    (a9 : PySem.W.nsIn K mainGlobals "_law_is_great" = some (some (.ref f9)))
    (l9 : K.lookup f9 = some ⟨oc9, od9, .func (PySem.W.fnOf "_law_is_great" "_law_is_great" (defArgs s__law_is_great) (defBody s__law_is_great) (defScope s__law_is_great) .none kV9 dc9 pm9 an9 cd9 ct9), sl9⟩)
    (c9 : PySem.W.codeIn K cd9 "_law_is_great" = true)
    (k9 : PySem.W.keepIn K (.ref f9) = true)
    (a10 : PySem.W.nsIn K mainGlobals "_law_span" = some (some (.ref f10)))
    (l10 : K.lookup f10 = some ⟨oc10, od10, .func (PySem.W.fnOf "_law_span" "_law_span" (defArgs s__law_span) (defBody s__law_span) (defScope s__law_span) .none kV10 dc10 pm10 an10 cd10 ct10), sl10⟩)
    (c10 : PySem.W.codeIn K cd10 "_law_span" = true)
    (k10 : PySem.W.keepIn K (.ref f10) = true)
    (a11 : PySem.W.nsIn K mainGlobals "is_cell" = some (some (.ref f11)))
    (l11 : K.lookup f11 = some ⟨oc11, od11, .func (PySem.W.fnOf "is_cell" "is_cell" (defArgs s_is_cell) (defBody s_is_cell) (defScope s_is_cell) .none kV11 dc11 pm11 an11 cd11 ct11), sl11⟩)
    (c11 : PySem.W.codeIn K cd11 "is_cell" = true)
    (k11 : PySem.W.keepIn K (.ref f11) = true)
    (a12 : PySem.W.nsIn K mainGlobals "is_owned" = some (some (.ref f12)))
    (l12 : K.lookup f12 = some ⟨oc12, od12, .func (PySem.W.fnOf "is_owned" "is_owned" (defArgs s_is_owned) (defBody s_is_owned) (defScope s_is_owned) .none kV12 dc12 pm12 an12 cd12 ct12), sl12⟩)
    (c12 : PySem.W.codeIn K cd12 "is_owned" = true)
    (k12 : PySem.W.keepIn K (.ref f12) = true)
    (a13 : PySem.W.nsIn K mainGlobals "need_chain" = some (some (.ref f13)))
    (l13 : K.lookup f13 = some ⟨oc13, od13, .func (PySem.W.fnOf "need_chain" "need_chain" (defArgs s_need_chain) (defBody s_need_chain) (defScope s_need_chain) .none kV13 dc13 pm13 an13 cd13 ct13), sl13⟩)
    (c13 : PySem.W.codeIn K cd13 "need_chain" = true)
    (k13 : PySem.W.keepIn K (.ref f13) = true)
    (a14 : PySem.W.nsIn K mainGlobals "span_of" = some (some (.ref f14)))
    (l14 : K.lookup f14 = some ⟨oc14, od14, .func (PySem.W.fnOf "span_of" "span_of" (defArgs s_span_of) (defBody s_span_of) (defScope s_span_of) .none kV14 dc14 pm14 an14 cd14 ct14), sl14⟩)
    (c14 : PySem.W.codeIn K cd14 "span_of" = true)
    (k14 : PySem.W.keepIn K (.ref f14) = true)
    (a15 : PySem.W.nsIn K mainGlobals "is_plan" = some (some (.ref f15)))
    (l15 : K.lookup f15 = some ⟨oc15, od15, .func (PySem.W.fnOf "is_plan" "is_plan" (defArgs s_is_plan) (defBody s_is_plan) (defScope s_is_plan) .none kV15 dc15 pm15 an15 cd15 ct15), sl15⟩)
    (c15 : PySem.W.codeIn K cd15 "is_plan" = true)
    (k15 : PySem.W.keepIn K (.ref f15) = true)
    (a16 : PySem.W.nsIn K mainGlobals "need_plan" = some (some (.ref f16)))
    (l16 : K.lookup f16 = some ⟨oc16, od16, .func (PySem.W.fnOf "need_plan" "need_plan" (defArgs s_need_plan) (defBody s_need_plan) (defScope s_need_plan) .none kV16 dc16 pm16 an16 cd16 ct16), sl16⟩)
    (c16 : PySem.W.codeIn K cd16 "need_plan" = true)
    (k16 : PySem.W.keepIn K (.ref f16) = true)
    (a17 : PySem.W.nsIn K mainGlobals "copied" = some (some (.ref f17)))
    (l17 : K.lookup f17 = some ⟨oc17, od17, .func (PySem.W.fnOf "copied" "copied" (defArgs s_copied) (defBody s_copied) (defScope s_copied) .none kV17 dc17 pm17 an17 cd17 ct17), sl17⟩)
    (c17 : PySem.W.codeIn K cd17 "copied" = true)
    (k17 : PySem.W.keepIn K (.ref f17) = true)
    (a18 : PySem.W.nsIn K mainGlobals "owned_by" = some (some (.ref f18)))
    (l18 : K.lookup f18 = some ⟨oc18, od18, .func (PySem.W.fnOf "owned_by" "owned_by" (defArgs s_owned_by) (defBody s_owned_by) (defScope s_owned_by) .none kV18 dc18 pm18 an18 cd18 ct18), sl18⟩)
    (c18 : PySem.W.codeIn K cd18 "owned_by" = true)
    (k18 : PySem.W.keepIn K (.ref f18) = true)
    (a19 : PySem.W.nsIn K mainGlobals "cost_of" = some (some (.ref f19)))
    (l19 : K.lookup f19 = some ⟨oc19, od19, .func (PySem.W.fnOf "cost_of" "cost_of" (defArgs s_cost_of) (defBody s_cost_of) (defScope s_cost_of) .none kV19 dc19 pm19 an19 cd19 ct19), sl19⟩)
    (c19 : PySem.W.codeIn K cd19 "cost_of" = true)
    (k19 : PySem.W.keepIn K (.ref f19) = true)
    (a20 : PySem.W.nsIn K mainGlobals "cost" = some (some (.ref f20)))
    (l20 : K.lookup f20 = some ⟨oc20, od20, .func (PySem.W.fnOf "cost" "cost" (defArgs s_cost) (defBody s_cost) (defScope s_cost) .none kV20 dc20 pm20 an20 cd20 ct20), sl20⟩)
    (c20 : PySem.W.codeIn K cd20 "cost" = true)
    (k20 : PySem.W.keepIn K (.ref f20) = true)
    (a21 : PySem.W.findIn K (.ref C0) "merged" = some (some (.ref f21)))
    (fn21 : PySem.W.isFn K (.ref f21) = true)
    (l21 : K.lookup f21 = some ⟨oc21, od21, .func (PySem.W.fnOf "merged" "Work.merged" (defArgs s_Work_merged) (defBody s_Work_merged) (defScope s_Work_merged) .none kV21 dc21 pm21 an21 cd21 ct21), sl21⟩)
    (c21 : PySem.W.codeIn K cd21 "Work.merged" = true)
    (k21 : PySem.W.keepIn K (.ref f21) = true)
    (a22 : PySem.W.findIn K (.ref C0) "__init__" = some (some (.ref f22)))
    (fn22 : PySem.W.isFn K (.ref f22) = true)
    (mk22 : PySem.W.makesIn K C0 = true)
    (kc22 : PySem.W.keepIn K (.ref C0) = true)
    (l22 : K.lookup f22 = some ⟨oc22, od22, .func (PySem.W.fnOf "__init__" "Work.__init__" (defArgs s_Work_init) (defBody s_Work_init) (defScope s_Work_init) .none kV22 dc22 pm22 an22 cd22 ct22), sl22⟩)
    (c22 : PySem.W.codeIn K cd22 "Work.__init__" = true)
    (k22 : PySem.W.keepIn K (.ref f22) = true)
    (a23 : PySem.W.nsIn K mainGlobals "cells_of" = some (some (.ref f23)))
    (l23 : K.lookup f23 = some ⟨oc23, od23, .func (PySem.W.fnOf "cells_of" "cells_of" (defArgs s_cells_of) (defBody s_cells_of) (defScope s_cells_of) .none kV23 dc23 pm23 an23 cd23 ct23), sl23⟩)
    (c23 : PySem.W.codeIn K cd23 "cells_of" = true)
    (k23 : PySem.W.keepIn K (.ref f23) = true)
    (a24 : PySem.W.nsIn K mainGlobals "deeds_for" = some (some (.ref f24)))
    (l24 : K.lookup f24 = some ⟨oc24, od24, .func (PySem.W.fnOf "deeds_for" "deeds_for" (defArgs s_deeds_for) (defBody s_deeds_for) (defScope s_deeds_for) .none kV24 dc24 pm24 an24 cd24 ct24), sl24⟩)
    (c24 : PySem.W.codeIn K cd24 "deeds_for" = true)
    (k24 : PySem.W.keepIn K (.ref f24) = true)
    (a25 : PySem.W.nsIn K mainGlobals "_law_refusal" = some (some (.ref f25)))
    (l25 : K.lookup f25 = some ⟨oc25, od25, .func (PySem.W.fnOf "_law_refusal" "_law_refusal" (defArgs s__law_refusal) (defBody s__law_refusal) (defScope s__law_refusal) .none kV25 dc25 pm25 an25 cd25 ct25), sl25⟩)
    (c25 : PySem.W.codeIn K cd25 "_law_refusal" = true)
    (k25 : PySem.W.keepIn K (.ref f25) = true)
    (a26 : PySem.W.nsIn K mainGlobals "cheapest" = some (some (.ref f26)))
    (l26 : K.lookup f26 = some ⟨oc26, od26, .func (PySem.W.fnOf "cheapest" "cheapest" (defArgs s_cheapest) (defBody s_cheapest) (defScope s_cheapest) .none kV26 dc26 pm26 an26 cd26 ct26), sl26⟩)
    (c26 : PySem.W.codeIn K cd26 "cheapest" = true)
    (k26 : PySem.W.keepIn K (.ref f26) = true)
    (a27 : PySem.W.nsIn K mainGlobals "_law_all_right" = some (some (.ref f27)))
    (l27 : K.lookup f27 = some ⟨oc27, od27, .func (PySem.W.fnOf "_law_all_right" "_law_all_right" (defArgs s__law_all_right) (defBody s__law_all_right) (defScope s__law_all_right) .none kV27 dc27 pm27 an27 (.ref ca27) ct27), sl27⟩)
    (c27 : PySem.W.codeIn K (.ref ca27) "_law_all_right" = true)
    (k27 : PySem.W.keepIn K (.ref f27) = true)
    (tl27 : K.lookup ca27 = some ⟨tcl27, tod27, .fields vs27, tsl27⟩)
    (tv27 : vs27[11]? = some (.ref P27))
    (td27 : PySem.W.codeHdIn K ca27 P27 = true)
    (tn27 : K.lookup P27 = none)
    (tt27 : h.get? P27 = some { cls := .none, data := .fields #[] })
    (a28 : PySem.W.nsIn K mainGlobals "_law_odd" = some (some (.ref f28)))
    (l28 : K.lookup f28 = some ⟨oc28, od28, .func (PySem.W.fnOf "_law_odd" "_law_odd" (defArgs s__law_odd) (defBody s__law_odd) (defScope s__law_odd) .none kV28 dc28 pm28 an28 cd28 ct28), sl28⟩)
    (c28 : PySem.W.codeIn K cd28 "_law_odd" = true)
    (k28 : PySem.W.keepIn K (.ref f28) = true)
    (a29 : PySem.W.nsIn K mainGlobals "_law_bent" = some (some (.ref f29)))
    (l29 : K.lookup f29 = some ⟨oc29, od29, .func (PySem.W.fnOf "_law_bent" "_law_bent" (defArgs s__law_bent) (defBody s__law_bent) (defScope s__law_bent) .none kV29 dc29 pm29 an29 cd29 ct29), sl29⟩)
    (c29 : PySem.W.codeIn K cd29 "_law_bent" = true)
    (k29 : PySem.W.keepIn K (.ref f29) = true)
    (a30 : PySem.W.nsIn K mainGlobals "law" = some (some (.ref f30)))
    (l30 : K.lookup f30 = some ⟨oc30, od30, .func (PySem.W.fnOf "law" "law" (defArgs s_law) (defBody s_law) (defScope s_law) .none kV30 dc30 pm30 an30 cd30 ct30), sl30⟩)
    (c30 : PySem.W.codeIn K cd30 "law" = true)
    (k30 : PySem.W.keepIn K (.ref f30) = true)
    (g_MOST_LAYERS : PySem.W.nsIn K mainGlobals "MOST_LAYERS" = some (some (.int 8 t_MOST_LAYERS)))
    (g_KINDS : PySem.W.nsIn K mainGlobals "KINDS" = some (some (.ref p_KINDS)))
    (h_KINDS : K.lookup p_KINDS = some ⟨.type "tuple", dd_KINDS, .seq [.str "down" t_KINDS0, .str "up" t_KINDS1].toArray n_KINDS, sl_KINDS⟩)
    (z_abs : PySem.W.nsIn K mainGlobals "abs" = some none)
    (z_int : PySem.W.nsIn K mainGlobals "int" = some none)
    (z_len : PySem.W.nsIn K mainGlobals "len" = some none)
    (z_tuple : PySem.W.nsIn K mainGlobals "tuple" = some none)
    (z_range : PySem.W.nsIn K mainGlobals "range" = some none)
    (z_isinstance : PySem.W.nsIn K mainGlobals "isinstance" = some none)
    (z_bool : PySem.W.nsIn K mainGlobals "bool" = some none)
    (z_list : PySem.W.nsIn K mainGlobals "list" = some none)
    (z_sorted : PySem.W.nsIn K mainGlobals "sorted" = some none)
    (z_set : PySem.W.nsIn K mainGlobals "set" = some none)
    (z_max : PySem.W.nsIn K mainGlobals "max" = some none)
    (z_str : PySem.W.nsIn K mainGlobals "str" = some none)
    (z_all : PySem.W.nsIn K mainGlobals "all" = some none)
    (z_enumerate : PySem.W.nsIn K mainGlobals "enumerate" = some none)
    (z_ValueError : PySem.W.nsIn K mainGlobals "ValueError" = some none)
    (z_min : PySem.W.nsIn K mainGlobals "min" = some none)
    (z_repr : PySem.W.nsIn K mainGlobals "repr" = some none)
    (tu27 : (([(P27, ("_law_all_right" : Str) ++ (".<locals>." : Str) ++ ("<lambda>" : Str))] : List (Addr × Str)).all fun p => decide (p.1 = P27 → p.2 = ("_law_all_right" : Str) ++ (".<locals>." : Str) ++ ("<lambda>" : Str))) = true)
    (ag0 : PySem.W.nsIn K mainGlobals "_law_caught" = some (some (.ref fg0)))
    (lg0 : K.lookup fg0 = some ⟨ocg0, odg0, .func (PySem.W.fnOf "_law_caught" "_law_caught" (defArgs s__law_caught) (defBody s__law_caught) (defScope s__law_caught) .none kVg0 dcg0 pmg0 ang0 cdg0 ctg0), slg0⟩)
    (cg0 : PySem.W.codeIn K cdg0 "_law_caught" = true)
    (kg0 : PySem.W.keepIn K (.ref fg0) = true)
    (xm1 : PySem.W.exmOne K (.ref C1) (.ref C1) = some true)
    (xm2 : PySem.W.exmOne K (.ref C2) (.ref C1) = some true)
    (xm3 : PySem.W.exmOne K (.ref C3) (.ref C1) = some true)
    (xm4 : PySem.W.exmOne K (.ref C4) (.ref C1) = some true)
    (xm5 : PySem.W.exmOne K (.ref C5) (.ref C1) = some true)
    (xm6 : PySem.W.exmOne K (.ref C6) (.ref C1) = some true)
    (xm7 : PySem.W.exmOne K (.ref C7) (.ref C1) = some true)
    (be1 : excB K C1 = true)
    (be2 : excB K C2 = true)
    (be3 : excB K C3 = true)
    (be4 : excB K C4 = true)
    (be5 : excB K C5 = true)
    (be6 : excB K C6 = true)
    (be7 : excB K C7 = true)
    (xf_field : ([4].all fun c => decide (PySem.W.findIn K (.ref ((⟨fun n => [C0, C1, C2, C3, C4, C5, C6, C7].getD n 0, [(P27, ("_law_all_right" : Str) ++ (".<locals>." : Str) ++ ("<lambda>" : Str))], w⟩ : CAs) c)) "field" = some none)) = true)
    (xf_number : ([3].all fun c => decide (PySem.W.findIn K (.ref ((⟨fun n => [C0, C1, C2, C3, C4, C5, C6, C7].getD n 0, [(P27, ("_law_all_right" : Str) ++ (".<locals>." : Str) ++ ("<lambda>" : Str))], w⟩ : CAs) c)) "number" = some none)) = true)
    (xf_at : ([2].all fun c => decide (PySem.W.findIn K (.ref ((⟨fun n => [C0, C1, C2, C3, C4, C5, C6, C7].getD n 0, [(P27, ("_law_all_right" : Str) ++ (".<locals>." : Str) ++ ("<lambda>" : Str))], w⟩ : CAs) c)) "at" = some none)) = true)
    (xq5 : PySem.W.excIn K C5 veBm "ValueError.__new__" = true)
    (xq6 : PySem.W.excIn K C6 veBm "ValueError.__new__" = true)
    (bc0 : clsB K C0 = true)
    (bf0 : noB K C0 ["line", "cells_there", "begun_jobs"] = true)
    (bk : ktChk K (⟨fun n => [C0, C1, C2, C3, C4, C5, C6, C7].getD n 0, [(P27, ("_law_all_right" : Str) ++ (".<locals>." : Str) ++ ("<lambda>" : Str))], w⟩ : CAs) [[.o 0], [.o 1, .b "ValueError"], [.o 2, .o 1, .b "ValueError"], [.o 3, .o 1, .b "ValueError"], [.o 4, .o 1, .b "ValueError"], [.o 5, .o 1, .b "ValueError"], [.o 6, .o 1, .b "ValueError"], [.o 7, .o 1, .b "ValueError"]] ("ValueError" :: tys) = true)
    : ∃ (fd : FuncData) (CA : CAs) (cs : List (Addr × Addr)), (∀ p ∈ CA.T, ∃ c, (c, p.1) ∈ cs) ∧ (∀ p ∈ cs, h.get? p.2 = some { cls := .none, data := .fields #[] }) ∧ (∀ p ∈ cs, K.lookup p.2 = none) ∧ (∀ p ∈ cs, PySem.W.CodeHd h p.1 p.2) ∧ (∀ (s : Shared) (v : Value), BindsTo s fd ⟨[v], []⟩ [("_law_script", v)]) ∧ ∀ base : Heap, K.In base → base.Ns mainGlobals mg → SM base → (∀ p ∈ cs, LamX.TabB base mg p.1 p.2) → FnG l.prog w K mg base true 48 fa fd ["_law_script"] (spD K CA 1 F_law) := by
  have e := hfa.symm.trans (PySem.W.mg_of X G a30)
  cases e
  have T : Txt mg := ⟨PySem.W.mg_none_of X G z_abs, PySem.W.mg_none_of X G z_int, PySem.W.mg_none_of X G z_len, PySem.W.mg_none_of X G z_tuple, PySem.W.mg_none_of X G z_range, PySem.W.mg_none_of X G z_isinstance, PySem.W.mg_none_of X G z_bool, PySem.W.mg_none_of X G z_list, PySem.W.mg_none_of X G z_sorted, PySem.W.mg_none_of X G z_set, PySem.W.mg_none_of X G z_max, PySem.W.mg_none_of X G z_str, PySem.W.mg_none_of X G z_all, PySem.W.mg_none_of X G z_enumerate, PySem.W.mg_none_of X G z_ValueError, PySem.W.mg_none_of X G z_min, PySem.W.mg_none_of X G z_repr⟩
  let CA : CAs := (⟨fun n => [C0, C1, C2, C3, C4, C5, C6, C7].getD n 0, [(P27, ("_law_all_right" : Str) ++ (".<locals>." : Str) ++ ("<lambda>" : Str))], w⟩ : CAs)
  have K0 : ClsOk K (CA 0) := clsB_ok bc0
  have E1 : ExcOk K (CA 1) := excB_ok be1
  have E2 : ExcOk K (CA 2) := excB_ok be2
  have E3 : ExcOk K (CA 3) := excB_ok be3
  have E4 : ExcOk K (CA 4) := excB_ok be4
  have E5 : ExcOk K (CA 5) := excB_ok be5
  have E6 : ExcOk K (CA 6) := excB_ok be6
  have E7 : ExcOk K (CA 7) := excB_ok be7
  have C : Cst K CA mg := ⟨gv_int (PySem.W.mg_of X G g_MOST_LAYERS), gv_wr (PySem.W.mg_of X G g_KINDS) (.tup h_KINDS (.cons (.str "down" _) (.cons (.str "up" _) (.nil))) (show 2 ≤ sizeLine by decide)), gv_cls (PySem.W.mg_of X G ac2) rfl, gv_cls (PySem.W.mg_of X G ac3) rfl, gv_cls (PySem.W.mg_of X G ac4) rfl, gv_cls (PySem.W.mg_of X G ac5) rfl, gv_cls (PySem.W.mg_of X G ac6) rfl, gv_cls (PySem.W.mg_of X G ac7) rfl⟩
  have Fl : Fld K CA := ⟨FldOf.one K0.cl (noB_ok bf0 (by decide)), FldOf.one K0.cl (noB_ok bf0 (by decide)), FldOf.one K0.cl (noB_ok bf0 (by decide))⟩
  have XE : ∀ c ∈ (xs0 : List Nat), ExcOk K (CA c) := fun c hc => by
    simp only [xs0, List.mem_cons, List.not_mem_nil, or_false] at hc
    rcases hc with rfl | rfl | rfl | rfl | rfl | rfl | rfl
    all_goals first | exact E1 | exact E2 | exact E3 | exact E4 | exact E5 | exact E6 | exact E7
  have Xf : XFd K CA := ⟨xfOf_by (fun c hc => XE c ((by decide : ∀ c ∈ ([4] : List Nat), c ∈ (xs0 : List Nat)) c hc)) xf_field, xfOf_by (fun c hc => XE c ((by decide : ∀ c ∈ ([3] : List Nat), c ∈ (xs0 : List Nat)) c hc)) xf_number, xfOf_by (fun c hc => XE c ((by decide : ∀ c ∈ ([2] : List Nat), c ∈ (xs0 : List Nat)) c hc)) xf_at⟩
  have Hx : ∀ c ∈ (xs0 : List Nat), PySem.W.exmOne K (.ref (CA c)) (.ref (CA 1)) = some true := fun c hc => by
    simp only [xs0, List.mem_cons, List.not_mem_nil, or_false] at hc
    rcases hc with rfl | rfl | rfl | rfl | rfl | rfl | rfl
    all_goals first | exact xm1 | exact xm2 | exact xm3 | exact xm4 | exact xm5 | exact xm6 | exact xm7
  have FG0 := fun_mk (st := s__law_caught) lg0 cg0 kg0
  have G__law_caught : Cgt K CA mg "_law_caught" 1 := cgt_mk (a := "_law_work") (e := "MergeError") (c := "_law_caught_here") (n := "_law_error") lg0 cg0 kg0 (PySem.W.mg_of X G ag0) (PySem.W.mg_of X G ac1) (FG0.binds (fun _ _ _ _ _ _ us hl => match us, hl with | [_], _ => rfl)) ⟨rfl, rfl, rfl, by decide +kernel, rfl, by decide +kernel, by decide +kernel⟩ rfl (by decide) rfl rfl rfl (by decide) (by decide) (by decide) (by decide) (by decide) (by decide)
  have Y_BadPlan : Xmo K mg (CA 5) "BadPlan" := ⟨PySem.W.mg_of X G ac5, xq5, E5.kp⟩
  have Y_BadChain : Xmo K mg (CA 6) "BadChain" := ⟨PySem.W.mg_of X G ac6, xq6, E6.kp⟩
  have Kt : KtOk K CA [0] kt0 := ktT_ok bk (fun c hc => by
    simp only [List.mem_cons, List.not_mem_nil, or_false] at hc
    subst hc
    all_goals first | exact K0)
  refine ⟨PySem.W.fnOf "law" "law" (defArgs s_law) (defBody s_law) (defScope s_law) .none kV30 dc30 pm30 an30 cd30 ct30, CA, [(ca27, P27)], List.forall_mem_cons.mpr ⟨⟨ca27, by simp⟩, (fun _ h => nomatch h)⟩, List.forall_mem_cons.mpr ⟨tt27, (fun _ h => nomatch h)⟩, List.forall_mem_cons.mpr ⟨tn27, (fun _ h => nomatch h)⟩, List.forall_mem_cons.mpr ⟨PySem.W.codeHd_of_K X td27, (fun _ h => nomatch h)⟩, fun s v => .of_eq rfl, fun base _ _ SMb TBs => ?_⟩
  have F0 := fun_mk (st := s__law_begun) l0 c0 k0
  have D__law_begun : Df l.prog w K mg base CA "_law_begun" false 1 ["_law_script"] F__law_begun _ _ := Df.of F0 (ok__law_begun F0 T Hx XE Xf SMb C Fl Kt ) (PySem.W.mg_of X G a0)
  have F1 := fun_mk (st := s__law_mixed) l1 c1 k1
  have D__law_mixed : Df l.prog w K mg base CA "_law_mixed" false 1 ["_law_draw"] F__law_mixed _ _ := Df.of F1 (ok__law_mixed F1 T Hx XE Xf SMb C Fl Kt ) (PySem.W.mg_of X G a1)
  have F2 := fun_mk (st := s__law_take) l2 c2 k2
  have B__law_mixed_1 : KwB K CA _ ["_law_draw"] 1 [] (srcP 0 1) := KwB.fn F1 rfl (fun _ _ _ _ _ _ us ws h1 h2 => match us, ws, h1, h2 with | [_], [], _, _ => rfl)
  have D__law_take : Df l.prog w K mg base CA "_law_take" false 2 ["_law_draw", "_law_size"] F__law_take _ _ := Df.of F2 (ok__law_take F2 T Hx XE Xf SMb C Fl Kt B__law_mixed_1 D__law_mixed) (PySem.W.mg_of X G a2)
  have F3 := fun_mk (st := s__law_pick) l3 c3 k3
  have B__law_take_2 : KwB K CA _ ["_law_draw", "_law_size"] 2 [] (srcP 0 2) := KwB.fn F2 rfl (fun _ _ _ _ _ _ us ws h1 h2 => match us, ws, h1, h2 with | [_, _], [], _, _ => rfl)
  have D__law_pick : Df l.prog w K mg base CA "_law_pick" false 3 ["_law_draw", "_law_some"] F__law_pick _ _ := Df.of F3 (ok__law_pick F3 T Hx XE Xf SMb C Fl Kt B__law_take_2 D__law_take) (PySem.W.mg_of X G a3)
  have F4 := fun_mk (st := s__law_owned) l4 c4 k4
  have D__law_owned : Df l.prog w K mg base CA "_law_owned" false 3 ["_law_draw", "_law_most"] F__law_owned _ _ := Df.of F4 (ok__law_owned F4 T Hx XE Xf SMb C Fl Kt B__law_take_2 D__law_take) (PySem.W.mg_of X G a4)
  have F5 := fun_mk (st := s__law_chain) l5 c5 k5
  have B__law_pick_2 : KwB K CA _ ["_law_draw", "_law_some"] 2 [] (srcP 0 2) := KwB.fn F3 rfl (fun _ _ _ _ _ _ us ws h1 h2 => match us, ws, h1, h2 with | [_, _], [], _, _ => rfl)
  have B__law_owned_2 : KwB K CA _ ["_law_draw", "_law_most"] 2 [] (srcP 0 2) := KwB.fn F4 rfl (fun _ _ _ _ _ _ us ws h1 h2 => match us, ws, h1, h2 with | [_, _], [], _, _ => rfl)
  have D__law_chain : Df l.prog w K mg base CA "_law_chain" false 4 ["_law_draw", "_law_least", "_law_most"] F__law_chain _ _ := Df.of F5 (ok__law_chain F5 T Hx XE Xf SMb C Fl Kt B__law_pick_2 D__law_pick B__law_take_2 D__law_take B__law_owned_2 D__law_owned) (PySem.W.mg_of X G a5)
  have F6 := fun_mk (st := s__law_plan) l6 c6 k6
  have B__law_plan_3 : KwB K CA _ ["_law_draw", "_law_first", "_law_last"] 3 [] (srcP 0 3) := KwB.fn F6 rfl (fun _ _ _ _ _ _ us ws h1 h2 => match us, ws, h1, h2 with | [_, _, _], [], _, _ => rfl)
  have D__law_plan_ : ∀ j, Df l.prog w K mg base CA "_law_plan" false (3 + j) ["_law_draw", "_law_first", "_law_last"] (F__law_plan_ j) f6 (PySem.W.fnOf "_law_plan" "_law_plan" (defArgs s__law_plan) (defBody s__law_plan) (defScope s__law_plan) .none kV6 dc6 pm6 an6 cd6 ct6) := fun j => by
    induction j with
    | zero => exact ⟨.none, PySem.W.mg_of X G a6, k6⟩
    | succ j ih => exact Df.of F6 (ok__law_plan j F6 T Hx XE Xf SMb C Fl Kt B__law_take_2 D__law_take B__law_pick_2 D__law_pick B__law_plan_3 ih) (PySem.W.mg_of X G a6)
  have D__law_plan : Df l.prog w K mg base CA "_law_plan" false 12 ["_law_draw", "_law_first", "_law_last"] F__law_plan f6 (PySem.W.fnOf "_law_plan" "_law_plan" (defArgs s__law_plan) (defBody s__law_plan) (defScope s__law_plan) .none kV6 dc6 pm6 an6 cd6 ct6) := D__law_plan_ 9
  have F7 := fun_mk (st := s__law_is_cell) l7 c7 k7
  have D__law_is_cell : Df l.prog w K mg base CA "_law_is_cell" false 1 ["_law_thing_here"] F__law_is_cell _ _ := Df.of F7 (ok__law_is_cell F7 T Hx XE Xf SMb C Fl Kt ) (PySem.W.mg_of X G a7)
  have F8 := fun_mk (st := s__law_is_chain) l8 c8 k8
  have B__law_is_cell_1 : KwB K CA _ ["_law_thing_here"] 1 [] (srcP 0 1) := KwB.fn F7 rfl (fun _ _ _ _ _ _ us ws h1 h2 => match us, ws, h1, h2 with | [_], [], _, _ => rfl)
  have D__law_is_chain : Df l.prog w K mg base CA "_law_is_chain" false 2 ["_law_thing_here"] F__law_is_chain _ _ := Df.of F8 (ok__law_is_chain F8 T Hx XE Xf SMb C Fl Kt B__law_is_cell_1 D__law_is_cell) (PySem.W.mg_of X G a8)
  have F9 := fun_mk (st := s__law_is_great) l9 c9 k9
  have B__law_is_chain_1 : KwB K CA _ ["_law_thing_here"] 1 [] (srcP 0 1) := KwB.fn F8 rfl (fun _ _ _ _ _ _ us ws h1 h2 => match us, ws, h1, h2 with | [_], [], _, _ => rfl)
  have D__law_is_great : Df l.prog w K mg base CA "_law_is_great" false 3 ["_law_rows"] F__law_is_great _ _ := Df.of F9 (ok__law_is_great F9 T Hx XE Xf SMb C Fl Kt B__law_is_chain_1 D__law_is_chain) (PySem.W.mg_of X G a9)
  have F10 := fun_mk (st := s__law_span) l10 c10 k10
  have B__law_span_1 : KwB K CA _ ["_law_thing_here"] 1 [] (srcP 0 1) := KwB.fn F10 rfl (fun _ _ _ _ _ _ us ws h1 h2 => match us, ws, h1, h2 with | [_], [], _, _ => rfl)
  have D__law_span_ : ∀ j, Df l.prog w K mg base CA "_law_span" false (1 + j) ["_law_thing_here"] (F__law_span_ j) f10 (PySem.W.fnOf "_law_span" "_law_span" (defArgs s__law_span) (defBody s__law_span) (defScope s__law_span) .none kV10 dc10 pm10 an10 cd10 ct10) := fun j => by
    induction j with
    | zero => exact ⟨.none, PySem.W.mg_of X G a10, k10⟩
    | succ j ih => exact Df.of F10 (ok__law_span j F10 T Hx XE Xf SMb C Fl Kt B__law_is_cell_1 D__law_is_cell B__law_span_1 ih) (PySem.W.mg_of X G a10)
  have D__law_span : Df l.prog w K mg base CA "_law_span" false 31 ["_law_thing_here"] F__law_span f10 (PySem.W.fnOf "_law_span" "_law_span" (defArgs s__law_span) (defBody s__law_span) (defScope s__law_span) .none kV10 dc10 pm10 an10 cd10 ct10) := D__law_span_ 30
  have F11 := fun_mk (st := s_is_cell) l11 c11 k11
  have D_is_cell : Df l.prog w K mg base CA "is_cell" false 1 ["thing"] F_is_cell _ _ := Df.of F11 (ok_is_cell F11 T Hx XE Xf SMb C Fl Kt ) (PySem.W.mg_of X G a11)
  have F12 := fun_mk (st := s_is_owned) l12 c12 k12
  have B_is_cell_1 : KwB K CA _ ["thing"] 1 [] (srcP 0 1) := KwB.fn F11 rfl (fun _ _ _ _ _ _ us ws h1 h2 => match us, ws, h1, h2 with | [_], [], _, _ => rfl)
  have D_is_owned : Df l.prog w K mg base CA "is_owned" false 2 ["thing"] F_is_owned _ _ := Df.of F12 (ok_is_owned F12 T Hx XE Xf SMb C Fl Kt B_is_cell_1 D_is_cell) (PySem.W.mg_of X G a12)
  have F13 := fun_mk (st := s_need_chain) l13 c13 k13
  have B_is_owned_1 : KwB K CA _ ["thing"] 1 [] (srcP 0 1) := KwB.fn F12 rfl (fun _ _ _ _ _ _ us ws h1 h2 => match us, ws, h1, h2 with | [_], [], _, _ => rfl)
  have D_need_chain : Df l.prog w K mg base CA "need_chain" false 3 ["chain"] F_need_chain _ _ := Df.of F13 (ok_need_chain F13 T Hx XE Xf SMb C Fl Kt Y_BadChain B_is_owned_1 D_is_owned) (PySem.W.mg_of X G a13)
  have F14 := fun_mk (st := s_span_of) l14 c14 k14
  have B_span_of_2 : KwB K CA _ ["many", "thing"] 2 [] (srcP 0 2) := KwB.fn F14 rfl (fun _ _ _ _ _ _ us ws h1 h2 => match us, ws, h1, h2 with | [_, _], [], _, _ => rfl)
  have D_span_of_ : ∀ j, Df l.prog w K mg base CA "span_of" false (1 + j) ["many", "thing"] (F_span_of_ j) f14 (PySem.W.fnOf "span_of" "span_of" (defArgs s_span_of) (defBody s_span_of) (defScope s_span_of) .none kV14 dc14 pm14 an14 cd14 ct14) := fun j => by
    induction j with
    | zero => exact ⟨.none, PySem.W.mg_of X G a14, k14⟩
    | succ j ih => exact Df.of F14 (ok_span_of j F14 T Hx XE Xf SMb C Fl Kt B_is_cell_1 D_is_cell B_span_of_2 ih) (PySem.W.mg_of X G a14)
  have D_span_of : Df l.prog w K mg base CA "span_of" false 31 ["many", "thing"] F_span_of f14 (PySem.W.fnOf "span_of" "span_of" (defArgs s_span_of) (defBody s_span_of) (defScope s_span_of) .none kV14 dc14 pm14 an14 cd14 ct14) := D_span_of_ 30
  have F15 := fun_mk (st := s_is_plan) l15 c15 k15
  have B_need_chain_1 : KwB K CA _ ["chain"] 1 [] (srcP 0 1) := KwB.fn F13 rfl (fun _ _ _ _ _ _ us ws h1 h2 => match us, ws, h1, h2 with | [_], [], _, _ => rfl)
  have D_is_plan : Df l.prog w K mg base CA "is_plan" false 32 ["chain", "thing"] F_is_plan _ _ := Df.of F15 (ok_is_plan F15 T Hx XE Xf SMb C Fl Kt B_need_chain_1 D_need_chain B_span_of_2 D_span_of) (PySem.W.mg_of X G a15)
  have F16 := fun_mk (st := s_need_plan) l16 c16 k16
  have B_is_plan_2 : KwB K CA _ ["chain", "thing"] 2 [] (srcP 0 2) := KwB.fn F15 rfl (fun _ _ _ _ _ _ us ws h1 h2 => match us, ws, h1, h2 with | [_, _], [], _, _ => rfl)
  have D_need_plan : Df l.prog w K mg base CA "need_plan" false 33 ["chain", "plan"] F_need_plan _ _ := Df.of F16 (ok_need_plan F16 T Hx XE Xf SMb C Fl Kt B_is_plan_2 D_is_plan Y_BadPlan) (PySem.W.mg_of X G a16)
  have F17 := fun_mk (st := s_copied) l17 c17 k17
  have D_copied : Df l.prog w K mg base CA "copied" false 1 ["kind", "lower", "upper"] F_copied _ _ := Df.of F17 (ok_copied F17 T Hx XE Xf SMb C Fl Kt ) (PySem.W.mg_of X G a17)
  have F18 := fun_mk (st := s_owned_by) l18 c18 k18
  have D_owned_by : Df l.prog w K mg base CA "owned_by" false 1 ["chain", "first", "last"] F_owned_by _ _ := Df.of F18 (ok_owned_by F18 T Hx XE Xf SMb C Fl Kt ) (PySem.W.mg_of X G a18)
  have F19 := fun_mk (st := s_cost_of) l19 c19 k19
  have B_copied_3 : KwB K CA _ ["kind", "lower", "upper"] 3 [] (srcP 0 3) := KwB.fn F17 rfl (fun _ _ _ _ _ _ us ws h1 h2 => match us, ws, h1, h2 with | [_, _, _], [], _, _ => rfl)
  have B_owned_by_3 : KwB K CA _ ["chain", "first", "last"] 3 [] (srcP 0 3) := KwB.fn F18 rfl (fun _ _ _ _ _ _ us ws h1 h2 => match us, ws, h1, h2 with | [_, _, _], [], _, _ => rfl)
  have B_cost_of_2 : KwB K CA _ ["chain", "plan"] 2 [] (srcP 0 2) := KwB.fn F19 rfl (fun _ _ _ _ _ _ us ws h1 h2 => match us, ws, h1, h2 with | [_, _], [], _, _ => rfl)
  have D_cost_of_ : ∀ j, Df l.prog w K mg base CA "cost_of" false (31 + j) ["chain", "plan"] (F_cost_of_ j) f19 (PySem.W.fnOf "cost_of" "cost_of" (defArgs s_cost_of) (defBody s_cost_of) (defScope s_cost_of) .none kV19 dc19 pm19 an19 cd19 ct19) := fun j => by
    induction j with
    | zero => exact ⟨.none, PySem.W.mg_of X G a19, k19⟩
    | succ j ih => exact Df.of F19 (ok_cost_of j F19 T Hx XE Xf SMb C Fl Kt B_is_cell_1 D_is_cell B_span_of_2 D_span_of B_copied_3 D_copied B_owned_by_3 D_owned_by B_cost_of_2 ih) (PySem.W.mg_of X G a19)
  have D_cost_of : Df l.prog w K mg base CA "cost_of" false 40 ["chain", "plan"] F_cost_of f19 (PySem.W.fnOf "cost_of" "cost_of" (defArgs s_cost_of) (defBody s_cost_of) (defScope s_cost_of) .none kV19 dc19 pm19 an19 cd19 ct19) := D_cost_of_ 9
  have F20 := fun_mk (st := s_cost) l20 c20 k20
  have B_need_plan_2 : KwB K CA _ ["chain", "plan"] 2 [] (srcP 0 2) := KwB.fn F16 rfl (fun _ _ _ _ _ _ us ws h1 h2 => match us, ws, h1, h2 with | [_, _], [], _, _ => rfl)
  have D_cost : Df l.prog w K mg base CA "cost" false 41 ["chain", "plan"] F_cost _ _ := Df.of F20 (ok_cost F20 T Hx XE Xf SMb C Fl Kt B_need_plan_2 D_need_plan B_cost_of_2 D_cost_of) (PySem.W.mg_of X G a20)
  have F21 := fun_mk (st := s_Work_merged) l21 c21 k21
  have B_Work_merged_2 : KwB K CA _ ["self", "plan"] 2 [] (srcP 0 2) := KwB.fn F21 rfl (fun _ _ _ _ _ _ us ws h1 h2 => match us, ws, h1, h2 with | [_, _], [], _, _ => rfl)
  have M_Work_merged_ : ∀ j, Mtd l.prog w K mg base CA 0 "merged" false (1 + j) ["self", "plan"] (F_Work_merged_ j) f21 (PySem.W.fnOf "merged" "Work.merged" (defArgs s_Work_merged) (defBody s_Work_merged) (defScope s_Work_merged) .none kV21 dc21 pm21 an21 cd21 ct21) := fun j => by
    induction j with
    | zero => exact Mtd.of F21 .none K0 a21 fn21
    | succ j ih => exact Mtd.of F21 (ok_Work_merged j F21 T Hx XE Xf SMb C Fl Kt B_is_cell_1 D_is_cell B_Work_merged_2 ih) K0 a21 fn21
  have M_Work_merged : Mtd l.prog w K mg base CA 0 "merged" false 10 ["self", "plan"] F_Work_merged f21 (PySem.W.fnOf "merged" "Work.merged" (defArgs s_Work_merged) (defBody s_Work_merged) (defScope s_Work_merged) .none kV21 dc21 pm21 an21 cd21 ct21) := M_Work_merged_ 9
  have F22 := fun_mk (st := s_Work_init) l22 c22 k22
  have N_Work : Mkd l.prog w K mg base CA 0 "Work" 1 ["self", "cells"] F_Work_init _ _ := Mkd.of F22 (ok_Work_init F22 T Hx XE Xf SMb C Fl Kt ) (PySem.W.mg_of X G ac0) a22 fn22 mk22 kc22
  have F23 := fun_mk (st := s_cells_of) l23 c23 k23
  have D_cells_of : Df l.prog w K mg base CA "cells_of" false 4 ["chain"] F_cells_of _ _ := Df.of F23 (ok_cells_of F23 T Hx XE Xf SMb C Fl Kt B_need_chain_1 D_need_chain) (PySem.W.mg_of X G a23)
  have F24 := fun_mk (st := s_deeds_for) l24 c24 k24
  have B_Work_init_2 : KwB K CA _ ["self", "cells"] 2 [] (srcP 0 2) := KwB.fn F22 rfl (fun _ _ _ _ _ _ us ws h1 h2 => match us, ws, h1, h2 with | [_, _], [], _, _ => rfl)
  have B_cells_of_1 : KwB K CA _ ["chain"] 1 [] (srcP 0 1) := KwB.fn F23 rfl (fun _ _ _ _ _ _ us ws h1 h2 => match us, ws, h1, h2 with | [_], [], _, _ => rfl)
  have D_deeds_for : Df l.prog w K mg base CA "deeds_for" false 34 ["chain", "plan"] F_deeds_for _ _ := Df.of F24 (ok_deeds_for F24 T Hx XE Xf SMb C Fl Kt B_need_plan_2 D_need_plan B_Work_init_2 N_Work B_cells_of_1 D_cells_of B_Work_merged_2 M_Work_merged) (PySem.W.mg_of X G a24)
  have F25 := fun_mk (st := s__law_refusal) l25 c25 k25
  have L__law_refusal : ∀ kb : Nat, Dl l.prog w K mg base CA "_law_refusal" false (kb + 3) kb ["_law_work"] 0 F__law_refusal := fun kb => ⟨⟨_, _, ok__law_refusal kb F25 T Hx XE Xf SMb C Fl Kt G__law_caught, PySem.W.mg_of X G a25, k25, F25.binds (fun _ _ _ _ _ _ us hl => match us, hl with | [_], _ => rfl)⟩, rfl⟩
  have F26 := fun_mk (st := s_cheapest) l26 c26 k26
  have D_cheapest : Df l.prog w K mg base CA "cheapest" false 4 ["chain"] F_cheapest _ _ := Df.of F26 (ok_cheapest F26 T Hx XE Xf SMb C Fl Kt B_need_chain_1 D_need_chain B_owned_by_3 D_owned_by B_copied_3 D_copied) (PySem.W.mg_of X G a26)
  have F27 := fun_mk (st := s__law_all_right) l27 c27 k27
  have B__law_is_great_1 : KwB K CA _ ["_law_rows"] 1 [] (srcP 0 1) := KwB.fn F9 rfl (fun _ _ _ _ _ _ us ws h1 h2 => match us, ws, h1, h2 with | [_], [], _, _ => rfl)
  have B_cheapest_1 : KwB K CA _ ["chain"] 1 [] (srcP 0 1) := KwB.fn F26 rfl (fun _ _ _ _ _ _ us ws h1 h2 => match us, ws, h1, h2 with | [_], [], _, _ => rfl)
  have B_cost_2 : KwB K CA _ ["chain", "plan"] 2 [] (srcP 0 2) := KwB.fn F20 rfl (fun _ _ _ _ _ _ us ws h1 h2 => match us, ws, h1, h2 with | [_, _], [], _, _ => rfl)
  have B_deeds_for_0_plan_chain : KwB K CA _ ["chain", "plan"] 0 ["plan", "chain"] ([.k 1, .k 0]) := KwB.fn F24 rfl (fun _ _ _ _ _ _ us ws h1 h2 => match us, ws, h1, h2 with | [], [_, _], _, _ => rfl)
  have B_is_plan_0_thing_chain : KwB K CA _ ["chain", "thing"] 0 ["thing", "chain"] ([.k 1, .k 0]) := KwB.fn F15 rfl (fun _ _ _ _ _ _ us ws h1 h2 => match us, ws, h1, h2 with | [], [_, _], _, _ => rfl)
  have B_deeds_for_2 : KwB K CA _ ["chain", "plan"] 2 [] (srcP 0 2) := KwB.fn F24 rfl (fun _ _ _ _ _ _ us ws h1 h2 => match us, ws, h1, h2 with | [_, _], [], _, _ => rfl)
  have B_cells_of_0_chain : KwB K CA _ ["chain"] 0 ["chain"] ([.k 0]) := KwB.fn F23 rfl (fun _ _ _ _ _ _ us ws h1 h2 => match us, ws, h1, h2 with | [], [_], _, _ => rfl)
  have D__law_all_right : Df l.prog w K mg base CA "_law_all_right" true 47 ["_law_rows", "_law_plan_here"] F__law_all_right _ _ := Df.of F27 (ok__law_all_right (func_mk (st := s__law_all_right) l27 c27) T Hx XE Xf SMb C Fl Kt (TBs (ca27, P27) (List.Mem.head _)) (List.Mem.head _) (fun p hp e => of_decide_eq_true (List.all_eq_true.mp tu27 p hp) e) B__law_is_great_1 D__law_is_great B__law_is_chain_1 D__law_is_chain B_cheapest_1 D_cheapest B_cells_of_1 D_cells_of B_is_plan_2 D_is_plan B_cost_2 D_cost B_deeds_for_0_plan_chain D_deeds_for L__law_refusal B__law_span_1 D__law_span B_is_plan_0_thing_chain B_deeds_for_2 B_cells_of_0_chain) (PySem.W.mg_of X G a27)
  have F28 := fun_mk (st := s__law_odd) l28 c28 k28
  have D__law_odd : Df l.prog w K mg base CA "_law_odd" false 4 ["_law_draw"] F__law_odd _ _ := Df.of F28 (ok__law_odd F28 T Hx XE Xf SMb C Fl Kt B__law_pick_2 D__law_pick) (PySem.W.mg_of X G a28)
  have F29 := fun_mk (st := s__law_bent) l29 c29 k29
  have B__law_odd_1 : KwB K CA _ ["_law_draw"] 1 [] (srcP 0 1) := KwB.fn F28 rfl (fun _ _ _ _ _ _ us ws h1 h2 => match us, ws, h1, h2 with | [_], [], _, _ => rfl)
  have B__law_bent_2 : KwB K CA _ ["_law_draw", "_law_thing_here"] 2 [] (srcP 0 2) := KwB.fn F29 rfl (fun _ _ _ _ _ _ us ws h1 h2 => match us, ws, h1, h2 with | [_, _], [], _, _ => rfl)
  have D__law_bent_ : ∀ j, Df l.prog w K mg base CA "_law_bent" false (4 + j) ["_law_draw", "_law_thing_here"] (F__law_bent_ j) f29 (PySem.W.fnOf "_law_bent" "_law_bent" (defArgs s__law_bent) (defBody s__law_bent) (defScope s__law_bent) .none kV29 dc29 pm29 an29 cd29 ct29) := fun j => by
    induction j with
    | zero => exact ⟨.none, PySem.W.mg_of X G a29, k29⟩
    | succ j ih => exact Df.of F29 (ok__law_bent j F29 T Hx XE Xf SMb C Fl Kt B__law_take_2 D__law_take B__law_pick_2 D__law_pick B__law_odd_1 D__law_odd B__law_bent_2 ih) (PySem.W.mg_of X G a29)
  have D__law_bent : Df l.prog w K mg base CA "_law_bent" false 34 ["_law_draw", "_law_thing_here"] F__law_bent f29 (PySem.W.fnOf "_law_bent" "_law_bent" (defArgs s__law_bent) (defBody s__law_bent) (defScope s__law_bent) .none kV29 dc29 pm29 an29 cd29 ct29) := D__law_bent_ 30
  have F30 := fun_mk (st := s_law) l30 c30 k30
  have B__law_begun_1 : KwB K CA _ ["_law_script"] 1 [] (srcP 0 1) := KwB.fn F0 rfl (fun _ _ _ _ _ _ us ws h1 h2 => match us, ws, h1, h2 with | [_], [], _, _ => rfl)
  have B__law_chain_3 : KwB K CA _ ["_law_draw", "_law_least", "_law_most"] 3 [] (srcP 0 3) := KwB.fn F5 rfl (fun _ _ _ _ _ _ us ws h1 h2 => match us, ws, h1, h2 with | [_, _, _], [], _, _ => rfl)
  have B__law_all_right_2 : KwB K CA _ ["_law_rows", "_law_plan_here"] 2 [] (srcP 0 2) := KwB.fn F27 rfl (fun _ _ _ _ _ _ us ws h1 h2 => match us, ws, h1, h2 with | [_, _], [], _, _ => rfl)
  exact ok_law F30 T Hx XE Xf SMb C Fl Kt B__law_begun_1 D__law_begun B__law_chain_3 D__law_chain B__law_plan_3 D__law_plan B__law_all_right_2 D__law_all_right B__law_pick_2 D__law_pick B__law_take_2 D__law_take B__law_bent_2 D__law_bent
end
abbrev tupI (l : List Int) : D := .tup (l.map D.int)
def ten : List Int := [0, 1, 2, 3, 4, 5, 6, 7, 8, 9]
def InTen (l : List Int) : Prop := ∀ x ∈ l, x ∈ ten
structure Own (l : List Int) : Prop where
  lt : l.Pairwise (· < ·)
  bd : InTen l
theorem nd_of_lt {l : List Int} (h : l.Pairwise (· < ·)) : l.Nodup := h.imp fun q e => by omega
theorem len_ten {l : List Int} (n : l.Nodup) (b : InTen l) : l.length ≤ 10 := List.Nodup.length_le_of_subset (l₂ := ten) n b
theorem Own.len {l : List Int} (o : Own l) : l.length ≤ 10 := len_ten (nd_of_lt o.lt) o.bd
theorem ten_bd {x : Int} (m : x ∈ ten) : 0 ≤ x ∧ x < 10 := by
  simp only [ten, List.mem_cons, List.not_mem_nil, or_false] at m
  omega
theorem bd_ten {x : Int} (h0 : 0 ≤ x) (h1 : x < 10) : x ∈ ten := by
  simp only [ten, List.mem_cons, List.not_mem_nil, or_false]
  omega
theorem insU_id {x : Int} {l : List Int} (h : ∀ y ∈ l, x < y) : insU x l = x :: l := by
  cases l with
  | nil => rfl
  | cons y r =>
    unfold insU
    rw [if_pos (h y (List.mem_cons_self ..))]
theorem sortU_id : ∀ {l : List Int}, l.Pairwise (· < ·) → sortU l = l
  | [], _ => rfl
  | x :: r, h => by
    have h2 := List.pairwise_cons.mp h
    show insU x (sortU r) = _
    rw [sortU_id h2.2, insU_id h2.1]
theorem intsOf_map : ∀ l : List Int, intsOf (l.map D.int) = some l
  | [] => rfl
  | x :: l => by
    show (match intsOf (l.map D.int) with | some is => some (x :: is) | none => none) = _
    rw [intsOf_map l]
theorem blsOf_map : ∀ l : List Bool, blsOf (l.map D.bl) = some l
  | [] => rfl
  | x :: l => by
    show (match blsOf (l.map D.bl) with | some is => some (x :: is) | none => none) = _
    rw [blsOf_map l]
theorem lcL_fil {α : Type} {tg : TGD} {tt : TB} {te : TD} {ρ0 : DE} {h : CH} {F G : α → D} {g : α → Bool} : ∀ {A : List α}, (∀ x ∈ A, ∃ ρ2, tg (F x) ρ0 h = .ok ρ2 h ∧ tt ρ2 h = .ok (g x) h ∧ (g x = true → te ρ2 h = .ok (G x) h)) → dLcL tg tt te ρ0 (A.map F) h = .ok ((A.filter g).map G) h
  | [], _ => rfl
  | x :: A, q => by
    obtain ⟨ρ2, e1, e2, e3⟩ := q x (List.mem_cons_self ..)
    have ih := lcL_fil (tg := tg) (tt := tt) (te := te) (ρ0 := ρ0) (h := h) (F := F) (G := G) (g := g) (A := A) fun y hy => q y (List.mem_cons_of_mem _ hy)
    rw [List.map_cons]
    show (tg (F x) ρ0 h).calm _ = _
    rw [e1, calm_ok, e2, calm_ok]
    cases eg : g x with
    | true =>
      rw [if_pos rfl, e3 eg, calm_ok, ih, bind_ok, List.filter_cons_of_pos eg]
      rfl
    | false =>
      rw [if_neg Bool.false_ne_true, ih, List.filter_cons_of_neg (by rw [eg]; exact Bool.false_ne_true)]
section
variable {h : CH} {ρ : DE}
theorem eqvAllI : ∀ ns : List Int, PyData.eqvAll (ns.map PyData.int) (ns.map PyData.int) = true
  | [] => rfl
  | n :: ns => by
    have e1 : PyData.eqv (.int n) (.int n) = true := by simp [PyData.eqv]
    have e2 := eqvAllI ns
    simp only [List.map_cons, PyData.eqvAll, e1, e2, Bool.and_self]
theorem eq_lstI (ns : List Int) : fEq false (.lst (ns.map D.int)) (.lst (ns.map D.int)) h = .ok (.bl true) h := by
  have e : toP h 10 (.lst (ns.map D.int)) = some (.list (ns.map PyData.int)) := by
    show ((ns.map D.int).mapM (toP h 9)).map PyData.list = _
    rw [toP_ints ns]
    rfl
  have s := shaped_ints ns
  have q : PyData.eqv (.list (ns.map PyData.int)) (.list (ns.map PyData.int)) = true := eqvAllI ns
  unfold fEq
  rw [if_neg (by simp [scalD, flatD])]
  simp only [e, s, q, and_self, if_true]
  rfl
theorem is_cell_ok (i : Int) : F_is_cell [.int i] h = .ok (.bl (decide (i ≥ 0))) h := by kernel_rfl
theorem is_cell_tup (xs : List D) : F_is_cell [.tup xs] h = .ok (.bl false) h := by kernel_rfl
theorem is_cell_ok' (i : Int) : F__law_is_cell [.int i] h = .ok (.bl (decide (i ≥ 0))) h := by kernel_rfl
theorem is_tup (xs : List D) : fIsX xs0 [0] kt0 [.tup xs, .ty "tuple"] h = .ok (.bl true) h := by kernel_rfl
theorem is_str (x : Str) : fIsX xs0 [0] kt0 [.str x, .ty "str"] h = .ok (.bl true) h := by kernel_rfl
theorem filter_all {α : Type} {l : List α} {p : α → Bool} (h : ∀ x ∈ l, p x = true) : l.filter p = l := List.filter_eq_self.mpr h
theorem is_owned_ok {l : List Int} (o : Own l) : F_is_owned [tupI l] h = .ok (.bl true) h := by
  have lc : dLcL (gdName 1) dYes (dCall 1 F_is_cell (dCons (dVar 1) (dNil))) [some (tupI l), none] (l.map D.int) h = .ok ((l.filter fun _ => true).map fun _ => D.bl true) h :=
    lcL_fil fun x hx => ⟨[some (tupI l), some (.int x)], rfl, rfl, fun _ => by
      have := (ten_bd (o.bd x hx)).1
      simp [is_cell_ok, this]⟩
  rw [filter_all (fun _ _ => rfl)] at lc
  have ll : l.length ≤ sizeLine := Nat.le_trans o.len (by decide)
  have e1 : fAllB false [.lst (l.map fun _ => D.bl true)] h = .ok (.bl true) h := by
    have : (l.map fun _ => D.bl true) = (l.map fun _ => true).map D.bl := by rw [List.map_map]; rfl
    rw [this]
    unfold fAllB
    simp only [lstOf, blsOf_map]
    rw [if_neg Bool.false_ne_true, List.all_eq_true.mpr (fun x hx => by obtain ⟨_, _, rfl⟩ := List.mem_map.mp hx; rfl)]
  have e2 : fListOf false [tupI l] h = .ok (.lst (l.map D.int)) h := rfl
  have e3 : fSortSet false (tupI l) h = .ok (.lst (l.map D.int)) h := by
    unfold fSortSet
    simp only [seqOf, intsOf_map]
    rw [if_pos (by have := o.len; omega), sortU_id o.lt]
    rfl
  unfold F_is_owned bodyF
  show (u_is_owned [some (tupI l), none] h).res = _
  unfold u_is_owned
  simp [is_tup, dLc, itemsD, ll, wipeD, lc, mkL, e1, e2, e3, eq_lstI]
end
structure Chain (rs : List (List Int)) : Prop where
  ne : 1 ≤ rs.length
  le : rs.length ≤ 8
  own : ∀ r ∈ rs, Own r
abbrev rowsD (rs : List (List Int)) : List D := rs.map tupI
def ChD (rs : List (List Int)) (X : D) : Prop := X = .lst (rowsD rs) ∨ X = .tup (rowsD rs)
section
variable {h : CH} {rs : List (List Int)} {X : D}
theorem ChD.seq (c : ChD rs X) : seqOf h X = some (rowsD rs) := by rcases c with rfl | rfl <;> rfl
theorem ChD.items (c : ChD rs X) : itemsD h X = some (rowsD rs) := by rcases c with rfl | rfl <;> rfl
theorem ChD.len (c : ChD rs X) : fLen [X] h = .ok (.int rs.length) h := by
  rcases c with rfl | rfl
  · simp [fLen, seqOf]
  · simp [fLen, seqOf]
theorem ChD.isT (c : ChD rs X) : fIsT [0] kt0 [X, .tup [.ty "list", .ty "tuple"]] h = .ok (.bl true) h := by rcases c with rfl | rfl <;> kernel_rfl
theorem need_chain_ok (C : Chain rs) (c : ChD rs X) : F_need_chain [X] h = .ok .non h := by
  have lc : dLcL (gdName 1) dYes (dCall 1 F_is_owned (dCons (dVar 1) (dNil))) [some X, none] (rowsD rs) h = .ok ((rs.filter fun _ => true).map fun _ => D.bl true) h :=
    lcL_fil fun x hx => ⟨[some X, some (tupI x)], rfl, rfl, fun _ => by simp [is_owned_ok (C.own x hx)]⟩
  rw [filter_all (fun _ _ => rfl)] at lc
  have ll : rs.length ≤ sizeLine := Nat.le_trans C.le (by decide)
  have e1 : fAllB false [.lst (rs.map fun _ => D.bl true)] h = .ok (.bl true) h := by
    have : (rs.map fun _ => D.bl true) = (rs.map fun _ => true).map D.bl := by rw [List.map_map]; rfl
    rw [this]
    unfold fAllB
    simp only [lstOf, blsOf_map]
    rw [if_neg Bool.false_ne_true, List.all_eq_true.mpr (fun x hx => by obtain ⟨_, _, rfl⟩ := List.mem_map.mp hx; rfl)]
  have b1 : decide ((1 : Int) ≤ rs.length) = true := decide_eq_true (by have := C.ne; omega)
  have b2 : decide ((rs.length : Int) ≤ 8) = true := decide_eq_true (by have := C.le; omega)
  unfold F_need_chain bodyF
  show (u_need_chain [some X, none] h).res = _
  unfold u_need_chain
  rw [s_seq, s_if]
  simp only [e_or, e_not, e_B, e_CB, e_cons, e_var, e_tup, e_C, e_nil, bind_ok, List.getElem?_cons_zero, List.length_cons, List.length_nil, Nat.zero_add, Nat.reduceAdd]
  rw [if_pos (by decide), bind_ok, bind_ok, bind_ok, c.isT]
  simp only [bind_ok, asB_bl, Bool.not_true, Bool.false_eq_true, if_false]
  simp only [dChain, e_C, e_CB, e_cons, e_var, e_nil, bind_ok, List.getElem?_cons_zero, c.len, fB, b1, b2, asB_bl, if_true, toS_ok, Bool.not_true, Bool.false_eq_true, if_false, s_next, sbind_nx, s_if, e_not, e_B]
  simp only [dLc, e_seqI, e_var, List.getElem?_cons_zero, bind_ok, c.items, List.length_map, ll, if_true, wipeD, List.foldl_cons, List.foldl_nil, List.set_cons_zero, List.set_cons_succ, lc, mkL, runl_none, e1, asB_bl, toS_ok, Bool.not_true, Bool.false_eq_true, if_false, s_next, res_nx]
end
inductive Pl where
  | leaf (i : Int)
  | node (k : Bool) (a b : Pl)
def kS (k : Bool) : Str := if k then "down" else "up"
def Pl.D : Pl → CM.D
  | .leaf i => .int i
  | .node k a b => .tup [.str (kS k), a.D, b.D]
def Sp : Pl → Int → Int → Prop
  | .leaf i, f, l => i = f ∧ i = l
  | .node _ a b, f, l => ∃ m, Sp a f m ∧ Sp b (m + 1) l
theorem Sp.le : ∀ {p : Pl} {f l : Int}, Sp p f l → f ≤ l
  | .leaf _, _, _, h => by have := h.1; have := h.2; omega
  | .node _ a b, f, l, h => by
    obtain ⟨m, h1, h2⟩ := h
    have := h1.le
    have := h2.le
    omega
def slice (rs : List (List Int)) (f l : Int) : List (List Int) := (rs.drop f.toNat).take (l + 1 - f).toNat
def In (rs : List (List Int)) (f l : Int) (x : Int) : Prop := ∃ i : Nat, f ≤ i ∧ (i : Int) ≤ l ∧ ∃ r, rs[i]? = some r ∧ x ∈ r
theorem mem_slice {rs : List (List Int)} {f l : Int} (h0 : 0 ≤ f) (x : Int) : (∃ r ∈ slice rs f l, x ∈ r) ↔ In rs f l x := by
  constructor
  · rintro ⟨r, hr, hx⟩
    obtain ⟨j, hj⟩ := List.mem_iff_getElem?.mp hr
    unfold slice at hj
    rw [List.getElem?_take] at hj
    split at hj
    · rename_i lt
      rw [List.getElem?_drop] at hj
      exact ⟨f.toNat + j, by omega, by omega, r, hj, hx⟩
    · cases hj
  · rintro ⟨i, h1, h2, r, hr, hx⟩
    refine ⟨r, List.mem_iff_getElem?.mpr ⟨i - f.toNat, ?_⟩, hx⟩
    unfold slice
    rw [List.getElem?_take, if_pos (by omega), List.getElem?_drop, ← hr]
    congr 1
    omega
def ad (acc : List Int) (c : Int) : List Int := if c ∈ acc then acc else acc ++ [c]
def adF (acc : List Int) (cs : List Int) : List Int := cs.foldl ad acc
def obL (rs : List (List Int)) (f l : Int) : List Int := (slice rs f l).foldl adF []
theorem mem_ad {acc : List Int} {c x : Int} : x ∈ ad acc c ↔ x ∈ acc ∨ x = c := by
  unfold ad
  split
  · exact ⟨.inl, fun h => h.elim id fun e => e ▸ by assumption⟩
  · simp
theorem nd_ad {acc : List Int} {c : Int} (n : acc.Nodup) : (ad acc c).Nodup := by
  unfold ad
  split
  · exact n
  · rename_i h
    rw [List.nodup_append]
    exact ⟨n, by simp, fun a ha b hb => by
      rw [List.mem_singleton.mp hb]
      intro e
      exact h (e ▸ ha)⟩
theorem mem_adF {x : Int} : ∀ {cs acc : List Int}, x ∈ adF acc cs ↔ x ∈ acc ∨ x ∈ cs
  | [], acc => by simp [adF]
  | c :: cs, acc => by
    show x ∈ adF (ad acc c) cs ↔ _
    rw [mem_adF, mem_ad, List.mem_cons, or_assoc]
theorem nd_adF : ∀ {cs acc : List Int}, acc.Nodup → (adF acc cs).Nodup
  | [], _, n => n
  | c :: cs, acc, n => nd_adF (cs := cs) (nd_ad (c := c) n)
theorem mem_adR {x : Int} : ∀ {rs : List (List Int)} {acc : List Int}, x ∈ rs.foldl adF acc ↔ x ∈ acc ∨ ∃ r ∈ rs, x ∈ r
  | [], acc => by simp
  | r :: rs, acc => by
    show x ∈ rs.foldl adF (adF acc r) ↔ _
    rw [mem_adR, mem_adF]
    simp [or_assoc]
theorem nd_adR : ∀ {rs : List (List Int)} {acc : List Int}, acc.Nodup → (rs.foldl adF acc).Nodup
  | [], _, n => n
  | r :: rs, acc, n => nd_adR (rs := rs) (nd_adF (cs := r) n)
theorem mem_ob {rs : List (List Int)} {f l x : Int} (h0 : 0 ≤ f) : x ∈ obL rs f l ↔ In rs f l x := by
  unfold obL
  rw [mem_adR, mem_slice h0]
  simp
theorem nd_ob {rs : List (List Int)} {f l : Int} : (obL rs f l).Nodup := nd_adR List.nodup_nil
def cp (k : Bool) (A B : List Int) : Int := if k then (B.length : Int) else ((A.filter fun x => !B.contains x).length : Int)
theorem len_same {A B : List Int} (a : A.Nodup) (b : B.Nodup) (e : ∀ x, x ∈ A ↔ x ∈ B) : A.length = B.length :=
  Nat.le_antisymm (List.Nodup.length_le_of_subset a fun x h => (e x).mp h) (List.Nodup.length_le_of_subset b fun x h => (e x).mpr h)
theorem cp_same {k : Bool} {A A' B B' : List Int} (a : A.Nodup) (a' : A'.Nodup) (b : B.Nodup) (b' : B'.Nodup) (ea : ∀ x, x ∈ A ↔ x ∈ A') (eb : ∀ x, x ∈ B ↔ x ∈ B') : cp k A B = cp k A' B' := by
  unfold cp
  cases k with
  | true => rw [if_pos rfl, if_pos rfl, len_same b b' eb]
  | false =>
    rw [if_neg Bool.false_ne_true, if_neg Bool.false_ne_true, len_same (a.sublist List.filter_sublist) (a'.sublist List.filter_sublist)]
    intro x
    simp only [List.mem_filter, ea x, Bool.not_eq_true', List.contains_eq_mem, decide_eq_false_iff_not, eb x]
def rowAt (rs : List (List Int)) (i : Int) : List Int := (rs[i.toNat]?).getD []
def Pl.C (rs : List (List Int)) : Pl → List Int
  | .leaf i => rowAt rs i
  | .node _ a b => sortU (a.C rs ++ b.C rs)
def Pl.W (rs : List (List Int)) : Pl → Int
  | .leaf _ => 0
  | .node k a b => a.W rs + b.W rs + cp k (a.C rs) (b.C rs)
section
variable {rs : List (List Int)}
theorem rowAt_eq {i : Int} (h0 : 0 ≤ i) (h1 : i < rs.length) : rs[i.toNat]? = some (rowAt rs i) := by
  unfold rowAt
  rw [List.getElem?_eq_getElem (by omega)]
  rfl
theorem rowAt_mem {i : Int} (h0 : 0 ≤ i) (h1 : i < rs.length) : rowAt rs i ∈ rs := List.mem_iff_getElem?.mpr ⟨_, rowAt_eq h0 h1⟩
theorem C_ok (C : Chain rs) : ∀ {p : Pl} {f l : Int}, Sp p f l → 0 ≤ f → l < rs.length → (p.C rs).Pairwise (· < ·) ∧ ∀ x, x ∈ p.C rs ↔ In rs f l x
  | .leaf i, f, l, s, h0, h1 => by
    obtain ⟨rfl, rfl⟩ := s
    refine ⟨(C.own _ (rowAt_mem h0 h1)).lt, fun x => ⟨fun m => ⟨i.toNat, by omega, by omega, _, rowAt_eq h0 h1, m⟩, ?_⟩⟩
    rintro ⟨j, q1, q2, r, e, m⟩
    have : j = i.toNat := by omega
    rw [this, rowAt_eq h0 h1] at e
    cases e
    exact m
  | .node k a b, f, l, s, h0, h1 => by
    obtain ⟨m, sa, sb⟩ := s
    have la := sa.le
    have lb := sb.le
    obtain ⟨_, ma⟩ := C_ok C sa h0 (by omega)
    obtain ⟨_, mb⟩ := C_ok C sb (by omega) h1
    refine ⟨sortU_lt _, fun x => ?_⟩
    show x ∈ sortU _ ↔ _
    rw [mem_sortU, List.mem_append, ma, mb]
    constructor
    · rintro (⟨i, q1, q2, q⟩ | ⟨i, q1, q2, q⟩)
      · exact ⟨i, q1, by omega, q⟩
      · exact ⟨i, by omega, q2, q⟩
    · rintro ⟨i, q1, q2, q⟩
      by_cases c : (i : Int) ≤ m
      · exact .inl ⟨i, q1, c, q⟩
      · exact .inr ⟨i, by omega, q2, q⟩
theorem in_ten (C : Chain rs) {f l x : Int} : In rs f l x → x ∈ ten := by
  rintro ⟨i, _, _, r, e, m⟩
  exact (C.own r (List.mem_iff_getElem?.mpr ⟨i, e⟩)).bd x m
theorem ob_ten (C : Chain rs) {f l : Int} (h0 : 0 ≤ f) : InTen (obL rs f l) := fun x hx => in_ten C ((mem_ob h0).mp hx)
theorem C_nd (C : Chain rs) {p : Pl} {f l : Int} (s : Sp p f l) (h0 : 0 ≤ f) (h1 : l < rs.length) : (p.C rs).Nodup := nd_of_lt (C_ok C s h0 h1).1
theorem cp_C (C : Chain rs) {k : Bool} {a b : Pl} {f m m' l : Int} (sa : Sp a f m) (sb : Sp b m' l) (h0 : 0 ≤ f) (h1 : m < rs.length) (h2 : 0 ≤ m') (h3 : l < rs.length) : cp k (obL rs f m) (obL rs m' l) = cp k (a.C rs) (b.C rs) :=
  cp_same nd_ob (C_nd C sa h0 h1) nd_ob (C_nd C sb h2 h3) (fun x => (mem_ob h0).trans ((C_ok C sa h0 h1).2 x).symm) fun x => (mem_ob h2).trans ((C_ok C sb h2 h3).2 x).symm
end
section
variable {h : CH} {rs : List (List Int)} {X : D}
theorem eq_strs (x y : Str) : fEq false (.str x) (.str y) h = .ok (.bl (x == y)) h := by
  simp [fEq, scalD, flatD, eqF, bneg]
theorem eq_ints (i j : Int) : fEq true (.int i) (.int j) h = .ok (.bl (!(i == j))) h := by
  simp [fEq, scalD, flatD, eqF, bneg]
theorem kS_down (k : Bool) : (kS k == Str.ofString "down") = k := by cases k <;> decide +kernel
theorem any_eqF (x : Int) (B : List Int) : (B.map D.int).any (fun e => eqF e (.int x)) = B.contains x := by
  rw [List.any_map, Bool.eq_iff_iff, List.any_eq_true, List.contains_iff_mem]
  constructor
  · rintro ⟨y, hy, e⟩
    have : (y == x) = true := e
    rw [beq_iff_eq] at this
    rw [← this]
    exact hy
  · exact fun m => ⟨x, m, by show (x == x) = true; exact beq_self_eq_true x⟩
theorem in_lst {neg : Bool} (x : Int) (B : List Int) : fIn neg (.int x) (.lst (B.map D.int)) h = .ok (.bl (bneg neg (B.contains x))) h := by
  unfold fIn
  simp only [seqOf]
  rw [if_pos ⟨rfl, List.all_eq_true.mpr fun d hd => by obtain ⟨i, _, rfl⟩ := List.mem_map.mp hd; rfl⟩, any_eqF]
theorem len_lst (A : List Int) : fLen [.lst (A.map D.int)] h = .ok (.int A.length) h := by
  simp [fLen, seqOf]
theorem copied_ok (k : Bool) {A B : List Int} (la : A.length ≤ 100) : F_copied [.str (kS k), .lst (A.map D.int), .lst (B.map D.int)] h = .ok (.int (cp k A B)) h := by
  have lc : dLcL (gdName 3) (dB (dOp (fIn true) (dVar 3) (dVar 2))) (dVar 3) [some (.str (kS k)), some (.lst (A.map D.int)), some (.lst (B.map D.int)), none] (A.map D.int) h = .ok ((A.filter fun x => !B.contains x).map D.int) h :=
    lcL_fil fun x hx => ⟨[some (.str (kS k)), some (.lst (A.map D.int)), some (.lst (B.map D.int)), some (.int x)], rfl, by simp [in_lst, bneg], fun _ => rfl⟩
  have ll : A.length ≤ sizeLine := Nat.le_trans la (by decide)
  have ll2 : ∀ A : List Int, fLen [.lst (A.map D.int)] h = .ok (.int A.length) h := len_lst
  unfold F_copied bodyF
  show (u_copied [some (.str (kS k)), some (.lst (A.map D.int)), some (.lst (B.map D.int)), none] h).res = _
  unfold u_copied cp
  rw [s_ret, e_if, e_B, e_op]
  simp only [e_var, e_C, List.getElem?_cons_zero, bind_ok, eq_strs, kS_down, asB_bl]
  cases k with
  | true => simp [ll2]
  | false =>
    rw [if_neg Bool.false_ne_true, if_neg Bool.false_ne_true]
    simp only [dLc, e_CB, e_cons, e_nil, e_seqI, e_var, List.getElem?_cons_zero, List.getElem?_cons_succ, bind_ok, itemsD, List.length_map, ll, if_true, wipeD, List.foldl_cons, List.foldl_nil, List.set_cons_zero, List.set_cons_succ, lc, mkL, runl_none, ll2, toS_ok, res_rt]
abbrev obM (acc : List Int) : List (Key × D) := acc.map fun c => (Sum.inl c, D.bl true)
theorem put_ob {acc : List Int} {c : Int} : dPut (obM acc) (.inl c) (.bl true) = obM (ad acc c) := by
  unfold dPut ad
  have e : ((obM acc).any fun p => decide (p.1 = Sum.inl c)) = decide (c ∈ acc) := by
    rw [List.any_map, Bool.eq_iff_iff, List.any_eq_true, decide_eq_true_iff]
    constructor
    · rintro ⟨y, hy, e⟩
      have : (Sum.inl y : Key) = Sum.inl c := of_decide_eq_true e
      cases this
      exact hy
    · exact fun m => ⟨c, m, by simp⟩
  rw [e]
  by_cases m : c ∈ acc
  · rw [if_pos (by simpa using m), if_pos m, List.map_map]
    refine List.map_congr_left fun y _ => ?_
    show (if (Sum.inl y : Key) = Sum.inl c then ((Sum.inl y : Key), D.bl true) else (Sum.inl y, D.bl true)) = _
    split <;> rfl
  · rw [if_neg (by simpa using m), if_neg m]
    simp
theorem bk_loop {a0 a1 a2 a3 a4 : Option D} : ∀ {cs acc : List Int}, acc.length + cs.length < 1000 → dGL (gdName 4) dYes (bK (dVar 4) (dC (.bl true))) [a0, a1, a2, a3, a4] (obM acc) (cs.map D.int) h = .ok (obM (adF acc cs)) h
  | [], acc, _ => rfl
  | c :: cs, acc, l => by
    have l1 : (obM acc).length < sizeLine := Nat.lt_of_lt_of_le (show _ < 1000 by simp only [List.length_map, List.length_cons] at l ⊢; omega) (by decide)
    have l2 : (ad acc c).length ≤ acc.length + 1 := by unfold ad; split <;> simp
    have ih := bk_loop (a0 := a0) (a1 := a1) (a2 := a2) (a3 := a3) (a4 := a4) (cs := cs) (acc := ad acc c) (by simp only [List.length_cons] at l; omega)
    rw [List.map_cons]
    show (R.ok [a0, a1, a2, a3, some (.int c)] h).calm _ = _
    rw [calm_ok]
    show ((bK (dVar 4) (dC (.bl true)) (obM acc) [a0, a1, a2, a3, some (.int c)] h).calm _ : R (List (Key × D))) = _
    have e : bK (dVar 4) (dC (.bl true)) (obM acc) [a0, a1, a2, a3, some (.int c)] h = .ok (obM (ad acc c)) h := by
      unfold bK
      simp only [e_var, e_C, List.getElem?_cons_zero, List.getElem?_cons_succ, calm_ok, keyD]
      rw [if_pos l1, put_ob]
    rw [e, calm_ok]
    exact ih
theorem adF_len : ∀ {cs acc : List Int}, (adF acc cs).length ≤ acc.length + cs.length
  | [], acc => by simp [adF]
  | c :: cs, acc => by
    have := adF_len (cs := cs) (acc := ad acc c)
    have l2 : (ad acc c).length ≤ acc.length + 1 := by unfold ad; split <;> simp
    show (adF (ad acc c) cs).length ≤ _
    simp only [List.length_cons]
    omega
theorem b2_loop' {a0 a1 a2 : Option D} : ∀ {qs : List (List Int)} {acc : List Int}, (∀ r ∈ qs, r.length ≤ 10) → acc.length + 10 * qs.length < 900 →
    dGL (gdName 3) dYes (b2 (dSeqI (dVar 3)) (gdName 4) dYes (dVar 4) (dC (.bl true)) [4]) [a0, a1, a2, none, none] (obM acc) (rowsD qs) h = .ok (obM (qs.foldl adF acc)) h
  | [], acc, _, _ => rfl
  | r :: qs, acc, q, l => by
    have lr := q r (List.mem_cons_self ..)
    have l2 := adF_len (cs := r) (acc := acc)
    simp only [List.length_cons] at l
    have ih := b2_loop' (a0 := a0) (a1 := a1) (a2 := a2) (qs := qs) (acc := adF acc r) (fun y hy => q y (List.mem_cons_of_mem _ hy)) (by omega)
    show (R.ok [a0, a1, a2, some (tupI r), none] h).calm _ = _
    rw [calm_ok]
    show ((b2 (dSeqI (dVar 3)) (gdName 4) dYes (dVar 4) (dC (.bl true)) [4] (obM acc) [a0, a1, a2, some (tupI r), none] h).calm _ : R (List (Key × D))) = _
    have e : b2 (dSeqI (dVar 3)) (gdName 4) dYes (dVar 4) (dC (.bl true)) [4] (obM acc) [a0, a1, a2, some (tupI r), none] h = .ok (obM (adF acc r)) h := by
      unfold b2
      simp only [e_seqI, e_var, List.getElem?_cons_zero, List.getElem?_cons_succ, bind_ok, itemsD, calm_ok]
      exact bk_loop (by omega)
    rw [e, calm_ok]
    exact ih
theorem cut_rows {f l : Int} (h0 : 0 ≤ f) (hl : f ≤ l) (h1 : l < rs.length) : CM.cutD (rowsD rs) (some f) (some (l + 1)) = rowsD (slice rs f l) := by
  unfold CM.cutD slice
  have s1 : HT.sIx (rowsD rs).length 0 (some f) = f.toNat := by
    unfold HT.sIx
    simp only [List.length_map]
    rw [if_neg (by omega)]
    omega
  have s2 : HT.sIx (rowsD rs).length (rowsD rs).length (some (l + 1)) = (l + 1).toNat := by
    unfold HT.sIx
    simp only [List.length_map]
    rw [if_neg (by omega)]
    omega
  rw [s1, s2, ← List.map_drop, ← List.map_take]
  congr 2
  omega
theorem slice_sub {f l : Int} : ∀ r ∈ slice rs f l, r ∈ rs := fun r hr => List.mem_of_mem_drop (List.mem_of_mem_take hr)
theorem slice_len {f l : Int} : (slice rs f l).length ≤ rs.length := by
  unfold slice
  rw [List.length_take, List.length_drop]
  omega
theorem keys_ob (acc : List Int) : (obM acc).map (fun kv => kD kv.1) = acc.map D.int := by
  rw [List.map_map]
  rfl
theorem owned_ok (C : Chain rs) (c : ChD rs X) {f l : Int} (h0 : 0 ≤ f) (hl : f ≤ l) (h1 : l < rs.length) : F_owned_by [X, .int f, .int l] h = .ok (.lst ((obL rs f l).map D.int)) h := by
  have e1 : ∃ Y, (dSl false (dVar 0) (dPart (dVar 1)) (dPart (dOp (fAdd false) (dVar 2) (dC (.int 1))))) [some X, some (.int f), some (.int l), none, none] h = .ok Y h ∧ itemsD h Y = some (rowsD (slice rs f l)) := by
    rcases c with rfl | rfl
    · refine ⟨.lst (rowsD (slice rs f l)), ?_, rfl⟩
      rw [← cut_rows h0 hl h1]
      rfl
    · refine ⟨.tup (rowsD (slice rs f l)), ?_, rfl⟩
      rw [← cut_rows h0 hl h1]
      rfl
  obtain ⟨Y, e1, e2⟩ := e1
  have lp := b2_loop' (h := h) (a0 := some X) (a1 := some (.int f)) (a2 := some (.int l)) (qs := slice rs f l) (acc := []) (fun r hr => (C.own r (slice_sub r hr)).len) (by
    have := slice_len (rs := rs) (f := f) (l := l)
    have := C.le
    show 0 + _ < 900
    omega)
  unfold F_owned_by bodyF
  show (u_owned_by [some X, some (.int f), some (.int l), none, none] h).res = _
  unfold u_owned_by
  rw [s_ret, e_CB, e_cons]
  unfold dDc2
  have lp2 : dGL (gdName 3) dYes (b2 (dSeqI (dVar 3)) (gdName 4) dYes (dVar 4) (dC (.bl true)) [4]) (wipeD [some X, some (.int f), some (.int l), none, none] [3, 4]) [] (rowsD (slice rs f l)) h = .ok (obM (obL rs f l)) h := lp
  simp only [e_seqI, e1, bind_ok, e2, lp2, mkD, runl_none, e_nil, fListK, dctOf, keys_ob, mkL, toS_ok, res_rt]
end
section
variable {h : CH} {rs : List (List Int)} {X : D} {a b c : D}
theorem ix2_0 : fIx (.tup [a, b]) (.int 0) h = .ok a h := rfl
theorem ix2_1 : fIx (.tup [a, b]) (.int 1) h = .ok b h := rfl
theorem ix3_0 : fIx (.tup [a, b, c]) (.int 0) h = .ok a h := rfl
theorem ix3_1 : fIx (.tup [a, b, c]) (.int 1) h = .ok b h := rfl
theorem ix3_2 : fIx (.tup [a, b, c]) (.int 2) h = .ok c h := rfl
theorem len3 : fLen [.tup [a, b, c]] h = .ok (.int 3) h := rfl
theorem in_kinds (k : Bool) : fIn true (.str (kS k)) (.tup [.str "down", .str "up"]) h = .ok (.bl false) h := by cases k <;> kernel_rfl
theorem le2 : 2 ≤ sizeLine := by decide
theorem le3 : 3 ≤ sizeLine := by decide
theorem span_ok {n : Int} : ∀ {p : Pl} {f l : Int} {k : Nat}, Sp p f l → 0 ≤ f → l < n → l - f < k → F_span_of_ k [.int n, p.D] h = .ok (.tup [.int f, .int l]) h
  | p, f, l, 0, s, h0, h1, hk => by
    have := s.le
    omega
  | .leaf i, f, l, k + 1, s, h0, h1, hk => by
    obtain ⟨rfl, rfl⟩ := s
    have c0 : decide (i ≥ 0) = true := decide_eq_true h0
    have c1 : decide (i < n) = true := decide_eq_true h1
    show (u_span_of (F_span_of_ k) [some (.int n), some (.int i), none, none] h).res = _
    unfold u_span_of
    simp [is_cell_ok, h0, fB, h1, le2]
  | .node kd x y, f, l, k + 1, s, h0, h1, hk => by
    obtain ⟨m, sa, sb⟩ := s
    have la := sa.le
    have lb := sb.le
    have ea := span_ok (n := n) (k := k) sa h0 (by omega) (by omega)
    have eb := span_ok (n := n) (k := k) sb (by omega) h1 (by omega)
    have en : fEq true (.int 3) (.int 3) h = .ok (.bl false) h := by rw [eq_ints]; rfl
    have em : fEq true (.int (m + 1)) (.int (m + 1)) h = .ok (.bl false) h := by rw [eq_ints, beq_self_eq_true]; rfl
    show (u_span_of (F_span_of_ k) [some (.int n), some (.tup [.str (kS kd), x.D, y.D]), none, none] h).res = _
    unfold u_span_of
    simp [is_cell_tup, is_tup, len3, en, ix3_0, is_str, in_kinds, ix3_1, ix3_2, ea, eb, fIsN, CM.isNon, bneg, ix2_0, ix2_1, fAdd, em, le2]
theorem is_plan_ok (C : Chain rs) (c : ChD rs X) {p : Pl} (s : Sp p 0 (rs.length - 1)) : F_is_plan [X, p.D] h = .ok (.bl true) h := by
  have e1 := span_ok (h := h) (n := rs.length) (k := 30) s (by omega) (by omega) (by have := C.le; omega)
  have e2 : fEq false (.tup [.int 0, .int ((rs.length : Int) - 1)]) (.tup [.int 0, .int ((rs.length : Int) - 1)]) h = .ok (.bl true) h := by
    have e : toP h 10 (.tup ([0, (rs.length : Int) - 1].map D.int)) = some (.tuple ([0, (rs.length : Int) - 1].map PyData.int)) := by
      show (([0, (rs.length : Int) - 1].map D.int).mapM (toP h 9)).map PyData.tuple = _
      rw [toP_ints]
      rfl
    have s : SeqAt.shaped (.tuple ([0, (rs.length : Int) - 1].map PyData.int)) = true := by
      simp [SeqAt.shaped, PyData.canLayAll0, PyData.canLay0, PyData.depthAll, PyData.depth]
    have q : PyData.eqv (.tuple ([0, (rs.length : Int) - 1].map PyData.int)) (.tuple ([0, (rs.length : Int) - 1].map PyData.int)) = true := eqvAllI _
    show fEq false (.tup ([0, (rs.length : Int) - 1].map D.int)) (.tup ([0, (rs.length : Int) - 1].map D.int)) h = _
    unfold fEq
    rw [if_neg (by simp [scalD, flatD])]
    simp only [e, s, q, and_self, if_true]
    rfl
  unfold F_is_plan bodyF
  show (u_is_plan [some X, some p.D] h).res = _
  unfold u_is_plan F_span_of
  simp [need_chain_ok C c, c.len, e1, fSubI, e2, le2]
theorem need_plan_ok (C : Chain rs) (c : ChD rs X) {p : Pl} (s : Sp p 0 (rs.length - 1)) : F_need_plan [X, p.D] h = .ok .non h := by
  unfold F_need_plan bodyF
  show (u_need_plan [some X, some p.D] h).res = _
  unfold u_need_plan
  simp [is_plan_ok C c s]
theorem un3 {n : Nat} {ρ : DE} {i j k : Nat} : gdTup 3 (gdCons (gdName i) (gdCons (gdName j) (gdCons (gdName k) gdNil))) (.tup [a, b, c]) ρ h = .ok (((ρ.set i (some a)).set j (some b)).set k (some c)) h := rfl
theorem cost_of_ok (C : Chain rs) (c : ChD rs X) : ∀ {p : Pl} {f l : Int} {k : Nat}, Sp p f l → 0 ≤ f → l < rs.length → l - f < k → F_cost_of_ k [X, p.D] h = .ok (.int (p.W rs)) h
  | p, f, l, 0, s, h0, h1, hk => by
    have := s.le
    omega
  | .leaf i, f, l, k + 1, s, h0, h1, hk => by
    obtain ⟨rfl, rfl⟩ := s
    show (u_cost_of (F_cost_of_ k) [some X, some (.int i), none, none, none, none, none, none] h).res = _
    unfold u_cost_of
    simp [is_cell_ok, h0]
    rfl
  | .node kd x y, f, l, k + 1, s, h0, h1, hk => by
    obtain ⟨m, sa, sb⟩ := s
    have la := sa.le
    have lb := sb.le
    have le := C.le
    have ea := cost_of_ok (k := k) C c sa h0 (by omega) (by omega)
    have eb := cost_of_ok (k := k) C c sb (by omega) h1 (by omega)
    have sA := span_ok (h := h) (n := rs.length) (k := 30) sa h0 (by omega) (by omega)
    have sB := span_ok (h := h) (n := rs.length) (k := 30) sb (by omega) h1 (by omega)
    have oA := owned_ok (h := h) C c h0 la (show m < rs.length by omega)
    have oB := owned_ok (h := h) C c (show 0 ≤ m + 1 by omega) lb h1
    have cd := copied_ok (h := h) kd (A := obL rs f m) (B := obL rs (m + 1) l) (by have := len_ten (nd_ob (rs := rs)) (ob_ten C (l := m) h0); omega)
    rw [cp_C C sa sb h0 (by omega) (by omega) h1] at cd
    show (u_cost_of (F_cost_of_ k) [some X, some (.tup [.str (kS kd), x.D, y.D]), none, none, none, none, none, none] h).res = _
    unfold u_cost_of F_span_of
    simp [is_cell_tup, un3, c.len, sA, sB, ix2_0, ix2_1, oA, oB, cd, ea, eb, fAdd]
    rfl
theorem cost_ok (C : Chain rs) (c : ChD rs X) {p : Pl} (s : Sp p 0 (rs.length - 1)) : F_cost [X, p.D] h = .ok (.int (p.W rs)) h := by
  have e1 := cost_of_ok (h := h) (k := 9) C c s (by omega) (by omega) (by have := C.le; omega)
  unfold F_cost bodyF
  show (u_cost [some X, some p.D] h).res = _
  unfold u_cost F_cost_of
  simp [need_plan_ok C c s, e1]
end
section
variable {r w n : Nat} {h : CH}
theorem addI {i j : Int} : fAdd false (.int i) (.int j) h = .ok (.int (i + j)) h := rfl
theorem subI {i j : Int} : fSubI (.int i) (.int j) h = .ok (.int (i - j)) h := rfl
def rg (m : Nat) : List Int := (List.range m).map fun (i : Nat) => (0 : Int) + (i : Int)
theorem rg_D {m : Nat} : rgD 0 m = (rg m).map D.int := by
  unfold rgD rg
  rw [List.map_map]
  rfl
theorem rg_mem {m : Nat} {x : Int} (h : x ∈ rg m) : 0 ≤ x ∧ x < m := by
  unfold rg at h
  obtain ⟨i, hi, rfl⟩ := List.mem_map.mp h
  have := List.mem_range.mp hi
  omega
theorem rg_own {m : Nat} (hm : m ≤ 10) : Own (rg m) := by
  refine ⟨?_, fun x hx => ?_⟩
  · unfold rg
    rw [List.pairwise_map]
    exact List.pairwise_lt_range.imp fun h => by omega
  · have := rg_mem hx
    exact bd_ten (by omega) (by omega)
theorem Own.sub {l l' : List Int} (o : Own l) (s : l'.Sublist l) : Own l' := ⟨o.lt.sublist s, fun x hx => o.bd x (s.subset hx)⟩
theorem rg_len {m : Nat} : (rg m).length = m := by simp [rg]
theorem rngI {m : Int} {ρ : DE} {ta : TD} (h0 : 0 ≤ m) (h1 : m ≤ 100) (e : ta ρ h = .ok (.int m) h) : dRng1 (dCons ta dNil) ρ h = .ok ((rg m.toNat).map D.int, none) h := by
  simp only [dRng1, e_cons, e_nil, e, bind_ok]
  rw [if_pos ⟨by omega, by omega⟩, rg_D]
theorem owned_sat {m : Int} (A : DrawOk r w (n + 11) h) (h0 : 0 ≤ m) (h1 : m ≤ 10) : (F__law_owned [.ref r, .int m] h).sat fun d h1 => ∃ l, d = tupI l ∧ Own l ∧ DrawOk r w n h1 ∧ DrFr r w h h1 := by
  unfold F__law_owned bodyF
  rw [sat_res]
  show (u__law_owned [some (.ref r), some (.int m), none, none] h).sat _ _
  unfold u__law_owned
  rw [s_seq, sat_bindS]
  simp
  refine (take_sat (n := n + 10) A (s := 6) (by decide) (by decide)).mono ?_
  rintro _ h2 ⟨v, rfl, v0, v1, A2, f2⟩
  rw [Kont, s_seq, sat_bindS]
  simp [eq0_int]
  by_cases c0 : v = 0
  · simp [c0]
    exact ⟨⟨.nil, fun x hx => nomatch hx⟩, A2.mono (by omega), f2⟩
  · simp [c0]
    rw [Kont, s_seq, sat_bindS]
    simp [eq0_int]
    by_cases c1 : v = 1
    · have hm : m ≤ 100000 := by omega
      simp [c1, dTupR, h0, hm]
      exact ⟨rg m.toNat, by rw [rg_D], rg_own (by omega), A2.mono (by omega), f2⟩
    · simp [c1]
      rw [Kont, s_ret, sat_toS, e_CB, e_cons, sat_bind, sat_bind]
      unfold dLc
      have rgE : dRng1 (dCons (dVar 1) (dNil)) [some (.ref r), some (.int m), some (.int v), none] h2 = .ok ((rg m.toNat).map D.int, none) h2 := rngI h0 (by omega) rfl
      have ll : (rg m.toNat).length ≤ sizeLine := by rw [rg_len]; exact Nat.le_trans (show m.toNat ≤ 10 by omega) (by decide)
      simp [rgE, wipeD, ll]
      refine sat_lcl (I := fun rest ys h' => ∃ (l1 l2 zs : List Int), rg m.toNat = l1 ++ l2 ∧ rest = l2.map D.int ∧ ys = zs.map D.int ∧ zs.Sublist l1 ∧ DrawOk r w (n + l2.length) h' ∧ DrFr r w h h') ?_ (ys := []) ⟨[], rg m.toNat, [], rfl, rfl, rfl, .slnil, A2.mono (by rw [rg_len]; omega), f2⟩ ?_
      · rintro d rest ys h' ⟨l1, l2, zs, e1, e2, rfl, sb, A', f⟩
        cases l2 with
        | nil => cases e2
        | cons x l2 =>
          cases e2
          simp [fB]
          have fin : ∀ s : Int, 0 < s → s < 100 → (F__law_take [.ref r, .int s] h').sat fun a h_1 => (fEq false a (.int 0) h_1).sat fun a h_2 => (asB a h_2).sat fun b h_3 => if b = true then
                ∃ l1 l2_1, rg m.toNat = l1 ++ l2_1 ∧ List.map D.int l2 = List.map D.int l2_1 ∧ ∃ x_1, List.map D.int zs ++ [D.int x] = List.map D.int x_1 ∧ x_1.Sublist l1 ∧ DrawOk r w (n + l2_1.length) h_3 ∧ DrFr r w h h_3
              else ∃ l1 l2_1, rg m.toNat = l1 ++ l2_1 ∧ List.map D.int l2 = List.map D.int l2_1 ∧ ∃ x, List.map D.int zs = List.map D.int x ∧ x.Sublist l1 ∧ DrawOk r w (n + l2_1.length) h_3 ∧ DrFr r w h h_3 := fun s s0 s1 => by
            refine (take_sat (n := n + l2.length) (by simpa [Nat.add_assoc] using A') s0 (by omega)).mono ?_
            rintro d h1 ⟨u, rfl, _, _, A3, f3⟩
            simp only [eq0_int, sat_ok, asB_bl]
            by_cases c : u = 0
            · rw [if_pos (by rw [c]; rfl)]
              exact ⟨l1 ++ [x], l2, by simp [e1], rfl, zs ++ [x], by simp, sb.append (List.Sublist.refl _), A3, f.trans f3⟩
            · rw [if_neg (by simpa using c)]
              exact ⟨l1 ++ [x], l2, by simp [e1], rfl, zs, rfl, sb.trans (List.sublist_append_left ..), A3, f.trans f3⟩
          split
          · exact fin 2 (by decide) (by decide)
          · exact fin 4 (by decide) (by decide)
      · rintro zs h' ⟨l1, l2, zs', e1, e2, rfl, sb, A', f⟩ l el
        have : l2 = [] := by cases l2 with | nil => rfl | cons => cases e2
        subst this
        simp only [List.nil_append] at el
        subst el
        simp [mkL, fTupOf, lstOf]
        exact ⟨zs', rfl, (rg_own (m := m.toNat) (by omega)).sub (by rw [e1]; simpa using sb), A', f⟩
theorem chain_sat {lo hi : Int} (lo1 : 1 ≤ lo) (lohi : lo ≤ hi) (hi8 : hi ≤ 8) (A : DrawOk r w (n + 100) h) : (F__law_chain [.ref r, .int lo, .int hi] h).sat fun d h1 => ∃ rs, d = .lst (rowsD rs) ∧ Chain rs ∧ (lo ≤ rs.length ∧ (rs.length : Int) ≤ hi) ∧ DrawOk r w n h1 ∧ DrFr r w h h1 := by
  unfold F__law_chain bodyF
  rw [sat_res]
  show (u__law_chain [some (.ref r), some (.int lo), some (.int hi), none, none] h).sat _ _
  unfold u__law_chain
  rw [s_seq, sat_bindS]
  have l4 : 4 ≤ sizeLine := by decide
  simp [mkL, l4]
  refine (pick_sat (n := n + 99) A (.inl rfl) (by simp) (by simp)).mono ?_
  rintro d h2 ⟨md, A2, f2⟩
  have em : ∃ m : Int, d = .int m ∧ 0 ≤ m ∧ m ≤ 10 := by
    simp only [List.mem_cons, List.not_mem_nil, or_false] at md
    rcases md with rfl | rfl | rfl | rfl <;> exact ⟨_, rfl, by decide, by decide⟩
  obtain ⟨m, rfl, m0, m1⟩ := em
  rw [Kont, s_ret, sat_toS]
  unfold dLc
  rw [sat_bind]
  have tk : (dRng1 (dCons (dOp (fAdd false) (dVar 1) (dCall 2 F__law_take (dCons (dVar 0) (dCons (dOp (fAdd false) (dOp fSubI (dVar 2) (dVar 1)) (dC (.int 1))) (dNil))))) (dNil)) [some (.ref r), some (.int lo), some (.int hi), some (.int m), none] h2).sat fun q h3 => ∃ v : Int, q = ((rg (lo + v).toNat).map D.int, none) ∧ 0 ≤ v ∧ v < hi - lo + 1 ∧ DrawOk r w (n + 98) h3 ∧ DrFr r w h2 h3 := by
    unfold dRng1
    simp [subI, addI]
    refine (take_sat (n := n + 98) A2 (s := hi - lo + 1) (by omega) (by omega)).mono ?_
    rintro _ h3 ⟨v, rfl, v0, v1, A3, f3⟩
    simp [addI]
    exact ⟨⟨by omega, by omega⟩, v, by rw [rg_D], v0, v1, A3, f3⟩
  refine tk.mono ?_
  rintro _ h3 ⟨v, rfl, v0, v1, A3, f3⟩
  have ll : (rg (lo + v).toNat).length ≤ sizeLine := by rw [rg_len]; exact Nat.le_trans (show (lo + v).toNat ≤ 10 by omega) (by decide)
  simp only [List.length_map]
  rw [if_pos ll, sat_unlR, sat_bind]
  simp only [wipeD, List.foldl_cons, List.foldl_nil, List.set_cons_zero, List.set_cons_succ]
  refine sat_lcl (I := fun rest ys h' => ∃ (rs : List (List Int)), ys = rowsD rs ∧ (∀ q ∈ rs, Own q) ∧ rs.length + rest.length = (lo + v).toNat ∧ DrawOk r w (n + 11 * rest.length) h' ∧ DrFr r w h h') ?_ (ys := []) ⟨[], rfl, fun q hq => (nomatch hq), by rw [List.length_map, rg_len]; simp, A3.mono (by rw [List.length_map, rg_len]; omega), f2.trans f3⟩ ?_
  · rintro d rest ys h' ⟨rs, rfl, ow, hl, A', f⟩
    simp [dYes]
    refine (owned_sat (n := n + 11 * rest.length) (by simp only [List.length_cons] at A'; exact A'.mono (by omega)) m0 m1).mono ?_
    rintro _ h4 ⟨l, rfl, o, A4, f4⟩
    refine ⟨rs ++ [l], by simp, fun q hq => ?_, by simp only [List.length_append, List.length_cons, List.length_nil] at hl ⊢; omega, A4, f.trans f4⟩
    rcases List.mem_append.mp hq with q1 | q1
    · exact ow q q1
    · rw [List.mem_singleton.mp q1]
      exact o
  · rintro zs h' ⟨rs, rfl, ow, hl, A', f⟩ l el
    simp only [List.nil_append] at el
    subst el
    simp only [List.length_nil] at hl
    simp only [mkL, sat_ok, sat_rt]
    exact ⟨rs, rfl, ⟨by omega, by omega, ow⟩, ⟨by omega, by omega⟩, A', f⟩
end
section
variable {r w n : Nat} {h : CH}
theorem plan_sat : ∀ {k n : Nat} {f l : Int} {h : CH}, DrawOk r w (n + 2 * (l - f).toNat) h → 0 ≤ f → f ≤ l → l < 100 → l - f < k →
    (F__law_plan_ k [.ref r, .int f, .int l] h).sat fun d h1 => ∃ p, d = Pl.D p ∧ Sp p f l ∧ DrawOk r w n h1 ∧ DrFr r w h h1
  | 0, n, f, l, h, A, h0, hl, h9, hk => by omega
  | k + 1, n, f, l, h, A, h0, hl, h9, hk => by
    show (bodyF 5 (u__law_plan (F__law_plan_ k)) [.ref r, .int f, .int l] h).sat _
    unfold bodyF
    rw [sat_res]
    show (u__law_plan (F__law_plan_ k) [some (.ref r), some (.int f), some (.int l), none, none] h).sat _ _
    unfold u__law_plan
    rw [s_seq, sat_bindS]
    by_cases c : f = l
    · subst c
      simp [eq0_int]
      exact ⟨.leaf f, rfl, ⟨rfl, rfl⟩, A.mono (by omega), .refl⟩
    · have cb : (f == l) = false := by simp [c]
      simp [eq0_int, cb]
      rw [Kont, s_seq, sat_bindS]
      simp [subI]
      have A1 : DrawOk r w (n + 2 * (l - f - 1).toNat + 1 + 1) h := A.mono (by omega)
      refine (take_sat A1 (show 0 < l - f by omega) (by omega)).mono ?_
      rintro _ h1 ⟨v, rfl, v0, v1, A2, f2⟩
      simp [addI]
      rw [Kont, s_seq, sat_bindS]
      simp [mkL]
      have l2 : 2 ≤ sizeLine := by decide
      simp [l2]
      refine (pick_sat A2 (.inl rfl) (by simp) (by simp)).mono ?_
      rintro d h2 ⟨md, A3, f3⟩
      have ek : ∃ kd, d = .str (kS kd) := by
        simp only [List.mem_cons, List.not_mem_nil, or_false] at md
        rcases md with rfl | rfl
        · exact ⟨false, rfl⟩
        · exact ⟨true, rfl⟩
      obtain ⟨kd, rfl⟩ := ek
      have A4 : DrawOk r w ((n + 2 * (l - (f + v + 1)).toNat) + 2 * (f + v - f).toNat) h2 := A3.mono (by omega)
      rw [Kont]
      simp
      refine (plan_sat A4 h0 (by omega) (by omega) (by omega)).mono ?_
      rintro _ h3 ⟨pa, rfl, sa, A5, f5⟩
      simp [addI]
      refine (plan_sat A5 (by omega) (by omega) h9 (by omega)).mono ?_
      rintro _ h4 ⟨pb, rfl, sb, A6, f6⟩
      have l3 : 3 ≤ sizeLine := by decide
      simp [l3]
      exact ⟨.node kd pa pb, rfl, ⟨_, sa, sb⟩, A6, ((f2.trans f3).trans f5).trans f6⟩
end
abbrev AL (α : Type) := List (Int × α)
section
variable {α β : Type}
def aGet (l : AL α) (k : Int) : Option α := (l.find? fun p => decide (p.1 = k)).map (·.2)
def aPut (l : AL α) (k : Int) (v : α) : AL α := if (l.any fun p => decide (p.1 = k)) = true then l.map (fun p => if p.1 = k then (p.1, v) else p) else l ++ [(k, v)]
abbrev aKeys (l : AL α) : List Int := l.map (·.1)
variable {l : AL α} {k j : Int} {v : α} {f : Int → α → CM.D}
@[simp] theorem aGet_nil : aGet ([] : AL α) k = none := rfl
end
structure Kp (h h1 : CH) : Prop where
  nx : h.nx ≤ h1.nx
  ob : ∀ j, j < h.nx → h1.ob j = h.ob j
theorem Kp.refl {h : CH} : Kp h h := ⟨Nat.le_refl _, fun _ _ => rfl⟩
theorem Kp.trans {h h1 h2 : CH} (a : Kp h h1) (b : Kp h1 h2) : Kp h h2 := ⟨Nat.le_trans a.nx b.nx, fun j l => (b.ob j (Nat.lt_of_lt_of_le l a.nx)).trans (a.ob j l)⟩
theorem draw_kp {r w n : Nat} {h h1 : CH} (A : DrawOk r w n h) (k : Kp h h1) : DrawOk r w n h1 := A.keep k.nx fun j hj => k.ob j (by have := A.lt; rcases hj with rfl | rfl <;> omega)
def Pl.top : Pl → Int
  | .leaf i => i + 1
  | .node k a b => if k = true then a.top else b.top
def Pl.jobs : Pl → List (Bool × Int × Int)
  | .leaf _ => []
  | .node k a b => a.jobs ++ b.jobs ++ [(k, b.top, a.top)]
def leafA (rs : List (List Int)) (i : Int) : AL Int := (rowAt rs i).map fun c => (c, i + 1)
def puts (a b : AL Int) : AL Int := b.foldl (fun a p => aPut a p.1 p.2) a
def givn (A B : AL Int) : List Int := (aKeys A).filter fun c => !(aKeys B).contains c
def mrg (k : Bool) (A B : AL Int) : AL Int := if k = true then puts A B else puts B ((givn A B).map fun c => (c, (aGet A c).getD 0))
def mct (k : Bool) (A B : AL Int) : Int := if k = true then (B.length : Int) else ((givn A B).length : Int)
def Pl.dc (rs : List (List Int)) : Pl → AL Int
  | .leaf i => leafA rs i
  | .node k a b => mrg k (a.dc rs) (b.dc rs)
def Pl.ct (rs : List (List Int)) : Pl → Int
  | .leaf _ => 0
  | .node k a b => a.ct rs + b.ct rs + mct k (a.dc rs) (b.dc rs)
section
variable {A B : AL Int} {x v : Int} {k : Bool} {rs : List (List Int)}
def Top (rs : List (List Int)) (f l x v : Int) : Prop := ∃ i : Int, v = i + 1 ∧ f ≤ i ∧ i ≤ l ∧ x ∈ rowAt rs i ∧ ∀ j, i < j → j ≤ l → x ∉ rowAt rs j
theorem Top.uniq {f l w : Int} (a : Top rs f l x v) (b : Top rs f l x w) : v = w := by
  obtain ⟨i, rfl, i0, i1, ix, iu⟩ := a
  obtain ⟨j, rfl, j0, j1, jx, ju⟩ := b
  have h1 : ¬ i < j := fun z => iu j z j1 jx
  have h2 : ¬ j < i := fun z => ju i z i1 ix
  omega
end
def cellsN (rs : List (List Int)) : Int := maxL ((rs.flatten.map fun c => c + 1) ++ [1])
theorem maxL_bd : ∀ {l : List Int} {a b : Int}, l ≠ [] → (∀ x ∈ l, a ≤ x ∧ x ≤ b) → a ≤ maxL l ∧ maxL l ≤ b
  | [], _, _, n, _ => absurd rfl n
  | [x], _, _, _, h => h x (by simp)
  | x :: y :: l, a, b, _, h => by
    obtain ⟨i1, i2⟩ := maxL_bd (l := y :: l) (a := a) (b := b) (by simp) fun z hz => h z (List.mem_cons_of_mem _ hz)
    obtain ⟨j1, j2⟩ := h x (by simp)
    have e : maxL (x :: y :: l) = if x < maxL (y :: l) then maxL (y :: l) else x := rfl
    rw [e]
    split <;> omega
theorem cells_bd {rs : List (List Int)} (C : Chain rs) : 1 ≤ cellsN rs ∧ cellsN rs ≤ 10 := by
  refine maxL_bd (by simp) fun x hx => ?_
  rcases List.mem_append.mp hx with hx | hx
  · obtain ⟨c, hc, rfl⟩ := List.mem_map.mp hx
    obtain ⟨r, hr, hc⟩ := List.mem_flatten.mp hc
    have := ten_bd ((C.own r hr).bd c hc)
    omega
  · have : x = 1 := by simpa using hx
    omega
section
variable {h : CH} {rs : List (List Int)} {X : CM.D}
theorem cl_inner {a0 a1 a2 : Option CM.D} : ∀ {cs acc : List Int}, acc.length + cs.length < 1000 → dGL (gdName 2) dYes (bL (dOp (fAdd false) (dVar 2) (dC (.int 1)))) [a0, a1, a2] (acc.map CM.D.int) (cs.map CM.D.int) h = .ok ((acc ++ cs.map fun c => c + 1).map CM.D.int) h
  | [], acc, _ => by simp [dGL]
  | c :: cs, acc, l => by
    have l1 : (acc.map CM.D.int).length < sizeLine := Nat.lt_of_lt_of_le (show _ < 1000 by simp only [List.length_map, List.length_cons] at l ⊢; omega) (by decide)
    have ih := cl_inner (a0 := a0) (a1 := a1) (a2 := some (.int c)) (cs := cs) (acc := acc ++ [c + 1]) (by simp only [List.length_cons, List.length_append, List.length_nil] at l ⊢; omega)
    rw [List.map_cons]
    show (R.ok [a0, a1, some (.int c)] h).calm _ = _
    rw [calm_ok]
    show ((bL (dOp (fAdd false) (dVar 2) (dC (.int 1))) (acc.map CM.D.int) [a0, a1, some (.int c)] h).calm _ : R (List CM.D)) = _
    have e : bL (dOp (fAdd false) (dVar 2) (dC (.int 1))) (acc.map CM.D.int) [a0, a1, some (.int c)] h = .ok ((acc ++ [c + 1]).map CM.D.int) h := by
      have ev : dOp (fAdd false) (dVar 2) (dC (.int 1)) [a0, a1, some (.int c)] h = .ok (.int (c + 1)) h := rfl
      unfold bL
      rw [ev, calm_ok, if_pos l1, List.map_append]
      rfl
    rw [e, calm_ok]
    show dGL _ _ _ [a0, a1, a2] _ _ _ = _
    have ih' := cl_inner (a0 := a0) (a1 := a1) (a2 := a2) (cs := cs) (acc := acc ++ [c + 1]) (by simp only [List.length_cons, List.length_append, List.length_nil] at l ⊢; omega)
    rw [ih']
    simp
theorem cl_outer {a0 : Option CM.D} : ∀ {qs : List (List Int)} {acc : List Int}, (∀ r ∈ qs, r.length ≤ 10) → acc.length + 10 * qs.length < 900 →
    dGL (gdName 1) dYes (b2L (dSeqI (dVar 1)) (gdName 2) dYes (dOp (fAdd false) (dVar 2) (dC (.int 1))) [2]) [a0, none, none] (acc.map CM.D.int) (rowsD qs) h = .ok ((acc ++ qs.flatten.map fun c => c + 1).map CM.D.int) h
  | [], acc, _, _ => by simp [dGL]
  | r :: qs, acc, q, l => by
    have lr := q r (List.mem_cons_self ..)
    simp only [List.length_cons] at l
    have ih := cl_outer (a0 := a0) (qs := qs) (acc := acc ++ r.map fun c => c + 1) (fun y hy => q y (List.mem_cons_of_mem _ hy)) (by simp; omega)
    show (R.ok [a0, some (tupI r), none] h).calm _ = _
    rw [calm_ok]
    show ((b2L (dSeqI (dVar 1)) (gdName 2) dYes (dOp (fAdd false) (dVar 2) (dC (.int 1))) [2] (acc.map CM.D.int) [a0, some (tupI r), none] h).calm _ : R (List CM.D)) = _
    have e : b2L (dSeqI (dVar 1)) (gdName 2) dYes (dOp (fAdd false) (dVar 2) (dC (.int 1))) [2] (acc.map CM.D.int) [a0, some (tupI r), none] h = .ok ((acc ++ r.map fun c => c + 1).map CM.D.int) h := by
      unfold b2L
      simp only [e_seqI, e_var, List.getElem?_cons_zero, List.getElem?_cons_succ, bind_ok, itemsD, calm_ok]
      exact cl_inner (by omega)
    rw [e, calm_ok, ih]
    simp
theorem cells_of_ok (C : Chain rs) (c : ChD rs X) : F_cells_of [X] h = .ok (.int (cellsN rs)) h := by
  show (u_cells_of [some X, none, none] h).res = _
  unfold u_cells_of
  have L : dLc2 false (dSeqI (dVar 0)) (gdName 1) (dYes) (dSeqI (dVar 1)) (gdName 2) (dYes) (dOp (fAdd false) (dVar 2) (dC (.int 1))) [1, 2] [2] [some X, none, none] h = .ok (.lst ((rs.flatten.map fun c => c + 1).map CM.D.int)) h := by
    have it : dSeqI (dVar 0) [some X, none, none] h = .ok (rowsD rs, none) h := by
      simp only [e_seqI, e_var, List.getElem?_cons_zero, bind_ok, c.items]
    unfold dLc2
    rw [it]
    have g := cl_outer (h := h) (a0 := some X) (qs := rs) (acc := []) (fun r hr => (C.own r hr).len) (by have := C.le; simp; omega)
    show (((dGL (gdName 1) dYes _ [some X, none, none] [] (rowsD rs) h).bind _).unl none : R CM.D) = _
    rw [show ([] : List CM.D) = ([] : List Int).map CM.D.int from rfl, g]
    simp [mkL, R.unl, unlH]
  have lf : (rs.flatten.map fun c => c + 1).length ≤ 80 := by
    rw [List.length_map, List.length_flatten]
    have : ∀ l : List (List Int), (∀ r ∈ l, r.length ≤ 10) → (l.map List.length).sum ≤ 10 * l.length := by
      intro l
      induction l with
      | nil => simp
      | cons r l ih =>
        intro q
        have := ih fun y hy => q y (List.mem_cons_of_mem _ hy)
        have := q r (List.mem_cons_self ..)
        simp only [List.map_cons, List.sum_cons, List.length_cons]
        omega
    have := this rs fun r hr => (C.own r hr).len
    have := C.le
    omega
  have ad : fAdd false (.lst ((rs.flatten.map fun c => c + 1).map CM.D.int)) (.lst [.int 1]) h = .ok (.lst (((rs.flatten.map fun c => c + 1) ++ [1]).map CM.D.int)) h := by
    unfold fAdd
    simp only [lstOf, mkL]
    rw [if_pos (Nat.le_trans (show _ ≤ 100 by simp only [List.length_map, List.length_cons, List.length_nil] at lf ⊢; omega) (by decide)), List.map_append]
    rfl
  have mx : fMaxS [.lst (((rs.flatten.map fun c => c + 1) ++ [1]).map CM.D.int)] h = .ok (.int (cellsN rs)) h := by
    unfold fMaxS
    simp only [seqOf, intsOf_map]
    rw [if_pos (by simp)]
    rfl
  have l1 : 1 ≤ sizeLine := by decide
  generalize (rs.flatten.map fun c => c + 1) = Z at L ad mx
  simp [need_chain_ok C c, L, mkL, l1, ad]
  rw [show List.map CM.D.int Z ++ [CM.D.int 1] = (Z ++ [1]).map CM.D.int by simp, mx]
  rfl
end
abbrev stepD (g : Int) : CM.D := .tup [.str "step", .int g]
def lineOf (m : Int) : Int → List (Bool × Int × Int) → List CM.D
  | _, [] => []
  | g, j :: js => .tup [.str "begin", .str (kS j.1), .int j.2.1] :: List.replicate (m + 1).toNat (stepD g) ++ lineOf m (g + 1) js
theorem line_app {m : Int} : ∀ {js ks : List (Bool × Int × Int)} {g : Int}, lineOf m g (js ++ ks) = lineOf m g js ++ lineOf m (g + js.length) ks
  | [], ks, g => by simp [lineOf]
  | j :: js, ks, g => by
    show CM.D.tup _ :: _ ++ lineOf m (g + 1) (js ++ ks) = (CM.D.tup _ :: _ ++ lineOf m (g + 1) js) ++ _
    rw [line_app (js := js)]
    simp only [List.length_cons, List.append_assoc, List.cons_append]
    rw [show g + 1 + (js.length : Int) = g + ((js.length + 1 : Nat) : Int) by omega]
theorem jobs_len : ∀ {p : Pl} {f l : Int}, Sp p f l → (p.jobs.length : Int) = l - f
  | .leaf i, f, l, s => by
    obtain ⟨rfl, rfl⟩ := s
    show (0 : Int) = _
    omega
  | .node k a b, f, l, s => by
    obtain ⟨m, sa, sb⟩ := s
    have i1 := jobs_len sa
    have i2 := jobs_len sb
    show ((a.jobs ++ b.jobs ++ [(k, b.top, a.top)]).length : Int) = _
    simp only [List.length_append, List.length_cons, List.length_nil]
    omega
theorem line_len {m : Int} (m0 : 0 ≤ m) (m1 : m ≤ 10) : ∀ {js : List (Bool × Int × Int)} {g : Int}, (lineOf m g js).length ≤ 12 * js.length
  | [], g => by simp [lineOf]
  | j :: js, g => by
    have := line_len m0 m1 (js := js) (g := g + 1)
    show (CM.D.tup _ :: List.replicate _ _ ++ lineOf m (g + 1) js).length ≤ _
    simp only [List.length_append, List.length_cons, List.length_replicate]
    omega
abbrev wkF (m : Int) (a : Nat) (g : Int) : List (Str × CM.D) := [("cells_there", .int m), ("line", .ref a), ("begun_jobs", .int g)]
structure Wk (w a : Nat) (m g : Int) (L : List CM.D) (h : CH) : Prop where
  ob : h.ob w = some (.obj 0 (wkF m a g))
  ln : h.ob a = some (.lst L)
  ne : w ≠ a
theorem Wk.next {w a : Nat} {m g g' : Int} {L L' : List CM.D} {h : CH} (k : Wk w a m g L h) : Wk w a m g' L' ((h.put a (.lst L')).put w (.obj 0 (wkF m a g'))) := ⟨put_same, by rw [put_ne k.ne.symm]; exact put_same, k.ne⟩
theorem app_at {h : CH} {k : Nat} {ds : List CM.D} {y : CM.D} (e : h.ob k = some (.lst ds)) (l : ds.length < 100000) : fAppend (.ref k) [y] h = .ok .non (h.put k (.lst (ds ++ [y]))) := by
  unfold fAppend
  simp only [e]
  rw [if_pos (Nat.lt_of_lt_of_le l (by decide))]
theorem ext_at {h : CH} {k : Nat} {ds es : List CM.D} (e : h.ob k = some (.lst ds)) (l : ds.length + es.length < 100000) : fExtend (.ref k) [.lst es] h = .ok .non (h.put k (.lst (ds ++ es))) := by
  unfold fExtend
  simp only [e, lstOf]
  rw [if_pos (Nat.le_trans (Nat.le_of_lt l) (by decide))]
theorem put_put {h : CH} {k : Nat} {a b : MO} : (h.put k a).put k b = h.put k b := by
  unfold CH.put
  simp only
  congr 1
  funext j
  by_cases e : j = k <;> simp [e]
theorem fld_get {h : CH} {w a : Nat} {m g : Int} {L : List CM.D} (k : Wk w a m g L h) : fFld [0] (Str.ofString "line") (.ref w) h = .ok (.ref a) h ∧ fFld [0] (Str.ofString "cells_there") (.ref w) h = .ok (.int m) h ∧ fFld [0] (Str.ofString "begun_jobs") (.ref w) h = .ok (.int g) h := by
  refine ⟨?_, ?_, ?_⟩ <;>
  · unfold fFld
    simp only [objOf, k.ob]
    rfl
theorem steps_ok {h : CH} {w a : Nat} {m g : Int} {L : List CM.D} {x1 x2 x3 x4 : Option CM.D} (k : Wk w a m g L h) (m0 : 0 ≤ m) (m1 : m ≤ 10) : dLc false (dRng1 (dCons (dOp (fAdd false) (dUn (fFld [0] "cells_there") (dVar 0)) (dC (.int 1))) (dNil))) (gdName 4) (dYes) (dTup (dCons (dC (.str "step")) (dCons (dUn (fFld [0] "begun_jobs") (dVar 0)) (dNil)))) [4] [some (.ref w), x1, x2, x3, x4] h = .ok (.lst (List.replicate (m + 1).toNat (stepD g))) h := by
  obtain ⟨e1, e2, e3⟩ := fld_get k
  have rg : (dRng1 (dCons (dOp (fAdd false) (dUn (fFld [0] "cells_there") (dVar 0)) (dC (.int 1))) (dNil))) [some (.ref w), x1, x2, x3, x4] h = .ok ((rg (m + 1).toNat).map CM.D.int, none) h := by
    refine rngI (by omega) (by omega) ?_
    simp [e2, addI]
  have lc : ∀ {xs : List Int}, dLcL (gdName 4) dYes (dTup (dCons (dC (.str "step")) (dCons (dUn (fFld [0] "begun_jobs") (dVar 0)) (dNil)))) [some (.ref w), x1, x2, x3, none] (xs.map CM.D.int) h = .ok (List.replicate xs.length (stepD g)) h := by
    intro xs
    induction xs with
    | nil => rfl
    | cons x xs ih =>
      have ev : (dTup (dCons (dC (.str "step")) (dCons (dUn (fFld [0] "begun_jobs") (dVar 0)) (dNil)))) [some (.ref w), x1, x2, x3, some (.int x)] h = .ok (stepD g) h := by
        have l2 : 2 ≤ sizeLine := by decide
        simp [e3, l2]
      rw [List.map_cons]
      show (R.ok [some (.ref w), x1, x2, x3, some (.int x)] h).calm _ = _
      rw [calm_ok]
      show ((R.ok true h : R Bool).calm _ : R (List CM.D)) = _
      rw [calm_ok, if_pos rfl, ev, calm_ok, ih]
      rfl
  unfold dLc
  rw [rg]
  simp only [bind_ok]
  rw [if_pos (Nat.le_trans (show _ ≤ 100 by rw [List.length_map, rg_len]; omega) (by decide))]
  show ((dLcL (gdName 4) dYes _ [some (.ref w), x1, x2, x3, none] _ h).bind _).unl none = _
  rw [lc, rg_len]
  rfl
theorem eq_up {h : CH} (k : Bool) : fEq false (.str (kS k)) (.str (Str.ofString "up")) h = .ok (.bl (!k)) h := by
  cases k <;> kernel_rfl
def wm_0 (R_ : FD) : SD := (dIfS (dB (dCall 1 F_is_cell (dCons (dVar 1) (dNil)))) (dRet (dOp (fAdd false) (dVar 1) (dC (.int 1)))) (dNext))
def wm_1 (R_ : FD) : SD := (dPar 2 3 (dCons (dMethN 0 "merged" 2 0 (srcP 0 2) R_ (dVar 0) (dCons (dOp fIx (dVar 1) (dC (.int 1))) (dNil)) (dNil)) (dCons (dMethN 0 "merged" 2 0 (srcP 0 2) R_ (dVar 0) (dCons (dOp fIx (dVar 1) (dC (.int 2))) (dNil)) (dNil)) (dNil))))
def wm_2 (R_ : FD) : SD := (dDrop (dBM "list" fAppend (dUn (fFld [0] "line") (dVar 0)) (dCons (dTup (dCons (dC (.str "begin")) (dCons (dOp fIx (dVar 1) (dC (.int 0))) (dCons (dVar 3) (dNil))))) (dNil))))
def wm_3 (R_ : FD) : SD := (dDrop (dBM "list" fExtend (dUn (fFld [0] "line") (dVar 0)) (dCons (dLc false (dRng1 (dCons (dOp (fAdd false) (dUn (fFld [0] "cells_there") (dVar 0)) (dC (.int 1))) (dNil))) (gdName 4) (dYes) (dTup (dCons (dC (.str "step")) (dCons (dUn (fFld [0] "begun_jobs") (dVar 0)) (dNil)))) [4]) (dNil))))
def wm_4 (R_ : FD) : SD := (dFldAug [0] "begun_jobs" (dVar 0) (dC (.int 1)))
def wm_5 (R_ : FD) : SD := (dRet (dIf (dB (dOp (fEq false) (dOp fIx (dVar 1) (dC (.int 0))) (dC (.str "up")))) (dVar 3) (dVar 2)))
theorem wm_u {R_ : FD} : u_Work_merged R_ = (dSeq (wm_0 R_) (dSeq (wm_1 R_) (dSeq (wm_2 R_) (dSeq (wm_3 R_) (dSeq (wm_4 R_) (wm_5 R_)))))) := rfl
theorem seqX {u v : SD} {ρ ρ1 : DE} {h h1 : CH} (e : u ρ h = .nx ρ1 h1) : dSeq u v ρ h = v ρ1 h1 := by
  rw [s_seq, e]
  rfl
theorem merged_ok {w a : Nat} {m : Int} (m0 : 0 ≤ m) (m1 : m ≤ 10) : ∀ {p : Pl} {f l g : Int} {k : Nat} {L : List CM.D} {h : CH}, Sp p f l → 0 ≤ f → l - f < k → Wk w a m g L h → L.length + 12 * (l - f).toNat < 90000 →
    ∃ h', F_Work_merged_ k [.ref w, p.D] h = .ok (.int p.top) h' ∧ Wk w a m (g + p.jobs.length) (L ++ lineOf m g p.jobs) h' ∧ h'.nx = h.nx ∧ ∀ j, j ≠ w → j ≠ a → h'.ob j = h.ob j
  | p, f, l, g, 0, L, h, s, h0, hk, W, lL => by
    have := s.le
    omega
  | .leaf i, f, l, g, k + 1, L, h, s, h0, hk, W, lL => by
    obtain ⟨rfl, rfl⟩ := s
    refine ⟨h, ?_, by simpa [Pl.jobs, lineOf] using W, rfl, fun _ _ _ => rfl⟩
    show (u_Work_merged (F_Work_merged_ k) [some (.ref w), some (.int i), none, none, none] h).res = _
    unfold u_Work_merged
    have ci : decide (i ≥ 0) = true := by simp; omega
    simp [is_cell_ok, ci, addI, Pl.top]
  | .node kd x y, f, l, g, k + 1, L, h, s, h0, hk, W, lL => by
    obtain ⟨mid, sa, sb⟩ := s
    have la := sa.le
    have lb := sb.le
    have j1 := jobs_len sa
    have j2 := jobs_len sb
    obtain ⟨h1, e1, W1, n1, f1⟩ := merged_ok m0 m1 (p := x) (g := g) (k := k) (L := L) (h := h) sa h0 (by omega) W (by omega)
    have ll := line_len m0 m1 (js := x.jobs) (g := g)
    obtain ⟨h2, e2, W2, n2, f2⟩ := merged_ok m0 m1 (p := y) (g := g + x.jobs.length) (k := k) (L := L ++ lineOf m g x.jobs) (h := h1) sb (by omega) (by omega) W1 (by simp only [List.length_append]; omega)
    have ll2 := line_len m0 m1 (js := y.jobs) (g := g + x.jobs.length)
    have lall : (L ++ lineOf m g x.jobs ++ lineOf m (g + x.jobs.length) y.jobs).length < 95000 := by simp only [List.length_append]; omega
    have lk : (wkF m a g).lookup (Str.ofString "merged") = none := by kernel_rfl
    have lk' : ∀ g : Int, (wkF m a g).lookup (Str.ofString "merged") = none := fun g => by kernel_rfl
    have i1 : ∀ h : CH, fIx (Pl.D (.node kd x y)) (.int 1) h = .ok x.D h := fun _ => rfl
    have i2 : ∀ h : CH, fIx (Pl.D (.node kd x y)) (.int 2) h = .ok y.D h := fun _ => rfl
    have i0 : ∀ h : CH, fIx (Pl.D (.node kd x y)) (.int 0) h = .ok (.str (kS kd)) h := fun _ => rfl
    have o1 : objOf h (.ref w) = some (0, (wkF m a g)) := by simp only [objOf, W.ob]
    have o2 : objOf h1 (.ref w) = some (0, (wkF m a (g + x.jobs.length))) := by simp only [objOf, W1.ob]
    have c1 : (dMethN 0 "merged" 2 0 (srcP 0 2) (F_Work_merged_ k) (dVar 0) (dCons (dOp fIx (dVar 1) (dC (.int 1))) (dNil)) (dNil)) [some (.ref w), some (Pl.D (.node kd x y)), none, none, none] h = .ok (.int x.top) h1 := by
      unfold dMethN
      simp [o1, lk', i1, srcP, pickD, e1]
    have c2 : (dMethN 0 "merged" 2 0 (srcP 0 2) (F_Work_merged_ k) (dVar 0) (dCons (dOp fIx (dVar 1) (dC (.int 2))) (dNil)) (dNil)) [some (.ref w), some (Pl.D (.node kd x y)), none, none, none] h1 = .ok (.int y.top) h2 := by
      unfold dMethN
      simp [o2, lk', i2, srcP, pickD, e2]
    generalize hG : g + (x.jobs.length : Int) + y.jobs.length = G at W2
    generalize hL : L ++ lineOf m g x.jobs ++ lineOf m (g + x.jobs.length) y.jobs = L2 at W2 lall
    -- the job's begin
    have a1 := app_at (y := .tup [.str (Str.ofString "begin"), .str (kS kd), .int y.top]) W2.ln (by omega)
    have W3 : Wk w a m G (L2 ++ [.tup [.str (Str.ofString "begin"), .str (kS kd), .int y.top]]) (h2.put a (.lst (L2 ++ [.tup [.str (Str.ofString "begin"), .str (kS kd), .int y.top]]))) := ⟨by rw [put_ne W2.ne]; exact W2.ob, put_same, W2.ne⟩
    have st := steps_ok (x1 := some (Pl.D (.node kd x y))) (x2 := some (.int x.top)) (x3 := some (.int y.top)) (x4 := none) W3 m0 m1
    have a2 := ext_at (es := List.replicate (m + 1).toNat (stepD G)) W3.ln (by simp only [List.length_append, List.length_cons, List.length_nil, List.length_replicate]; omega)
    rw [put_put] at a2
    have W4 : Wk w a m G (L2 ++ [.tup [.str (Str.ofString "begin"), .str (kS kd), .int y.top]] ++ List.replicate (m + 1).toNat (stepD G)) (h2.put a (.lst (L2 ++ [.tup [.str (Str.ofString "begin"), .str (kS kd), .int y.top]] ++ List.replicate (m + 1).toNat (stepD G)))) := ⟨by rw [put_ne W2.ne]; exact W2.ob, put_same, W2.ne⟩
    have fa : dFldAug [0] (Str.ofString "begun_jobs") (dVar 0) (dC (.int 1)) [some (.ref w), some (Pl.D (.node kd x y)), some (.int x.top), some (.int y.top), none] (h2.put a (.lst (L2 ++ [.tup [.str (Str.ofString "begin"), .str (kS kd), .int y.top]] ++ List.replicate (m + 1).toNat (stepD G)))) = .nx [some (.ref w), some (Pl.D (.node kd x y)), some (.int x.top), some (.int y.top), none] ((h2.put a (.lst (L2 ++ [.tup [.str (Str.ofString "begin"), .str (kS kd), .int y.top]] ++ List.replicate (m + 1).toNat (stepD G)))).put w (.obj 0 (wkF m a (G + 1)))) := by
      have lu : (wkF m a G).lookup (Str.ofString "begun_jobs") = some (.int G) := by kernel_rfl
      have pd : putD (Str.ofString "begun_jobs") (.int (G + 1)) (wkF m a G) = (wkF m a (G + 1)) := by kernel_rfl
      unfold dFldAug
      simp only [e_var, List.getElem?_cons_zero, toS_ok, refOf, W4.ob, lu, e_C, pd]
      simp
    have W5 := W4.next (g' := G + 1) (L' := L2 ++ [.tup [.str (Str.ofString "begin"), .str (kS kd), .int y.top]] ++ List.replicate (m + 1).toNat (stepD G))
    rw [put_put] at W5
    refine ⟨(h2.put a (.lst (L2 ++ [.tup [.str (Str.ofString "begin"), .str (kS kd), .int y.top]] ++ List.replicate (m + 1).toNat (stepD G)))).put w (.obj 0 (wkF m a (G + 1))), ?_, ?_, ?_, ?_⟩
    · show (u_Work_merged (F_Work_merged_ k) [some (.ref w), some (Pl.D (.node kd x y)), none, none, none] h).res = _
      have ct : F_is_cell [Pl.D (.node kd x y)] h = .ok (.bl false) h := is_cell_tup _
      have l3 : 3 ≤ sizeLine := by decide
      have lf := (fld_get W2).1
      have lf3 := (fld_get W3).1
      have t2 : isTy "list" (.ref a) h2 = true := by simp [isTy, lstOf, W2.ln]
      have t3 : isTy "list" (.ref a) (h2.put a (.lst (L2 ++ [.tup [.str (Str.ofString "begin"), .str (kS kd), .int y.top]]))) = true := by simp [isTy, lstOf, W3.ln]
      have q0 : wm_0 (F_Work_merged_ k) [some (.ref w), some (Pl.D (.node kd x y)), none, none, none] h = .nx [some (.ref w), some (Pl.D (.node kd x y)), none, none, none] h := by
        unfold wm_0
        simp [ct]
      have q1 : wm_1 (F_Work_merged_ k) [some (.ref w), some (Pl.D (.node kd x y)), none, none, none] h = .nx [some (.ref w), some (Pl.D (.node kd x y)), some (.int x.top), some (.int y.top), none] h2 := by
        unfold wm_1 dPar
        simp only [e_cons, e_nil, c1, c2, bind_ok, toS_ok]
        rfl
      have q2 : wm_2 (F_Work_merged_ k) [some (.ref w), some (Pl.D (.node kd x y)), some (.int x.top), some (.int y.top), none] h2 = .nx [some (.ref w), some (Pl.D (.node kd x y)), some (.int x.top), some (.int y.top), none] (h2.put a (.lst (L2 ++ [.tup [.str (Str.ofString "begin"), .str (kS kd), .int y.top]]))) := by
        unfold wm_2
        simp [lf, t2, i0, l3, a1]
      have q3 : wm_3 (F_Work_merged_ k) [some (.ref w), some (Pl.D (.node kd x y)), some (.int x.top), some (.int y.top), none] (h2.put a (.lst (L2 ++ [.tup [.str (Str.ofString "begin"), .str (kS kd), .int y.top]]))) = .nx [some (.ref w), some (Pl.D (.node kd x y)), some (.int x.top), some (.int y.top), none] (h2.put a (.lst (L2 ++ [.tup [.str (Str.ofString "begin"), .str (kS kd), .int y.top]] ++ List.replicate (m + 1).toNat (stepD G)))) := by
        unfold wm_3
        generalize (h2.put a (.lst (L2 ++ [.tup [.str (Str.ofString "begin"), .str (kS kd), .int y.top]]))) = h3 at lf3 t3 st a2 ⊢
        have bm : ∀ ts : TDs, ts [some (.ref w), some (Pl.D (.node kd x y)), some (.int x.top), some (.int y.top), none] h3 = .ok [.lst (List.replicate (m + 1).toNat (stepD G))] h3 → dBM "list" fExtend (dUn (fFld [0] "line") (dVar 0)) ts [some (.ref w), some (Pl.D (.node kd x y)), some (.int x.top), some (.int y.top), none] h3 = .ok .non (h2.put a (.lst (L2 ++ [.tup [.str (Str.ofString "begin"), .str (kS kd), .int y.top]] ++ List.replicate (m + 1).toNat (stepD G)))) := fun ts e => by
          have o : dUn (fFld [0] "line") (dVar 0) [some (.ref w), some (Pl.D (.node kd x y)), some (.int x.top), some (.int y.top), none] h3 = .ok (.ref a) h3 := by simp [lf3]
          unfold dBM
          rw [o, bind_ok, if_pos t3, e, bind_ok]
          exact a2
        rw [s_drop, bm _ (by simp only [e_cons, e_nil, st, bind_ok]), toS_ok]
      have q4 : wm_4 (F_Work_merged_ k) [some (.ref w), some (Pl.D (.node kd x y)), some (.int x.top), some (.int y.top), none] (h2.put a (.lst (L2 ++ [.tup [.str (Str.ofString "begin"), .str (kS kd), .int y.top]] ++ List.replicate (m + 1).toNat (stepD G)))) = _ := fa
      rw [wm_u, seqX q0, seqX q1, seqX q2, seqX q3, seqX q4]
      unfold wm_5
      cases kd <;> simp [i0, eq_up, Pl.top]
    · have el : L ++ lineOf m g (x.jobs ++ y.jobs ++ [(kd, y.top, x.top)]) = L2 ++ [.tup [.str (Str.ofString "begin"), .str (kS kd), .int y.top]] ++ List.replicate (m + 1).toNat (stepD G) := by
        rw [line_app, line_app, ← hL, ← hG]
        simp [lineOf, Int.add_assoc]
      show Wk w a m (g + ((x.jobs ++ y.jobs ++ [(kd, y.top, x.top)]).length : Nat)) (L ++ lineOf m g (x.jobs ++ y.jobs ++ [(kd, y.top, x.top)])) _
      rw [el, show g + ((x.jobs ++ y.jobs ++ [(kd, y.top, x.top)]).length : Nat) = G + 1 by simp only [List.length_append, List.length_cons, List.length_nil]; omega]
      exact W5
    · show h2.nx = h.nx
      omega
    · intro j jw ja
      rw [put_ne jw, put_ne ja, f2 j jw ja, f1 j jw ja]
abbrev covD : CM.D := .tup [.str (Str.ofString "cover"), .int 0]
abbrev wrtD (i c : Int) : CM.D := .tup [.str (Str.ofString "write"), .int 0, .int c, .int (i + 1)]
def bld : Nat → List (List Int) → List CM.D
  | _, [] => []
  | i, r :: rs => covD :: r.map (fun c => wrtD i c) ++ bld (i + 1) rs
theorem bld_len : ∀ {rs : List (List Int)} {i : Nat}, (∀ r ∈ rs, r.length ≤ 10) → (bld i rs).length ≤ 11 * rs.length
  | [], _, _ => by simp [bld]
  | r :: rs, i, q => by
    have := bld_len (rs := rs) (i := i + 1) fun y hy => q y (List.mem_cons_of_mem _ hy)
    have := q r (List.mem_cons_self ..)
    show (covD :: r.map _ ++ bld (i + 1) rs).length ≤ _
    simp only [List.length_append, List.length_cons, List.length_map]
    omega
def dds (rs : List (List Int)) (p : Pl) : List CM.D := bld 0 rs ++ covD :: lineOf (cellsN rs) 0 p.jobs
def df_0 : SD := (dDrop (dCall 2 F_need_plan (dCons (dVar 0) (dCons (dVar 1) (dNil)))))
def df_1 : SD := (dPar 2 3 (dCons (dLst true (dNil)) (dCons (dMakeN 0 false 2 0 (srcP 0 2) F_Work_init (dCons (dCall 1 F_cells_of (dCons (dVar 0) (dNil))) (dNil)) (dNil)) (dNil))))
def df_2 : SD := (dFor (dEnumT (dCons (dVar 0) (dNil))) (gdTup 2 (gdCons (gdName 4) (gdCons (gdName 5) (gdNil)))) (dSeq (dDrop (dBM "list" fAppend (dVar 2) (dCons (dTup (dCons (dC (.str "cover")) (dCons (dC (.int 0)) (dNil)))) (dNil)))) (dDrop (dBM "list" fExtend (dVar 2) (dCons (dLc false (dSeqI (dVar 5)) (gdName 6) (dYes) (dTup (dCons (dC (.str "write")) (dCons (dC (.int 0)) (dCons (dVar 6) (dCons (dOp (fAdd false) (dVar 4) (dC (.int 1))) (dNil)))))) [6]) (dNil))))))
def df_3 : SD := (dDrop (dMethN 0 "merged" 2 0 (srcP 0 2) F_Work_merged (dVar 3) (dCons (dVar 1) (dNil)) (dNil)))
def df_4 : SD := (dRet (dLst true (dStar (dVar 2) (dCons (dTup (dCons (dC (.str "cover")) (dCons (dC (.int 0)) (dNil)))) (dStar (dUn (fFld [0] "line") (dVar 3)) (dNil))))))
theorem df_u : u_deeds_for = (dSeq (df_0) (dSeq (df_1) (dSeq (df_2) (dSeq (df_3) (df_4))))) := rfl
section
variable {h : CH} {rs : List (List Int)} {X : CM.D}
def dlB : SD := (dSeq (dDrop (dBM "list" fAppend (dVar 2) (dCons (dTup (dCons (dC (.str "cover")) (dCons (dC (.int 0)) (dNil)))) (dNil)))) (dDrop (dBM "list" fExtend (dVar 2) (dCons (dLc false (dSeqI (dVar 5)) (gdName 6) (dYes) (dTup (dCons (dC (.str "write")) (dCons (dC (.int 0)) (dCons (dVar 6) (dCons (dOp (fAdd false) (dVar 4) (dC (.int 1))) (dNil)))))) [6]) (dNil)))))
theorem writes_ok {k i : Nat} {x0 x1 x2 x3 x6 : Option CM.D} : ∀ {cs : List Int}, dLcL (gdName 6) dYes (dTup (dCons (dC (.str "write")) (dCons (dC (.int 0)) (dCons (dVar 6) (dCons (dOp (fAdd false) (dVar 4) (dC (.int 1))) (dNil)))))) [x0, x1, x2, x3, some (.int i), x6, none] (cs.map CM.D.int) h = .ok (cs.map fun c => wrtD i c) h
  | [] => rfl
  | c :: cs => by
    have l4 : 4 ≤ sizeLine := by decide
    have ev : (dTup (dCons (dC (.str "write")) (dCons (dC (.int 0)) (dCons (dVar 6) (dCons (dOp (fAdd false) (dVar 4) (dC (.int 1))) (dNil)))))) [x0, x1, x2, x3, some (.int i), x6, some (.int c)] h = .ok (wrtD i c) h := by
      simp [addI, l4]
    rw [List.map_cons]
    show (R.ok [x0, x1, x2, x3, some (.int i), x6, some (.int c)] h).calm _ = _
    rw [calm_ok]
    show ((R.ok true h : R Bool).calm _ : R (List CM.D)) = _
    rw [calm_ok, if_pos rfl, ev, calm_ok, writes_ok (k := k) (cs := cs)]
    rfl
theorem dl_ok {k : Nat} {x0 x1 x3 : Option CM.D} : ∀ {rows : List (List Int)} {i : Nat} {acc : List CM.D} {h : CH} {x4 x5 x6 : Option CM.D}, (∀ r ∈ rows, r.length ≤ 10) → h.ob k = some (.lst acc) → acc.length + 11 * rows.length < 90000 →
    ∃ b4 b5 b6, dForL (gdTup 2 (gdCons (gdName 4) (gdCons (gdName 5) (gdNil)))) dlB (enD i (rowsD rows)) [x0, x1, some (.ref k), x3, x4, x5, x6] h = .nx [x0, x1, some (.ref k), x3, b4, b5, b6] (if rows = [] then h else h.put k (.lst (acc ++ bld i rows)))
  | [], i, acc, h, x4, x5, x6, q, e, l => ⟨x4, x5, x6, rfl⟩
  | r :: rows, i, acc, h, x4, x5, x6, q, e, l => by
    have lr := q r (List.mem_cons_self ..)
    simp only [List.length_cons] at l
    have l2 : 2 ≤ sizeLine := by decide
    have a1 := app_at (y := covD) e (by omega)
    have e1 : (h.put k (.lst (acc ++ [covD]))).ob k = some (.lst (acc ++ [covD])) := put_same
    have a2 := ext_at (es := r.map fun c => wrtD i c) e1 (by simp only [List.length_append, List.length_cons, List.length_nil, List.length_map]; omega)
    rw [put_put] at a2
    have tg : (gdTup 2 (gdCons (gdName 4) (gdCons (gdName 5) (gdNil)))) (.tup [.int i, tupI r]) [x0, x1, some (.ref k), x3, x4, x5, x6] h = .ok [x0, x1, some (.ref k), x3, some (.int i), some (tupI r), x6] h := by simp [gdTup, gdCons, gdNil]
    have t1 : isTy "list" (.ref k) h = true := by simp [isTy, lstOf, e]
    have t2 : isTy "list" (.ref k) (h.put k (.lst (acc ++ [covD]))) = true := by simp [isTy, lstOf, e1]
    have lc : dLc false (dSeqI (dVar 5)) (gdName 6) (dYes) (dTup (dCons (dC (.str "write")) (dCons (dC (.int 0)) (dCons (dVar 6) (dCons (dOp (fAdd false) (dVar 4) (dC (.int 1))) (dNil)))))) [6] [x0, x1, some (.ref k), x3, some (.int i), some (tupI r), x6] (h.put k (.lst (acc ++ [covD]))) = .ok (.lst (r.map fun c => wrtD i c)) (h.put k (.lst (acc ++ [covD]))) := by
      unfold dLc
      simp only [e_seqI, e_var, List.getElem?_cons_zero, List.getElem?_cons_succ, bind_ok, itemsD]
      rw [if_pos (Nat.le_trans (show _ ≤ 100 by rw [List.length_map]; omega) (by decide))]
      show ((dLcL (gdName 6) dYes _ [x0, x1, some (.ref k), x3, some (.int i), some (tupI r), none] _ _).bind _).unl none = _
      rw [writes_ok (k := k)]
      rfl
    have body : dlB [x0, x1, some (.ref k), x3, some (.int i), some (tupI r), x6] h = .nx [x0, x1, some (.ref k), x3, some (.int i), some (tupI r), x6] (h.put k (.lst (acc ++ [covD] ++ r.map fun c => wrtD i c))) := by
      unfold dlB
      have b1 : (dDrop (dBM "list" fAppend (dVar 2) (dCons (dTup (dCons (dC (.str "cover")) (dCons (dC (.int 0)) (dNil)))) (dNil)))) [x0, x1, some (.ref k), x3, some (.int i), some (tupI r), x6] h = .nx [x0, x1, some (.ref k), x3, some (.int i), some (tupI r), x6] (h.put k (.lst (acc ++ [covD]))) := by
        simp [t1, l2, a1]
      rw [seqX b1]
      have bm : ∀ ts : TDs, ts [x0, x1, some (.ref k), x3, some (.int i), some (tupI r), x6] (h.put k (.lst (acc ++ [covD]))) = .ok [.lst (r.map fun c => wrtD i c)] (h.put k (.lst (acc ++ [covD]))) → dBM "list" fExtend (dVar 2) ts [x0, x1, some (.ref k), x3, some (.int i), some (tupI r), x6] (h.put k (.lst (acc ++ [covD]))) = .ok .non (h.put k (.lst (acc ++ [covD] ++ r.map fun c => wrtD i c))) := fun ts e => by
        have o : dVar 2 [x0, x1, some (.ref k), x3, some (.int i), some (tupI r), x6] (h.put k (.lst (acc ++ [covD]))) = .ok (.ref k) (h.put k (.lst (acc ++ [covD]))) := rfl
        unfold dBM
        rw [o, bind_ok, if_pos t2, e, bind_ok]
        exact a2
      rw [s_drop, bm _ (by simp only [e_cons, e_nil, lc, bind_ok]), toS_ok]
    have lb : (acc ++ [covD] ++ r.map fun c => wrtD i c).length + 11 * rows.length < 90000 := by simp only [List.length_append, List.length_cons, List.length_nil, List.length_map]; omega
    obtain ⟨b4, b5, b6, ih⟩ := dl_ok (k := k) (x0 := x0) (x1 := x1) (x3 := x3) (rows := rows) (i := i + 1) (acc := acc ++ [covD] ++ r.map fun c => wrtD i c) (h := h.put k (.lst (acc ++ [covD] ++ r.map fun c => wrtD i c))) (x4 := some (.int i)) (x5 := some (tupI r)) (x6 := x6) (fun y hy => q y (List.mem_cons_of_mem _ hy)) put_same lb
    refine ⟨b4, b5, b6, ?_⟩
    show (((gdTup 2 (gdCons (gdName 4) (gdCons (gdName 5) (gdNil)))) (.tup [.int i, tupI r]) [x0, x1, some (.ref k), x3, x4, x5, x6] h).put _) = _
    rw [tg]
    show (match dlB [x0, x1, some (.ref k), x3, some (.int i), some (tupI r), x6] h with
      | .nx ρ2 h2 => dForL (gdTup 2 (gdCons (gdName 4) (gdCons (gdName 5) (gdNil)))) dlB (enD (i + 1) (rowsD rows)) ρ2 h2
      | .ct ρ2 h2 => dForL (gdTup 2 (gdCons (gdName 4) (gdCons (gdName 5) (gdNil)))) dlB (enD (i + 1) (rowsD rows)) ρ2 h2
      | .bk ρ2 h2 => .nx ρ2 h2
      | x => x) = _
    rw [body]
    show dForL _ _ _ _ _ = _
    rw [ih]
    by_cases z : rows = []
    · subst z
      simp [bld]
    · rw [if_neg z, if_neg (by simp), put_put]
      simp [bld]
abbrev wk1 (m : Int) : List (Str × CM.D) := [("cells_there", .int m)]
abbrev wk2 (m : Int) (a : Nat) : List (Str × CM.D) := [("cells_there", .int m), ("line", .ref a)]
theorem new_ob {o : MO} {j : Nat} : (h.new o).ob j = if j = h.nx then some o else h.ob j := rfl
theorem new_lt {o : MO} {j : Nat} (l : j < h.nx) : (h.new o).ob j = h.ob j := by rw [new_ob, if_neg (by omega)]
theorem init_ok {m : Int} : F_Work_init [.ref h.nx, .int m] (h.new (.obj 0 [])) = .ok .non ((((h.new (.obj 0 [])).put h.nx (.obj 0 (wk1 m))).new (.lst [])).put h.nx (.obj 0 (wkF m (h.nx + 1) 0))) := by
  show (u_Work_init [some (.ref h.nx), some (.int m)] (h.new (.obj 0 []))).res = _
  unfold u_Work_init
  have o0 : (h.new (.obj 0 [])).ob h.nx = some (.obj 0 []) := by rw [new_ob, if_pos rfl]
  have o1 : (((h.new (.obj 0 [])).put h.nx (.obj 0 (wk1 m))).new (.lst [])).ob h.nx = some (.obj 0 (wk1 m)) := by
    rw [new_lt (by show h.nx < h.nx + 1; omega)]
    exact put_same
  have p0 : putD (Str.ofString "cells_there") (.int m) [] = (wk1 m) := rfl
  have p1 : putD (Str.ofString "line") (.ref (h.nx + 1)) (wk1 m) = (wk2 m (h.nx + 1)) := by kernel_rfl
  have p2 : putD (Str.ofString "begun_jobs") (.int 0) (wk2 m (h.nx + 1)) = wkF m (h.nx + 1) 0 := by kernel_rfl
  have q0 : (dAsg (dVar 1) (gdFld [0] "cells_there" (dVar 0))) [some (.ref h.nx), some (.int m)] (h.new (.obj 0 [])) = .nx [some (.ref h.nx), some (.int m)] ((h.new (.obj 0 [])).put h.nx (.obj 0 (wk1 m))) := by
    simp [gdFld, refOf, o0, p0]
  have q1 : (dAsg (dLst true (dNil)) (gdFld [0] "line" (dVar 0))) [some (.ref h.nx), some (.int m)] ((h.new (.obj 0 [])).put h.nx (.obj 0 (wk1 m))) = .nx [some (.ref h.nx), some (.int m)] ((((h.new (.obj 0 [])).put h.nx (.obj 0 (wk1 m))).new (.lst [])).put h.nx (.obj 0 (wk2 m (h.nx + 1)))) := by
    have nx : ((h.new (.obj 0 [])).put h.nx (.obj 0 (wk1 m))).nx = h.nx + 1 := rfl
    simp [mkL, gdFld, refOf, o1, nx, p1]
  have q2 : (dAsg (dC (.int 0)) (gdFld [0] "begun_jobs" (dVar 0))) [some (.ref h.nx), some (.int m)] ((((h.new (.obj 0 [])).put h.nx (.obj 0 (wk1 m))).new (.lst [])).put h.nx (.obj 0 (wk2 m (h.nx + 1)))) = .nx [some (.ref h.nx), some (.int m)] ((((h.new (.obj 0 [])).put h.nx (.obj 0 (wk1 m))).new (.lst [])).put h.nx (.obj 0 (wkF m (h.nx + 1) 0))) := by
    have o2 : ((((h.new (.obj 0 [])).put h.nx (.obj 0 (wk1 m))).new (.lst [])).put h.nx (.obj 0 (wk2 m (h.nx + 1)))).ob h.nx = some (.obj 0 (wk2 m (h.nx + 1))) := put_same
    simp [gdFld, refOf, o2, p2, put_put]
  rw [seqX q0, seqX q1, q2]
  rfl
theorem deeds_ok (C : Chain rs) (c : ChD rs X) {p : Pl} (s : Sp p 0 (rs.length - 1)) : ∃ k h', F_deeds_for [X, p.D] h = .ok (.ref k) h' ∧ h'.ob k = some (.lst (dds rs p)) ∧ h.nx ≤ k ∧ k < h'.nx ∧ Kp h h' := by
  have n1 := C.ne
  have n8 := C.le
  obtain ⟨c1, c2⟩ := cells_bd C
  have lens : ∀ r ∈ rs, r.length ≤ 10 := fun r hr => (C.own r hr).len
  -- the two objects
  have o1 : (h.new (.lst [])).nx = h.nx + 1 := rfl
  have q0 : df_0 [some X, some p.D, none, none, none, none, none] h = .nx [some X, some p.D, none, none, none, none, none] h := by
    unfold df_0
    simp [need_plan_ok C c s]
  generalize hW : ((((h.new (.lst [])).new (.obj 0 [])).put (h.nx + 1) (.obj 0 (wk1 (cellsN rs)))).new (.lst [])).put (h.nx + 1) (.obj 0 (wkF (cellsN rs) (h.nx + 2) 0)) = h1
  have n1' : h1.nx = h.nx + 3 := by rw [← hW]; rfl
  have e0 : h1.ob h.nx = some (.lst []) := by
    rw [← hW, put_ne (by omega), new_lt (by show h.nx < h.nx + 2; omega), put_ne (by omega), new_lt (by show h.nx < h.nx + 1; omega), new_ob, if_pos rfl]
  have e2 : h1.ob (h.nx + 2) = some (.lst []) := by
    rw [← hW, put_ne (by omega), new_ob]
    exact if_pos rfl
  have W1 : Wk (h.nx + 1) (h.nx + 2) (cellsN rs) 0 [] h1 := ⟨by rw [← hW]; exact put_same, e2, by omega⟩
  have k1 : ∀ j, j < h.nx → h1.ob j = h.ob j := fun j hj => by
    rw [← hW, put_ne (by omega), new_lt (by show j < h.nx + 2; omega), put_ne (by omega), new_lt (by show j < h.nx + 1; omega), new_lt hj]
  have q1 : df_1 [some X, some p.D, none, none, none, none, none] h = .nx [some X, some p.D, some (.ref h.nx), some (.ref (h.nx + 1)), none, none, none] h1 := by
    unfold df_1 dPar
    have i := init_ok (h := h.new (.lst [])) (m := cellsN rs)
    rw [o1] at i
    have mk : (dMakeN 0 false 2 0 (srcP 0 2) F_Work_init (dCons (dCall 1 F_cells_of (dCons (dVar 0) (dNil))) (dNil)) (dNil)) [some X, some p.D, none, none, none, none, none] (h.new (.lst [])) = .ok (.ref (h.nx + 1)) h1 := by
      unfold dMakeN
      simp [cells_of_ok C c, srcP, pickD, o1, i, hW]
    have l : (dLst true (dNil)) [some X, some p.D, none, none, none, none, none] h = .ok (.ref h.nx) (h.new (.lst [])) := by simp [mkL]
    simp only [e_cons, e_nil, l, mk, bind_ok, toS_ok]
    rfl
  obtain ⟨a4, a5, a6, L⟩ := dl_ok (k := h.nx) (x0 := some X) (x1 := some p.D) (x3 := some (.ref (h.nx + 1))) (rows := rs) (i := 0) (acc := []) (h := h1) (x4 := none) (x5 := none) (x6 := none) lens e0 (by simp; omega)
  have rne : rs ≠ [] := fun z => by rw [z] at n1; simp at n1
  rw [if_neg rne, List.nil_append] at L
  have q2 : df_2 [some X, some p.D, some (.ref h.nx), some (.ref (h.nx + 1)), none, none, none] h1 = .nx [some X, some p.D, some (.ref h.nx), some (.ref (h.nx + 1)), a4, a5, a6] (h1.put h.nx (.lst (bld 0 rs))) := by
    have it : dEnumT (dCons (dVar 0) (dNil)) [some X, some p.D, some (.ref h.nx), some (.ref (h.nx + 1)), none, none, none] h1 = .ok (enD 0 (rowsD rs), none) h1 := by
      unfold dEnumT
      rcases c with rfl | rfl <;> simp
    show (dFor (dEnumT (dCons (dVar 0) (dNil))) _ dlB) _ _ = _
    rw [s_for, it, toS_ok]
    simp only
    rw [L]
    rfl
  have W2 : Wk (h.nx + 1) (h.nx + 2) (cellsN rs) 0 [] (h1.put h.nx (.lst (bld 0 rs))) := ⟨by rw [put_ne (by omega)]; exact W1.ob, by rw [put_ne (by omega)]; exact W1.ln, W1.ne⟩
  obtain ⟨h3, e3, W3, n3, f3⟩ := merged_ok (w := h.nx + 1) (a := h.nx + 2) (m := cellsN rs) (by omega) c2 (p := p) (g := 0) (k := 9) (L := []) (h := h1.put h.nx (.lst (bld 0 rs))) s (by omega) (by omega) W2 (by simp; omega)
  have e3' : F_Work_merged [.ref (h.nx + 1), p.D] (h1.put h.nx (.lst (bld 0 rs))) = .ok (.int p.top) h3 := e3
  have q3 : df_3 [some X, some p.D, some (.ref h.nx), some (.ref (h.nx + 1)), a4, a5, a6] (h1.put h.nx (.lst (bld 0 rs))) = .nx [some X, some p.D, some (.ref h.nx), some (.ref (h.nx + 1)), a4, a5, a6] h3 := by
    have ow : objOf (h1.put h.nx (.lst (bld 0 rs))) (.ref (h.nx + 1)) = some (0, wkF (cellsN rs) (h.nx + 2) 0) := by simp only [objOf, W2.ob]
    have lk : (wkF (cellsN rs) (h.nx + 2) 0).lookup (Str.ofString "merged") = none := by kernel_rfl
    unfold df_3
    rw [s_drop]
    have c : (dMethN 0 "merged" 2 0 (srcP 0 2) F_Work_merged (dVar 3) (dCons (dVar 1) (dNil)) (dNil)) [some X, some p.D, some (.ref h.nx), some (.ref (h.nx + 1)), a4, a5, a6] (h1.put h.nx (.lst (bld 0 rs))) = .ok (.int p.top) h3 := by
      unfold dMethN
      simp [ow, lk, srcP, pickD, e3']
    rw [c, toS_ok]
  have ob3 : h3.ob h.nx = some (.lst (bld 0 rs)) := by rw [f3 h.nx (by omega) (by omega)]; exact put_same
  have ln3 : h3.ob (h.nx + 2) = some (.lst (lineOf (cellsN rs) 0 p.jobs)) := by rw [W3.ln, List.nil_append]
  have n3' : h3.nx = h.nx + 3 := by rw [n3]; exact n1'
  have jl := jobs_len s
  have ll := line_len (m := cellsN rs) (by omega) c2 (js := p.jobs) (g := 0)
  have bl := bld_len (i := 0) lens
  have q4 : df_4 [some X, some p.D, some (.ref h.nx), some (.ref (h.nx + 1)), a4, a5, a6] h3 = .rt (.ref h3.nx) (h3.new (.lst (dds rs p))) := by
    have lf := (fld_get W3).1
    have l2 : 2 ≤ sizeLine := by decide
    have s1 : seqOf h3 (.ref h.nx) = some (bld 0 rs) := by simp only [seqOf, ob3]
    have s2 : seqOf h3 (.ref (h.nx + 2)) = some (lineOf (cellsN rs) 0 p.jobs) := by simp only [seqOf, ln3]
    have ld : (dds rs p).length ≤ sizeLine := Nat.le_trans (show _ ≤ 1000 by unfold dds; simp only [List.length_append, List.length_cons]; omega) (by decide)
    have ts : (dStar (dVar 2) (dCons (dTup (dCons (dC (.str "cover")) (dCons (dC (.int 0)) (dNil)))) (dStar (dUn (fFld [0] "line") (dVar 3)) (dNil)))) [some X, some p.D, some (.ref h.nx), some (.ref (h.nx + 1)), a4, a5, a6] h3 = .ok (dds rs p) h3 := by
      unfold dStar
      simp [s1, s2, lf, l2, dds]
    unfold df_4
    rw [s_ret]
    have t : (dLst true (dStar (dVar 2) (dCons (dTup (dCons (dC (.str "cover")) (dCons (dC (.int 0)) (dNil)))) (dStar (dUn (fFld [0] "line") (dVar 3)) (dNil))))) [some X, some p.D, some (.ref h.nx), some (.ref (h.nx + 1)), a4, a5, a6] h3 = .ok (.ref h3.nx) (h3.new (.lst (dds rs p))) := by
      unfold dLst
      rw [ts, bind_ok, if_pos ld]
      rfl
    rw [t, toS_ok]
  refine ⟨h3.nx, h3.new (.lst (dds rs p)), ?_, by rw [new_ob, if_pos rfl], by omega, Nat.lt_succ_self _, ⟨by show h.nx ≤ h3.nx + 1; omega, fun j hj => ?_⟩⟩
  · show (u_deeds_for [some X, some p.D, none, none, none, none, none] h).res = _
    rw [df_u, seqX q0, seqX q1, seqX q2, seqX q3, q4]
    rfl
  · rw [new_lt (by omega), f3 j (by omega) (by omega), put_ne (by omega)]
    exact k1 j hj
end
def leafP (p : PyData) : Bool := p.showable && p.leavesShort 40 && decide (p.weight ≤ 200)
def leafB : CM.D → Bool
  | .non => true
  | .bl _ => true
  | .int i => leafP (.int i)
  | .str x => leafP (.str x)
  | .dct [] => true
  | .dct [(.inl k, .int j)] => decide (k = 0) && decide (j = 1)
  | _ => false
def V (c : Nat) : Nat → CM.D → Prop
  | 0, _ => False
  | n + 1, d => match d with
    | .lst xs => xs.length ≤ c ∧ ∀ x ∈ xs, V c n x
    | .tup xs => xs.length ≤ c ∧ ∀ x ∈ xs, V c n x
    | d => leafB d = true
theorem V.mono {c c' : Nat} (hc : c ≤ c') : ∀ {n n' : Nat} {d : CM.D}, n ≤ n' → V c n d → V c' n' d
  | 0, _, _, _, v => v.elim
  | n + 1, 0, _, l, _ => absurd l (by omega)
  | n + 1, n' + 1, d, l, v => by
    cases d with
    | lst xs => exact ⟨Nat.le_trans v.1 hc, fun x hx => V.mono hc (by omega) (v.2 x hx)⟩
    | tup xs => exact ⟨Nat.le_trans v.1 hc, fun x hx => V.mono hc (by omega) (v.2 x hx)⟩
    | _ => exact v
def cellB : CM.D → Bool
  | .int i => decide (i ≥ 0)
  | _ => false
def ownB : CM.D → Bool
  | .tup xs => xs.all cellB && match intsOf xs with
    | some is => decide (is = sortU is)
    | none => false
  | _ => false
def chB : CM.D → Bool
  | .lst xs => decide (1 ≤ xs.length) && (decide (xs.length ≤ 8) && xs.all ownB)
  | .tup xs => decide (1 ≤ xs.length) && (decide (xs.length ≤ 8) && xs.all ownB)
  | _ => false
section
variable {h : CH} {c n : Nat} {d X : CM.D}
theorem cell_v (v : V c n d) : F_is_cell [d] h = .ok (.bl (cellB d)) h := by
  cases n with
  | zero => exact v.elim
  | succ n =>
    cases d with
    | int i => exact is_cell_ok i
    | non => kernel_rfl
    | bl b => cases b <;> kernel_rfl
    | str x => kernel_rfl
    | lst xs => kernel_rfl
    | tup xs => kernel_rfl
    | dct kvs => kernel_rfl
    | _ => cases v
theorem cell_v' (v : V c n d) : F__law_is_cell [d] h = .ok (.bl (cellB d)) h := by
  cases n with
  | zero => exact v.elim
  | succ n =>
    cases d with
    | int i => exact is_cell_ok' i
    | non => kernel_rfl
    | bl b => cases b <;> kernel_rfl
    | str x => kernel_rfl
    | lst xs => kernel_rfl
    | tup xs => kernel_rfl
    | dct kvs => kernel_rfl
    | _ => cases v
def isTupB : CM.D → Bool
  | .tup _ => true
  | _ => false
def isSeqB : CM.D → Bool
  | .tup _ => true
  | .lst _ => true
  | _ => false
def isLstB : CM.D → Bool
  | .lst _ => true
  | _ => false
def isStrB : CM.D → Bool
  | .str _ => true
  | _ => false
theorem tup_v (v : V c n d) : fIsX xs0 [0] kt0 [d, .ty "tuple"] h = .ok (.bl (isTupB d)) h := by
  cases n with
  | zero => exact v.elim
  | succ n =>
    cases d with
    | bl b => cases b <;> kernel_rfl
    | non | int | str | lst | tup | dct => kernel_rfl
    | _ => cases v
theorem str_v (v : V c n d) : fIsX xs0 [0] kt0 [d, .ty "str"] h = .ok (.bl (isStrB d)) h := by
  cases n with
  | zero => exact v.elim
  | succ n =>
    cases d with
    | bl b => cases b <;> kernel_rfl
    | non | int | str | lst | tup | dct => kernel_rfl
    | _ => cases v
theorem lst_v (v : V c n d) : fIsX xs0 [0] kt0 [d, .ty "list"] h = .ok (.bl (isLstB d)) h := by
  cases n with
  | zero => exact v.elim
  | succ n =>
    cases d with
    | bl b => cases b <;> kernel_rfl
    | non | int | str | lst | tup | dct => kernel_rfl
    | _ => cases v
theorem seq_v (v : V c n d) : fIsT [0] kt0 [d, .tup [.ty "list", .ty "tuple"]] h = .ok (.bl (isSeqB d)) h := by
  cases n with
  | zero => exact v.elim
  | succ n =>
    cases d with
    | bl b => cases b <;> kernel_rfl
    | non | int | str | lst | tup | dct => kernel_rfl
    | _ => cases v
theorem eqvL : ∀ ns ms : List Int, PyData.eqvAll (ns.map PyData.int) (ms.map PyData.int) = decide (ns = ms)
  | [], [] => rfl
  | [], m :: ms => rfl
  | n :: ns, [] => rfl
  | n :: ns, m :: ms => by
    have ih := eqvL ns ms
    simp only [List.map_cons, PyData.eqvAll, ih]
    by_cases e : n = m
    · subst e
      simp [PyData.eqv]
    · simp [PyData.eqv, e]
theorem eq_lsts {neg : Bool} (ns ms : List Int) : fEq neg (.lst (ns.map CM.D.int)) (.lst (ms.map CM.D.int)) h = .ok (.bl (bneg neg (decide (ns = ms)))) h := by
  have e : ∀ l : List Int, toP h 10 (.lst (l.map CM.D.int)) = some (.list (l.map PyData.int)) := fun l => by
    show ((l.map CM.D.int).mapM (toP h 9)).map PyData.list = _
    rw [toP_ints l]
    rfl
  have q : PyData.eqv (.list (ns.map PyData.int)) (.list (ms.map PyData.int)) = decide (ns = ms) := eqvL ns ms
  unfold fEq
  rw [if_neg (by simp [scalD, flatD])]
  simp only [e, shaped_ints, q, and_self, if_true]
end
theorem cells_ints : ∀ {xs : List CM.D}, xs.all cellB = true → ∃ is : List Int, xs = is.map CM.D.int ∧ ∀ i ∈ is, 0 ≤ i
  | [], _ => ⟨[], rfl, fun _ hm => nomatch hm⟩
  | x :: xs, q => by
    rw [List.all_cons, Bool.and_eq_true] at q
    obtain ⟨is, rfl, p⟩ := cells_ints q.2
    cases x with
    | int i =>
      have i0 : 0 ≤ i := of_decide_eq_true q.1
      exact ⟨i :: is, rfl, fun j hj => (List.mem_cons.mp hj).elim (fun e => e ▸ i0) (p j)⟩
    | _ => exact absurd q.1 Bool.false_ne_true
theorem own_ints {d : CM.D} (o : ownB d = true) : ∃ is : List Int, d = tupI is ∧ is.Pairwise (· < ·) ∧ ∀ i ∈ is, 0 ≤ i := by
  cases d with
  | tup xs =>
    unfold ownB at o
    rw [Bool.and_eq_true] at o
    obtain ⟨is, rfl, p⟩ := cells_ints o.1
    have o2 := o.2
    rw [intsOf_map] at o2
    have e : is = sortU is := of_decide_eq_true o2
    exact ⟨is, rfl, by rw [e]; exact sortU_lt is, p⟩
  | _ => exact absurd o Bool.false_ne_true
theorem all_bl (bs : List Bool) {h : CH} : fAllB false [.lst (bs.map CM.D.bl)] h = .ok (.bl (bs.all id)) h := by
  unfold fAllB
  simp only [lstOf, blsOf_map]
  rw [if_neg Bool.false_ne_true]
section
variable {h : CH} {c n : Nat} {d X : CM.D}
theorem own_v (v : V c n d) (hc : c ≤ 40) : F_is_owned [d] h = .ok (.bl (ownB d)) h := by
  show (u_is_owned [some d, none] h).res = _
  unfold u_is_owned
  cases hd : isTupB d with
  | false =>
    have e : ownB d = false := by cases d <;> first | rfl | (cases hd)
    rw [e]
    simp [tup_v v, hd]
  | true =>
    cases n with
    | zero => exact v.elim
    | succ n =>
      cases d with
      | tup xs =>
        obtain ⟨lx, vx⟩ := v
        have lc : dLcL (gdName 1) dYes (dCall 1 F_is_cell (dCons (dVar 1) (dNil))) [some (.tup xs), none] (xs.map fun x => x) h = .ok ((xs.filter fun _ => true).map fun x => CM.D.bl (cellB x)) h :=
          lcL_fil fun x hx => ⟨[some (.tup xs), some x], rfl, rfl, fun _ => by simp [cell_v (vx x hx)]⟩
        rw [filter_all (fun _ _ => rfl), List.map_id'] at lc
        have ll : xs.length ≤ sizeLine := Nat.le_trans (show _ ≤ 100 by omega) (by decide)
        have al := all_bl (xs.map cellB) (h := h)
        rw [List.map_map] at al
        have al2 : fAllB false [.lst (xs.map fun x => CM.D.bl (cellB x))] h = .ok (.bl (xs.all cellB)) h := by
          have e : (xs.map cellB).all id = xs.all cellB := by rw [List.all_map]; rfl
          rw [← e]
          exact al
        have tv : fIsX xs0 [0] kt0 [.tup xs, .ty "tuple"] h = .ok (.bl true) h := by kernel_rfl
        cases ha : xs.all cellB with
        | false =>
          have e : ownB (.tup xs) = false := by
            show (xs.all cellB && _) = false
            rw [ha, Bool.false_and]
          rw [ha] at al2
          rw [e]
          simp [tv, dLc, itemsD, ll, wipeD, lc, mkL, al2]
        | true =>
          rw [ha] at al2
          obtain ⟨is, rfl, p⟩ := cells_ints ha
          have e : ownB (.tup (is.map CM.D.int)) = decide (is = sortU is) := by
            show ((is.map CM.D.int).all cellB && (match intsOf (is.map CM.D.int) with
              | some is => decide (is = sortU is)
              | none => false)) = _
            rw [ha, intsOf_map, Bool.true_and]
          have e2 : fListOf false [.tup (is.map CM.D.int)] h = .ok (.lst (is.map CM.D.int)) h := rfl
          have e3 : fSortSet false (.tup (is.map CM.D.int)) h = .ok (.lst ((sortU is).map CM.D.int)) h := by
            unfold fSortSet
            simp only [seqOf, intsOf_map]
            rw [List.length_map] at lx
            rw [if_pos (by omega)]
            rfl
          rw [e]
          rw [List.length_map] at ll
          simp only [s_seq, s_if, e_or, e_not, e_B, e_CB, e_cons, e_nil, e_var, e_C, List.getElem?_cons_zero, bind_ok, tv, asB_bl, toS_ok, Bool.not_true, Bool.false_eq_true, if_false, dLc, e_seqI, itemsD, List.length_map, ll, if_true, wipeD, List.foldl_cons, List.foldl_nil, List.set_cons_zero, List.set_cons_succ, lc, mkL, runl_none, al2, s_next, sbind_nx, s_ret, e_op, e_un, e2, e3, eq_lsts, res_rt, bneg]
      | _ => exact absurd hd Bool.false_ne_true
theorem chB_seq (o : chB X = true) : ∃ rs : List (List Int), ChD rs X ∧ 1 ≤ rs.length ∧ rs.length ≤ 8 ∧ ∀ r ∈ rs, r.Pairwise (· < ·) ∧ ∀ i ∈ r, 0 ≤ i := by
  have key : ∀ xs : List CM.D, xs.all ownB = true → ∃ rs : List (List Int), xs = rowsD rs ∧ ∀ r ∈ rs, r.Pairwise (· < ·) ∧ ∀ i ∈ r, 0 ≤ i := by
    intro xs
    induction xs with
    | nil => exact fun _ => ⟨[], rfl, fun _ hm => nomatch hm⟩
    | cons x xs ih =>
      intro q
      rw [List.all_cons, Bool.and_eq_true] at q
      obtain ⟨rs, rfl, p⟩ := ih q.2
      obtain ⟨is, rfl, p2⟩ := own_ints q.1
      exact ⟨is :: rs, rfl, fun r hr => (List.mem_cons.mp hr).elim (fun e => e ▸ p2) (p r)⟩
  cases X with
  | lst xs =>
    unfold chB at o
    simp only [Bool.and_eq_true, decide_eq_true_eq] at o
    obtain ⟨rs, rfl, p⟩ := key xs o.2.2
    exact ⟨rs, .inl rfl, by simpa using o.1, by simpa using o.2.1, p⟩
  | tup xs =>
    unfold chB at o
    simp only [Bool.and_eq_true, decide_eq_true_eq] at o
    obtain ⟨rs, rfl, p⟩ := key xs o.2.2
    exact ⟨rs, .inr rfl, by simpa using o.1, by simpa using o.2.1, p⟩
  | _ => exact absurd o Bool.false_ne_true
def inD : CM.D → List CM.D
  | .lst xs => xs
  | .tup xs => xs
  | _ => []
theorem chB_eq : chB X = (isSeqB X && (decide (1 ≤ (inD X).length) && (decide ((inD X).length ≤ 8) && (inD X).all ownB))) := by cases X <;> rfl
theorem V.inn (v : V c (n + 1) d) : ∀ x ∈ inD d, V c n x := by
  cases d with
  | lst xs => exact v.2
  | tup xs => exact v.2
  | _ => exact fun x hx => nomatch hx
theorem V.inl (v : V c (n + 1) d) : (inD d).length ≤ c := by
  cases d with
  | lst xs => exact v.1
  | tup xs => exact v.1
  | _ => exact Nat.zero_le _
theorem seq_len (s : isSeqB d = true) : fLen [d] h = .ok (.int (inD d).length) h := by
  cases d with
  | lst xs => simp [fLen, seqOf, inD]
  | tup xs => simp [fLen, seqOf, inD]
  | _ => exact absurd s Bool.false_ne_true
theorem seq_items (s : isSeqB d = true) : itemsD h d = some (inD d) := by
  cases d with
  | lst xs => rfl
  | tup xs => rfl
  | _ => exact absurd s Bool.false_ne_true
theorem sizes_v {ρ : DE} (e : ρ[0]? = some (some X)) (s : isSeqB X = true) : (dChain (fB fun i j => decide (i ≤ j)) (fB fun i j => decide (i ≤ j)) (dC (.int 1)) (dCB fLen (dCons (dVar 0) (dNil))) (dC (.int 8))) ρ h = .ok (.bl (decide (1 ≤ (inD X).length) && decide ((inD X).length ≤ 8))) h := by
  have b1 : decide ((1 : Int) ≤ (inD X).length) = decide (1 ≤ (inD X).length) := by congr 1; exact propext (by omega)
  have b2 : decide (((inD X).length : Int) ≤ 8) = decide ((inD X).length ≤ 8) := by congr 1; exact propext (by omega)
  simp only [dChain, e_C, e_CB, e_cons, e_nil, e_var, e, bind_ok, seq_len s, fB, b1, asB_bl]
  cases decide (1 ≤ (inD X).length) with
  | false => rfl
  | true => simp only [if_true, bind_ok, b2, Bool.true_and]
theorem need_v (v : V c n X) (hc : c ≤ 40) : F_need_chain [X] h = if chB X = true then .ok .non h else .ex 6 [] h := by
  show (u_need_chain [some X, none] h).res = _
  unfold u_need_chain
  rw [chB_eq]
  cases hs : isSeqB X with
  | false => simp [le2, seq_v v, hs, dRaise0]
  | true =>
    cases n with
    | zero => exact v.elim
    | succ n =>
      have sz := sizes_v (h := h) (ρ := [some X, none]) rfl hs
      have sv := seq_v (h := h) v
      rw [hs] at sv
      cases hz : decide (1 ≤ (inD X).length) && decide ((inD X).length ≤ 8) with
      | false =>
        have e : (decide (1 ≤ (inD X).length) && (decide ((inD X).length ≤ 8) && (inD X).all ownB)) = false := by rw [← Bool.and_assoc, hz, Bool.false_and]
        rw [hz] at sz
        rw [e]
        simp [le2, sv, sz, dRaise0]
      | true =>
        have e : (decide (1 ≤ (inD X).length) && (decide ((inD X).length ≤ 8) && (inD X).all ownB)) = (inD X).all ownB := by rw [← Bool.and_assoc, hz, Bool.true_and]
        rw [hz] at sz
        have lc : dLcL (gdName 1) dYes (dCall 1 F_is_owned (dCons (dVar 1) (dNil))) [some X, none] ((inD X).map fun x => x) h = .ok (((inD X).filter fun _ => true).map fun x => CM.D.bl (ownB x)) h :=
          lcL_fil fun x hx => ⟨[some X, some x], rfl, rfl, fun _ => by simp [own_v (v.inn x hx) hc]⟩
        rw [filter_all (fun _ _ => rfl), List.map_id'] at lc
        have ll : (inD X).length ≤ sizeLine := Nat.le_trans (show _ ≤ 100 by have := v.inl; omega) (by decide)
        have al2 : fAllB false [.lst ((inD X).map fun x => CM.D.bl (ownB x))] h = .ok (.bl ((inD X).all ownB)) h := by
          have al := all_bl ((inD X).map ownB) (h := h)
          rw [List.map_map] at al
          have e : ((inD X).map ownB).all id = (inD X).all ownB := by rw [List.all_map]; rfl
          rw [← e]
          exact al
        rw [e, Bool.true_and]
        cases ha : (inD X).all ownB with
        | false =>
          rw [ha] at al2
          simp [le2, sv, sz, dRaise0, dLc, seq_items hs, ll, wipeD, lc, mkL, al2]
        | true =>
          rw [ha] at al2
          simp [le2, sv, sz, dRaise0, dLc, seq_items hs, ll, wipeD, lc, mkL, al2]
end
def lcB : SD := (dSeq (dIfS (dOr (dNot (dB (dCB (fIsX xs0 [0] kt0) (dCons (dVar 1) (dCons (dC (.ty "tuple")) (dNil)))))) (dB (dOp (fEqL true) (dLc false (dSeqI (dVar 1)) (gdName 2) (dNot (dB (dCall 1 F__law_is_cell (dCons (dVar 2) (dNil))))) (dVar 2) [2]) (dLst false (dNil))))) (dRet (dC (.bl false))) (dNext)) (dIfS (dB (dOp (fEq true) (dCB (fListOf false) (dCons (dVar 1) (dNil))) (dUn (fSortSet false) (dVar 1)))) (dRet (dC (.bl false))) (dNext)))
theorem lc_u : u__law_is_chain = dSeq (dIfS (dOr (dNot (dB (dCB (fIsT [0] kt0) (dCons (dVar 0) (dCons (dTup (dCons (dC (.ty "list")) (dCons (dC (.ty "tuple")) (dNil)))) (dNil)))))) (dNot (dB (dChain (fB fun i j => decide (i ≤ j)) (fB fun i j => decide (i ≤ j)) (dC (.int 1)) (dCB fLen (dCons (dVar 0) (dNil))) (dC (.int 8)))))) (dRet (dC (.bl false))) (dNext)) (dSeq (dFor (dSeqI (dVar 0)) (gdName 1) lcB) (dRet (dC (.bl true)))) := rfl
theorem fil_empty {α : Type} {p : α → Bool} : ∀ {l : List α}, (l.filter fun x => !p x).isEmpty = l.all p
  | [] => rfl
  | x :: l => by
    rw [List.all_cons]
    cases hp : p x with
    | true => rw [List.filter_cons_of_neg (by simp [hp]), fil_empty, Bool.true_and]
    | false =>
      rw [List.filter_cons_of_pos (by simp [hp]), Bool.false_and]
      rfl
section
variable {h : CH} {c n : Nat} {d X : CM.D}
theorem lcB_ok {o : CM.D} {x0 x2 : Option CM.D} (v : V c n o) (hc : c ≤ 40) : lcB [x0, some o, x2] h = if ownB o = true then .nx [x0, some o, x2] h else .rt (.bl false) h := by
  unfold lcB
  cases ho : isTupB o with
  | false =>
    have e : ownB o = false := by cases o <;> first | rfl | (cases ho)
    rw [e]
    simp [tup_v v, ho]
  | true =>
    cases n with
    | zero => exact v.elim
    | succ n =>
      cases o with
      | tup xs =>
        obtain ⟨lx, vx⟩ := v
        have tv : fIsX xs0 [0] kt0 [.tup xs, .ty "tuple"] h = .ok (.bl true) h := by kernel_rfl
        have lc : dLcL (gdName 2) (dNot (dB (dCall 1 F__law_is_cell (dCons (dVar 2) (dNil))))) (dVar 2) [x0, some (.tup xs), none] (xs.map fun x => x) h = .ok ((xs.filter fun x => !cellB x).map fun x => x) h :=
          lcL_fil fun x hx => ⟨[x0, some (.tup xs), some x], rfl, by simp [cell_v' (vx x hx)], fun _ => rfl⟩
        rw [List.map_id', List.map_id'] at lc
        have ll : xs.length ≤ sizeLine := Nat.le_trans (show _ ≤ 100 by omega) (by decide)
        have z0 : 0 ≤ sizeLine := Nat.zero_le _
        have en : ∀ ys : List CM.D, fEqL true (.lst ys) (.lst []) h = .ok (.bl (!ys.isEmpty)) h := fun ys => rfl
        have en2 := en (xs.filter fun x => !cellB x)
        rw [fil_empty] at en2
        cases ha : xs.all cellB with
        | false =>
          have e : ownB (.tup xs) = false := by
            show (xs.all cellB && _) = false
            rw [ha, Bool.false_and]
          rw [ha] at en2
          rw [e]
          simp [tv, dLc, itemsD, ll, wipeD, lc, mkL, en2]
        | true =>
          rw [ha] at en2
          obtain ⟨is, rfl, p⟩ := cells_ints ha
          have e : ownB (.tup (is.map CM.D.int)) = decide (is = sortU is) := by
            show ((is.map CM.D.int).all cellB && (match intsOf (is.map CM.D.int) with
              | some is => decide (is = sortU is)
              | none => false)) = _
            rw [ha, intsOf_map, Bool.true_and]
          have e2 : fListOf false [.tup (is.map CM.D.int)] h = .ok (.lst (is.map CM.D.int)) h := rfl
          have e3 : fSortSet false (.tup (is.map CM.D.int)) h = .ok (.lst ((sortU is).map CM.D.int)) h := by
            unfold fSortSet
            simp only [seqOf, intsOf_map]
            rw [List.length_map] at lx
            rw [if_pos (by omega)]
            rfl
          have e4 := eq_lsts (h := h) (neg := true) is (sortU is)
          rw [e]
          rw [List.length_map] at ll
          generalize hL : (is.map CM.D.int).filter (fun x => !cellB x) = L at lc en2
          have t1 : (dOr (dNot (dB (dCB (fIsX xs0 [0] kt0) (dCons (dVar 1) (dCons (dC (.ty "tuple")) (dNil)))))) (dB (dOp (fEqL true) (dLc false (dSeqI (dVar 1)) (gdName 2) (dNot (dB (dCall 1 F__law_is_cell (dCons (dVar 2) (dNil))))) (dVar 2) [2]) (dLst false (dNil))))) [x0, some (.tup (is.map CM.D.int)), x2] h = .ok false h := by
            simp only [e_or, e_not, e_B, e_CB, e_cons, e_nil, e_var, e_C, List.getElem?_cons_zero, List.getElem?_cons_succ, bind_ok, tv, asB_bl, Bool.not_true, Bool.false_eq_true, if_false, e_op, dLc, e_seqI, itemsD, List.length_map, ll, if_true, wipeD, List.foldl_cons, List.foldl_nil, List.set_cons_zero, List.set_cons_succ, lc, mkL, runl_none, e_lst, List.length_nil, z0, en2]
          rw [s_seq, s_if, t1, toS_ok, if_neg Bool.false_ne_true, s_next, sbind_nx]
          cases hq : decide (is = sortU is) with
          | true =>
            rw [hq] at e4
            simp [e2, e3, e4, bneg]
          | false =>
            rw [hq] at e4
            simp [e2, e3, e4, bneg]
      | _ => exact absurd ho Bool.false_ne_true
theorem lc_loop (hc : c ≤ 40) {x0 : Option CM.D} : ∀ {xs : List CM.D} {x1 x2 : Option CM.D}, (∀ x ∈ xs, V c n x) → (xs.all ownB = true → ∃ y, dForL (gdName 1) lcB xs [x0, x1, x2] h = .nx [x0, y, x2] h) ∧ (xs.all ownB = false → dForL (gdName 1) lcB xs [x0, x1, x2] h = .rt (.bl false) h)
  | [], x1, x2, _ => ⟨fun _ => ⟨x1, rfl⟩, fun q => absurd q (by decide)⟩
  | x :: xs, x1, x2, v => by
    have b := lcB_ok (h := h) (x0 := x0) (x2 := x2) (v x List.mem_cons_self) hc
    have ih := lc_loop (x0 := x0) hc (xs := xs) (x1 := some x) (x2 := x2) fun y hy => v y (List.mem_cons_of_mem _ hy)
    have st : dForL (gdName 1) lcB (x :: xs) [x0, x1, x2] h = (match lcB [x0, some x, x2] h with
      | .nx ρ2 h2 => dForL (gdName 1) lcB xs ρ2 h2
      | .ct ρ2 h2 => dForL (gdName 1) lcB xs ρ2 h2
      | .bk ρ2 h2 => .nx ρ2 h2
      | x => x) := rfl
    rw [st, b, List.all_cons]
    cases ho : ownB x with
    | true =>
      simp only [if_true, Bool.true_and]
      exact ih
    | false =>
      simp only [Bool.false_eq_true, if_false, Bool.false_and]
      exact ⟨fun q => absurd q (by decide), fun _ => trivial⟩
theorem law_chain_v (v : V c n X) (hc : c ≤ 40) : F__law_is_chain [X] h = .ok (.bl (chB X)) h := by
  show (u__law_is_chain [some X, none, none] h).res = _
  rw [lc_u, chB_eq]
  cases hs : isSeqB X with
  | false => simp [le2, seq_v v, hs]
  | true =>
    cases n with
    | zero => exact v.elim
    | succ n =>
      have sz := sizes_v (h := h) (ρ := [some X, none, none]) rfl hs
      have sv := seq_v (h := h) v
      rw [hs] at sv
      cases hz : decide (1 ≤ (inD X).length) && decide ((inD X).length ≤ 8) with
      | false =>
        have e : (decide (1 ≤ (inD X).length) && (decide ((inD X).length ≤ 8) && (inD X).all ownB)) = false := by rw [← Bool.and_assoc, hz, Bool.false_and]
        rw [hz] at sz
        rw [e]
        simp [le2, sv, sz]
      | true =>
        have e : (decide (1 ≤ (inD X).length) && (decide ((inD X).length ≤ 8) && (inD X).all ownB)) = (inD X).all ownB := by rw [← Bool.and_assoc, hz, Bool.true_and]
        rw [hz] at sz
        obtain ⟨l1, l2⟩ := lc_loop (h := h) (x0 := some X) hc (xs := inD X) (x1 := none) (x2 := none) fun x hx => v.inn x hx
        rw [e, Bool.true_and]
        cases ha : (inD X).all ownB with
        | false => simp [le2, sv, sz, seq_items hs, l2 ha]
        | true =>
          obtain ⟨y, l1⟩ := l1 ha
          simp [le2, sv, sz, seq_items hs, l1]
theorem max_row {r : List Int} (l : r.length ≤ 100) {ρ : DE} (e : ρ[1]? = some (some (tupI r))) : (dB (dOp (fB fun i j => decide (i > j)) (dCB fMaxS (dCons (dOp (fAddA false) (dVar 1) (dTup (dCons (dC (.int 0)) (dNil)))) (dNil))) (dC (.int 9)))) ρ h = .ok (decide (maxL (r ++ [0]) > 9)) h := by
  have l1 : 1 ≤ sizeLine := by decide
  have a : fAddA false (tupI r) (.tup [.int 0]) h = .ok (.tup ((r ++ [0]).map CM.D.int)) h := by
    have ll : (r.map CM.D.int).length + [CM.D.int 0].length ≤ sizeLine := Nat.le_trans (show _ ≤ 101 by simp; omega) (by decide)
    cases r with
    | nil =>
      show (if ([CM.D.int 0] : List CM.D).length ≤ sizeLine then (R.ok (.tup [CM.D.int 0]) h : R CM.D) else .no) = _
      rw [if_pos (show ([CM.D.int 0] : List CM.D).length ≤ sizeLine from l1)]
      rfl
    | cons x xs =>
      show fAdd false (.tup ((x :: xs).map CM.D.int)) (.tup [.int 0]) h = _
      unfold fAdd
      simp only [List.map_append]
      rw [if_pos ⟨by simp, ll⟩]
      rfl
  have m : fMaxS [.tup ((r ++ [0]).map CM.D.int)] h = .ok (.int (maxL (r ++ [0]))) h := by
    unfold fMaxS
    simp only [seqOf, intsOf_map]
    rw [if_pos (by simp)]
  simp only [e_B, e_op, e_CB, e_cons, e_nil, e_tup, e_var, e_C, e, bind_ok, List.length_cons, List.length_nil, Nat.zero_add, l1, if_true, a, m, fB, asB_bl]
theorem great_v (v : V c n X) (hc : c ≤ 40) : ∃ b, F__law_is_great [X] h = .ok (.bl b) h ∧ (b = false → chB X = true → ∃ rs, ChD rs X ∧ Chain rs) := by
  have lv := law_chain_v (h := h) v hc
  cases hq : chB X with
  | false =>
    rw [hq] at lv
    refine ⟨false, ?_, fun _ z => absurd z (by decide)⟩
    show (u__law_is_great [some X, none] h).res = _
    unfold u__law_is_great
    simp [lv]
  | true =>
    rw [hq] at lv
    obtain ⟨rs, cD, l1, l8, p⟩ := chB_seq hq
    have lens : ∀ r ∈ rs, r.length ≤ 100 := fun r hr => by
      cases n with
      | zero => exact v.elim
      | succ n =>
        have hm : tupI r ∈ inD X := by
          rcases cD with rfl | rfl <;> exact List.mem_map.mpr ⟨r, hr, rfl⟩
        have w := v.inn _ hm
        cases n with
        | zero => exact w.elim
        | succ n =>
          have := w.1
          rw [List.length_map] at this
          omega
    have lc : dLcL (gdName 1) (dB (dOp (fB fun i j => decide (i > j)) (dCB fMaxS (dCons (dOp (fAddA false) (dVar 1) (dTup (dCons (dC (.int 0)) (dNil)))) (dNil))) (dC (.int 9)))) (dVar 1) [some X, none] (rowsD rs) h = .ok ((rs.filter fun r => decide (maxL (r ++ [0]) > 9)).map tupI) h :=
      lcL_fil fun r hr => ⟨[some X, some (tupI r)], rfl, max_row (lens r hr) rfl, fun _ => rfl⟩
    have ll : rs.length ≤ sizeLine := Nat.le_trans l8 (by decide)
    have z0 : 0 ≤ sizeLine := Nat.zero_le _
    have en : ∀ ys : List CM.D, fEqL true (.lst ys) (.lst []) h = .ok (.bl (!ys.isEmpty)) h := fun ys => rfl
    refine ⟨!((rs.filter fun r => decide (maxL (r ++ [0]) > 9)).map tupI).isEmpty, ?_, fun z _ => ⟨rs, cD, l1, l8, fun r hr => ⟨(p r hr).1, fun x hx => ?_⟩⟩⟩
    · show (u__law_is_great [some X, none] h).res = _
      unfold u__law_is_great
      simp [lv, dLc, cD.items, ll, wipeD, lc, mkL, z0, en]
    · have em : (rs.filter fun r => decide (maxL (r ++ [0]) > 9)) = [] := by
        cases hf : rs.filter fun r => decide (maxL (r ++ [0]) > 9) with
        | nil => rfl
        | cons y ys =>
          rw [hf] at z
          exact absurd z (by simp)
      have nr : ¬ maxL (r ++ [0]) > 9 := fun g => by
        have : r ∈ rs.filter fun r => decide (maxL (r ++ [0]) > 9) := List.mem_filter.mpr ⟨hr, decide_eq_true g⟩
        rw [em] at this
        cases this
      have mm := (maxL_mem (is := r ++ [0]) (by simp)).2 x (List.mem_append_left _ hx)
      exact bd_ten ((p r hr).2 x hx) (by omega)
end
def kindB (s : Str) : Bool := decide (s = ("up" : Str)) || decide (s = ("down" : Str))
def spL : Nat → CM.D → Option (List Int)
  | 0, _ => none
  | k + 1, d => match d with
    | .int i => if i ≥ 0 then some [i] else none
    | .tup [.str s, a, b] => match spL k a, spL k b with
      | some x, some y => if kindB s = true then some (x ++ y) else none
      | _, _ => none
    | _ => none
def spO (m : Int) : Nat → CM.D → Option (Int × Int)
  | 0, _ => none
  | k + 1, d => match d with
    | .int i => if i ≥ 0 then (if i < m then some (i, i) else none) else none
    | .tup [.str s, a, b] => if kindB s = true then (match spO m k a, spO m k b with
      | some x, some y => if x.2 + 1 = y.1 then some (x.1, y.2) else none
      | _, _ => none) else none
    | _ => none
def optL : Option (List Int) → CM.D
  | some l => .lst (l.map CM.D.int)
  | none => .non
def optT : Option (Int × Int) → CM.D
  | some p => .tup [.int p.1, .int p.2]
  | none => .non
theorem in_k1 (s : Str) {h : CH} : fIn true (.str s) (.tup [.str "up", .str "down"]) h = .ok (.bl (!kindB s)) h := by
  have e : ∀ x y : Str, eqF (.str x) (.str y) = decide (x = y) := fun x y => rfl
  have c1 : decide (("up" : Str) = s) = decide (s = ("up" : Str)) := by congr 1; exact propext ⟨Eq.symm, Eq.symm⟩
  have c2 : decide (("down" : Str) = s) = decide (s = ("down" : Str)) := by congr 1; exact propext ⟨Eq.symm, Eq.symm⟩
  simp [fIn, seqOf, flatD, bneg, e, kindB, c1, c2]
theorem in_k2 (s : Str) {h : CH} : fIn true (.str s) (.tup [.str "down", .str "up"]) h = .ok (.bl (!kindB s)) h := by
  have e : ∀ x y : Str, eqF (.str x) (.str y) = decide (x = y) := fun x y => rfl
  have c1 : decide (("up" : Str) = s) = decide (s = ("up" : Str)) := by congr 1; exact propext ⟨Eq.symm, Eq.symm⟩
  have c2 : decide (("down" : Str) = s) = decide (s = ("down" : Str)) := by congr 1; exact propext ⟨Eq.symm, Eq.symm⟩
  simp [fIn, seqOf, flatD, bneg, e, kindB, c1, c2, Bool.and_comm]
section
variable {h : CH} {c n : Nat} {d X : CM.D}
theorem spL_len : ∀ {n : Nat} {d : CM.D} {l : List Int}, spL n d = some l → l.length ≤ 2 ^ n ∧ l ≠ []
  | 0, _, _, e => nomatch e
  | n + 1, d, l, e => by
    unfold spL at e
    split at e
    · split at e
      · cases e
        exact ⟨by have := Nat.one_le_two_pow (n := n + 1); simpa using this, by simp⟩
      · cases e
    · rename_i s a b
      split at e
      · rename_i x y ex ey
        split at e
        · cases e
          obtain ⟨l1, n1⟩ := spL_len ex
          obtain ⟨l2, _⟩ := spL_len ey
          exact ⟨by rw [List.length_append, Nat.pow_succ]; omega, by simp [n1]⟩
        · cases e
      · cases e
    · cases e
def tri : CM.D → Option (Str × CM.D × CM.D)
  | .tup [.str s, a, b] => some (s, a, b)
  | _ => none
theorem cell_int {d : CM.D} (q : cellB d = true) : ∃ i : Int, d = .int i ∧ i ≥ 0 := by
  cases d with
  | int i => exact ⟨i, rfl, of_decide_eq_true q⟩
  | _ => exact absurd q Bool.false_ne_true
theorem spL_cell {k : Nat} {i : Int} (q : i ≥ 0) : spL (k + 1) (.int i) = some [i] := by
  show (if i ≥ 0 then some [i] else none) = _
  rw [if_pos q]
theorem spL_none {k : Nat} {d : CM.D} (q : cellB d = false) (t : tri d = none) : spL (k + 1) d = none := by
  unfold spL
  split
  · rename_i i
    rw [if_neg (fun z => by have : cellB (.int i) = true := decide_eq_true z; rw [this] at q; cases q)]
  · cases t
  · rfl
theorem spO_none {m : Int} {k : Nat} {d : CM.D} (q : cellB d = false) (t : tri d = none) : spO m (k + 1) d = none := by
  unfold spO
  split
  · rename_i i
    rw [if_neg (fun z => by have : cellB (.int i) = true := decide_eq_true z; rw [this] at q; cases q)]
  · cases t
  · rfl
theorem len_tup (xs : List CM.D) : fLen [.tup xs] h = .ok (.int xs.length) h := by simp [fLen, seqOf]
theorem form_v {ρ : DE} {i : Nat} (v : V c n d) (hc : c ≤ 40) (e : ρ[i]? = some (some d)) :
    (dOr (dNot (dB (dCB (fIsX xs0 [0] kt0) (dCons (dVar i) (dCons (dC (.ty "tuple")) (dNil)))))) (dOr (dB (dOp (fEq true) (dCB fLen (dCons (dVar i) (dNil))) (dC (.int 3)))) (dNot (dB (dCB (fIsX xs0 [0] kt0) (dCons (dOp fIx (dVar i) (dC (.int 0))) (dCons (dC (.ty "str")) (dNil)))))))) ρ h = .ok (tri d).isNone h := by
  have tv := tup_v (h := h) v
  cases hd : isTupB d with
  | false =>
    have t : tri d = none := by cases d <;> first | rfl | (cases hd)
    rw [hd] at tv
    simp [e, tv, t]
  | true =>
    cases n with
    | zero => exact v.elim
    | succ n =>
      cases d with
      | tup xs =>
        rw [hd] at tv
        have ln := len_tup (h := h) xs
        have ne := eq_ints (h := h) (xs.length : Int) 3
        by_cases l3 : xs.length = 3
        · match xs, l3 with
          | [a, b, c'], _ =>
            have va := v.2 a (by simp)
            have sv := str_v (h := h) va
            have n3 : fEq true (.int (([a, b, c'] : List CM.D).length : Int)) (.int 3) h = .ok (.bl false) h := by rw [eq_ints]; rfl
            have t : (tri (.tup [a, b, c'])).isNone = !isStrB a := by cases a <;> rfl
            rw [t]
            simp only [e_or, e_not, e_B, e_CB, e_cons, e_nil, e_var, e, e_C, e_op, bind_ok, tv, asB_bl, Bool.not_true, Bool.false_eq_true, if_false, ln, n3, ix3_0, sv]
        · have t : tri (.tup xs) = none := by
            unfold tri
            split
            · rename_i s a b z
              cases z
              exact absurd rfl l3
            · rfl
          have n3 : fEq true (.int (xs.length : Int)) (.int 3) h = .ok (.bl true) h := by
            rw [ne]
            have : ((xs.length : Int) == 3) = false := by simpa using (by omega : ¬ (xs.length : Int) = 3)
            rw [this]
            rfl
          rw [t]
          simp only [e_or, e_not, e_B, e_CB, e_cons, e_nil, e_var, e, e_C, e_op, bind_ok, tv, asB_bl, Bool.not_true, Bool.false_eq_true, if_false, ln, n3, if_true]
          rfl
      | _ => exact absurd hd Bool.false_ne_true
theorem tri_is {d : CM.D} {s : Str} {a b : CM.D} (t : tri d = some (s, a, b)) : d = .tup [.str s, a, b] := by
  unfold tri at t
  split at t
  · cases t; rfl
  · cases t
theorem isn_L (o : Option (List Int)) : fIsN false (optL o) .non h = .ok (.bl o.isNone) h := by cases o <;> rfl
theorem isn_T (o : Option (Int × Int)) : fIsN false (optT o) .non h = .ok (.bl o.isNone) h := by cases o <;> rfl
theorem span_v (hc : c ≤ 40) : ∀ {n k : Nat} {d : CM.D}, V c n d → n ≤ k → n ≤ 20 → F__law_span_ k [d] h = .ok (optL (spL n d)) h
  | 0, _, _, v, _, _ => v.elim
  | n + 1, 0, _, _, l, _ => absurd l (by omega)
  | n + 1, k + 1, d, v, l, l20 => by
    have cv := cell_v' (h := h) v
    have l1 : 1 ≤ sizeLine := by decide
    have l2 : 1 + 1 ≤ sizeLine := le2
    show (u__law_span (F__law_span_ k) [some d, none, none] h).res = _
    unfold u__law_span
    cases hq : cellB d with
    | true =>
      obtain ⟨i, rfl, hi⟩ := cell_int hq
      rw [hq] at cv
      rw [spL_cell hi]
      simp [cv, l1, mkL, optL]
    | false =>
      rw [hq] at cv
      have fv := form_v (h := h) (ρ := [some d, none, none]) (i := 0) v hc rfl
      cases ht : tri d with
      | none =>
        rw [ht] at fv
        rw [spL_none hq ht]
        rw [s_seq, s_if, e_B, e_call, e_cons, e_var]
        simp only [List.getElem?_cons_zero, bind_ok, e_nil, List.length_cons, List.length_nil, Nat.zero_add, if_true, cv, asB_bl, toS_ok, Bool.false_eq_true, if_false, s_next, sbind_nx, s_seq, s_if, fv, Option.isNone_none, s_ret, e_C, sbind_rt, res_rt]
        rfl
      | some p =>
        obtain ⟨s, a, b⟩ := p
        have ed := tri_is ht
        subst ed
        rw [ht] at fv
        have ea := span_v hc (v.2 a (by simp)) (show n ≤ k by omega) (by omega)
        have eb := span_v hc (v.2 b (by simp)) (show n ≤ k by omega) (by omega)
        have n1 := isn_L (h := h) (spL n a)
        have n2 := isn_L (h := h) (spL n b)
        have es : spL (n + 1) (.tup [.str s, a, b]) = (match spL n a, spL n b with
          | some x, some y => if kindB s = true then some (x ++ y) else none
          | _, _ => none) := rfl
        rw [es]
        rw [s_seq, s_if, e_B, e_call, e_cons, e_var]
        simp only [List.getElem?_cons_zero, bind_ok, e_nil, List.length_cons, List.length_nil, Nat.zero_add, if_true, cv, asB_bl, toS_ok, Bool.false_eq_true, if_false, s_next, sbind_nx, s_seq, s_if, fv, Option.isNone_some, s_par, e_cons, e_call, e_op, e_var, e_C, ix3_1, ix3_2, ea, eb, List.set_cons_zero, List.set_cons_succ, e_or, e_B, e_tup, l2, ix3_0, in_k1, List.getElem?_cons_succ, n1, n2]
        cases hk : kindB s with
        | false =>
          simp only [Bool.not_false, if_true, s_ret, e_C, toS_ok, sbind_rt, res_rt, Bool.false_eq_true, if_false]
          cases spL n a <;> cases spL n b <;> rfl
        | true =>
          cases ea' : spL n a with
          | none => rfl
          | some x =>
            cases eb' : spL n b with
            | none => rfl
            | some y =>
              have lx := (spL_len ea').1
              have ly := (spL_len eb').1
              have p2 : 2 ^ n ≤ 2 ^ 20 := Nat.pow_le_pow_right (by decide) (by omega)
              have ad : fAdd false (.lst (x.map CM.D.int)) (.lst (y.map CM.D.int)) h = .ok (.lst ((x ++ y).map CM.D.int)) h := by
                unfold fAdd
                simp only [lstOf, mkL, List.map_append]
                rw [if_pos (Nat.le_trans (show _ ≤ 2 ^ 20 + 2 ^ 20 by rw [List.length_map, List.length_map]; omega) (by decide))]
              simp only [Bool.not_true, Bool.false_eq_true, if_false, Option.isNone_some, bind_ok, asB_bl, s_next, toS_ok, sbind_nx, s_ret, e_op, e_var, List.getElem?_cons_zero, List.getElem?_cons_succ, optL, ad, res_rt, if_true]
end
theorem dOr_assoc {A B T : TB} : dOr A (dOr B T) = dOr (dOr A B) T := by
  funext ρ h
  simp only [e_or]
  cases A ρ h with
  | ok a h1 => cases a <;> rfl
  | ex c fs h1 => rfl
  | no => rfl
def rgI (f l : Int) : List Int := (List.range (l + 1 - f).toNat).map fun i : Nat => f + (i : Int)
theorem rgI_len {f l : Int} : (rgI f l).length = (l + 1 - f).toNat := by simp [rgI]
theorem rgI_app {f m l : Int} (h1 : f ≤ m) (h2 : m < l) : rgI f l = rgI f m ++ rgI (m + 1) l := by
  have e : (l + 1 - f).toNat = (m + 1 - f).toNat + (l + 1 - (m + 1)).toNat := by omega
  unfold rgI
  rw [e, List.range_add, List.map_append, List.map_map]
  congr 1
  apply List.map_congr_left
  intro i _
  show f + (((m + 1 - f).toNat + i : Nat) : Int) = m + 1 + (i : Int)
  omega
theorem rgI_one (i : Int) : rgI i i = [i] := by
  have e : (i + 1 - i).toNat = 1 := by omega
  unfold rgI
  rw [e]
  show [i + ((0 : Nat) : Int)] = [i]
  simp
section
variable {h : CH} {c n : Nat} {d X : CM.D} {m : Int}
theorem spO_pl : ∀ {n : Nat} {d : CM.D} {f l : Int}, spO m n d = some (f, l) → ∃ p : Pl, d = p.D ∧ Sp p f l ∧ 0 ≤ f ∧ l < m ∧ spL n d = some (rgI f l)
  | 0, _, _, _, e => nomatch e
  | n + 1, d, f, l, e => by
    unfold spO at e
    split at e
    · rename_i i
      split at e
      · rename_i i0
        split at e
        · rename_i im
          have e := Option.some.inj e
          have e1 : i = f := congrArg Prod.fst e
          have e2 : i = l := congrArg Prod.snd e
          subst e1
          subst e2
          refine ⟨.leaf i, rfl, ⟨rfl, rfl⟩, i0, im, ?_⟩
          rw [spL_cell i0, rgI_one]
        · cases e
      · cases e
    · rename_i s a b
      split at e
      · rename_i ks
        split at e
        · rename_i x y ex ey
          split at e
          · rename_i adj
            cases e
            obtain ⟨p, rfl, sp, p0, pl, lp⟩ := spO_pl (f := x.1) (l := x.2) ex
            obtain ⟨q, rfl, sq, q0, ql, lq⟩ := spO_pl (f := y.1) (l := y.2) ey
            have k : ∃ k, s = kS k := by
              unfold kindB at ks
              rw [Bool.or_eq_true, decide_eq_true_eq, decide_eq_true_eq] at ks
              rcases ks with rfl | rfl
              · exact ⟨false, rfl⟩
              · exact ⟨true, rfl⟩
            obtain ⟨k, rfl⟩ := k
            have l1 := sp.le
            have l2 := sq.le
            refine ⟨.node k p q, rfl, ⟨x.2, sp, by rw [adj]; exact sq⟩, p0, ql, ?_⟩
            show (match spL n p.D, spL n q.D with
              | some x, some y => if kindB (kS k) = true then some (x ++ y) else none
              | _, _ => none) = _
            rw [lp, lq]
            simp only
            rw [if_pos ks, rgI_app (f := x.1) (m := x.2) (l := y.2) l1 (by omega), adj]
          · cases e
        · cases e
      · cases e
    · cases e
theorem spO_of : ∀ {n : Nat} {d : CM.D} {f l : Int}, spL n d = some (rgI f l) → f ≤ l → l < m → spO m n d = some (f, l)
  | 0, _, _, _, e, _, _ => nomatch e
  | n + 1, d, f, l, e, fl, lm => by
    unfold spL at e
    split at e
    · rename_i i
      split at e
      · rename_i i0
        have e1 : [i] = rgI f l := Option.some.inj e
        have ln := congrArg List.length e1
        rw [rgI_len] at ln
        have fe : f = l := by simp at ln; omega
        subst fe
        rw [rgI_one] at e1
        have ie : i = f := by simpa using e1
        subst ie
        show (if i ≥ 0 then (if i < m then some (i, i) else none) else none) = _
        rw [if_pos i0, if_pos lm]
      · cases e
    · rename_i s a b
      split at e
      · rename_i x y ex ey
        split at e
        · rename_i ks
          have e1 : x ++ y = rgI f l := Option.some.inj e
          have nx : x.length ≠ 0 := fun z => (spL_len ex).2 (List.length_eq_zero_iff.mp z)
          have ny : y.length ≠ 0 := fun z => (spL_len ey).2 (List.length_eq_zero_iff.mp z)
          have ln := congrArg List.length e1
          rw [rgI_len, List.length_append] at ln
          have e2 : x ++ y = rgI f (f + x.length - 1) ++ rgI (f + x.length) l := by
            rw [e1, rgI_app (m := f + x.length - 1) (by omega) (by omega)]
            congr 2
            omega
          obtain ⟨e3, e4⟩ := List.append_inj e2 (by rw [rgI_len]; omega)
          have oa := spO_of (n := n) (d := a) (by rw [ex, ← e3]) (by omega) (by omega)
          have ob := spO_of (n := n) (d := b) (by rw [ey, ← e4]) (by omega) (by omega)
          show (if kindB s = true then (match spO m n a, spO m n b with
            | some x, some y => if x.2 + 1 = y.1 then some (x.1, y.2) else none
            | _, _ => none) else none) = _
          rw [if_pos ks, oa, ob]
          simp only
          rw [if_pos (by omega)]
        · cases e
      · cases e
    · cases e
theorem span_of_v (hc : c ≤ 40) : ∀ {n k : Nat} {d : CM.D}, V c n d → n ≤ k → F_span_of_ k [.int m, d] h = .ok (optT (spO m n d)) h
  | 0, _, _, v, _ => v.elim
  | n + 1, 0, _, _, l => absurd l (by omega)
  | n + 1, k + 1, d, v, l => by
    have cv := cell_v (h := h) v
    have l2 : 1 + 1 ≤ sizeLine := le2
    show (u_span_of (F_span_of_ k) [some (.int m), some d, none, none] h).res = _
    unfold u_span_of
    rw [s_seq, s_if, e_B, e_call, e_cons, e_var]
    cases hq : cellB d with
    | true =>
      obtain ⟨i, rfl, hi⟩ := cell_int hq
      rw [hq] at cv
      have es : spO m (n + 1) (.int i) = if i < m then some (i, i) else none := by
        show (if i ≥ 0 then (if i < m then some (i, i) else none) else none) = _
        rw [if_pos hi]
      rw [es]
      simp only [List.getElem?_cons_zero, List.getElem?_cons_succ, bind_ok, e_nil, List.length_cons, List.length_nil, Nat.zero_add, if_true, cv, asB_bl, toS_ok, s_ret, e_if, e_B, e_op, e_var, fB, e_tup, e_cons, l2, e_C]
      by_cases im : i < m
      · simp only [decide_eq_true im, if_true, if_pos im, toS_ok, sbind_rt, res_rt]
        rfl
      · simp only [decide_eq_false im, Bool.false_eq_true, if_false, if_neg im, toS_ok, sbind_rt, res_rt]
        rfl
    | false =>
      rw [hq] at cv
      have fv := form_v (h := h) (ρ := [some (.int m), some d, none, none]) (i := 1) v hc rfl
      rw [dOr_assoc, dOr_assoc]
      rw [dOr_assoc] at fv
      cases ht : tri d with
      | none =>
        rw [ht] at fv
        rw [spO_none hq ht]
        simp only [List.getElem?_cons_zero, List.getElem?_cons_succ, bind_ok, e_nil, List.length_cons, List.length_nil, Nat.zero_add, if_true, cv, asB_bl, toS_ok, Bool.false_eq_true, if_false, s_next, sbind_nx]
        rw [s_seq, s_if]
        have e1 : ∀ T : TB, (dOr (dOr (dOr (dNot (dB (dCB (fIsX xs0 [0] kt0) (dCons (dVar 1) (dCons (dC (.ty "tuple")) (dNil)))))) (dB (dOp (fEq true) (dCB fLen (dCons (dVar 1) (dNil))) (dC (.int 3))))) (dNot (dB (dCB (fIsX xs0 [0] kt0) (dCons (dOp fIx (dVar 1) (dC (.int 0))) (dCons (dC (.ty "str")) (dNil))))))) T) [some (.int m), some d, none, none] h = .ok true h := fun T => by
          show (R.bind _ _ : R Bool) = _
          rw [fv]
          rfl
        rw [e1, toS_ok, if_pos rfl]
        rfl
      | some p =>
        obtain ⟨s, a, b⟩ := p
        have ed := tri_is ht
        subst ed
        rw [ht] at fv
        have ea := span_of_v hc (v.2 a (by simp)) (show n ≤ k by omega)
        have eb := span_of_v hc (v.2 b (by simp)) (show n ≤ k by omega)
        have n1 := isn_T (h := h) (spO m n a)
        have n2 := isn_T (h := h) (spO m n b)
        have es : spO m (n + 1) (.tup [.str s, a, b]) = (if kindB s = true then (match spO m n a, spO m n b with
          | some x, some y => if x.2 + 1 = y.1 then some (x.1, y.2) else none
          | _, _ => none) else none) := rfl
        rw [es]
        simp only [List.getElem?_cons_zero, List.getElem?_cons_succ, bind_ok, e_nil, List.length_cons, List.length_nil, Nat.zero_add, if_true, cv, asB_bl, toS_ok, Bool.false_eq_true, if_false, s_next, sbind_nx]
        rw [s_seq, s_if]
        have e1 : ∀ T : TB, (dOr (dOr (dOr (dNot (dB (dCB (fIsX xs0 [0] kt0) (dCons (dVar 1) (dCons (dC (.ty "tuple")) (dNil)))))) (dB (dOp (fEq true) (dCB fLen (dCons (dVar 1) (dNil))) (dC (.int 3))))) (dNot (dB (dCB (fIsX xs0 [0] kt0) (dCons (dOp fIx (dVar 1) (dC (.int 0))) (dCons (dC (.ty "str")) (dNil))))))) T) [some (.int m), some (.tup [.str s, a, b]), none, none] h = T [some (.int m), some (.tup [.str s, a, b]), none, none] h := fun T => by
          show (R.bind _ _ : R Bool) = _
          rw [fv]
          rfl
        rw [e1]
        have kk : (dB (dOp (fIn true) (dOp fIx (dVar 1) (dC (.int 0))) (dC (.tup [.str "down", .str "up"])))) [some (.int m), some (.tup [.str s, a, b]), none, none] h = .ok (!kindB s) h := by
          simp only [e_B, e_op, e_var, List.getElem?_cons_zero, List.getElem?_cons_succ, bind_ok, e_C, ix3_0, in_k2, asB_bl]
        rw [kk, toS_ok]
        cases hk : kindB s with
        | false =>
          rw [if_neg Bool.false_ne_true]
          rfl
        | true =>
          rw [if_pos rfl, if_neg (by decide), s_next, sbind_nx]
          simp only [s_seq, s_par, e_cons, e_nil, e_call, e_op, e_var, e_C, List.getElem?_cons_zero, List.getElem?_cons_succ, bind_ok, ix3_1, ix3_2, List.length_cons, List.length_nil, Nat.zero_add, Nat.reduceAdd, if_true, ea, eb, toS_ok, List.set_cons_zero, List.set_cons_succ, sbind_nx, s_if, e_or, e_B, n1, n2, asB_bl]
          cases ea' : spO m n a with
          | none => rfl
          | some x =>
            cases eb' : spO m n b with
            | none => rfl
            | some y =>
              have q := eq_ints (h := h) (x.2 + 1) y.1
              simp only [Option.isNone_some, Bool.false_eq_true, if_false, bind_ok, asB_bl, optT, ix2_1, ix2_0, fAdd, q]
              by_cases e : x.2 + 1 = y.1
              · have : (x.2 + 1 == y.1) = true := by simpa using e
                simp only [this, Bool.not_true, Bool.false_eq_true, if_false, toS_ok, s_next, sbind_nx, s_ret, e_tup, e_cons, e_nil, e_op, e_var, e_C, List.getElem?_cons_zero, List.getElem?_cons_succ, bind_ok, ix2_0, ix2_1, List.length_cons, List.length_nil, Nat.zero_add, l2, if_true, res_rt, if_pos e]
              · have : (x.2 + 1 == y.1) = false := by simpa using e
                simp only [this, Bool.not_false, if_true, toS_ok, s_ret, e_C, sbind_rt, res_rt, if_neg e]
end
def tq : Nat → CM.D → Option PyData
  | 0, _ => none
  | n + 1, d => match d with
    | .non => some .none
    | .bl b => some (.bool b)
    | .int i => some (.int i)
    | .str x => some (.str x)
    | .lst xs => (xs.mapM (tq n)).map .list
    | .tup xs => (xs.mapM (tq n)).map .tuple
    | .dct kvs => ((kvs.map (·.2)).mapM (tq n)).map fun ds => .dict ((kvs.map fun p => keyP p.1).zip ds)
    | _ => none
theorem mapM_imp {α β : Type} {f g : α → Option β} (H : ∀ x y, f x = some y → g x = some y) : ∀ (l : List α) (r : List β), l.mapM f = some r → l.mapM g = some r
  | [], r, e => by simpa using e
  | x :: l, r, e => by
    simp only [List.mapM_cons, Option.bind_eq_bind, Option.bind_eq_some_iff, Option.pure_def, Option.some.injEq] at e ⊢
    obtain ⟨y, e1, ys, e2, e3⟩ := e
    exact ⟨y, H x y e1, ys, mapM_imp H l ys e2, e3⟩
theorem tq_toQ {h : CH} : ∀ (n : Nat) (d : CM.D) (p : PyData), tq n d = some p → toQ h n d = some p
  | 0, _, _, e => by cases e
  | n + 1, d, p, e => by
    have ih := tq_toQ (h := h) n
    cases d with
    | lst xs =>
      simp only [tq, toQ, Option.map_eq_some_iff] at e ⊢
      obtain ⟨ys, e1, e2⟩ := e
      exact ⟨ys, mapM_imp ih xs ys e1, e2⟩
    | tup xs =>
      simp only [tq, toQ, Option.map_eq_some_iff] at e ⊢
      obtain ⟨ys, e1, e2⟩ := e
      exact ⟨ys, mapM_imp ih xs ys e1, e2⟩
    | dct kvs =>
      simp only [tq, toQ, Option.map_eq_some_iff] at e ⊢
      obtain ⟨ys, e1, e2⟩ := e
      exact ⟨ys, mapM_imp ih _ ys e1, e2⟩
    | non => exact e
    | bl b => exact e
    | int i => exact e
    | str x => exact e
    | _ => cases e
structure ShD (n w : Nat) (d : CM.D) (p : PyData) : Prop where
  e : tq n d = some p
  sh : p.showable = true
  lf : p.leavesShort 40 = true
  wt : p.weight ≤ w
  dp : p.depth ≤ n
def SW (n w : Nat) (d : CM.D) : Prop := ∃ p, ShD n w d p
theorem SW.le {n w w' : Nat} {d : CM.D} (s : SW n w d) (h : w ≤ w') : SW n w' d := by
  obtain ⟨p, s⟩ := s
  exact ⟨p, s.e, s.sh, s.lf, Nat.le_trans s.wt h, s.dp⟩
theorem SW.alls {n w : Nat} : ∀ {ds : List CM.D}, (∀ d ∈ ds, SW n w d) → ∃ ps, ds.mapM (tq n) = some ps ∧ PyData.showableAll ps = true ∧ PyData.leavesShortAll 40 ps = true ∧ PyData.weightAll ps ≤ ds.length * (w + 1) ∧ PyData.depthAll ps ≤ n
  | [], _ => ⟨[], rfl, rfl, rfl, Nat.zero_le _, Nat.zero_le _⟩
  | d :: ds, H => by
    obtain ⟨p, f⟩ := H d (List.mem_cons_self ..)
    obtain ⟨ps, e, a, b, c, g⟩ := SW.alls (ds := ds) fun q hq => H q (List.mem_cons_of_mem _ hq)
    refine ⟨p :: ps, ?_, ?_, ?_, ?_, ?_⟩
    · simp only [List.mapM_cons, f.e, e]
      rfl
    · simp only [PyData.showableAll, f.sh, a, Bool.and_self]
    · simp only [PyData.leavesShortAll, f.lf, b, Bool.and_self]
    · have := f.wt
      simp only [PyData.weightAll, List.length_cons, Nat.add_mul, Nat.one_mul]
      omega
    · have := f.dp
      simp only [PyData.depthAll]
      omega
theorem SW.tup {n w : Nat} {ds : List CM.D} (H : ∀ d ∈ ds, SW n w d) : SW (n + 1) (ds.length * (w + 1)) (.tup ds) := by
  obtain ⟨ps, e, a, b, c, g⟩ := SW.alls H
  exact ⟨.tuple ps, by simp only [tq, e]; rfl, a, b, c, Nat.succ_le_succ g⟩
theorem SW.lst {n w : Nat} {ds : List CM.D} (H : ∀ d ∈ ds, SW n w d) : SW (n + 1) (ds.length * (w + 1)) (.lst ds) := by
  obtain ⟨ps, e, a, b, c, g⟩ := SW.alls H
  exact ⟨.list ps, by simp only [tq, e]; rfl, a, b, c, Nat.succ_le_succ g⟩
theorem shown_ok {p : PyData} (lf : p.leavesShort 40 = true) (wt : p.weight ≤ 100000) : p.shown.length ≤ sizeLine := by
  have a := PyData.shown_le 40 (by decide) p lf
  have b : (42 * 100000 + 40 : Nat) ≤ sizeLine := by decide
  have c : (40 + 2) * p.weight ≤ 42 * 100000 := Nat.mul_le_mul (by omega) wt
  omega
theorem rep_val {q : PyData} {ds : List CM.D} {h : CH} (e : toQ h 14 (.lst ds) = some q) (sh : q.showable = true) (lf : q.leavesShort 40 = true) (wt : q.weight ≤ 100000) (dp : q.depth ≤ 60) : fRep [.lst ds] h = .ok (.str q.shown) h := by
  show (match toQ h 14 (.lst ds) with
    | some p => if boxed h (.lst ds) = true ∧ p.showable = true ∧ p.depth ≤ 60 ∧ p.shown.length ≤ sizeLine then CM.R.ok (CM.D.str p.shown) h else .no
    | none => .no) = _
  rw [e]
  exact if_pos ⟨rfl, sh, dp, shown_ok lf wt⟩
theorem rep_list {ds : List CM.D} {wt : Nat} (H : ∀ d ∈ ds, SW 13 wt d) (l : ds.length * (wt + 1) ≤ 100000) : ∃ t, ∀ h : CH, fRep [.lst ds] h = .ok (.str t) h := by
  obtain ⟨q, s⟩ := SW.lst H
  exact ⟨q.shown, fun h => rep_val (tq_toQ 14 _ _ s.e) s.sh s.lf (Nat.le_trans s.wt l) (Nat.le_trans s.dp (by decide))⟩
theorem SW.bl {n : Nat} (b : Bool) : SW (n + 1) 0 (.bl b) := ⟨.bool b, rfl, rfl, rfl, Nat.zero_le _, Nat.zero_le _⟩
theorem SW.leaf {n : Nat} {i : Int} (q : leafP (.int i) = true) : SW (n + 1) 200 (.int i) := by
  unfold leafP at q
  simp only [Bool.and_eq_true, decide_eq_true_eq] at q
  exact ⟨.int i, rfl, q.1.1, q.1.2, q.2, Nat.zero_le _⟩
theorem eq_same (t : Str) {h : CH} : fEq false (.str t) (.str t) h = .ok (.bl true) h := by
  unfold fEq
  rw [if_pos (by rfl)]
  simp [eqF, bneg]
theorem ne_same (t : Str) {h : CH} : fEq true (.str t) (.str t) h = .ok (.bl false) h := by
  unfold fEq
  rw [if_pos (by rfl)]
  simp [eqF, bneg]
section
variable {h : CH} {c n : Nat} {d X P : CM.D} {m : Int} {rs : List (List Int)}
abbrev wordR (s : Str) : CM.D := .tup [.str s, .non]
theorem ref_chain {h' : CH} : F__law_refusal (.ex 6 [] h') [] h = .ok (wordR "chain") h' := by kernel_rfl
theorem ref_plan {h' : CH} : F__law_refusal (.ex 5 [] h') [] h = .ok (wordR "plan") h' := by kernel_rfl
theorem ref_none {h' : CH} {d : CM.D} : F__law_refusal (.ok d h') [] h = .ok (wordR "none") h' := by kernel_rfl
theorem go_cons {t : TD} {ts : List TD} {ρ : DE} {acc : List CM.D} {y : CM.D} {h h' : CH} (e : t ρ h = .ok y h') (l : acc.length ≤ 100) : dGo (t :: ts) ρ acc h = dGo ts ρ (acc ++ [y]) h' := by
  show ((t ρ h).calm _) = _
  rw [e, calm_ok, if_pos (Nat.lt_of_le_of_lt l (by decide))]
theorem fr_eq {Fr : R CM.D → FD} {tb : TD} {ρ : DE} {r : R CM.D} {y : CM.D} {h h' : CH} (e : tb ρ h = r) (q : Fr r [] h = .ok y h') : dFr Fr tb ρ h = .ok y h' := by
  unfold dFr
  rw [e, q]
  rfl
theorem need_bad (v : V c n X) (hc : c ≤ 40) (q : chB X = false) {ρ : DE} (e : ρ[0]? = some (some X)) : (dDrop (dCall 1 F_need_chain (dCons (dVar 0) (dNil)))) ρ h = .ex ρ 6 [] h := by
  have nv := need_v (h := h) v hc
  rw [q] at nv
  simp [e, nv]
theorem cheap_bad (v : V c n X) (hc : c ≤ 40) (q : chB X = false) : F_cheapest [X] h = .ex 6 [] h := by
  show (u_cheapest (some X :: List.replicate 15 none) h).res = _
  unfold u_cheapest
  rw [s_seq, need_bad v hc q rfl]
  rfl
theorem cells_bad (v : V c n X) (hc : c ≤ 40) (q : chB X = false) : F_cells_of [X] h = .ex 6 [] h := by
  show (u_cells_of [some X, none, none] h).res = _
  unfold u_cells_of
  rw [s_seq, need_bad v hc q rfl]
  rfl
theorem isp_bad (v : V c n X) (hc : c ≤ 40) (q : chB X = false) : F_is_plan [X, P] h = .ex 6 [] h := by
  show (u_is_plan [some X, some P] h).res = _
  unfold u_is_plan
  rw [s_seq, need_bad v hc q rfl]
  rfl
theorem np_bad (v : V c n X) (hc : c ≤ 40) (q : chB X = false) : F_need_plan [X, P] h = .ex 6 [] h := by
  show (u_need_plan [some X, some P] h).res = _
  unfold u_need_plan
  simp [isp_bad v hc q]
theorem cost_bad (v : V c n X) (hc : c ≤ 40) (q : chB X = false) : F_cost [X, P] h = .ex 6 [] h := by
  show (u_cost [some X, some P] h).res = _
  unfold u_cost
  simp [np_bad v hc q]
theorem deeds_bad (v : V c n X) (hc : c ≤ 40) (q : chB X = false) : F_deeds_for [X, P] h = .ex 6 [] h := by
  show (u_deeds_for [some X, some P, none, none, none, none, none] h).res = _
  unfold u_deeds_for
  rw [s_seq, s_drop]
  simp [np_bad v hc q]
theorem eq_T (o : Option (Int × Int)) (b : Int) : fEq false (optT o) (.tup [.int 0, .int b]) h = .ok (.bl (decide (o = some (0, b)))) h := by
  have e : ∀ x y : Int, toP h 10 (.tup ([x, y].map CM.D.int)) = some (.tuple ([x, y].map PyData.int)) := fun x y => by
    show (([x, y].map CM.D.int).mapM (toP h 9)).map PyData.tuple = _
    rw [toP_ints]
    rfl
  have s : ∀ x y : Int, SeqAt.shaped (.tuple ([x, y].map PyData.int)) = true := fun x y => by
    simp [SeqAt.shaped, PyData.canLayAll0, PyData.canLay0, PyData.depthAll, PyData.depth]
  cases o with
  | none =>
    show fEq false .non (.tup ([0, b].map CM.D.int)) h = _
    have e1 : toP h 10 .non = some .none := rfl
    have s1 : SeqAt.shaped .none = true := by rfl
    unfold fEq
    first
      | (rw [if_neg (by simp [scalD, flatD])]
         simp only [e, s, e1, s1, and_self, if_true]
         rfl)
      | (rw [if_pos (by simp [scalD, flatD])]
         rfl)
  | some p =>
    have q : PyData.eqv (.tuple ([p.1, p.2].map PyData.int)) (.tuple ([0, b].map PyData.int)) = decide ([p.1, p.2] = [0, b]) := eqvL _ _
    show fEq false (.tup ([p.1, p.2].map CM.D.int)) (.tup ([0, b].map CM.D.int)) h = _
    unfold fEq
    rw [if_neg (by simp [scalD, flatD])]
    simp only [e, s, q, and_self, if_true]
    have d : decide ([p.1, p.2] = [0, b]) = decide (some p = some ((0 : Int), b)) := by
      congr 1
      obtain ⟨p1, p2⟩ := p
      simp
    rw [d]
    rfl
theorem eq_L (o : Option (List Int)) (l : List Int) : fEq false (optL o) (.lst (l.map CM.D.int)) h = .ok (.bl (decide (o = some l))) h := by
  cases o with
  | none =>
    have e : ∀ l : List Int, toP h 10 (.lst (l.map CM.D.int)) = some (.list (l.map PyData.int)) := fun l => by
      show ((l.map CM.D.int).mapM (toP h 9)).map PyData.list = _
      rw [toP_ints l]
      rfl
    have e1 : toP h 10 .non = some .none := rfl
    have s1 : SeqAt.shaped .none = true := by rfl
    show fEq false .non (.lst (l.map CM.D.int)) h = _
    unfold fEq
    first
      | (rw [if_neg (by simp [scalD, flatD])]
         simp only [e, shaped_ints, e1, s1, and_self, if_true]
         rfl)
      | (rw [if_pos (by simp [scalD, flatD])]
         rfl)
  | some x =>
    show fEq false (.lst (x.map CM.D.int)) (.lst (l.map CM.D.int)) h = _
    rw [eq_lsts]
    have d : decide (x = l) = decide (some x = some l) := by congr 1; simp
    rw [d]
    rfl
abbrev planB (rs : List (List Int)) (n : Nat) (P : CM.D) : Bool := decide (spO (rs.length : Int) n P = some (0, (rs.length : Int) - 1))
theorem isp_v (C : Chain rs) (cX : ChD rs X) (v : V c n P) (hc : c ≤ 40) (hn : n ≤ 30) : F_is_plan [X, P] h = .ok (.bl (planB rs n P)) h := by
  have e1 := span_of_v (h := h) (m := (rs.length : Int)) hc v hn
  have e2 := eq_T (h := h) (spO (rs.length : Int) n P) ((rs.length : Int) - 1)
  show (u_is_plan [some X, some P] h).res = _
  unfold u_is_plan F_span_of
  simp [need_chain_ok C cX, cX.len, e1, fSubI, e2, le2]
theorem plan_is (q : planB rs n P = true) : ∃ p : Pl, P = p.D ∧ Sp p 0 ((rs.length : Int) - 1) := by
  obtain ⟨p, e, s, _⟩ := spO_pl (of_decide_eq_true q)
  exact ⟨p, e, s⟩
theorem rg_I (l : 1 ≤ rs.length) : rg rs.length = rgI 0 ((rs.length : Int) - 1) := by
  unfold rg rgI
  have e : ((rs.length : Int) - 1 + 1 - 0).toNat = rs.length := by omega
  rw [e]
theorem due_eq (l : 1 ≤ rs.length) : decide (spL n P = some (rg rs.length)) = planB rs n P := by
  unfold planB
  congr 1
  refine propext ⟨fun e => ?_, fun e => ?_⟩
  · rw [rg_I l] at e
    exact spO_of e (by omega) (by omega)
  · obtain ⟨_, _, _, _, _, e2⟩ := spO_pl e
    rw [rg_I l]
    exact e2
theorem np_ref (C : Chain rs) (cX : ChD rs X) (v : V c n P) (hc : c ≤ 40) (hn : n ≤ 30) (q : planB rs n P = false) : F_need_plan [X, P] h = .ex 5 [] h := by
  have i := isp_v (h := h) C cX v hc hn
  rw [q] at i
  show (u_need_plan [some X, some P] h).res = _
  unfold u_need_plan
  simp [i, dRaise0]
theorem cost_ref (C : Chain rs) (cX : ChD rs X) (v : V c n P) (hc : c ≤ 40) (hn : n ≤ 30) (q : planB rs n P = false) : F_cost [X, P] h = .ex 5 [] h := by
  show (u_cost [some X, some P] h).res = _
  unfold u_cost
  simp [np_ref C cX v hc hn q]
theorem deeds_ref (C : Chain rs) (cX : ChD rs X) (v : V c n P) (hc : c ≤ 40) (hn : n ≤ 30) (q : planB rs n P = false) : F_deeds_for [X, P] h = .ex 5 [] h := by
  show (u_deeds_for [some X, some P, none, none, none, none, none] h).res = _
  unfold u_deeds_for
  rw [s_seq, s_drop]
  simp [np_ref C cX v hc hn q]
end
def ar_0 : SD := (dIfS (dB (dCall 1 F__law_is_great (dCons (dVar 0) (dNil)))) (dRet (dC (.bl true))) (dNext))
def ar_1 : SD := (dIfS (dNot (dB (dCall 1 F__law_is_chain (dCons (dVar 0) (dNil))))) (dSeq (dUnset 2) (dRet (dOp (fEq false) (dLamL [dFr F__law_refusal (dCall 1 F_cheapest (dCons (dVar 0) (dNil))), dFr F__law_refusal (dCall 1 F_cells_of (dCons (dVar 0) (dNil))), dFr F__law_refusal (dCall 2 F_is_plan (dCons (dVar 0) (dCons (dVar 1) (dNil)))), dFr F__law_refusal (dCall 2 F_cost (dCons (dVar 0) (dCons (dVar 1) (dNil)))), dFr F__law_refusal (dCallN 0 2 ([.k 1, .k 0]) F_deeds_for (dNil) (dCons (dVar 1) (dCons (dVar 0) (dNil))))]) (dOp (fMul false) (dLst false (dCons (dTup (dCons (dC (.str "chain")) (dCons (dC .non) (dNil)))) (dNil))) (dC (.int 5)))))) (dNext))
def ar_2 : SD := (dAsg (dOp (fEq false) (dCall 1 F__law_span (dCons (dVar 1) (dNil))) (dLstR false (dCB fLen (dCons (dVar 0) (dNil))))) (gdName 4))
def ar_3 : SD := (dIfS (dB (dOp (fEq true) (dCB fRep (dCons (dLst false (dCons (dCall 2 F_is_plan (dCons (dVar 0) (dCons (dVar 1) (dNil)))) (dCons (dCallN 0 2 ([.k 1, .k 0]) F_is_plan (dNil) (dCons (dVar 1) (dCons (dVar 0) (dNil)))) (dNil)))) (dNil))) (dCB fRep (dCons (dLst false (dCons (dVar 4) (dCons (dVar 4) (dNil)))) (dNil))))) (dRet (dC (.bl false))) (dNext))
def ar_4 : SD := (dAsg (dIf (dB (dVar 4)) (dTup (dCons (dC (.str "none")) (dCons (dC .non) (dNil)))) (dTup (dCons (dC (.str "plan")) (dCons (dC .non) (dNil))))) (gdName 5))
def ar_5 : SD := (dUnset 2)
def ar_6 : SD := (dIfS (dB (dOp (fEq true) (dLamL [dFr F__law_refusal (dCall 2 F_cost (dCons (dVar 0) (dCons (dVar 1) (dNil)))), dFr F__law_refusal (dCall 2 F_deeds_for (dCons (dVar 0) (dCons (dVar 1) (dNil))))]) (dLst false (dCons (dVar 5) (dCons (dVar 5) (dNil)))))) (dRet (dC (.bl false))) (dNext))
def ar_7 : SD := (dAsg (dCB fMaxS (dCons (dOp (fAdd false) (dLst false (dCons (dC (.int 1)) (dNil))) (dLc false (dSeqI (dVar 0)) (gdName 7) (dB (dOp (fEq true) (dVar 7) (dTup (dNil)))) (dOp (fAdd false) (dCB fMaxS (dCons (dVar 7) (dNil))) (dC (.int 1))) [7])) (dNil))) (gdName 6))
def ar_8 : SD := (dRet (dOp (fEq false) (dCB fRep (dCons (dLst false (dCons (dCall 1 F_cells_of (dCons (dVar 0) (dNil))) (dCons (dCallN 0 1 ([.k 0]) F_cells_of (dNil) (dCons (dVar 0) (dNil))) (dNil)))) (dNil))) (dCB fRep (dCons (dLst false (dCons (dVar 6) (dCons (dVar 6) (dNil)))) (dNil)))))
theorem ar_u : u__law_all_right = (dSeq (ar_0) (dSeq (ar_1) (dSeq (ar_2) (dSeq (ar_3) (dSeq (ar_4) (dSeq (ar_5) (dSeq (ar_6) (dSeq (ar_7) (ar_8))))))))) := rfl
section
variable {h : CH} {c n : Nat} {d X P : CM.D} {m : Int} {rs : List (List Int)}
theorem eq_tups {neg : Bool} (ns ms : List Int) : fEq neg (.tup (ns.map CM.D.int)) (.tup (ms.map CM.D.int)) h = .ok (.bl (bneg neg (decide (ns = ms)))) h := by
  have e : ∀ l : List Int, toP h 10 (.tup (l.map CM.D.int)) = some (.tuple (l.map PyData.int)) := fun l => by
    show ((l.map CM.D.int).mapM (toP h 9)).map PyData.tuple = _
    rw [toP_ints l]
    rfl
  have s : ∀ l : List Int, SeqAt.shaped (.tuple (l.map PyData.int)) = true := fun l => by
    have := shaped_ints l
    simpa [SeqAt.shaped, PyData.canLay0, PyData.depth, lay_ints, dep_ints] using this
  have q : PyData.eqv (.tuple (ns.map PyData.int)) (.tuple (ms.map PyData.int)) = decide (ns = ms) := eqvL ns ms
  unfold fEq
  rw [if_neg (by simp [scalD, flatD])]
  simp only [e, s, q, and_self, if_true]
def mostL (rs : List (List Int)) : List Int := 1 :: (rs.filter fun r => !decide (r = [])).map fun r => maxL r + 1
theorem most_eq (rs : List (List Int)) : maxL (mostL rs) = cellsN rs := by
  obtain ⟨a1, a2⟩ := maxL_mem (is := mostL rs) (by simp [mostL])
  obtain ⟨b1, b2⟩ := maxL_mem (is := (rs.flatten.map fun c => c + 1) ++ [1]) (by simp)
  have u1 : maxL (mostL rs) ≤ cellsN rs := by
    refine b2 _ ?_
    unfold mostL at a1
    rcases List.mem_cons.mp a1 with e | z
    · unfold mostL
      rw [e]
      simp
    · obtain ⟨r, hr, e⟩ := List.mem_map.mp z
      obtain ⟨h1, h2⟩ := List.mem_filter.mp hr
      have ne : r ≠ [] := by simpa using h2
      unfold mostL
      rw [← e]
      exact List.mem_append_left _ (List.mem_map.mpr ⟨maxL r, List.mem_flatten.mpr ⟨r, h1, (maxL_mem ne).1⟩, rfl⟩)
  have u2 : cellsN rs ≤ maxL (mostL rs) := by
    rcases List.mem_append.mp b1 with z | z
    · obtain ⟨x, hx, e⟩ := List.mem_map.mp z
      obtain ⟨r, hr, hx⟩ := List.mem_flatten.mp hx
      have ne : r ≠ [] := fun z => by rw [z] at hx; cases hx
      have h1 := (maxL_mem ne).2 x hx
      have h2 := a2 (maxL r + 1) (List.mem_cons_of_mem _ (List.mem_map.mpr ⟨r, List.mem_filter.mpr ⟨hr, by simpa using ne⟩, rfl⟩))
      show maxL _ ≤ _
      omega
    · have e : maxL ((rs.flatten.map fun c => c + 1) ++ [1]) = 1 := by simpa using z
      have h2 := a2 1 List.mem_cons_self
      show maxL _ ≤ _
      omega
  omega
theorem most_ok (C : Chain rs) (cX : ChD rs X) {x1 x2 x3 x4 x5 x6 x7 : Option CM.D} : ar_7 [some X, x1, x2, x3, x4, x5, x6, x7] h = .nx [some X, x1, x2, x3, x4, x5, some (.int (cellsN rs)), x7] h := by
  have l1 : 1 ≤ sizeLine := by decide
  have z0 : 0 ≤ sizeLine := Nat.zero_le _
  have lc : dLcL (gdName 7) (dB (dOp (fEq true) (dVar 7) (dTup (dNil)))) (dOp (fAdd false) (dCB fMaxS (dCons (dVar 7) (dNil))) (dC (.int 1))) [some X, x1, x2, x3, x4, x5, x6, none] (rowsD rs) h = .ok ((rs.filter fun r => !decide (r = [])).map fun r => CM.D.int (maxL r + 1)) h :=
    lcL_fil fun r hr => ⟨[some X, x1, x2, x3, x4, x5, x6, some (tupI r)], rfl, by
      have e := eq_tups (h := h) (neg := true) r []
      have e' : fEq true (tupI r) (.tup []) h = .ok (.bl (!decide (r = []))) h := e
      simp [z0, e'], fun g => by
      have ne : r ≠ [] := by simpa using g
      have mx : fMaxS [tupI r] h = .ok (.int (maxL r)) h := by
        unfold fMaxS
        simp only [seqOf, intsOf_map]
        rw [if_pos (List.length_pos_iff.mpr ne)]
      simp [mx, addI]⟩
  have ll : rs.length ≤ sizeLine := Nat.le_trans C.le (by decide)
  have fl : ((rs.filter fun r => !decide (r = [])).map fun r => maxL r + 1).length ≤ 8 := by
    rw [List.length_map]
    exact Nat.le_trans (List.length_filter_le ..) C.le
  have em : ((rs.filter fun r => !decide (r = [])).map fun r => CM.D.int (maxL r + 1)) = ((rs.filter fun r => !decide (r = [])).map fun r => maxL r + 1).map CM.D.int := by rw [List.map_map]; rfl
  rw [em] at lc
  have ad : fAdd false (.lst [.int 1]) (.lst (((rs.filter fun r => !decide (r = [])).map fun r => maxL r + 1).map CM.D.int)) h = .ok (.lst ((mostL rs).map CM.D.int)) h := by
    unfold fAdd mostL
    simp only [lstOf, mkL]
    rw [if_pos (Nat.le_trans (show _ ≤ 100 by rw [List.length_map]; simp only [List.length_cons, List.length_nil]; omega) (by decide))]
    rfl
  have mx : fMaxS [.lst ((mostL rs).map CM.D.int)] h = .ok (.int (cellsN rs)) h := by
    unfold fMaxS
    simp only [seqOf, intsOf_map]
    rw [if_pos (by simp [mostL]), most_eq]
  unfold ar_7
  generalize ((rs.filter fun r => !decide (r = [])).map fun r => maxL r + 1).map CM.D.int = Z at lc ad
  generalize (mostL rs).map CM.D.int = Y at ad mx
  simp [l1, mkL, dLc, cX.items, ll, wipeD, lc, ad, mx]
theorem lam5 (v : V c n X) (hc : c ≤ 40) (q : chB X = false) {x2 x3 x4 x5 x6 x7 : Option CM.D} : (dLamL [dFr F__law_refusal (dCall 1 F_cheapest (dCons (dVar 0) (dNil))), dFr F__law_refusal (dCall 1 F_cells_of (dCons (dVar 0) (dNil))), dFr F__law_refusal (dCall 2 F_is_plan (dCons (dVar 0) (dCons (dVar 1) (dNil)))), dFr F__law_refusal (dCall 2 F_cost (dCons (dVar 0) (dCons (dVar 1) (dNil)))), dFr F__law_refusal (dCallN 0 2 ([.k 1, .k 0]) F_deeds_for (dNil) (dCons (dVar 1) (dCons (dVar 0) (dNil))))]) [some X, some P, x2, x3, x4, x5, x6, x7] h = .ok (.lst [wordR "chain", wordR "chain", wordR "chain", wordR "chain", wordR "chain"]) h := by
  have e1 : dFr F__law_refusal (dCall 1 F_cheapest (dCons (dVar 0) (dNil))) [some X, some P, x2, x3, x4, x5, x6, x7] h = .ok (wordR "chain") h := fr_eq (r := .ex 6 [] h) (by simp [cheap_bad v hc q]) ref_chain
  have e2 : dFr F__law_refusal (dCall 1 F_cells_of (dCons (dVar 0) (dNil))) [some X, some P, x2, x3, x4, x5, x6, x7] h = .ok (wordR "chain") h := fr_eq (r := .ex 6 [] h) (by simp [cells_bad v hc q]) ref_chain
  have e3 : dFr F__law_refusal (dCall 2 F_is_plan (dCons (dVar 0) (dCons (dVar 1) (dNil)))) [some X, some P, x2, x3, x4, x5, x6, x7] h = .ok (wordR "chain") h := fr_eq (r := .ex 6 [] h) (by simp [isp_bad v hc q]) ref_chain
  have e4 : dFr F__law_refusal (dCall 2 F_cost (dCons (dVar 0) (dCons (dVar 1) (dNil)))) [some X, some P, x2, x3, x4, x5, x6, x7] h = .ok (wordR "chain") h := fr_eq (r := .ex 6 [] h) (by simp [cost_bad v hc q]) ref_chain
  have e5 : dFr F__law_refusal (dCallN 0 2 ([.k 1, .k 0]) F_deeds_for (dNil) (dCons (dVar 1) (dCons (dVar 0) (dNil)))) [some X, some P, x2, x3, x4, x5, x6, x7] h = .ok (wordR "chain") h := fr_eq (r := .ex 6 [] h) (by unfold dCallN; simp [pickD, deeds_bad v hc q]) ref_chain
  unfold dLamL
  rw [go_cons e1 (by decide), go_cons e2 (by decide), go_cons e3 (by decide), go_cons e4 (by decide), go_cons e5 (by decide)]
  rfl
theorem five_eq : fEq false (.lst [wordR "chain", wordR "chain", wordR "chain", wordR "chain", wordR "chain"]) (.lst [wordR "chain", wordR "chain", wordR "chain", wordR "chain", wordR "chain"]) h = .ok (.bl true) h := by kernel_rfl
theorem five_mul : (dOp (fMul false) (dLst false (dCons (dTup (dCons (dC (.str "chain")) (dCons (dC .non) (dNil)))) (dNil))) (dC (.int 5))) [] h = .ok (.lst [wordR "chain", wordR "chain", wordR "chain", wordR "chain", wordR "chain"]) h := by kernel_rfl
theorem two_none : fEq true (.lst [wordR "none", wordR "none"]) (.lst [wordR "none", wordR "none"]) h = .ok (.bl false) h := by kernel_rfl
theorem two_plan : fEq true (.lst [wordR "plan", wordR "plan"]) (.lst [wordR "plan", wordR "plan"]) h = .ok (.bl false) h := by kernel_rfl
theorem bad_ok (v : V c n X) (hc : c ≤ 40) (q : chB X = false) {x2 x3 x4 x5 x6 x7 : Option CM.D} : ar_1 [some X, some P, x2, x3, x4, x5, x6, x7] h = .rt (.bl true) h := by
  have lv := law_chain_v (h := h) v hc
  rw [q] at lv
  have t : (dNot (dB (dCall 1 F__law_is_chain (dCons (dVar 0) (dNil))))) [some X, some P, x2, x3, x4, x5, x6, x7] h = .ok true h := by simp [lv]
  unfold ar_1
  rw [s_if, t, toS_ok, if_pos rfl, s_seq]
  show (RS.nx [some X, some P, none, x3, x4, x5, x6, x7] h).bind _ = _
  rw [sbind_nx, s_ret, e_op, lam5 v hc q, bind_ok]
  have m5 : (dOp (fMul false) (dLst false (dCons (dTup (dCons (dC (.str "chain")) (dCons (dC .non) (dNil)))) (dNil))) (dC (.int 5))) [some X, some P, none, x3, x4, x5, x6, x7] h = .ok (.lst [wordR "chain", wordR "chain", wordR "chain", wordR "chain", wordR "chain"]) h := five_mul
  rw [m5, bind_ok, five_eq, toS_ok]
theorem span_asg (C : Chain rs) (cX : ChD rs X) (vP : V c n P) (hc : c ≤ 40) (hn : n ≤ 20) {x2 x3 x4 x5 x6 x7 : Option CM.D} : ar_2 [some X, some P, x2, x3, x4, x5, x6, x7] h = .nx [some X, some P, x2, x3, some (.bl (planB rs n P)), x5, x6, x7] h := by
  have sv := span_v (h := h) hc vP (show n ≤ 30 by omega) hn
  have sv' : F__law_span [P] h = .ok (optL (spL n P)) h := sv
  have e := eq_L (h := h) (spL n P) (rg rs.length)
  rw [due_eq C.ne] at e
  have lr : dLstR false (dCB fLen (dCons (dVar 0) (dNil))) [some X, some P, x2, x3, x4, x5, x6, x7] h = .ok (.lst ((rg rs.length).map CM.D.int)) h := by
    unfold dLstR
    simp only [e_CB, e_cons, e_nil, e_var, List.getElem?_cons_zero, bind_ok, cX.len]
    rw [if_pos ⟨by omega, by have := C.le; omega⟩, Int.toNat_natCast, rg_D]
    rfl
  unfold ar_2
  rw [s_asg, e_op, e_call, e_cons, e_var]
  simp only [List.getElem?_cons_succ, List.getElem?_cons_zero, bind_ok, e_nil, List.length_cons, List.length_nil, Nat.zero_add, if_true, sv', lr, e, toS_ok, g_name, put_ok]
  rfl
theorem rep_b (b : Bool) : ∃ t, ∀ h : CH, fRep [.lst [.bl b, .bl b]] h = .ok (.str t) h := rep_list (wt := 0) (fun d hd => by
  simp only [List.mem_cons, List.not_mem_nil, or_false] at hd
  rcases hd with rfl | rfl <;> exact SW.bl b) (by simp)
theorem leaf_small {i : Int} (h0 : 0 ≤ i) (h1 : i ≤ 20) : leafP (.int i) = true := by
  have : i = 0 ∨ i = 1 ∨ i = 2 ∨ i = 3 ∨ i = 4 ∨ i = 5 ∨ i = 6 ∨ i = 7 ∨ i = 8 ∨ i = 9 ∨ i = 10 ∨ i = 11 ∨ i = 12 ∨ i = 13 ∨ i = 14 ∨ i = 15 ∨ i = 16 ∨ i = 17 ∨ i = 18 ∨ i = 19 ∨ i = 20 := by omega
  rcases this with rfl | rfl | rfl | rfl | rfl | rfl | rfl | rfl | rfl | rfl | rfl | rfl | rfl | rfl | rfl | rfl | rfl | rfl | rfl | rfl | rfl <;> decide +kernel
theorem rep_i {i : Int} (h0 : 0 ≤ i) (h1 : i ≤ 20) : ∃ t, ∀ h : CH, fRep [.lst [.int i, .int i]] h = .ok (.str t) h := rep_list (wt := 200) (fun d hd => by
  simp only [List.mem_cons, List.not_mem_nil, or_false] at hd
  rcases hd with rfl | rfl <;> exact SW.leaf (leaf_small h0 h1)) (by simp)
theorem isp_both (C : Chain rs) (cX : ChD rs X) (vP : V c n P) (hc : c ≤ 40) (hn : n ≤ 20) {x2 x3 x5 x6 x7 : Option CM.D} : ar_3 [some X, some P, x2, x3, some (.bl (planB rs n P)), x5, x6, x7] h = .nx [some X, some P, x2, x3, some (.bl (planB rs n P)), x5, x6, x7] h := by
  have iv := isp_v (h := h) C cX vP hc (by omega)
  generalize planB rs n P = b at iv ⊢
  obtain ⟨t, rt⟩ := rep_b b
  unfold ar_3
  have cn : (dCallN 0 2 ([.k 1, .k 0]) F_is_plan (dNil) (dCons (dVar 1) (dCons (dVar 0) (dNil)))) [some X, some P, x2, x3, some (.bl b), x5, x6, x7] h = .ok (.bl b) h := by
    unfold dCallN
    simp [pickD, iv]
  simp [iv, cn, le2, mkL, rt, ne_same]
theorem due_asg (b : Bool) {x0 x1 x2 x3 x5 x6 x7 : Option CM.D} : ar_4 [x0, x1, x2, x3, some (.bl b), x5, x6, x7] h = .nx [x0, x1, x2, x3, some (.bl b), some (if b = true then wordR "none" else wordR "plan"), x6, x7] h := by
  unfold ar_4
  cases b <;> simp [le2]
theorem works_ok (C : Chain rs) (cX : ChD rs X) (vP : V c n P) (hc : c ≤ 40) (hn : n ≤ 20) {x3 x4 x6 x7 : Option CM.D} : ∃ h1, ar_6 [some X, some P, none, x3, x4, some (if planB rs n P = true then wordR "none" else wordR "plan"), x6, x7] h = .nx [some X, some P, none, x3, x4, some (if planB rs n P = true then wordR "none" else wordR "plan"), x6, x7] h1 ∧ Kp h h1 := by
  cases q : planB rs n P with
  | true =>
    obtain ⟨p, rfl, s⟩ := plan_is q
    obtain ⟨k, h', e, _, _, _, kp⟩ := deeds_ok (h := h) C cX s
    have co := cost_ok (h := h) C cX s
    have e1 : dFr F__law_refusal (dCall 2 F_cost (dCons (dVar 0) (dCons (dVar 1) (dNil)))) [some X, some p.D, none, x3, x4, some (wordR "none"), x6, x7] h = .ok (wordR "none") h := fr_eq (r := .ok (.int (p.W rs)) h) (by simp [co]) ref_none
    have e2 : dFr F__law_refusal (dCall 2 F_deeds_for (dCons (dVar 0) (dCons (dVar 1) (dNil)))) [some X, some p.D, none, x3, x4, some (wordR "none"), x6, x7] h = .ok (wordR "none") h' := fr_eq (r := .ok (.ref k) h') (by simp [e]) ref_none
    refine ⟨h', ?_, kp⟩
    rw [if_pos rfl]
    have L : (dLamL [dFr F__law_refusal (dCall 2 F_cost (dCons (dVar 0) (dCons (dVar 1) (dNil)))), dFr F__law_refusal (dCall 2 F_deeds_for (dCons (dVar 0) (dCons (dVar 1) (dNil))))]) [some X, some p.D, none, x3, x4, some (wordR "none"), x6, x7] h = .ok (.lst [wordR "none", wordR "none"]) h' := by
      unfold dLamL
      rw [go_cons e1 (by decide), go_cons e2 (by decide)]
      rfl
    unfold ar_6
    rw [s_if, e_B, e_op, L]
    simp [le2, mkL, two_none]
  | false =>
    have e1 : dFr F__law_refusal (dCall 2 F_cost (dCons (dVar 0) (dCons (dVar 1) (dNil)))) [some X, some P, none, x3, x4, some (wordR "plan"), x6, x7] h = .ok (wordR "plan") h := fr_eq (r := .ex 5 [] h) (by simp [cost_ref C cX vP hc (by omega) q]) ref_plan
    have e2 : dFr F__law_refusal (dCall 2 F_deeds_for (dCons (dVar 0) (dCons (dVar 1) (dNil)))) [some X, some P, none, x3, x4, some (wordR "plan"), x6, x7] h = .ok (wordR "plan") h := fr_eq (r := .ex 5 [] h) (by simp [deeds_ref C cX vP hc (by omega) q]) ref_plan
    refine ⟨h, ?_, Kp.refl⟩
    rw [if_neg Bool.false_ne_true]
    have L : (dLamL [dFr F__law_refusal (dCall 2 F_cost (dCons (dVar 0) (dCons (dVar 1) (dNil)))), dFr F__law_refusal (dCall 2 F_deeds_for (dCons (dVar 0) (dCons (dVar 1) (dNil))))]) [some X, some P, none, x3, x4, some (wordR "plan"), x6, x7] h = .ok (.lst [wordR "plan", wordR "plan"]) h := by
      unfold dLamL
      rw [go_cons e1 (by decide), go_cons e2 (by decide)]
      rfl
    unfold ar_6
    rw [s_if, e_B, e_op, L]
    simp [le2, mkL, two_plan]
theorem most_rep (C : Chain rs) (cX : ChD rs X) {x1 x2 x3 x4 x5 x7 : Option CM.D} : ar_8 [some X, x1, x2, x3, x4, x5, some (.int (cellsN rs)), x7] h = .rt (.bl true) h := by
  have cv := cells_of_ok (h := h) C cX
  obtain ⟨c1, c2⟩ := cells_bd C
  obtain ⟨t, rt⟩ := rep_i (i := cellsN rs) (by omega) (by omega)
  generalize cellsN rs = k at cv rt ⊢
  unfold ar_8
  have cn : (dCallN 0 1 ([.k 0]) F_cells_of (dNil) (dCons (dVar 0) (dNil))) [some X, x1, x2, x3, x4, x5, some (.int k), x7] h = .ok (.int k) h := by
    unfold dCallN
    simp [pickD, cv]
  simp [cv, cn, le2, mkL, rt, eq_same]
theorem right_ok (v : V c n X) (vP : V c n P) (hc : c ≤ 40) (hn : n ≤ 20) : ∃ h1, F__law_all_right [X, P] h = .ok (.bl true) h1 ∧ Kp h h1 := by
  obtain ⟨b, gb, gc⟩ := great_v (h := h) v hc
  have go : F__law_all_right [X, P] h = (u__law_all_right [some X, some P, none, none, none, none, none, none] h).res := rfl
  rw [go, ar_u]
  cases b with
  | true =>
    refine ⟨h, ?_, Kp.refl⟩
    have q0 : ar_0 [some X, some P, none, none, none, none, none, none] h = .rt (.bl true) h := by
      unfold ar_0
      simp [gb]
    rw [s_seq, q0]
    rfl
  | false =>
    have q0 : ar_0 [some X, some P, none, none, none, none, none, none] h = .nx [some X, some P, none, none, none, none, none, none] h := by
      unfold ar_0
      simp [gb]
    cases hq : chB X with
    | false =>
      refine ⟨h, ?_, Kp.refl⟩
      rw [s_seq, q0, sbind_nx, s_seq, bad_ok v hc hq]
      rfl
    | true =>
      obtain ⟨rs, cX, C⟩ := gc rfl hq
      have lv := law_chain_v (h := h) v hc
      rw [hq] at lv
      have q1 : ar_1 [some X, some P, none, none, none, none, none, none] h = .nx [some X, some P, none, none, none, none, none, none] h := by
        unfold ar_1
        simp [lv]
      have q5 : ∀ x4 x5 : Option CM.D, ar_5 [some X, some P, none, none, x4, x5, none, none] h = .nx [some X, some P, none, none, x4, x5, none, none] h := fun x4 x5 => rfl
      obtain ⟨h1, q6, kp⟩ := works_ok (h := h) C cX vP hc hn (x3 := none) (x4 := some (.bl (planB rs n P))) (x6 := none) (x7 := none)
      refine ⟨h1, ?_, kp⟩
      rw [s_seq, q0, sbind_nx, s_seq, q1, sbind_nx, s_seq, span_asg C cX vP hc hn, sbind_nx, s_seq, isp_both C cX vP hc hn, sbind_nx, s_seq, due_asg, sbind_nx, s_seq, q5, sbind_nx, s_seq, q6, sbind_nx, s_seq, most_ok C cX, sbind_nx, most_rep C cX]
      rfl
end
def wt : Nat → CM.D → Nat
  | 0, _ => 0
  | n + 1, d => match d with
    | .lst xs => (xs.map fun x => wt n x + 1).sum
    | .tup xs => (xs.map fun x => wt n x + 1).sum
    | _ => 200
theorem wt_lst (n : Nat) (xs : List CM.D) : wt (n + 1) (.lst xs) = (xs.map fun x => wt n x + 1).sum := rfl
theorem wt_tup (n : Nat) (xs : List CM.D) : wt (n + 1) (.tup xs) = (xs.map fun x => wt n x + 1).sum := rfl
theorem wt_int (n : Nat) (i : Int) : wt (n + 1) (.int i) = 200 := rfl
theorem wt_str (n : Nat) (x : Str) : wt (n + 1) (.str x) = 200 := rfl
theorem wt_dct (n : Nat) (x : List (Key × CM.D)) : wt (n + 1) (.dct x) = 200 := rfl
theorem wt_up {c : Nat} : ∀ {n m : Nat} {d : CM.D}, V c n d → n ≤ m → wt m d = wt n d
  | 0, _, _, v, _ => v.elim
  | n + 1, 0, _, _, l => absurd l (by omega)
  | n + 1, m + 1, d, v, l => by
    cases d with
    | lst xs =>
      show (xs.map fun x => wt m x + 1).sum = (xs.map fun x => wt n x + 1).sum
      congr 1
      exact List.map_congr_left fun x hx => by rw [wt_up (v.2 x hx) (by omega)]
    | tup xs =>
      show (xs.map fun x => wt m x + 1).sum = (xs.map fun x => wt n x + 1).sum
      congr 1
      exact List.map_congr_left fun x hx => by rw [wt_up (v.2 x hx) (by omega)]
    | _ => rfl
@[irreducible] def W (d : CM.D) : Nat := wt 40 d
@[irreducible] def Ws (xs : List CM.D) : Nat := (xs.map fun x => W x + 1).sum
theorem wtK_lst {c n K : Nat} {xs : List CM.D} (v : ∀ x ∈ xs, V c n x) (l : n ≤ K) : wt (K + 1) (.lst xs) = (xs.map fun x => wt (K + 1) x + 1).sum := by
  rw [wt_lst]
  exact congrArg List.sum (List.map_congr_left fun x hx => by rw [wt_up (v x hx) l, wt_up (v x hx) (show n ≤ K + 1 by omega)])
theorem wtK_tup {c n K : Nat} {xs : List CM.D} (v : ∀ x ∈ xs, V c n x) (l : n ≤ K) : wt (K + 1) (.tup xs) = (xs.map fun x => wt (K + 1) x + 1).sum := by
  rw [wt_tup]
  exact congrArg List.sum (List.map_congr_left fun x hx => by rw [wt_up (v x hx) l, wt_up (v x hx) (show n ≤ K + 1 by omega)])
theorem W_lst {c n : Nat} {xs : List CM.D} (v : ∀ x ∈ xs, V c n x) (l : n ≤ 39) : W (.lst xs) = Ws xs := by
  unfold Ws W
  exact wtK_lst v l
theorem W_tup {c n : Nat} {xs : List CM.D} (v : ∀ x ∈ xs, V c n x) (l : n ≤ 39) : W (.tup xs) = Ws xs := by
  unfold Ws W
  exact wtK_tup v l
theorem Ws_in {c n : Nat} {d : CM.D} (v : V c (n + 1) d) (s : isSeqB d = true) (l : n ≤ 39) : W d = Ws (inD d) := by
  cases d with
  | lst xs => exact W_lst v.2 l
  | tup xs => exact W_tup v.2 l
  | _ => exact absurd s Bool.false_ne_true
theorem Ws_nil : Ws [] = 0 := by unfold Ws; rfl
theorem Ws_cons (x : CM.D) (xs : List CM.D) : Ws (x :: xs) = W x + 1 + Ws xs := by
  unfold Ws
  simp only [List.map_cons, List.sum_cons]
theorem Ws_app (a b : List CM.D) : Ws (a ++ b) = Ws a + Ws b := by
  unfold Ws
  rw [List.map_append, List.sum_append]
theorem Ws_split (xs : List CM.D) (i : Nat) : Ws xs = Ws (xs.take i) + Ws (xs.drop i) := by rw [← Ws_app, List.take_append_drop]
theorem Ws_set : ∀ {xs : List CM.D} {i : Nat} {x y : CM.D}, xs[i]? = some x → Ws (xs.set i y) + W x = Ws xs + W y
  | [], i, x, y, e => by cases e
  | z :: xs, 0, x, y, e => by
    obtain rfl : z = x := by simpa using e
    simp only [List.set_cons_zero, Ws_cons]
    omega
  | z :: xs, i + 1, x, y, e => by
    have ih := Ws_set (xs := xs) (i := i) (x := x) (y := y) (by simpa using e)
    simp only [List.set_cons_succ, Ws_cons] at ih ⊢
    omega
theorem Ws_erase : ∀ {xs : List CM.D} {i : Nat}, Ws (xs.eraseIdx i) ≤ Ws xs
  | [], i => by simp
  | z :: xs, 0 => by simp only [List.eraseIdx_cons_zero, Ws_cons]; omega
  | z :: xs, i + 1 => by
    have ih := Ws_erase (xs := xs) (i := i)
    simp only [List.eraseIdx_cons_succ, Ws_cons] at ih ⊢
    omega
theorem Ws_mem {xs : List CM.D} {x : CM.D} (m : x ∈ xs) : W x + 1 ≤ Ws xs := by
  obtain ⟨a, b, rfl⟩ := List.append_of_mem m
  rw [Ws_app, Ws_cons]
  omega
theorem SW.sum {n : Nat} : ∀ {ds : List CM.D}, (∀ d ∈ ds, SW n (W d) d) → ∃ ps, ds.mapM (tq n) = some ps ∧ PyData.showableAll ps = true ∧ PyData.leavesShortAll 40 ps = true ∧ PyData.weightAll ps ≤ Ws ds ∧ PyData.depthAll ps ≤ n
  | [], _ => ⟨[], rfl, rfl, rfl, Nat.zero_le _, Nat.zero_le _⟩
  | d :: ds, H => by
    obtain ⟨p, f⟩ := H d List.mem_cons_self
    obtain ⟨ps, e, a, b, c, g⟩ := SW.sum (ds := ds) fun q hq => H q (List.mem_cons_of_mem _ hq)
    refine ⟨p :: ps, ?_, ?_, ?_, ?_, ?_⟩
    · simp only [List.mapM_cons, f.e, e]
      rfl
    · simp only [PyData.showableAll, f.sh, a, Bool.and_self]
    · simp only [PyData.leavesShortAll, f.lf, b, Bool.and_self]
    · have := f.wt
      simp only [PyData.weightAll, Ws_cons] at c ⊢
      omega
    · have := f.dp
      simp only [PyData.depthAll]
      omega
theorem tq_two {n : Nat} {xs : List CM.D} {ps : List PyData} (e : xs.mapM (tq n) = some ps) : tq (n + 1) (.lst xs) = some (.list ps) := by
  simp only [tq, e]
  rfl
theorem tq_twoT {n : Nat} {xs : List CM.D} {ps : List PyData} (e : xs.mapM (tq n) = some ps) : tq (n + 1) (.tup xs) = some (.tuple ps) := by
  simp only [tq, e]
  rfl
theorem V.sw {c : Nat} : ∀ {n : Nat} {d : CM.D}, V c n d → n ≤ 39 → SW (n + 1) (W d) d
  | 0, _, v, _ => v.elim
  | n + 1, d, v, l => by
    cases d with
    | lst xs =>
      obtain ⟨ps, e, a, b, w, g⟩ := SW.sum (n := n + 1) (ds := xs) fun x hx => V.sw (v.2 x hx) (by omega)
      rw [W_lst v.2 (by omega)]
      exact ⟨.list ps, tq_two e, a, b, w, Nat.succ_le_succ g⟩
    | tup xs =>
      obtain ⟨ps, e, a, b, w, g⟩ := SW.sum (n := n + 1) (ds := xs) fun x hx => V.sw (v.2 x hx) (by omega)
      rw [W_tup v.2 (by omega)]
      exact ⟨.tuple ps, tq_twoT e, a, b, w, Nat.succ_le_succ g⟩
    | non => exact ⟨.none, rfl, rfl, rfl, Nat.zero_le _, Nat.zero_le _⟩
    | bl b => exact ⟨.bool b, rfl, rfl, rfl, Nat.zero_le _, Nat.zero_le _⟩
    | int i =>
      have e : W (.int i) = 200 := by unfold W; exact wt_int 39 i
      rw [e]
      exact SW.leaf v
    | str x =>
      have q : leafP (.str x) = true := v
      unfold leafP at q
      simp only [Bool.and_eq_true, decide_eq_true_eq] at q
      have e : W (.str x) = 200 := by unfold W; exact wt_str 39 x
      rw [e]
      exact ⟨.str x, rfl, q.1.1, q.1.2, q.2, Nat.zero_le _⟩
    | dct kvs =>
      have q : leafB (.dct kvs) = true := v
      have e : W (.dct kvs) = 200 := by unfold W; exact wt_dct 39 kvs
      rw [e]
      cases kvs with
      | nil => exact ⟨.dict [], rfl, rfl, rfl, Nat.zero_le _, by show 1 ≤ n + 1 + 1; omega⟩
      | cons kv r =>
        cases r with
        | nil =>
          obtain ⟨k, d⟩ := kv
          cases k with
          | inl k =>
            cases d with
            | int j =>
              have q2 : (decide (k = 0) && decide (j = 1)) = true := q
              rw [Bool.and_eq_true, decide_eq_true_eq, decide_eq_true_eq] at q2
              obtain ⟨rfl, rfl⟩ := q2
              exact ⟨.dict [(.int 0, .int 1)], rfl, by decide +kernel, by decide +kernel, by decide +kernel, by show 1 ≤ n + 1 + 1; omega⟩
            | _ => exact absurd q Bool.false_ne_true
          | inr k => exact absurd q Bool.false_ne_true
        | cons kv2 r =>
          obtain ⟨k, d⟩ := kv
          cases k <;> cases d <;> exact absurd q Bool.false_ne_true
    | _ => cases v
theorem rep_pair {c : Nat} {x y : CM.D} (vx : V c 12 x) (vy : V c 12 y) (l : W x + W y ≤ 90000) : ∃ t, ∀ h : CH, fRep [.lst [x, y]] h = .ok (.str t) h := by
  obtain ⟨ps, e, a, b, w, g⟩ := SW.sum (n := 13) (ds := [x, y]) fun d hd => by
    simp only [List.mem_cons, List.not_mem_nil, or_false] at hd
    rcases hd with rfl | rfl
    · exact vx.sw (by omega)
    · exact vy.sw (by omega)
  rw [Ws_cons, Ws_cons, Ws_nil] at w
  exact ⟨(PyData.list ps).shown, fun h => rep_val (q := .list ps) (tq_toQ 14 _ _ (tq_two (n := 13) e)) a b (Nat.le_trans (show _ ≤ 100000 by show PyData.weightAll ps ≤ 100000; omega) (Nat.le_refl _)) (show PyData.depthAll ps + 1 ≤ 60 by omega)⟩
def Vb (c : Nat) : Nat → CM.D → Bool
  | 0, _ => false
  | n + 1, d => match d with
    | .lst xs => decide (xs.length ≤ c) && xs.all (Vb c n)
    | .tup xs => decide (xs.length ≤ c) && xs.all (Vb c n)
    | d => leafB d
theorem Vb_V {c : Nat} : ∀ {n : Nat} {d : CM.D}, Vb c n d = true → V c n d
  | 0, _, q => absurd q Bool.false_ne_true
  | n + 1, d, q => by
    cases d with
    | lst xs =>
      have q2 : (decide (xs.length ≤ c) && xs.all (Vb c n)) = true := q
      rw [Bool.and_eq_true, List.all_eq_true] at q2
      exact ⟨of_decide_eq_true q2.1, fun x hx => Vb_V (q2.2 x hx)⟩
    | tup xs =>
      have q2 : (decide (xs.length ≤ c) && xs.all (Vb c n)) = true := q
      rw [Bool.and_eq_true, List.all_eq_true] at q2
      exact ⟨of_decide_eq_true q2.1, fun x hx => Vb_V (q2.2 x hx)⟩
    | _ => exact q
def spareL : List CM.D := [.int (-1), .int 0, .int 1, .int 7, .int 8, .bl true, .bl false, .non, .str "up", .str "down", .str "Up", .str "", .tup [], .lst [], .tup [.int 0], .tup [.str "up", .int 0, .int 1]]
def oddL : List CM.D := [.non, .bl true, .bl false, .int (-1), .int 0, .int 7, .int (10 ^ 30), .str "", .str "up", .str "down", .str "x", .tup [], .tup [.int 0], .lst [], .lst [.int 0], .dct [], .dct [(.inl 0, .int 1)], .tup [.tup []],
  .tup [.str "up", .int 0, .int 1], .tup [.str "up"], .tup [.str "write", .int 0, .int 0, .int 1], .lst [.tup [.int 0]], .str "0", .tup [.bl true], .tup [.non]]
theorem spare_ok : (spareL.all fun d => Vb 4 2 d && decide (wt 3 d ≤ 900)) = true := by decide +kernel
theorem odd_ok : (oddL.all fun d => Vb 4 3 d && decide (wt 3 d ≤ 900)) = true := by decide +kernel
theorem W_of {c n : Nat} {d : CM.D} (v : V c n d) (l : n ≤ 40) : W d = wt n d := by
  unfold W
  exact wt_up v l
theorem spare_v {d : CM.D} (m : d ∈ spareL) : V 4 2 d ∧ W d ≤ 900 := by
  have q := List.all_eq_true.mp spare_ok d m
  rw [Bool.and_eq_true, decide_eq_true_eq] at q
  have v := Vb_V q.1
  exact ⟨v, by rw [W_of (v.mono (Nat.le_refl _) (show 2 ≤ 3 by omega)) (by omega)]; exact q.2⟩
theorem odd_v {d : CM.D} (m : d ∈ oddL) : V 4 3 d ∧ W d ≤ 900 := by
  have q := List.all_eq_true.mp odd_ok d m
  rw [Bool.and_eq_true, decide_eq_true_eq] at q
  have v := Vb_V q.1
  exact ⟨v, by rw [W_of v (by omega)]; exact q.2⟩
def od_0 : SD := (dAsg (dLst false (dCons (dC .non) (dCons (dC (.bl true)) (dCons (dC (.bl false)) (dCons (dUn fNeg (dC (.int 1))) (dCons (dC (.int 0)) (dCons (dC (.int 7)) (dCons (dOp fPow (dC (.int 10)) (dC (.int 30))) (dCons (dC (.str "")) (dCons (dC (.str "up")) (dCons (dC (.str "down")) (dCons (dC (.str "x")) (dCons (dTup (dNil)) (dCons (dTup (dCons (dC (.int 0)) (dNil))) (dCons (dLst false (dNil)) (dCons (dLst false (dCons (dC (.int 0)) (dNil))) (dCons (dDNew false) (dCons (dDisp false [(dC (.int 0), dC (.int 1))]) (dCons (dTup (dCons (dTup (dNil)) (dNil))) (dNil)))))))))))))))))))) (gdName 1))
def od_1 : SD := (dRet (dCall 2 F__law_pick (dCons (dVar 0) (dCons (dOp (fAdd false) (dVar 1) (dLst false (dCons (dTup (dCons (dC (.str "up")) (dCons (dC (.int 0)) (dCons (dC (.int 1)) (dNil))))) (dCons (dTup (dCons (dC (.str "up")) (dNil))) (dCons (dTup (dCons (dC (.str "write")) (dCons (dC (.int 0)) (dCons (dC (.int 0)) (dCons (dC (.int 1)) (dNil)))))) (dCons (dLst false (dCons (dTup (dCons (dC (.int 0)) (dNil))) (dNil))) (dCons (dC (.str "0")) (dCons (dTup (dCons (dC (.bl true)) (dNil))) (dCons (dTup (dCons (dC .non) (dNil))) (dNil)))))))))) (dNil)))))
theorem od_u : u__law_odd = (dSeq (od_0) (od_1)) := rfl
theorem od_first {r : Nat} {h : CH} : od_0 [some (.ref r), none] h = .nx [some (.ref r), some (.lst (oddL.take 18))] h := by kernel_rfl
theorem od_add {r : Nat} {h : CH} : (dOp (fAdd false) (dVar 1) (dLst false (dCons (dTup (dCons (dC (.str "up")) (dCons (dC (.int 0)) (dCons (dC (.int 1)) (dNil))))) (dCons (dTup (dCons (dC (.str "up")) (dNil))) (dCons (dTup (dCons (dC (.str "write")) (dCons (dC (.int 0)) (dCons (dC (.int 0)) (dCons (dC (.int 1)) (dNil)))))) (dCons (dLst false (dCons (dTup (dCons (dC (.int 0)) (dNil))) (dNil))) (dCons (dC (.str "0")) (dCons (dTup (dCons (dC (.bl true)) (dNil))) (dCons (dTup (dCons (dC .non) (dNil))) (dNil)))))))))) [some (.ref r), some (.lst (oddL.take 18))] h = .ok (.lst oddL) h := by kernel_rfl
theorem odd_sat {r w n : Nat} {h : CH} (A : DrawOk r w (n + 1) h) : ∃ d h1, F__law_odd [.ref r] h = .ok d h1 ∧ d ∈ oddL ∧ DrawOk r w n h1 ∧ DrFr r w h h1 := by
  obtain ⟨d, h1, e, m, A1, f1⟩ := (pick_sat (n := n) A (xs := .lst oddL) (ds := oddL) (.inl rfl) (by decide) (by decide)).ex
  refine ⟨d, h1, ?_, m, A1, f1⟩
  show (u__law_odd [some (.ref r), none] h).res = _
  rw [od_u, s_seq, od_first, sbind_nx]
  unfold od_1
  rw [s_ret, e_call]
  simp only [e_cons, e_var, List.getElem?_cons_zero, bind_ok, od_add, e_nil, List.length_cons, List.length_nil, Nat.zero_add, Nat.reduceAdd, if_true, e, toS_ok, res_rt]
def bt_0 (R_ : FD) : SD := (dAsg (dLst false (dCons (dUn fNeg (dC (.int 1))) (dCons (dC (.int 0)) (dCons (dC (.int 1)) (dCons (dC (.int 7)) (dCons (dC (.int 8)) (dCons (dC (.bl true)) (dCons (dC (.bl false)) (dCons (dC .non) (dCons (dC (.str "up")) (dCons (dC (.str "down")) (dCons (dC (.str "Up")) (dCons (dC (.str "")) (dCons (dTup (dNil)) (dCons (dLst false (dNil)) (dCons (dTup (dCons (dC (.int 0)) (dNil))) (dCons (dTup (dCons (dC (.str "up")) (dCons (dC (.int 0)) (dCons (dC (.int 1)) (dNil))))) (dNil)))))))))))))))))) (gdName 2))
def bt_1 (R_ : FD) : SD := (dIfS (dOr (dNot (dB (dCB (fIsT [0] kt0) (dCons (dVar 1) (dCons (dTup (dCons (dC (.ty "list")) (dCons (dC (.ty "tuple")) (dNil)))) (dNil)))))) (dOr (dB (dOp (fEq false) (dCB fLen (dCons (dVar 1) (dNil))) (dC (.int 0)))) (dB (dOp (fEq false) (dCall 2 F__law_take (dCons (dVar 0) (dCons (dC (.int 6)) (dNil)))) (dC (.int 0)))))) (dRet (dCall 2 F__law_pick (dCons (dVar 0) (dCons (dOp (fAdd false) (dVar 2) (dLst false (dCons (dCall 1 F__law_odd (dCons (dVar 0) (dNil))) (dNil)))) (dNil))))) (dNext))
def bt_2 (R_ : FD) : SD := (dPar3 3 4 5 (dCons (dCall 2 F__law_take (dCons (dVar 0) (dCons (dCB fLen (dCons (dVar 1) (dNil))) (dNil)))) (dCons (dCall 2 F__law_take (dCons (dVar 0) (dCons (dC (.int 8)) (dNil)))) (dCons (dCB (fListOf true) (dCons (dVar 1) (dNil))) (dNil)))))
def bt_3 (R_ : FD) : SD := (dIfS (dB (dOp (fEq false) (dVar 4) (dC (.int 0)))) (dDrop (dBM "list" fPopAt (dVar 5) (dCons (dVar 3) (dNil)))) (dIfS (dB (dOp (fEq false) (dVar 4) (dC (.int 1)))) (dDrop (dBM "list" fInsert (dVar 5) (dCons (dVar 3) (dCons (dCall 2 F__law_pick (dCons (dVar 0) (dCons (dOp (fAdd false) (dVar 2) (dLst false (dCons (dOp fIx (dVar 5) (dVar 3)) (dNil)))) (dNil)))) (dNil))))) (dIfS (dB (dOp (fEq false) (dVar 4) (dC (.int 2)))) (dRet (dUn fzI (dIf (dB (dCB (fIsX xs0 [0] kt0) (dCons (dVar 1) (dCons (dC (.ty "list")) (dNil))))) (dCB fTupOf (dCons (dVar 5) (dNil))) (dVar 5)))) (dIfS (dB (dOp (fEq false) (dVar 4) (dC (.int 3)))) (dSeq (dAsg (dCall 2 F__law_take (dCons (dVar 0) (dCons (dCB fLen (dCons (dVar 5) (dNil))) (dNil)))) (gdName 6)) (dAsg (dTup (dCons (dOp fIx (dVar 5) (dVar 6)) (dCons (dOp fIx (dVar 5) (dVar 3)) (dNil)))) (gdTup 2 (gdCons (gdSub (dVar 5) (dVar 3)) (gdCons (gdSub (dVar 5) (dVar 6)) (gdNil)))))) (dAsg (dCall 2 R_ (dCons (dVar 0) (dCons (dOp fIx (dVar 5) (dVar 3)) (dNil)))) (gdSub (dVar 5) (dVar 3)))))))
def bt_4 (R_ : FD) : SD := (dRet (dUn fzI (dIf (dB (dCB (fIsX xs0 [0] kt0) (dCons (dVar 1) (dCons (dC (.ty "tuple")) (dNil))))) (dCB fTupOf (dCons (dVar 5) (dNil))) (dVar 5))))
theorem bt_u (R_ : FD) : u__law_bent R_ = (dSeq (bt_0 R_) (dSeq (bt_1 R_) (dSeq (bt_2 R_) (dSeq (bt_3 R_) (bt_4 R_))))) := rfl
def BFr (r w : Nat) (h h1 : CH) : Prop := h.nx ≤ h1.nx ∧ ∀ k, k < h.nx → k ≠ r → k ≠ w → h1.ob k = h.ob k
section
variable {r w : Nat} {h h1 h2 : CH} {c n : Nat} {d : CM.D}
theorem BFr.refl : BFr r w h h := ⟨Nat.le_refl _, fun _ _ _ _ => rfl⟩
theorem BFr.trans (a : BFr r w h h1) (b : BFr r w h1 h2) : BFr r w h h2 := ⟨Nat.le_trans a.1 b.1, fun k l n m => (b.2 k (Nat.lt_of_lt_of_le l a.1) n m).trans (a.2 k l n m)⟩
theorem DrFr.b (f : DrFr r w h h1) : BFr r w h h1 := ⟨by rw [f.1]; exact Nat.le_refl _, fun k _ n m => f.2 k n m⟩
theorem BFr.put {k : Nat} {o : MO} (hk : h.nx ≤ k) (f : BFr r w h h1) : BFr r w h (h1.put k o) := ⟨f.1, fun j l n m => by rw [put_ne (by omega)]; exact f.2 j l n m⟩
theorem BFr.del {k : Nat} (hk : h.nx ≤ k) (f : BFr r w h h1) : BFr r w h (h1.del k) := ⟨f.1, fun j l n m => by
  show (if j = k then none else h1.ob j) = _
  rw [if_neg (by omega)]
  exact f.2 j l n m⟩
structure LG (c n : Nat) (q : Nat) (ys : List CM.D) : Prop where
  l : ys.length ≤ c
  v : ∀ y ∈ ys, V c n y
  s : Ws ys ≤ q
theorem LG.at {c n q : Nat} {ys : List CM.D} (g : LG c n q ys) {i : Nat} {y : CM.D} (e : ys[i]? = some y) : V c n y := g.v y (List.mem_of_getElem? e)
theorem ixk {k : Nat} {ys : List CM.D} {i : Int} (e : h.ob k = some (.lst ys)) (i0 : 0 ≤ i) (i1 : i < ys.length) : ∃ y, ys[i.toNat]? = some y ∧ fIx (.ref k) (.int i) h = .ok y h := by
  have lt : i.toNat < ys.length := by omega
  refine ⟨ys[i.toNat], List.getElem?_eq_getElem lt, ?_⟩
  have a : atI ys i = some ys[i.toNat] := by
    unfold atI ixN
    rw [if_pos i0, if_pos i1]
    exact List.getElem?_eq_getElem lt
  unfold fIx
  simp only [seqOf, e, a]
theorem subk {k i j : Nat} {ys : List CM.D} {v : Int} {y x : CM.D} {ρ : DE} (e : h.ob k = some (.lst ys)) (e1 : ρ[i]? = some (some (.ref k))) (e2 : ρ[j]? = some (some (.int v))) (i0 : 0 ≤ v) (i1 : v < ys.length) : gdSub (dVar i) (dVar j) x ρ h = .ok ρ (h.put k (.lst (ys.set v.toNat x))) := by
  have a : ixN ys.length v = some v.toNat := by
    unfold ixN
    rw [if_pos i0, if_pos i1]
  unfold gdSub
  simp only [e_var, e1, e2, calm_ok, refOf, e, a]
theorem fin_ok {k q : Nat} {ys : List CM.D} {t : CM.D} {P : CM.D → Bool} {ρ : DE} {ty : String} (e : h.ob k = some (.lst ys)) (g : LG c n q ys) (hn : n ≤ 39) (e1 : ρ[1]? = some (some t)) (e5 : ρ[5]? = some (some (.ref k))) (ht : fIsX xs0 [0] kt0 [t, .ty ty] h = .ok (.bl (P t)) h) :
    ∃ d' h1, (dRet (dUn fzI (dIf (dB (dCB (fIsX xs0 [0] kt0) (dCons (dVar 1) (dCons (dC (.ty ty)) (dNil))))) (dCB fTupOf (dCons (dVar 5) (dNil))) (dVar 5)))) ρ h = .rt d' h1 ∧ V c (n + 1) d' ∧ W d' ≤ q ∧ (h1 = h ∨ h1 = h.del k) := by
  cases hp : P t with
  | true =>
    rw [hp] at ht
    have tf : fTupOf [.ref k] h = .ok (.tup ys) h := by
      unfold fTupOf
      simp only [lstOf, e]
    refine ⟨.tup ys, h, ?_, ⟨g.l, g.v⟩, by rw [W_tup g.v hn]; exact g.s, .inl rfl⟩
    simp [e1, e5, ht, tf, fzI]
  | false =>
    rw [hp] at ht
    refine ⟨.lst ys, h.del k, ?_, ⟨g.l, g.v⟩, by rw [W_lst g.v hn]; exact g.s, .inr rfl⟩
    simp [e1, e5, ht, fzI, fz, e]
theorem bt0_ok {R_ : FD} : bt_0 R_ [some (.ref r), some d, none, none, none, none, none] h = .nx [some (.ref r), some d, some (.lst spareL), none, none, none, none] h := by kernel_rfl
theorem add_one (o : CM.D) : fAdd false (.lst spareL) (.lst [o]) h = .ok (.lst (spareL ++ [o])) h := by
  unfold fAdd
  simp only [lstOf, mkL]
  rw [if_pos (show spareL.length + [o].length ≤ sizeLine from (show 17 ≤ sizeLine by decide))]
theorem pick_one {m : Nat} (A : DrawOk r w (m + 1) h) (o : CM.D) : ∃ d h1, F__law_pick [.ref r, .lst (spareL ++ [o])] h = .ok d h1 ∧ (d ∈ spareL ∨ d = o) ∧ DrawOk r w m h1 ∧ DrFr r w h h1 := by
  obtain ⟨d, h1, e, mm, A1, f1⟩ := (pick_sat (n := m) A (xs := .lst (spareL ++ [o])) (ds := spareL ++ [o]) (.inl rfl) (by simp) (by rw [List.length_append]; show 17 < 1073741824; decide)).ex
  refine ⟨d, h1, e, ?_, A1, f1⟩
  rcases List.mem_append.mp mm with z | z
  · exact .inl z
  · exact .inr (List.mem_singleton.mp z)
theorem spare_ret {m : Nat} (A : DrawOk r w (m + 2) h) (hc : 4 ≤ c) (hn : 3 ≤ n) {x1 x3 x4 x5 x6 : Option CM.D} : ∃ d' h1, (dRet (dCall 2 F__law_pick (dCons (dVar 0) (dCons (dOp (fAdd false) (dVar 2) (dLst false (dCons (dCall 1 F__law_odd (dCons (dVar 0) (dNil))) (dNil)))) (dNil))))) [some (.ref r), x1, some (.lst spareL), x3, x4, x5, x6] h = .rt d' h1 ∧ V c n d' ∧ W d' ≤ 900 ∧ DrawOk r w m h1 ∧ BFr r w h h1 := by
  obtain ⟨o, h1, e1, mo, A1, f1⟩ := odd_sat A
  obtain ⟨d, h2, e2, md, A2, f2⟩ := pick_one A1 o
  have l1 : 1 ≤ sizeLine := by decide
  have g : V c n d ∧ W d ≤ 900 := by
    rcases md with z | rfl
    · obtain ⟨a, b⟩ := spare_v z
      exact ⟨a.mono hc (by omega), b⟩
    · obtain ⟨a, b⟩ := odd_v mo
      exact ⟨a.mono hc hn, b⟩
  refine ⟨d, h2, ?_, g.1, g.2, A2, (DrFr.b f1).trans (DrFr.b f2)⟩
  simp [e1, l1, mkL, add_one, e2]
theorem lof (s : isSeqB d = true) : fListOf true [d] h = .ok (.ref h.nx) (h.new (.lst (inD d))) := by
  cases d with
  | lst xs => rfl
  | tup xs => rfl
  | _ => exact absurd s Bool.false_ne_true
theorem bt3_ok {k m : Nat} {sp : CM.D} (hsp : sp = .lst spareL) (ih : ∀ {d : CM.D} {h : CH}, V c n d → n ≤ k → DrawOk r w (m + 4 * k + 4) h → ∃ d' h1, F__law_bent_ k [.ref r, d] h = .ok d' h1 ∧ V (c + 1) (n + 2) d' ∧ W d' ≤ 2 * W d + 1000 ∧ DrawOk r w m h1 ∧ BFr r w h h1)
    (v : V c (n + 1) d) (s : isSeqB d = true) (hc : 4 ≤ c) (hc2 : c ≤ 40) (hn : n ≤ 30) (hk : n ≤ k) {a wy : Int} (a0 : 0 ≤ a) (a1 : a < (inD d).length) {kl : Nat} (e : h.ob kl = some (.lst (inD d))) (kr : kl ≠ r) (kw : kl ≠ w) (kx : kl < h.nx) (A : DrawOk r w (m + 4 * k + 5) h) :
    (∃ x6 h1 ys, bt_3 (F__law_bent_ k) [some (.ref r), some d, some sp, some (.int a), some (.int wy), some (.ref kl), none] h = .nx [some (.ref r), some d, some sp, some (.int a), some (.int wy), some (.ref kl), x6] h1 ∧ h1.ob kl = some (.lst ys) ∧ LG (c + 1) (n + 2) (2 * W d + 1000) ys ∧ DrawOk r w m h1 ∧ h.nx ≤ h1.nx ∧ (∀ j, j < h.nx → j ≠ r → j ≠ w → j ≠ kl → h1.ob j = h.ob j)) ∨
    (∃ d' h1, bt_3 (F__law_bent_ k) [some (.ref r), some d, some sp, some (.int a), some (.int wy), some (.ref kl), none] h = .rt d' h1 ∧ V (c + 1) (n + 3) d' ∧ W d' ≤ 2 * W d + 1000 ∧ (h1 = h ∨ h1 = h.del kl)) := by
  subst hsp
  have wd := Ws_in v s (show n ≤ 39 by omega)
  have vi := v.inn
  have li := v.inl
  have ty : isTy "list" (.ref kl) h = true := by simp [isTy, lstOf, e]
  have g0 : LG (c + 1) (n + 2) (2 * W d + 1000) (inD d) := ⟨by omega, fun y hy => (vi y hy).mono (by omega) (by omega), by omega⟩
  obtain ⟨y0, ey, ei⟩ := ixk e a0 a1
  have my : y0 ∈ inD d := List.mem_of_getElem? ey
  have t0 : (dB (dOp (fEq false) (dVar 4) (dC (.int 0)))) [some (.ref r), some d, some (.lst spareL), some (.int a), some (.int wy), some (.ref kl), none] h = .ok (wy == 0) h := by simp [eq0_int]
  have t1 : (dB (dOp (fEq false) (dVar 4) (dC (.int 1)))) [some (.ref r), some d, some (.lst spareL), some (.int a), some (.int wy), some (.ref kl), none] h = .ok (wy == 1) h := by simp [eq0_int]
  have t2 : (dB (dOp (fEq false) (dVar 4) (dC (.int 2)))) [some (.ref r), some d, some (.lst spareL), some (.int a), some (.int wy), some (.ref kl), none] h = .ok (wy == 2) h := by simp [eq0_int]
  have t3 : (dB (dOp (fEq false) (dVar 4) (dC (.int 3)))) [some (.ref r), some d, some (.lst spareL), some (.int a), some (.int wy), some (.ref kl), none] h = .ok (wy == 3) h := by simp [eq0_int]
  have drk : ∀ {o : MO} {h' : CH} {q : Nat}, DrawOk r w q h' → DrawOk r w q (h'.put kl o) := fun {o h' q} A' => A'.keep (Nat.le_refl _) fun j hj => put_ne (by rcases hj with rfl | rfl <;> omega)
  unfold bt_3
  rw [s_if, t0, toS_ok]
  by_cases c0 : wy = 0
  · rw [if_pos (by simpa using c0)]
    refine .inl ⟨none, h.put kl (.lst ((inD d).eraseIdx a.toNat)), _, ?_, put_same, ⟨Nat.le_trans (List.length_eraseIdx_le ..) (by omega), fun y hy => g0.v y (List.mem_of_mem_eraseIdx hy), Nat.le_trans Ws_erase (by omega)⟩, drk (A.mono (by omega)), Nat.le_refl _, fun j l n1 n2 n3 => put_ne n3⟩
    have si : seqIndex? a (inD d).length = some a.toNat := by
      unfold seqIndex?
      simp only [if_neg (show ¬ a < 0 by omega)]
      rw [if_pos (by simp; omega)]
    have pa : fPopAt (.ref kl) [.int a] h = .ok y0 (h.put kl (.lst ((inD d).eraseIdx a.toNat))) := by
      unfold fPopAt
      simp only [e]
      rw [if_pos ⟨by omega, by omega⟩, si]
      simp only [ey]
    simp [ty, pa]
  · rw [if_neg (by simpa using c0), s_if, t1, toS_ok]
    by_cases c1 : wy = 1
    · rw [if_pos (by simpa using c1)]
      obtain ⟨x, h1, ex, mx, A1, f1⟩ := pick_one (m := m + 4 * k + 4) A y0
      have e1 : h1.ob kl = some (.lst (inD d)) := (f1.2 kl kr kw).trans e
      have gx : V (c + 1) (n + 2) x ∧ W x ≤ Ws (inD d) + 900 := by
        rcases mx with z | rfl
        · obtain ⟨p, q⟩ := spare_v z
          exact ⟨p.mono (by omega) (by omega), by omega⟩
        · have := Ws_mem my
          exact ⟨(vi _ my).mono (by omega) (by omega), by omega⟩
      refine .inl ⟨none, h1.put kl (.lst ((inD d).take a.toNat ++ [x] ++ (inD d).drop a.toNat)), _, ?_, put_same, ⟨?_, fun y hy => ?_, ?_⟩, drk (A1.mono (by omega)), by rw [show (h1.put kl _).nx = h1.nx from rfl, f1.1]; exact Nat.le_refl _, fun j l n1 n2 n3 => by rw [put_ne n3]; exact f1.2 j n1 n2⟩
      · have l1 : 1 ≤ sizeLine := by decide
        have fi : fInsert (.ref kl) [.int a, x] h1 = .ok .non (h1.put kl (.lst ((inD d).take a.toNat ++ [x] ++ (inD d).drop a.toNat))) := by
          unfold fInsert
          simp only [e1]
          rw [if_pos ⟨Nat.lt_of_le_of_lt (show _ ≤ 1000 by omega) (by decide), a0, by omega⟩]
        simp [ty, ei, l1, mkL, add_one, ex, fi]
      · simp only [List.length_append, List.length_take, List.length_drop, List.length_cons, List.length_nil]
        omega
      · rcases List.mem_append.mp hy with z | z
        · rcases List.mem_append.mp z with z | z
          · exact g0.v y (List.mem_of_mem_take z)
          · rw [List.mem_singleton.mp z]; exact gx.1
        · exact g0.v y (List.mem_of_mem_drop z)
      · have sp := Ws_split (inD d) a.toNat
        rw [Ws_app, Ws_app, Ws_cons, Ws_nil]
        have := gx.2
        omega
    · rw [if_neg (by simpa using c1), s_if, t2, toS_ok]
      by_cases c2 : wy = 2
      · rw [if_pos (by simpa using c2)]
        obtain ⟨d', h1, er, vd, wd', hh⟩ := fin_ok (P := isLstB) (ρ := [some (.ref r), some d, some (.lst spareL), some (.int a), some (.int wy), some (.ref kl), none]) (ty := "list") e g0 (by omega) rfl rfl (lst_v v)
        exact .inr ⟨d', h1, er, vd, wd', hh⟩
      · rw [if_neg (by simpa using c2), s_if, t3, toS_ok]
        by_cases c3 : wy = 3
        · rw [if_pos (by simpa using c3)]
          have ln : fLen [.ref kl] h = .ok (.int (inD d).length) h := by simp [fLen, seqOf, e]
          obtain ⟨_, h1, et, b, rfl, b0, b1, A1, f1⟩ := (take_sat (n := m + 4 * k + 4) A (s := ((inD d).length : Int)) (by omega) (by omega)).ex
          have e1 : h1.ob kl = some (.lst (inD d)) := (f1.2 kl kr kw).trans e
          obtain ⟨ya, eya, eia⟩ := ixk e1 a0 a1
          obtain ⟨yb, eyb, eib⟩ := ixk e1 b0 b1
          have l2 : 2 ≤ sizeLine := le2
          have lb : a < ((inD d).set a.toNat yb).length := by rw [List.length_set]; exact a1
          have lb2 : b < ((inD d).set a.toNat yb).length := by rw [List.length_set]; exact b1
          refine .inl ⟨some (.int b), (h1.put kl (.lst ((inD d).set a.toNat yb))).put kl (.lst (((inD d).set a.toNat yb).set b.toNat ya)), _, ?_, put_same, ⟨by rw [List.length_set, List.length_set]; omega, fun y hy => ?_, ?_⟩, drk (drk (A1.mono (by omega))), by show h.nx ≤ h1.nx; rw [f1.1]; exact Nat.le_refl _, fun j l n1 n2 n3 => by rw [put_ne n3, put_ne n3]; exact f1.2 j n1 n2⟩
          · have s1 := subk (i := 5) (j := 3) (v := a) (y := ya) (x := yb) (ρ := [some (.ref r), some d, some (.lst spareL), some (.int a), some (.int wy), some (.ref kl), some (.int b)]) e1 rfl rfl a0 a1
            have s2 := subk (i := 5) (j := 6) (v := b) (y := ya) (x := ya) (ρ := [some (.ref r), some d, some (.lst spareL), some (.int a), some (.int wy), some (.ref kl), some (.int b)]) (put_same (h := h1) (k := kl) (o := .lst ((inD d).set a.toNat yb))) rfl rfl b0 lb2
            simp [ln, et, eib, eia, l2, gdTup, gdCons, gdNil, s1, s2]
          · rcases List.mem_or_eq_of_mem_set hy with z | rfl
            · rcases List.mem_or_eq_of_mem_set z with z | rfl
              · exact g0.v y z
              · exact g0.v _ (List.mem_of_getElem? eyb)
            · exact g0.v _ (List.mem_of_getElem? eya)
          · have q1 := Ws_set (y := yb) eya
            have ej : ((inD d).set a.toNat yb)[b.toNat]? = some yb := by
              rw [List.getElem?_set]
              split
              · rw [if_pos (by omega)]
              · exact eyb
            have q2 := Ws_set (y := ya) ej
            omega
        · rw [if_neg (by simpa using c3)]
          obtain ⟨x, h1, ex, vx, wx, A1, f1⟩ := ih (d := y0) (h := h) (vi _ my) hk (A.mono (by omega))
          have e1 : h1.ob kl = some (.lst (inD d)) := (f1.2 kl kx kr kw).trans e
          refine .inl ⟨none, h1.put kl (.lst ((inD d).set a.toNat x)), _, ?_, put_same, ⟨by rw [List.length_set]; omega, fun y hy => ?_, ?_⟩, drk A1, f1.1, fun j l n1 n2 n3 => by rw [put_ne n3]; exact f1.2 j l n1 n2⟩
          · have s1 := subk (i := 5) (j := 3) (v := a) (y := x) (x := x) (ρ := [some (.ref r), some d, some (.lst spareL), some (.int a), some (.int wy), some (.ref kl), none]) e1 rfl rfl a0 a1
            simp [ei, ex, s1]
          · rcases List.mem_or_eq_of_mem_set hy with z | rfl
            · exact g0.v y z
            · exact vx
          · have q1 := Ws_set (y := x) ey
            have := Ws_mem my
            omega
end
theorem rest_spare {R_ : FD} {ρ ρ1 : DE} {h h1 : CH} {d' : CM.D} (e : bt_1 R_ ρ h = .rt d' h1) : ((dSeq (bt_1 R_) (dSeq (bt_2 R_) (dSeq (bt_3 R_) (bt_4 R_)))) ρ h).res = .ok d' h1 := by
  rw [s_seq, e]
  rfl
theorem bent_ok {r w : Nat} : ∀ {k n m c : Nat} {d : CM.D} {h : CH}, 4 ≤ c → c ≤ 40 → n ≤ 30 → V c n d → n ≤ k → DrawOk r w (m + 4 * k + 4) h → ∃ d' h1, F__law_bent_ k [.ref r, d] h = .ok d' h1 ∧ V (c + 1) (n + 2) d' ∧ W d' ≤ 2 * W d + 1000 ∧ DrawOk r w m h1 ∧ BFr r w h h1
  | _, 0, _, _, _, _, _, _, _, v, _, _ => v.elim
  | 0, n + 1, _, _, _, _, _, _, _, _, l, _ => absurd l (by omega)
  | k + 1, n + 1, m, c, d, h, hc, hc2, hn, v, hk, A => by
    have go : F__law_bent_ (k + 1) [.ref r, d] h = (u__law_bent (F__law_bent_ k) [some (.ref r), some d, none, none, none, none, none] h).res := rfl
    rw [go, bt_u, s_seq, bt0_ok, sbind_nx]
    have l2 : 2 ≤ sizeLine := le2
    cases hs : isSeqB d with
    | false =>
      obtain ⟨d', h1, e, vd, wd, A1, f1⟩ := spare_ret (c := c + 1) (n := n + 3) (A.mono (show m + 2 ≤ _ by omega)) (by omega) (by omega) (x1 := some d) (x3 := none) (x4 := none) (x5 := none) (x6 := none)
      have sv := seq_v (h := h) v
      rw [hs] at sv
      refine ⟨d', h1, rest_spare (ρ1 := []) ?_, vd, by omega, A1, f1⟩
      unfold bt_1
      rw [s_if]
      have t : (dOr (dNot (dB (dCB (fIsT [0] kt0) (dCons (dVar 1) (dCons (dTup (dCons (dC (.ty "list")) (dCons (dC (.ty "tuple")) (dNil)))) (dNil)))))) (dOr (dB (dOp (fEq false) (dCB fLen (dCons (dVar 1) (dNil))) (dC (.int 0)))) (dB (dOp (fEq false) (dCall 2 F__law_take (dCons (dVar 0) (dCons (dC (.int 6)) (dNil)))) (dC (.int 0)))))) [some (.ref r), some d, some (.lst spareL), none, none, none, none] h = .ok true h := by simp [l2, sv]
      rw [t, toS_ok, if_pos rfl]
      exact e
    | true =>
      have sv := seq_v (h := h) v
      rw [hs] at sv
      have ln := seq_len (h := h) hs
      by_cases z0 : (inD d).length = 0
      · obtain ⟨d', h1, e, vd, wd, A1, f1⟩ := spare_ret (c := c + 1) (n := n + 3) (A.mono (show m + 2 ≤ _ by omega)) (by omega) (by omega) (x1 := some d) (x3 := none) (x4 := none) (x5 := none) (x6 := none)
        refine ⟨d', h1, rest_spare (ρ1 := []) ?_, vd, by omega, A1, f1⟩
        unfold bt_1
        rw [s_if]
        rw [z0] at ln
        have t : (dOr (dNot (dB (dCB (fIsT [0] kt0) (dCons (dVar 1) (dCons (dTup (dCons (dC (.ty "list")) (dCons (dC (.ty "tuple")) (dNil)))) (dNil)))))) (dOr (dB (dOp (fEq false) (dCB fLen (dCons (dVar 1) (dNil))) (dC (.int 0)))) (dB (dOp (fEq false) (dCall 2 F__law_take (dCons (dVar 0) (dCons (dC (.int 6)) (dNil)))) (dC (.int 0)))))) [some (.ref r), some d, some (.lst spareL), none, none, none, none] h = .ok true h := by simp [l2, sv, ln, eq0_int]
        rw [t, toS_ok, if_pos rfl]
        exact e
      · obtain ⟨_, h1, e1, v6, rfl, _, _, A1, f1⟩ := (take_sat (n := m + 4 * k + 7) (A.mono (by omega)) (s := 6) (by decide) (by decide)).ex
        have nz : (((inD d).length : Int) == 0) = false := by simpa using (by omega : ¬ ((inD d).length : Int) = 0)
        have t : (dOr (dNot (dB (dCB (fIsT [0] kt0) (dCons (dVar 1) (dCons (dTup (dCons (dC (.ty "list")) (dCons (dC (.ty "tuple")) (dNil)))) (dNil)))))) (dOr (dB (dOp (fEq false) (dCB fLen (dCons (dVar 1) (dNil))) (dC (.int 0)))) (dB (dOp (fEq false) (dCall 2 F__law_take (dCons (dVar 0) (dCons (dC (.int 6)) (dNil)))) (dC (.int 0)))))) [some (.ref r), some d, some (.lst spareL), none, none, none, none] h = .ok (v6 == 0) h1 := by
          simp only [e_or, e_not, e_B, e_CB, e_cons, e_nil, e_tup, e_var, e_C, e_op, e_call, List.getElem?_cons_zero, List.getElem?_cons_succ, bind_ok, List.length_cons, List.length_nil, Nat.zero_add, Nat.reduceAdd, l2, if_true, sv, asB_bl, Bool.not_true, Bool.false_eq_true, if_false, ln, eq0_int, nz, e1]
        by_cases c6 : v6 = 0
        · obtain ⟨d', h2, e, vd, wd, A2, f2⟩ := spare_ret (c := c + 1) (n := n + 3) (A1.mono (show m + 2 ≤ _ by omega)) (by omega) (by omega) (x1 := some d) (x3 := none) (x4 := none) (x5 := none) (x6 := none)
          refine ⟨d', h2, rest_spare (ρ1 := []) ?_, vd, by omega, A2, (DrFr.b f1).trans f2⟩
          unfold bt_1
          rw [s_if, t, toS_ok, if_pos (by simpa using c6)]
          exact e
        · have q1 : bt_1 (F__law_bent_ k) [some (.ref r), some d, some (.lst spareL), none, none, none, none] h = .nx [some (.ref r), some d, some (.lst spareL), none, none, none, none] h1 := by
            unfold bt_1
            rw [s_if, t, toS_ok, if_neg (by simpa using c6)]
            rfl
          have ln1 := seq_len (h := h1) hs
          have li := v.inl
          obtain ⟨_, h2, e2, a, rfl, a0, a1, A2, f2⟩ := (take_sat (n := m + 4 * k + 6) A1 (s := ((inD d).length : Int)) (by omega) (by omega)).ex
          obtain ⟨_, h3, e3, wy, rfl, _, _, A3, f3⟩ := (take_sat (n := m + 4 * k + 5) A2 (s := 8) (by decide) (by decide)).ex
          have lf := lof (h := h3) hs
          have q2 : bt_2 (F__law_bent_ k) [some (.ref r), some d, some (.lst spareL), none, none, none, none] h1 = .nx [some (.ref r), some d, some (.lst spareL), some (.int a), some (.int wy), some (.ref h3.nx), none] (h3.new (.lst (inD d))) := by
            unfold bt_2 dPar3
            simp only [e_cons, e_nil, e_call, e_CB, e_var, e_C, List.getElem?_cons_zero, List.getElem?_cons_succ, bind_ok, List.length_cons, List.length_nil, Nat.zero_add, Nat.reduceAdd, if_true, ln1, e2, e3, lf, toS_ok]
            rfl
          have lt3 := A3.lt
          have nx3 : h3.nx = h.nx := by rw [f3.1, f2.1, f1.1]
          have ol : ∀ j, j < h3.nx → (h3.new (.lst (inD d))).ob j = h3.ob j := fun j hj => new_lt hj
          have A4 : DrawOk r w (m + 4 * k + 5) (h3.new (.lst (inD d))) := A3.keep (Nat.le_succ _) fun j hj => ol j (by rcases hj with rfl | rfl <;> omega)
          have f13 : DrFr r w h h3 := (f1.trans f2).trans f3
          have ek : (h3.new (.lst (inD d))).ob h3.nx = some (.lst (inD d)) := by rw [new_ob, if_pos rfl]
          rw [s_seq, q1, sbind_nx, s_seq, q2, sbind_nx, s_seq]
          have fr3 : ∀ {h5 : CH}, (h3.new (.lst (inD d))).nx ≤ h5.nx → (∀ j, j < (h3.new (.lst (inD d))).nx → j ≠ r → j ≠ w → j ≠ h3.nx → h5.ob j = (h3.new (.lst (inD d))).ob j) → BFr r w h h5 := fun {h5} l5 f5 =>
            ⟨by have : h3.nx + 1 ≤ h5.nx := l5; omega, fun j hj n1 n2 => by rw [f5 j (by show j < h3.nx + 1; omega) n1 n2 (by omega), ol j (by omega)]; exact f13.2 j n1 n2⟩
          have dl : ∀ {h5 : CH} {q : Nat}, DrawOk r w q h5 → DrawOk r w q (h5.del h3.nx) := fun {h5 q} A5 => A5.keep (Nat.le_refl _) fun j hj => by
            show (if j = h3.nx then none else h5.ob j) = _
            rw [if_neg (by rcases hj with rfl | rfl <;> omega)]
          rcases bt3_ok (wy := wy) (sp := .lst spareL) rfl (fun {d h} v' hk' A' => bent_ok (k := k) hc hc2 (by omega) v' hk' A') v hs hc hc2 (by omega) (by omega) a0 a1 ek (by omega) (by omega) (Nat.lt_succ_self _) A4 with ⟨x6, h5, ys, q3, e5, g, A5, l5, f5⟩ | ⟨d', h5, q3, vd, wd, hh⟩
          · rw [q3, sbind_nx]
            obtain ⟨d', h6, q4, vd, wd, hh⟩ := fin_ok (P := isTupB) (t := d) (ty := "tuple") (ρ := [some (.ref r), some d, some (.lst spareL), some (.int a), some (.int wy), some (.ref h3.nx), x6]) e5 g (by omega) rfl rfl (tup_v v)
            unfold bt_4
            refine ⟨d', h6, by rw [q4]; rfl, vd, wd, ?_, ?_⟩
            · rcases hh with rfl | rfl
              · exact A5
              · exact dl A5
            · rcases hh with rfl | rfl
              · exact fr3 l5 f5
              · exact (fr3 l5 f5).del (by omega)
          · rw [q3, sbind_rt]
            refine ⟨d', h5, rfl, vd, wd, ?_, ?_⟩
            · rcases hh with rfl | rfl
              · exact A4.mono (by omega)
              · exact (dl A4).mono (by omega)
            · have b0 : BFr r w h (h3.new (.lst (inD d))) := fr3 (Nat.le_refl _) fun j _ _ _ _ => rfl
              rcases hh with rfl | rfl
              · exact b0
              · exact b0.del (by omega)
def lp_0 : SD := (dAsg (dCall 3 F__law_chain (dCons (dVar 1) (dCons (dC (.int 1)) (dCons (dC (.int 8)) (dNil))))) (gdName 3))
def lp_1 : SD := (dAsg (dCall 3 F__law_plan (dCons (dVar 1) (dCons (dC (.int 0)) (dCons (dOp fSubI (dCB fLen (dCons (dVar 3) (dNil))) (dC (.int 1))) (dNil))))) (gdName 4))
def lp_2 : SD := (dIfS (dOr (dNot (dB (dCall 2 F__law_all_right (dCons (dVar 3) (dCons (dVar 4) (dNil)))))) (dNot (dB (dCall 2 F__law_all_right (dCons (dCB fTupOf (dCons (dVar 3) (dNil))) (dCons (dVar 4) (dNil))))))) (dRet (dC (.bl false))) (dNext))
def lp_3 : SD := (dAsg (dCall 2 F__law_pick (dCons (dVar 1) (dCons (dLst false (dCons (dC (.int 0)) (dCons (dC (.int 1)) (dCons (dOp fSubI (dCB fLen (dCons (dVar 3) (dNil))) (dC (.int 1))) (dNil))))) (dNil)))) (gdName 5))
def lp_4 : SD := (dFor (dSeqI (dLst false (dCons (dCall 3 F__law_plan (dCons (dVar 1) (dCons (dC (.int 0)) (dCons (dVar 5) (dNil))))) (dCons (dCall 3 F__law_plan (dCons (dVar 1) (dCons (dVar 5) (dCons (dOp (fAdd false) (dVar 5) (dC (.int 2))) (dNil))))) (dNil))))) (gdName 6) (dIfS (dNot (dB (dCall 2 F__law_all_right (dCons (dVar 3) (dCons (dVar 6) (dNil)))))) (dRet (dC (.bl false))) (dNext)))
def lp_5 : SD := (dPar 7 8 (dCons (dVar 3) (dCons (dVar 4) (dNil))))
def lp_6 : SD := (dFor (dRng1 (dCons (dOp (fAdd false) (dC (.int 1)) (dCall 2 F__law_take (dCons (dVar 1) (dCons (dC (.int 2)) (dNil))))) (dNil))) (gdName 9) (dIfS (dB (dOp (fEq false) (dCall 2 F__law_take (dCons (dVar 1) (dCons (dC (.int 2)) (dNil)))) (dC (.int 0)))) (dAsg (dCall 2 F__law_bent (dCons (dVar 1) (dCons (dVar 7) (dNil)))) (gdName 7)) (dAsg (dCall 2 F__law_bent (dCons (dVar 1) (dCons (dVar 8) (dNil)))) (gdName 8))))
def lp_7 : SD := (dAsg (dCB fRep (dCons (dLst false (dCons (dVar 7) (dCons (dVar 8) (dNil)))) (dNil))) (gdName 10))
def lp_8 : SD := (dIfS (dOr (dNot (dB (dCall 2 F__law_all_right (dCons (dVar 7) (dCons (dVar 8) (dNil)))))) (dOr (dNot (dB (dCall 2 F__law_all_right (dCons (dVar 3) (dCons (dVar 8) (dNil)))))) (dB (dOp (fEq true) (dCB fRep (dCons (dLst false (dCons (dVar 7) (dCons (dVar 8) (dNil)))) (dNil))) (dVar 10))))) (dRet (dC (.bl false))) (dNext))
def lpAll : SD := (dSeq (lp_0) (dSeq (lp_1) (dSeq (lp_2) (dSeq (lp_3) (dSeq (lp_4) (dSeq (lp_5) (dSeq (lp_6) (dSeq (lp_7) (lp_8)))))))))
def lawRng : TDw := (dRng1 (dCons (dOp (fAdd false) (dC (.int 4)) (dCB fMin (dCons (dCB fLen (dCons (dVar 0) (dNil))) (dCons (dC (.int 16)) (dNil))))) (dNil)))
theorem law_u : u_law = dSeq (dAsg (dCall 1 F__law_begun (dCons (dVar 0) (dNil))) (gdName 1)) (dSeq (dFor lawRng (gdName 2) lpAll) (dRet (dC (.bl true)))) := rfl
theorem forL_step {tg : TGD} {u : SD} {d : CM.D} {l : List CM.D} {ρ ρ1 ρ2 : DE} {h h1 h2 : CH} (e1 : tg d ρ h = .ok ρ1 h1) (e2 : u ρ1 h1 = .nx ρ2 h2) : dForL tg u (d :: l) ρ h = dForL tg u l ρ2 h2 := by
  show ((tg d ρ h).put _) = _
  rw [e1]
  show (match u ρ1 h1 with
    | .nx ρ2 h2 => dForL tg u l ρ2 h2
    | .ct ρ2 h2 => dForL tg u l ρ2 h2
    | .bk ρ2 h2 => .nx ρ2 h2
    | x => x) = _
  rw [e2]
theorem forL_fold {α : Type} {tg : TGD} {u : SD} {enc : α → CM.D} (I : List α → DE → CH → Prop) (step : ∀ x r ρ h, I (x :: r) ρ h → ∃ ρ1 h1 ρ2 h2, tg (enc x) ρ h = .ok ρ1 h1 ∧ u ρ1 h1 = .nx ρ2 h2 ∧ I r ρ2 h2) : ∀ {xs : List α} {ρ : DE} {h : CH}, I xs ρ h → ∃ ρ' h', dForL tg u (xs.map enc) ρ h = .nx ρ' h' ∧ I [] ρ' h'
  | [], ρ, h, i => ⟨ρ, h, rfl, i⟩
  | x :: xs, ρ, h, i => by
    obtain ⟨ρ1, h1, ρ2, h2, e1, e2, i2⟩ := step x xs ρ h i
    rw [List.map_cons, forL_step e1 e2]
    exact forL_fold I step i2
theorem ten_leaf {x : Int} (m : x ∈ ten) : leafP (.int x) = true := by
  obtain ⟨a, b⟩ := ten_bd m
  exact leaf_small a (by omega)
theorem W_int (i : Int) : W (.int i) = 200 := by unfold W; exact wt_int 39 i
theorem W_str (x : Str) : W (.str x) = 200 := by unfold W; exact wt_str 39 x
theorem Ws_ints (l : List Int) : Ws (l.map CM.D.int) = 201 * l.length := by
  induction l with
  | nil => rw [List.map_nil, Ws_nil]; rfl
  | cons x l ih => rw [List.map_cons, Ws_cons, ih, W_int, List.length_cons]; omega
theorem row_V {l : List Int} (o : Own l) : V 10 2 (tupI l) ∧ W (tupI l) ≤ 2010 := by
  have vi : ∀ x ∈ l.map CM.D.int, V 10 1 x := fun x hx => by
    obtain ⟨i, hi, rfl⟩ := List.mem_map.mp hx
    exact ten_leaf (o.bd i hi)
  have ln := o.len
  exact ⟨⟨by rw [List.length_map]; exact ln, vi⟩, by rw [W_tup vi (by omega), Ws_ints]; omega⟩
theorem rows_V {rs : List (List Int)} (C : Chain rs) : (∀ x ∈ rowsD rs, V 10 2 x) ∧ Ws (rowsD rs) ≤ 16088 := by
  refine ⟨fun x hx => ?_, ?_⟩
  · obtain ⟨r, hr, rfl⟩ := List.mem_map.mp hx
    exact (row_V (C.own r hr)).1
  · have key : ∀ l : List (List Int), (∀ r ∈ l, Own r) → Ws (rowsD l) ≤ 2011 * l.length := by
      intro l
      induction l with
      | nil => intro _; show Ws [] ≤ _; rw [Ws_nil]; exact Nat.zero_le _
      | cons r l ih =>
        intro q
        have a := ih fun y hy => q y (List.mem_cons_of_mem _ hy)
        have b := (row_V (q r List.mem_cons_self)).2
        show Ws (tupI r :: rowsD l) ≤ _
        rw [Ws_cons, List.length_cons]
        omega
    have := key rs C.own
    have := C.le
    omega
theorem up_leaf (k : Bool) : leafP (.str (kS k)) = true := by cases k <;> decide +kernel
theorem plan_V : ∀ {p : Pl} {f l : Int}, Sp p f l → 0 ≤ f → l ≤ 20 → ∃ n : Nat, (n : Int) ≤ l - f + 1 ∧ V 10 n p.D ∧ (W p.D : Int) ≤ 500 * (l - f + 1) - 300
  | .leaf i, f, l, s, h0, h1 => by
    obtain ⟨rfl, rfl⟩ := s
    refine ⟨1, by omega, (show leafP (.int i) = true from leaf_small h0 h1), ?_⟩
    show ((W (.int i) : Nat) : Int) ≤ _
    rw [W_int]
    omega
  | .node k a b, f, l, s, h0, h1 => by
    obtain ⟨m, sa, sb⟩ := s
    have la := sa.le
    have lb := sb.le
    obtain ⟨na, ea, va, wa⟩ := plan_V sa h0 (by omega)
    obtain ⟨nb, eb, vb, wb⟩ := plan_V sb (by omega) h1
    have vi : ∀ x ∈ [CM.D.str (kS k), a.D, b.D], V 10 (max na nb) x := fun x hx => by
      simp only [List.mem_cons, List.not_mem_nil, or_false] at hx
      rcases hx with rfl | rfl | rfl
      · have : 1 ≤ max na nb := by
          cases na with
          | zero => exact va.elim
          | succ n => omega
        exact (show V 10 1 (.str (kS k)) from up_leaf k).mono (Nat.le_refl _) this
      · exact va.mono (Nat.le_refl _) (by omega)
      · exact vb.mono (Nat.le_refl _) (by omega)
    refine ⟨max na nb + 1, by omega, ⟨by show 3 ≤ 10; decide, vi⟩, ?_⟩
    have e : W (Pl.D (.node k a b)) = 203 + W a.D + W b.D := by
      show W (.tup [.str (kS k), a.D, b.D]) = _
      rw [W_tup vi (by omega), Ws_cons, Ws_cons, Ws_cons, Ws_nil, W_str]
      omega
    rw [e]
    omega
section
variable {r w m : Nat} {h : CH} {x0 x2 x3 x4 x5 x6 x7 x8 x9 x10 : Option CM.D} {X P Y : CM.D}
abbrev En (x0 : Option CM.D) (r : Nat) (x2 x3 x4 x5 x6 x7 x8 x9 x10 : Option CM.D) : DE := [x0, some (.ref r), x2, x3, x4, x5, x6, x7, x8, x9, x10]
theorem lp2_ok (vX : V 12 20 X) (vT : V 12 20 Y) (eT : ∀ h : CH, fTupOf [X] h = .ok Y h) (vP : V 12 20 P) (A : DrawOk r w m h) : ∃ h1, lp_2 (En x0 r x2 (some X) (some P) x5 x6 x7 x8 x9 x10) h = .nx (En x0 r x2 (some X) (some P) x5 x6 x7 x8 x9 x10) h1 ∧ DrawOk r w m h1 := by
  obtain ⟨h1, e1, k1⟩ := right_ok (h := h) vX vP (by omega) (by omega)
  obtain ⟨h2, e2, k2⟩ := right_ok (h := h1) vT vP (by omega) (by omega)
  refine ⟨h2, ?_, draw_kp (draw_kp A k1) k2⟩
  unfold lp_2
  simp [e1, eT, e2]
theorem near_ok (vX : V 12 20 X) (vP : V 12 20 P) (A : DrawOk r w m h) : ∃ h1, (dIfS (dNot (dB (dCall 2 F__law_all_right (dCons (dVar 3) (dCons (dVar 6) (dNil)))))) (dRet (dC (.bl false))) (dNext)) (En x0 r x2 (some X) x4 x5 (some P) x7 x8 x9 x10) h = .nx (En x0 r x2 (some X) x4 x5 (some P) x7 x8 x9 x10) h1 ∧ DrawOk r w m h1 := by
  obtain ⟨h1, e1, k1⟩ := right_ok (h := h) vX vP (by omega) (by omega)
  refine ⟨h1, ?_, draw_kp A k1⟩
  simp [e1]
def chB1 : SD := (dIfS (dB (dOp (fEq false) (dCall 2 F__law_take (dCons (dVar 1) (dCons (dC (.int 2)) (dNil)))) (dC (.int 0)))) (dAsg (dCall 2 F__law_bent (dCons (dVar 1) (dCons (dVar 7) (dNil)))) (gdName 7)) (dAsg (dCall 2 F__law_bent (dCons (dVar 1) (dCons (dVar 8) (dNil)))) (gdName 8)))
theorem change_ok {c n bX bP : Nat} (hc : 4 ≤ c) (hc2 : c ≤ 40) (hn : n ≤ 28) (vX : V c n X) (vP : V c n P) (wX : W X ≤ bX) (wP : W P ≤ bP) (A : DrawOk r w (m + 130) h) : ∃ X' P' h1, chB1 (En x0 r x2 x3 x4 x5 x6 (some X) (some P) x9 x10) h = .nx (En x0 r x2 x3 x4 x5 x6 (some X') (some P') x9 x10) h1 ∧ V (c + 1) (n + 2) X' ∧ V (c + 1) (n + 2) P' ∧ W X' ≤ 2 * bX + 1000 ∧ W P' ≤ 2 * bP + 1000 ∧ DrawOk r w m h1 := by
  obtain ⟨_, h1, e1, v, rfl, _, _, A1, f1⟩ := (take_sat (n := m + 129) A (s := 2) (by decide) (by decide)).ex
  have t : (dB (dOp (fEq false) (dCall 2 F__law_take (dCons (dVar 1) (dCons (dC (.int 2)) (dNil)))) (dC (.int 0)))) (En x0 r x2 x3 x4 x5 x6 (some X) (some P) x9 x10) h = .ok (v == 0) h1 := by simp [e1, eq0_int]
  unfold chB1
  rw [s_if, t, toS_ok]
  by_cases c0 : v = 0
  · rw [if_pos (by simpa using c0)]
    obtain ⟨X', h2, e2, vx, wx, A2, _⟩ := bent_ok (k := 30) (n := n) (m := m) (h := h1) hc hc2 (by omega) vX (by omega) (A1.mono (by omega))
    have e2' : F__law_bent [.ref r, X] h1 = .ok X' h2 := e2
    exact ⟨X', P, h2, by simp [e2'], vx, vP.mono (by omega) (by omega), by omega, by omega, A2⟩
  · rw [if_neg (by simpa using c0)]
    obtain ⟨P', h2, e2, vx, wx, A2, _⟩ := bent_ok (k := 30) (n := n) (m := m) (h := h1) hc hc2 (by omega) vP (by omega) (A1.mono (by omega))
    have e2' : F__law_bent [.ref r, P] h1 = .ok P' h2 := e2
    exact ⟨X, P', h2, by simp [e2'], vX.mono (by omega) (by omega), vx, by omega, by omega, A2⟩
theorem lp6_ok (vX : V 10 8 X) (vP : V 10 8 P) (wX : W X ≤ 16088) (wP : W P ≤ 3700) (A : DrawOk r w (m + 300) h) : ∃ X' P' y9 h1, lp_6 (En x0 r x2 x3 x4 x5 x6 (some X) (some P) x9 x10) h = .nx (En x0 r x2 x3 x4 x5 x6 (some X') (some P') y9 x10) h1 ∧ V 12 12 X' ∧ V 12 12 P' ∧ W X' + W P' ≤ 90000 ∧ DrawOk r w m h1 := by
  obtain ⟨_, h1, e1, v, rfl, v0, v1, A1, f1⟩ := (take_sat (n := m + 299) A (s := 2) (by decide) (by decide)).ex
  have rg1 : (dRng1 (dCons (dOp (fAdd false) (dC (.int 1)) (dCall 2 F__law_take (dCons (dVar 1) (dCons (dC (.int 2)) (dNil))))) (dNil))) (En x0 r x2 x3 x4 x5 x6 (some X) (some P) x9 x10) h = .ok ((rg (1 + v).toNat).map CM.D.int, none) h1 := by
    unfold dRng1
    simp [e1, addI]
    rw [if_pos ⟨by omega, by omega⟩, rg_D]
  have u6 : lp_6 = dFor (dRng1 (dCons (dOp (fAdd false) (dC (.int 1)) (dCall 2 F__law_take (dCons (dVar 1) (dCons (dC (.int 2)) (dNil))))) (dNil))) (gdName 9) chB1 := rfl
  rw [u6, s_for, rg1, toS_ok]
  simp only
  obtain ⟨X1, P1, h2, q1, vx1, vp1, wx1, wp1, A2⟩ := change_ok (m := m + 130) (h := h1) (x0 := x0) (r := r) (w := w) (x2 := x2) (x3 := x3) (x4 := x4) (x5 := x5) (x6 := x6) (x9 := some (.int 0)) (x10 := x10) (c := 10) (n := 8) (by omega) (by omega) (by omega) vX vP wX wP (A1.mono (by omega))
  have cases2 : v = 0 ∨ v = 1 := by omega
  rcases cases2 with rfl | rfl
  · have er : (rg (1 + (0 : Int)).toNat).map CM.D.int = [.int 0] := by rfl
    rw [er, forL_step (ρ1 := En x0 r x2 x3 x4 x5 x6 (some X) (some P) (some (.int 0)) x10) rfl q1]
    exact ⟨X1, P1, _, h2, rfl, vx1.mono (by omega) (by omega), vp1.mono (by omega) (by omega), by omega, A2.mono (by omega)⟩
  · have er : (rg (1 + (1 : Int)).toNat).map CM.D.int = [.int 0, .int 1] := by rfl
    obtain ⟨X2, P2, h3, q2, vx2, vp2, wx2, wp2, A3⟩ := change_ok (m := m) (h := h2) (x0 := x0) (r := r) (w := w) (x2 := x2) (x3 := x3) (x4 := x4) (x5 := x5) (x6 := x6) (x9 := some (.int 1)) (x10 := x10) (c := 11) (n := 10) (by omega) (by omega) (by omega) vx1 vp1 wx1 wp1 A2
    rw [er, forL_step (ρ1 := En x0 r x2 x3 x4 x5 x6 (some X) (some P) (some (.int 0)) x10) rfl q1, forL_step (ρ1 := En x0 r x2 x3 x4 x5 x6 (some X1) (some P1) (some (.int 1)) x10) rfl q2]
    exact ⟨X2, P2, _, h3, rfl, vx2, vp2, by omega, A3⟩
theorem lp8_ok {R0 : CM.D} (vX : V 12 12 X) (vP : V 12 12 P) (vR : V 12 20 R0) (l : W X + W P ≤ 90000) (A : DrawOk r w m h) : ∃ t h1, (dSeq lp_7 lp_8) (En x0 r x2 (some R0) x4 x5 x6 (some X) (some P) x9 x10) h = .nx (En x0 r x2 (some R0) x4 x5 x6 (some X) (some P) x9 (some (.str t))) h1 ∧ DrawOk r w m h1 := by
  obtain ⟨t, rt⟩ := rep_pair vX vP l
  have l2 : 2 ≤ sizeLine := le2
  have vX' : V 12 20 X := vX.mono (Nat.le_refl _) (by omega)
  have vP' : V 12 20 P := vP.mono (Nat.le_refl _) (by omega)
  obtain ⟨h1, e1, k1⟩ := right_ok (h := h) vX' vP' (by omega) (by omega)
  obtain ⟨h2, e2, k2⟩ := right_ok (h := h1) vR vP' (by omega) (by omega)
  refine ⟨t, h2, ?_, draw_kp (draw_kp A k1) k2⟩
  have q7 : lp_7 (En x0 r x2 (some R0) x4 x5 x6 (some X) (some P) x9 x10) h = .nx (En x0 r x2 (some R0) x4 x5 x6 (some X) (some P) x9 (some (.str t))) h := by
    unfold lp_7
    simp [l2, mkL, rt]
  rw [s_seq, q7, sbind_nx]
  unfold lp_8
  simp [e1, e2, l2, mkL, rt, ne_same]
end
def Rh (x0 : Option CM.D) (r : Nat) (ρ : DE) : Prop := ∃ x2 x3 x4 x5 x6 x7 x8 x9 x10, ρ = En x0 r x2 x3 x4 x5 x6 x7 x8 x9 x10
theorem turn_ok {r w m : Nat} {h : CH} {x0 x2 x3 x4 x5 x6 x7 x8 x9 x10 : Option CM.D} (A : DrawOk r w (m + 600) h) : ∃ ρ' h', lpAll (En x0 r x2 x3 x4 x5 x6 x7 x8 x9 x10) h = .nx ρ' h' ∧ Rh x0 r ρ' ∧ DrawOk r w m h' := by
  have l2 : 2 ≤ sizeLine := le2
  have l3 : 3 ≤ sizeLine := le3
  obtain ⟨_, h1, e1, rs, rfl, C, ⟨lo, hi⟩, A1, f1⟩ := (chain_sat (n := m + 500) (lo := 1) (hi := 8) (by decide) (by decide) (by decide) A).ex
  have n1 := C.ne
  have n8 := C.le
  have q0 : lp_0 (En x0 r x2 x3 x4 x5 x6 x7 x8 x9 x10) h = .nx (En x0 r x2 (some (.lst (rowsD rs))) x4 x5 x6 x7 x8 x9 x10) h1 := by
    unfold lp_0
    simp [e1]
  obtain ⟨_, h2, e2, p, rfl, s, A2, f2⟩ := (plan_sat (k := 9) (n := m + 480) (f := 0) (l := (rs.length : Int) - 1) (A1.mono (by omega)) (by omega) (by omega) (by omega) (by omega)).ex
  have e2' : F__law_plan [.ref r, .int 0, .int ((rs.length : Int) - 1)] h1 = .ok p.D h2 := e2
  have ln : ∀ h : CH, fLen [.lst (rowsD rs)] h = .ok (.int rs.length) h := fun h => ChD.len (.inl rfl)
  have q1 : lp_1 (En x0 r x2 (some (.lst (rowsD rs))) x4 x5 x6 x7 x8 x9 x10) h1 = .nx (En x0 r x2 (some (.lst (rowsD rs))) (some p.D) x5 x6 x7 x8 x9 x10) h2 := by
    unfold lp_1
    simp [ln, subI, e2']
  obtain ⟨vi, wr⟩ := rows_V C
  have lr : (rowsD rs).length ≤ 8 := by rw [List.length_map]; exact n8
  have vR : V 10 3 (.lst (rowsD rs)) := ⟨by omega, vi⟩
  have vT : V 10 3 (.tup (rowsD rs)) := ⟨by omega, vi⟩
  obtain ⟨np, enp, vp, wp⟩ := plan_V s (by omega) (by omega)
  have vP : V 10 8 p.D := vp.mono (Nat.le_refl _) (by omega)
  obtain ⟨h3, q2, A3⟩ := lp2_ok (X := .lst (rowsD rs)) (Y := .tup (rowsD rs)) (P := p.D) (h := h2) (x0 := x0) (x2 := x2) (x5 := x5) (x6 := x6) (x7 := x7) (x8 := x8) (x9 := x9) (x10 := x10) (vR.mono (by omega) (by omega)) (vT.mono (by omega) (by omega)) (fun h => rfl) (vP.mono (by omega) (by omega)) A2
  obtain ⟨_, h4, e4, ms, A4, f4⟩ := (pick_sat (n := m + 479) A3 (xs := .lst [.int 0, .int 1, .int ((rs.length : Int) - 1)]) (ds := [.int 0, .int 1, .int ((rs.length : Int) - 1)]) (.inl rfl) (by simp) (by simp)).ex
  rename_i sd
  have es : ∃ q : Int, sd = .int q ∧ 0 ≤ q ∧ q ≤ 8 := by
    simp only [List.mem_cons, List.not_mem_nil, or_false] at ms
    rcases ms with rfl | rfl | rfl
    · exact ⟨0, rfl, by omega, by omega⟩
    · exact ⟨1, rfl, by omega, by omega⟩
    · exact ⟨_, rfl, by omega, by omega⟩
  obtain ⟨q, rfl, qa, qb⟩ := es
  have q3 : lp_3 (En x0 r x2 (some (.lst (rowsD rs))) (some p.D) x5 x6 x7 x8 x9 x10) h3 = .nx (En x0 r x2 (some (.lst (rowsD rs))) (some p.D) (some (.int q)) x6 x7 x8 x9 x10) h4 := by
    unfold lp_3
    simp [ln, subI, l3, mkL, e4]
  obtain ⟨_, h5, e5, p1, rfl, s1, A5, f5⟩ := (plan_sat (k := 9) (n := m + 460) (f := 0) (l := q) (A4.mono (by omega)) (by omega) (by omega) (by omega) (by omega)).ex
  have e5' : F__law_plan [.ref r, .int 0, .int q] h4 = .ok p1.D h5 := e5
  obtain ⟨_, h6, e6, p2, rfl, s2, A6, f6⟩ := (plan_sat (k := 9) (n := m + 450) (f := q) (l := q + 2) (A5.mono (by omega)) (by omega) (by omega) (by omega) (by omega)).ex
  have e6' : F__law_plan [.ref r, .int q, .int (q + 2)] h5 = .ok p2.D h6 := e6
  obtain ⟨na, ena, va, _⟩ := plan_V s1 (by omega) (by omega)
  obtain ⟨nb, enb, vb, _⟩ := plan_V s2 (by omega) (by omega)
  have it : (dSeqI (dLst false (dCons (dCall 3 F__law_plan (dCons (dVar 1) (dCons (dC (.int 0)) (dCons (dVar 5) (dNil))))) (dCons (dCall 3 F__law_plan (dCons (dVar 1) (dCons (dVar 5) (dCons (dOp (fAdd false) (dVar 5) (dC (.int 2))) (dNil))))) (dNil))))) (En x0 r x2 (some (.lst (rowsD rs))) (some p.D) (some (.int q)) x6 x7 x8 x9 x10) h4 = .ok ([p1.D, p2.D], none) h6 := by
    simp [e5', addI, e6', l2, mkL, itemsD]
  obtain ⟨h7, b1, A7⟩ := near_ok (X := .lst (rowsD rs)) (P := p1.D) (h := h6) (x0 := x0) (x2 := x2) (x4 := some p.D) (x5 := some (.int q)) (x7 := x7) (x8 := x8) (x9 := x9) (x10 := x10) (vR.mono (by omega) (by omega)) (va.mono (by omega) (by omega)) A6
  obtain ⟨h8, b2, A8⟩ := near_ok (X := .lst (rowsD rs)) (P := p2.D) (h := h7) (x0 := x0) (x2 := x2) (x4 := some p.D) (x5 := some (.int q)) (x7 := x7) (x8 := x8) (x9 := x9) (x10 := x10) (vR.mono (by omega) (by omega)) (vb.mono (by omega) (by omega)) A7
  have q4 : lp_4 (En x0 r x2 (some (.lst (rowsD rs))) (some p.D) (some (.int q)) x6 x7 x8 x9 x10) h4 = .nx (En x0 r x2 (some (.lst (rowsD rs))) (some p.D) (some (.int q)) (some p2.D) x7 x8 x9 x10) h8 := by
    unfold lp_4
    rw [s_for, it, toS_ok]
    simp only
    rw [forL_step (ρ1 := En x0 r x2 (some (.lst (rowsD rs))) (some p.D) (some (.int q)) (some p1.D) x7 x8 x9 x10) rfl b1, forL_step (ρ1 := En x0 r x2 (some (.lst (rowsD rs))) (some p.D) (some (.int q)) (some p2.D) x7 x8 x9 x10) rfl b2]
    rfl
  have q5 : lp_5 (En x0 r x2 (some (.lst (rowsD rs))) (some p.D) (some (.int q)) (some p2.D) x7 x8 x9 x10) h8 = .nx (En x0 r x2 (some (.lst (rowsD rs))) (some p.D) (some (.int q)) (some p2.D) (some (.lst (rowsD rs))) (some p.D) x9 x10) h8 := by
    unfold lp_5
    simp
  obtain ⟨X', P', y9, h9, q6, vx, vp', wl, A9⟩ := lp6_ok (m := m) (X := .lst (rowsD rs)) (P := p.D) (h := h8) (x0 := x0) (x2 := x2) (x3 := some (.lst (rowsD rs))) (x4 := some p.D) (x5 := some (.int q)) (x6 := some p2.D) (x9 := x9) (x10 := x10) (vR.mono (Nat.le_refl _) (by omega)) vP (by rw [W_lst vi (by omega)]; exact wr) (by omega) (A8.mono (by omega))
  obtain ⟨t, h10, q7, A10⟩ := lp8_ok (X := X') (P := P') (R0 := .lst (rowsD rs)) (h := h9) (x0 := x0) (x2 := x2) (x4 := some p.D) (x5 := some (.int q)) (x6 := some p2.D) (x9 := y9) (x10 := x10) vx vp' (vR.mono (by omega) (by omega)) wl A9
  refine ⟨En x0 r x2 (some (.lst (rowsD rs))) (some p.D) (some (.int q)) (some p2.D) (some X') (some P') y9 (some (.str t)), h10, ?_, ⟨_, _, _, _, _, _, _, _, _, rfl⟩, A10⟩
  unfold lpAll
  rw [s_seq, q0, sbind_nx, s_seq, q1, sbind_nx, s_seq, q2, sbind_nx, s_seq, q3, sbind_nx, s_seq, q4, sbind_nx, s_seq, q5, sbind_nx, s_seq, q6, sbind_nx, q7]
theorem law_ok : LawF F_law := by
  intro ns hn
  obtain ⟨h1, e1, A1, n1, _⟩ := begun_ok (h := CH.emp) hn
  have e3 : ∀ h : CH, fLen [.scr ns] h = .ok (.int ns.length) h := fun _ => rfl
  have e4 : ∀ h : CH, fMin [.int ns.length, .int 16] h = .ok (.int (if (16 : Int) < ns.length then 16 else ns.length)) h := fun _ => rfl
  have bd : (if (16 : Int) < ns.length then 16 else (ns.length : Int)) ≤ 16 ∧ 0 ≤ (if (16 : Int) < ns.length then 16 else (ns.length : Int)) := by split <;> omega
  generalize hM : (if (16 : Int) < ns.length then 16 else (ns.length : Int)) = M at *
  have rgE : lawRng [some (.scr ns), some (.ref (CH.emp.nx + 1)), none, none, none, none, none, none, none, none, none] h1 = .ok ((rg (4 + M).toNat).map CM.D.int, none) h1 := by
    refine rngI (by omega) (by omega) ?_
    simp [e3, e4, fAdd]
  have ly : (rg (4 + M).toNat).length ≤ 20 := by rw [rg_len]; omega
  have L := forL_fold (tg := gdName 2) (u := lpAll) (enc := CM.D.int)
    (fun rest ρ hh => Rh (some (.scr ns)) (CH.emp.nx + 1) ρ ∧ DrawOk (CH.emp.nx + 1) CH.emp.nx (600 * rest.length) hh)
    (fun x rest ρ hh ⟨⟨x2, x3, x4, x5, x6, x7, x8, x9, x10, er⟩, A⟩ => by
      subst er
      obtain ⟨ρ', h', e, hr, A'⟩ := turn_ok (m := 600 * rest.length) (x0 := some (.scr ns)) (r := CH.emp.nx + 1) (w := CH.emp.nx) (x2 := some (.int x)) (x3 := x3) (x4 := x4) (x5 := x5) (x6 := x6) (x7 := x7) (x8 := x8) (x9 := x9) (x10 := x10) (A.mono (by simp only [List.length_cons]; omega))
      exact ⟨_, hh, ρ', h', rfl, e, hr, A'⟩)
    (xs := rg (4 + M).toNat) (ρ := [some (.scr ns), some (.ref (CH.emp.nx + 1)), none, none, none, none, none, none, none, none, none]) (h := h1) ⟨⟨_, _, _, _, _, _, _, _, _, rfl⟩, A1.mono (by omega)⟩
  obtain ⟨ρ', h', L, _⟩ := L
  refine ⟨h', ?_⟩
  show (u_law [some (.scr ns), none, none, none, none, none, none, none, none, none, none] CH.emp).res = _
  rw [law_u]
  have s1 : ∀ u : SD, (dSeq (dAsg (dCall 1 F__law_begun (dCons (dVar 0) (dNil))) (gdName 1)) u) [some (.scr ns), none, none, none, none, none, none, none, none, none, none] CH.emp = u [some (.scr ns), some (.ref (CH.emp.nx + 1)), none, none, none, none, none, none, none, none, none] h1 := fun u => by
    simp [e1]
  rw [s1, s_seq, s_for, rgE, toS_ok]
  simp only
  rw [L]
  rfl
set_option maxHeartbeats 0 in
theorem facts {w : World} {h : Heap} {K : PySem.W.Frag} {mg : Str → Option Value} {fa : Addr} (G : h.Ns mainGlobals mg) (hfa : mg "law" = some (.ref fa)) (s : SaysX specA w h K) (t : SaysX specB w h K) :
    ∃ (fd : FuncData) (CA : CAs) (cs : List (Addr × Addr)), (∀ p ∈ CA.T, ∃ c, (c, p.1) ∈ cs) ∧ (∀ p ∈ cs, h.get? p.2 = some { cls := .none, data := .fields #[] }) ∧ (∀ p ∈ cs, K.lookup p.2 = none) ∧ (∀ p ∈ cs, PySem.W.CodeHd h p.1 p.2) ∧ (∀ (s : Shared) (v : Value), BindsTo s fd ⟨[v], []⟩ [("_law_script", v)]) ∧ ∀ base : Heap, K.In base → base.Ns mainGlobals mg → SM base → (∀ p ∈ cs, LamX.TabB base mg p.1 p.2) → FnG PySem.Challenge.rw_whilemerged_k60_chains_and_plans_judged.prog w K mg base true 48 fa fd ["_law_script"] (spD K CA 1 F_law) := by
  have hc0 : (ck0 K).all id = true := ckF s.ck 0 rfl
  have hc1 : (ck1 K).all id = true := ckF s.ck 1 rfl
  have hc2 : (ck2 K).all id = true := ckF s.ck 2 rfl
  have hc3 : (ck3 K).all id = true := ckF s.ck 3 rfl
  have hc4 : (ck4 K).all id = true := ckF s.ck 4 rfl
  have hc5 : (ck5 K).all id = true := ckF t.ck 0 rfl
  have hc6 : (ck6 K).all id = true := ckF t.ck 1 rfl
  have hc7 : (ck7 K).all id = true := ckF t.ck 2 rfl
  have hc8 : (ck8 K).all id = true := ckF t.ck 3 rfl
  have hc9 : (ck9 K).all id = true := ckF t.ck 4 rfl
  refine' all_mk (l := PySem.Challenge.rw_whilemerged_k60_chains_and_plans_judged) s.kin G hfa ?ac0 ?ac1 ?ac2 ?ac3 ?ac4 ?ac5 ?ac6 ?ac7 ?a0 ?l0 ?c0 ?k0 ?a1 ?l1 ?c1 ?k1 ?a2 ?l2 ?c2 ?k2 ?a3 ?l3 ?c3 ?k3 ?a4 ?l4 ?c4 ?k4 ?a5 ?l5 ?c5 ?k5 ?a6 ?l6 ?c6 ?k6 ?a7 ?l7 ?c7 ?k7 ?a8 ?l8 ?c8 ?k8 ?a9 ?l9 ?c9 ?k9 ?a10 ?l10 ?c10 ?k10 ?a11 ?l11 ?c11 ?k11 ?a12 ?l12 ?c12 ?k12 ?a13 ?l13 ?c13 ?k13 ?a14 ?l14 ?c14 ?k14 ?a15 ?l15 ?c15 ?k15 ?a16 ?l16 ?c16 ?k16 ?a17 ?l17 ?c17 ?k17 ?a18 ?l18 ?c18 ?k18 ?a19 ?l19 ?c19 ?k19 ?a20 ?l20 ?c20 ?k20 ?a21 ?fn21 ?l21 ?c21 ?k21 ?a22 ?fn22 ?mk22 ?kc22 ?l22 ?c22 ?k22 ?a23 ?l23 ?c23 ?k23 ?a24 ?l24 ?c24 ?k24 ?a25 ?l25 ?c25 ?k25 ?a26 ?l26 ?c26 ?k26 ?a27 ?l27 ?c27 ?k27 ?tl27 ?tv27 ?td27 ?tn27 ?tt27 ?a28 ?l28 ?c28 ?k28 ?a29 ?l29 ?c29 ?k29 ?a30 ?l30 ?c30 ?k30 ?g_MOST_LAYERS ?g_KINDS ?h_KINDS ?z_abs ?z_int ?z_len ?z_tuple ?z_range ?z_isinstance ?z_bool ?z_list ?z_sorted ?z_set ?z_max ?z_str ?z_all ?z_enumerate ?z_ValueError ?z_min ?z_repr ?tu27 ?ag0 ?lg0 ?cg0 ?kg0 ?xm1 ?xm2 ?xm3 ?xm4 ?xm5 ?xm6 ?xm7 ?be1 ?be2 ?be3 ?be4 ?be5 ?be6 ?be7 ?xf_field ?xf_number ?xf_at ?xq5 ?xq6 ?bc0 ?bf0 ?bk
  case ac0 => exact (of_decide_eq_true (ckF hc0 0 (b := decide (PySem.W.nsIn K mainGlobals "Work" = some (some (.ref (v_C0 K))))) rfl))
  case ac1 => exact (of_decide_eq_true (ckF hc0 1 (b := decide (PySem.W.nsIn K mainGlobals "MergeError" = some (some (.ref (v_C1 K))))) rfl))
  case ac2 => exact (of_decide_eq_true (ckF hc0 2 (b := decide (PySem.W.nsIn K mainGlobals "BadDeed" = some (some (.ref (v_C2 K))))) rfl))
  case ac3 => exact (of_decide_eq_true (ckF hc0 3 (b := decide (PySem.W.nsIn K mainGlobals "BadNumber" = some (some (.ref (v_C3 K))))) rfl))
  case ac4 => exact (of_decide_eq_true (ckF hc0 4 (b := decide (PySem.W.nsIn K mainGlobals "BadBook" = some (some (.ref (v_C4 K))))) rfl))
  case ac5 => exact (of_decide_eq_true (ckF hc0 5 (b := decide (PySem.W.nsIn K mainGlobals "BadPlan" = some (some (.ref (v_C5 K))))) rfl))
  case ac6 => exact (of_decide_eq_true (ckF hc0 6 (b := decide (PySem.W.nsIn K mainGlobals "BadChain" = some (some (.ref (v_C6 K))))) rfl))
  case ac7 => exact (of_decide_eq_true (ckF hc0 7 (b := decide (PySem.W.nsIn K mainGlobals "BadText" = some (some (.ref (v_C7 K))))) rfl))
  case a0 => exact (of_decide_eq_true (ckF hc0 8 (b := decide (PySem.W.nsIn K mainGlobals "_law_begun" = some (some (.ref (v_f0 K))))) rfl))
  case l0 => exact (fnO_ok (name := "_law_begun") (qual := "_law_begun") (st := s__law_begun) (fnF s.fn 0 (a := fnO K (v_f0 K)) (b := fnE "_law_begun" "_law_begun" s__law_begun) rfl rfl))
  case c0 => exact (ckF hc0 9 (b := (PySem.W.codeIn K (v_cd0 K) "_law_begun" : Bool)) rfl)
  case k0 => exact (ckF hc0 10 (b := (PySem.W.keepIn K (.ref (v_f0 K)) : Bool)) rfl)
  case a1 => exact (of_decide_eq_true (ckF hc0 11 (b := decide (PySem.W.nsIn K mainGlobals "_law_mixed" = some (some (.ref (v_f1 K))))) rfl))
  case l1 => exact (fnO_ok (name := "_law_mixed") (qual := "_law_mixed") (st := s__law_mixed) (fnF s.fn 1 (a := fnO K (v_f1 K)) (b := fnE "_law_mixed" "_law_mixed" s__law_mixed) rfl rfl))
  case c1 => exact (ckF hc0 12 (b := (PySem.W.codeIn K (v_cd1 K) "_law_mixed" : Bool)) rfl)
  case k1 => exact (ckF hc0 13 (b := (PySem.W.keepIn K (.ref (v_f1 K)) : Bool)) rfl)
  case a2 => exact (of_decide_eq_true (ckF hc0 14 (b := decide (PySem.W.nsIn K mainGlobals "_law_take" = some (some (.ref (v_f2 K))))) rfl))
  case l2 => exact (fnO_ok (name := "_law_take") (qual := "_law_take") (st := s__law_take) (fnF s.fn 2 (a := fnO K (v_f2 K)) (b := fnE "_law_take" "_law_take" s__law_take) rfl rfl))
  case c2 => exact (ckF hc0 15 (b := (PySem.W.codeIn K (v_cd2 K) "_law_take" : Bool)) rfl)
  case k2 => exact (ckF hc1 0 (b := (PySem.W.keepIn K (.ref (v_f2 K)) : Bool)) rfl)
  case a3 => exact (of_decide_eq_true (ckF hc1 1 (b := decide (PySem.W.nsIn K mainGlobals "_law_pick" = some (some (.ref (v_f3 K))))) rfl))
  case l3 => exact (fnO_ok (name := "_law_pick") (qual := "_law_pick") (st := s__law_pick) (fnF s.fn 3 (a := fnO K (v_f3 K)) (b := fnE "_law_pick" "_law_pick" s__law_pick) rfl rfl))
  case c3 => exact (ckF hc1 2 (b := (PySem.W.codeIn K (v_cd3 K) "_law_pick" : Bool)) rfl)
  case k3 => exact (ckF hc1 3 (b := (PySem.W.keepIn K (.ref (v_f3 K)) : Bool)) rfl)
  case a4 => exact (of_decide_eq_true (ckF hc1 4 (b := decide (PySem.W.nsIn K mainGlobals "_law_owned" = some (some (.ref (v_f4 K))))) rfl))
  case l4 => exact (fnO_ok (name := "_law_owned") (qual := "_law_owned") (st := s__law_owned) (fnF s.fn 4 (a := fnO K (v_f4 K)) (b := fnE "_law_owned" "_law_owned" s__law_owned) rfl rfl))
  case c4 => exact (ckF hc1 5 (b := (PySem.W.codeIn K (v_cd4 K) "_law_owned" : Bool)) rfl)
  case k4 => exact (ckF hc1 6 (b := (PySem.W.keepIn K (.ref (v_f4 K)) : Bool)) rfl)
  case a5 => exact (of_decide_eq_true (ckF hc1 7 (b := decide (PySem.W.nsIn K mainGlobals "_law_chain" = some (some (.ref (v_f5 K))))) rfl))
  case l5 => exact (fnO_ok (name := "_law_chain") (qual := "_law_chain") (st := s__law_chain) (fnF s.fn 5 (a := fnO K (v_f5 K)) (b := fnE "_law_chain" "_law_chain" s__law_chain) rfl rfl))
  case c5 => exact (ckF hc1 8 (b := (PySem.W.codeIn K (v_cd5 K) "_law_chain" : Bool)) rfl)
  case k5 => exact (ckF hc1 9 (b := (PySem.W.keepIn K (.ref (v_f5 K)) : Bool)) rfl)
  case a6 => exact (of_decide_eq_true (ckF hc1 10 (b := decide (PySem.W.nsIn K mainGlobals "_law_plan" = some (some (.ref (v_f6 K))))) rfl))
  case l6 => exact (fnO_ok (name := "_law_plan") (qual := "_law_plan") (st := s__law_plan) (fnF s.fn 6 (a := fnO K (v_f6 K)) (b := fnE "_law_plan" "_law_plan" s__law_plan) rfl rfl))
  case c6 => exact (ckF hc1 11 (b := (PySem.W.codeIn K (v_cd6 K) "_law_plan" : Bool)) rfl)
  case k6 => exact (ckF hc1 12 (b := (PySem.W.keepIn K (.ref (v_f6 K)) : Bool)) rfl)
  case a7 => exact (of_decide_eq_true (ckF hc1 13 (b := decide (PySem.W.nsIn K mainGlobals "_law_is_cell" = some (some (.ref (v_f7 K))))) rfl))
  case l7 => exact (fnO_ok (name := "_law_is_cell") (qual := "_law_is_cell") (st := s__law_is_cell) (fnF s.fn 7 (a := fnO K (v_f7 K)) (b := fnE "_law_is_cell" "_law_is_cell" s__law_is_cell) rfl rfl))
  case c7 => exact (ckF hc1 14 (b := (PySem.W.codeIn K (v_cd7 K) "_law_is_cell" : Bool)) rfl)
  case k7 => exact (ckF hc1 15 (b := (PySem.W.keepIn K (.ref (v_f7 K)) : Bool)) rfl)
  case a8 => exact (of_decide_eq_true (ckF hc2 0 (b := decide (PySem.W.nsIn K mainGlobals "_law_is_chain" = some (some (.ref (v_f8 K))))) rfl))
  case l8 => exact (fnO_ok (name := "_law_is_chain") (qual := "_law_is_chain") (st := s__law_is_chain) (fnF s.fn 8 (a := fnO K (v_f8 K)) (b := fnE "_law_is_chain" "_law_is_chain" s__law_is_chain) rfl rfl))
  case c8 => exact (ckF hc2 1 (b := (PySem.W.codeIn K (v_cd8 K) "_law_is_chain" : Bool)) rfl)
  case k8 => exact (ckF hc2 2 (b := (PySem.W.keepIn K (.ref (v_f8 K)) : Bool)) rfl)
  case a9 => exact (of_decide_eq_true (ckF hc2 3 (b := decide (PySem.W.nsIn K mainGlobals "_law_is_great" = some (some (.ref (v_f9 K))))) rfl))
  case l9 => exact (fnO_ok (name := "_law_is_great") (qual := "_law_is_great") (st := s__law_is_great) (fnF s.fn 9 (a := fnO K (v_f9 K)) (b := fnE "_law_is_great" "_law_is_great" s__law_is_great) rfl rfl))
  case c9 => exact (ckF hc2 4 (b := (PySem.W.codeIn K (v_cd9 K) "_law_is_great" : Bool)) rfl)
  case k9 => exact (ckF hc2 5 (b := (PySem.W.keepIn K (.ref (v_f9 K)) : Bool)) rfl)
  case a10 => exact (of_decide_eq_true (ckF hc2 6 (b := decide (PySem.W.nsIn K mainGlobals "_law_span" = some (some (.ref (v_f10 K))))) rfl))
  case l10 => exact (fnO_ok (name := "_law_span") (qual := "_law_span") (st := s__law_span) (fnF s.fn 10 (a := fnO K (v_f10 K)) (b := fnE "_law_span" "_law_span" s__law_span) rfl rfl))
  case c10 => exact (ckF hc2 7 (b := (PySem.W.codeIn K (v_cd10 K) "_law_span" : Bool)) rfl)
  case k10 => exact (ckF hc2 8 (b := (PySem.W.keepIn K (.ref (v_f10 K)) : Bool)) rfl)
  case a11 => exact (of_decide_eq_true (ckF hc2 9 (b := decide (PySem.W.nsIn K mainGlobals "is_cell" = some (some (.ref (v_f11 K))))) rfl))
  case l11 => exact (fnO_ok (name := "is_cell") (qual := "is_cell") (st := s_is_cell) (fnF s.fn 11 (a := fnO K (v_f11 K)) (b := fnE "is_cell" "is_cell" s_is_cell) rfl rfl))
  case c11 => exact (ckF hc2 10 (b := (PySem.W.codeIn K (v_cd11 K) "is_cell" : Bool)) rfl)
  case k11 => exact (ckF hc2 11 (b := (PySem.W.keepIn K (.ref (v_f11 K)) : Bool)) rfl)
  case a12 => exact (of_decide_eq_true (ckF hc2 12 (b := decide (PySem.W.nsIn K mainGlobals "is_owned" = some (some (.ref (v_f12 K))))) rfl))
  case l12 => exact (fnO_ok (name := "is_owned") (qual := "is_owned") (st := s_is_owned) (fnF s.fn 12 (a := fnO K (v_f12 K)) (b := fnE "is_owned" "is_owned" s_is_owned) rfl rfl))
  case c12 => exact (ckF hc2 13 (b := (PySem.W.codeIn K (v_cd12 K) "is_owned" : Bool)) rfl)
  case k12 => exact (ckF hc2 14 (b := (PySem.W.keepIn K (.ref (v_f12 K)) : Bool)) rfl)
  case a13 => exact (of_decide_eq_true (ckF hc2 15 (b := decide (PySem.W.nsIn K mainGlobals "need_chain" = some (some (.ref (v_f13 K))))) rfl))
  case l13 => exact (fnO_ok (name := "need_chain") (qual := "need_chain") (st := s_need_chain) (fnF s.fn 13 (a := fnO K (v_f13 K)) (b := fnE "need_chain" "need_chain" s_need_chain) rfl rfl))
  case c13 => exact (ckF hc3 0 (b := (PySem.W.codeIn K (v_cd13 K) "need_chain" : Bool)) rfl)
  case k13 => exact (ckF hc3 1 (b := (PySem.W.keepIn K (.ref (v_f13 K)) : Bool)) rfl)
  case a14 => exact (of_decide_eq_true (ckF hc3 2 (b := decide (PySem.W.nsIn K mainGlobals "span_of" = some (some (.ref (v_f14 K))))) rfl))
  case l14 => exact (fnO_ok (name := "span_of") (qual := "span_of") (st := s_span_of) (fnF s.fn 14 (a := fnO K (v_f14 K)) (b := fnE "span_of" "span_of" s_span_of) rfl rfl))
  case c14 => exact (ckF hc3 3 (b := (PySem.W.codeIn K (v_cd14 K) "span_of" : Bool)) rfl)
  case k14 => exact (ckF hc3 4 (b := (PySem.W.keepIn K (.ref (v_f14 K)) : Bool)) rfl)
  case a15 => exact (of_decide_eq_true (ckF hc3 5 (b := decide (PySem.W.nsIn K mainGlobals "is_plan" = some (some (.ref (v_f15 K))))) rfl))
  case l15 => exact (fnO_ok (name := "is_plan") (qual := "is_plan") (st := s_is_plan) (fnF s.fn 15 (a := fnO K (v_f15 K)) (b := fnE "is_plan" "is_plan" s_is_plan) rfl rfl))
  case c15 => exact (ckF hc3 6 (b := (PySem.W.codeIn K (v_cd15 K) "is_plan" : Bool)) rfl)
  case k15 => exact (ckF hc3 7 (b := (PySem.W.keepIn K (.ref (v_f15 K)) : Bool)) rfl)
  case a16 => exact (of_decide_eq_true (ckF hc3 8 (b := decide (PySem.W.nsIn K mainGlobals "need_plan" = some (some (.ref (v_f16 K))))) rfl))
  case l16 => exact (fnO_ok (name := "need_plan") (qual := "need_plan") (st := s_need_plan) (fnF s.fn 16 (a := fnO K (v_f16 K)) (b := fnE "need_plan" "need_plan" s_need_plan) rfl rfl))
  case c16 => exact (ckF hc3 9 (b := (PySem.W.codeIn K (v_cd16 K) "need_plan" : Bool)) rfl)
  case k16 => exact (ckF hc3 10 (b := (PySem.W.keepIn K (.ref (v_f16 K)) : Bool)) rfl)
  case a17 => exact (of_decide_eq_true (ckF hc3 11 (b := decide (PySem.W.nsIn K mainGlobals "copied" = some (some (.ref (v_f17 K))))) rfl))
  case l17 => exact (fnO_ok (name := "copied") (qual := "copied") (st := s_copied) (fnF s.fn 17 (a := fnO K (v_f17 K)) (b := fnE "copied" "copied" s_copied) rfl rfl))
  case c17 => exact (ckF hc3 12 (b := (PySem.W.codeIn K (v_cd17 K) "copied" : Bool)) rfl)
  case k17 => exact (ckF hc3 13 (b := (PySem.W.keepIn K (.ref (v_f17 K)) : Bool)) rfl)
  case a18 => exact (of_decide_eq_true (ckF hc3 14 (b := decide (PySem.W.nsIn K mainGlobals "owned_by" = some (some (.ref (v_f18 K))))) rfl))
  case l18 => exact (fnO_ok (name := "owned_by") (qual := "owned_by") (st := s_owned_by) (fnF s.fn 18 (a := fnO K (v_f18 K)) (b := fnE "owned_by" "owned_by" s_owned_by) rfl rfl))
  case c18 => exact (ckF hc3 15 (b := (PySem.W.codeIn K (v_cd18 K) "owned_by" : Bool)) rfl)
  case k18 => exact (ckF hc4 0 (b := (PySem.W.keepIn K (.ref (v_f18 K)) : Bool)) rfl)
  case a19 => exact (of_decide_eq_true (ckF hc4 1 (b := decide (PySem.W.nsIn K mainGlobals "cost_of" = some (some (.ref (v_f19 K))))) rfl))
  case l19 => exact (fnO_ok (name := "cost_of") (qual := "cost_of") (st := s_cost_of) (fnF s.fn 19 (a := fnO K (v_f19 K)) (b := fnE "cost_of" "cost_of" s_cost_of) rfl rfl))
  case c19 => exact (ckF hc4 2 (b := (PySem.W.codeIn K (v_cd19 K) "cost_of" : Bool)) rfl)
  case k19 => exact (ckF hc4 3 (b := (PySem.W.keepIn K (.ref (v_f19 K)) : Bool)) rfl)
  case a20 => exact (of_decide_eq_true (ckF hc4 4 (b := decide (PySem.W.nsIn K mainGlobals "cost" = some (some (.ref (v_f20 K))))) rfl))
  case l20 => exact (fnO_ok (name := "cost") (qual := "cost") (st := s_cost) (fnF s.fn 20 (a := fnO K (v_f20 K)) (b := fnE "cost" "cost" s_cost) rfl rfl))
  case c20 => exact (ckF hc4 5 (b := (PySem.W.codeIn K (v_cd20 K) "cost" : Bool)) rfl)
  case k20 => exact (ckF hc4 6 (b := (PySem.W.keepIn K (.ref (v_f20 K)) : Bool)) rfl)
  case a21 => exact (of_decide_eq_true (ckF hc4 7 (b := decide (PySem.W.findIn K (.ref (v_C0 K)) "merged" = some (some (.ref (v_f21 K))))) rfl))
  case fn21 => exact (ckF hc4 8 (b := (PySem.W.isFn K (.ref (v_f21 K)) : Bool)) rfl)
  case l21 => exact (fnO_ok (name := "merged") (qual := "Work.merged") (st := s_Work_merged) (fnF s.fn 21 (a := fnO K (v_f21 K)) (b := fnE "merged" "Work.merged" s_Work_merged) rfl rfl))
  case c21 => exact (ckF hc4 9 (b := (PySem.W.codeIn K (v_cd21 K) "Work.merged" : Bool)) rfl)
  case k21 => exact (ckF hc4 10 (b := (PySem.W.keepIn K (.ref (v_f21 K)) : Bool)) rfl)
  case a22 => exact (of_decide_eq_true (ckF hc4 11 (b := decide (PySem.W.findIn K (.ref (v_C0 K)) "__init__" = some (some (.ref (v_f22 K))))) rfl))
  case fn22 => exact (ckF hc4 12 (b := (PySem.W.isFn K (.ref (v_f22 K)) : Bool)) rfl)
  case mk22 => exact (ckF hc4 13 (b := (PySem.W.makesIn K (v_C0 K) : Bool)) rfl)
  case kc22 => exact (ckF hc4 14 (b := (PySem.W.keepIn K (.ref (v_C0 K)) : Bool)) rfl)
  case l22 => exact (fnO_ok (name := "__init__") (qual := "Work.__init__") (st := s_Work_init) (fnF s.fn 22 (a := fnO K (v_f22 K)) (b := fnE "__init__" "Work.__init__" s_Work_init) rfl rfl))
  case c22 => exact (ckF hc4 15 (b := (PySem.W.codeIn K (v_cd22 K) "Work.__init__" : Bool)) rfl)
  case k22 => exact (ckF hc5 0 (b := (PySem.W.keepIn K (.ref (v_f22 K)) : Bool)) rfl)
  case a23 => exact (of_decide_eq_true (ckF hc5 1 (b := decide (PySem.W.nsIn K mainGlobals "cells_of" = some (some (.ref (v_f23 K))))) rfl))
  case l23 => exact (fnO_ok (name := "cells_of") (qual := "cells_of") (st := s_cells_of) (fnF s.fn 23 (a := fnO K (v_f23 K)) (b := fnE "cells_of" "cells_of" s_cells_of) rfl rfl))
  case c23 => exact (ckF hc5 2 (b := (PySem.W.codeIn K (v_cd23 K) "cells_of" : Bool)) rfl)
  case k23 => exact (ckF hc5 3 (b := (PySem.W.keepIn K (.ref (v_f23 K)) : Bool)) rfl)
  case a24 => exact (of_decide_eq_true (ckF hc5 4 (b := decide (PySem.W.nsIn K mainGlobals "deeds_for" = some (some (.ref (v_f24 K))))) rfl))
  case l24 => exact (fnO_ok (name := "deeds_for") (qual := "deeds_for") (st := s_deeds_for) (fnF s.fn 24 (a := fnO K (v_f24 K)) (b := fnE "deeds_for" "deeds_for" s_deeds_for) rfl rfl))
  case c24 => exact (ckF hc5 5 (b := (PySem.W.codeIn K (v_cd24 K) "deeds_for" : Bool)) rfl)
  case k24 => exact (ckF hc5 6 (b := (PySem.W.keepIn K (.ref (v_f24 K)) : Bool)) rfl)
  case a25 => exact (of_decide_eq_true (ckF hc5 7 (b := decide (PySem.W.nsIn K mainGlobals "_law_refusal" = some (some (.ref (v_f25 K))))) rfl))
  case l25 => exact (fnO_ok (name := "_law_refusal") (qual := "_law_refusal") (st := s__law_refusal) (fnF s.fn 25 (a := fnO K (v_f25 K)) (b := fnE "_law_refusal" "_law_refusal" s__law_refusal) rfl rfl))
  case c25 => exact (ckF hc5 8 (b := (PySem.W.codeIn K (v_cd25 K) "_law_refusal" : Bool)) rfl)
  case k25 => exact (ckF hc5 9 (b := (PySem.W.keepIn K (.ref (v_f25 K)) : Bool)) rfl)
  case a26 => exact (of_decide_eq_true (ckF hc5 10 (b := decide (PySem.W.nsIn K mainGlobals "cheapest" = some (some (.ref (v_f26 K))))) rfl))
  case l26 => exact (fnO_ok (name := "cheapest") (qual := "cheapest") (st := s_cheapest) (fnF s.fn 26 (a := fnO K (v_f26 K)) (b := fnE "cheapest" "cheapest" s_cheapest) rfl rfl))
  case c26 => exact (ckF hc5 11 (b := (PySem.W.codeIn K (v_cd26 K) "cheapest" : Bool)) rfl)
  case k26 => exact (ckF hc5 12 (b := (PySem.W.keepIn K (.ref (v_f26 K)) : Bool)) rfl)
  case a27 => exact (of_decide_eq_true (ckF hc5 13 (b := decide (PySem.W.nsIn K mainGlobals "_law_all_right" = some (some (.ref (v_f27 K))))) rfl))
  case l27 => exact (by have z := (fnO_ok (name := "_law_all_right") (qual := "_law_all_right") (st := s__law_all_right) (fnF s.fn 27 (a := fnO K (v_f27 K)) (b := fnE "_law_all_right" "_law_all_right" s__law_all_right) rfl rfl)); rw [of_decide_eq_true (ckF hc5 14 (b := decide ((fdD K (v_f27 K)).code = .ref (v_ca27 K))) rfl)] at z; exact z)
  case c27 => exact (ckF hc5 15 (b := (PySem.W.codeIn K (.ref (v_ca27 K)) "_law_all_right" : Bool)) rfl)
  case k27 => exact (ckF hc6 0 (b := (PySem.W.keepIn K (.ref (v_f27 K)) : Bool)) rfl)
  case tl27 => exact (fld_ok (ckF hc6 1 (b := decide (kndD K (v_ca27 K) = 2)) rfl))
  case tv27 => exact (of_decide_eq_true (ckF hc6 2 (b := decide ((v_vs27 K)[11]? = some (.ref (v_P27 K)))) rfl))
  case td27 => exact (ckF hc6 3 (b := (PySem.W.codeHdIn K (v_ca27 K) (v_P27 K) : Bool)) rfl)
  case tn27 => exact (non_ok (ckF hc6 4 (b := (K.lookup (v_P27 K)).isNone) rfl))
  case tt27 => exact (t.tb _ (List.Mem.head _))
  case a28 => exact (of_decide_eq_true (ckF hc6 5 (b := decide (PySem.W.nsIn K mainGlobals "_law_odd" = some (some (.ref (v_f28 K))))) rfl))
  case l28 => exact (fnO_ok (name := "_law_odd") (qual := "_law_odd") (st := s__law_odd) (fnF s.fn 28 (a := fnO K (v_f28 K)) (b := fnE "_law_odd" "_law_odd" s__law_odd) rfl rfl))
  case c28 => exact (ckF hc6 6 (b := (PySem.W.codeIn K (v_cd28 K) "_law_odd" : Bool)) rfl)
  case k28 => exact (ckF hc6 7 (b := (PySem.W.keepIn K (.ref (v_f28 K)) : Bool)) rfl)
  case a29 => exact (of_decide_eq_true (ckF hc6 8 (b := decide (PySem.W.nsIn K mainGlobals "_law_bent" = some (some (.ref (v_f29 K))))) rfl))
  case l29 => exact (fnO_ok (name := "_law_bent") (qual := "_law_bent") (st := s__law_bent) (fnF s.fn 29 (a := fnO K (v_f29 K)) (b := fnE "_law_bent" "_law_bent" s__law_bent) rfl rfl))
  case c29 => exact (ckF hc6 9 (b := (PySem.W.codeIn K (v_cd29 K) "_law_bent" : Bool)) rfl)
  case k29 => exact (ckF hc6 10 (b := (PySem.W.keepIn K (.ref (v_f29 K)) : Bool)) rfl)
  case a30 => exact (of_decide_eq_true (ckF hc6 11 (b := decide (PySem.W.nsIn K mainGlobals "law" = some (some (.ref (v_f30 K))))) rfl))
  case l30 => exact (fnO_ok (name := "law") (qual := "law") (st := s_law) (fnF s.fn 30 (a := fnO K (v_f30 K)) (b := fnE "law" "law" s_law) rfl rfl))
  case c30 => exact (ckF hc6 12 (b := (PySem.W.codeIn K (v_cd30 K) "law" : Bool)) rfl)
  case k30 => exact (ckF hc6 13 (b := (PySem.W.keepIn K (.ref (v_f30 K)) : Bool)) rfl)
  case g_MOST_LAYERS => exact (of_decide_eq_true (ckF hc6 14 (b := decide (PySem.W.nsIn K mainGlobals "MOST_LAYERS" = some (some (.int 8 (v_t_MOST_LAYERS K))))) rfl))
  case g_KINDS => exact (of_decide_eq_true (ckF hc6 15 (b := decide (PySem.W.nsIn K mainGlobals "KINDS" = some (some (.ref (v_p_KINDS K))))) rfl))
  case h_KINDS => exact (tup_ok (ckF hc7 0 (b := decide (kndD K (v_p_KINDS K) = 3)) rfl) (ckF hc7 1 (b := decide ((objD K (v_p_KINDS K)).cls = .type "tuple")) rfl) (ckF hc7 2 (b := decide ((seqD K (v_p_KINDS K)).toList = [.str "down" (v_t_KINDS0 K), .str "up" (v_t_KINDS1 K)])) rfl))
  case z_abs => exact (of_decide_eq_true (ckF hc7 3 (b := decide (PySem.W.nsIn K mainGlobals "abs" = some none)) rfl))
  case z_int => exact (of_decide_eq_true (ckF hc7 4 (b := decide (PySem.W.nsIn K mainGlobals "int" = some none)) rfl))
  case z_len => exact (of_decide_eq_true (ckF hc7 5 (b := decide (PySem.W.nsIn K mainGlobals "len" = some none)) rfl))
  case z_tuple => exact (of_decide_eq_true (ckF hc7 6 (b := decide (PySem.W.nsIn K mainGlobals "tuple" = some none)) rfl))
  case z_range => exact (of_decide_eq_true (ckF hc7 7 (b := decide (PySem.W.nsIn K mainGlobals "range" = some none)) rfl))
  case z_isinstance => exact (of_decide_eq_true (ckF hc7 8 (b := decide (PySem.W.nsIn K mainGlobals "isinstance" = some none)) rfl))
  case z_bool => exact (of_decide_eq_true (ckF hc7 9 (b := decide (PySem.W.nsIn K mainGlobals "bool" = some none)) rfl))
  case z_list => exact (of_decide_eq_true (ckF hc7 10 (b := decide (PySem.W.nsIn K mainGlobals "list" = some none)) rfl))
  case z_sorted => exact (of_decide_eq_true (ckF hc7 11 (b := decide (PySem.W.nsIn K mainGlobals "sorted" = some none)) rfl))
  case z_set => exact (of_decide_eq_true (ckF hc7 12 (b := decide (PySem.W.nsIn K mainGlobals "set" = some none)) rfl))
  case z_max => exact (of_decide_eq_true (ckF hc7 13 (b := decide (PySem.W.nsIn K mainGlobals "max" = some none)) rfl))
  case z_str => exact (of_decide_eq_true (ckF hc7 14 (b := decide (PySem.W.nsIn K mainGlobals "str" = some none)) rfl))
  case z_all => exact (of_decide_eq_true (ckF hc7 15 (b := decide (PySem.W.nsIn K mainGlobals "all" = some none)) rfl))
  case z_enumerate => exact (of_decide_eq_true (ckF hc8 0 (b := decide (PySem.W.nsIn K mainGlobals "enumerate" = some none)) rfl))
  case z_ValueError => exact (of_decide_eq_true (ckF hc8 1 (b := decide (PySem.W.nsIn K mainGlobals "ValueError" = some none)) rfl))
  case z_min => exact (of_decide_eq_true (ckF hc8 2 (b := decide (PySem.W.nsIn K mainGlobals "min" = some none)) rfl))
  case z_repr => exact (of_decide_eq_true (ckF hc8 3 (b := decide (PySem.W.nsIn K mainGlobals "repr" = some none)) rfl))
  case tu27 => exact (ckF hc8 4 (b := ((([((v_P27 K), ("_law_all_right" : Str) ++ (".<locals>." : Str) ++ ("<lambda>" : Str))] : List (Addr × Str)).all fun p => decide (p.1 = (v_P27 K) → p.2 = ("_law_all_right" : Str) ++ (".<locals>." : Str) ++ ("<lambda>" : Str))) : Bool)) rfl)
  case ag0 => exact (of_decide_eq_true (ckF hc8 5 (b := decide (PySem.W.nsIn K mainGlobals "_law_caught" = some (some (.ref (v_fg0 K))))) rfl))
  case lg0 => exact (fnO_ok (name := "_law_caught") (qual := "_law_caught") (st := s__law_caught) (fnF s.fn 31 (a := fnO K (v_fg0 K)) (b := fnE "_law_caught" "_law_caught" s__law_caught) rfl rfl))
  case cg0 => exact (ckF hc8 6 (b := (PySem.W.codeIn K (v_cdg0 K) "_law_caught" : Bool)) rfl)
  case kg0 => exact (ckF hc8 7 (b := (PySem.W.keepIn K (.ref (v_fg0 K)) : Bool)) rfl)
  case xm1 => exact (of_decide_eq_true (ckF hc8 8 (b := decide (PySem.W.exmOne K (.ref (v_C1 K)) (.ref (v_C1 K)) = some true)) rfl))
  case xm2 => exact (of_decide_eq_true (ckF hc8 9 (b := decide (PySem.W.exmOne K (.ref (v_C2 K)) (.ref (v_C1 K)) = some true)) rfl))
  case xm3 => exact (of_decide_eq_true (ckF hc8 10 (b := decide (PySem.W.exmOne K (.ref (v_C3 K)) (.ref (v_C1 K)) = some true)) rfl))
  case xm4 => exact (of_decide_eq_true (ckF hc8 11 (b := decide (PySem.W.exmOne K (.ref (v_C4 K)) (.ref (v_C1 K)) = some true)) rfl))
  case xm5 => exact (of_decide_eq_true (ckF hc8 12 (b := decide (PySem.W.exmOne K (.ref (v_C5 K)) (.ref (v_C1 K)) = some true)) rfl))
  case xm6 => exact (of_decide_eq_true (ckF hc8 13 (b := decide (PySem.W.exmOne K (.ref (v_C6 K)) (.ref (v_C1 K)) = some true)) rfl))
  case xm7 => exact (of_decide_eq_true (ckF hc8 14 (b := decide (PySem.W.exmOne K (.ref (v_C7 K)) (.ref (v_C1 K)) = some true)) rfl))
  case be1 => exact (ckF hc8 15 (b := (excB K (v_C1 K) : Bool)) rfl)
  case be2 => exact (ckF hc9 0 (b := (excB K (v_C2 K) : Bool)) rfl)
  case be3 => exact (ckF hc9 1 (b := (excB K (v_C3 K) : Bool)) rfl)
  case be4 => exact (ckF hc9 2 (b := (excB K (v_C4 K) : Bool)) rfl)
  case be5 => exact (ckF hc9 3 (b := (excB K (v_C5 K) : Bool)) rfl)
  case be6 => exact (ckF hc9 4 (b := (excB K (v_C6 K) : Bool)) rfl)
  case be7 => exact (ckF hc9 5 (b := (excB K (v_C7 K) : Bool)) rfl)
  case xf_field => exact (ckF hc9 6 (b := (([4].all fun c => decide (PySem.W.findIn K (.ref ((⟨fun n => [(v_C0 K), (v_C1 K), (v_C2 K), (v_C3 K), (v_C4 K), (v_C5 K), (v_C6 K), (v_C7 K)].getD n 0, [((v_P27 K), ("_law_all_right" : Str) ++ (".<locals>." : Str) ++ ("<lambda>" : Str))], w⟩ : CAs) c)) "field" = some none)) : Bool)) rfl)
  case xf_number => exact (ckF hc9 7 (b := (([3].all fun c => decide (PySem.W.findIn K (.ref ((⟨fun n => [(v_C0 K), (v_C1 K), (v_C2 K), (v_C3 K), (v_C4 K), (v_C5 K), (v_C6 K), (v_C7 K)].getD n 0, [((v_P27 K), ("_law_all_right" : Str) ++ (".<locals>." : Str) ++ ("<lambda>" : Str))], w⟩ : CAs) c)) "number" = some none)) : Bool)) rfl)
  case xf_at => exact (ckF hc9 8 (b := (([2].all fun c => decide (PySem.W.findIn K (.ref ((⟨fun n => [(v_C0 K), (v_C1 K), (v_C2 K), (v_C3 K), (v_C4 K), (v_C5 K), (v_C6 K), (v_C7 K)].getD n 0, [((v_P27 K), ("_law_all_right" : Str) ++ (".<locals>." : Str) ++ ("<lambda>" : Str))], w⟩ : CAs) c)) "at" = some none)) : Bool)) rfl)
  case xq5 => exact (ckF hc9 9 (b := (PySem.W.excIn K (v_C5 K) veBm "ValueError.__new__" : Bool)) rfl)
  case xq6 => exact (ckF hc9 10 (b := (PySem.W.excIn K (v_C6 K) veBm "ValueError.__new__" : Bool)) rfl)
  case bc0 => exact (ckF hc9 11 (b := (clsB K (v_C0 K) : Bool)) rfl)
  case bf0 => exact (ckF hc9 12 (b := (noB K (v_C0 K) ["line", "cells_there", "begun_jobs"] : Bool)) rfl)
  case bk => exact (ckF hc9 13 (b := (ktChk K (⟨fun n => [(v_C0 K), (v_C1 K), (v_C2 K), (v_C3 K), (v_C4 K), (v_C5 K), (v_C6 K), (v_C7 K)].getD n 0, [((v_P27 K), ("_law_all_right" : Str) ++ (".<locals>." : Str) ++ ("<lambda>" : Str))], w⟩ : CAs) [[.o 0], [.o 1, .b "ValueError"], [.o 2, .o 1, .b "ValueError"], [.o 3, .o 1, .b "ValueError"], [.o 4, .o 1, .b "ValueError"], [.o 5, .o 1, .b "ValueError"], [.o 6, .o 1, .b "ValueError"], [.o 7, .o 1, .b "ValueError"]] ("ValueError" :: tys) : Bool)) rfl)
end W_whilemerged_k60_chains_and_plans_judged
open PySem PySem.W PyProof.Rows in
set_option maxRecDepth 100000 in
set_option maxHeartbeats 0 in
theorem PySem.Challenge.cw_whilemerged_k60_chains_and_plans_judged_holds : PySem.Challenge.rw_whilemerged_k60_chains_and_plans_judged.Holds := by
  w_on; o_law
  refine HandSHeadRun.head_any (r := OpenLaw.row PySem.Challenge.rw_whilemerged_k60_chains_and_plans_judged) (q := W_whilemerged_k60_chains_and_plans_judged.qv) (H := W_whilemerged_k60_chains_and_plans_judged.hkX) (ob := W_whilemerged_k60_chains_and_plans_judged.ob) (M := 20000) (loose := W_whilemerged_k60_chains_and_plans_judged.names) (d := HandSHeadRun.topDef (OpenLaw.row PySem.Challenge.rw_whilemerged_k60_chains_and_plans_judged).prog 42) (kwd := []) W_whilemerged_k60_chains_and_plans_judged.ob_eq
    (by kernel_rfl) (fun s => by kernel_rfl) W_whilemerged_k60_chains_and_plans_judged.run (by kernel_rfl) (by kernel_rfl) (by kernel_rfl) (by rfl) (by first | assumption | decide +kernel) (by decide +kernel) ⟨rfl, rfl, rfl, rfl, rfl, by decide +kernel⟩ ?hw ?hc
  case hw => w_witness2
  case hc =>
    refine CM.walkGX (l := PySem.Challenge.rw_whilemerged_k60_chains_and_plans_judged) (k := 48) (F := W_whilemerged_k60_chains_and_plans_judged.F_law) W_whilemerged_k60_chains_and_plans_judged.law_ok (by decide +kernel) rfl (by kernel_rfl) ⟨rfl, by decide, by decide⟩ ?F
    intro w mg fa h Y G hmg0
    obtain ⟨K, s, t⟩ := Y
    have hmg : mg ("law" : PySem.Str) = some (.ref fa) := by
      have e : (HandSHeadRun.topDef (OpenLaw.row PySem.Challenge.rw_whilemerged_k60_chains_and_plans_judged).prog 42).name = ("law" : PySem.Str) := by kernel_rfl
      rw [← e]
      exact hmg0
    exact ⟨K, s.kin, W_whilemerged_k60_chains_and_plans_judged.facts G hmg s t⟩
#print axioms PySem.Challenge.cw_whilemerged_k60_chains_and_plans_judged_holds
