import PyProof.Rows.All
import Wide.All
import OpenK.AllK
import Wide.FinOn
import HandS.ForMost
import HandS.Wide
import HandS.Style
import HandS.Flow
import HandS.EndTab
import KE.DataEq
import KE.DataCmp
import KE.DataMinMax
import KE.DataMinKey
import KE.DataFind
import KE.SortCalls
import KE.SortKeyed
import HandS.TupAny
import HandS.IsInst
import HandS.Text
import KE.DataAny
import KE.KTupSum
import HandS.TupMul
import KE.SortData
import HandS.Zip
import HandS.Conv
import KE.GoesNew
import KE.GoesMore
import KE.KDictZip
import KE.KDictItemsList
import HandS.SetFor
import HandS.Strs
import HandS.List
import KE.KUnpack
import HandS.ListItems
import HandS.DictTup
import HandS.DictComp
import HandS.WordsDict
import KE.SortKeyHeap
import KE.KSortKey
import HandS.SortKw
import PySem.Challenge.RW_hangseven_k01_whole_mobiles
set_option Elab.async false
set_option linter.all false
set_option maxRecDepth 100000
set_option maxHeartbeats 4000000
/-! A layer of pure data over the hand layer: what a def computes is a function of data (PyData) into wishes. -/
namespace Pu
open PySem PySem.Spec PyProof.Rows L2

abbrev D := PyData
/-- a computation: from what is wanted of its value to what must hold -/
abbrev R (α : Type) := (α → Prop) → Prop
def ok {α : Type} (a : α) : R α := fun p => p a
def fail {α : Type} : R α := fun _ => False
def bd {α β : Type} (m : R α) (k : α → R β) : R β := fun p => m (fun a => k a p)
def req (c : Prop) : R Unit := fun p => c ∧ p ()
@[simp] theorem bd_ok {α β : Type} (a : α) (k : α → R β) : bd (ok a) k = k a := (rfl)
@[simp] theorem bd_fail {α β : Type} (k : α → R β) : bd fail k = fail := (rfl)
@[simp] theorem bd_bd {α β γ : Type} (m : R α) (k : α → R β) (l : β → R γ) : bd (bd m k) l = bd m (fun a => bd (k a) l) := (rfl)
@[simp] theorem bd_ret {α : Type} (m : R α) : bd m ok = m := (rfl)
theorem bd_req {c : Prop} {β : Type} (h : c) (k : Unit → R β) : bd (req c) k = k () := by
  funext p; exact propext ⟨fun q => q.2, fun q => ⟨h, q⟩⟩
@[simp] theorem bd_req_true {β : Type} (k : Unit → R β) : bd (req True) k = k () := bd_req trivial k

/-- the tables of code objects that the making of a lambda writes: address and the lambda's qualified name -/
class Tb where
  T : List (Addr × Str)
  /-- constants of the module that are tuples count as data -/
  kc : Bool
variable [Tb]
theorem lst_code {c : Addr} {q : Str} {xs : List V} : HO.lst xs ≠ LamX.CodeO c q := fun z => by
  unfold LamX.CodeO at z
  cases z
theorem dK_code {c : Addr} {q : Str} {xs : List (Key × V)} : HO.dK xs ≠ LamX.CodeO c q := fun z => by
  unfold LamX.CodeO at z
  cases z
/-- the one thing that is changed by the law's draws: a list at b of a list at c and k numbers -/
inductive Ef where
  | no
  | bx (k : Nat) (b c : Addr)
def Ef.bvol : Ef → Addr → Prop
  | .no, _ => False
  | .bx _ b c, a => a = b ∨ a = c
def Ef.vol (E : Ef) (a : Addr) : Prop := E.bvol a ∨ ∃ q, (a, q) ∈ Tb.T
def BxInts : List Int → Prop
  | [i, _, _] => 0 ≤ i
  | _ => True
def Ef.binv : Ef → Hp → Prop
  | .no, _ => True
  | .bx k b c, H => b ≠ c ∧ ∃ (ns is : List Int), is.length = k ∧ BxInts is ∧ ns.length ≤ 1000 ∧ H b = some (.lst (.ref c :: is.map V.int)) ∧ H c = some (.lst (ns.map V.int))
def Ef.inv (E : Ef) (H : Hp) : Prop := E.binv H ∧ LamX.Tabs Tb.T H
def Ef.box : Ef → Nat → V → Prop
  | .no, _, _ => False
  | .bx k b _, j, v => k = j ∧ v = .ref b
theorem Ef.there {E : Ef} {H : Hp} {a : Addr} (h : E.inv H) (v : E.vol a) : ∃ o, H a = some o := by
  rcases v with v | ⟨q, v⟩
  · cases E with
    | no => exact v.elim
    | bx k b c =>
      obtain ⟨_, _, _, _, _, _, e1, e2⟩ := h.1
      rcases v with rfl | rfl
      · exact ⟨_, e1⟩
      · exact ⟨_, e2⟩
  · obtain ⟨ps, e, _⟩ := h.2 _ v
    exact ⟨_, e⟩
/-- code objects that are known stay known -/
def Codes (H H' : Hp) : Prop := ∀ a q, H a = some (LamX.CodeO a q) → H' a = some (LamX.CodeO a q)
theorem Codes.le {H H' : Hp} (h : ∀ a o, H a = some o → H' a = some o) : Codes H H' := fun a q e => h a _ e
theorem Codes.lst {H : Hp} {a : Addr} {xs : List V} {o : HO} (h : H a = some (.lst xs)) : Codes H (upd H a o) := fun b q e => by
  rw [upd_ne]
  · exact e
  · rintro rfl; rw [h] at e; exact lst_code (Option.some.inj e)
theorem Codes.dK {H : Hp} {a : Addr} {xs : List (Key × V)} {o : HO} (h : H a = some (.dK xs)) : Codes H (upd H a o) := fun b q e => by
  rw [upd_ne]
  · exact e
  · rintro rfl; rw [h] at e; exact dK_code (Option.some.inj e)
theorem Ef.loc {E : Ef} {H H' : Hp} (h : E.inv H) (hc : Codes H H') (q : ∀ a, E.vol a → H' a = H a) : E.inv H' := by
  refine ⟨?_, fun p hp => ?_⟩
  · cases E with
    | no => trivial
    | bx k b c =>
      obtain ⟨n, ns, is, h1, h2, h3, e1, e2⟩ := h.1
      exact ⟨n, ns, is, h1, h2, h3, (q b (.inl (.inl rfl))).trans e1, (q c (.inl (.inr rfl))).trans e2⟩
  · obtain ⟨ps, h1, h2, h3⟩ := h.2 p hp
    refine ⟨ps, (q _ (.inr ⟨_, hp⟩)).trans h1, h2, fun pos cv e => ?_⟩
    obtain ⟨c, e1, e2⟩ := h3 pos cv e
    exact ⟨c, e1, hc _ _ e2⟩

structure Ext (E : Ef) (G H G' H' : Hp) : Prop where
  g : ∀ a o, G a = some o → G' a = some o
  h : ∀ a o, H a = some o → ¬ E.vol a → H' a = some o
  n : ∀ a o, H a = some o → ¬ E.vol a → G a = none → G' a = none
theorem Ext.refl {E : Ef} {G H : Hp} : Ext E G H G H := ⟨fun _ _ h => h, fun _ _ h _ => h, fun _ _ _ _ h => h⟩
theorem Ext.trans {E : Ef} {G H G1 H1 G2 H2 : Hp} (a : Ext E G H G1 H1) (b : Ext E G1 H1 G2 H2) : Ext E G H G2 H2 :=
  ⟨fun p o h => b.g p o (a.g p o h), fun p o h v => b.h p o (a.h p o h v) v, fun p o h v g => b.n p o (a.h p o h v) v (a.n p o h v g)⟩

/-- the frozen part G lies in the heap H, apart from the box -/
structure W0 (E : Ef) (G H : Hp) : Prop where
  sub : ∀ a o, G a = some o → H a = some o
  vol : ∀ a, E.vol a → G a = none
  inv : E.inv H
theorem W0.fresh {E : Ef} {G H : Hp} (w : W0 E G H) {p : Addr} (h : H p = none) : G p = none ∧ ¬ E.vol p := by
  refine ⟨?_, fun v => ?_⟩
  · cases e : G p with
    | none => rfl
    | some o => rw [w.sub p o e] at h; cases h
  · obtain ⟨o, e⟩ := Ef.there w.inv v
    rw [e] at h; cases h
/-- a new object, not frozen -/
theorem W0.new {E : Ef} {G H : Hp} (w : W0 E G H) {p : Addr} (h : H p = none) (o : HO) : W0 E G (upd H p o) ∧ Ext E G H G (upd H p o) := by
  obtain ⟨g, v⟩ := w.fresh h
  have k : ∀ a u, H a = some u → (upd H p o) a = some u := fun a u e => by rw [upd_ne (ne_of_none e h)]; exact e
  refine ⟨⟨fun a u e => k a u (w.sub a u e), w.vol, Ef.loc w.inv (.le k) fun a va => ?_⟩, ⟨fun _ _ e => e, fun a u e _ => k a u e, fun _ _ _ _ e => e⟩⟩
  rw [upd_ne]
  rintro rfl; exact v va
/-- a new object, frozen -/
theorem W0.newF {E : Ef} {G H : Hp} (w : W0 E G H) {p : Addr} (h : H p = none) (o : HO) : W0 E (upd G p o) (upd H p o) ∧ Ext E G H (upd G p o) (upd H p o) := by
  obtain ⟨g, v⟩ := w.fresh h
  obtain ⟨w1, e1⟩ := w.new h o
  refine ⟨⟨fun a u e => ?_, fun a va => ?_, w1.inv⟩, ⟨fun a u e => ?_, e1.h, fun a u e _ q => ?_⟩⟩
  · by_cases ha : a = p
    · subst ha; rw [upd_same] at e; rw [upd_same]; exact e
    · rw [upd_ne ha] at e; exact w1.sub a u e
  · rw [upd_ne (by rintro rfl; exact v va)]; exact w.vol a va
  · rw [upd_ne (ne_of_none e g)]; exact e
  · rw [upd_ne (ne_of_none e h)]; exact q
/-- an object that stands unfrozen is frozen -/
theorem W0.freeze {E : Ef} {G H : Hp} (w : W0 E G H) {p : Addr} {o : HO} (h : H p = some o) (g : G p = none) (v : ¬ E.vol p) : W0 E (upd G p o) H := by
  refine ⟨fun a u e => ?_, fun a va => ?_, w.inv⟩
  · by_cases ha : a = p
    · subst ha; rw [upd_same] at e; cases e; exact h
    · rw [upd_ne ha] at e; exact w.sub a u e
  · rw [upd_ne (by rintro rfl; exact v va)]; exact w.vol a va

/-! ### data in the heap -/
abbrev Le (G G' : Hp) : Prop := ∀ a o, G a = some o → G' a = some o
theorem rd_mono {G G' : Hp} (h : Le G G') {a : Addr} {u : HO} : Rd G a u → Rd G' a u
  | .inl e => .inl (h a _ e)
  | .inr ⟨o, e⟩ => .inr ⟨o, h a _ e⟩
theorem sqL_mono {K : PySem.W.Frag} {G G' : Hp} (h : Le G G') {a : Addr} {xs : List V} : SqL K G a xs → SqL K G' a xs
  | .inl e => .inl (rd_mono h e)
  | .inr e => .inr e
theorem sqT_mono0 {K : PySem.W.Frag} {G G' : Hp} (h : Le G G') {a : Addr} {xs : List V} : SqT K G a xs → SqT K G' a xs
  | .inl e => .inl (rd_mono h e)
  | .inr e => .inr e
/-- a tuple that is tracked, or (where the law asks for it) a constant's -/
def SqD (K : PySem.W.Frag) (H : Hp) (a : Addr) (xs : List V) : Prop := H a = some (.tup xs) ∨ (Tb.kc = true ∧ SqT K H a xs)
theorem SqD.of {K : PySem.W.Frag} {H : Hp} {a : Addr} {xs : List V} (h : H a = some (.tup xs)) : SqD K H a xs := .inl h
theorem SqD.sqT {K : PySem.W.Frag} {H : Hp} {a : Addr} {xs : List V} : SqD K H a xs → SqT K H a xs
  | .inl h => .inl (.inl h)
  | .inr h => h.2
theorem sqD_mono {K : PySem.W.Frag} {G G' : Hp} (h : Le G G') {a : Addr} {xs : List V} : SqD K G a xs → SqD K G' a xs
  | .inl e => .inl (h _ _ e)
  | .inr e => .inr ⟨e.1, sqT_mono0 h e.2⟩
theorem sqT_mono {K : PySem.W.Frag} {G G' : Hp} (h : Le G G') {a : Addr} {xs : List V} (e : SqD K G a xs) : SqT K G' a xs := (sqD_mono h e).sqT
mutual
/-- a value stands for data: lists are tracked ones -/
inductive Dq (K : PySem.W.Frag) (H : Hp) : V → PyData → Prop
  | non : Dq K H .non .none
  | bl (b : Bool) : Dq K H (.bl b) (.bool b)
  | int (i : Int) : Dq K H (.int i) (.int i)
  | str (x : Str) : Dq K H (.str x) (.str x)
  | lst {a : Addr} {xs : List V} {ds : List PyData} : H a = some (.lst xs) → DqAll K H xs ds → Dq K H (.ref a) (.list ds)
  | tup {a : Addr} {xs : List V} {ds : List PyData} : SqD K H a xs → DqAll K H xs ds → Dq K H (.ref a) (.tuple ds)
inductive DqAll (K : PySem.W.Frag) (H : Hp) : List V → List PyData → Prop
  | nil : DqAll K H [] []
  | cons {v : V} {vs : List V} {d : PyData} {ds : List PyData} : Dq K H v d → DqAll K H vs ds → DqAll K H (v :: vs) (d :: ds)
end
mutual
theorem Dq.mono {K : PySem.W.Frag} {G G' : Hp} (h : Le G G') : ∀ {v : V} {d : D}, Dq K G v d → Dq K G' v d
  | _, _, .non => .non
  | _, _, .bl b => .bl b
  | _, _, .int i => .int i
  | _, _, .str x => .str x
  | _, _, .lst e q => .lst (h _ _ e) (DqAll.mono h q)
  | _, _, .tup e q => .tup (sqD_mono h e) (DqAll.mono h q)
theorem DqAll.mono {K : PySem.W.Frag} {G G' : Hp} (h : Le G G') : ∀ {vs : List V} {ds : List D}, DqAll K G vs ds → DqAll K G' vs ds
  | _, _, .nil => .nil
  | _, _, .cons e q => .cons (Dq.mono h e) (DqAll.mono h q)
end
mutual
theorem Dq.dp {K : PySem.W.Frag} {G : Hp} : ∀ {v : V} {d : D}, Dq K G v d → Dp K G v d
  | _, _, .non => .non
  | _, _, .bl b => .bl b
  | _, _, .int i => .int i
  | _, _, .str x => .str x
  | _, _, .lst e q => .lst (.of e) (DqAll.dp q)
  | _, _, .tup e q => .tup e.sqT (DqAll.dp q)
theorem DqAll.dp {K : PySem.W.Frag} {G : Hp} : ∀ {vs : List V} {ds : List D}, DqAll K G vs ds → DpAll K G vs ds
  | _, _, .nil => .nil
  | _, _, .cons e q => .cons (Dq.dp e) (DqAll.dp q)
end
theorem DqAll.length {K : PySem.W.Frag} {G : Hp} : ∀ {vs : List V} {ds : List D}, DqAll K G vs ds → vs.length = ds.length
  | _, _, .nil => rfl
  | _, _, .cons _ q => by rw [List.length_cons, List.length_cons, DqAll.length q]
theorem DqAll.get {K : PySem.W.Frag} {G : Hp} : ∀ {vs : List V} {ds : List D}, DqAll K G vs ds → ∀ {i : Nat} {d : D}, ds[i]? = some d → ∃ v, vs[i]? = some v ∧ Dq K G v d
  | _, _, .nil, _, _, e => by simp at e
  | _, _, .cons r _, 0, _, e => by simp at e; subst e; exact ⟨_, rfl, r⟩
  | _, _, .cons _ q, i + 1, _, e => by
    obtain ⟨v, h1, h2⟩ := DqAll.get q (i := i) (by simpa using e)
    exact ⟨v, by simpa using h1, h2⟩
theorem DqAll.append {K : PySem.W.Frag} {G : Hp} : ∀ {vs ws : List V} {ds es : List D}, DqAll K G vs ds → DqAll K G ws es → DqAll K G (vs ++ ws) (ds ++ es)
  | _, _, _, _, .nil, s => s
  | _, _, _, _, .cons r t, s => .cons r (DqAll.append t s)
theorem DqAll.take {K : PySem.W.Frag} {G : Hp} : ∀ {vs : List V} {ds : List D} (n : Nat), DqAll K G vs ds → DqAll K G (vs.take n) (ds.take n)
  | _, _, 0, _ => .nil
  | _, _, _ + 1, .nil => .nil
  | _, _, n + 1, .cons r t => .cons r (DqAll.take n t)
theorem DqAll.drop {K : PySem.W.Frag} {G : Hp} : ∀ {vs : List V} {ds : List D} (n : Nat), DqAll K G vs ds → DqAll K G (vs.drop n) (ds.drop n)
  | _, _, 0, r => r
  | _, _, _ + 1, .nil => .nil
  | _, _, n + 1, .cons _ t => DqAll.drop n t
theorem DqAll.set {K : PySem.W.Frag} {G : Hp} {x : V} {d : D} (r : Dq K G x d) : ∀ {vs : List V} {ds : List D} (i : Nat), DqAll K G vs ds → DqAll K G (vs.set i x) (ds.set i d)
  | _, _, _, .nil => .nil
  | _, _, 0, .cons _ t => .cons r t
  | _, _, i + 1, .cons q t => .cons q (DqAll.set r i t)
theorem DqAll.reverse {K : PySem.W.Frag} {G : Hp} : ∀ {vs : List V} {ds : List D}, DqAll K G vs ds → DqAll K G vs.reverse ds.reverse
  | _, _, .nil => .nil
  | _, _, .cons r t => by
    rw [List.reverse_cons, List.reverse_cons]
    exact DqAll.append (DqAll.reverse t) (.cons r .nil)
theorem DqAll.ints {K : PySem.W.Frag} {G : Hp} : ∀ {vs : List V} {ns : List Int}, DqAll K G vs (ns.map .int) → vs = ns.map V.int
  | _, [], .nil => rfl
  | _, _ :: _, .cons (.int _) q => by rw [List.map_cons, DqAll.ints q]
theorem DqAll.bools {K : PySem.W.Frag} {G : Hp} : ∀ {vs : List V} {ns : List Bool}, DqAll K G vs (ns.map .bool) → vs = ns.map V.bl
  | _, [], .nil => rfl
  | _, _ :: _, .cons (.bl _) q => by rw [List.map_cons, DqAll.bools q]
theorem DqAll.ofInts {K : PySem.W.Frag} {G : Hp} : ∀ (ns : List Int), DqAll K G (ns.map V.int) (ns.map .int)
  | [] => .nil
  | n :: r => .cons (.int n) (DqAll.ofInts r)
mutual
theorem Dq.plain {K : PySem.W.Frag} {G : Hp} : ∀ {v : V} {d : D}, Dq K G v d → d.plain = true
  | _, _, .non => rfl
  | _, _, .bl b => rfl
  | _, _, .int i => rfl
  | _, _, .str x => rfl
  | _, _, .lst e q => DqAll.plain q
  | _, _, .tup e q => DqAll.plain q
theorem DqAll.plain {K : PySem.W.Frag} {G : Hp} : ∀ {vs : List V} {ds : List D}, DqAll K G vs ds → PyData.plainAll ds = true
  | _, _, .nil => rfl
  | _, _, .cons e q => by
    show (PyData.plain _ && PyData.plainAll _) = true
    rw [Dq.plain e, DqAll.plain q]; rfl
end

/-- the rows of a dict: keys are ints and texts -/
inductive DqK (K : PySem.W.Frag) (H : Hp) : List (Key × V) → List (Key × D) → Prop
  | nil : DqK K H [] []
  | cons {k : Key} {v : V} {d : D} {r : List (Key × V)} {s : List (Key × D)} : Dq K H v d → DqK K H r s → DqK K H ((k, v) :: r) ((k, d) :: s)
theorem DqK.mono {K : PySem.W.Frag} {G G' : Hp} (h : Le G G') : ∀ {vs : List (Key × V)} {ds : List (Key × D)}, DqK K G vs ds → DqK K G' vs ds
  | _, _, .nil => .nil
  | _, _, .cons e q => .cons (Dq.mono h e) (DqK.mono h q)
theorem DqK.length {K : PySem.W.Frag} {G : Hp} : ∀ {vs : List (Key × V)} {ds : List (Key × D)}, DqK K G vs ds → vs.length = ds.length
  | _, _, .nil => rfl
  | _, _, .cons _ q => by rw [List.length_cons, List.length_cons, DqK.length q]
/-! ### slots -/
inductive Sl where
  | un
  | dat (d : D)
  | own (ds : List D)
  | box (k : Nat)
  | od (kvs : List (Key × D))
def Sl.isOwn : Sl → Bool
  | .own _ => true
  | .od _ => true
  | _ => false
/-- where a def was entered: the box, the frozen part and the heap then -/
structure Ct where
  E : Ef
  G0 : Hp
  H0 : Hp
structure Wd (c : Ct) (G H : Hp) : Prop where
  w : W0 c.E G H
  e : Ext c.E c.G0 c.H0 G H
theorem Wd.step {c : Ct} {G H G' H' : Hp} (w : Wd c G H) (w' : W0 c.E G' H') (e : Ext c.E G H G' H') : Wd c G' H' := ⟨w', w.e.trans e⟩
/-- an unfrozen list of its own -/
structure Own (K : PySem.W.Frag) (c : Ct) (G H : Hp) (a : Addr) (ds : List D) : Prop where
  at_ : ∃ vs, H a = some (.lst vs) ∧ DqAll K G vs ds
  g : G a = none
  h0 : c.H0 a = none
  v : ¬ c.E.vol a
/-- an unfrozen dict of its own -/
structure OwnD (K : PySem.W.Frag) (c : Ct) (G H : Hp) (a : Addr) (ds : List (Key × D)) : Prop where
  at_ : ∃ vs, H a = some (.dK vs) ∧ DqK K G vs ds
  g : G a = none
  h0 : c.H0 a = none
  v : ¬ c.E.vol a
def SlOk (K : PySem.W.Frag) (c : Ct) (G H : Hp) : Sl → V → Prop
  | .un, _ => True
  | .dat d, v => Dq K G v d
  | .own ds, v => ∃ a, v = .ref a ∧ Own K c G H a ds
  | .box k, v => c.E.box k v
  | .od ds, v => ∃ a, v = .ref a ∧ OwnD K c G H a ds
structure RS (K : PySem.W.Frag) (c : Ct) (G H : Hp) (σ : L2.St) (ρ : List Sl) : Prop where
  len : σ.length = ρ.length
  at_ : ∀ (i : Nat) (x : Sl), ρ[i]? = some x → x = .un ∨ ∃ v, σ[i]? = some (some v) ∧ SlOk K c G H x v
  dd : ∀ (i j : Nat) (x y : Sl) (v : V), ρ[i]? = some x → ρ[j]? = some y → x.isOwn = true → y.isOwn = true → σ[i]? = some (some v) → σ[j]? = some (some v) → i = j
theorem RS.dis {K : PySem.W.Frag} {c : Ct} {G H : Hp} {σ : L2.St} {ρ : List Sl} (r : RS K c G H σ ρ) (i j : Nat) (ds es : List D) (v : V) (h1 : ρ[i]? = some (.own ds)) (h2 : ρ[j]? = some (.own es)) (h3 : σ[i]? = some (some v)) (h4 : σ[j]? = some (some v)) : i = j := r.dd i j _ _ v h1 h2 rfl rfl h3 h4
theorem Own.ext {K : PySem.W.Frag} {c : Ct} {G H G' H' : Hp} {a : Addr} {ds : List D} (o : Own K c G H a ds) (e : Ext c.E G H G' H') : Own K c G' H' a ds := by
  obtain ⟨vs, h, q⟩ := o.at_
  exact ⟨⟨vs, e.h a _ h o.v, DqAll.mono e.g q⟩, e.n a _ h o.v o.g, o.h0, o.v⟩
theorem OwnD.ext {K : PySem.W.Frag} {c : Ct} {G H G' H' : Hp} {a : Addr} {ds : List (Key × D)} (o : OwnD K c G H a ds) (e : Ext c.E G H G' H') : OwnD K c G' H' a ds := by
  obtain ⟨vs, h, q⟩ := o.at_
  exact ⟨⟨vs, e.h a _ h o.v, DqK.mono e.g q⟩, e.n a _ h o.v o.g, o.h0, o.v⟩
theorem SlOk.ext {K : PySem.W.Frag} {c : Ct} {G H G' H' : Hp} (e : Ext c.E G H G' H') : ∀ {x : Sl} {v : V}, SlOk K c G H x v → SlOk K c G' H' x v
  | .un, _, _ => trivial
  | .dat _, _, h => Dq.mono e.g h
  | .own _, _, ⟨a, h, o⟩ => ⟨a, h, o.ext e⟩
  | .box _, _, h => h
  | .od _, _, ⟨a, h, o⟩ => ⟨a, h, o.ext e⟩
theorem RS.ext {K : PySem.W.Frag} {c : Ct} {G H G' H' : Hp} {σ : L2.St} {ρ : List Sl} (r : RS K c G H σ ρ) (e : Ext c.E G H G' H') : RS K c G' H' σ ρ :=
  ⟨r.len, fun i x h => (r.at_ i x h).imp id fun ⟨v, q, s⟩ => ⟨v, q, s.ext e⟩, r.dd⟩
theorem set_get {α : Type} {l : List α} {i j : Nat} {x y : α} (h : (l.set i x)[j]? = some y) : (j = i ∧ y = x) ∨ (j ≠ i ∧ l[j]? = some y) := by
  by_cases e : j = i
  · subst e
    have hl : j < l.length := by
      have := (List.getElem?_eq_some_iff.mp h).1
      simpa using this
    rw [List.getElem?_set_self hl] at h
    exact .inl ⟨rfl, (Option.some.inj h).symm⟩
  · rw [List.getElem?_set_ne (Ne.symm e)] at h
    exact .inr ⟨e, h⟩
/-- a slot is set to data -/
theorem RS.setD {K : PySem.W.Frag} {c : Ct} {G H : Hp} {σ : L2.St} {ρ : List Sl} (r : RS K c G H σ ρ) {i : Nat} {v : V} {d : D} (q : Dq K G v d) : RS K c G H (σ.set i (some v)) (ρ.set i (.dat d)) := by
  refine ⟨by simp [r.len], fun j x h => ?_, fun j l ds es u h1 h2 k1 k2 h3 h4 => ?_⟩
  · rcases set_get h with ⟨rfl, rfl⟩ | ⟨hj, h⟩
    · have hl : j < σ.length := by
        rw [r.len]; have := (List.getElem?_eq_some_iff.mp h).1; simpa using this
      exact .inr ⟨v, List.getElem?_set_self hl, q⟩
    · rcases r.at_ j x h with e | ⟨u, e, s⟩
      · exact .inl e
      · exact .inr ⟨u, by rw [List.getElem?_set_ne (Ne.symm hj)]; exact e, s⟩
  · rcases set_get h1 with ⟨_, e⟩ | ⟨n1, e1⟩
    · rw [e] at k1; cases k1
    · rcases set_get h2 with ⟨_, e⟩ | ⟨n2, e2⟩
      · rw [e] at k2; cases k2
      · rw [List.getElem?_set_ne (Ne.symm n1)] at h3
        rw [List.getElem?_set_ne (Ne.symm n2)] at h4
        exact r.dd j l ds es u e1 e2 k1 k2 h3 h4
/-- a slot is wiped -/
theorem RS.wipe1 {K : PySem.W.Frag} {c : Ct} {G H : Hp} {σ : L2.St} {ρ : List Sl} (r : RS K c G H σ ρ) (i : Nat) (o : Option V) : RS K c G H (σ.set i o) (ρ.set i .un) := by
  refine ⟨by simp [r.len], fun j x h => ?_, fun j l ds es u h1 h2 k1 k2 h3 h4 => ?_⟩
  · rcases set_get h with ⟨rfl, rfl⟩ | ⟨hj, h⟩
    · exact .inl rfl
    · rcases r.at_ j x h with e | ⟨u, e, s⟩
      · exact .inl e
      · exact .inr ⟨u, by rw [List.getElem?_set_ne (Ne.symm hj)]; exact e, s⟩
  · rcases set_get h1 with ⟨_, e⟩ | ⟨n1, e1⟩
    · rw [e] at k1; cases k1
    · rcases set_get h2 with ⟨_, e⟩ | ⟨n2, e2⟩
      · rw [e] at k2; cases k2
      · rw [List.getElem?_set_ne (Ne.symm n1)] at h3
        rw [List.getElem?_set_ne (Ne.symm n2)] at h4
        exact r.dd j l ds es u e1 e2 k1 k2 h3 h4
def wipeS (ρ : List Sl) : List Nat → List Sl
  | [] => ρ
  | v :: vs => (wipeS ρ vs).set v .un
theorem RS.wipe {K : PySem.W.Frag} {c : Ct} {G H : Hp} {σ : L2.St} {ρ : List Sl} (r : RS K c G H σ ρ) : ∀ vs : List Nat, RS K c G H (L2.wipe σ vs) (wipeS ρ vs)
  | [] => r
  | v :: vs => (RS.wipe r vs).wipe1 v none
/-- two things of their own at one place are of one kind -/
theorem own_od {K : PySem.W.Frag} {c : Ct} {G H : Hp} {a b : Addr} {ds : List D} {es : List (Key × D)} (o : Own K c G H a ds) (p : OwnD K c G H b es) : b ≠ a := fun z => by
  subst z
  obtain ⟨vs, h, _⟩ := o.at_
  obtain ⟨ws, k, _⟩ := p.at_
  rw [h] at k; cases k
/-- a slot is set to a new thing of its own -/
theorem RS.setN {K : PySem.W.Frag} {c : Ct} {G H : Hp} {σ : L2.St} {ρ : List Sl} (r : RS K c G H σ ρ) {i : Nat} {a : Addr} {x : Sl} (q : SlOk K c G H x (.ref a))
    (new : ∀ (j : Nat) (y : Sl), ρ[j]? = some y → y.isOwn = true → σ[j]? ≠ some (some (.ref a))) : RS K c G H (σ.set i (some (.ref a))) (ρ.set i x) := by
  refine ⟨by simp [r.len], fun j x h => ?_, fun j l ds es u h1 h2 k1 k2 h3 h4 => ?_⟩
  · rcases set_get h with ⟨rfl, rfl⟩ | ⟨hj, h⟩
    · have hl : j < σ.length := by
        rw [r.len]; have := (List.getElem?_eq_some_iff.mp h).1; simpa using this
      exact .inr ⟨.ref a, List.getElem?_set_self hl, q⟩
    · rcases r.at_ j x h with e | ⟨u, e, s⟩
      · exact .inl e
      · exact .inr ⟨u, by rw [List.getElem?_set_ne (Ne.symm hj)]; exact e, s⟩
  · rcases set_get h1 with ⟨rfl, e⟩ | ⟨n1, e1⟩
    · rcases set_get h2 with ⟨rfl, e⟩ | ⟨n2, e2⟩
      · rfl
      · rw [List.getElem?_set_ne (Ne.symm n2)] at h4
        rcases set_get h3 with ⟨_, e3⟩ | ⟨n3, _⟩
        · cases e3; exact absurd h4 (new l es e2 k2)
        · exact absurd rfl n3
    · rcases set_get h2 with ⟨rfl, e⟩ | ⟨n2, e2⟩
      · rw [List.getElem?_set_ne (Ne.symm n1)] at h3
        rcases set_get h4 with ⟨_, e3⟩ | ⟨n3, _⟩
        · cases e3; exact absurd h3 (new j ds e1 k1)
        · exact absurd rfl n3
      · rw [List.getElem?_set_ne (Ne.symm n1)] at h3
        rw [List.getElem?_set_ne (Ne.symm n2)] at h4
        exact r.dd j l ds es u e1 e2 k1 k2 h3 h4
/-- a slot is set to a new list of its own -/
theorem RS.setO {K : PySem.W.Frag} {c : Ct} {G H : Hp} {σ : L2.St} {ρ : List Sl} (r : RS K c G H σ ρ) {i : Nat} {a : Addr} {ds : List D} (q : Own K c G H a ds)
    (new : ∀ (j : Nat) (es : List D), ρ[j]? = some (.own es) → σ[j]? ≠ some (some (.ref a))) : RS K c G H (σ.set i (some (.ref a))) (ρ.set i (.own ds)) :=
  r.setN ⟨a, rfl, q⟩ fun j y h k e => by
    cases y with
    | own es => exact new j es h e
    | od es =>
      rcases r.at_ j _ h with z | ⟨u, e2, b, hb, p⟩
      · cases z
      · rw [e] at e2
        cases e2; cases hb
        exact own_od q p rfl
    | _ => cases k
/-- a slot is set to a new dict of its own -/
theorem RS.setOD {K : PySem.W.Frag} {c : Ct} {G H : Hp} {σ : L2.St} {ρ : List Sl} (r : RS K c G H σ ρ) {i : Nat} {a : Addr} {ds : List (Key × D)} (q : OwnD K c G H a ds)
    (new : ∀ (j : Nat) (es : List (Key × D)), ρ[j]? = some (.od es) → σ[j]? ≠ some (some (.ref a))) : RS K c G H (σ.set i (some (.ref a))) (ρ.set i (.od ds)) :=
  r.setN ⟨a, rfl, q⟩ fun j y h k e => by
    cases y with
    | od es => exact new j es h e
    | own es =>
      rcases r.at_ j _ h with z | ⟨u, e2, b, hb, p⟩
      · cases z
      · rw [e] at e2
        cases e2; cases hb
        exact own_od p q rfl
    | _ => cases k
/-- the own list in a slot is changed -/
theorem Wd.mut {K : PySem.W.Frag} {c : Ct} {G H : Hp} {a : Addr} {ds es : List D} (w : Wd c G H) (o : Own K c G H a ds) {ws : List V} (q : DqAll K G ws es) : Wd c G (upd H a (.lst ws)) ∧ Own K c G (upd H a (.lst ws)) a es := by
  have h0 : ∀ p u, c.H0 p = some u → p ≠ a := fun p u e z => by subst z; rw [o.h0] at e; cases e
  refine ⟨⟨⟨fun p u e => ?_, w.w.vol, Ef.loc w.w.inv (by obtain ⟨us, hu, _⟩ := o.at_; exact .lst hu) fun p vp => ?_⟩, ⟨w.e.g, fun p u e v => ?_, w.e.n⟩⟩, ⟨⟨ws, upd_same, q⟩, o.g, o.h0, o.v⟩⟩
  · rw [upd_ne (by rintro rfl; rw [o.g] at e; cases e)]; exact w.w.sub p u e
  · rw [upd_ne (by rintro rfl; exact o.v vp)]
  · rw [upd_ne (h0 p u e)]; exact w.e.h p u e v
theorem RS.mut {K : PySem.W.Frag} {c : Ct} {G H : Hp} {σ : L2.St} {ρ : List Sl} (r : RS K c G H σ ρ) {i : Nat} {a : Addr} {ds es : List D} (hi : ρ[i]? = some (.own ds)) (hs : σ[i]? = some (some (.ref a)))
    (o : Own K c G H a ds) {ws : List V} (q : DqAll K G ws es) : RS K c G (upd H a (.lst ws)) σ (ρ.set i (.own es)) := by
  refine ⟨by simp [r.len], fun j x h => ?_, fun j l ds' es' u h1 h2 k1 k2 h3 h4 => ?_⟩
  · rcases set_get h with ⟨rfl, rfl⟩ | ⟨hj, h⟩
    · exact .inr ⟨_, hs, a, rfl, ⟨⟨ws, upd_same, q⟩, o.g, o.h0, o.v⟩⟩
    · rcases r.at_ j x h with e | ⟨u, e, s⟩
      · exact .inl e
      · refine .inr ⟨u, e, ?_⟩
        cases x with
        | un => trivial
        | dat d => exact s
        | box k => exact s
        | own fs =>
          obtain ⟨b, rfl, ob⟩ := s
          have hb : b ≠ a := fun z => by subst z; exact hj (r.dis j i fs ds _ h hi e hs)
          obtain ⟨vs, e1, e2⟩ := ob.at_
          exact ⟨b, rfl, ⟨vs, by rw [upd_ne hb]; exact e1, e2⟩, ob.g, ob.h0, ob.v⟩
        | od fs =>
          obtain ⟨b, rfl, ob⟩ := s
          have hb : b ≠ a := own_od o ob
          obtain ⟨vs, e1, e2⟩ := ob.at_
          exact ⟨b, rfl, ⟨vs, by rw [upd_ne hb]; exact e1, e2⟩, ob.g, ob.h0, ob.v⟩
  · have f : ∀ (j : Nat) (x : Sl), (ρ.set i (.own es))[j]? = some x → x.isOwn = true → ∃ y : Sl, ρ[j]? = some y ∧ y.isOwn = true := fun j x h k => by
      rcases set_get h with ⟨rfl, _⟩ | ⟨_, h⟩
      · exact ⟨_, hi, rfl⟩
      · exact ⟨_, h, k⟩
    obtain ⟨_, g1, m1⟩ := f j ds' h1 k1
    obtain ⟨_, g2, m2⟩ := f l es' h2 k2
    exact r.dd j l _ _ u g1 g2 m1 m2 h3 h4
/-- the own list in a slot is frozen -/
theorem Wd.freeze {K : PySem.W.Frag} {c : Ct} {G H : Hp} {a : Addr} {ds : List D} (w : Wd c G H) (o : Own K c G H a ds) : ∃ G', Wd c G' H ∧ Le G G' ∧ Dq K G' (.ref a) (.list ds) ∧ (∀ p, p ≠ a → G' p = G p) := by
  obtain ⟨vs, h, q⟩ := o.at_
  have le : Le G (upd G a (.lst vs)) := fun p u e => by rw [upd_ne (ne_of_none e o.g)]; exact e
  refine ⟨upd G a (.lst vs), ⟨w.w.freeze h o.g o.v, ⟨fun p u e => le p u (w.e.g p u e), w.e.h, fun p u e v g => ?_⟩⟩, le, .lst upd_same (DqAll.mono le q), fun p hp => upd_ne hp⟩
  rw [upd_ne (by rintro rfl; rw [o.h0] at e; cases e)]
  exact w.e.n p u e v g
theorem RS.freeze {K : PySem.W.Frag} {c : Ct} {G G' H : Hp} {σ : L2.St} {ρ : List Sl} (r : RS K c G H σ ρ) {i : Nat} {a : Addr} {ds : List D} (hi : ρ[i]? = some (.own ds)) (hs : σ[i]? = some (some (.ref a)))
    (le : Le G G') (hd : Dq K G' (.ref a) (.list ds)) (ne : ∀ p, p ≠ a → G' p = G p) : RS K c G' H σ (ρ.set i (.dat (.list ds))) := by
  refine ⟨by simp [r.len], fun j x h => ?_, fun j l ds' es' u h1 h2 k1 k2 h3 h4 => ?_⟩
  · rcases set_get h with ⟨rfl, rfl⟩ | ⟨hj, h⟩
    · exact .inr ⟨_, hs, hd⟩
    · rcases r.at_ j x h with e | ⟨u, e, s⟩
      · exact .inl e
      · refine .inr ⟨u, e, ?_⟩
        cases x with
        | un => trivial
        | dat d => exact Dq.mono le s
        | box k => exact s
        | own fs =>
          obtain ⟨b, rfl, ob⟩ := s
          have hb : b ≠ a := fun z => by subst z; exact hj (r.dis j i fs ds _ h hi e hs)
          obtain ⟨vs, e1, e2⟩ := ob.at_
          exact ⟨b, rfl, ⟨vs, e1, DqAll.mono le e2⟩, by rw [ne b hb]; exact ob.g, ob.h0, ob.v⟩
        | od fs =>
          obtain ⟨b, rfl, ob⟩ := s
          have hb : b ≠ a := by
            rcases r.at_ i _ hi with z | ⟨u2, e2, b2, hb2, o2⟩
            · cases z
            · rw [hs] at e2
              cases e2; cases hb2
              exact own_od o2 ob
          obtain ⟨vs, e1, e2⟩ := ob.at_
          exact ⟨b, rfl, ⟨vs, e1, DqK.mono le e2⟩, by rw [ne b hb]; exact ob.g, ob.h0, ob.v⟩
  · rcases set_get h1 with ⟨_, e⟩ | ⟨n1, e1⟩
    · rw [e] at k1; cases k1
    · rcases set_get h2 with ⟨_, e⟩ | ⟨n2, e2⟩
      · rw [e] at k2; cases k2
      · exact r.dd j l ds' es' u e1 e2 k1 k2 h3 h4
end Pu

namespace Pu
open PySem PySem.Spec PyProof.Rows L2
variable [Tb]
/-! ### values that are only looked at -/
def Bv (K : PySem.W.Frag) (c : Ct) (G H : Hp) (v : V) (d : D) : Prop := Dq K G v d ∨ ∃ a ds, v = .ref a ∧ d = .list ds ∧ Own K c G H a ds
inductive BvAll (K : PySem.W.Frag) (c : Ct) (G H : Hp) : List V → List D → Prop
  | nil : BvAll K c G H [] []
  | cons {v : V} {vs : List V} {d : D} {ds : List D} : Bv K c G H v d → BvAll K c G H vs ds → BvAll K c G H (v :: vs) (d :: ds)
section
variable {K : PySem.W.Frag} {c : Ct} {G H G' H' : Hp} {v : V} {d : D}
theorem Bv.ext (b : Bv K c G H v d) (e : Ext c.E G H G' H') : Bv K c G' H' v d := by
  rcases b with b | ⟨a, ds, rfl, rfl, o⟩
  · exact .inl (b.mono e.g)
  · exact .inr ⟨a, ds, rfl, rfl, o.ext e⟩
theorem BvAll.ext : ∀ {vs : List V} {ds : List D}, BvAll K c G H vs ds → Ext c.E G H G' H' → BvAll K c G' H' vs ds
  | _, _, .nil, _ => .nil
  | _, _, .cons b q, e => .cons (b.ext e) (q.ext e)
theorem Bv.dq (w : W0 c.E G H) (b : Bv K c G H v d) : Dq K H v d := by
  rcases b with b | ⟨a, ds, rfl, rfl, o⟩
  · exact b.mono w.sub
  · obtain ⟨vs, h, q⟩ := o.at_
    exact .lst h (q.mono w.sub)
theorem Bv.int {i : Int} (b : Bv K c G H v (.int i)) : v = .int i := by
  rcases b with b | ⟨a, ds, rfl, e, o⟩
  · cases b; rfl
  · cases e
theorem Bv.bool {i : Bool} (b : Bv K c G H v (.bool i)) : v = .bl i := by
  rcases b with b | ⟨a, ds, rfl, e, o⟩
  · cases b; rfl
  · cases e
theorem Bv.str {i : Str} (b : Bv K c G H v (.str i)) : v = .str i := by
  rcases b with b | ⟨a, ds, rfl, e, o⟩
  · cases b; rfl
  · cases e
theorem Bv.none (b : Bv K c G H v .none) : v = .non := by
  rcases b with b | ⟨a, ds, rfl, e, o⟩
  · cases b; rfl
  · cases e
theorem Bv.tup {ds : List D} (b : Bv K c G H v (.tuple ds)) : ∃ a vs, v = .ref a ∧ SqD K G a vs ∧ DqAll K G vs ds := by
  rcases b with b | ⟨a, ds, rfl, e, o⟩
  · cases b with | tup e q => exact ⟨_, _, rfl, e, q⟩
  · cases e
theorem Bv.lst {ds : List D} (w : W0 c.E G H) (b : Bv K c G H v (.list ds)) : ∃ a vs, v = .ref a ∧ H a = some (.lst vs) ∧ DqAll K G vs ds ∧ ¬ c.E.vol a := by
  rcases b with b | ⟨a, ds, rfl, e, o⟩
  · cases b with | lst e q =>
    refine ⟨_, _, rfl, w.sub _ _ e, q, fun z => ?_⟩
    rw [w.vol _ z] at e; cases e
  · cases e
    obtain ⟨vs, h, q⟩ := o.at_
    exact ⟨a, vs, rfl, h, q, o.v⟩
end

/-! ### the readings -/
section
variable (K : PySem.W.Frag)
/-- .. gives frozen data -/
def tP (f : List Sl → R D) : TE := fun σ H Q => ∃ (c : Ct) (G : Hp) (ρ : List Sl) (post : D → Prop), Wd c G H ∧ RS K c G H σ ρ ∧ f ρ post ∧
  ∀ r, post r → ∀ v G' H', Ext c.E G H G' H' → W0 c.E G' H' → Dq K G' v r → Q v H'
/-- .. gives data that may be the own list of a slot -/
def tB (f : List Sl → R D) : TE := fun σ H Q => ∃ (c : Ct) (G : Hp) (ρ : List Sl) (post : D → Prop), Wd c G H ∧ RS K c G H σ ρ ∧ f ρ post ∧
  ∀ r, post r → ∀ v G' H', Ext c.E G H G' H' → W0 c.E G' H' → Bv K c G' H' v r → Q v H'
/-- .. gives a new list, not frozen -/
def tF (f : List Sl → R (List D)) : TE := fun σ H Q => ∃ (c : Ct) (G : Hp) (ρ : List Sl) (post : List D → Prop), Wd c G H ∧ RS K c G H σ ρ ∧ f ρ post ∧
  ∀ r, post r → ∀ a G' H', H a = none → Ext c.E G H G' H' → W0 c.E G' H' → Own K c G' H' a r → Q (.ref a) H'
def tT (f : List Sl → R Bool) : TT := fun σ H Q => ∃ (c : Ct) (G : Hp) (ρ : List Sl) (post : Bool → Prop), Wd c G H ∧ RS K c G H σ ρ ∧ f ρ post ∧
  ∀ r, post r → ∀ G' H', Ext c.E G H G' H' → W0 c.E G' H' → Q r H'
def tAB (f : List Sl → R (List D)) : TA := fun σ H Q => ∃ (c : Ct) (G : Hp) (ρ : List Sl) (post : List D → Prop), Wd c G H ∧ RS K c G H σ ρ ∧ f ρ post ∧
  ∀ r, post r → ∀ vs G' H', Ext c.E G H G' H' → W0 c.E G' H' → BvAll K c G' H' vs r → Q vs H'
def tAF (f : List Sl → R (List D)) : TA := fun σ H Q => ∃ (c : Ct) (G : Hp) (ρ : List Sl) (post : List D → Prop), Wd c G H ∧ RS K c G H σ ρ ∧ f ρ post ∧
  ∀ r, post r → ∀ vs G' H', Ext c.E G H G' H' → W0 c.E G' H' → DqAll K G' vs r → Q vs H'
end
section
variable {X : Cx} {e a b : Expr} {es : List Expr} {pos : Pos}
theorem PE.wk {t t' : TE} (h : PE X e t) (w : ∀ σ H Q, t' σ H Q → t σ H Q) : PE X e t' := ⟨fun pins s σ H Q I q => h.run pins s σ H Q I (w σ H Q q)⟩
theorem PT.wk {t t' : TT} (h : PT X e t) (w : ∀ σ H Q, t' σ H Q → t σ H Q) : PT X e t' := ⟨fun pins s σ H Q I q => h.run pins s σ H Q I (w σ H Q q)⟩
theorem PW.wk {t t' : TT} (h : PW X e t) (w : ∀ σ H Q, t' σ H Q → t σ H Q) : PW X e t' := ⟨fun wh pins s σ H Q I q => h.run wh pins s σ H Q I (w σ H Q q)⟩
theorem PA.wk {t t' : TA} (h : PA X es t) (w : ∀ σ H Q, t' σ H Q → t σ H Q) : PA X es t' := ⟨fun pos pins s σ H Q I q => h.run pos pins s σ H Q I (w σ H Q q)⟩
/-- frozen data may be looked at -/
theorem pb {f : List Sl → R D} (h : PE X e (tP X.K f)) : PE X e (tB X.K f) := PE.wk h fun σ H Q ⟨c, G, ρ, post, w, r, hf, q⟩ =>
  ⟨c, G, ρ, post, w, r, hf, fun d hd v G' H' e' w' k => q d hd v G' H' e' w' (.inl k)⟩
/-- a new list is frozen -/
theorem pf {f : List Sl → R (List D)} (h : PE X e (tF X.K f)) : PE X e (tP X.K fun ρ => bd (f ρ) fun ds => ok (.list ds)) := PE.wk h fun σ H Q ⟨c, G, ρ, post, w, r, hf, q⟩ =>
  ⟨c, G, ρ, fun ds => post (.list ds), w, r, hf, fun d hd a G' H' na e' w' o => by
    obtain ⟨vs, h, k⟩ := o.at_
    have le : Le G' (upd G' a (.lst vs)) := fun p u e => by rw [upd_ne (ne_of_none e o.g)]; exact e
    refine q (.list d) hd (.ref a) (upd G' a (.lst vs)) H' ⟨fun p u e => le p u (e'.g p u e), e'.h, fun p u e v g => ?_⟩ (w'.freeze h o.g o.v) (.lst upd_same (k.mono le))
    rw [upd_ne (ne_of_none e na)]; exact e'.n p u e v g⟩
theorem pbf {f : List Sl → R (List D)} (h : PE X e (tF X.K f)) : PE X e (tB X.K fun ρ => bd (f ρ) fun ds => ok (.list ds)) := pb (pf h)

/-! ### names, constants -/
def getD (ρ : List Sl) (i : Nat) : R D := match ρ[i]? with
  | some (.dat d) => ok d
  | _ => fail
def getB (ρ : List Sl) (i : Nat) : R D := match ρ[i]? with
  | some (.dat d) => ok d
  | some (.own ds) => ok (.list ds)
  | _ => fail
theorem getD_inv {ρ : List Sl} {i : Nat} {post : D → Prop} (h : getD ρ i post) : ∃ d, ρ[i]? = some (.dat d) ∧ post d := by
  unfold getD at h
  cases e : ρ[i]? with
  | none => rw [e] at h; exact h.elim
  | some x =>
    rw [e] at h
    cases x with
    | dat d => exact ⟨d, rfl, h⟩
    | _ => exact h.elim
theorem getB_inv {ρ : List Sl} {i : Nat} {post : D → Prop} (h : getB ρ i post) : (∃ d, ρ[i]? = some (.dat d) ∧ post d) ∨ ∃ ds, ρ[i]? = some (.own ds) ∧ post (.list ds) := by
  unfold getB at h
  cases e : ρ[i]? with
  | none => rw [e] at h; exact h.elim
  | some x =>
    rw [e] at h
    cases x with
    | dat d => exact .inl ⟨d, rfl, h⟩
    | own ds => exact .inr ⟨ds, rfl, h⟩
    | _ => exact h.elim
theorem nD (i : Nat) {x : Str} (hN : X.N[i]? = some x := by rfl) (hv : Vis X.env.scope x := by first | exact Or.inl rfl | exact Or.inr (Or.inl rfl) | exact Or.inr (Or.inr rfl)) (hd : (x == ("__debug__" : Str)) = false := by decide)
    (hcd : (x == ("__classdict__" : Str)) = false := by decide) : PE X (.Name x pos) (tP X.K fun ρ => getD ρ i) := PE.wk (pe_var hN hv hd hcd) fun σ H Q ⟨c, G, ρ, post, w, r, hf, q⟩ => by
  obtain ⟨d, e, hp⟩ := getD_inv hf
  rcases r.at_ i _ e with z | ⟨v, e1, s⟩
  · cases z
  · exact ⟨v, e1, q d hp v G H .refl w.w s⟩
theorem nB (i : Nat) {x : Str} (hN : X.N[i]? = some x := by rfl) (hv : Vis X.env.scope x := by first | exact Or.inl rfl | exact Or.inr (Or.inl rfl) | exact Or.inr (Or.inr rfl)) (hd : (x == ("__debug__" : Str)) = false := by decide)
    (hcd : (x == ("__classdict__" : Str)) = false := by decide) : PE X (.Name x pos) (tB X.K fun ρ => getB ρ i) := PE.wk (pe_var hN hv hd hcd) fun σ H Q ⟨c, G, ρ, post, w, r, hf, q⟩ => by
  rcases getB_inv hf with ⟨d, e, hp⟩ | ⟨ds, e, hp⟩
  · rcases r.at_ i _ e with z | ⟨v, e1, s⟩
    · cases z
    · exact ⟨v, e1, q d hp v G H .refl w.w (.inl s)⟩
  · rcases r.at_ i _ e with z | ⟨v, e1, a, rfl, s⟩
    · cases z
    · exact ⟨_, e1, q _ hp _ G H .refl w.w (.inr ⟨a, ds, rfl, rfl, s⟩)⟩
theorem pcst {v : V} {d : D} (h : PE X e (tC v)) (k : ∀ G : Hp, Dq X.K G v d) : PE X e (tP X.K fun _ => ok d) := PE.wk h fun σ H Q ⟨c, G, ρ, post, w, r, hf, q⟩ => q d hf v G H .refl w.w (k G)
theorem cI {i j} : PE X (.Constant (.int i) j pos) (tP X.K fun _ => ok (.int i)) := pcst pe_int fun _ => .int i
theorem cT {b j} : PE X (.Constant (.bool b) j pos) (tP X.K fun _ => ok (.bool b)) := pcst pe_bl fun _ => .bl b
theorem cN {j} : PE X (.Constant .none j pos) (tP X.K fun _ => ok .none) := pcst pe_non fun _ => .non
theorem cS {x j} : PE X (.Constant (.str x) j pos) (tP X.K fun _ => ok (.str x)) := pcst pe_str fun _ => .str x
/-- a module's constant -/
theorem gC {x : Str} {v : V} {u : Value} {d : D} (k : ∀ G : Hp, Dq X.K G v d) (hm : X.mg x = some u) (r : RelV v u) (hg : Gl X x := by rfl) (hd : (x == ("__debug__" : Str)) = false := by decide) : PE X (.Name x pos) (tP X.K fun _ => ok d) :=
  pcst (pe_glob hg hm r hd) k

/-! ### two operands -/
def Bop (K : PySem.W.Frag) (r : R2) (h : D → D → R D) : Prop := ∀ (c : Ct) (G H : Hp) (x y : V) (d e : D) (post : D → Prop) (Q : VK), W0 c.E G H → Bv K c G H x d → Bv K c G H y e → h d e post →
  (∀ z, post z → ∀ v G' H', Ext c.E G H G' H' → W0 c.E G' H' → Dq K G' v z → Q v H') → r x y H Q
def m2 {α β γ : Type} (f : List Sl → R α) (g : List Sl → R β) (h : α → β → R γ) : List Sl → R γ := fun ρ => bd (f ρ) fun x => bd (g ρ) fun y => h x y
def m1 {α γ : Type} (f : List Sl → R α) (h : α → R γ) : List Sl → R γ := fun ρ => bd (f ρ) fun x => h x
theorem bop2 {K : PySem.W.Frag} {r : R2} {h : D → D → R D} (hr : Bop K r h) {f g : List Sl → R D} {σ : L2.St} {H : Hp} {Q : VK} (q : tP K (m2 f g h) σ H Q) : tOp r (tB K f) (tB K g) σ H Q := by
  obtain ⟨c, G, ρ, post, w, r, hf, q⟩ := q
  refine ⟨c, G, ρ, fun x => bd (g ρ) (fun y => h x y) post, w, r, hf, fun x hx v G1 H1 e1 w1 b1 => ?_⟩
  refine ⟨c, G1, ρ, fun y => h x y post, w.step w1 e1, r.ext e1, hx, fun y hy u G2 H2 e2 w2 b2 => ?_⟩
  exact hr c G2 H2 v u x y post Q w2 (b1.ext e2) b2 hy fun z hz v' G' H' e3 w3 d3 => q z hz v' G' H' ((e1.trans e2).trans e3) w3 d3
theorem pOp {op : Operator} {r : R2} {h : D → D → R D} (ho : OpR X (binaryOp op) r) (hr : Bop X.K r h) {f g : List Sl → R D} (ha : PE X a (tB X.K f)) (hb : PE X b (tB X.K g)) : PE X (.BinOp a op b pos) (tP X.K (m2 f g h)) :=
  PE.wk (pe_op ho ha hb) fun _ _ _ q => bop2 hr q
theorem pCmp {op : CmpOp} {r : R2} {h : D → D → R D} (ho : OpR X (compareOp op) r) (hr : Bop X.K r h) {f g : List Sl → R D} (ha : PE X a (tB X.K f)) (hb : PE X b (tB X.K g)) (hm : behindInMarks op b = false) : PE X (.Compare a [op] [b] pos) (tP X.K (m2 f g h)) :=
  PE.wk (pe_cmpR ho ha hb hm) fun _ _ _ q => bop2 hr q
theorem Bop.or1 {K : PySem.W.Frag} {r r' : R2} {h : D → D → R D} (k : Bop K r h) : Bop K (fun x y H Q => r x y H Q ∨ r' x y H Q) h := fun c G H x y d e post Q w b1 b2 hp q => .inl (k c G H x y d e post Q w b1 b2 hp q)
/-- the answer is a bool: as a test -/
def asB : D → R Bool
  | .bool b => ok b
  | _ => fail
@[simp] theorem asB_bool (b : Bool) : asB (.bool b) = ok b := (rfl)
theorem asB_inv {d : D} {post : Bool → Prop} (h : asB d post) : ∃ b, d = .bool b ∧ post b := by
  cases d <;> first | exact h.elim | exact ⟨_, rfl, h⟩
theorem tTest_of {K : PySem.W.Frag} {t : TE} {f : List Sl → R D} (ht : ∀ σ H Q, tP K f σ H Q → t σ H Q) {σ : L2.St} {H : Hp} {Q : Bool → Hp → Prop} (q : tT K (m1 f asB) σ H Q) : tTest t σ H Q := by
  obtain ⟨c, G, ρ, post, w, r, hf, q⟩ := q
  refine ht σ H _ ⟨c, G, ρ, fun d => asB d post, w, r, hf, fun d hd v G' H' e' w' k => ?_⟩
  obtain ⟨b, rfl, hb⟩ := asB_inv hd
  cases k
  exact ⟨b, rfl, q b hb G' H' e' w'⟩
theorem pCmpT {op : CmpOp} {r : R2} {h : D → D → R D} (ho : OpR X (compareOp op) r) (hr : Bop X.K r h) {f g : List Sl → R D} (ha : PE X a (tB X.K f)) (hb : PE X b (tB X.K g)) (hm : behindInMarks op b = false) : PT X (.Compare a [op] [b] pos) (tT X.K (m1 (m2 f g h) asB)) :=
  PT.wk (pt_cmpR ho ha hb hm) fun _ _ _ q => tTest_of (fun _ _ _ z => bop2 hr z) q

/-! ### numbers, texts, tuples -/
def addR : D → D → R D
  | .int i, .int j => ok (.int (i + j))
  | .str x, .str y => bd (req (x.length + y.length ≤ sizeLine)) fun _ => ok (.str (x ++ y))
  | .tuple x, .tuple y => bd (req (x.length + y.length ≤ sizeLine)) fun _ => ok (.tuple (x ++ y))
  | .list x, .list y => bd (req (x.length + y.length ≤ sizeLine)) fun _ => ok (.list (x ++ y))
  | _, _ => fail
def subR : D → D → R D
  | .int i, .int j => ok (.int (i - j))
  | _, _ => fail
def mulOk (i j : Int) : Prop := (-(2 ^ 64) < i ∧ i < 2 ^ 64) ∨ (-(2 ^ 64) < j ∧ j < 2 ^ 64) ∨ i.natAbs.log2 + j.natAbs.log2 < 1000000
def mulZ : D → D → R D
  | .int i, .int j => bd (req (mulOk i j)) fun _ => ok (.int (i * j))
  | _, _ => fail
def divOk (j : Int) : Prop := j ≠ 0 ∧ (j.natAbs < 1073741824 ∨ (0 < j ∧ j.natAbs.log2 < 9000))
def fdivR : D → D → R D
  | .int i, .int j => bd (req (divOk j)) fun _ => ok (.int (i.fdiv j))
  | _, _ => fail
def fmodR : D → D → R D
  | .int i, .int j => bd (req (j ≠ 0)) fun _ => ok (.int (i.fmod j))
  | _, _ => fail
def powR : D → D → R D
  | .int i, .int j => bd (req (0 ≤ j ∧ j ≤ 1000000 ∧ i.natAbs < 2 ^ 64)) fun _ => ok (.int (i ^ j.toNat))
  | _, _ => fail
theorem bop_add : Bop X.K (fun x y H Q => ((∃ i j, x = V.int i ∧ y = V.int j ∧ Q (.int (i + j)) H) ∨ (∃ i j, x = V.str i ∧ y = V.str j ∧ i.length + j.length ≤ sizeLine ∧ Q (.str (i ++ j)) H)) ∨ (rCatA X.K x y H Q ∨ rCat x y H Q)) addR := by
  intro c G H x y d e post Q w b1 b2 hp q
  cases d <;> cases e <;> try exact hp.elim
  · exact .inl (.inl ⟨_, _, b1.int, b2.int, q _ hp _ G H .refl w (.int _)⟩)
  · exact .inl (.inr ⟨_, _, b1.str, b2.str, hp.1, q _ hp.2 _ G H .refl w (.str _)⟩)
  · obtain ⟨t1, xs, rfl, s1, k1, _⟩ := b1.lst w
    obtain ⟨t2, ys, rfl, s2, k2, _⟩ := b2.lst w
    obtain ⟨hs, hp⟩ := hp
    refine .inr (.inr ⟨t1, t2, xs, ys, rfl, rfl, s1, s2, by rw [k1.length, k2.length]; exact hs, fun p np => ?_⟩)
    obtain ⟨w1, e1⟩ := w.newF np (.lst (xs ++ ys))
    exact q _ hp _ _ _ e1 w1 (.lst upd_same ((k1.mono e1.g).append (k2.mono e1.g)))
  · obtain ⟨t1, xs, rfl, s1, k1⟩ := b1.tup
    obtain ⟨t2, ys, rfl, s2, k2⟩ := b2.tup
    obtain ⟨hs, hp⟩ := hp
    rename_i ds es
    refine .inr (.inl ⟨t1, t2, xs, ys, rfl, rfl, sqT_mono w.sub s1, sqT_mono w.sub s2, by rw [k1.length, k2.length]; exact hs, fun h => ?_, fun _ h => ?_, fun _ _ p np => ?_⟩)
    · subst h; cases k1
      exact q _ hp _ G H .refl w (.tup s2 k2)
    · subst h; cases k2
      have hp' : post (.tuple ds) := by rw [List.append_nil] at hp; exact hp
      exact q _ hp' _ G H .refl w (.tup s1 k1)
    · obtain ⟨w1, e1⟩ := w.newF np (.tup (xs ++ ys))
      exact q _ hp _ _ _ e1 w1 (.tup (.of upd_same) ((k1.mono e1.g).append (k2.mono e1.g)))
theorem oAdd {f g : List Sl → R D} (ha : PE X a (tB X.K f)) (hb : PE X b (tB X.K g)) : PE X (.BinOp a .Add b pos) (tP X.K (m2 f g addR)) := pOp ((op_add.or op_add_str).or (op_catA.or op_cat)) bop_add ha hb
theorem bop_sub : Bop X.K (rI0 fun i j => .int (i - j)) subR := by
  intro c G H x y d e post Q w b1 b2 hp q
  cases d <;> cases e <;> try exact hp.elim
  exact ⟨_, _, b1.int, b2.int, q _ hp _ G H .refl w (.int _)⟩
theorem oSub {f g : List Sl → R D} (ha : PE X a (tB X.K f)) (hb : PE X b (tB X.K g)) : PE X (.BinOp a .Sub b pos) (tP X.K (m2 f g subR)) := pOp op_sub bop_sub ha hb
theorem bop_mul : Bop X.K (fun x y H Q => rI CMul (fun i j => .int (i * j)) x y H Q ∨ rI CMulW (fun i j => .int (i * j)) x y H Q) mulZ := by
  intro c G H x y d e post Q w b1 b2 hp q
  cases d <;> cases e <;> try exact hp.elim
  obtain ⟨h, hp⟩ := hp
  have fin := q _ hp _ G H .refl w (.int _)
  rcases h with h | h | h
  · exact .inl ⟨_, _, b1.int, b2.int, .inl h, fin⟩
  · exact .inl ⟨_, _, b1.int, b2.int, .inr h, fin⟩
  · exact .inr ⟨_, _, b1.int, b2.int, h, fin⟩
theorem oMulZ {f g : List Sl → R D} (ha : PE X a (tB X.K f)) (hb : PE X b (tB X.K g)) : PE X (.BinOp a .Mult b pos) (tP X.K (m2 f g mulZ)) := pOp (op_mul.or op_mulW) bop_mul ha hb
theorem bop_fdiv : Bop X.K (fun x y H Q => rI CDivN (fun i j => .int (i.fdiv j)) x y H Q ∨ rI CDivW (fun i j => .int (i / j)) x y H Q) fdivR := by
  intro c G H x y d e post Q w b1 b2 hp q
  cases d <;> cases e <;> try exact hp.elim
  obtain ⟨⟨h0, h⟩, hp⟩ := hp
  have fin := q _ hp _ G H .refl w (.int _)
  rcases h with h | h
  · exact .inl ⟨_, _, b1.int, b2.int, ⟨h0, h⟩, fin⟩
  · refine .inr ⟨_, _, b1.int, b2.int, h, ?_⟩
    show Q (.int (_ / _)) H
    rw [← Int.fdiv_eq_ediv_of_nonneg _ (Int.le_of_lt h.1)]
    exact fin
theorem oFdiv {f g : List Sl → R D} (ha : PE X a (tB X.K f)) (hb : PE X b (tB X.K g)) : PE X (.BinOp a .FloorDiv b pos) (tP X.K (m2 f g fdivR)) := pOp (op_fdivN.or op_fdivW) bop_fdiv ha hb
theorem bop_fmod : Bop X.K (rI (fun _ j => j ≠ 0) fun i j => .int (i.fmod j)) fmodR := by
  intro c G H x y d e post Q w b1 b2 hp q
  cases d <;> cases e <;> try exact hp.elim
  exact ⟨_, _, b1.int, b2.int, hp.1, q _ hp.2 _ G H .refl w (.int _)⟩
theorem oMod {f g : List Sl → R D} (ha : PE X a (tB X.K f)) (hb : PE X b (tB X.K g)) : PE X (.BinOp a .Mod b pos) (tP X.K (m2 f g fmodR)) := pOp op_modN bop_fmod ha hb
theorem bop_pow : Bop X.K (rI CPow fun i j => .int (i ^ j.toNat)) powR := by
  intro c G H x y d e post Q w b1 b2 hp q
  cases d <;> cases e <;> try exact hp.elim
  exact ⟨_, _, b1.int, b2.int, hp.1, q _ hp.2 _ G H .refl w (.int _)⟩
theorem oPow {f g : List Sl → R D} (ha : PE X a (tB X.K f)) (hb : PE X b (tB X.K g)) : PE X (.BinOp a .Pow b pos) (tP X.K (m2 f g powR)) := pOp op_pow bop_pow ha hb
def negR : D → R D
  | .int i => ok (.int (-i))
  | _ => fail
theorem oNeg {f : List Sl → R D} (ha : PE X a (tB X.K f)) : PE X (.UnaryOp .USub a pos) (tP X.K (m1 f negR)) := PE.wk (pe_un un_neg ha) fun σ H Q ⟨c, G, ρ, post, w, r, hf, q⟩ => by
  refine ⟨c, G, ρ, fun d => negR d post, w, r, hf, fun d hd v G1 H1 e1 w1 b1 => ?_⟩
  cases d <;> try exact hd.elim
  exact ⟨_, b1.int, q _ hd _ G1 H1 e1 w1 (.int _)⟩

/-! ### comparisons -/
def eqR (d e : D) : R D := bd (req (min d.depth e.depth ≤ 60)) fun _ => ok (.bool (PyData.eqv d e))
def neR (d e : D) : R D := bd (req (min d.depth e.depth ≤ 60)) fun _ => ok (.bool (!PyData.eqv d e))
def ordOk (d e : D) : Prop := W.alike d e = true ∧ d ≠ .none ∧ min d.depth e.depth ≤ 60
def ltR (d e : D) : R D := bd (req (ordOk d e)) fun _ => ok (.bool (W.dataLt d e))
def gtR (d e : D) : R D := bd (req (ordOk d e)) fun _ => ok (.bool (W.dataLt e d))
def leR (d e : D) : R D := bd (req (ordOk d e)) fun _ => ok (.bool (!W.dataLt e d))
def geR (d e : D) : R D := bd (req (ordOk d e)) fun _ => ok (.bool (!W.dataLt d e))
def rDat (K : PySem.W.Frag) (C : D → D → Prop) (g : D → D → Bool) : R2 := fun x y H Q => ∃ d e, Dq K H x d ∧ Dq K H y e ∧ C d e ∧ Q (.bl (g d e)) H
theorem op_dat {op : CmpOp} {C : D → D → Prop} {g : D → D → Bool}
    (rule : ∀ {A : Around} {E : Value → Shared → Prop} {s : Shared} {a b : Value} {da db : PyData} {as bs : List Addr} {Q : Value → Shared → Prop}, Reads s.heap a da as → Reads s.heap b db bs → da.plain = true → db.plain = true → A.units + 64 < cLine → C da db →
      Q (.bool (g da db)) s → wpAny (model X.prog X.w) A (compareOp op a b) Q E s) (hu : X.A.units + 64 < cLine) : OpR X (compareOp op) (rDat X.K C g) := by
  intro pins s σ H x y v u Q I rx ry h
  obtain ⟨d, e, hd, he, hc, q⟩ := h
  obtain ⟨as, r1⟩ := Dp.reads I d x v hd.dp rx
  obtain ⟨bs, r2⟩ := Dp.reads I e y u he.dp ry
  exact rule r1 r2 hd.plain he.plain hu hc ⟨.bl _, H, I, rfl, q⟩
theorem bop_dat {C : D → D → Prop} {g : D → D → Bool} {h : D → D → R D} (hh : ∀ d e, h d e = bd (req (C d e)) fun _ => ok (.bool (g d e))) : Bop X.K (rDat X.K C g) h := by
  intro c G H x y d e post Q w b1 b2 hp q
  rw [hh] at hp
  exact ⟨d, e, b1.dq w, b2.dq w, hp.1, q _ hp.2 _ G H .refl w (.bl _)⟩
abbrev dpOk (d e : D) : Prop := min d.depth e.depth ≤ 60
theorem op_eqQ (hu : X.A.units + 64 < cLine) : OpR X (compareOp .Eq) (rDat X.K dpOk PyData.eqv) := op_dat (fun r1 r2 p1 p2 hu hc q => SeqAt.eq_plain r1 r2 p1 p2 (by unfold dpOk at hc; omega) q) hu
theorem op_neQ (hu : X.A.units + 64 < cLine) : OpR X (compareOp .NotEq) (rDat X.K dpOk fun d e => !PyData.eqv d e) := op_dat (fun r1 r2 p1 p2 hu hc q => SeqAt.ne_plain r1 r2 p1 p2 (by unfold dpOk at hc; omega) q) hu
theorem op_ltQ (hu : X.A.units + 64 < cLine) : OpR X (compareOp .Lt) (rDat X.K ordOk W.dataLt) := op_dat (fun r1 r2 p1 p2 hu hc q => W.lt_data r1 r2 hc.1 hc.2.1 (by have := hc.2.2; omega) q) hu
theorem op_gtQ (hu : X.A.units + 64 < cLine) : OpR X (compareOp .Gt) (rDat X.K ordOk fun d e => W.dataLt e d) := op_dat (fun r1 r2 p1 p2 hu hc q => W.gt_data r1 r2 hc.1 hc.2.1 (by have := hc.2.2; omega) q) hu
theorem op_leQ (hu : X.A.units + 64 < cLine) : OpR X (compareOp .LtE) (rDat X.K ordOk fun d e => !W.dataLt e d) := op_dat (fun r1 r2 p1 p2 hu hc q => W.le_data r1 r2 hc.1 hc.2.1 (by have := hc.2.2; omega) q) hu
theorem op_geQ (hu : X.A.units + 64 < cLine) : OpR X (compareOp .GtE) (rDat X.K ordOk fun d e => !W.dataLt d e) := op_dat (fun r1 r2 p1 p2 hu hc q => W.ge_data r1 r2 hc.1 hc.2.1 (by have := hc.2.2; omega) q) hu
theorem bop_eq : Bop X.K (rDat X.K dpOk PyData.eqv) eqR := bop_dat fun _ _ => rfl
theorem bop_ne : Bop X.K (rDat X.K dpOk fun d e => !PyData.eqv d e) neR := bop_dat fun _ _ => rfl
theorem bop_lt : Bop X.K (rDat X.K ordOk W.dataLt) ltR := bop_dat fun _ _ => rfl
theorem bop_gt : Bop X.K (rDat X.K ordOk fun d e => W.dataLt e d) gtR := bop_dat fun _ _ => rfl
theorem bop_le : Bop X.K (rDat X.K ordOk fun d e => !W.dataLt e d) leR := bop_dat fun _ _ => rfl
theorem bop_ge : Bop X.K (rDat X.K ordOk fun d e => !W.dataLt d e) geR := bop_dat fun _ _ => rfl
/-- is None, is True, is False -/
def isNon : D → Bool
  | .none => true
  | _ => false
def isV (d e : D) : Option Bool := match e with
  | .none => some (isNon d)
  | .bool b => (match d with | .bool a => some (decide (a = b)) | _ => none)
  | _ => none
def isR (d e : D) : R D := match isV d e with | some b => ok (.bool b) | none => fail
def isNotR (d e : D) : R D := match isV d e with | some b => ok (.bool (!b)) | none => fail
theorem non_iff {K : PySem.W.Frag} {H : Hp} {v : V} {d : D} (h : Dq K H v d) : decide (v = .non) = isNon d := by cases h <;> rfl
theorem isV_inv {K : PySem.W.Frag} {c : Ct} {G H : Hp} {x y : V} {d e : D} {b : Bool} (w : W0 c.E G H) (b1 : Bv K c G H x d) (b2 : Bv K c G H y e) (h : isV d e = some b) : (y = .non ∧ decide (x = .non) = b) ∨ ∃ p q : Bool, x = .bl p ∧ y = .bl q ∧ decide (p = q) = b := by
  cases e with
  | none =>
    refine .inl ⟨b2.none, ?_⟩
    rw [non_iff (b1.dq w)]; exact Option.some.inj h
  | bool q =>
    cases d with
    | bool p => exact .inr ⟨_, _, b1.bool, b2.bool, Option.some.inj h⟩
    | _ => cases h
  | _ => cases h
theorem bop_is : Bop X.K (fun x y H Q => (y = V.non ∧ Q (.bl (decide (x = .non))) H) ∨ rIsB x y H Q) isR := by
  intro c G H x y d e post Q w b1 b2 hp q
  unfold isR at hp
  cases hb : isV d e with
  | none => rw [hb] at hp; exact hp.elim
  | some b =>
    rw [hb] at hp
    have fin := q _ hp _ G H .refl w (.bl _)
    rcases isV_inv w b1 b2 hb with ⟨h1, h2⟩ | ⟨p, r, h1, h2, h3⟩
    · exact .inl ⟨h1, by rw [h2]; exact fin⟩
    · exact .inr ⟨p, r, h1, h2, by rw [h3]; exact fin⟩
theorem bop_isnot : Bop X.K (fun x y H Q => (y = V.non ∧ Q (.bl (!decide (x = .non))) H) ∨ rNotB x y H Q) isNotR := by
  intro c G H x y d e post Q w b1 b2 hp q
  unfold isNotR at hp
  cases hb : isV d e with
  | none => rw [hb] at hp; exact hp.elim
  | some b =>
    rw [hb] at hp
    have fin := q _ hp _ G H .refl w (.bl _)
    rcases isV_inv w b1 b2 hb with ⟨h1, h2⟩ | ⟨p, r, h1, h2, h3⟩
    · exact .inl ⟨h1, by rw [h2]; exact fin⟩
    · exact .inr ⟨p, r, h1, h2, by rw [h3]; exact fin⟩
theorem op_isQ : OpR X (compareOp .Is) (fun x y H Q => (y = V.non ∧ Q (.bl (decide (x = .non))) H) ∨ rIsB x y H Q) := op_isN.or op_isBl
theorem op_isnotQ : OpR X (compareOp .IsNot) (fun x y H Q => (y = V.non ∧ Q (.bl (!decide (x = .non))) H) ∨ rNotB x y H Q) := op_notN.or op_notBl
/-- x in c -/
def strIn (x z : Str) : Bool := !(Builtin.Str.occurrences z x 0 z.length 1).isEmpty
def inV (d e : D) : Option Bool := match e with
  | .list xs => if min (PyData.depthAll xs) d.depth ≤ 60 then some (xs.any fun y => PyData.eqv y d) else none
  | .tuple xs => if min (PyData.depthAll xs) d.depth ≤ 60 then some (xs.any fun y => PyData.eqv y d) else none
  | .str z => (match d with | .str x => some (strIn x z) | _ => none)
  | _ => none
def inR (d e : D) : R D := match inV d e with | some b => ok (.bool b) | none => fail
def notInR (d e : D) : R D := match inV d e with | some b => ok (.bool (!b)) | none => fail
def rInQ (K : PySem.W.Frag) (neg : Bool) : R2 := fun x y H Q => ∃ d e b, Dq K H x d ∧ Dq K H y e ∧ inV d e = some b ∧ Q (.bl (if neg then !b else b)) H
theorem op_inQ (hu : X.A.units + 64 < cLine) : OpR X (compareOp .In) (rInQ X.K false) := by
  intro pins s σ H x y v u Q I rx ry h
  obtain ⟨d, e, b, hd, he, hc, q⟩ := h
  obtain ⟨as, r1⟩ := Dp.reads I d x v hd.dp rx
  obtain ⟨bs, r2⟩ := Dp.reads I e y u he.dp ry
  unfold inV at hc
  split at hc
  · split at hc
    · cases hc
      have hp := he.plain
      exact SeqAt.in_list_data r2 r1 hp hd.plain (by omega) ⟨.bl _, H, I, rfl, q⟩
    · cases hc
  · split at hc
    · cases hc
      have hp := he.plain
      exact SeqAt.in_tuple_data r2 r1 hp hd.plain (by omega) ⟨.bl _, H, I, rfl, q⟩
    · cases hc
  · split at hc
    · cases hc
      cases hd; cases he
      exact op_in_str pins s σ H _ _ v u Q I rx ry ⟨_, _, rfl, rfl, q⟩
    · cases hc
  · cases hc
theorem op_notInQ (hu : X.A.units + 64 < cLine) : OpR X (compareOp .NotIn) (rInQ X.K true) := by
  intro pins s σ H x y v u Q I rx ry h
  obtain ⟨d, e, b, hd, he, hc, q⟩ := h
  obtain ⟨as, r1⟩ := Dp.reads I d x v hd.dp rx
  obtain ⟨bs, r2⟩ := Dp.reads I e y u he.dp ry
  unfold inV at hc
  split at hc
  · split at hc
    · cases hc
      have hp := he.plain
      exact SeqAt.notIn_list_data r2 r1 hp hd.plain (by omega) ⟨.bl _, H, I, rfl, q⟩
    · cases hc
  · split at hc
    · cases hc
      have hp := he.plain
      exact SeqAt.notIn_tuple_data r2 r1 hp hd.plain (by omega) ⟨.bl _, H, I, rfl, q⟩
    · cases hc
  · split at hc
    · cases hc
      cases hd; cases he
      exact op_notIn_str pins s σ H _ _ v u Q I rx ry ⟨_, _, rfl, rfl, q⟩
    · cases hc
  · cases hc
theorem bop_in : Bop X.K (rInQ X.K false) inR := by
  intro c G H x y d e post Q w b1 b2 hp q
  unfold inR at hp
  cases hb : inV d e with
  | none => rw [hb] at hp; exact hp.elim
  | some b =>
    rw [hb] at hp
    exact ⟨d, e, b, b1.dq w, b2.dq w, hb, q _ hp _ G H .refl w (.bl _)⟩
theorem bop_notIn : Bop X.K (rInQ X.K true) notInR := by
  intro c G H x y d e post Q w b1 b2 hp q
  unfold notInR at hp
  cases hb : inV d e with
  | none => rw [hb] at hp; exact hp.elim
  | some b =>
    rw [hb] at hp
    exact ⟨d, e, b, b1.dq w, b2.dq w, hb, q _ hp _ G H .refl w (.bl _)⟩
/-- a comparison's rule, packed: which operator, what it asks of the stack -/
structure CmpQ (X : Cx) (op : CmpOp) (h : D → D → R D) : Prop where
  ex : ∃ r : R2, OpR X (compareOp op) r ∧ Bop X.K r h
theorem qEq (hu : X.A.units + 64 < cLine) : CmpQ X .Eq eqR := ⟨_, op_eqQ hu, bop_eq⟩
theorem qNe (hu : X.A.units + 64 < cLine) : CmpQ X .NotEq neR := ⟨_, op_neQ hu, bop_ne⟩
theorem qLt (hu : X.A.units + 64 < cLine) : CmpQ X .Lt ltR := ⟨_, op_ltQ hu, bop_lt⟩
theorem qGt (hu : X.A.units + 64 < cLine) : CmpQ X .Gt gtR := ⟨_, op_gtQ hu, bop_gt⟩
theorem qLe (hu : X.A.units + 64 < cLine) : CmpQ X .LtE leR := ⟨_, op_leQ hu, bop_le⟩
theorem qGe (hu : X.A.units + 64 < cLine) : CmpQ X .GtE geR := ⟨_, op_geQ hu, bop_ge⟩
theorem qIs (hu : X.A.units + 64 < cLine) : CmpQ X .Is isR := ⟨_, op_isQ, bop_is⟩
theorem qIsNot (hu : X.A.units + 64 < cLine) : CmpQ X .IsNot isNotR := ⟨_, op_isnotQ, bop_isnot⟩
theorem qIn (hu : X.A.units + 64 < cLine) : CmpQ X .In inR := ⟨_, op_inQ hu, bop_in⟩
theorem qNotIn (hu : X.A.units + 64 < cLine) : CmpQ X .NotIn notInR := ⟨_, op_notInQ hu, bop_notIn⟩
theorem cmp {op : CmpOp} {h : D → D → R D} (k : CmpQ X op h) {f g : List Sl → R D} (ha : PE X a (tB X.K f)) (hb : PE X b (tB X.K g)) (hm : behindInMarks op b = false := by first | exact nomark _ | rfl) : PE X (.Compare a [op] [b] pos) (tP X.K (m2 f g h)) := let ⟨_, o, q⟩ := k.ex; pCmp o q ha hb hm
theorem cmpT {op : CmpOp} {h : D → D → R D} (k : CmpQ X op h) {f g : List Sl → R D} (ha : PE X a (tB X.K f)) (hb : PE X b (tB X.K g)) (hm : behindInMarks op b = false := by first | exact nomark _ | rfl) : PT X (.Compare a [op] [b] pos) (tT X.K (m1 (m2 f g h) asB)) := let ⟨_, o, q⟩ := k.ex; pCmpT o q ha hb hm
/-- a chain of two -/
def chain {α : Type} (fin : D → R α) (h h' : D → D → R D) (f g k : List Sl → R D) : List Sl → R α := fun ρ => bd (f ρ) fun x => bd (g ρ) fun y => bd (h x y) fun z => bd (asB z) fun t => bd (if t = true then bd (k ρ) fun w => h' y w else ok (.bool false)) fin
theorem chain_of {K : PySem.W.Frag} {r r' : R2} {h h' : D → D → R D} (hr : Bop K r h) (hr' : Bop K r' h') {f g k : List Sl → R D} {σ : L2.St} {H : Hp} {Q : VK} (q : tP K (chain ok h h' f g k) σ H Q) : tChain r r' (tB K f) (tB K g) (tB K k) σ H Q := by
  obtain ⟨c, G, ρ, post, w, rs, hf, q⟩ := q
  refine ⟨c, G, ρ, _, w, rs, hf, fun x hx v G1 H1 e1 w1 b1 => ?_⟩
  refine ⟨c, G1, ρ, _, w.step w1 e1, rs.ext e1, hx, fun y hy u G2 H2 e2 w2 b2 => ?_⟩
  refine hr c G2 H2 v u x y _ _ w2 (b1.ext e2) b2 hy fun z hz v' G3 H3 e3 w3 d3 => ?_
  obtain ⟨t, rfl, ht⟩ := asB_inv hz
  cases d3
  refine ⟨t, rfl, ?_⟩
  cases t with
  | false => exact q _ ht _ G3 H3 ((e1.trans e2).trans e3) w3 (.bl _)
  | true =>
    rw [if_pos rfl]
    have w3' : Wd c G3 H3 := ((w.step w1 e1).step w2 e2).step w3 e3
    refine ⟨c, G3, ρ, fun w => h' y w post, w3', ((rs.ext e1).ext e2).ext e3, ht, fun z hz v' G4 H4 e4 w4 b4 => ?_⟩
    exact hr' c G4 H4 u v' y z post Q w4 ((b2.ext e3).ext e4) b4 hz fun z hz v' G' H' e5 w5 d5 => q z hz v' G' H' ((((e1.trans e2).trans e3).trans e4).trans e5) w5 d5
theorem cmp2 {op op' : CmpOp} {h h' : D → D → R D} {d : Expr} (k : CmpQ X op h) (k' : CmpQ X op' h') {f g l : List Sl → R D} (ha : PE X a (tB X.K f)) (hb : PE X b (tB X.K g)) (hc : PE X d (tB X.K l)) (hm : lastMarks [op, op'] [b, d] = false := by with_unfolding_all rfl) :
    PE X (.Compare a [op, op'] [b, d] pos) (tP X.K (chain ok h h' f g l)) := let ⟨_, o, z⟩ := k.ex; let ⟨_, o', z'⟩ := k'.ex; PE.wk (pe_chain o o' ha hb hc hm) fun _ _ _ q => chain_of z z' q
theorem cmp2T {op op' : CmpOp} {h h' : D → D → R D} {d : Expr} (k : CmpQ X op h) (k' : CmpQ X op' h') {f g l : List Sl → R D} (ha : PE X a (tB X.K f)) (hb : PE X b (tB X.K g)) (hc : PE X d (tB X.K l)) (hm : lastMarks [op, op'] [b, d] = false := by with_unfolding_all rfl) :
    PT X (.Compare a [op, op'] [b, d] pos) (tT X.K (m1 (chain ok h h' f g l) asB)) := let ⟨_, o, z⟩ := k.ex; let ⟨_, o', z'⟩ := k'.ex; PT.wk (pt_chain o o' ha hb hc hm) fun _ _ _ q => tTest_of (fun _ _ _ y => chain_of z z' y) q
end
end Pu

namespace Pu
open PySem PySem.Spec PyProof.Rows L2
variable [Tb]
section
variable {X : Cx} {e a b : Expr} {es : List Expr} {pos : Pos}
/-! ### truth, and, or, not -/
def truR : D → R Bool
  | .none => ok false
  | .bool b => ok b
  | .int i => ok (i != 0)
  | .str s => bd (req (s.length ≤ sizeLine)) fun _ => ok ((s.length : Int) != 0)
  | .list xs => ok (!xs.isEmpty)
  | .tuple xs => ok (!xs.isEmpty)
  | .dict _ => fail
theorem isEmpty_all {K : PySem.W.Frag} {G : Hp} {vs : List V} {ds : List D} (h : DqAll K G vs ds) : vs.isEmpty = ds.isEmpty := by cases h <;> rfl
theorem truR_inv {K : PySem.W.Frag} {c : Ct} {G H : Hp} {v : V} {d : D} {post : Bool → Prop} (w : W0 c.E G H) (b : Bv K c G H v d) (h : truR d post) : ∃ k, TruV K v H k ∧ post k := by
  cases d with
  | none => rw [b.none]; exact ⟨_, rfl, h⟩
  | bool k => rw [b.bool]; exact ⟨_, rfl, h⟩
  | int i => rw [b.int]; exact ⟨_, rfl, h⟩
  | str s => rw [b.str]; exact ⟨_, ⟨h.1, rfl⟩, h.2⟩
  | list xs =>
    obtain ⟨a, vs, rfl, h1, h2, _⟩ := b.lst w
    exact ⟨_, .inl ⟨vs, .of h1, rfl⟩, by rw [isEmpty_all h2]; exact h⟩
  | tuple xs =>
    obtain ⟨a, vs, rfl, h1, h2⟩ := b.tup
    exact ⟨_, .inr (.inl ⟨vs, sqT_mono w.sub h1, rfl⟩), by rw [isEmpty_all h2]; exact h⟩
  | dict _ => exact h.elim
theorem tst {f : List Sl → R D} (ha : PE X a (tB X.K f)) (he : ∀ whole, isTrue a X.env whole = (do let v ← whole; standAt a.pos; holding [v] (truthy v)) := by intro _; rfl) : PT X a (tT X.K (m1 f truR)) :=
  PT.wk (pt_truth ha he) fun σ H Q ⟨c, G, ρ, post, w, r, hf, q⟩ => ⟨c, G, ρ, fun d => truR d post, w, r, hf, fun d hd v G' H' e' w' bv => by
    obtain ⟨k, hk, hp⟩ := truR_inv w' bv hd
    exact ⟨k, hk, q k hp G' H' e' w'⟩⟩
def andT (f g : List Sl → R Bool) : List Sl → R Bool := fun ρ => bd (f ρ) fun b => if b = true then g ρ else ok false
def orT (f g : List Sl → R Bool) : List Sl → R Bool := fun ρ => bd (f ρ) fun b => if b = true then ok true else g ρ
def notT (f : List Sl → R Bool) : List Sl → R Bool := fun ρ => bd (f ρ) fun b => ok (!b)
theorem and1 {f : List Sl → R Bool} (ha : PT X a (tT X.K f)) : PW X (.BoolOp .And [a] pos) (tT X.K f) := pw_and1 ha
theorem or1 {f : List Sl → R Bool} (ha : PT X a (tT X.K f)) : PW X (.BoolOp .Or [a] pos) (tT X.K f) := pw_or1 ha
theorem andW {f g : List Sl → R Bool} {rest : List Expr} (ha : PT X a (tT X.K f)) (hb : PW X (.BoolOp .And (b :: rest) pos) (tT X.K g)) : PW X (.BoolOp .And (a :: b :: rest) pos) (tT X.K (andT f g)) :=
  PW.wk (pw_and ha hb) fun σ H Q ⟨c, G, ρ, post, w, r, hf, q⟩ => ⟨c, G, ρ, fun k => (if k = true then g ρ else ok false) post, w, r, hf, fun k hk G' H' e' w' => by
    cases k with
    | true => exact ⟨c, G', ρ, post, w.step w' e', r.ext e', hk, fun k hk G2 H2 e2 w2 => q k hk G2 H2 (e'.trans e2) w2⟩
    | false => exact q false hk G' H' e' w'⟩
theorem orW {f g : List Sl → R Bool} {rest : List Expr} (ha : PT X a (tT X.K f)) (hb : PW X (.BoolOp .Or (b :: rest) pos) (tT X.K g)) : PW X (.BoolOp .Or (a :: b :: rest) pos) (tT X.K (orT f g)) :=
  PW.wk (pw_or ha hb) fun σ H Q ⟨c, G, ρ, post, w, r, hf, q⟩ => ⟨c, G, ρ, fun k => (if k = true then ok true else g ρ) post, w, r, hf, fun k hk G' H' e' w' => by
    cases k with
    | false => exact ⟨c, G', ρ, post, w.step w' e', r.ext e', hk, fun k hk G2 H2 e2 w2 => q k hk G2 H2 (e'.trans e2) w2⟩
    | true => exact q true hk G' H' e' w'⟩
theorem notP {f : List Sl → R Bool} (ha : PT X a (tT X.K f)) : PT X (.UnaryOp .Not a pos) (tT X.K (notT f)) :=
  PT.wk (pt_not ha) fun σ H Q ⟨c, G, ρ, post, w, r, hf, q⟩ => ⟨c, G, ρ, fun k => post (!k), w, r, hf, fun k hk G' H' e' w' => q _ hk G' H' e' w'⟩
/-- .. as values -/
def andV (f g : List Sl → R D) : List Sl → R D := fun ρ => bd (f ρ) fun d => bd (truR d) fun b => if b = true then g ρ else ok d
def orV (f g : List Sl → R D) : List Sl → R D := fun ρ => bd (f ρ) fun d => bd (truR d) fun b => if b = true then ok d else g ρ
def notV (f : List Sl → R D) : List Sl → R D := fun ρ => bd (f ρ) fun d => bd (truR d) fun b => ok (.bool (!b))
theorem v1 {op} {f : List Sl → R D} (ha : PE X a (tP X.K f)) : PE X (.BoolOp op [a] pos) (tP X.K f) := pe_one ha
theorem andP {f g : List Sl → R D} {rest : List Expr} (ha : PE X a (tP X.K f)) (hb : PE X (.BoolOp .And (b :: rest) pos) (tP X.K g)) : PE X (.BoolOp .And (a :: b :: rest) pos) (tP X.K (andV f g)) :=
  PE.wk (pe_andT ha hb) fun σ H Q ⟨c, G, ρ, post, w, r, hf, q⟩ => ⟨c, G, ρ, fun d => bd (truR d) (fun b => if b = true then g ρ else ok d) post, w, r, hf, fun d hd v G' H' e' w' k => by
    obtain ⟨t, ht, hp⟩ := truR_inv w' (.inl k : Bv X.K c G' H' v d) hd
    refine ⟨t, ht, ?_⟩
    cases t with
    | true => rw [if_pos rfl]; exact ⟨c, G', ρ, post, w.step w' e', r.ext e', hp, fun k hk v G2 H2 e2 w2 => q k hk v G2 H2 (e'.trans e2) w2⟩
    | false => exact q d hp v G' H' e' w' k⟩
theorem orP {f g : List Sl → R D} {rest : List Expr} (ha : PE X a (tP X.K f)) (hb : PE X (.BoolOp .Or (b :: rest) pos) (tP X.K g)) : PE X (.BoolOp .Or (a :: b :: rest) pos) (tP X.K (orV f g)) :=
  PE.wk (pe_orT ha hb) fun σ H Q ⟨c, G, ρ, post, w, r, hf, q⟩ => ⟨c, G, ρ, fun d => bd (truR d) (fun b => if b = true then ok d else g ρ) post, w, r, hf, fun d hd v G' H' e' w' k => by
    obtain ⟨t, ht, hp⟩ := truR_inv w' (.inl k : Bv X.K c G' H' v d) hd
    refine ⟨t, ht, ?_⟩
    cases t with
    | false => exact ⟨c, G', ρ, post, w.step w' e', r.ext e', hp, fun k hk v G2 H2 e2 w2 => q k hk v G2 H2 (e'.trans e2) w2⟩
    | true => rw [if_pos rfl]; exact q d hp v G' H' e' w' k⟩
theorem notVP {f : List Sl → R D} (ha : PE X a (tB X.K f)) : PE X (.UnaryOp .Not a pos) (tP X.K (notV f)) :=
  PE.wk (pe_notT ha) fun σ H Q ⟨c, G, ρ, post, w, r, hf, q⟩ => ⟨c, G, ρ, _, w, r, hf, fun d hd v G' H' e' w' k => by
    obtain ⟨t, ht, hp⟩ := truR_inv w' k hd
    exact ⟨t, ht, q _ hp _ G' H' e' w' (.bl _)⟩⟩
def ifV {α : Type} (t : List Sl → R Bool) (f g : List Sl → R α) : List Sl → R α := fun ρ => bd (t ρ) fun b => if b = true then f ρ else g ρ
theorem ifP {t : List Sl → R Bool} {f g : List Sl → R D} {cnd : Expr} (hc : PT X cnd (tT X.K t)) (ha : PE X a (tP X.K f)) (hb : PE X b (tP X.K g)) : PE X (.IfExp cnd a b pos) (tP X.K (ifV t f g)) :=
  PE.wk (pe_ifExp hc ha hb) fun σ H Q ⟨c, G, ρ, post, w, r, hf, q⟩ => ⟨c, G, ρ, fun k => (if k = true then f ρ else g ρ) post, w, r, hf, fun k hk G' H' e' w' => by
    cases k with
    | true => rw [if_pos rfl]; exact ⟨c, G', ρ, post, w.step w' e', r.ext e', hk, fun k hk v G2 H2 e2 w2 => q k hk v G2 H2 (e'.trans e2) w2⟩
    | false => exact ⟨c, G', ρ, post, w.step w' e', r.ext e', hk, fun k hk v G2 H2 e2 w2 => q k hk v G2 H2 (e'.trans e2) w2⟩⟩
theorem ifF {t : List Sl → R Bool} {f g : List Sl → R (List D)} {cnd : Expr} (hc : PT X cnd (tT X.K t)) (ha : PE X a (tF X.K f)) (hb : PE X b (tF X.K g)) : PE X (.IfExp cnd a b pos) (tF X.K (ifV t f g)) :=
  PE.wk (pe_ifExp hc ha hb) fun σ H Q ⟨c, G, ρ, post, w, r, hf, q⟩ => ⟨c, G, ρ, fun k => (if k = true then f ρ else g ρ) post, w, r, hf, fun k hk G' H' e' w' => by
    have ne : ∀ p, H' p = none → ¬ c.E.vol p → H p = none := fun p e v => by
      cases q : H p with
      | none => rfl
      | some o => rw [e'.h p o q v] at e; cases e
    cases k with
    | true =>
      exact ⟨c, G', ρ, post, w.step w' e', r.ext e', hk, fun k hk p G2 H2 n e2 w2 o => q k hk p G2 H2 (ne p n o.v) (e'.trans e2) w2 o⟩
    | false =>
      exact ⟨c, G', ρ, post, w.step w' e', r.ext e', hk, fun k hk p G2 H2 n e2 w2 o => q k hk p G2 H2 (ne p n o.v) (e'.trans e2) w2 o⟩⟩

/-! ### subscripts, slices -/
theorem DqAll.atI {K : PySem.W.Frag} {G : Hp} {vs : List V} {ds : List D} (h : DqAll K G vs ds) {i : Int} {d : D} (e : L2.atI ds i = some d) : ∃ v, L2.atI vs i = some v ∧ Dq K G v d := by
  unfold L2.atI at e ⊢
  rw [h.length]
  cases q : L2.ixN ds.length i with
  | none => rw [q] at e; cases e
  | some j =>
    rw [q] at e
    obtain ⟨v, h1, h2⟩ := h.get (i := j) (d := d) e
    exact ⟨v, h1, h2⟩
def ixR : D → D → R D
  | .list xs, .int i => (match L2.atI xs i with | some x => ok x | none => fail)
  | .tuple xs, .int i => (match L2.atI xs i with | some x => ok x | none => fail)
  | .str z, .int i => (match L2.atI z.cps.toList i with | some x => bd (req (z.length ≤ sizeLine)) fun _ => ok (.str ⟨#[x]⟩) | none => fail)
  | _, _ => fail
theorem bop_ix : Bop X.K (rIx X.K) ixR := by
  intro c G H x y d e post Q w b1 b2 hp q
  cases d <;> cases e <;> try exact hp.elim
  · rename_i s i
    simp only [ixR] at hp
    cases hx : L2.atI s.cps.toList i with
    | none => rw [hx] at hp; exact hp.elim
    | some z =>
      rw [hx] at hp
      exact .inr (.inr ⟨s, i, z, b1.str, b2.int, hp.1, hx, q _ hp.2 _ G H .refl w (.str _)⟩)
  · rename_i xs i
    simp only [ixR] at hp
    cases hx : L2.atI xs i with
    | none => rw [hx] at hp; exact hp.elim
    | some z =>
      rw [hx] at hp
      obtain ⟨p, vs, rfl, h1, h2, _⟩ := b1.lst w
      obtain ⟨v, h3, h4⟩ := h2.atI hx
      exact .inl ⟨p, vs, i, v, rfl, b2.int, .of h1, h3, q _ hp _ G H .refl w h4⟩
  · rename_i xs i
    simp only [ixR] at hp
    cases hx : L2.atI xs i with
    | none => rw [hx] at hp; exact hp.elim
    | some z =>
      rw [hx] at hp
      obtain ⟨p, vs, rfl, h1, h2⟩ := b1.tup
      obtain ⟨v, h3, h4⟩ := h2.atI hx
      exact .inr (.inl ⟨p, vs, i, v, rfl, b2.int, sqT_mono w.sub h1, h3, q _ hp _ G H .refl w h4⟩)
theorem ix {f g : List Sl → R D} (ha : PE X a (tB X.K f)) (hb : PE X b (tB X.K g)) (hs : PlainIx b := by exact fun _ _ => rfl) : PE X (.Subscript a b pos) (tP X.K (m2 f g ixR)) := PE.wk (pe_ix ix_seq ha hb hs) fun _ _ _ q => bop2 bop_ix q
/-- the parts of a slice -/
def tO (K : PySem.W.Frag) (f : List Sl → R (Option Int)) : TO := fun σ H Q => ∃ (c : Ct) (G : Hp) (ρ : List Sl) (post : Option Int → Prop), Wd c G H ∧ RS K c G H σ ρ ∧ f ρ post ∧
  ∀ r, post r → ∀ G' H', Ext c.E G H G' H' → W0 c.E G' H' → Q r H'
def asI : D → R (Option Int)
  | .int i => ok (some i)
  | _ => fail
theorem PO.wk {o : Option Expr} {t t' : TO} (h : PO X o t) (w : ∀ σ H Q, t' σ H Q → t σ H Q) : PO X o t' := ⟨fun pins s σ H Q I q => h.run pins s σ H Q I (w σ H Q q)⟩
theorem sN : PO X none (tO X.K fun _ => ok none) := PO.wk po_none fun σ H Q ⟨c, G, ρ, post, w, r, hf, q⟩ => q none hf G H .refl w.w
theorem sE {f : List Sl → R D} (ha : PE X a (tB X.K f)) : PO X (some a) (tO X.K (m1 f asI)) := PO.wk (po_some ha) fun σ H Q ⟨c, G, ρ, post, w, r, hf, q⟩ =>
  ⟨c, G, ρ, fun d => asI d post, w, r, hf, fun d hd v G' H' e' w' k => by
    cases d <;> try exact hd.elim
    exact ⟨_, k.int, q _ hd G' H' e' w'⟩⟩
def cutG {α : Type} (xs : List α) (lo hi : Option Int) : List α := (xs.drop (HT.sIx xs.length 0 lo)).take (HT.sIx xs.length xs.length hi - HT.sIx xs.length 0 lo)
theorem DqAll.cut {K : PySem.W.Frag} {G : Hp} {vs : List V} {ds : List D} (h : DqAll K G vs ds) (lo hi : Option Int) : DqAll K G (cutV vs lo hi) (cutG ds lo hi) := by
  unfold cutV cutG
  rw [h.length]
  exact (h.drop _).take _
theorem cut_all {α : Type} {xs : List α} {lo hi : Option Int} (h : HT.sIx xs.length 0 lo = 0 ∧ HT.sIx xs.length xs.length hi = xs.length) : cutG xs lo hi = xs := by
  unfold cutG; rw [h.1, h.2]; simp
def slR (d : D) (lo hi : Option Int) : R D := match d with
  | .list xs => ok (.list (cutG xs lo hi))
  | .tuple xs => ok (.tuple (cutG xs lo hi))
  | .str z => bd (req (z.length ≤ sizeLine)) fun _ => ok (.str (cutS z lo hi))
  | _ => fail
def slF (d : D) (lo hi : Option Int) : R (List D) := match d with
  | .list xs => ok (cutG xs lo hi)
  | _ => fail
def m3 {α β γ δ : Type} (f : List Sl → R α) (g : List Sl → R β) (l : List Sl → R γ) (h : α → β → γ → R δ) : List Sl → R δ := fun ρ => bd (f ρ) fun x => bd (g ρ) fun y => bd (l ρ) fun z => h x y z
theorem sl {f : List Sl → R D} {g l : List Sl → R (Option Int)} {lo hi : Option Expr} {p2 : Pos} (ha : PE X a (tB X.K f)) (hl : PO X lo (tO X.K g)) (hu : PO X hi (tO X.K l)) : PE X (.Subscript a (.Slice lo hi none p2) pos) (tP X.K (m3 f g l slR)) :=
  PE.wk (pe_slice ((sl_list.or sl_tupA).or sl_str) ha hl hu) fun σ H Q ⟨c, G, ρ, post, w, r, hf, q⟩ => by
    refine ⟨c, G, ρ, _, w, r, hf, fun d hd v G1 H1 e1 w1 b1 => ?_⟩
    refine ⟨c, G1, ρ, _, w.step w1 e1, r.ext e1, hd, fun lo hlo G2 H2 e2 w2 => ?_⟩
    refine ⟨c, G2, ρ, _, (w.step w1 e1).step w2 e2, (r.ext e1).ext e2, hlo, fun hi hhi G3 H3 e3 w3 => ?_⟩
    have e13 := (e1.trans e2).trans e3
    have b3 := (b1.ext e2).ext e3
    cases d <;> try exact hhi.elim
    · exact .inr ⟨_, b3.str, hhi.1, q _ hhi.2 _ G3 H3 e13 w3 (.str _)⟩
    · obtain ⟨p, vs, rfl, h1, h2, _⟩ := b3.lst w3
      refine .inl (.inl ⟨p, vs, rfl, .of h1, fun n hn => ?_⟩)
      obtain ⟨w4, e4⟩ := w3.newF hn (.lst (cutV vs lo hi))
      exact q _ hhi _ _ _ (e13.trans e4) w4 (.lst upd_same ((h2.cut lo hi).mono e4.g))
    · obtain ⟨p, vs, rfl, h1, h2⟩ := b3.tup
      refine .inl (.inr ⟨p, vs, rfl, sqT_mono w3.sub h1, fun hw => ?_, fun hw n hn => ?_⟩)
      · have hp := hhi
        unfold slR at hp
        rw [h2.length] at hw
        simp only [cut_all hw] at hp
        exact q _ hp _ G3 H3 e13 w3 (.tup h1 h2)
      · obtain ⟨w4, e4⟩ := w3.newF hn (.tup (cutV vs lo hi))
        exact q _ hhi _ _ _ (e13.trans e4) w4 (.tup (.of upd_same) ((h2.cut lo hi).mono e4.g))
theorem Wd.newO {K : PySem.W.Frag} {c : Ct} {G0 H0 G H : Hp} {p : Addr} (w : Wd c G H) (n : H p = none) {vs : List V} {ds : List D} (q : DqAll K G vs ds) : W0 c.E G (upd H p (.lst vs)) ∧ Ext c.E G H G (upd H p (.lst vs)) ∧ Own K c G (upd H p (.lst vs)) p ds := by
  obtain ⟨g, v⟩ := w.w.fresh n
  obtain ⟨w1, e1⟩ := w.w.new n (.lst vs)
  refine ⟨w1, e1, ⟨vs, upd_same, q⟩, g, ?_, v⟩
  cases e : c.H0 p with
  | none => rfl
  | some o => rw [w.e.h p o e v] at n; cases n
theorem Ext.none {E : Ef} {G H G' H' : Hp} (e : Ext E G H G' H') {p : Addr} (n : H' p = none) (v : ¬ E.vol p) : H p = none := by
  cases q : H p with
  | none => rfl
  | some o => rw [e.h p o q v] at n; cases n
/-- a new list at a new place -/
theorem fin_new {K : PySem.W.Frag} {c : Ct} {G H G1 H1 : Hp} {p : Addr} {vs : List V} {ds : List D} {post : List D → Prop} {Q : VK} (w : Wd c G1 H1) (e : Ext c.E G H G1 H1) (n : H1 p = none) (k : DqAll K G1 vs ds) (hp : post ds)
    (q : ∀ r, post r → ∀ a G' H', H a = none → Ext c.E G H G' H' → W0 c.E G' H' → Own K c G' H' a r → Q (.ref a) H') : Q (.ref p) (upd H1 p (.lst vs)) := by
  obtain ⟨w1, e1, o⟩ := w.newO (G0 := G) (H0 := H) n k
  exact q ds hp p G1 _ (e.none n (w.w.fresh n).2) (e.trans e1) w1 o
theorem slL {f : List Sl → R D} {g l : List Sl → R (Option Int)} {lo hi : Option Expr} {p2 : Pos} (ha : PE X a (tB X.K f)) (hl : PO X lo (tO X.K g)) (hu : PO X hi (tO X.K l)) : PE X (.Subscript a (.Slice lo hi none p2) pos) (tF X.K (m3 f g l slF)) :=
  PE.wk (pe_slice sl_list ha hl hu) fun σ H Q ⟨c, G, ρ, post, w, r, hf, q⟩ => by
    refine ⟨c, G, ρ, _, w, r, hf, fun d hd v G1 H1 e1 w1 b1 => ?_⟩
    refine ⟨c, G1, ρ, _, w.step w1 e1, r.ext e1, hd, fun lo hlo G2 H2 e2 w2 => ?_⟩
    refine ⟨c, G2, ρ, _, (w.step w1 e1).step w2 e2, (r.ext e1).ext e2, hlo, fun hi hhi G3 H3 e3 w3 => ?_⟩
    have e13 := (e1.trans e2).trans e3
    have b3 := (b1.ext e2).ext e3
    cases d <;> try exact hhi.elim
    obtain ⟨p, vs, rfl, h1, h2, _⟩ := b3.lst w3
    exact ⟨p, vs, rfl, .of h1, fun n hn => fin_new (w.step w3 e13) e13 hn (h2.cut lo hi) hhi q⟩
/-- xs[::-1] of a list -/
def revF : D → R (List D)
  | .list xs => ok xs.reverse
  | _ => fail
theorem revL {f : List Sl → R D} {k : Nat} {p1 p2 p3 : Pos} (ha : PE X a (tB X.K f)) : PE X (.Subscript a (.Slice none none (some (.UnaryOp .USub (.Constant (.int 1) k p1) p2)) p3) pos) (tF X.K (m1 f revF)) :=
  PE.wk (pe_revL ha) fun σ H Q ⟨c, G, ρ, post, w, r, hf, q⟩ => ⟨c, G, ρ, _, w, r, hf, fun d hd v G1 H1 e1 w1 b1 => by
    cases d <;> try exact hd.elim
    obtain ⟨p, vs, rfl, h1, h2, _⟩ := b1.lst w1
    exact ⟨p, vs, rfl, .of h1, fun n hn => fin_new (w.step w1 e1) e1 hn h2.reverse hd q⟩⟩

/-! ### arguments, displays -/
def consR {α : Type} (f : List Sl → R α) (g : List Sl → R (List α)) : List Sl → R (List α) := fun ρ => bd (f ρ) fun x => bd (g ρ) fun xs => ok (x :: xs)
def nilR {α : Type} : List Sl → R (List α) := fun _ => ok []
theorem aN : PA X [] (tAB X.K nilR) := PA.wk pa_nil fun σ H Q ⟨c, G, ρ, post, w, r, hf, q⟩ => q [] hf [] G H .refl w.w .nil
theorem aC {f : List Sl → R D} {g : List Sl → R (List D)} (ha : PE X a (tB X.K f)) (hr : PA X es (tAB X.K g)) (hs : starEach (a :: es) X.env = (false, eval a X.env) :: starEach es X.env := by rfl) : PA X (a :: es) (tAB X.K (consR f g)) :=
  PA.wk (pa_cons ha hr hs) fun σ H Q ⟨c, G, ρ, post, w, r, hf, q⟩ => by
    refine ⟨c, G, ρ, _, w, r, hf, fun d hd v G1 H1 e1 w1 b1 => ?_⟩
    exact ⟨c, G1, ρ, _, w.step w1 e1, r.ext e1, hd, fun ds hds vs G2 H2 e2 w2 b2 => q (d :: ds) hds _ G2 H2 (e1.trans e2) w2 (.cons (b1.ext e2) b2)⟩
theorem fN : PA X [] (tAF X.K nilR) := PA.wk pa_nil fun σ H Q ⟨c, G, ρ, post, w, r, hf, q⟩ => q [] hf [] G H .refl w.w .nil
theorem fC {f : List Sl → R D} {g : List Sl → R (List D)} (ha : PE X a (tP X.K f)) (hr : PA X es (tAF X.K g)) (hs : starEach (a :: es) X.env = (false, eval a X.env) :: starEach es X.env := by rfl) : PA X (a :: es) (tAF X.K (consR f g)) :=
  PA.wk (pa_cons ha hr hs) fun σ H Q ⟨c, G, ρ, post, w, r, hf, q⟩ => by
    refine ⟨c, G, ρ, _, w, r, hf, fun d hd v G1 H1 e1 w1 b1 => ?_⟩
    exact ⟨c, G1, ρ, _, w.step w1 e1, r.ext e1, hd, fun ds hds vs G2 H2 e2 w2 b2 => q (d :: ds) hds _ G2 H2 (e1.trans e2) w2 (.cons (b1.mono e2.g) b2)⟩
def tupR (ds : List D) : R D := bd (req (ds.length ≤ sizeLine)) fun _ => ok (.tuple ds)
def lstR (ds : List D) : R (List D) := bd (req (ds.length ≤ sizeLine)) fun _ => ok ds
theorem tup {f : List Sl → R (List D)} {k} (h : PA X es (tAF X.K f)) : PE X (.Tuple es k pos) (tP X.K (m1 f tupR)) := PE.wk (pe_tup h) fun σ H Q ⟨c, G, ρ, post, w, r, hf, q⟩ =>
  ⟨c, G, ρ, _, w, r, hf, fun ds hd vs G1 H1 e1 w1 b1 => ⟨by rw [b1.length]; exact hd.1, fun n hn => by
    obtain ⟨w4, e4⟩ := w1.newF hn (.tup vs)
    exact q _ hd.2 _ _ _ (e1.trans e4) w4 (.tup (.of upd_same) (b1.mono e4.g))⟩⟩
theorem lst {f : List Sl → R (List D)} (h : PA X es (tAF X.K f)) : PE X (.List es pos) (tF X.K (m1 f lstR)) := PE.wk (pe_lst h) fun σ H Q ⟨c, G, ρ, post, w, r, hf, q⟩ =>
  ⟨c, G, ρ, _, w, r, hf, fun ds hd vs G1 H1 e1 w1 b1 => ⟨by rw [b1.length]; exact hd.1, fun n hn => fin_new (w.step w1 e1) e1 hn b1 hd.2 q⟩⟩
/-- xs + ys, lists -/
def catF : D → D → R (List D)
  | .list x, .list y => bd (req (x.length + y.length ≤ sizeLine)) fun _ => ok (x ++ y)
  | _, _ => fail
theorem catL {f g : List Sl → R D} (ha : PE X a (tB X.K f)) (hb : PE X b (tB X.K g)) : PE X (.BinOp a .Add b pos) (tF X.K (m2 f g catF)) := PE.wk (pe_op op_cat ha hb) fun σ H Q ⟨c, G, ρ, post, w, r, hf, q⟩ => by
  refine ⟨c, G, ρ, _, w, r, hf, fun d hd v G1 H1 e1 w1 b1 => ?_⟩
  refine ⟨c, G1, ρ, _, w.step w1 e1, r.ext e1, hd, fun y hy u G2 H2 e2 w2 b2 => ?_⟩
  cases d <;> cases y <;> try exact hy.elim
  obtain ⟨p, vs, rfl, h1, h2, _⟩ := (b1.ext e2).lst w2
  obtain ⟨p', us, rfl, h1', h2', _⟩ := b2.lst w2
  have e12 := e1.trans e2
  exact ⟨p, p', vs, us, rfl, rfl, h1, h1', by rw [h2.length, h2'.length]; exact hy.1, fun n hn => fin_new (w.step w2 e12) e12 hn (h2.append h2') hy.2 q⟩

/-! ### built-ins by name -/
def Bcl (K : PySem.W.Frag) (r : List V → Hp → VK → Prop) (h : List D → R D) : Prop := ∀ (c : Ct) (G H : Hp) (vs : List V) (ds : List D) (post : D → Prop) (Q : VK), W0 c.E G H → BvAll K c G H vs ds → h ds post →
  (∀ z, post z → ∀ v G' H', Ext c.E G H G' H' → W0 c.E G' H' → Dq K G' v z → Q v H') → r vs H Q
def BclF (K : PySem.W.Frag) (r : List V → Hp → VK → Prop) (h : List D → R (List D)) : Prop := ∀ (c : Ct) (G H : Hp) (vs : List V) (ds : List D) (post : List D → Prop) (Q : VK), Wd c G H → BvAll K c G H vs ds → h ds post →
  (∀ r, post r → ∀ a G' H', H a = none → Ext c.E G H G' H' → W0 c.E G' H' → Own K c G' H' a r → Q (.ref a) H') → r vs H Q
structure CalQ (X : Cx) (u : Value) (h : List D → R D) : Prop where
  ex : ∃ r, CallR X u r ∧ Bcl X.K r h
structure CalF (X : Cx) (u : Value) (h : List D → R (List D)) : Prop where
  ex : ∃ r, CallR X u r ∧ BclF X.K r h
section
variable {x : Str} {p : Pos} {id T : String}
theorem cal {f : List Sl → R (List D)} {h : List D → R D} (k : CalQ X (.builtin id) h) (hm : X.mg x = none) (ha : PA X (e :: es) (tAB X.K f)) (hg : Gl X x := by rfl) (hv : bootBuiltins x = some (.builtin id) := by decide +kernel) (hn : x ≠ "__name__" := by decide) (hdb : (x == ("__debug__" : Str)) = false := by decide)
    (he : starEach (e :: es) X.env = (false, eval e X.env) :: starEach es X.env := by rfl) (hpl : (backTo pos (starEach es X.env)).any (·.1) = false := by rfl) : PE X (.Call (.Name x p) (e :: es) [] pos) (tP X.K (m1 f h)) :=
  let ⟨_, k1, k2⟩ := k.ex
  PE.wk (pe_callB k1 hg hm hv ha hn hdb he hpl) fun σ H Q ⟨c, G, ρ, post, w, r, hf, q⟩ => ⟨c, G, ρ, _, w, r, hf, fun ds hd vs G1 H1 e1 w1 b1 => k2 c G1 H1 vs ds post Q w1 b1 hd fun z hz v G' H' e2 w2 d2 => q z hz v G' H' (e1.trans e2) w2 d2⟩
theorem calT {f : List Sl → R (List D)} {h : List D → R D} (k : CalQ X (.type T) h) (hm : X.mg x = none) (ha : PA X (e :: es) (tAB X.K f)) (hg : Gl X x := by rfl) (hv : bootBuiltins x = some (.type T) := by decide +kernel) (hn : x ≠ "__name__" := by decide) (hdb : (x == ("__debug__" : Str)) = false := by decide)
    (he : starEach (e :: es) X.env = (false, eval e X.env) :: starEach es X.env := by rfl) (hpl : (backTo pos (starEach es X.env)).any (·.1) = false := by rfl) : PE X (.Call (.Name x p) (e :: es) [] pos) (tP X.K (m1 f h)) :=
  let ⟨_, k1, k2⟩ := k.ex
  PE.wk (pe_callTy k1 hg hm hv ha hn hdb he hpl) fun σ H Q ⟨c, G, ρ, post, w, r, hf, q⟩ => ⟨c, G, ρ, _, w, r, hf, fun ds hd vs G1 H1 e1 w1 b1 => k2 c G1 H1 vs ds post Q w1 b1 hd fun z hz v G' H' e2 w2 d2 => q z hz v G' H' (e1.trans e2) w2 d2⟩
theorem calF {f : List Sl → R (List D)} {h : List D → R (List D)} (k : CalF X (.builtin id) h) (hm : X.mg x = none) (ha : PA X (e :: es) (tAB X.K f)) (hg : Gl X x := by rfl) (hv : bootBuiltins x = some (.builtin id) := by decide +kernel) (hn : x ≠ "__name__" := by decide) (hdb : (x == ("__debug__" : Str)) = false := by decide)
    (he : starEach (e :: es) X.env = (false, eval e X.env) :: starEach es X.env := by rfl) (hpl : (backTo pos (starEach es X.env)).any (·.1) = false := by rfl) : PE X (.Call (.Name x p) (e :: es) [] pos) (tF X.K (m1 f h)) :=
  let ⟨_, k1, k2⟩ := k.ex
  PE.wk (pe_callB k1 hg hm hv ha hn hdb he hpl) fun σ H Q ⟨c, G, ρ, post, w, r, hf, q⟩ => ⟨c, G, ρ, _, w, r, hf, fun ds hd vs G1 H1 e1 w1 b1 => k2 c G1 H1 vs ds post Q (w.step w1 e1) b1 hd fun z hz a G' H' n e2 w2 d2 => q z hz a G' H' (e1.none n d2.v) (e1.trans e2) w2 d2⟩
theorem calTF {f : List Sl → R (List D)} {h : List D → R (List D)} (k : CalF X (.type T) h) (hm : X.mg x = none) (ha : PA X (e :: es) (tAB X.K f)) (hg : Gl X x := by rfl) (hv : bootBuiltins x = some (.type T) := by decide +kernel) (hn : x ≠ "__name__" := by decide) (hdb : (x == ("__debug__" : Str)) = false := by decide)
    (he : starEach (e :: es) X.env = (false, eval e X.env) :: starEach es X.env := by rfl) (hpl : (backTo pos (starEach es X.env)).any (·.1) = false := by rfl) : PE X (.Call (.Name x p) (e :: es) [] pos) (tF X.K (m1 f h)) :=
  let ⟨_, k1, k2⟩ := k.ex
  PE.wk (pe_callTy k1 hg hm hv ha hn hdb he hpl) fun σ H Q ⟨c, G, ρ, post, w, r, hf, q⟩ => ⟨c, G, ρ, _, w, r, hf, fun ds hd vs G1 H1 e1 w1 b1 => k2 c G1 H1 vs ds post Q (w.step w1 e1) b1 hd fun z hz a G' H' n e2 w2 d2 => q z hz a G' H' (e1.none n d2.v) (e1.trans e2) w2 d2⟩
end
theorem BvAll.one {K : PySem.W.Frag} {c : Ct} {G H : Hp} {vs : List V} {d : D} (h : BvAll K c G H vs [d]) : ∃ v, vs = [v] ∧ Bv K c G H v d := by
  cases h with | cons b t => cases t; exact ⟨_, rfl, b⟩
theorem BvAll.two {K : PySem.W.Frag} {c : Ct} {G H : Hp} {vs : List V} {d e : D} (h : BvAll K c G H vs [d, e]) : ∃ v u, vs = [v, u] ∧ Bv K c G H v d ∧ Bv K c G H u e := by
  cases h with | cons b t => cases t with | cons b' t' => cases t'; exact ⟨_, _, rfl, b, b'⟩
def lenR : List D → R D
  | [.list xs] => ok (.int xs.length)
  | [.tuple xs] => ok (.int xs.length)
  | [.str s] => bd (req (s.length ≤ sizeLine)) fun _ => ok (.int s.length)
  | _ => fail
theorem kLen : CalQ X (.builtin "len") lenR := ⟨_, call_len, by
  intro c G H vs ds post Q w bs hp q
  match ds, bs, hp with
  | [.list xs], bs, hp =>
    obtain ⟨v, rfl, b⟩ := bs.one
    obtain ⟨p, us, rfl, h1, h2, _⟩ := b.lst w
    exact ⟨_, _, rfl, .inl ⟨us, .of h1, rfl⟩, by rw [h2.length]; exact q _ hp _ G H .refl w (.int _)⟩
  | [.tuple xs], bs, hp =>
    obtain ⟨v, rfl, b⟩ := bs.one
    obtain ⟨p, us, rfl, h1, h2⟩ := b.tup
    exact ⟨_, _, rfl, .inr ⟨us, sqT_mono w.sub h1, rfl⟩, by rw [h2.length]; exact q _ hp _ G H .refl w (.int _)⟩
  | [.str s], bs, hp =>
    obtain ⟨v, rfl, b⟩ := bs.one
    rw [b.str]
    exact ⟨_, _, rfl, ⟨hp.1, rfl⟩, q _ hp.2 _ G H .refl w (.int _)⟩⟩
def absR : List D → R D
  | [.int i] => ok (.int (if i < 0 then -i else i))
  | _ => fail
theorem kAbs : CalQ X (.builtin "abs") absR := ⟨_, call_abs, by
  intro c G H vs ds post Q w bs hp q
  match ds, bs, hp with
  | [.int i], bs, hp =>
    obtain ⟨v, rfl, b⟩ := bs.one
    rw [b.int]
    exact ⟨_, rfl, q _ hp _ G H .refl w (.int _)⟩⟩
def intR : List D → R D
  | [.int i] => ok (.int i)
  | [.bool b] => ok (.int (if b then 1 else 0))
  | _ => fail
theorem kInt : CalQ X (.type "int") intR := ⟨_, call_int1, by
  intro c G H vs ds post Q w bs hp q
  match ds, bs, hp with
  | [.int i], bs, hp =>
    obtain ⟨v, rfl, b⟩ := bs.one
    rw [b.int]
    exact .inl ⟨_, rfl, q _ hp _ G H .refl w (.int _)⟩
  | [.bool i], bs, hp =>
    obtain ⟨v, rfl, b⟩ := bs.one
    rw [b.bool]
    exact .inr ⟨_, rfl, q _ hp _ G H .refl w (.int _)⟩⟩
def tupOfR : List D → R D
  | [.list xs] => ok (.tuple xs)
  | [.tuple xs] => ok (.tuple xs)
  | _ => fail
theorem kTup : CalQ X (.type "tuple") tupOfR := ⟨_, call_tuple_of, by
  intro c G H vs ds post Q w bs hp q
  match ds, bs, hp with
  | [.list xs], bs, hp =>
    obtain ⟨v, rfl, b⟩ := bs.one
    obtain ⟨p, us, rfl, h1, h2, _⟩ := b.lst w
    refine ⟨_, _, rfl, .inl ⟨.of h1, fun n hn => ?_⟩⟩
    obtain ⟨w4, e4⟩ := w.newF hn (.tup us)
    exact q _ hp _ _ _ e4 w4 (.tup (.of upd_same) (h2.mono e4.g))
  | [.tuple xs], bs, hp =>
    obtain ⟨v, rfl, b⟩ := bs.one
    obtain ⟨p, us, rfl, h1, h2⟩ := b.tup
    exact ⟨_, _, rfl, .inr ⟨sqT_mono w.sub h1, q _ hp _ G H .refl w (.tup h1 h2)⟩⟩⟩
def lstOfR : List D → R (List D)
  | [.list xs] => ok xs
  | [.tuple xs] => ok xs
  | _ => fail
theorem kLst : CalF X (.type "list") lstOfR := ⟨_, call_list_of, by
  intro c G H vs ds post Q w bs hp q
  match ds, bs, hp with
  | [.list xs], bs, hp =>
    obtain ⟨v, rfl, b⟩ := bs.one
    obtain ⟨p, us, rfl, h1, h2, _⟩ := b.lst w.w
    exact ⟨_, _, rfl, .inl (.of h1), fun n hn => fin_new w .refl hn h2 hp q⟩
  | [.tuple xs], bs, hp =>
    obtain ⟨v, rfl, b⟩ := bs.one
    obtain ⟨p, us, rfl, h1, h2⟩ := b.tup
    exact ⟨_, _, rfl, .inr (sqT_mono w.w.sub h1), fun n hn => fin_new w .refl hn h2 hp q⟩⟩
end
end Pu

namespace Pu
open PySem PySem.Spec PyProof.Rows L2
variable [Tb]
/-! ### statements -/
inductive Out where
  | nx (ρ : List Sl)
  | rt (d : D)
  | bk (ρ : List Sl)
  | ct (ρ : List Sl)
def EndsOk (K : PySem.W.Frag) (c : Ct) (G : Hp) (D : Ends) : Out → Prop
  | .nx ρ => ∀ σ G' H', Le G G' → Wd c G' H' → RS K c G' H' σ ρ → D.nx σ H'
  | .rt d => ∀ v G' H', Le G G' → Wd c G' H' → Dq K G' v d → D.rt v H'
  | .bk ρ => ∀ σ G' H', Le G G' → Wd c G' H' → RS K c G' H' σ ρ → D.bk σ H'
  | .ct ρ => ∀ σ G' H', Le G G' → Wd c G' H' → RS K c G' H' σ ρ → D.ct σ H'
theorem EndsOk.le {K : PySem.W.Frag} {c : Ct} {G G1 : Hp} {D : Ends} (h : Le G G1) : ∀ {o : Out}, EndsOk K c G D o → EndsOk K c G1 D o
  | .nx _, k => fun σ G' H' l => k σ G' H' fun a o e => l a o (h a o e)
  | .rt _, k => fun σ G' H' l => k σ G' H' fun a o e => l a o (h a o e)
  | .bk _, k => fun σ G' H' l => k σ G' H' fun a o e => l a o (h a o e)
  | .ct _, k => fun σ G' H' l => k σ G' H' fun a o e => l a o (h a o e)
def tS (K : PySem.W.Frag) (g : List Sl → R Out) : TS := fun D σ H => ∃ (c : Ct) (G : Hp) (ρ : List Sl) (post : Out → Prop), Wd c G H ∧ RS K c G H σ ρ ∧ g ρ post ∧ ∀ o, post o → EndsOk K c G D o
def nxt (k : List Sl → R Out) : Out → R Out
  | .nx ρ => k ρ
  | o => ok o
@[simp] theorem nxt_nx (k : List Sl → R Out) (ρ : List Sl) : nxt k (.nx ρ) = k ρ := (rfl)
@[simp] theorem nxt_rt (k : List Sl → R Out) (d : D) : nxt k (.rt d) = ok (.rt d) := (rfl)
@[simp] theorem nxt_bk (k : List Sl → R Out) (ρ : List Sl) : nxt k (.bk ρ) = ok (.bk ρ) := (rfl)
@[simp] theorem nxt_ct (k : List Sl → R Out) (ρ : List Sl) : nxt k (.ct ρ) = ok (.ct ρ) := (rfl)
def seqM (g h : List Sl → R Out) : List Sl → R Out := fun ρ => bd (g ρ) (nxt h)
def nilM : List Sl → R Out := fun ρ => ok (.nx ρ)
section
variable {X : Cx} {e a b : Expr} {es : List Expr} {pos : Pos} {st : Stmt} {rest sts : List Stmt}
theorem PS.wk {t t' : TS} (h : PS X st t) (w : ∀ D σ H, t' D σ H → t D σ H) : PS X st t' := ⟨fun pins s σ H D I q => h.run pins s σ H D I (w D σ H q)⟩
theorem PSs.wk {t t' : TS} (h : PSs X sts t) (w : ∀ D σ H, t' D σ H → t D σ H) : PSs X sts t' := ⟨fun pins s σ H D I q => h.run pins s σ H D I (w D σ H q)⟩
theorem sNil : PSs X [] (tS X.K nilM) := PSs.wk pss_nil fun D σ H ⟨c, G, ρ, post, w, r, hg, q⟩ => q _ hg σ G H (fun _ _ e => e) w r
theorem sCons {g h : List Sl → R Out} (h1 : PS X st (tS X.K g)) (h2 : PSs X rest (tS X.K h)) : PSs X (st :: rest) (tS X.K (seqM g h)) := PSs.wk (pss_cons h1 h2) fun D σ H ⟨c, G, ρ, post, w, r, hg, q⟩ =>
  ⟨c, G, ρ, _, w, r, hg, fun o ho => by
    cases o with
    | nx ρ' => exact fun σ' G' H' l w' r' => ⟨c, G', ρ', post, w', r', ho, fun o ho => (q o ho).le l⟩
    | rt d => exact q _ ho
    | bk ρ' => exact q _ ho
    | ct ρ' => exact q _ ho⟩
theorem sOne {g : List Sl → R Out} (h1 : PS X st (tS X.K g)) : PSs X [st] (tS X.K g) := pss_one h1
def retM (f : List Sl → R D) : List Sl → R Out := fun ρ => bd (f ρ) fun d => ok (.rt d)
theorem sRet {f : List Sl → R D} (h : PE X e (tB X.K f)) : PS X (.Return (some e) pos) (tS X.K (retM f)) := PS.wk (ps_ret h) fun D σ H ⟨c, G, ρ, post, w, r, hg, q⟩ =>
  ⟨c, G, ρ, _, w, r, hg, fun d hd v G' H' e' w' b => by
    rcases b with b | ⟨a, ds, rfl, rfl, o⟩
    · exact q _ hd v G' H' e'.g (w.step w' e') b
    · obtain ⟨G2, w2, l2, d2, _⟩ := (w.step w' e').freeze o
      exact q _ hd _ G2 H' (fun a o e => l2 a o (e'.g a o e)) w2 d2⟩
theorem sRetN : PS X (.Return none pos) (tS X.K fun _ => ok (.rt .none)) := PS.wk ps_retN fun D σ H ⟨c, G, ρ, post, w, r, hg, q⟩ => q _ hg .non G H (fun _ _ e => e) w .non
theorem sPass : PS X (.Pass pos) (tS X.K nilM) := PS.wk ps_pass fun D σ H ⟨c, G, ρ, post, w, r, hg, q⟩ => q _ hg σ G H (fun _ _ e => e) w r
theorem sBrk : PS X (.Break pos) (tS X.K fun ρ => ok (.bk ρ)) := PS.wk ps_break fun D σ H ⟨c, G, ρ, post, w, r, hg, q⟩ => q _ hg σ G H (fun _ _ e => e) w r
theorem sCnt : PS X (.Continue pos) (tS X.K fun ρ => ok (.ct ρ)) := PS.wk ps_continue fun D σ H ⟨c, G, ρ, post, w, r, hg, q⟩ => q _ hg σ G H (fun _ _ e => e) w r
theorem sIf {t : List Sl → R Bool} {g h : List Sl → R Out} {cnd : Expr} {sa sb : List Stmt} (hc : PT X cnd (tT X.K t)) (ha : PSs X sa (tS X.K g)) (hb : PSs X sb (tS X.K h)) : PS X (.If cnd sa sb pos) (tS X.K (ifV t g h)) :=
  PS.wk (ps_if hc ha hb) fun D σ H ⟨c, G, ρ, post, w, r, hg, q⟩ => ⟨c, G, ρ, _, w, r, hg, fun k hk G' H' e' w' => by
    cases k with
    | true => exact ⟨c, G', ρ, post, w.step w' e', r.ext e', hk, fun o ho => (q o ho).le e'.g⟩
    | false => exact ⟨c, G', ρ, post, w.step w' e', r.ext e', hk, fun o ho => (q o ho).le e'.g⟩⟩
/-! ### targets -/
/-- but for the slots at is, nothing is touched -/
def Tch (js : List Nat) (σ σ' : L2.St) : Prop := σ'.length = σ.length ∧ ∀ j, j ∉ js → σ'[j]? = σ[j]?
theorem Tch.refl {js : List Nat} {σ : L2.St} : Tch js σ σ := ⟨rfl, fun _ _ => rfl⟩
def tG (K : PySem.W.Frag) (js : List Nat) (g : D → List Sl → R (List Sl)) : TG := fun v σ H Q => ∃ (c : Ct) (G : Hp) (ρ : List Sl) (d : D) (post : List Sl → Prop), Wd c G H ∧ RS K c G H σ ρ ∧ Dq K G v d ∧ g d ρ post ∧ ∀ ρ', post ρ' → ∀ σ', RS K c G H σ' ρ' → Tch js σ σ' → Q σ' H
def tGs (K : PySem.W.Frag) (js : List Nat) (g : List D → List Sl → R (List Sl)) : TGs := fun vs σ H Q => ∃ (c : Ct) (G : Hp) (ρ : List Sl) (ds : List D) (post : List Sl → Prop), Wd c G H ∧ RS K c G H σ ρ ∧ DqAll K G vs ds ∧ g ds ρ post ∧ ∀ ρ', post ρ' → ∀ σ', RS K c G H σ' ρ' → Tch js σ σ' → Q σ' H
theorem PG.wk {tg : Expr} {t t' : TG} (h : PG X tg t) (w : ∀ v σ H Q, t' v σ H Q → t v σ H Q) : PG X tg t' := ⟨fun pins s σ H v u Q I r q => h.run pins s σ H v u Q I r (w v σ H Q q)⟩
theorem PGs.wk {tg : List Expr} {t t' : TGs} (h : PGs X tg t) (w : ∀ v σ H Q, t' v σ H Q → t v σ H Q) : PGs X tg t' := ⟨fun pins s σ H v u Q I r q => h.run pins s σ H v u Q I r (w v σ H Q q)⟩
def gSet (i : Nat) : D → List Sl → R (List Sl) := fun d ρ => ok (ρ.set i (.dat d))
theorem gN (i : Nat) {x : Str} (hN : X.N.Nodup) (hi : X.N[i]? = some x := by rfl) (hx : Loc X.env.scope x := by first | exact Or.inl rfl | exact Or.inr rfl) (hf : X.fn x = true ∨ X.env.scope.names.lookup x = some .local := by first | exact .inl rfl | exact .inr rfl) : PG X (.Name x pos) (tG X.K [i] (gSet i)) :=
  PG.wk (pg_name hN hi hx hf) fun v σ H Q ⟨c, G, ρ, d, post, w, r, k, hg, q⟩ => q _ hg _ (r.setD k) ⟨by simp, fun j hj => by rw [List.getElem?_set_ne (fun z => hj (by simp [z]))]⟩
def gNilR : List D → List Sl → R (List Sl)
  | [], ρ => ok ρ
  | _, _ => fail
def gConsR (g : D → List Sl → R (List Sl)) (h : List D → List Sl → R (List Sl)) : List D → List Sl → R (List Sl)
  | d :: ds, ρ => bd (g d ρ) (h ds)
  | _, _ => fail
theorem gsN : PGs X [] (tGs X.K [] gNilR) := PGs.wk pgs_nil fun v σ H Q ⟨c, G, ρ, ds, post, w, r, k, hg, q⟩ => by
  cases k with
  | nil => exact ⟨rfl, q _ hg σ r .refl⟩
  | cons => exact hg.elim
theorem gsC {is js : List Nat} {g : D → List Sl → R (List Sl)} {h : List D → List Sl → R (List Sl)} (h1 : PG X e (tG X.K is g)) (h2 : PGs X es (tGs X.K js h)) (hs : (assignEach (e :: es) X.env).map (·.2) = assign e X.env :: (assignEach es X.env).map (·.2) := by rfl) : PGs X (e :: es) (tGs X.K (is ++ js) (gConsR g h)) :=
  PGs.wk (pgs_cons h1 h2 hs) fun v σ H Q ⟨c, G, ρ, ds, post, w, r, k, hg, q⟩ => by
    cases k with
    | nil => exact hg.elim
    | cons k1 k2 => exact ⟨_, _, rfl, c, G, ρ, _, _, w, r, k1, hg, fun ρ' hρ σ' r' t1 => ⟨c, G, ρ', _, post, w, r', k2, hρ, fun ρ2 h2 σ2 r2 t2 => q ρ2 h2 σ2 r2 ⟨t2.1.trans t1.1, fun j hj => (t2.2 j fun z => hj (List.mem_append_right _ z)).trans (t1.2 j fun z => hj (List.mem_append_left _ z))⟩⟩⟩
def gTupR (n : Nat) (g : List D → List Sl → R (List Sl)) : D → List Sl → R (List Sl)
  | .tuple ds, ρ => bd (req (ds.length = n)) fun _ => g ds ρ
  | _, _ => fail
theorem gT {k n : Nat} {js : List Nat} {g : List D → List Sl → R (List Sl)} (h : PGs X es (tGs X.K js g)) (hc : X.calm = true := by rfl) (hn : (assignEach es X.env).length = n := by rfl) (hst : (assignEach es X.env).findIdx? (·.1) = none := by rfl) : PG X (.Tuple es k pos) (tG X.K js (gTupR n g)) :=
  PG.wk (pg_tup hc h hn hst) fun v σ H Q ⟨c, G, ρ, d, post, w, r, k, hg, q⟩ => by
    cases k with
    | tup e1 e2 => exact ⟨_, _, rfl, sqT_mono w.w.sub e1, by rw [e2.length]; exact hg.1, c, G, ρ, _, post, w, r, e2, hg.2, q⟩
    | _ => exact hg.elim
/-! ### assignments -/
def asgM (f : List Sl → R D) (g : D → List Sl → R (List Sl)) : List Sl → R Out := fun ρ => bd (f ρ) fun d => bd (g d ρ) fun ρ' => ok (.nx ρ')
theorem sAsg {tg : Expr} {f : List Sl → R D} {js : List Nat} {g : D → List Sl → R (List Sl)} (he : PE X e (tP X.K f)) (hg : PG X tg (tG X.K js g)) (hs : swapsWithSole [tg] e pos.line X.env = pure false := by rfl) (hw : swappedStores [tg] e X.env = pure none := by rfl)
    (h1 : (assignEach [tg] X.env).map (·.2) = [assign tg X.env] := by rfl) : PS X (.Assign [tg] e pos) (tS X.K (asgM f g)) :=
  PS.wk (ps_asg he hg hs hw h1) fun D σ H ⟨c, G, ρ, post, w, r, hg, q⟩ => ⟨c, G, ρ, _, w, r, hg, fun d hd v G' H' e' w' k =>
    ⟨c, G', ρ, d, _, w.step w' e', r.ext e', k, hd, fun ρ' hρ σ' r' _ => q _ hρ σ' G' H' e'.g (w.step w' e') r'⟩⟩
def setM (i : Nat) (f : List Sl → R D) : List Sl → R Out := fun ρ => bd (f ρ) fun d => ok (.nx (ρ.set i (.dat d)))
theorem sSet (i : Nat) {x : Str} {pos' : Pos} {f : List Sl → R D} (hN : X.N.Nodup) (he : PE X e (tP X.K f)) (hi : X.N[i]? = some x := by rfl) (hx : Loc X.env.scope x := by first | exact Or.inl rfl | exact Or.inr rfl) (hs : swapsWith e (some (.Name x pos')) pos.line X.env = pure false := by rfl)
    (hf : X.fn x = true ∨ X.env.scope.names.lookup x = some .local := by first | exact .inl rfl | exact .inr rfl) : PS X (.Assign [.Name x pos'] e pos) (tS X.K (setM i f)) :=
  PS.wk (ps_set hN hi hx he hs hf) fun D σ H ⟨c, G, ρ, post, w, r, hg, q⟩ => ⟨c, G, ρ, _, w, r, hg, fun d hd v G' H' e' w' k => q _ hd _ G' H' e'.g (w.step w' e') ((r.ext e').setD k)⟩
def setO (i : Nat) (f : List Sl → R (List D)) : List Sl → R Out := fun ρ => bd (f ρ) fun ds => ok (.nx (ρ.set i (.own ds)))
/-- what is said of a new address: no slot holds it -/
theorem RS.new {K : PySem.W.Frag} {c : Ct} {G H : Hp} {σ : L2.St} {ρ : List Sl} (r : RS K c G H σ ρ) {a : Addr} (n : H a = none) (j : Nat) (es : List D) (hj : ρ[j]? = some (.own es)) : σ[j]? ≠ some (some (.ref a)) := by
  intro z
  rcases r.at_ j _ hj with q | ⟨v, e1, b, rfl, o⟩
  · cases q
  · rw [z] at e1; cases e1
    obtain ⟨vs, h, _⟩ := o.at_
    rw [n] at h; cases h
theorem sSetO (i : Nat) {x : Str} {pos' : Pos} {f : List Sl → R (List D)} (hN : X.N.Nodup) (he : PE X e (tF X.K f)) (hi : X.N[i]? = some x := by rfl) (hx : Loc X.env.scope x := by first | exact Or.inl rfl | exact Or.inr rfl) (hs : swapsWith e (some (.Name x pos')) pos.line X.env = pure false := by rfl)
    (hf : X.fn x = true ∨ X.env.scope.names.lookup x = some .local := by first | exact .inl rfl | exact .inr rfl) : PS X (.Assign [.Name x pos'] e pos) (tS X.K (setO i f)) :=
  PS.wk (ps_set hN hi hx he hs hf) fun D σ H ⟨c, G, ρ, post, w, r, hg, q⟩ => ⟨c, G, ρ, _, w, r, hg, fun d hd a G' H' n e' w' o => q _ hd _ G' H' e'.g (w.step w' e') ((r.ext e').setO o (r.new n))⟩
/-- the own list in a slot -/
def getO (ρ : List Sl) (i : Nat) : R (List D) := match ρ[i]? with
  | some (.own ds) => ok ds
  | _ => fail
theorem getO_inv {ρ : List Sl} {i : Nat} {post : List D → Prop} (h : getO ρ i post) : ∃ ds, ρ[i]? = some (.own ds) ∧ post ds := by
  unfold getO at h
  cases e : ρ[i]? with
  | none => rw [e] at h; exact h.elim
  | some x =>
    rw [e] at h
    cases x with
    | own ds => exact ⟨ds, rfl, h⟩
    | _ => exact h.elim
/-- .. is frozen (where it is from then on only read) -/
def frzM (i : Nat) (g : List Sl → R Out) : List Sl → R Out := fun ρ => bd (getO ρ i) fun ds => g (ρ.set i (.dat (.list ds)))
theorem sFrz (i : Nat) {g : List Sl → R Out} (h : PS X st (tS X.K g)) : PS X st (tS X.K (frzM i g)) := PS.wk h fun D σ H ⟨c, G, ρ, post, w, r, hg, q⟩ => by
  obtain ⟨ds, e, hg⟩ := getO_inv hg
  rcases r.at_ i _ e with z | ⟨v, e1, a, rfl, o⟩
  · cases z
  · obtain ⟨G', w', l, d, ne⟩ := w.freeze o
    exact ⟨c, G', _, post, w', r.freeze e e1 l d ne, hg, fun o ho => (q o ho).le l⟩
/-- a change of the own list in slot i by a method with arguments, as a statement -/
def mutM (i : Nat) (f : List Sl → R (List D)) (h : List D → List D → R (List D)) : List Sl → R Out := fun ρ => bd (getO ρ i) fun _ => bd (f ρ) fun args => bd (getO ρ i) fun ds => bd (h ds args) fun es => ok (.nx (ρ.set i (.own es)))
def Mut1 (K : PySem.W.Frag) (r : V → List V → Hp → VK → Prop) (h : List D → List D → R (List D)) : Prop := ∀ (c : Ct) (G H : Hp) (a : Addr) (ds : List D) (vs xs : List V) (args : List D) (post : List D → Prop) (Q : VK), W0 c.E G H → H a = some (.lst vs) → DqAll K G vs ds → DqAll K G xs args → h ds args post →
  (∀ es, post es → ∀ u ws, DqAll K G ws es → Q u (upd H a (.lst ws))) → r (.ref a) xs H Q
def appR : List D → List D → R (List D)
  | ds, [d] => bd (req (ds.length < sizeLine)) fun _ => ok (ds ++ [d])
  | _, _ => fail
theorem mut_app {K : PySem.W.Frag} : Mut1 K rAppend appR := by
  intro c G H a ds vs xs args post Q w h k ka hp q
  match args, ka, hp with
  | [d], .cons k1 .nil, hp => exact ⟨a, vs, _, rfl, rfl, h, by rw [k.length]; exact hp.1, q _ hp.2 _ _ (k.append (.cons k1 .nil))⟩
/-- x.append(d) and its like: the arguments are frozen data -/
theorem sMut {r0 : V → List V → Hp → VK → Prop} {h : List D → List D → R (List D)} {i : Nat} {f : List Sl → R (List D)} (k : Mut1 X.K r0 h) (hc : PE X e (tBM X.K "list" r0 (tVar i) (tAF X.K f))) (hs : swapsWith e none pos.line X.env = pure false := by rfl) :
    PS X (.Expr e pos) (tS X.K (mutM i f h)) := PS.wk (ps_expr hc hs) fun D σ H ⟨c, G, ρ, post, w, r, hg, q⟩ => by
  obtain ⟨ds, e0, hg⟩ := getO_inv hg
  rcases r.at_ i _ e0 with z | ⟨v, e1, a, rfl, o⟩
  · cases z
  · obtain ⟨vs0, h0, _⟩ := o.at_
    refine ⟨_, e1, .inl ⟨rfl, _, .of h0⟩, c, G, ρ, _, w, r, hg, fun args hargs xs G' H' e' w' ka => ?_⟩
    obtain ⟨ds', e0', hargs⟩ := getO_inv hargs
    rw [e0] at e0'; cases e0'
    have o' := o.ext e'
    obtain ⟨vs, hv, kv⟩ := o'.at_
    refine k c G' H' a ds vs xs args _ _ w' hv kv ka hargs fun es hes u ws kw => ?_
    exact q _ hes _ G' _ e'.g (Wd.mut (w.step w' e') o' kw).1 ((r.ext e').mut e0 e1 o' kw)
/-- .. the argument is looked at (extend) -/
def MutB (K : PySem.W.Frag) (r : V → List V → Hp → VK → Prop) (h : List D → List D → R (List D)) : Prop := ∀ (c : Ct) (G H : Hp) (a : Addr) (ds : List D) (vs xs : List V) (args : List D) (post : List D → Prop) (Q : VK), W0 c.E G H → H a = some (.lst vs) → DqAll K G vs ds → BvAll K c G H xs args → h ds args post →
  (∀ es, post es → ∀ u ws, DqAll K G ws es → Q u (upd H a (.lst ws))) → r (.ref a) xs H Q
theorem sMutB {r0 : V → List V → Hp → VK → Prop} {h : List D → List D → R (List D)} {i : Nat} {f : List Sl → R (List D)} (k : MutB X.K r0 h) (hc : PE X e (tBM X.K "list" r0 (tVar i) (tAB X.K f))) (hs : swapsWith e none pos.line X.env = pure false := by rfl) :
    PS X (.Expr e pos) (tS X.K (mutM i f h)) := PS.wk (ps_expr hc hs) fun D σ H ⟨c, G, ρ, post, w, r, hg, q⟩ => by
  obtain ⟨ds, e0, hg⟩ := getO_inv hg
  rcases r.at_ i _ e0 with z | ⟨v, e1, a, rfl, o⟩
  · cases z
  · obtain ⟨vs0, h0, _⟩ := o.at_
    refine ⟨_, e1, .inl ⟨rfl, _, .of h0⟩, c, G, ρ, _, w, r, hg, fun args hargs xs G' H' e' w' ka => ?_⟩
    obtain ⟨ds', e0', hargs⟩ := getO_inv hargs
    rw [e0] at e0'; cases e0'
    have o' := o.ext e'
    obtain ⟨vs, hv, kv⟩ := o'.at_
    refine k c G' H' a ds vs xs args _ _ w' hv kv ka hargs fun es hes u ws kw => ?_
    exact q _ hes _ G' _ e'.g (Wd.mut (w.step w' e') o' kw).1 ((r.ext e').mut e0 e1 o' kw)
def extR : List D → List D → R (List D)
  | ds, [.list es] => bd (req (ds.length + es.length ≤ sizeLine)) fun _ => ok (ds ++ es)
  | _, _ => fail
theorem mut_ext {K : PySem.W.Frag} : MutB K rExtend extR := by
  intro c G H a ds vs xs args post Q w h k ka hp q
  match args, ka, hp with
  | [.list es], ka, hp =>
    obtain ⟨v, rfl, b⟩ := ka.one
    obtain ⟨p, us, rfl, h1, h2, _⟩ := b.lst w
    exact ⟨a, p, vs, us, rfl, rfl, h, h1, by rw [k.length, h2.length]; exact hp.1, q _ hp.2 _ _ (k.append h2)⟩
/-- tg = x.pop(..): what is taken out, what is left -/
def popM (i : Nat) (f : List Sl → R (List D)) (h : List D → List D → R (D × List D)) (g : D → List Sl → R (List Sl)) : List Sl → R Out := fun ρ => bd (getO ρ i) fun _ => bd (f ρ) fun args => bd (getO ρ i) fun ds => bd (h ds args) fun p => bd (g p.1 (ρ.set i (.own p.2))) fun ρ' => ok (.nx ρ')
def Pop1 (K : PySem.W.Frag) (r : V → List V → Hp → VK → Prop) (h : List D → List D → R (D × List D)) : Prop := ∀ (c : Ct) (G H : Hp) (a : Addr) (ds : List D) (vs xs : List V) (args : List D) (post : D × List D → Prop) (Q : VK), W0 c.E G H → H a = some (.lst vs) → DqAll K G vs ds → DqAll K G xs args → h ds args post →
  (∀ p, post p → ∀ u ws, Dq K G u p.1 → DqAll K G ws p.2 → Q u (upd H a (.lst ws))) → r (.ref a) xs H Q
theorem sPop {tg : Expr} {r0 : V → List V → Hp → VK → Prop} {h : List D → List D → R (D × List D)} {i : Nat} {f : List Sl → R (List D)} {js : List Nat} {g : D → List Sl → R (List Sl)} (k : Pop1 X.K r0 h) (hc : PE X e (tBM X.K "list" r0 (tVar i) (tAF X.K f))) (hg : PG X tg (tG X.K js g))
    (hs : swapsWithSole [tg] e pos.line X.env = pure false := by rfl) (hw : swappedStores [tg] e X.env = pure none := by rfl) (h1 : (assignEach [tg] X.env).map (·.2) = [assign tg X.env] := by rfl) :
    PS X (.Assign [tg] e pos) (tS X.K (popM i f h g)) := PS.wk (ps_asg hc hg hs hw h1) fun D σ H ⟨c, G, ρ, post, w, r, hg, q⟩ => by
  obtain ⟨ds, e0, hg⟩ := getO_inv hg
  rcases r.at_ i _ e0 with z | ⟨v, e1, a, rfl, o⟩
  · cases z
  · obtain ⟨vs0, h0, _⟩ := o.at_
    refine ⟨_, e1, .inl ⟨rfl, _, .of h0⟩, c, G, ρ, _, w, r, hg, fun args hargs xs G' H' e' w' ka => ?_⟩
    obtain ⟨ds', e0', hargs⟩ := getO_inv hargs
    rw [e0] at e0'; cases e0'
    have o' := o.ext e'
    obtain ⟨vs, hv, kv⟩ := o'.at_
    refine k c G' H' a ds vs xs args _ _ w' hv kv ka hargs fun p hp u ws ku kw => ?_
    obtain ⟨w2, _⟩ := Wd.mut (w.step w' e') o' kw
    exact ⟨c, G', _, _, _, w2, (r.ext e').mut e0 e1 o' kw, ku, hp, fun ρ' hρ σ' r' _ => q _ hρ σ' G' _ e'.g w2 r'⟩
theorem sPop0 {tg : Expr} {r0 : V → List V → Hp → VK → Prop} {h : List D → List D → R (D × List D)} {i : Nat} {js : List Nat} {g : D → List Sl → R (List Sl)} (k : Pop1 X.K r0 h) (hc : PE X e (tBM0 X.K "list" r0 (tVar i))) (hg : PG X tg (tG X.K js g))
    (hs : swapsWithSole [tg] e pos.line X.env = pure false := by rfl) (hw : swappedStores [tg] e X.env = pure none := by rfl) (h1 : (assignEach [tg] X.env).map (·.2) = [assign tg X.env] := by rfl) :
    PS X (.Assign [tg] e pos) (tS X.K (popM i nilR h g)) := PS.wk (ps_asg hc hg hs hw h1) fun D σ H ⟨c, G, ρ, post, w, r, hg, q⟩ => by
  obtain ⟨ds, e0, hg⟩ := getO_inv hg
  rcases r.at_ i _ e0 with z | ⟨v, e1, a, rfl, o⟩
  · cases z
  · obtain ⟨vs, hv, kv⟩ := o.at_
    obtain ⟨ds', e0', hargs⟩ := getO_inv hg
    rw [e0] at e0'; cases e0'
    refine ⟨_, e1, .inl ⟨rfl, _, .of hv⟩, ?_⟩
    refine k c G H a ds vs [] [] _ _ w.w hv kv .nil hargs fun p hp u ws ku kw => ?_
    obtain ⟨w2, _⟩ := Wd.mut w o kw
    exact ⟨c, G, _, _, _, w2, r.mut e0 e1 o kw, ku, hp, fun ρ' hρ σ' r' _ => q _ hρ σ' G _ (fun _ _ e => e) w2 r'⟩
/-- x.pop() as a statement -/
theorem sPopE {r0 : V → List V → Hp → VK → Prop} {h : List D → List D → R (D × List D)} {i : Nat} (k : Pop1 X.K r0 h) (hc : PE X e (tBM0 X.K "list" r0 (tVar i))) (hs : swapsWith e none pos.line X.env = pure false := by rfl) :
    PS X (.Expr e pos) (tS X.K (popM i nilR h fun _ ρ => ok ρ)) := PS.wk (ps_expr hc hs) fun D σ H ⟨c, G, ρ, post, w, r, hg, q⟩ => by
  obtain ⟨ds, e0, hg⟩ := getO_inv hg
  rcases r.at_ i _ e0 with z | ⟨v, e1, a, rfl, o⟩
  · cases z
  · obtain ⟨vs, hv, kv⟩ := o.at_
    obtain ⟨ds', e0', hargs⟩ := getO_inv hg
    rw [e0] at e0'; cases e0'
    refine ⟨_, e1, .inl ⟨rfl, _, .of hv⟩, ?_⟩
    refine k c G H a ds vs [] [] _ _ w.w hv kv .nil hargs fun p hp u ws ku kw => ?_
    obtain ⟨w2, _⟩ := Wd.mut w o kw
    exact q _ hp _ G _ (fun _ _ e => e) w2 (r.mut e0 e1 o kw)
def popR : List D → List D → R (D × List D)
  | ds, [] => (match ds.getLast? with | some d => ok (d, ds.dropLast) | none => fail)
  | _, _ => fail
def popAtR : List D → List D → R (D × List D)
  | ds, [.int i] => (match L2.ixN ds.length i with | some k => (match ds[k]? with | some d => bd (req (-(2 ^ 63) ≤ i ∧ i < 2 ^ 63)) fun _ => ok (d, ds.eraseIdx k) | none => fail) | none => fail)
  | _, _ => fail
theorem DqAll.dropLast {K : PySem.W.Frag} {G : Hp} {vs : List V} {ds : List D} (h : DqAll K G vs ds) : DqAll K G vs.dropLast ds.dropLast := by
  rw [List.dropLast_eq_take, List.dropLast_eq_take, h.length]
  exact h.take _
theorem DqAll.eraseIdx {K : PySem.W.Frag} {G : Hp} : ∀ {vs : List V} {ds : List D} (i : Nat), DqAll K G vs ds → DqAll K G (vs.eraseIdx i) (ds.eraseIdx i)
  | _, _, _, .nil => .nil
  | _, _, 0, .cons _ t => t
  | _, _, i + 1, .cons q t => .cons q (DqAll.eraseIdx i t)
theorem pop_last {K : PySem.W.Frag} : Pop1 K rPop popR := by
  intro c G H a ds vs xs args post Q w h k ka hp q
  match args, ka, hp with
  | [], .nil, hp =>
    simp only [popR] at hp
    cases e : ds.getLast? with
    | none => rw [e] at hp; exact hp.elim
    | some d =>
      rw [e] at hp
      rw [List.getLast?_eq_getElem?] at e
      obtain ⟨v, h1, h2⟩ := k.get e
      rw [← k.length] at h1
      exact ⟨a, vs, v, rfl, rfl, h, h1, q _ hp _ _ h2 k.dropLast⟩
theorem pop_at {K : PySem.W.Frag} : Pop1 K rPopAt popAtR := by
  intro c G H a ds vs xs args post Q w h k ka hp q
  match args, ka, hp with
  | [.int i], .cons (.int _) .nil, hp =>
    simp only [popAtR] at hp
    cases e : L2.ixN ds.length i with
    | none => rw [e] at hp; exact hp.elim
    | some j =>
      rw [e] at hp
      simp only at hp
      cases e2 : ds[j]? with
      | none => rw [e2] at hp; exact hp.elim
      | some d =>
        rw [e2] at hp
        obtain ⟨v, h1, h2⟩ := k.get e2
        exact ⟨a, vs, i, j, v, rfl, rfl, h, hp.1.1, hp.1.2, by rw [k.length]; exact (ixN_seq e).1, h1, q _ hp.2 _ _ h2 (k.eraseIdx j)⟩
/-! ### x[i] = v, x op= v -/
def setIxM (i : Nat) (f g : List Sl → R D) (h : List D → D → D → R (List D)) : List Sl → R Out := fun ρ => bd (f ρ) fun v => bd (getO ρ i) fun _ => bd (g ρ) fun k => bd (getO ρ i) fun ds => bd (h ds k v) fun es => ok (.nx (ρ.set i (.own es)))
def setR : List D → D → D → R (List D)
  | ds, .int k, v => (match L2.ixN ds.length k with | some j => ok (ds.set j v) | none => fail)
  | _, _, _ => fail
theorem sSetIx {i : Nat} {x : Str} {f g : List Sl → R D} {npos spos : Pos} {ix : Expr} (he : PE X e (tP X.K f)) (hv : PE X (.Name x npos) (tVar i)) (hi : PE X ix (tB X.K g))
    (ha : ∀ v, assign (.Subscript (.Name x npos) ix spos) X.env v = (do
      let ov ← holding [v] (eval (.Name x npos) X.env)
      let iv ← holding [v, ov] (eval ix X.env)
      standAt spos
      holding [v, ov, iv] (setItem ov iv v)
      release [v, ov, iv] []) := by intro _; rfl)
    (hs : swapsWithSole [.Subscript (.Name x npos) ix spos] e pos.line X.env = pure false := by rfl) (hw : swappedStores [.Subscript (.Name x npos) ix spos] e X.env = pure none := by rfl)
    (h1 : (assignEach [.Subscript (.Name x npos) ix spos] X.env).map (·.2) = [assign (.Subscript (.Name x npos) ix spos) X.env] := by rfl) :
    PS X (.Assign [.Subscript (.Name x npos) ix spos] e pos) (tS X.K (setIxM i f g setR)) :=
  PS.wk (ps_asg he (pg_sub hv hi set_list ha) hs hw h1) fun D σ H ⟨c, G, ρ, post, w, r, hg, q⟩ => ⟨c, G, ρ, _, w, r, hg, fun d hd v G1 H1 e1 w1 k1 => by
    obtain ⟨ds, e0, hd⟩ := getO_inv hd
    rcases r.at_ i _ e0 with z | ⟨u, es, a, rfl, o⟩
    · cases z
    · refine ⟨_, es, c, G1, ρ, _, w.step w1 e1, r.ext e1, hd, fun k hk kv G2 H2 e2 w2 k2 => ?_⟩
      obtain ⟨ds', e0', hk⟩ := getO_inv hk
      rw [e0] at e0'; cases e0'
      have e12 := e1.trans e2
      have o' := o.ext e12
      obtain ⟨vs, hv, kv⟩ := o'.at_
      cases k with
      | int ki =>
        simp only [setR] at hk
        cases ej : L2.ixN ds.length ki with
        | none => rw [ej] at hk; exact hk.elim
        | some j =>
          rw [ej] at hk
          have kw : DqAll X.K G2 (vs.set j v) (ds.set j d) := DqAll.set (k1.mono e2.g) j kv
          exact ⟨a, vs, ki, j, rfl, k2.int, hv, by rw [kv.length]; exact ej, q _ hk σ G2 _ e12.g (Wd.mut (w.step w2 e12) o' kw).1 ((r.ext e12).mut e0 es o' kw)⟩
      | _ => exact hk.elim⟩
def augM (i : Nat) (f : List Sl → R D) (h : D → D → R D) : List Sl → R Out := fun ρ => bd (getD ρ i) fun d => bd (f ρ) fun e => bd (h d e) fun z => ok (.nx (ρ.set i (.dat z)))
theorem sAug (i : Nat) {x : Str} {op : Operator} {pos' : Pos} {f : List Sl → R D} {r0 : R2} {h : D → D → R D} (ho : OpR X (inplaceOp op) r0) (hb : Bop X.K r0 h) (hN : X.N.Nodup) (he : PE X e (tB X.K f)) (hi : X.N[i]? = some x := by rfl) (hx : Loc X.env.scope x := by first | exact Or.inl rfl | exact Or.inr rfl)
    (hf : X.fn x = true ∨ X.env.scope.names.lookup x = some .local := by first | exact .inl rfl | exact .inr rfl) : PS X (.AugAssign (.Name x pos') op e pos) (tS X.K (augM i f h)) :=
  PS.wk (ps_aug hN hi hx he (fun pins s σ H x y v u Q I rx ry q => ho pins s σ H x y v u Q I rx ry q) hf) fun D σ H ⟨c, G, ρ, post, w, r, hg, q⟩ => by
    obtain ⟨d, e0, hg⟩ := getD_inv hg
    rcases r.at_ i _ e0 with z | ⟨u, es, k⟩
    · cases z
    · refine ⟨u, es, c, G, ρ, _, w, r, hg, fun y hy v G1 H1 e1 w1 b1 => ?_⟩
      refine hb c G1 H1 u v d y _ _ w1 (.inl (k.mono e1.g)) b1 hy fun z hz z' G2 H2 e2 w2 k2 => ?_
      have e12 := e1.trans e2
      exact q _ hz _ G2 H2 e12.g (w.step w2 e12) ((r.ext e12).setD k2)
theorem bop_mulI : Bop X.K (rI CMul fun i j => .int (i * j)) (fun d e => match d, e with | .int i, .int j => bd (req (CMul i j)) fun _ => ok (.int (i * j)) | _, _ => fail) := by
  intro c G H x y d e post Q w b1 b2 hp q
  cases d <;> cases e <;> try exact hp.elim
  exact ⟨_, _, b1.int, b2.int, hp.1, q _ hp.2 _ G H .refl w (.int _)⟩
def addIR : D → D → R D
  | .int i, .int j => ok (.int (i + j))
  | _, _ => fail
theorem bop_addI : Bop X.K (rI0 fun i j => .int (i + j)) addIR := by
  intro c G H x y d e post Q w b1 b2 hp q
  cases d <;> cases e <;> try exact hp.elim
  exact ⟨_, _, b1.int, b2.int, q _ hp _ G H .refl w (.int _)⟩
/-! ### while -/
def lpO (k : List Sl → R Out) : Out → R Out
  | .nx ρ => k ρ
  | .ct ρ => k ρ
  | .bk ρ => ok (.nx ρ)
  | .rt d => ok (.rt d)
@[simp] theorem lpO_nx (k : List Sl → R Out) (ρ : List Sl) : lpO k (.nx ρ) = k ρ := (rfl)
@[simp] theorem lpO_ct (k : List Sl → R Out) (ρ : List Sl) : lpO k (.ct ρ) = k ρ := (rfl)
@[simp] theorem lpO_bk (k : List Sl → R Out) (ρ : List Sl) : lpO k (.bk ρ) = ok (.nx ρ) := (rfl)
@[simp] theorem lpO_rt (k : List Sl → R Out) (d : D) : lpO k (.rt d) = ok (.rt d) := (rfl)
def whileF (t : List Sl → R Bool) (g : List Sl → R Out) : Nat → List Sl → R Out
  | 0, _ => fail
  | n + 1, ρ => bd (t ρ) fun b => if b = true then bd (g ρ) (lpO (whileF t g n)) else ok (.nx ρ)
def whileM (t : List Sl → R Bool) (g : List Sl → R Out) : List Sl → R Out := fun ρ post => ∃ n, whileF t g n ρ post
theorem sWhile {t : List Sl → R Bool} {g : List Sl → R Out} {cnd : Expr} {body : List Stmt} (hp : PassesOwn (model X.prog X.w) X.A X.env X.xe) (hc : PT X cnd (tT X.K t)) (hb : PSs X body (tS X.K g)) : PS X (.While cnd body [] pos) (tS X.K (whileM t g)) :=
  PS.wk (ps_while hp hc hb) fun D σ H ⟨c, G, ρ, post, w, r, ⟨n, hg⟩, q⟩ => by
    refine ⟨fun m σ H => ∃ G' ρ', Le G G' ∧ Wd c G' H ∧ RS X.K c G' H σ ρ' ∧ whileF t g m ρ' post, ⟨n, G, ρ, fun _ _ e => e, w, r, hg⟩, fun m σ H ⟨G1, ρ1, l1, w1, r1, h1⟩ => ?_⟩
    cases m with
    | zero => exact h1.elim
    | succ m =>
      refine ⟨c, G1, ρ1, _, w1, r1, h1, fun b hb G2 H2 e2 w2 => ?_⟩
      have l2 : Le G G2 := fun a o e => e2.g a o (l1 a o e)
      cases b with
      | false => exact q _ hb σ G2 H2 l2 (w1.step w2 e2) (r1.ext e2)
      | true =>
        refine ⟨fun σ' H' => ∃ G' ρ', Le G G' ∧ Wd c G' H' ∧ RS X.K c G' H' σ' ρ' ∧ whileF t g m ρ' post, fun σ' H' h => ⟨m, Nat.lt_succ_self m, h⟩, c, G2, ρ1, _, w1.step w2 e2, r1.ext e2, hb, fun o ho => ?_⟩
        cases o with
        | nx ρ' => exact fun σ' G' H' l w' r' => ⟨G', ρ', fun a o e => l a o (l2 a o e), w', r', ho⟩
        | ct ρ' => exact fun σ' G' H' l w' r' => ⟨G', ρ', fun a o e => l a o (l2 a o e), w', r', ho⟩
        | bk ρ' => exact fun σ' G' H' l w' r' => q _ ho σ' G' H' (fun a o e => l a o (l2 a o e)) w' r'
        | rt d => exact fun v G' H' l w' k => q _ ho v G' H' (fun a o e => l a o (l2 a o e)) w' k
/-! ### what is walked -/
/-- the iterator's items are data, as long as the state is related to that where it began -/
def Wks (K : PySem.W.Frag) (c : Ct) (J : It) (Rel : Hp → Hp → Prop) (ds : List D) : Prop := ∀ i G H, Rel G H → W0 c.E G H →
  (∀ d, ds[i]? = some d → J.go i H ∧ ∀ x H1, J.yld i H x H1 → ∃ G1, Ext c.E G H G1 H1 ∧ W0 c.E G1 H1 ∧ Dq K G1 x d) ∧ (ds.length ≤ i → J.stop i H)
/-- .. for a statement's loop: the frozen part grows -/
def tIs (K : PySem.W.Frag) (f : List Sl → R (List D)) : TI := fun σ H R' => ∃ (c : Ct) (G : Hp) (ρ : List Sl) (post : List D → Prop), Wd c G H ∧ RS K c G H σ ρ ∧ f ρ post ∧
  ∀ ds, post ds → ds.length ≤ sizeLine → ∀ J G' H', Ext c.E G H G' H' → W0 c.E G' H' → Wks K c J (fun G2 _ => Le G' G2) ds → R' J H'
/-- .. for a comprehension's -/
def tIw (K : PySem.W.Frag) (f : List Sl → R (List D)) : TI := fun σ H R' => ∃ (c : Ct) (G : Hp) (ρ : List Sl) (post : List D → Prop), Wd c G H ∧ RS K c G H σ ρ ∧ f ρ post ∧
  ∀ ds, post ds → ds.length ≤ sizeLine → ∀ J G' H', Ext c.E G H G' H' → W0 c.E G' H' → Wks K c J (fun G2 H2 => Ext c.E G' H' G2 H2) ds → R' J H'
theorem PI.wk {tg iter : Expr} {t t' : TI} (h : PI X tg iter t) (w : ∀ σ H R, t' σ H R → t σ H R) : PI X tg iter t' := ⟨fun pins s σ H R I q => h.run pins s σ H R I (w σ H R q)⟩
theorem iW {tg iter : Expr} {f : List Sl → R (List D)} (h : PI X tg iter (tIs X.K f)) : PI X tg iter (tIw X.K f) := PI.wk h fun σ H R' ⟨c, G, ρ, post, w, r, hf, q⟩ =>
  ⟨c, G, ρ, post, w, r, hf, fun ds hds hl J G' H' e' w' k => q ds hds hl J G' H' e' w' fun i G2 H2 l w2 => k i G2 H2 l.g w2⟩
/-! ### for -/
def forF (g : D → List Sl → R (List Sl)) (tb : List Sl → R Out) : List D → List Sl → R Out
  | [], ρ => ok (.nx ρ)
  | d :: ds, ρ => bd (g d ρ) fun ρ1 => bd (tb ρ1) (lpO (forF g tb ds))
def forM (fi : List Sl → R (List D)) (g : D → List Sl → R (List Sl)) (tb : List Sl → R Out) : List Sl → R Out := fun ρ => bd (fi ρ) fun ds => forF g tb ds ρ
theorem sFor {js : List Nat} {tg iter : Expr} {body : List Stmt} {fi : List Sl → R (List D)} {g : D → List Sl → R (List Sl)} {tb : List Sl → R Out} (hp : PassesOwn (model X.prog X.w) X.A X.env X.xe) (hi : PI X tg iter (tIs X.K fi)) (hg : PG X tg (tG X.K js g)) (hb : PSs X body (tS X.K tb)) (hc : X.calm = true := by rfl)
    (hs : ∀ x, foldedSetIterable iter X.env x = pure x := by intro _; rfl) : PS X (.For tg iter body [] pos) (tS X.K (forM fi g tb)) :=
  PS.wk (ps_for hp hc hi hg hb hs) fun D σ H ⟨c, G, ρ, post, w, r, hf, q⟩ => ⟨c, G, ρ, _, w, r, hf, fun ds hds hl J G1 H1 e1 w1 wk => by
    refine ⟨fun i m σ H => i + m = ds.length ∧ ∃ G' ρ', Le G1 G' ∧ Wd c G' H ∧ RS X.K c G' H σ ρ' ∧ forF g tb (ds.drop i) ρ' post, ⟨ds.length, by omega, G1, ρ, fun _ _ e => e, w.step w1 e1, r.ext e1, hds⟩, fun i m σ H ⟨him, G2, ρ2, l2, w2, r2, h2⟩ => ?_⟩
    obtain ⟨go, stop⟩ := wk i G2 H l2 w2.w
    have l02 : Le G G2 := fun a o e => l2 a o (e1.g a o e)
    cases hd : ds[i]? with
    | none =>
      have hle : ds.length ≤ i := List.getElem?_eq_none_iff.mp hd
      rw [List.drop_eq_nil_of_le hle] at h2
      exact .inl ⟨stop hle, q _ h2 σ G2 H l02 w2 r2⟩
    | some d =>
      obtain ⟨hlt, hget⟩ := List.getElem?_eq_some_iff.mp hd
      obtain ⟨g1, y1⟩ := go d hd
      rw [List.drop_eq_getElem_cons hlt, hget] at h2
      refine .inr ⟨g1, fun σ' H' => ∃ G' ρ', Le G1 G' ∧ Wd c G' H' ∧ RS X.K c G' H' σ' ρ' ∧ forF g tb (ds.drop (i + 1)) ρ' post, fun σ' H' h => ⟨m - 1, by omega, by omega, h⟩, fun x H3 hy => ?_⟩
      obtain ⟨G3, e3, w3, k3⟩ := y1 x H3 hy
      have l03 : Le G G3 := fun a o e => e3.g a o (l02 a o e)
      have l13 : Le G1 G3 := fun a o e => e3.g a o (l2 a o e)
      refine ⟨c, G3, ρ2, d, _, w2.step w3 e3, r2.ext e3, k3, h2, fun ρ4 h4 σ4 r4 _ => ?_⟩
      refine ⟨c, G3, ρ4, _, w2.step w3 e3, r4, h4, fun o ho => ?_⟩
      cases o with
      | nx ρ' => exact fun σ' G' H' l w' r' => ⟨G', ρ', fun a o e => l a o (l13 a o e), w', r', ho⟩
      | ct ρ' => exact fun σ' G' H' l w' r' => ⟨G', ρ', fun a o e => l a o (l13 a o e), w', r', ho⟩
      | bk ρ' => exact fun σ' G' H' l w' r' => q _ ho σ' G' H' (fun a o e => l a o (l03 a o e)) w' r'
      | rt d => exact fun v G' H' l w' k => q _ ho v G' H' (fun a o e => l a o (l03 a o e)) w' k⟩
end
end Pu

namespace Pu
open PySem PySem.Spec PyProof.Rows L2
variable [Tb]
section
variable {X : Cx} {e a b : Expr} {es : List Expr} {pos : Pos} {st : Stmt} {rest sts : List Stmt} {tg iter elt : Expr}
/-! ### lists, tuples, texts walked -/
def itemsR : D → R (List D)
  | .list xs => ok xs
  | .tuple xs => ok xs
  | .str z => ok (z.cps.toList.map fun c => .str ⟨#[c]⟩)
  | _ => fail
/-- the three ways to begin a walk -/
theorem iter_any {pins : List (Addr × Obj)} {s1 : Shared} {σ : L2.St} {H1 : Hp} {R' : It → Hp → Prop} {v : Value} {x : V} (I1 : Inv X pins σ H1 s1) (r1 : RelV x v)
    (q : (∃ a xs, x = .ref a ∧ SqL X.K H1 a xs ∧ (xs.length ≤ sizeLine → R' (Itl X.K a) H1)) ∨ (∃ a xs, x = .ref a ∧ SqT X.K H1 a xs ∧ (xs.length ≤ sizeLine → R' (Itt X.K a) H1)) ∨ ∃ z, x = .str z ∧ R' (Its z) H1) :
    wpAny (model X.prog X.w) X.A (pyIter v) (PIE X pins σ tg R') X.xe s1 := by
  rcases q with ⟨a, xs, rfl, hq, q⟩ | ⟨a, xs, rfl, hq, q⟩ | ⟨z, rfl, q⟩
  · cases r1
    obtain ⟨its, rv, p, hz⟩ := I1.list hq
    refine wpAny_pyIter_list p.isList ?_
    refine ⟨s1.heap.objs.size, [s1.heap.objs.size], _, _, H1, rfl, I1.kept (t' := s1.toks) fun b o e => Heap.get?_push_of_some _ e, turn_list a _, ⟨_, Heap.get?_push_size _ rfl, rfl, rfl⟩, fun b hb => ?_, q hz⟩
    have e : b = s1.heap.objs.size := by simpa using hb
    subst e
    exact I1.fpOk (Nat.le_refl _) (I1.hok.fresh (Nat.le_refl _))
  · cases r1
    obtain ⟨its, rv, p, hz⟩ := I1.tuple hq
    refine wpAny_pyIter_tuple (show s1.heap.IsTuple a its.toArray from p) ?_
    refine ⟨s1.heap.objs.size, [s1.heap.objs.size], _, _, H1, rfl, I1.kept (t' := s1.toks) fun b o e => Heap.get?_push_of_some _ e, turn_tuple a _, ⟨_, Heap.get?_push_size _ rfl, rfl, rfl⟩, fun b hb => ?_, q hz⟩
    have e : b = s1.heap.objs.size := by simpa using hb
    subst e
    exact I1.fpOk (Nat.le_refl _) (I1.hok.fresh (Nat.le_refl _))
  · obtain ⟨t, rfl⟩ := r1
    cases ha : z.cps.all (· < 128)
    · exact wpAny_pyIter_wide ha (pi_one (tk := s1.toks) I1 _ (turn_str _ z t "str_iterator" (.inr rfl)) ⟨_, Heap.get?_push_size _ rfl, rfl, rfl⟩ q)
    · exact wpAny_pyIter_ascii ha (pi_one (tk := s1.toks) I1 _ (turn_str _ z t "str_ascii_iterator" (.inl rfl)) ⟨_, Heap.get?_push_size _ rfl, rfl, rfl⟩ q)
theorem itl_get {K : PySem.W.Frag} {H : Hp} {a : Addr} {vs : List V} {i : Nat} {v x : V} {H1 : Hp} (h : SqL K H a vs) (e : vs[i]? = some v) (y : (Itl K a).yld i H x H1) : H1 = H ∧ x = v := by
  obtain ⟨rfl, f⟩ := y
  exact ⟨rfl, Option.some.inj ((f _ h).symm.trans e)⟩
theorem itt_get {K : PySem.W.Frag} {H : Hp} {a : Addr} {vs : List V} {i : Nat} {v x : V} {H1 : Hp} (h : SqT K H a vs) (e : vs[i]? = some v) (y : (Itt K a).yld i H x H1) : H1 = H ∧ x = v := by
  obtain ⟨rfl, f⟩ := y
  exact ⟨rfl, Option.some.inj ((f _ h).symm.trans e)⟩
theorem wks_list {K : PySem.W.Frag} {c : Ct} {a : Addr} {vs : List V} {ds : List D} {Rel : Hp → Hp → Prop} (h : ∀ G H, Rel G H → W0 c.E G H → H a = some (.lst vs) ∧ DqAll K G vs ds) : Wks K c (Itl K a) Rel ds := by
  intro i G H r w
  obtain ⟨h1, k⟩ := h G H r w
  refine ⟨fun d hd => ?_, fun hl => ⟨vs, .of h1, by rw [k.length]; exact hl⟩⟩
  obtain ⟨v, e, kv⟩ := k.get hd
  refine ⟨⟨vs, v, .of h1, e⟩, fun x H1 y => ?_⟩
  obtain ⟨rfl, rfl⟩ := itl_get (.of h1) e y
  exact ⟨G, .refl, w, kv⟩
theorem wks_tup {K : PySem.W.Frag} {c : Ct} {a : Addr} {vs : List V} {ds : List D} {Rel : Hp → Hp → Prop} (h : ∀ G H, Rel G H → W0 c.E G H → SqT K H a vs ∧ DqAll K G vs ds) : Wks K c (Itt K a) Rel ds := by
  intro i G H r w
  obtain ⟨h1, k⟩ := h G H r w
  refine ⟨fun d hd => ?_, fun hl => ⟨vs, h1, by rw [k.length]; exact hl⟩⟩
  obtain ⟨v, e, kv⟩ := k.get hd
  refine ⟨⟨vs, v, h1, e⟩, fun x H1 y => ?_⟩
  obtain ⟨rfl, rfl⟩ := itt_get h1 e y
  exact ⟨G, .refl, w, kv⟩
theorem wks_str {K : PySem.W.Frag} {c : Ct} {z : Str} {Rel : Hp → Hp → Prop} : Wks K c (Its z) Rel (z.cps.toList.map fun c => .str ⟨#[c]⟩) := by
  intro i G H r w
  refine ⟨fun d hd => ?_, fun hl => by show z.cps.size ≤ i; simpa using hl⟩
  rw [List.getElem?_map] at hd
  cases e : z.cps.toList[i]? with
  | none => rw [e] at hd; cases hd
  | some cc =>
    rw [e] at hd; cases hd
    have e' : z.cps[i]? = some cc := by simpa using e
    have hlt : i < z.cps.size := (Array.getElem?_eq_some_iff.mp e').1
    refine ⟨hlt, fun x H1 y => ?_⟩
    obtain ⟨rfl, c2, h2, rfl⟩ := y
    rw [e'] at h2; cases h2
    exact ⟨G, .refl, w, .str _⟩
/-- the length of a text that is walked: no list is made of it -/
theorem iS {f : List Sl → R D} (h : PE X iter (tP X.K f)) : PI X tg iter (tIs X.K fun ρ => bd (f ρ) fun d => bd (itemsR d) fun ds => bd (req (ds.length ≤ sizeLine ∨ ∀ z, d ≠ .str z)) fun _ => ok ds) := by
  refine ⟨fun pins s σ H R' I ⟨c, G, ρ, post, w, r, hf, q⟩ => ?_⟩
  refine thn (h.run pins s σ H (fun v H' => ∃ d G', (bd (itemsR d) fun ds => bd (req (ds.length ≤ sizeLine ∨ ∀ z, d ≠ .str z)) fun _ => ok ds) post ∧ Ext c.E G H G' H' ∧ W0 c.E G' H' ∧ Dq X.K G' v d) I ⟨c, G, ρ, _, w, r, hf, fun d hd v G' H' e' w' k => ⟨d, G', hd, e', w', k⟩⟩) fun v s1 ⟨x, H1, I1, r1, d, G1, hd, e1, w1, k⟩ => ?_
  refine iter_any I1 r1 ?_
  cases k with
  | @lst a vs ds e kv =>
    have hd' : post ds := hd.2
    exact .inl ⟨a, vs, rfl, .of (w1.sub _ _ e), fun hz => q ds hd' (by rw [← kv.length]; exact hz) _ G1 H1 e1 w1 (wks_list fun G2 H2 l w2 => ⟨w2.sub _ _ (l _ _ e), kv.mono l⟩)⟩
  | @tup a vs ds e kv =>
    have hd' : post ds := hd.2
    exact .inr (.inl ⟨a, vs, rfl, sqT_mono w1.sub e, fun hz => q ds hd' (by rw [← kv.length]; exact hz) _ G1 H1 e1 w1 (wks_tup fun G2 H2 l w2 => ⟨sqT_mono w2.sub (sqD_mono l e), kv.mono l⟩)⟩)
  | str z =>
    obtain ⟨hz, hp⟩ := hd
    rcases hz with hz | hz
    · exact .inr (.inr ⟨z, rfl, q _ hp hz _ G1 H1 e1 w1 wks_str⟩)
    · exact absurd rfl (hz z)
  | _ => exact hd.elim
/-- .. looked at only, for a comprehension -/
theorem iB {f : List Sl → R D} (h : PE X iter (tB X.K f)) : PI X tg iter (tIw X.K fun ρ => bd (f ρ) fun d => bd (itemsR d) fun ds => bd (req (ds.length ≤ sizeLine ∨ ∀ z, d ≠ .str z)) fun _ => ok ds) := by
  refine ⟨fun pins s σ H R' I ⟨c, G, ρ, post, w, r, hf, q⟩ => ?_⟩
  refine thn (h.run pins s σ H (fun v H' => ∃ d G', (bd (itemsR d) fun ds => bd (req (ds.length ≤ sizeLine ∨ ∀ z, d ≠ .str z)) fun _ => ok ds) post ∧ Ext c.E G H G' H' ∧ W0 c.E G' H' ∧ Bv X.K c G' H' v d) I ⟨c, G, ρ, _, w, r, hf, fun d hd v G' H' e' w' k => ⟨d, G', hd, e', w', k⟩⟩) fun v s1 ⟨x, H1, I1, r1, d, G1, hd, e1, w1, k⟩ => ?_
  refine iter_any I1 r1 ?_
  cases d with
  | list ds =>
    obtain ⟨a, vs, rfl, h1, kv, nv⟩ := k.lst w1
    exact .inl ⟨a, vs, rfl, .of h1, fun hz => q ds hd.2 (by rw [← kv.length]; exact hz) _ G1 H1 e1 w1 (wks_list fun G2 H2 l w2 => ⟨l.h _ _ h1 nv, kv.mono l.g⟩)⟩
  | tuple ds =>
    obtain ⟨a, vs, rfl, h1, kv⟩ := k.tup
    exact .inr (.inl ⟨a, vs, rfl, sqT_mono w1.sub h1, fun hz => q ds hd.2 (by rw [← kv.length]; exact hz) _ G1 H1 e1 w1 (wks_tup fun G2 H2 l w2 => ⟨sqT_mono w2.sub (sqD_mono l.g h1), kv.mono l.g⟩)⟩)
  | str z =>
    obtain ⟨hz, hp⟩ := hd
    rcases hz with hz | hz
    · exact .inr (.inr ⟨z, k.str, q _ hp hz _ G1 H1 e1 w1 wks_str⟩)
    · exact absurd rfl (hz z)
  | _ => exact hd.elim
/-! ### ranges -/
def rngD (lo hi : Int) : List D := (List.range (hi - lo).toNat).map fun (i : Nat) => .int (lo + (i : Int))
theorem rngD_length (lo hi : Int) : (rngD lo hi).length = (hi - lo).toNat := by simp [rngD]
def rgOk (lo hi : Int) : Prop := -(2 ^ 62) ≤ lo ∧ lo < 2 ^ 62 ∧ -(2 ^ 62) ≤ hi ∧ hi < 2 ^ 62 ∧ (hi - lo).toNat ≤ sizeLine
def range1R : List D → R (List D)
  | [.int j] => bd (req (rgOk 0 j)) fun _ => ok (rngD 0 j)
  | _ => fail
def range2R : List D → R (List D)
  | [.int i, .int j] => bd (req (rgOk i j)) fun _ => ok (rngD i j)
  | _ => fail
theorem wks_rng {K : PySem.W.Frag} {c : Ct} {lo hi : Int} {Rel : Hp → Hp → Prop} : Wks K c (Itr lo (hi - lo).toNat) Rel (rngD lo hi) := by
  intro i G H r w
  refine ⟨fun d hd => ?_, fun hl => by rw [rngD_length] at hl; exact hl⟩
  have hlt : i < (hi - lo).toNat := by rw [← rngD_length lo hi]; exact (List.getElem?_eq_some_iff.mp hd).1
  have ed : d = .int (lo + (i : Int)) := by
    unfold rngD at hd
    rw [List.getElem?_map, List.getElem?_range hlt] at hd
    exact (Option.some.inj hd).symm
  subst ed
  refine ⟨hlt, fun x H1 ⟨h1, h2⟩ => ?_⟩
  subst h1 h2
  exact ⟨G, .refl, w, .int _⟩
theorem iR1 {p : Pos} {f : List Sl → R (List D)} (hm : X.mg "range" = none) (ha : PA X [a] (tAB X.K f)) (hg : Gl X "range" := by rfl) (hs : starEach [a] X.env = [(false, eval a X.env)] := by rfl) : PI X tg (.Call (.Name "range" p) [a] [] pos) (tIs X.K (m1 f range1R)) :=
  PI.wk (pi_range1 hg hm ha hs) fun σ H R' ⟨c, G, ρ, post, w, r, hf, q⟩ => ⟨c, G, ρ, _, w, r, hf, fun ds hds vs G1 H1 e1 w1 b1 => by
    match ds, b1, hds with
    | [.int j], b1, hds =>
      obtain ⟨v, rfl, b⟩ := b1.one
      rw [b.int]
      obtain ⟨h, hp⟩ := hds
      refine ⟨j, rfl, h.2.2.1, h.2.2.2.1, ?_⟩
      have e0 : j.toNat = (j - 0).toNat := by omega
      rw [e0]
      exact q _ hp (by rw [rngD_length]; exact h.2.2.2.2) _ G1 H1 e1 w1 wks_rng⟩
theorem iR2 {p : Pos} {f : List Sl → R (List D)} (hm : X.mg "range" = none) (ha : PA X [a, b] (tAB X.K f)) (hg : Gl X "range" := by rfl) (hs : starEach [a, b] X.env = [(false, eval a X.env), (false, eval b X.env)] := by rfl) (hs2 : starEach [b] X.env = [(false, eval b X.env)] := by rfl) : PI X tg (.Call (.Name "range" p) [a, b] [] pos) (tIs X.K (m1 f range2R)) :=
  PI.wk (pi_range2 hg hm ha hs hs2) fun σ H R' ⟨c, G, ρ, post, w, r, hf, q⟩ => ⟨c, G, ρ, _, w, r, hf, fun ds hds vs G1 H1 e1 w1 b1 => by
    match ds, b1, hds with
    | [.int i, .int j], b1, hds =>
      obtain ⟨v, u, rfl, b, b'⟩ := b1.two
      rw [b.int, b'.int]
      obtain ⟨h, hp⟩ := hds
      exact ⟨i, j, rfl, ⟨h.1, h.2.1, h.2.2.1, h.2.2.2.1⟩, q _ hp (by rw [rngD_length]; exact h.2.2.2.2) _ G1 H1 e1 w1 wks_rng⟩⟩
/-! ### comprehensions -/
theorem wipe_eq {σ σ' : L2.St} {vs : List Nat} (hl : σ'.length = σ.length) (h : ∀ j, j ∉ vs → σ'[j]? = σ[j]?) : L2.wipe σ' vs = L2.wipe σ vs := by
  have key : ∀ (τ : L2.St) (vs : List Nat) (j : Nat), (L2.wipe τ vs)[j]? = if j ∈ vs then (if j < τ.length then some none else none) else τ[j]? := by
    intro τ vs
    induction vs with
    | nil => intro j; simp [L2.wipe]
    | cons v r ih =>
      intro j
      show ((L2.wipe τ r).set v none)[j]? = _
      by_cases hj : j = v
      · subst hj
        by_cases hlt : j < τ.length
        · rw [List.getElem?_set_self (by rw [wipe_length]; exact hlt)]; simp [hlt]
        · have : ((L2.wipe τ r).set j none)[j]? = none := List.getElem?_eq_none_iff.mpr (by simp [wipe_length]; omega)
          rw [this]; simp [hlt]
      · rw [List.getElem?_set_ne (Ne.symm hj), ih j]; simp [hj]
  apply List.ext_getElem?
  intro j
  rw [key, key]
  by_cases hj : j ∈ vs
  · simp [hj, hl]
  · simp [hj, h j hj]
theorem wipe_wipe (σ : L2.St) (vs : List Nat) : L2.wipe (L2.wipe σ vs) vs = L2.wipe σ vs := wipe_eq (wipe_length _ _) fun j hj => wipe_out hj
def lcF (g : D → List Sl → R (List Sl)) (tt : List Sl → R Bool) (te : List Sl → R D) : List D → List Sl → R (List D)
  | [], _ => ok []
  | d :: ds, ρ => bd (g d ρ) fun ρ1 => bd (tt ρ1) fun b => if b = true then bd (te ρ1) fun y => bd (lcF g tt te ds ρ) fun ys => ok (y :: ys) else lcF g tt te ds ρ
def lcM (vs : List Nat) (fi : List Sl → R (List D)) (g : D → List Sl → R (List Sl)) (tt : List Sl → R Bool) (te : List Sl → R D) : List Sl → R (List D) := fun ρ => bd (fi ρ) fun ds => lcF g tt te ds (wipeS ρ vs)
def yesT : List Sl → R Bool := fun _ => ok true
theorem PTs.wk {ifs : List Expr} {t t' : TT} (h : PTs X ifs t) (w : ∀ σ H Q, t' σ H Q → t σ H Q) : PTs X ifs t' := ⟨fun pins s σ H Q I q => h.run pins s σ H Q I (w σ H Q q)⟩
theorem tN : PTs X [] (tT X.K yesT) := PTs.wk pts_nil fun σ H Q ⟨c, G, ρ, post, w, r, hf, q⟩ => q true hf G H .refl w.w
theorem tO1 {f : List Sl → R Bool} (h : PT X a (tT X.K f)) : PTs X [a] (tT X.K f) := pts_one h
theorem lc_of {K : PySem.W.Frag} {vs js : List Nat} {fi : List Sl → R (List D)} {g : D → List Sl → R (List Sl)} {tt : List Sl → R Bool} {te : List Sl → R D} (hjs : ∀ j ∈ js, j ∈ vs) {σ : L2.St} {H : Hp} {Q : VK}
    (q : tF K (lcM vs fi g tt te) σ H Q) : tLc (tIw K fi) (tG K js g) (tT K tt) (tP K te) vs σ H Q := by
  obtain ⟨c, G, ρ, post, w, r, hf, q⟩ := q
  refine ⟨c, G, ρ, _, w, r, hf, fun ds hds hl J G1 H1 e1 w1 wk D0 hD => ?_⟩
  have wd1 := w.step w1 e1
  obtain ⟨wn, en, on⟩ := wd1.newO (K := K) (G0 := G) (H0 := H) (p := D0) hD (vs := []) (ds := []) .nil
  have nv : ¬ c.E.vol D0 := (w1.fresh hD).2
  have nD : H D0 = none := e1.none hD nv
  refine ⟨fun i m H' => i + m = ds.length ∧ ∃ G' accd acc, Ext c.E G1 (upd H1 D0 (.lst [])) G' (upd H' D0 (.lst [])) ∧ W0 c.E G' H' ∧ H' D0 = some (.lst acc) ∧ G' D0 = none ∧ DqAll K G' acc accd ∧ accd.length ≤ i ∧ lcF g tt te (ds.drop i) (wipeS ρ vs) (fun ys => post (accd ++ ys)),
    ⟨ds.length, by omega, G1, [], [], by rw [upd_upd]; exact .refl, wn, upd_same, (w1.fresh hD).1, .nil, Nat.le_refl _, by simpa using hds⟩, fun i m H' ⟨him, G', accd, acc, ex, w', hacc, gD, kacc, hlen, hlc⟩ => ?_⟩
  -- the state now, seen from the beginning
  have ext1 : Ext c.E G1 H1 G' H' := by
    refine ⟨ex.g, fun p o hp v => ?_, fun p o hp v g0 => ?_⟩
    · have hne : p ≠ D0 := ne_of_none hp hD
      have := ex.h p o (by rw [upd_ne hne]; exact hp) v
      rw [upd_ne hne] at this; exact this
    · have hne : p ≠ D0 := ne_of_none hp hD
      exact ex.n p o (by rw [upd_ne hne]; exact hp) v g0
  have extO : Ext c.E G H G' H' := e1.trans ext1
  have wd' : Wd c G' H' := w.step w' extO
  obtain ⟨go, stop⟩ := wk i G' H' ext1 w'
  cases hd : ds[i]? with
  | none =>
    have hle : ds.length ≤ i := List.getElem?_eq_none_iff.mp hd
    rw [List.drop_eq_nil_of_le hle] at hlc
    have hp : post accd := by have : post (accd ++ []) := hlc; rwa [List.append_nil] at this
    refine .inl ⟨stop hle, q accd hp D0 G' H' nD extO w' ⟨⟨acc, hacc, kacc⟩, gD, ?_, nv⟩⟩
    exact on.h0
  | some d =>
    obtain ⟨hlt, hget⟩ := List.getElem?_eq_some_iff.mp hd
    obtain ⟨g1, y1⟩ := go d hd
    rw [List.drop_eq_getElem_cons hlt, hget] at hlc
    refine .inr ⟨g1, fun H'' => ∃ G'' accd' acc', Ext c.E G1 (upd H1 D0 (.lst [])) G'' (upd H'' D0 (.lst [])) ∧ W0 c.E G'' H'' ∧ H'' D0 = some (.lst acc') ∧ G'' D0 = none ∧ DqAll K G'' acc' accd' ∧ accd'.length ≤ i + 1 ∧ lcF g tt te (ds.drop (i + 1)) (wipeS ρ vs) (fun ys => post (accd' ++ ys)),
      fun H'' h => ⟨m - 1, by omega, by omega, h⟩, fun x H3 hy => ?_⟩
    obtain ⟨G3, e3, w3, k3⟩ := y1 x H3 hy
    have wd3 := wd'.step w3 e3
    have rw3 : RS K c G3 H3 (L2.wipe σ vs) (wipeS ρ vs) := ((r.ext extO).ext e3).wipe vs
    refine ⟨c, G3, wipeS ρ vs, d, _, wd3, rw3, k3, hlc, fun ρ4 h4 σ4 r4 t4 => ?_⟩
    have hwipe : L2.wipe σ4 vs = L2.wipe σ vs := by
      rw [← wipe_wipe σ vs]
      exact wipe_eq t4.1 fun j hj => t4.2 j fun z => hj (hjs j z)
    refine ⟨hwipe, c, G3, ρ4, _, wd3, r4, h4, fun b hb G5 H5 e5 w5 => ?_⟩
    -- what the accumulator is behind some steps
    have later : ∀ G6 H6, Ext c.E G' H' G6 H6 → W0 c.E G6 H6 → H6 D0 = some (.lst acc) ∧ G6 D0 = none ∧ DqAll K G6 acc accd ∧ Ext c.E G1 (upd H1 D0 (.lst [])) G6 (upd H6 D0 (.lst [])) := fun G6 H6 e6 w6 => by
      refine ⟨e6.h _ _ hacc nv, e6.n _ _ hacc nv gD, kacc.mono e6.g, ex.trans ⟨e6.g, fun p o hp v => ?_, fun p o hp v g0 => ?_⟩⟩
      · by_cases hpD : p = D0
        · subst hpD; rw [upd_same] at hp ⊢; exact hp
        · rw [upd_ne hpD] at hp ⊢; exact e6.h p o hp v
      · by_cases hpD : p = D0
        · subst hpD; exact e6.n _ _ hacc nv gD
        · rw [upd_ne hpD] at hp; exact e6.n p o hp v g0
    cases b with
    | false =>
      obtain ⟨a1, a2, a3, a4⟩ := later G5 H5 (e3.trans e5) w5
      exact ⟨G5, accd, acc, a4, w5, a1, a2, a3, by omega, hb⟩
    | true =>
      refine ⟨c, G5, ρ4, _, wd3.step w5 e5, r4.ext e5, hb, fun y hy v G6 H6 e6 w6 k6 => ?_⟩
      obtain ⟨a1, a2, a3, a4⟩ := later G6 H6 ((e3.trans e5).trans e6) w6
      refine ⟨acc, a1, by rw [kacc.length]; omega, G6, accd ++ [y], acc ++ [v], by rw [upd_upd]; exact a4, ⟨fun p o hp => ?_, w6.vol, Ef.loc w6.inv (.lst a1) fun p vp => ?_⟩, upd_same, a2, a3.append (.cons k6 .nil), by simp; omega, ?_⟩
      · rw [upd_ne (by rintro rfl; rw [a2] at hp; cases hp)]; exact w6.sub p o hp
      · rw [upd_ne (by rintro rfl; exact nv vp)]
      · have : lcF g tt te (ds.drop (i + 1)) (wipeS ρ vs) (fun ys => post (accd ++ (y :: ys))) := hy
        simpa [List.append_assoc] using this
theorem lc {scope : Scope} {own : List (Str × Nat)} {ifs : List Expr} {js : List Nat} {fi : List Sl → R (List D)} {g : D → List Sl → R (List Sl)} {tt : List Sl → R Bool} {te : List Sl → R D} (hN : X.N.Nodup) (okb : blkC X.N X.env.scope scope own = true) (hi : PI X tg iter (tIw X.K fi))
    (hg : ∀ (s : Shared) (H : Hp) (C : Addr) (cl : List (Str × Addr)) (fp : List Addr), PG (X.blk s H scope (compEnvC scope cl C X.env) fp) tg (tG X.K js g)) (ht : ∀ (s : Shared) (H : Hp) (C : Addr) (cl : List (Str × Addr)) (fp : List Addr), PTs (X.blk s H scope (compEnvC scope cl C X.env) fp) ifs (tT X.K tt))
    (he : ∀ (s : Shared) (H : Hp) (C : Addr) (cl : List (Str × Addr)) (fp : List Addr), PE (X.blk s H scope (compEnvC scope cl C X.env) fp) elt (tP X.K te)) (hjs : ∀ j ∈ js, j ∈ own.map (·.2) := by decide) (hc : X.calm = true := by rfl) (hs : ∀ x, foldedSetIterable iter X.env x = pure x := by intro _; rfl) :
    PE X (.ListComp elt [⟨tg, iter, ifs, 0⟩] scope pos) (tF X.K (lcM (own.map (·.2)) fi g tt te)) := PE.wk (pe_lc hc hN hi (blkOk_by okb) hg ht he hs) fun _ _ _ q => lc_of hjs q
/-- y = [..] -/
theorem sLc (i : Nat) {y : Str} {py spos : Pos} {scope : Scope} {own : List (Str × Nat)} {ifs : List Expr} {js : List Nat} {fi : List Sl → R (List D)} {g : D → List Sl → R (List Sl)} {tt : List Sl → R Bool} {te : List Sl → R D} (hN : X.N.Nodup) (okb : blkC X.N X.env.scope scope own = true) (hi : PI X tg iter (tIw X.K fi))
    (hg : ∀ (s : Shared) (H : Hp) (C : Addr) (cl : List (Str × Addr)) (fp : List Addr), PG (X.blk s H scope (compEnvC scope cl C X.env) fp) tg (tG X.K js g)) (ht : ∀ (s : Shared) (H : Hp) (C : Addr) (cl : List (Str × Addr)) (fp : List Addr), PTs (X.blk s H scope (compEnvC scope cl C X.env) fp) ifs (tT X.K tt))
    (he : ∀ (s : Shared) (H : Hp) (C : Addr) (cl : List (Str × Addr)) (fp : List Addr), PE (X.blk s H scope (compEnvC scope cl C X.env) fp) elt (tP X.K te)) (hsw : swapsWith (.ListComp elt [⟨tg, iter, ifs, 0⟩] scope pos) (some (.Name y py)) spos.line X.env = pure true)
    (hy : X.N[i]? = some y := by rfl) (hyl : X.env.scope.names.lookup y = some .local := by rfl) (hjs : ∀ j ∈ js, j ∈ own.map (·.2) := by decide) (hc : X.calm = true := by rfl) (hs : ∀ x, foldedSetIterable iter X.env x = pure x := by intro _; rfl) :
    PS X (.Assign [.Name y py] (.ListComp elt [⟨tg, iter, ifs, 0⟩] scope pos) spos) (tS X.K (setO i (lcM (own.map (·.2)) fi g tt te))) :=
  PS.wk (ps_setLc hc hN hy hyl hsw hi (blkOk_by okb) hg ht he hs) fun D σ H ⟨c, G, ρ, post, w, r, hf, q⟩ => lc_of hjs ⟨c, G, ρ, _, w, r, hf, fun d hd a G' H' n e' w' o => q _ hd _ G' H' e'.g (w.step w' e') ((r.ext e').setO o (r.new n))⟩
/-- .. and frozen at once -/
theorem sLcD (i : Nat) {y : Str} {py spos : Pos} {scope : Scope} {own : List (Str × Nat)} {ifs : List Expr} {js : List Nat} {fi : List Sl → R (List D)} {g : D → List Sl → R (List Sl)} {tt : List Sl → R Bool} {te : List Sl → R D} (hN : X.N.Nodup) (okb : blkC X.N X.env.scope scope own = true) (hi : PI X tg iter (tIw X.K fi))
    (hg : ∀ (s : Shared) (H : Hp) (C : Addr) (cl : List (Str × Addr)) (fp : List Addr), PG (X.blk s H scope (compEnvC scope cl C X.env) fp) tg (tG X.K js g)) (ht : ∀ (s : Shared) (H : Hp) (C : Addr) (cl : List (Str × Addr)) (fp : List Addr), PTs (X.blk s H scope (compEnvC scope cl C X.env) fp) ifs (tT X.K tt))
    (he : ∀ (s : Shared) (H : Hp) (C : Addr) (cl : List (Str × Addr)) (fp : List Addr), PE (X.blk s H scope (compEnvC scope cl C X.env) fp) elt (tP X.K te)) (hsw : swapsWith (.ListComp elt [⟨tg, iter, ifs, 0⟩] scope pos) (some (.Name y py)) spos.line X.env = pure true)
    (hy : X.N[i]? = some y := by rfl) (hyl : X.env.scope.names.lookup y = some .local := by rfl) (hjs : ∀ j ∈ js, j ∈ own.map (·.2) := by decide) (hc : X.calm = true := by rfl) (hs : ∀ x, foldedSetIterable iter X.env x = pure x := by intro _; rfl) :
    PS X (.Assign [.Name y py] (.ListComp elt [⟨tg, iter, ifs, 0⟩] scope pos) spos) (tS X.K (setM i fun ρ => bd (lcM (own.map (·.2)) fi g tt te ρ) fun ds => ok (.list ds))) :=
  PS.wk (ps_setLc hc hN hy hyl hsw hi (blkOk_by okb) hg ht he hs) fun D σ H ⟨c, G, ρ, post, w, r, hf, q⟩ => lc_of hjs ⟨c, G, ρ, _, w, r, hf, fun d hd a G' H' n e' w' o => by
    obtain ⟨G2, w2, l2, k2, ne⟩ := (w.step w' e').freeze o
    refine q _ hd _ G2 H' (fun p u e => l2 p u (e'.g p u e)) w2 (RS.setD ?_ k2)
    have r' := r.ext e'
    refine ⟨r'.len, fun j x h => ?_, r'.dd⟩
    rcases r'.at_ j x h with z | ⟨v, e1, s1⟩
    · exact .inl z
    · refine .inr ⟨v, e1, ?_⟩
      cases x with
      | un => trivial
      | dat d => exact Dq.mono l2 s1
      | box k => exact s1
      | own fs =>
        obtain ⟨b, rfl, ob⟩ := s1
        have hb : b ≠ a := fun z => r.new n j fs h (by rw [← z]; exact e1)
        obtain ⟨vs1, e2, k3⟩ := ob.at_
        exact ⟨b, rfl, ⟨vs1, e2, k3.mono l2⟩, by rw [ne b hb]; exact ob.g, ob.h0, ob.v⟩
      | od fs =>
        obtain ⟨b, rfl, ob⟩ := s1
        have hb : b ≠ a := own_od o ob
        obtain ⟨vs1, e2, k3⟩ := ob.at_
        exact ⟨b, rfl, ⟨vs1, e2, k3.mono l2⟩, by rw [ne b hb]; exact ob.g, ob.h0, ob.v⟩⟩
end
end Pu

namespace Pu
open PySem PySem.Spec PyProof.Rows L2
variable [Tb]
/-! ### defs: what they compute of data -/
def spR (K : PySem.W.Frag) (n : Nat) (m : List D → R D) : Sp := fun vs H Q _ => ∃ (E : Ef) (G : Hp) (ds : List D) (post : D → Prop), W0 E G H ∧ DqAll K G vs ds ∧ ds.length = n ∧ m ds post ∧
  ∀ r, post r → ∀ v G' H', Ext E G H G' H' → W0 E G' H' → Dq K G' v r → Q v H'
/-- .. of the box, the first argument, and data -/
def spX (K : PySem.W.Frag) (j n : Nat) (m : List D → R D) : Sp := fun vs H Q _ => ∃ (E : Ef) (G : Hp) (bv : V) (vs' : List V) (ds : List D) (post : D → Prop), vs = bv :: vs' ∧ E.box j bv ∧ W0 E G H ∧ DqAll K G vs' ds ∧ ds.length = n ∧ m ds post ∧
  ∀ r, post r → ∀ v G' H', Ext E G H G' H' → W0 E G' H' → Dq K G' v r → Q v H'
def env0 (ds : List D) (n : Nat) : List Sl := ds.map .dat ++ List.replicate (n - ds.length) .un
def endM : Out → R D
  | .rt d => ok d
  | .nx _ => ok .none
  | _ => fail
@[simp] theorem endM_rt (d : D) : endM (.rt d) = ok d := (rfl)
@[simp] theorem endM_nx (ρ : List Sl) : endM (.nx ρ) = ok .none := (rfl)
def fnM (n : Nat) (g : List Sl → R Out) : List D → R D := fun ds => bd (g (env0 ds n)) endM
def fnX (j n : Nat) (g : List Sl → R Out) : List D → R D := fun ds => bd (g (.box j :: env0 ds (n - 1))) endM
theorem rs_start {K : PySem.W.Frag} {c : Ct} {G H : Hp} : ∀ {vs : List V} {ds : List D} (N : Nat), DqAll K G vs ds → RS K c G H (vs.map some ++ List.replicate (N - vs.length) none) (env0 ds N) := by
  intro vs ds N h
  have hl := h.length
  refine ⟨by simp [env0, hl], fun i x hx => ?_, fun i j es fs v h1 h2 k1 => ?_⟩
  · unfold env0 at hx
    by_cases hi : i < ds.length
    · rw [List.getElem?_append_left (by simpa using hi), List.getElem?_map] at hx
      cases e : ds[i]? with
      | none => rw [e] at hx; cases hx
      | some d =>
        rw [e] at hx; cases hx
        obtain ⟨v, e1, k⟩ := h.get e
        refine .inr ⟨v, ?_, k⟩
        rw [List.getElem?_append_left (by simpa [hl] using hi), List.getElem?_map, e1]; rfl
    · rw [List.getElem?_append_right (by simpa using hi)] at hx
      rw [List.getElem?_replicate] at hx
      split at hx
      · cases hx; exact .inl rfl
      · cases hx
  · unfold env0 at h1
    by_cases hi : i < ds.length
    · rw [List.getElem?_append_left (by simpa using hi), List.getElem?_map] at h1
      cases e : ds[i]? with
      | none => rw [e] at h1; cases h1
      | some d => rw [e] at h1; cases h1; cases k1
    · rw [List.getElem?_append_right (by simpa using hi), List.getElem?_replicate] at h1
      split at h1
      · cases h1; cases k1
      · cases h1
theorem rs_cons {K : PySem.W.Frag} {c : Ct} {G H : Hp} {σ : L2.St} {ρ : List Sl} {v : V} {j : Nat} (r : RS K c G H σ ρ) (b : c.E.box j v) : RS K c G H (some v :: σ) (.box j :: ρ) := by
  refine ⟨by simp [r.len], fun i x h => ?_, fun i l ds es u h1 h2 k1 k2 h3 h4 => ?_⟩
  · cases i with
    | zero => cases h; exact .inr ⟨v, rfl, b⟩
    | succ i => exact r.at_ i x h
  · cases i with
    | zero => cases h1; cases k1
    | succ i =>
      cases l with
      | zero => cases h2; cases k2
      | succ l => rw [r.dd i l ds es u h1 h2 k1 k2 h3 h4]
section
variable {P : Program} {w : World} {K : PySem.W.Frag} {mg : Str → Option Value} {base : Heap}
theorem fn_ok {x qual : Str} {st : Stmt} {f : Addr} {fd : FuncData} {N ps : List Str} {k : Nat} {g : List Sl → R Out} (F : Fun K x qual st f fd) (S : FnScope N ps (defScope st))
    (hb : ∀ (cdv : Value) (A : Around) (outer : List Env) (s : Shared) (H : Hp) (E : XK), Room k (A.deeper (envOfC qual (defScope st) s.heap.objs.size f cdv)) → PSs (cxOf CX0 P w K mg base N qual (defScope st) f cdv A outer s H E).nox (defBody st) (tS K g)) :
    FnOk P w K mg base CX0 (k + 1) f fd ps (spR K ps.length (fnM N.length g)) := by
  refine F.ok S (fun vs H Q E h => ?_) (fun cdv A outer s H vs Q E hr h => ?_)
  · obtain ⟨_, _, ds, _, _, hd, hl, _⟩ := h
    rw [hd.length, hl]
  · obtain ⟨Ef, G, ds, post, w0, hd, hl, hm, q⟩ := h
    refine ⟨_, hb cdv A outer s H E hr, ⟨Ef, G, H⟩, G, env0 ds N.length, _, ⟨w0, .refl⟩, rs_start N.length hd, hm, fun o ho => ?_⟩
    cases o with
    | nx ρ => exact fun σ G' H' l w' r' => q _ ho .non G' H' w'.e w'.w .non
    | rt d => exact fun v G' H' l w' k => q _ ho v G' H' w'.e w'.w k
    | bk ρ => exact ho.elim
    | ct ρ => exact ho.elim
theorem fn_okX {x qual : Str} {st : Stmt} {f : Addr} {fd : FuncData} {N ps : List Str} {k j : Nat} {p : Str} {g : List Sl → R Out} (F : Fun K x qual st f fd) (S : FnScope N (p :: ps) (defScope st))
    (hb : ∀ (cdv : Value) (A : Around) (outer : List Env) (s : Shared) (H : Hp) (E : XK), Room k (A.deeper (envOfC qual (defScope st) s.heap.objs.size f cdv)) → PSs (cxOf CX0 P w K mg base N qual (defScope st) f cdv A outer s H E).nox (defBody st) (tS K g)) :
    FnOk P w K mg base CX0 (k + 1) f fd (p :: ps) (spX K j ps.length (fnX j N.length g)) := by
  refine F.ok S (fun vs H Q E h => ?_) (fun cdv A outer s H vs Q E hr h => ?_)
  · obtain ⟨_, _, _, _, ds, _, rfl, _, _, hd, hl, _⟩ := h
    rw [List.length_cons, List.length_cons, hd.length, hl]
  · obtain ⟨Ef, G, bv, vs', ds, post, rfl, hbx, w0, hd, hl, hm, q⟩ := h
    have e : L2.start N (bv :: vs') = some bv :: (vs'.map some ++ List.replicate ((N.length - 1) - vs'.length) none) := by
      unfold L2.start
      simp only [List.map_cons, List.length_cons, List.cons_append]
      congr 3; omega
    refine ⟨_, hb cdv A outer s H E hr, ⟨Ef, G, H⟩, G, _, _, ⟨w0, .refl⟩, by rw [e]; exact rs_cons (rs_start (N.length - 1) hd) hbx, hm, fun o ho => ?_⟩
    cases o with
    | nx ρ => exact fun σ G' H' l w' r' => q _ ho .non G' H' w'.e w'.w .non
    | rt d => exact fun v G' H' l w' k => q _ ho v G' H' w'.e w'.w k
    | bk ρ => exact ho.elim
    | ct ρ => exact ho.elim
/-- a def that calls itself: by the depth -/
theorem fn_rec {f : Addr} {fd : FuncData} {ps : List Str} {n k : Nat} {m : Nat → List D → R D} (h0 : ∀ ds post, ¬ m 0 ds post) (hn : n = ps.length) (step : ∀ i, FnOk P w K mg base CX0 (k + i) f fd ps (spR K n (m i)) → FnOk P w K mg base CX0 (k + i + 1) f fd ps (spR K n (m (i + 1)))) :
    ∀ i, FnOk P w K mg base CX0 (k + i) f fd ps (spR K n (m i))
  | 0 => ⟨fun vs H Q E h => by obtain ⟨_, _, ds, _, _, hd, hl, _⟩ := h; rw [hd.length, hl, hn], fun A outer s H args us vs Q E hr e0 hb r h => by obtain ⟨_, _, ds, _, _, _, _, hm, _⟩ := h; exact (h0 _ _ hm).elim⟩
  | i + 1 => step i (fn_rec h0 hn step i)
theorem fn_recX {f : Addr} {fd : FuncData} {ps : List Str} {p : Str} {n k j : Nat} {m : Nat → List D → R D} (h0 : ∀ ds post, ¬ m 0 ds post) (hn : n = ps.length) (step : ∀ i, FnOk P w K mg base CX0 (k + i) f fd (p :: ps) (spX K j n (m i)) → FnOk P w K mg base CX0 (k + i + 1) f fd (p :: ps) (spX K j n (m (i + 1)))) :
    ∀ i, FnOk P w K mg base CX0 (k + i) f fd (p :: ps) (spX K j n (m i))
  | 0 => ⟨fun vs H Q E h => by obtain ⟨_, _, _, _, ds, _, rfl, _, _, hd, hl, _⟩ := h; rw [List.length_cons, List.length_cons, hd.length, hl, hn], fun A outer s H args us vs Q E hr e0 hb r h => by obtain ⟨_, _, _, _, ds, _, _, _, _, _, _, hm, _⟩ := h; exact (h0 _ _ hm).elim⟩
  | i + 1 => step i (fn_recX h0 hn step i)
end
section
variable {X : Cx} {k n j : Nat} {f : Addr} {fd : FuncData} {ps : List Str} {m : List D → R D} {x : Str} {p pos : Pos} {e : Expr} {es : List Expr}
/-- a call asks for as many arguments as there are parameters -/
def callR (n : Nat) (m : List D → R D) : List D → R D := fun ds => bd (req (ds.length = n)) fun _ => m ds
@[simp] theorem callR_0 (m : List D → R D) : callR 0 m [] = m [] := bd_req rfl _
@[simp] theorem callR_1 (m : List D → R D) (a : D) : callR 1 m [a] = m [a] := bd_req rfl _
@[simp] theorem callR_2 (m : List D → R D) (a b : D) : callR 2 m [a, b] = m [a, b] := bd_req rfl _
@[simp] theorem callR_3 (m : List D → R D) (a b c : D) : callR 3 m [a, b, c] = m [a, b, c] := bd_req rfl _
@[simp] theorem callR_4 (m : List D → R D) (a b c d : D) : callR 4 m [a, b, c, d] = m [a, b, c, d] := bd_req rfl _
@[simp] theorem callR_5 (m : List D → R D) (a b c d e : D) : callR 5 m [a, b, c, d, e] = m [a, b, c, d, e] := bd_req rfl _
theorem call {g : List Sl → R (List D)} (F : FnOk X.prog X.w X.K X.mg X.base CX0 k f fd ps (spR X.K n m)) (hr : Room k X.A) (hm : X.mg x = some (.ref f)) (hk : PySem.W.keepIn X.K (.ref f) = true) (hb : Binds X.K fd ps []) (ha : PA X (e :: es) (tAF X.K g))
    (hg : Gl X x := by rfl) (hdb : (x == ("__debug__" : Str)) = false := by decide) (he : starEach (e :: es) X.env = (false, eval e X.env) :: starEach es X.env := by rfl) (hpl : (backTo pos (starEach es X.env)).any (·.1) = false := by rfl) : PE X (.Call (.Name x p) (e :: es) [] pos) (tP X.K (m1 g (callR n m))) :=
  PE.wk (pe_call F hr hg hm hk hb .nil pass0 ha hdb he hpl) fun σ H Q ⟨c, G, ρ, post, w, r, hf, q⟩ => ⟨c, G, ρ, _, w, r, hf, fun ds hds vs G1 H1 e1 w1 b1 => by
    show spR X.K n m (vs ++ []) H1 Q E0
    rw [List.append_nil]
    exact ⟨c.E, G1, ds, post, w1, b1, hds.1, hds.2, fun r hr v G' H' e2 w2 k2 => q r hr v G' H' (e1.trans e2) w2 k2⟩⟩
theorem call0 (F : FnOk X.prog X.w X.K X.mg X.base CX0 k f fd ps (spR X.K 0 m)) (hr : Room k X.A) (hm : X.mg x = some (.ref f)) (hk : PySem.W.keepIn X.K (.ref f) = true) (hb : Binds X.K fd ps [])
    (hg : Gl X x := by rfl) (hdb : (x == ("__debug__" : Str)) = false := by decide) : PE X (.Call (.Name x p) [] [] pos) (tP X.K (m1 nilR (callR 0 m))) :=
  PE.wk (pe_call0 F hr hg hm hk hb .nil pass0 hdb) fun σ H Q ⟨c, G, ρ, post, w, r, hf, q⟩ => ⟨c.E, G, [], post, w.w, .nil, rfl, hf.2, fun r hr v G' H' e2 w2 k2 => q r hr v G' H' e2 w2 k2⟩
/-- a call with the box as first argument -/
def getX (ρ : List Sl) (i j : Nat) : R Unit := match ρ[i]? with
  | some (.box k) => bd (req (k = j)) ok
  | _ => fail
theorem getX_inv {ρ : List Sl} {i j : Nat} {post : Unit → Prop} (h : getX ρ i j post) : ρ[i]? = some (.box j) ∧ post () := by
  unfold getX at h
  cases e : ρ[i]? with
  | none => rw [e] at h; exact h.elim
  | some x =>
    rw [e] at h
    cases x with
    | box k => obtain ⟨rfl, h⟩ := h; exact ⟨rfl, h⟩
    | _ => exact h.elim
def callX (i j n : Nat) (g : List Sl → R (List D)) (m : List D → R D) : List Sl → R D := fun ρ => bd (getX ρ i j) fun _ => bd (g ρ) (callR n m)
theorem callBx (i : Nat) {y : Str} {q1 : Pos} {g : List Sl → R (List D)} {pp : Str} (F : FnOk X.prog X.w X.K X.mg X.base CX0 k f fd (pp :: ps) (spX X.K j n m)) (hr : Room k X.A) (hm : X.mg x = some (.ref f)) (hk : PySem.W.keepIn X.K (.ref f) = true) (hb : Binds X.K fd (pp :: ps) []) (ha : PA X es (tAF X.K g))
    (hN : X.N[i]? = some y := by rfl) (hv : Vis X.env.scope y := by first | exact Or.inl rfl | exact Or.inr (Or.inl rfl) | exact Or.inr (Or.inr rfl)) (hd : (y == ("__debug__" : Str)) = false := by decide) (hcd : (y == ("__classdict__" : Str)) = false := by decide)
    (hg : Gl X x := by rfl) (hdb : (x == ("__debug__" : Str)) = false := by decide) (hs : starEach (.Name y q1 :: es) X.env = (false, eval (.Name y q1) X.env) :: starEach es X.env := by rfl) (hpl : (backTo pos (starEach es X.env)).any (·.1) = false := by rfl) : PE X (.Call (.Name x p) (.Name y q1 :: es) [] pos) (tP X.K (callX i j n g m)) :=
  PE.wk (pe_call F hr hg hm hk hb .nil pass0 (pa_cons (pe_var hN hv hd hcd) ha hs) hdb hs hpl) fun σ H Q ⟨c, G, ρ, post, w, r, hf, q⟩ => by
    obtain ⟨e0, hf⟩ := getX_inv hf
    rcases r.at_ i _ e0 with z | ⟨v, e1, b⟩
    · cases z
    · refine ⟨v, e1, c, G, ρ, _, w, r, hf, fun ds hds vs G1 H1 x1 w1 b1 => ?_⟩
      show spX X.K j n m ((v :: vs) ++ []) H1 Q E0
      rw [List.append_nil]
      exact ⟨c.E, G1, v, vs, ds, post, rfl, b, w1, b1, hds.1, hds.2, fun r hr v G' H' e2 w2 k2 => q r hr v G' H' (x1.trans e2) w2 k2⟩
end
/-- what a body's walk needs of its context: exceptions are none of ours -/
theorem nvr {M : Model} {A : Around} {env : Env} : PassesOwn M A env (fun _ _ => False) := PassesOwn.never
end Pu

namespace Pu
open PySem PySem.Spec PyProof.Rows L2
variable [Tb]
section
variable {X : Cx} {e a b : Expr} {es : List Expr} {pos : Pos}
/-! ### isinstance -/
def tyName : D → String
  | .none => "NoneType"
  | .bool _ => "bool"
  | .int _ => "int"
  | .str _ => "str"
  | .list _ => "list"
  | .tuple _ => "tuple"
  | .dict _ => "dict"
def isInt : D → Bool | .int _ => true | .bool _ => true | _ => false
def isBoo : D → Bool | .bool _ => true | _ => false
def isStr : D → Bool | .str _ => true | _ => false
def isTup : D → Bool | .tuple _ => true | _ => false
def isLst : D → Bool | .list _ => true | _ => false
theorem Dq.ty {K : PySem.W.Frag} {H : Hp} {v : V} {d : D} (h : Dq K H v d) : TyX K H v (.type (tyName d)) := by
  cases h with
  | non => exact .base .non
  | bl b => exact .base (.bl b)
  | int i => exact .base (.int i)
  | str x => exact .base (.str x)
  | lst e q => exact .base (.lst e)
  | tup e q =>
    rcases e.sqT with (e | ⟨o, e⟩) | ⟨o, its, n, e, c, _⟩
    · exact .base (.tup e)
    · exact .fTuple e
    · exact .kTuple e c
def isiR (t : D → Bool) (d : D) : R D := ok (.bool (t d))
theorem isi_of {T : String} {t : D → Bool} (ht : ∀ (K : PySem.W.Frag) (H : Hp) (v : V) (d : D), Dq K H v d → kitB (tyName d) T = some (t d)) {y : Str} {p q : Pos} {f : List Sl → R D} (hm : X.mg "isinstance" = none) (hmT : X.mg y = none) (ha : PE X a (tB X.K f)) (hT : bootBuiltins y = some (.type T))
    (hn : y ≠ "__name__") (hdb : (y == ("__debug__" : Str)) = false) (hg : Gl X "isinstance") (hgT : Gl X y) (hs : starEach [a, .Name y q] X.env = (false, eval a X.env) :: starEach [.Name y q] X.env) (hs2 : starEach [.Name y q] X.env = (false, eval (.Name y q) X.env) :: starEach [] X.env)
    (hpl : (backTo pos (starEach [.Name y q] X.env)).any (·.1) = false) : PE X (.Call (.Name "isinstance" p) [a, .Name y q] [] pos) (tP X.K (m1 f (isiR t))) :=
  PE.wk (pe_callB call_isi hg hm (by decide +kernel) (pa_cons ha (pa_cons (pe_bltn hgT hmT hT (show RelV (.ty T) (.type T) from rfl) hn hdb) pa_nil hs2) hs) (by decide) (by decide) hs hpl) fun σ H Q ⟨c, G, ρ, post, w, r, hf, q⟩ =>
    ⟨c, G, ρ, _, w, r, hf, fun d hd v G1 H1 e1 w1 b1 => ⟨v, .ty T, _, _, t d, rfl, .ty T, (b1.dq w1).ty, kit_ty (ht _ _ _ _ (b1.dq w1)), q _ hd _ G1 H1 e1 w1 (.bl _)⟩⟩
theorem ki_int (K : PySem.W.Frag) (H : Hp) (v : V) (d : D) (h : Dq K H v d) : kitB (tyName d) "int" = some (isInt d) := by cases h <;> (simp only [tyName, isInt]; decide +kernel)
theorem ki_boo (K : PySem.W.Frag) (H : Hp) (v : V) (d : D) (h : Dq K H v d) : kitB (tyName d) "bool" = some (isBoo d) := by cases h <;> (simp only [tyName, isBoo]; decide +kernel)
theorem ki_str (K : PySem.W.Frag) (H : Hp) (v : V) (d : D) (h : Dq K H v d) : kitB (tyName d) "str" = some (isStr d) := by cases h <;> (simp only [tyName, isStr]; decide +kernel)
theorem ki_tup (K : PySem.W.Frag) (H : Hp) (v : V) (d : D) (h : Dq K H v d) : kitB (tyName d) "tuple" = some (isTup d) := by cases h <;> (simp only [tyName, isTup]; decide +kernel)
theorem ki_lst (K : PySem.W.Frag) (H : Hp) (v : V) (d : D) (h : Dq K H v d) : kitB (tyName d) "list" = some (isLst d) := by cases h <;> (simp only [tyName, isLst]; decide +kernel)
section
variable {p q : Pos} {f : List Sl → R D}
theorem isiInt (hm : X.mg "isinstance" = none) (hT : X.mg "int" = none) (ha : PE X a (tB X.K f)) (hg : Gl X "isinstance" := by rfl) (hgT : Gl X "int" := by rfl) (hs : starEach [a, .Name "int" q] X.env = (false, eval a X.env) :: starEach [.Name "int" q] X.env := by rfl) (hs2 : starEach [.Name "int" q] X.env = (false, eval (.Name "int" q) X.env) :: starEach [] X.env := by rfl)
    (hpl : (backTo pos (starEach [.Name "int" q] X.env)).any (·.1) = false := by rfl) : PE X (.Call (.Name "isinstance" p) [a, .Name "int" q] [] pos) (tP X.K (m1 f (isiR isInt))) := isi_of ki_int hm hT ha (by decide +kernel) (by decide) (by decide) hg hgT hs hs2 hpl
theorem isiBoo (hm : X.mg "isinstance" = none) (hT : X.mg "bool" = none) (ha : PE X a (tB X.K f)) (hg : Gl X "isinstance" := by rfl) (hgT : Gl X "bool" := by rfl) (hs : starEach [a, .Name "bool" q] X.env = (false, eval a X.env) :: starEach [.Name "bool" q] X.env := by rfl) (hs2 : starEach [.Name "bool" q] X.env = (false, eval (.Name "bool" q) X.env) :: starEach [] X.env := by rfl)
    (hpl : (backTo pos (starEach [.Name "bool" q] X.env)).any (·.1) = false := by rfl) : PE X (.Call (.Name "isinstance" p) [a, .Name "bool" q] [] pos) (tP X.K (m1 f (isiR isBoo))) := isi_of ki_boo hm hT ha (by decide +kernel) (by decide) (by decide) hg hgT hs hs2 hpl
theorem isiStr (hm : X.mg "isinstance" = none) (hT : X.mg "str" = none) (ha : PE X a (tB X.K f)) (hg : Gl X "isinstance" := by rfl) (hgT : Gl X "str" := by rfl) (hs : starEach [a, .Name "str" q] X.env = (false, eval a X.env) :: starEach [.Name "str" q] X.env := by rfl) (hs2 : starEach [.Name "str" q] X.env = (false, eval (.Name "str" q) X.env) :: starEach [] X.env := by rfl)
    (hpl : (backTo pos (starEach [.Name "str" q] X.env)).any (·.1) = false := by rfl) : PE X (.Call (.Name "isinstance" p) [a, .Name "str" q] [] pos) (tP X.K (m1 f (isiR isStr))) := isi_of ki_str hm hT ha (by decide +kernel) (by decide) (by decide) hg hgT hs hs2 hpl
theorem isiTup (hm : X.mg "isinstance" = none) (hT : X.mg "tuple" = none) (ha : PE X a (tB X.K f)) (hg : Gl X "isinstance" := by rfl) (hgT : Gl X "tuple" := by rfl) (hs : starEach [a, .Name "tuple" q] X.env = (false, eval a X.env) :: starEach [.Name "tuple" q] X.env := by rfl) (hs2 : starEach [.Name "tuple" q] X.env = (false, eval (.Name "tuple" q) X.env) :: starEach [] X.env := by rfl)
    (hpl : (backTo pos (starEach [.Name "tuple" q] X.env)).any (·.1) = false := by rfl) : PE X (.Call (.Name "isinstance" p) [a, .Name "tuple" q] [] pos) (tP X.K (m1 f (isiR isTup))) := isi_of ki_tup hm hT ha (by decide +kernel) (by decide) (by decide) hg hgT hs hs2 hpl
theorem isiLst (hm : X.mg "isinstance" = none) (hT : X.mg "list" = none) (ha : PE X a (tB X.K f)) (hg : Gl X "isinstance" := by rfl) (hgT : Gl X "list" := by rfl) (hs : starEach [a, .Name "list" q] X.env = (false, eval a X.env) :: starEach [.Name "list" q] X.env := by rfl) (hs2 : starEach [.Name "list" q] X.env = (false, eval (.Name "list" q) X.env) :: starEach [] X.env := by rfl)
    (hpl : (backTo pos (starEach [.Name "list" q] X.env)).any (·.1) = false := by rfl) : PE X (.Call (.Name "isinstance" p) [a, .Name "list" q] [] pos) (tP X.K (m1 f (isiR isLst))) := isi_of ki_lst hm hT ha (by decide +kernel) (by decide) (by decide) hg hgT hs hs2 hpl
end
/-! ### sum, any, all, min, max -/
theorem dqAll_reads {pins : List (Addr × Obj)} {σ : L2.St} {H : Hp} {s : Shared} (I : Inv X pins σ H s) {vs : List V} {ds : List D} (h : DqAll X.K H vs ds) {us : List Value} (r : Vals vs us) : ∃ as, ReadsAll s.heap us ds as := Dp.readsAll I ds vs us h.dp r
theorem DqAll.intsOf {K : PySem.W.Frag} {G : Hp} : ∀ {vs : List V} {ds : List D} {ns : List Int}, DqAll K G vs ds → ds = ns.map .int → vs = ns.map V.int
  | _, _, _, h, rfl => h.ints
/-- the ints of a list of data, if they are all ints -/
def intL : List D → Option (List Int)
  | [] => some []
  | .int i :: r => (intL r).map (i :: ·)
  | _ => none
theorem intL_eq : ∀ {ds : List D} {ns : List Int}, intL ds = some ns → ds = ns.map .int
  | [], ns, h => by cases h; rfl
  | .int i :: r, ns, h => by
    unfold intL at h
    cases e : intL r with
    | none => rw [e] at h; cases h
    | some ms => rw [e] at h; cases h; rw [List.map_cons, ← intL_eq e]
  | .none :: _, _, h => by cases h
  | .bool _ :: _, _, h => by cases h
  | .str _ :: _, _, h => by cases h
  | .list _ :: _, _, h => by cases h
  | .tuple _ :: _, _, h => by cases h
  | .dict _ :: _, _, h => by cases h
@[simp] theorem intL_map : ∀ ns : List Int, intL (ns.map .int) = some ns
  | [] => rfl
  | n :: r => by rw [List.map_cons]; unfold intL; rw [intL_map r]; rfl
def sumV (xs : List D) : R D := match intL xs with | some ns => ok (.int ns.sum) | none => fail
@[simp] theorem sumV_ints (ns : List Int) : sumV (ns.map .int) = ok (.int ns.sum) := by unfold sumV; rw [intL_map]
def sumR : List D → R D
  | [.list xs] => sumV xs
  | [.tuple xs] => sumV xs
  | _ => fail
theorem call_sumT (hh : X.calm = true) : CallR X (.builtin "sum") (fun xs H Q => ∃ (a : Addr) (ns : List Int), xs = [V.ref a] ∧ SqT X.K H a (ns.map V.int) ∧ Q (.int ns.sum) H) := by
  intro pins s σ H xs us Q I r h
  obtain ⟨a, ns, rfl, hq, q⟩ := h
  cases r with | cons r rr =>
  cases rr; cases r
  obtain ⟨its, rv, p, hz⟩ := I.tuple hq
  have hi : IntsAre its ns := rv.ints
  have hl : s.heap.IsTuple a its.toArray := p
  obtain ⟨xs, hx⟩ := hi.allInts.items
  have hn : numsOf its.toArray.toList = ns := by rw [show its.toArray.toList = its from rfl, hi.numsOf]
  rw [hx] at hl hn
  rw [nums_intItems] at hn
  refine PySem.W.ktm_sumG (I.ok.hd hh) hl fun h' tk t' hk => ?_
  rw [preSum_eq, List.take_of_length_le (by simp), hn]
  exact ⟨.int _, H, I.kept hk, ⟨_, rfl⟩, q⟩
theorem kSum (hh : X.calm = true) : CalQ X (.builtin "sum") sumR := ⟨_, (cr_sum hh).or (call_sumT hh), by
  intro c G H vs ds post Q w bs hp q
  have key : ∀ {xs : List D}, sumV xs post → ∃ ns : List Int, xs = ns.map .int ∧ post (.int ns.sum) := fun {xs} h => by
    unfold sumV at h
    cases e : intL xs with
    | none => rw [e] at h; exact h.elim
    | some ns => rw [e] at h; exact ⟨ns, intL_eq e, h⟩
  match ds, bs, hp with
  | [.list xs], bs, hp =>
    obtain ⟨v, rfl, b⟩ := bs.one
    obtain ⟨p, us, rfl, h1, h2, _⟩ := b.lst w
    obtain ⟨ns, e, hp⟩ := key hp
    have eu := h2.intsOf e
    exact .inl ⟨p, ns, rfl, by rw [← eu]; exact .of h1, q _ hp _ G H .refl w (.int _)⟩
  | [.tuple xs], bs, hp =>
    obtain ⟨v, rfl, b⟩ := bs.one
    obtain ⟨p, us, rfl, h1, h2⟩ := b.tup
    obtain ⟨ns, e, hp⟩ := key hp
    have eu := h2.intsOf e
    exact .inr ⟨p, ns, rfl, by rw [← eu]; exact sqT_mono w.sub h1, q _ hp _ G H .refl w (.int _)⟩⟩
/-- any, all: truth values, numbers, None -/
def smallT : D → Bool
  | .none => true
  | .bool _ => true
  | .int _ => true
  | _ => false
theorem fits_of {xs : List D} (h : xs.all smallT = true) : ∀ x ∈ xs, PyData.fits63 x := fun x hx => by
  have := List.all_eq_true.mp h x hx
  cases x <;> first | trivial | cases this
def rSeqP (K : PySem.W.Frag) (g : List D → Bool) : List V → Hp → VK → Prop := fun xs H Q => ∃ (p : Addr) (vs : List V) (ds : List D), xs = [V.ref p] ∧ (H p = some (.lst vs) ∨ SqT K H p vs) ∧ DqAll K H vs ds ∧ ds.all smallT = true ∧ Q (.bl (g ds)) H
theorem call_anyQ (hh : X.calm = true) : CallR X (.builtin "any") (rSeqP X.K fun ds => ds.any PyData.truthy) := by
  intro pins s σ H xs us Q I r h
  obtain ⟨p, vs, ds, rfl, hq, k, hf, q⟩ := h
  cases r with | cons r rr =>
  cases rr; cases r
  rcases hq with hq | hq
  · obtain ⟨its, rv, pl, hz⟩ := I.list (.of hq)
    obtain ⟨as, ra⟩ := dqAll_reads I k rv
    exact PySem.W.any_list_data (I.ok.hd hh) pl.isList ra k.plain (fits_of hf) fun h' tk hk => ⟨.bl _, H, I.kept hk, rfl, q⟩
  · obtain ⟨its, rv, pl, hz⟩ := I.tuple hq
    obtain ⟨as, ra⟩ := dqAll_reads I k rv
    exact PySem.W.any_tuple_data (I.ok.hd hh) pl ra k.plain (fits_of hf) fun h' tk hk => ⟨.bl _, H, I.kept hk, rfl, q⟩
theorem call_allQ (hh : X.calm = true) : CallR X (.builtin "all") (rSeqP X.K fun ds => ds.all PyData.truthy) := by
  intro pins s σ H xs us Q I r h
  obtain ⟨p, vs, ds, rfl, hq, k, hf, q⟩ := h
  cases r with | cons r rr =>
  cases rr; cases r
  rcases hq with hq | hq
  · obtain ⟨its, rv, pl, hz⟩ := I.list (.of hq)
    obtain ⟨as, ra⟩ := dqAll_reads I k rv
    exact PySem.W.all_list_data (I.ok.hd hh) pl.isList ra k.plain (fits_of hf) fun h' tk hk => ⟨.bl _, H, I.kept hk, rfl, q⟩
  · obtain ⟨its, rv, pl, hz⟩ := I.tuple hq
    obtain ⟨as, ra⟩ := dqAll_reads I k rv
    exact PySem.W.all_tuple_data (I.ok.hd hh) pl ra k.plain (fits_of hf) fun h' tk hk => ⟨.bl _, H, I.kept hk, rfl, q⟩
def qV (g : List D → Bool) (xs : List D) : R D := bd (req (xs.all smallT = true)) fun _ => ok (.bool (g xs))
def anyR : List D → R D
  | [.list xs] => qV (fun ds => ds.any PyData.truthy) xs
  | [.tuple xs] => qV (fun ds => ds.any PyData.truthy) xs
  | _ => fail
def allR : List D → R D
  | [.list xs] => qV (fun ds => ds.all PyData.truthy) xs
  | [.tuple xs] => qV (fun ds => ds.all PyData.truthy) xs
  | _ => fail
theorem bcl_seq {g : List D → Bool} {h : List D → R D} (h1 : ∀ xs, h [.list xs] = qV g xs) (h2 : ∀ xs, h [.tuple xs] = qV g xs) (h3 : ∀ ds post, h ds post → (∃ xs, ds = [.list xs]) ∨ ∃ xs, ds = [.tuple xs]) : Bcl X.K (rSeqP X.K g) h := by
  intro c G H vs ds post Q w bs hp q
  rcases h3 _ _ hp with ⟨xs, rfl⟩ | ⟨xs, rfl⟩
  · rw [h1] at hp
    obtain ⟨v, rfl, b⟩ := bs.one
    obtain ⟨p, us, rfl, e1, e2, _⟩ := b.lst w
    exact ⟨p, us, xs, rfl, .inl e1, e2.mono w.sub, hp.1, q _ hp.2 _ G H .refl w (.bl _)⟩
  · rw [h2] at hp
    obtain ⟨v, rfl, b⟩ := bs.one
    obtain ⟨p, us, rfl, e1, e2⟩ := b.tup
    exact ⟨p, us, xs, rfl, .inr (sqT_mono w.sub e1), e2.mono w.sub, hp.1, q _ hp.2 _ G H .refl w (.bl _)⟩
theorem kAny (hh : X.calm = true) : CalQ X (.builtin "any") anyR := ⟨_, call_anyQ hh, bcl_seq (fun _ => rfl) (fun _ => rfl) fun ds post h => by
  match ds, h with
  | [.list xs], _ => exact .inl ⟨_, rfl⟩
  | [.tuple xs], _ => exact .inr ⟨_, rfl⟩⟩
theorem kAll (hh : X.calm = true) : CalQ X (.builtin "all") allR := ⟨_, call_allQ hh, bcl_seq (fun _ => rfl) (fun _ => rfl) fun ds post h => by
  match ds, h with
  | [.list xs], _ => exact .inl ⟨_, rfl⟩
  | [.tuple xs], _ => exact .inr ⟨_, rfl⟩⟩
/-! ### min, max -/
def rBest (K : PySem.W.Frag) (g : D → List D → D) : List V → Hp → VK → Prop := fun xs H Q => ∃ (p : Addr) (vs : List V) (x : D) (ds : List D), xs = [V.ref p] ∧ (H p = some (.lst vs) ∨ SqT K H p vs) ∧ DqAll K H vs (x :: ds) ∧ PySem.W.AlikeAll (x :: ds) ∧ PyData.depthAll (x :: ds) ≤ 60 ∧
  ∀ (i : Nat) v, vs[i]? = some v → (x :: ds)[i]? = some (g x ds) → Q v H
theorem vals_back {vs : List V} {us : List Value} (r : Vals vs us) {i : Nat} {u : Value} (h : us[i]? = some u) : ∃ v, vs[i]? = some v ∧ RelV v u := by
  have hl : i < vs.length := by rw [r.length]; exact (List.getElem?_eq_some_iff.mp h).1
  obtain ⟨u', h1, h2⟩ := r.get (List.getElem?_eq_getElem hl)
  rw [h] at h1; cases h1
  exact ⟨_, List.getElem?_eq_getElem hl, h2⟩
theorem reads_same {h h' : Heap} {us : List Value} {ds : List D} {as bs : List Addr} {i : Nat} {u : Value} {d : D} (ra : ReadsAll h us ds as) (hp : PyData.plainAll ds = true) (hu : us[i]? = some u) (r : Reads h' u d bs) (hk : ∀ b o, h.get? b = some o → h'.get? b = some o) : ds[i]? = some d := by
  obtain ⟨bs2, r2, hlt, _, _⟩ := PySem.W.readsAll_at ra i u hu
  have e : ds[i]? = some (ds.getD i .none) := by rw [List.getD_eq_getElem?_getD, List.getElem?_eq_getElem hlt]; rfl
  have pl : (ds.getD i .none).plain = true := PySem.W.plain_mem hp (by rw [List.getD_eq_getElem?_getD, List.getElem?_eq_getElem hlt]; exact List.getElem_mem hlt)
  have r3 := PyProof.Rows.Reads.keeps hk r2
  rw [e, SeqAt.plain_unique _ _ _ _ _ pl r3 r]
theorem call_minQ (hh : X.calm = true) (hu : X.A.units + 64 < cLine) : CallR X (.builtin "min") (rBest X.K PySem.W.minD) := by
  intro pins s σ H xs us Q I r h
  obtain ⟨p, vs, x, ds, rfl, hq, k, ha, hd, q⟩ := h
  cases r with | cons r rr =>
  cases rr; cases r
  rcases hq with hq | hq
  · obtain ⟨its, rv, pl, hz⟩ := I.list (.of hq)
    obtain ⟨as, ra⟩ := dqAll_reads I k rv
    refine PySem.W.min_list_data (I.ok.hd hh) pl.isList ra ha (by omega) fun i v h' tk bs hv hr hk => ?_
    obtain ⟨y, e1, e2⟩ := vals_back rv (by simpa using hv)
    exact ⟨y, H, I.kept hk, e2, q i y e1 (reads_same ra k.plain (by simpa using hv) hr hk)⟩
  · obtain ⟨its, rv, pl, hz⟩ := I.tuple hq
    obtain ⟨as, ra⟩ := dqAll_reads I k rv
    refine PySem.W.min_tuple_data (I.ok.hd hh) pl ra ha (by omega) fun i v h' tk bs hv hr hk => ?_
    obtain ⟨y, e1, e2⟩ := vals_back rv (by simpa using hv)
    exact ⟨y, H, I.kept hk, e2, q i y e1 (reads_same ra k.plain (by simpa using hv) hr hk)⟩
theorem call_maxQ (hh : X.calm = true) (hu : X.A.units + 64 < cLine) : CallR X (.builtin "max") (rBest X.K PySem.W.maxD) := by
  intro pins s σ H xs us Q I r h
  obtain ⟨p, vs, x, ds, rfl, hq, k, ha, hd, q⟩ := h
  cases r with | cons r rr =>
  cases rr; cases r
  rcases hq with hq | hq
  · obtain ⟨its, rv, pl, hz⟩ := I.list (.of hq)
    obtain ⟨as, ra⟩ := dqAll_reads I k rv
    refine PySem.W.max_list_data (I.ok.hd hh) pl.isList ra ha (by omega) fun i v h' tk bs hv hr hk => ?_
    obtain ⟨y, e1, e2⟩ := vals_back rv (by simpa using hv)
    exact ⟨y, H, I.kept hk, e2, q i y e1 (reads_same ra k.plain (by simpa using hv) hr hk)⟩
  · obtain ⟨its, rv, pl, hz⟩ := I.tuple hq
    obtain ⟨as, ra⟩ := dqAll_reads I k rv
    refine PySem.W.max_tuple_data (I.ok.hd hh) pl ra ha (by omega) fun i v h' tk bs hv hr hk => ?_
    obtain ⟨y, e1, e2⟩ := vals_back rv (by simpa using hv)
    exact ⟨y, H, I.kept hk, e2, q i y e1 (reads_same ra k.plain (by simpa using hv) hr hk)⟩
/-- the least, the greatest of some data -/
def bestV (g : D → List D → D) : List D → R D
  | [] => fail
  | x :: ds => bd (req (PySem.W.AlikeAll (x :: ds) ∧ PyData.depthAll (x :: ds) ≤ 60)) fun _ => ok (g x ds)
def minR : List D → R D
  | [.list xs] => bestV PySem.W.minD xs
  | [.tuple xs] => bestV PySem.W.minD xs
  | [.int i, .int j] => ok (.int (if j < i then j else i))
  | _ => fail
def maxR : List D → R D
  | [.list xs] => bestV PySem.W.maxD xs
  | [.tuple xs] => bestV PySem.W.maxD xs
  | [.int i, .int j] => ok (.int (if j > i then j else i))
  | _ => fail
theorem bestV_inv {g : D → List D → D} {xs : List D} {post : D → Prop} (h : bestV g xs post) : ∃ x ds, xs = x :: ds ∧ PySem.W.AlikeAll (x :: ds) ∧ PyData.depthAll (x :: ds) ≤ 60 ∧ post (g x ds) := by
  cases xs with
  | nil => exact h.elim
  | cons x ds => exact ⟨x, ds, rfl, h.1.1, h.1.2, h.2⟩
theorem best_fin {K : PySem.W.Frag} {g : D → List D → D} {c : Ct} {G H : Hp} {vs : List V} {x : D} {ds : List D} {post : D → Prop} {Q : VK} (w : W0 c.E G H) (k : DqAll K G vs (x :: ds)) (hp : post (g x ds)) (q : ∀ z, post z → ∀ v G' H', Ext c.E G H G' H' → W0 c.E G' H' → Dq K G' v z → Q v H') : ∀ (i : Nat) v, vs[i]? = some v → (x :: ds)[i]? = some (g x ds) → Q v H := fun i v h1 h2 => by
  obtain ⟨v', e1, e2⟩ := k.get h2
  rw [h1] at e1; cases e1
  exact q _ hp v G H .refl w e2
theorem kMin (hh : X.calm = true) (hu : X.A.units + 64 < cLine) : CalQ X (.builtin "min") minR := ⟨_, (call_minQ hh hu).or (call_min2 hh), by
  intro c G H vs ds post Q w bs hp q
  match ds, bs, hp with
  | [.list xs], bs, hp =>
    obtain ⟨v, rfl, b⟩ := bs.one
    obtain ⟨p, us, rfl, e1, e2, _⟩ := b.lst w
    obtain ⟨x, ds, rfl, a1, a2, a3⟩ := bestV_inv hp
    exact .inl ⟨p, us, x, ds, rfl, .inl e1, e2.mono w.sub, a1, a2, best_fin w e2 a3 q⟩
  | [.tuple xs], bs, hp =>
    obtain ⟨v, rfl, b⟩ := bs.one
    obtain ⟨p, us, rfl, e1, e2⟩ := b.tup
    obtain ⟨x, ds, rfl, a1, a2, a3⟩ := bestV_inv hp
    exact .inl ⟨p, us, x, ds, rfl, .inr (sqT_mono w.sub e1), e2.mono w.sub, a1, a2, best_fin w e2 a3 q⟩
  | [.int i, .int j], bs, hp =>
    obtain ⟨v, u, rfl, b, b'⟩ := bs.two
    rw [b.int, b'.int]
    exact .inr ⟨i, j, rfl, q _ hp _ G H .refl w (.int _)⟩⟩
theorem kMax (hh : X.calm = true) (hu : X.A.units + 64 < cLine) : CalQ X (.builtin "max") maxR := ⟨_, (call_maxQ hh hu).or (call_max2 hh), by
  intro c G H vs ds post Q w bs hp q
  match ds, bs, hp with
  | [.list xs], bs, hp =>
    obtain ⟨v, rfl, b⟩ := bs.one
    obtain ⟨p, us, rfl, e1, e2, _⟩ := b.lst w
    obtain ⟨x, ds, rfl, a1, a2, a3⟩ := bestV_inv hp
    exact .inl ⟨p, us, x, ds, rfl, .inl e1, e2.mono w.sub, a1, a2, best_fin w e2 a3 q⟩
  | [.tuple xs], bs, hp =>
    obtain ⟨v, rfl, b⟩ := bs.one
    obtain ⟨p, us, rfl, e1, e2⟩ := b.tup
    obtain ⟨x, ds, rfl, a1, a2, a3⟩ := bestV_inv hp
    exact .inl ⟨p, us, x, ds, rfl, .inr (sqT_mono w.sub e1), e2.mono w.sub, a1, a2, best_fin w e2 a3 q⟩
  | [.int i, .int j], bs, hp =>
    obtain ⟨v, u, rfl, b, b'⟩ := bs.two
    rw [b.int, b'.int]
    exact .inr ⟨i, j, rfl, q _ hp _ G H .refl w (.int _)⟩⟩
end
end Pu

namespace Pu
open PySem PySem.Spec PyProof.Rows L2 HT
variable [Tb]
/-! ### t[::-1] -/
section
variable {prog : Program} {w : World} {A : Around} {E : Value → Shared → Prop} {s : Shared}
theorem sliceApplied_rev {sl : Addr} {vl vu vs : Value} {n : Nat} {Q : Int × Int × Nat → Shared → Prop} (hs : s.heap.IsSliceOf sl vl vu vs) (pl : IsPart vl none) (pu : IsPart vu none) (ps : IsPart vs (some (-1)))
    (h : Q ((n : Int) - 1, -1, n) s) : wpAny (model prog w) A (Builtin.Slice.sliceApplied (.ref sl) (pure (n : Int))) Q E s := by
  obtain ⟨os, hos, hcs, hds⟩ := id hs
  unfold Builtin.Slice.sliceApplied Builtin.Slice.sliceFields
  refine wpAny_bind (wpAny_bind (wpAny_field hos hds (x := vl) rfl (wpAny_bind (wpAny_field hos hds (x := vu) rfl (wpAny_bind (wpAny_field hos hds (x := vs) rfl (wpAny_pure ?_)))))))
  refine wpAny_bind (slicePart_ ps ?_)
  show wpAny _ _ (if ((-1 : Int) == 0) = true then _ else _) _ _ s
  rw [if_neg (by decide)]
  refine wpAny_bind (slicePart_ pl (wpAny_bind (slicePart_ pu (wpAny_bind (wpAny_pure ?_)))))
  have e : Builtin.Slice.sliceAdjust none none (-1) (n : Int) = ((n : Int) - 1, -1) := by
    unfold Builtin.Slice.sliceAdjust
    simp
  show wpAny _ _ (match Builtin.Slice.sliceAdjust none none (-1) (n : Int) with | (lo, hi) => pure (lo, (-1 : Int), Builtin.Slice.slicePlaces lo hi (-1))) _ _ s
  rw [e]
  have e2 : Builtin.Slice.slicePlaces ((n : Int) - 1) (-1) (-1) = n := by
    unfold Builtin.Slice.slicePlaces
    cases n with
    | zero => simp
    | succ n => simp; omega
  show wpAny _ _ (pure ((n : Int) - 1, (-1 : Int), Builtin.Slice.slicePlaces ((n : Int) - 1) (-1) (-1))) _ _ s
  rw [e2]
  exact wpAny_pure h
theorem rev_pick (xs : Array Value) : ((List.range xs.size).filterMap fun (m : Nat) => xs[(((xs.size : Int) - 1) + (m : Int) * (-1)).toNat]?).toArray = xs.toList.reverse.toArray := by
  have h : ((List.range xs.size).filterMap fun (m : Nat) => xs[(((xs.size : Int) - 1) + (m : Int) * (-1)).toNat]?) = ((List.range xs.size).map fun k => xs.size - 1 - k).filterMap (xs[·]?) := by
    rw [List.filterMap_map]
    congr 1
    funext m
    show xs[(((xs.size : Int) - 1) + (m : Int) * (-1)).toNat]? = xs[xs.size - 1 - m]?
    have e : (((xs.size : Int) - 1) + (m : Int) * (-1)).toNat = xs.size - 1 - m := by omega
    rw [e]
  rw [h, PySem.W.krv_range, List.filterMap_reverse, PySem.W.krv_all]
theorem getItem_tuple_rev {t sl : Addr} {items : Array Value} {vl vu vs : Value} {Q : Value → Shared → Prop} (ht : IsTup s.heap t items) (hs : s.heap.IsSliceOf sl vl vu vs) (pl : IsPart vl none) (pu : IsPart vu none) (ps : IsPart vs (some (-1)))
    (h : Q (.ref s.heap.objs.size) { s with heap := s.heap.push { cls := .type "tuple", data := .seq items.toList.reverse.toArray } })
    (hsz : items.size ≤ sizeLine) : wpAny (model prog w) A (getItem (.ref t) (.ref sl)) Q E s := by
  have htake : sizeOk (.seq items.toList.reverse.toArray) := by
    show items.toList.reverse.toArray.size ≤ sizeLine
    rw [List.size_toArray, List.length_reverse, Array.length_toList]
    omega
  obtain ⟨os, hos, hcs, hds⟩ := id hs
  have hTs : s.TypeIs (.ref sl) "slice" := ⟨os, hos, hcs⟩
  unfold getItem
  try with_reducible refine wpAny_holding ?_
  first | refine wpAny_bind (wpAny_pure ?_) | skip
  refine wpAny_bind (wpAny_sequenceKey ht.typeIs (by decide) ?_)
  refine wpAny_bind (wpAny_callSpecial?_slot (name := Str.ofString "__getitem__") ht.typeIs PyProof.Rows.slot_tuple_getitem
    (wpAny_call_entry PyProof.Rows.slot_tuple_getitem ht.typeIs entry_tuple_getitem ?_ (args_tuple_getitem _ _)))
  show wpAny _ _ (Builtin.Tuple.tupleItemsOf (.ref t) >>= _) _ _ s
  refine wpAny_bind (tupleItemsOf_ ht ?_)
  refine wpAny_bind (wpAny_typeOf hTs ?_)
  rw [if_pos (by decide)]
  refine wpAny_bind (sliceApplied_rev hs pl pu ps ?_)
  have hno : ¬ ((((items.size : Int) - 1) == 0 && (-1 : Int) == 1 && items.size == items.size) = true) := by
    intro q
    rw [Bool.and_eq_true, Bool.and_eq_true] at q
    exact absurd (eq_of_beq q.1.2) (by decide)
  show wpAny _ _ (if (((items.size : Int) - 1) == 0 && (-1 : Int) == 1 && items.size == items.size) = true then _ else _) _ _ s
  rw [if_neg hno, rev_pick]
  first
    | exact wpAny_bind (m := Builtin.Tuple.tupleExact _) (wpAny_newObj_type (wpAny_pure ⟨_, rfl, wpAny_pure h⟩) htake)
    | exact wpAny_bind (m := Builtin.Tuple.tupleExact _) (wpAny_newObj_type (wpAny_bind (wpAny_pure (wpAny_pure ⟨_, rfl, wpAny_pure h⟩))) htake)
    | exact wpAny_bind (wpAny_bind (m := Builtin.Tuple.tupleExact _) (wpAny_newObj_type (wpAny_pure (wpAny_pure ⟨_, rfl, wpAny_pure h⟩)) htake))
    | exact wpAny_bind (wpAny_bind (m := Builtin.Tuple.tupleExact _) (wpAny_newObj_type (wpAny_pure ⟨_, rfl, wpAny_pure h⟩) htake))
end
/-- what x[::-1] gives: of a list a new list, of a tuple a new tuple -/
def tRevA (K : PySem.W.Frag) (te : TE) : TE := fun σ H Q => te σ H fun x H1 => (∃ a xs, x = .ref a ∧ SqL K H1 a xs ∧ ∀ p, H1 p = none → Q (.ref p) (upd H1 p (.lst xs.reverse))) ∨ (∃ a xs, x = .ref a ∧ SqT K H1 a xs ∧ ∀ p, H1 p = none → Q (.ref p) (upd H1 p (.tup xs.reverse)))
section
variable {X : Cx}
theorem pe_revA {e : Expr} {te : TE} {k : Nat} {p1 p2 p3 pos : Pos} (he : PE X e te) : PE X (.Subscript e (.Slice none none (some (.UnaryOp .USub (.Constant (.int 1) k p1) p2)) p3) pos) (tRevA X.K te) := by
  refine ⟨fun pins s σ H Q I h => ?_⟩
  refine Subscript_ (thn (he.run pins s σ H _ I h) fun v s1 ⟨x, H1, I1, r1, q1⟩ => ?_)
  have hst : PO X (some (.UnaryOp .USub (.Constant (.int 1) k p1) p2)) (tPart (tUn (rU fun i => .int (-i)) (tC (.int 1)))) := po_some (pe_un un_neg pe_int)
  refine wpAny_Slice (thn (po_none.run pins s1 σ H1 (fun o H2 => o = none ∧ H2 = H1) I1 ⟨rfl, rfl⟩) fun vl s2 ⟨l, H2, I2, pl, el, e2⟩ => ?_)
  subst el e2
  refine thn (po_none.run pins s2 σ H2 (fun o H3 => o = none ∧ H3 = H2) I2 ⟨rfl, rfl⟩) fun vu s3 ⟨u, H3, I3, pu, eu, e3⟩ => ?_
  subst eu e3
  refine thn (hst.run pins s3 σ H3 (fun o H4 => o = some (-1) ∧ H4 = H3) I3 ⟨1, rfl, -1, rfl, rfl, rfl⟩) fun vs s4 ⟨o, H4, I4, ps, eo, e4⟩ => ?_
  subst eo e4
  have I5 : Inv X pins σ H4 { s4 with heap := s4.heap.push { cls := .type "slice", data := .fields #[vl, vu, vs] } } := I4.kept (t' := s4.toks) fun b ob q => Heap.get?_push_of_some _ q
  rcases q1 with ⟨a, xs, ex, hx, q⟩ | ⟨a, xs, ex, hx, q⟩
  · subst ex
    cases r1
    obtain ⟨its, r, ht, hz⟩ := I5.list hx
    have hlen := r.length
    show wpAny (model X.prog X.w) X.A (subscriptTail e (.Slice none none (some (.UnaryOp .USub (.Constant (.int 1) k p1) p2)) p3) (.ref a) (.ref s4.heap.objs.size)) (EP X pins σ Q) X.xe { s4 with heap := s4.heap.push { cls := .type "slice", data := .fields #[vl, vu, vs] } }
    refine tail_any (ops := [.ref a, .ref s4.heap.objs.size]) ht.isList.typeIs (PySem.slot_list_getitem.lookup) ?_ (by with_unfolding_all rfl)
    refine wpAny_getItem_list_slice ht.isList (Heap.IsSliceOf.new _ vl vu vs) pl pu ps (by decide) ?_ (by rw [List.size_toArray]; omega)
    rw [PySem.W.krv_pick]
    refine ⟨.ref _, _, I5.laid (t' := s4.toks) (o := .lst xs.reverse) (fun b ob q => Heap.get?_push_of_some _ q) (Nat.le_refl _) ?_, rfl, q _ (I5.hok.fresh (Nat.le_refl _))⟩
    exact ⟨by rw [List.length_reverse]; exact hz, _, 0, r.reverse, Heap.get?_push_size _ rfl⟩
  · subst ex
    cases r1
    obtain ⟨its, r, ht, hz⟩ := I5.tuple hx
    have hlen := r.length
    show wpAny (model X.prog X.w) X.A (subscriptTail e (.Slice none none (some (.UnaryOp .USub (.Constant (.int 1) k p1) p2)) p3) (.ref a) (.ref s4.heap.objs.size)) (EP X pins σ Q) X.xe { s4 with heap := s4.heap.push { cls := .type "slice", data := .fields #[vl, vu, vs] } }
    refine tail_any (ops := [.ref a, .ref s4.heap.objs.size]) ht.typeIs (PyProof.Rows.slot_tuple_getitem.lookup) ?_ (by with_unfolding_all rfl)
    refine getItem_tuple_rev ht (Heap.IsSliceOf.new _ vl vu vs) pl pu ps ?_ (by rw [List.size_toArray]; omega)
    refine ⟨.ref _, _, I5.laid (t' := s4.toks) (o := .tup xs.reverse) (fun b ob q => Heap.get?_push_of_some _ q) (Nat.le_refl _) ?_, rfl, q _ (I5.hok.fresh (Nat.le_refl _))⟩
    exact ⟨by rw [List.length_reverse]; exact hz, its.reverse, r.reverse, _, Heap.get?_push_size _ rfl, rfl, 0, by simp⟩
variable {e a b : Expr} {es : List Expr} {pos : Pos} {st : Stmt}
def revR : D → R D
  | .list xs => ok (.list xs.reverse)
  | .tuple xs => ok (.tuple xs.reverse)
  | _ => fail
theorem revP {f : List Sl → R D} {k : Nat} {p1 p2 p3 : Pos} (ha : PE X a (tB X.K f)) : PE X (.Subscript a (.Slice none none (some (.UnaryOp .USub (.Constant (.int 1) k p1) p2)) p3) pos) (tP X.K (m1 f revR)) :=
  PE.wk (pe_revA ha) fun σ H Q ⟨c, G, ρ, post, w, r, hf, q⟩ => ⟨c, G, ρ, _, w, r, hf, fun d hd v G1 H1 e1 w1 b1 => by
    cases d <;> try exact hd.elim
    · obtain ⟨p, vs, rfl, h1, h2, _⟩ := b1.lst w1
      refine .inl ⟨p, vs, rfl, .of h1, fun n hn => ?_⟩
      obtain ⟨w4, e4⟩ := w1.newF hn (.lst vs.reverse)
      exact q _ hd _ _ _ (e1.trans e4) w4 (.lst upd_same (h2.reverse.mono e4.g))
    · obtain ⟨p, vs, rfl, h1, h2⟩ := b1.tup
      refine .inr ⟨p, vs, rfl, sqT_mono w1.sub h1, fun n hn => ?_⟩
      obtain ⟨w4, e4⟩ := w1.newF hn (.tup vs.reverse)
      exact q _ hd _ _ _ (e1.trans e4) w4 (.tup (.of upd_same) (h2.reverse.mono e4.g))⟩
/-! ### short words for the mirrors -/
def nDR (i : Nat) : List Sl → R D := fun ρ => getD ρ i
def nBR (i : Nat) : List Sl → R D := fun ρ => getB ρ i
def kR (d : D) : List Sl → R D := fun _ => ok d
def noR : List Sl → R (Option Int) := fun _ => ok none
def frz (f : List Sl → R (List D)) : List Sl → R D := fun ρ => bd (f ρ) fun ds => ok (.list ds)
def itR (f : List Sl → R D) : List Sl → R (List D) := fun ρ => bd (f ρ) fun d => bd (itemsR d) fun ds => bd (req (ds.length ≤ sizeLine ∨ ∀ z, d ≠ .str z)) fun _ => ok ds
/-! ### constants of the modules -/
theorem gcI {x : Str} {i : Int} (h : ∃ t, X.mg x = some (.int i t)) (hg : Gl X x := by rfl) (hd : (x == ("__debug__" : Str)) = false := by decide) : PE X (.Name x pos) (tP X.K (kR (.int i))) := let ⟨_, e⟩ := h; gC (v := .int i) (fun _ => .int i) e ⟨_, rfl⟩ hg hd
theorem gcS {x : Str} {i : Str} (h : ∃ t, X.mg x = some (.str i t)) (hg : Gl X x := by rfl) (hd : (x == ("__debug__" : Str)) = false := by decide) : PE X (.Name x pos) (tP X.K (kR (.str i))) := let ⟨_, e⟩ := h; gC (v := .str i) (fun _ => .str i) e ⟨_, rfl⟩ hg hd
/-! ### further statements -/
theorem sNever {g : List Sl → R Out} : PS X st (tS X.K fun _ => fail) := PS.wk ps_never fun D σ H ⟨c, G, ρ, post, w, r, hg, q⟩ => hg
theorem sDoc {x j pos'} : PS X (.Expr (.Constant (.str x) j pos) pos') (tS X.K nilM) := PS.wk ps_doc fun D σ H ⟨c, G, ρ, post, w, r, hg, q⟩ => q _ hg σ G H (fun _ _ e => e) w r
def mulIR : D → D → R D
  | .int i, .int j => bd (req (CMul i j)) fun _ => ok (.int (i * j))
  | _, _ => fail
theorem bop_mulI2 : Bop X.K (rI CMul fun i j => .int (i * j)) mulIR := by
  intro c G H x y d e post Q w b1 b2 hp q
  cases d <;> cases e <;> try exact hp.elim
  exact ⟨_, _, b1.int, b2.int, hp.1, q _ hp.2 _ G H .refl w (.int _)⟩
section
variable {x : Str} {pos' : Pos} {f : List Sl → R D}
theorem sAugAdd (i : Nat) (hN : X.N.Nodup) (he : PE X e (tB X.K f)) (hi : X.N[i]? = some x := by rfl) (hx : Loc X.env.scope x := by first | exact Or.inl rfl | exact Or.inr rfl) (hf : X.fn x = true ∨ X.env.scope.names.lookup x = some .local := by first | exact .inl rfl | exact .inr rfl) : PS X (.AugAssign (.Name x pos') .Add e pos) (tS X.K (augM i f addIR)) := sAug i iop_add bop_addI hN he hi hx hf
theorem sAugSub (i : Nat) (hN : X.N.Nodup) (he : PE X e (tB X.K f)) (hi : X.N[i]? = some x := by rfl) (hx : Loc X.env.scope x := by first | exact Or.inl rfl | exact Or.inr rfl) (hf : X.fn x = true ∨ X.env.scope.names.lookup x = some .local := by first | exact .inl rfl | exact .inr rfl) : PS X (.AugAssign (.Name x pos') .Sub e pos) (tS X.K (augM i f subR)) := sAug i iop_sub bop_sub hN he hi hx hf
theorem sAugMul (i : Nat) (hN : X.N.Nodup) (he : PE X e (tB X.K f)) (hi : X.N[i]? = some x := by rfl) (hx : Loc X.env.scope x := by first | exact Or.inl rfl | exact Or.inr rfl) (hf : X.fn x = true ∨ X.env.scope.names.lookup x = some .local := by first | exact .inl rfl | exact .inr rfl) : PS X (.AugAssign (.Name x pos') .Mult e pos) (tS X.K (augM i f mulIR)) := sAug i iop_mul bop_mulI2 hN he hi hx hf
end
/-! ### several names at once: each its own kind of value -/
def rD (f : List Sl → R D) : List Sl → R Sl := fun ρ => bd (f ρ) fun d => ok (.dat d)
def rO (f : List Sl → R (List D)) : List Sl → R Sl := fun ρ => bd (f ρ) fun ds => ok (.own ds)
inductive SlAll (K : PySem.W.Frag) (c : Ct) (G H : Hp) : List V → List Sl → Prop
  | nil : SlAll K c G H [] []
  | cons {v : V} {vs : List V} {x : Sl} {xs : List Sl} : SlOk K c G H x v → (x.isOwn = true → ∀ (j : Nat) (y : Sl), xs[j]? = some y → y.isOwn = true → vs[j]? ≠ some v) → SlAll K c G H vs xs → SlAll K c G H (v :: vs) (x :: xs)
theorem SlAll.ext {K : PySem.W.Frag} {c : Ct} {G H G' H' : Hp} (e : Ext c.E G H G' H') : ∀ {vs : List V} {xs : List Sl}, SlAll K c G H vs xs → SlAll K c G' H' vs xs
  | _, _, .nil => .nil
  | _, _, .cons s d t => .cons (s.ext e) d (SlAll.ext e t)
/-- new: the own ones among them are at places where nothing stood -/
def tM (K : PySem.W.Frag) (f : List Sl → R (List Sl)) : TA := fun σ H Q => ∃ (c : Ct) (G : Hp) (ρ : List Sl) (post : List Sl → Prop), Wd c G H ∧ RS K c G H σ ρ ∧ f ρ post ∧
  ∀ xs, post xs → ∀ vs G' H', Ext c.E G H G' H' → W0 c.E G' H' → SlAll K c G' H' vs xs → (∀ (j : Nat) (y : Sl) a, xs[j]? = some y → y.isOwn = true → vs[j]? = some (.ref a) → H a = none) → Q vs H'
theorem mN : PA X [] (tM X.K nilR) := PA.wk pa_nil fun σ H Q ⟨c, G, ρ, post, w, r, hf, q⟩ => q [] hf [] G H .refl w.w .nil fun j _ _ h => by simp at h
theorem mD {f : List Sl → R D} {g : List Sl → R (List Sl)} (ha : PE X a (tP X.K f)) (hr : PA X es (tM X.K g)) (hs : starEach (a :: es) X.env = (false, eval a X.env) :: starEach es X.env := by rfl) : PA X (a :: es) (tM X.K (consR (rD f) g)) :=
  PA.wk (pa_cons ha hr hs) fun σ H Q ⟨c, G, ρ, post, w, r, hf, q⟩ => by
    refine ⟨c, G, ρ, _, w, r, hf, fun d hd v G1 H1 e1 w1 b1 => ?_⟩
    refine ⟨c, G1, ρ, _, w.step w1 e1, r.ext e1, hd, fun xs hxs vs G2 H2 e2 w2 b2 n2 => q (.dat d :: xs) hxs _ G2 H2 (e1.trans e2) w2 (.cons (SlOk.ext (x := .dat d) e2 b1) (fun h => by cases h) b2) fun j es a h1 k1 h2 => ?_⟩
    cases j with
    | zero => cases h1; cases k1
    | succ j =>
      have hn := n2 j es a h1 k1 h2
      exact e1.none hn (w1.fresh hn).2
theorem mO {f : List Sl → R (List D)} {g : List Sl → R (List Sl)} (ha : PE X a (tF X.K f)) (hr : PA X es (tM X.K g)) (hs : starEach (a :: es) X.env = (false, eval a X.env) :: starEach es X.env := by rfl) : PA X (a :: es) (tM X.K (consR (rO f) g)) :=
  PA.wk (pa_cons ha hr hs) fun σ H Q ⟨c, G, ρ, post, w, r, hf, q⟩ => by
    refine ⟨c, G, ρ, _, w, r, hf, fun d hd p G1 H1 n1 e1 w1 o1 => ?_⟩
    refine ⟨c, G1, ρ, _, w.step w1 e1, r.ext e1, hd, fun xs hxs vs G2 H2 e2 w2 b2 n2 => q (.own d :: xs) hxs _ G2 H2 (e1.trans e2) w2 (.cons ⟨p, rfl, o1.ext e2⟩ (fun _ j fs h1 k1 h2 => ?_) b2) fun j es a h1 k1 h2 => ?_⟩
    · obtain ⟨vs1, hv, _⟩ := o1.at_
      have hn := n2 j fs p h1 k1 h2
      rw [hn] at hv; cases hv
    · cases j with
      | zero => cases h2; exact n1
      | succ j =>
        have hn := n2 j es a h1 k1 h2
        exact e1.none hn (w1.fresh hn).2
def setsR : List Nat → List Sl → List Sl → R (List Sl)
  | [], [], ρ => ok ρ
  | i :: is, x :: xs, ρ => setsR is xs (ρ.set i x)
  | _, _, _ => fail
def setsM (is : List Nat) (f : List Sl → R (List Sl)) : List Sl → R Out := fun ρ => bd (f ρ) fun xs => bd (setsR is xs ρ) fun ρ' => ok (.nx ρ')
/-- a slot is set to a value of any kind that is at no other slot -/
theorem RS.setA {K : PySem.W.Frag} {c : Ct} {G H : Hp} {σ : L2.St} {ρ : List Sl} (r : RS K c G H σ ρ) {i : Nat} {v : V} {x : Sl} (q : SlOk K c G H x v) (new : x.isOwn = true → ∀ (j : Nat) (y : Sl), ρ[j]? = some y → y.isOwn = true → σ[j]? ≠ some (some v)) : RS K c G H (σ.set i (some v)) (ρ.set i x) := by
  cases x with
  | un => exact r.wipe1 i _
  | dat d => exact r.setD q
  | own es =>
    obtain ⟨a, rfl, o⟩ := q
    exact r.setN ⟨a, rfl, o⟩ fun j y h k => new rfl j y h k
  | od es =>
    obtain ⟨a, rfl, o⟩ := q
    exact r.setN ⟨a, rfl, o⟩ fun j y h k => new rfl j y h k
  | box k =>
    refine ⟨by simp [r.len], fun j y h => ?_, fun j l ds es u h1 h2 k1 k2 h3 h4 => ?_⟩
    · rcases set_get h with ⟨rfl, rfl⟩ | ⟨hj, h⟩
      · have hl : j < σ.length := by
          rw [r.len]; have := (List.getElem?_eq_some_iff.mp h).1; simpa using this
        exact .inr ⟨v, List.getElem?_set_self hl, q⟩
      · rcases r.at_ j y h with e | ⟨u, e, s⟩
        · exact .inl e
        · exact .inr ⟨u, by rw [List.getElem?_set_ne (Ne.symm hj)]; exact e, s⟩
    · rcases set_get h1 with ⟨_, e⟩ | ⟨n1, e1⟩
      · rw [e] at k1; cases k1
      · rcases set_get h2 with ⟨_, e⟩ | ⟨n2, e2⟩
        · rw [e] at k2; cases k2
        · rw [List.getElem?_set_ne (Ne.symm n1)] at h3
          rw [List.getElem?_set_ne (Ne.symm n2)] at h4
          exact r.dd j l ds es u e1 e2 k1 k2 h3 h4
def setV : List Nat → List V → L2.St → L2.St
  | i :: is, v :: vs, σ => setV is vs (σ.set i (some v))
  | _, _, σ => σ
theorem rs_sets {K : PySem.W.Frag} {c : Ct} {G H : Hp} {post : List Sl → Prop} : ∀ {is : List Nat} {vs : List V} {xs : List Sl} {σ : L2.St} {ρ : List Sl}, RS K c G H σ ρ → SlAll K c G H vs xs → (∀ (j : Nat) (x : Sl) v, xs[j]? = some x → x.isOwn = true → vs[j]? = some v → ∀ (l : Nat) (y : Sl), ρ[l]? = some y → y.isOwn = true → σ[l]? ≠ some (some v)) →
    setsR is xs ρ post → ∃ ρ', post ρ' ∧ RS K c G H (setV is vs σ) ρ' ∧ is.length = vs.length
  | [], _, [], σ, ρ, r, .nil, _, h => ⟨ρ, h, r, rfl⟩
  | [], _, _ :: _, _, _, _, _, _, h => h.elim
  | _ :: _, _, [], _, _, _, _, _, h => h.elim
  | i :: is, _, x :: xs, σ, ρ, r, .cons (v := v) (vs := vs) s d t, n, h => by
    obtain ⟨ρ', h1, h2, h3⟩ := rs_sets (is := is) (vs := vs) (xs := xs) (σ := σ.set i (some v)) (ρ := ρ.set i x) (r.setA s fun he j fs hj kj => n 0 x v rfl he rfl j fs hj kj) t (fun j es u h1 k1 h2 l fs hl kl hσ => by
      rcases set_get hl with ⟨rfl, hx⟩ | ⟨hne, hl⟩
      · have hls : l < σ.length := by
          have := (List.getElem?_eq_some_iff.mp hσ).1; simpa using this
        rw [List.getElem?_set_self hls] at hσ
        have : v = u := by simpa using hσ
        subst this
        exact d (hx ▸ kl) j es h1 k1 h2
      · rw [List.getElem?_set_ne (Ne.symm hne)] at hσ
        exact n (j + 1) es u h1 k1 h2 l fs hl kl hσ) h
    exact ⟨ρ', h1, h2, by simp [h3]⟩
theorem RS.newN {K : PySem.W.Frag} {c : Ct} {G H : Hp} {σ : L2.St} {ρ : List Sl} (r : RS K c G H σ ρ) {a : Addr} (h : H a = none) (j : Nat) (y : Sl) (hy : ρ[j]? = some y) (k : y.isOwn = true) : σ[j]? ≠ some (some (.ref a)) := fun e => by
  rcases r.at_ j y hy with rfl | ⟨v, e2, s⟩
  · cases k
  · rw [e] at e2
    cases e2
    cases y with
    | own ds =>
      obtain ⟨b, hb, o⟩ := s
      cases hb
      obtain ⟨vs, q, _⟩ := o.at_
      rw [h] at q; cases q
    | od ds =>
      obtain ⟨b, hb, o⟩ := s
      cases hb
      obtain ⟨vs, q, _⟩ := o.at_
      rw [h] at q; cases q
    | _ => cases k
theorem tm_new {K : PySem.W.Frag} {c : Ct} {G H G' H' : Hp} {σ : L2.St} {ρ : List Sl} (r : RS K c G H σ ρ) {vs : List V} {xs : List Sl} (k : SlAll K c G' H' vs xs) (n : ∀ (j : Nat) (y : Sl) a, xs[j]? = some y → y.isOwn = true → vs[j]? = some (.ref a) → H a = none) :
    ∀ (j : Nat) (x : Sl) v, xs[j]? = some x → x.isOwn = true → vs[j]? = some v → ∀ (l : Nat) (y : Sl), ρ[l]? = some y → y.isOwn = true → σ[l]? ≠ some (some v) := by
  intro j es v h1 k1 h2 l fs hl kl hσ
  have key : ∀ {vs : List V} {xs : List Sl}, SlAll K c G' H' vs xs → ∀ (j : Nat) (x : Sl) v, xs[j]? = some x → x.isOwn = true → vs[j]? = some v → ∃ a, v = .ref a := by
    intro vs xs k
    induction k with
    | nil => intro j es v h; simp at h
    | @cons v0 vs0 x0 xs0 s d t ih =>
      intro j x v h1 k1 h2
      cases j with
      | zero =>
        cases h1; cases h2
        cases x0 with
        | own _ => obtain ⟨a, rfl, _⟩ := s; exact ⟨a, rfl⟩
        | od _ => obtain ⟨a, rfl, _⟩ := s; exact ⟨a, rfl⟩
        | _ => cases k1
      | succ j => exact ih j x v h1 k1 h2
  obtain ⟨a, rfl⟩ := key k j es v h1 k1 h2
  exact r.newN (n j es a h1 k1 h2) l fs hl kl hσ
theorem sPar2 (i j : Nat) {x y : Str} {px py pt : Pos} {kt k2 pt2} {g : List Sl → R (List Sl)} (hN : X.N.Nodup) (ha : PA X [a, b] (tM X.K g)) (hi : X.N[i]? = some x := by rfl) (hj : X.N[j]? = some y := by rfl) (hij : i ≠ j := by decide) (hx : X.env.scope.names.lookup x = some .local := by rfl) (hy : X.env.scope.names.lookup y = some .local := by rfl)
    (hc : X.calm = true := by rfl) (hw : swappedStores [.Tuple [.Name x px, .Name y py] kt pt] (.Tuple [a, b] k2 pt2) X.env = pure (some [x, y]) := by rfl) (hs : swapsWithSole [.Tuple [.Name x px, .Name y py] kt pt] (.Tuple [a, b] k2 pt2) pos.line X.env = pure false := by rfl) :
    PS X (.Assign [.Tuple [.Name x px, .Name y py] kt pt] (.Tuple [a, b] k2 pt2) pos) (tS X.K (setsM [i, j] g)) := PS.wk (ps_par hc hN hi hj hij hx hy ha hw hs) fun D σ H ⟨c, G, ρ, post, w, r, hg, q⟩ =>
  ⟨c, G, ρ, _, w, r, hg, fun xs hxs vs G' H' e' w' k n => by
    obtain ⟨ρ', h1, h2, h3⟩ := rs_sets (r.ext e') k (tm_new r k n) hxs
    match vs, h3, h2 with
    | [v, u], _, h2 => exact ⟨v, u, rfl, q _ h1 _ G' H' e'.g (w.step w' e') h2⟩⟩
theorem sPar3 (i j l : Nat) {x y z : Str} {c : Expr} {px py pz pt : Pos} {kt k2 pt2} {g : List Sl → R (List Sl)} (hN : X.N.Nodup) (ha : PA X [a, b, c] (tM X.K g)) (hi : X.N[i]? = some x := by rfl) (hj : X.N[j]? = some y := by rfl) (hl : X.N[l]? = some z := by rfl) (hij : i ≠ j := by decide) (hil : i ≠ l := by decide) (hjl : j ≠ l := by decide)
    (hx : X.env.scope.names.lookup x = some .local := by rfl) (hy : X.env.scope.names.lookup y = some .local := by rfl) (hz : X.env.scope.names.lookup z = some .local := by rfl)
    (hc : X.calm = true := by rfl) (hw : swappedStores [.Tuple [.Name x px, .Name y py, .Name z pz] kt pt] (.Tuple [a, b, c] k2 pt2) X.env = pure (some [x, y, z]) := by rfl) (hs : swapsWithSole [.Tuple [.Name x px, .Name y py, .Name z pz] kt pt] (.Tuple [a, b, c] k2 pt2) pos.line X.env = pure false := by rfl) :
    PS X (.Assign [.Tuple [.Name x px, .Name y py, .Name z pz] kt pt] (.Tuple [a, b, c] k2 pt2) pos) (tS X.K (setsM [i, j, l] g)) := PS.wk (ps_par3 hc hN hi hj hl hij hil hjl hx hy hz ha hw hs) fun D σ H ⟨c, G, ρ, post, w, r, hg, q⟩ =>
  ⟨c, G, ρ, _, w, r, hg, fun xs hxs vs G' H' e' w' k n => by
    obtain ⟨ρ', h1, h2, h3⟩ := rs_sets (r.ext e') k (tm_new r k n) hxs
    match vs, h3, h2 with
    | [v, u, t], _, h2 => exact ⟨v, u, t, rfl, q _ h1 _ G' H' e'.g (w.step w' e') h2⟩⟩
/-- by the tuple itself -/
def gSets : List Nat → TGs
  | [] => gNil
  | i :: is => gCons (gName i) (gSets is)
theorem gsets_ok : ∀ {is : List Nat} {vs : List V} {σ : L2.St} {H : Hp} {Q : L2.St → Hp → Prop}, is.length = vs.length → Q (setV is vs σ) H → gSets is vs σ H Q
  | [], [], _, _, _, _, q => ⟨rfl, q⟩
  | i :: is, v :: vs, σ, H, Q, h, q => ⟨v, vs, rfl, gsets_ok (by simpa using h) q⟩
theorem mgN : PGs X [] (gSets []) := pgs_nil
theorem mgC (i : Nat) {x : Str} {p : Pos} {is : List Nat} (hN : X.N.Nodup) (h : PGs X es (gSets is)) (hi : X.N[i]? = some x := by rfl) (hx : Loc X.env.scope x := by first | exact Or.inl rfl | exact Or.inr rfl) (hf : X.fn x = true ∨ X.env.scope.names.lookup x = some .local := by first | exact .inl rfl | exact .inr rfl)
    (hs : (assignEach (.Name x p :: es) X.env).map (·.2) = assign (.Name x p) X.env :: (assignEach es X.env).map (·.2) := by rfl) : PGs X (.Name x p :: es) (gSets (i :: is)) := pgs_cons (pg_name hN hi hx hf) h hs
theorem SlAll.length {K : PySem.W.Frag} {c : Ct} {G H : Hp} {vs : List V} {xs : List Sl} (h : SlAll K c G H vs xs) : vs.length = xs.length := by
  induction h with
  | nil => rfl
  | cons _ _ _ ih => simp [ih]
theorem sTup {ts : List Expr} {is : List Nat} {n : Nat} {kt k2 : Nat} {pt pt2 : Pos} {g : List Sl → R (List Sl)} (hg : PGs X ts (gSets is)) (ha : PA X es (tM X.K g)) (hn : (assignEach ts X.env).length = n := by rfl) (hst : (assignEach ts X.env).findIdx? (·.1) = none := by rfl) (hc : X.calm = true := by rfl) (hni : is.length = n := by rfl) (hn2 : is.length ≤ 100 := by decide)
    (hs : swapsWithSole [.Tuple ts kt pt] (.Tuple es k2 pt2) pos.line X.env = pure false := by rfl) (hw : swappedStores [.Tuple ts kt pt] (.Tuple es k2 pt2) X.env = pure none := by rfl) (h1 : (assignEach [.Tuple ts kt pt] X.env).map (·.2) = [assign (.Tuple ts kt pt) X.env] := by rfl) :
    PS X (.Assign [.Tuple ts kt pt] (.Tuple es k2 pt2) pos) (tS X.K (setsM is g)) := PS.wk (ps_asg (pe_tup ha) (pg_tup hc hg hn hst) hs hw h1) fun D σ H ⟨c, G, ρ, post, w, r, hg, q⟩ =>
  ⟨c, G, ρ, _, w, r, hg, fun xs hxs vs G' H' e' w' k nn => by
    obtain ⟨ρ', h1, h2, h3⟩ := rs_sets (r.ext e') k (tm_new r k nn) hxs
    refine ⟨Nat.le_trans (by omega : vs.length ≤ 100) (by decide), fun p hp => ?_⟩
    refine ⟨p, vs, rfl, .of upd_same, by omega, gsets_ok h3 ?_⟩
    obtain ⟨w3, e3⟩ := w'.new hp (.tup vs)
    exact q _ h1 _ G' _ e'.g ((w.step w' e').step w3 e3) (h2.ext e3)⟩
/-- x += [..], x an own list -/
theorem sAugExt (i : Nat) {x : Str} {pos' : Pos} {f : List Sl → R D} (hN : X.N.Nodup) (he : PE X e (tB X.K f)) (hi : X.N[i]? = some x := by rfl) (hx : Loc X.env.scope x := by first | exact Or.inl rfl | exact Or.inr rfl) (hf : X.fn x = true ∨ X.env.scope.names.lookup x = some .local := by first | exact .inl rfl | exact .inr rfl) :
    PS X (.AugAssign (.Name x pos') .Add e pos) (tS X.K (mutM i (consR f nilR) extR)) :=
  PS.wk (ps_aug hN hi hx he (fun pins s σ H x y v u Q I rx ry q => iop_ext pins s σ H x y v u Q I rx ry q) hf) fun D σ H ⟨c, G, ρ, post, w, r, hg, q⟩ => by
    obtain ⟨ds, e0, hg⟩ := getO_inv hg
    rcases r.at_ i _ e0 with z | ⟨v, e1, a, rfl, o⟩
    · cases z
    · refine ⟨_, e1, c, G, ρ, _, w, r, hg, fun y hy u G' H' e' w' b => ?_⟩
      obtain ⟨ds', e0', hy⟩ := getO_inv hy
      rw [e0] at e0'; cases e0'
      have o' := o.ext e'
      obtain ⟨vs, hv, kv⟩ := o'.at_
      cases y with
      | list ys =>
        obtain ⟨p, us, rfl, h1, h2, _⟩ := b.lst w'
        have kw := kv.append h2
        refine ⟨a, p, vs, us, rfl, rfl, hv, h1, by rw [kv.length, h2.length]; exact hy.1, ?_⟩
        have r2 := (r.ext e').mut e0 e1 o' kw
        have e3 : σ.set i (some (.ref a)) = σ := by
          apply List.ext_getElem?
          intro j
          by_cases hj : j = i
          · subst hj
            have hl : j < σ.length := (List.getElem?_eq_some_iff.mp e1).1
            rw [List.getElem?_set_self hl, e1]
          · rw [List.getElem?_set_ne (Ne.symm hj)]
        show D.nx (σ.set i (some (.ref a))) _
        rw [e3]
        exact q _ hy.2 σ G' _ e'.g (Wd.mut (w.step w' e') o' kw).1 r2
      | _ => exact hy.elim
end
/-! ### a def of the text, with what it computes -/
structure Def (P : Program) (w : World) (K : PySem.W.Frag) (mg : Str → Option Value) (base : Heap) (x : Str) (ps : List Str) (k : Nat) (sp : Sp) : Prop where
  ex : ∃ f fd, mg x = some (.ref f) ∧ PySem.W.keepIn K (.ref f) = true ∧ L2.Binds K fd ps [] ∧ FnOk P w K mg base CX0 k f fd ps sp
section
variable {X : Cx} {k n j : Nat} {ps : List Str} {m : List D → R D} {x : Str} {p pos : Pos} {e : Expr} {es : List Expr}
theorem callD {g : List Sl → R (List D)} (F : Def X.prog X.w X.K X.mg X.base x ps k (spR X.K n m)) (hr : Room k X.A) (ha : PA X (e :: es) (tAF X.K g))
    (hg : Gl X x := by rfl) (hdb : (x == ("__debug__" : Str)) = false := by decide) (he : starEach (e :: es) X.env = (false, eval e X.env) :: starEach es X.env := by rfl) (hpl : (backTo pos (starEach es X.env)).any (·.1) = false := by rfl) : PE X (.Call (.Name x p) (e :: es) [] pos) (tP X.K (m1 g (callR n m))) :=
  let ⟨_, _, hm, hk, hb, F⟩ := F.ex
  call F hr hm hk hb ha hg hdb he hpl
theorem callD_0 (F : Def X.prog X.w X.K X.mg X.base x ps k (spR X.K 0 m)) (hr : Room k X.A)
    (hg : Gl X x := by rfl) (hdb : (x == ("__debug__" : Str)) = false := by decide) : PE X (.Call (.Name x p) [] [] pos) (tP X.K (m1 nilR (callR 0 m))) :=
  let ⟨_, _, hm, hk, hb, F⟩ := F.ex
  call0 F hr hm hk hb hg hdb
theorem callD_X (i : Nat) {y : Str} {q1 : Pos} {g : List Sl → R (List D)} {pp : Str} (F : Def X.prog X.w X.K X.mg X.base x (pp :: ps) k (spX X.K j n m)) (hr : Room k X.A) (ha : PA X es (tAF X.K g))
    (hN : X.N[i]? = some y := by rfl) (hv : Vis X.env.scope y := by first | exact Or.inl rfl | exact Or.inr (Or.inl rfl) | exact Or.inr (Or.inr rfl)) (hd : (y == ("__debug__" : Str)) = false := by decide) (hcd : (y == ("__classdict__" : Str)) = false := by decide)
    (hg : Gl X x := by rfl) (hdb : (x == ("__debug__" : Str)) = false := by decide) (hs : starEach (.Name y q1 :: es) X.env = (false, eval (.Name y q1) X.env) :: starEach es X.env := by rfl) (hpl : (backTo pos (starEach es X.env)).any (·.1) = false := by rfl) : PE X (.Call (.Name x p) (.Name y q1 :: es) [] pos) (tP X.K (callX i j n g m)) :=
  let ⟨_, _, hm, hk, hb, F⟩ := F.ex
  callBx i F hr hm hk hb ha hN hv hd hcd hg hdb hs hpl
end
end Pu

namespace Pu
open PySem PySem.Spec PyProof.Rows L2 HT
variable [Tb]
/-! ### t * k -/
theorem tuple_mul_same (l : Addr) (items : Array Value) (n : Nat) (sl : Array (Option Value)) (x : Int) (u : Tok) (c0 : (decide (x < -(2 ^ 63)) || decide (x ≥ 2 ^ 63)) = false) (c1 : (items.isEmpty || x == 1) = true) (dd : Option Addr) :
    Meets (Builtin.«tuple.__mul__» ⟨[.ref l, .int x u], []⟩) (fun _ R s => s.heap.get? l = some { cls := .type "tuple", dict := dd, data := .seq items n, slots := sl } ∧
      R (.ok (.ret (Value.ref l))) s) :=
  .of_wp fun prog w A R s h => by
    obtain ⟨hp, g, d, tk, os⟩ := s
    obtain ⟨hl, h⟩ := h
    have f1 := AutoSeq1.idx_int
    wp_walk using wpAny_loadPart' hl
    repeat (first
      | (refine wpAny_ite_false (decide_eq_false (by rw [c0]; exact Bool.false_ne_true)) ?_; wp_walk using wpAny_loadPart' hl)
      | (refine wpAny_ite_true (decide_eq_true (by rw [c1])) ?_; wp_walk using wpAny_loadPart' hl))
    exact ⟨_, rfl, h⟩
theorem tuple_mul_none (l : Addr) (items : Array Value) (n : Nat) (sl : Array (Option Value)) (x : Int) (u : Tok) (c0 : (decide (x < -(2 ^ 63)) || decide (x ≥ 2 ^ 63)) = false) (c1 : (items.isEmpty || x == 1) = false) (c2 : (decide (x ≤ 0) || items.isEmpty) = true) (dd : Option Addr) :
    Meets (Builtin.«tuple.__mul__» ⟨[.ref l, .int x u], []⟩) (fun _ R s => s.heap.get? l = some { cls := .type "tuple", dict := dd, data := .seq items n, slots := sl } ∧
      R (.ok (.ret (Value.ref s.heap.objs.size))) { s with heap := s.heap.push { cls := Value.type "tuple", data := Data.seq #[] }, toks := s.toks }) :=
  .of_wp fun prog w A R s h => by
    obtain ⟨hp, g, d, tk, os⟩ := s
    obtain ⟨hl, h⟩ := h
    have f1 := AutoSeq1.idx_int
    have hz : ¬ (#[] : Array Value).size > sizeLine := by decide
    wp_walk using wpAny_loadPart' hl
    repeat (first
      | (refine wpAny_ite_false (decide_eq_false (by rw [c0]; exact Bool.false_ne_true)) ?_; wp_walk using wpAny_loadPart' hl)
      | (refine wpAny_ite_false (decide_eq_false (by rw [c1]; exact Bool.false_ne_true)) ?_; wp_walk using wpAny_loadPart' hl)
      | (refine wpAny_ite_true (decide_eq_true (by rw [c2])) ?_; wp_walk using wpAny_loadPart' hl)
      | (refine wpAny_ite_false (decide_eq_false hz) ?_; wp_walk using wpAny_loadPart' hl))
    exact ⟨_, rfl, h⟩
def rRepA (K : PySem.W.Frag) : R2 := fun x y H Q => ∃ l k xs, x = .ref l ∧ y = .int k ∧ SqT K H l xs ∧ -(2 ^ 63) ≤ k ∧ k < 2 ^ 63 ∧ xs.length * k.toNat ≤ sizeLine ∧ ((xs = [] ∨ k = 1) → Q (.ref l) H) ∧ (¬ (xs = [] ∨ k = 1) → ∀ p, H p = none → Q (.ref p) (upd H p (.tup (List.replicate k.toNat xs).flatten)))
section
variable {X : Cx}
theorem op_repA : OpR X (binaryOp .Mult) (rRepA X.K) := by
  intro pins s σ H x y v u Q I rx ry h
  obtain ⟨l, k, xs, rfl, rfl, hT, h1, h2, hz, q1, q2⟩ := h
  cases rx
  obtain ⟨t, rfl⟩ := ry
  obtain ⟨its, r, ⟨⟨cls, dd, data, sl⟩, ho, hc, n, hd⟩, hs⟩ := I.tuple hT
  simp only at hc hd
  subst hc hd
  have hle : its.length = xs.length := r.length.symm
  have hi : its.toArray.isEmpty = xs.isEmpty := by
    cases its with
    | nil => cases xs with
      | nil => rfl
      | cons a b => simp at hle
    | cons a b => cases xs with
      | nil => simp at hle
      | cons a b => rfl
  have hsz0 : its.toArray.size = xs.length := by rw [List.size_toArray, hle]
  have c0 : (decide (k < -(2 ^ 63)) || decide (k ≥ 2 ^ 63)) = false := by
    rw [decide_eq_false (by omega), decide_eq_false (by omega)] <;> rfl
  by_cases hsame : xs = [] ∨ k = 1
  · have c1 : (its.toArray.isEmpty || k == 1) = true := by
      rw [hi]
      rcases hsame with e | e
      · rw [e]; rfl
      · rw [e]; simp
    refine wpAny_binaryOp_repeat_ref (T := "tuple") (U := "int") (by decide) ⟨_, ho, rfl⟩ (fun s' => typeIs_int s' k t) noFill_tuple_mul F.fills_int_mul F.slot_int_rmul repeat_tuple F.slot_int_index.lookup
      (call_meets F.slot_int_rmul (typeIs_int s k t) F.entry_int_rmul (F.args_int_rmul_2 _ _) (int_rmul_tuple k t l its.toArray n dd sl)
        ⟨ho, rfl, ⟨_, ho, rfl⟩, call_meets F.slot_tuple_mul ⟨_, ho, rfl⟩ F.entry_tuple_mul (F.args_tuple_mul_2 _ _) (tuple_mul_same l its.toArray n sl k t c0 c1 dd) ⟨ho, ?_⟩⟩)
    exact ⟨.ref l, H, I, rfl, q1 hsame⟩
  · have c1 : (its.toArray.isEmpty || k == 1) = false := by
      rw [hi]
      cases xs with
      | nil => exact absurd (.inl rfl) hsame
      | cons a b =>
        rw [show (a :: b).isEmpty = false from rfl, Bool.false_or]
        exact beq_eq_false_iff_ne.mpr fun e => hsame (.inr e)
    have he : its.toArray.isEmpty = false := by
      cases hq : its.toArray.isEmpty with
      | false => rfl
      | true => rw [hq, Bool.true_or] at c1; cases c1
    have flen : (List.replicate k.toNat xs).flatten.length ≤ sizeLine := by
      rw [PyProof.Rows.lm_len_rep_flat, Nat.mul_comm]; exact hz
    have flen2 : (List.replicate k.toNat its).flatten.length ≤ sizeLine := by
      rw [PyProof.Rows.lm_len_rep_flat, Nat.mul_comm, hle]; exact hz
    by_cases hk : k ≤ 0
    · have c2 : (decide (k ≤ 0) || its.toArray.isEmpty) = true := by rw [decide_eq_true hk]; rfl
      refine wpAny_binaryOp_repeat_ref (T := "tuple") (U := "int") (by decide) ⟨_, ho, rfl⟩ (fun s' => typeIs_int s' k t) noFill_tuple_mul F.fills_int_mul F.slot_int_rmul repeat_tuple F.slot_int_index.lookup
        (call_meets F.slot_int_rmul (typeIs_int s k t) F.entry_int_rmul (F.args_int_rmul_2 _ _) (int_rmul_tuple k t l its.toArray n dd sl)
          ⟨ho, rfl, ⟨_, ho, rfl⟩, call_meets F.slot_tuple_mul ⟨_, ho, rfl⟩ F.entry_tuple_mul (F.args_tuple_mul_2 _ _) (tuple_mul_none l its.toArray n sl k t c0 c1 c2 dd) ⟨ho, ?_⟩⟩)
      have e0 : (List.replicate k.toNat xs).flatten = [] := by rw [show k.toNat = 0 by omega]; rfl
      have q3 := q2 hsame _ (I.hok.fresh (Nat.le_refl _))
      rw [e0] at q3
      refine ⟨.ref s.heap.objs.size, _, I.laid (t' := s.toks) (o := .tup []) (fun b ob q => Heap.get?_push_of_some _ q) (Nat.le_refl _) ?_, rfl, q3⟩
      exact ⟨Nat.zero_le _, [], .nil, IsTup.new _ _⟩
    · have c2 : (decide (k ≤ 0) || its.toArray.isEmpty) = false := by
        rw [he, Bool.or_false]; exact decide_eq_false hk
      have hm : ((its.toArray.size : Nat) : Int) * k ≤ (sizeLine : Nat) := by
        rw [hsz0]
        have hk2 : ((k.toNat : Nat) : Int) = k := by omega
        rw [← hk2, ← Int.natCast_mul]
        exact Int.ofNat_le.mpr hz
      have c4 : Builtin.Tuple.tupleTooMany (((its.toArray.size : Nat) : Int) * k) = false := by
        unfold Builtin.Tuple.tupleTooMany
        exact decide_eq_false (by omega)
      have c3 : ¬ ((its.toArray.size : Nat) : Int) * k > (2 ^ 63 - 1) / 8 := by
        rw [sizeLine_eq] at hm
        omega
      refine wpAny_binaryOp_repeat_ref (T := "tuple") (U := "int") (by decide) ⟨_, ho, rfl⟩ (fun s' => typeIs_int s' k t) noFill_tuple_mul F.fills_int_mul F.slot_int_rmul repeat_tuple F.slot_int_index.lookup
        (call_meets F.slot_int_rmul (typeIs_int s k t) F.entry_int_rmul (F.args_int_rmul_2 _ _) (int_rmul_tuple k t l its.toArray n dd sl)
          ⟨ho, rfl, ⟨_, ho, rfl⟩, call_meets F.slot_tuple_mul ⟨_, ho, rfl⟩ F.entry_tuple_mul (F.args_tuple_mul_2 _ _) (tuple_mulW l its.toArray n dd sl k t c0 c1 c2 c3 c4 (by rw [size_rep, List.size_toArray]; exact flen2)) ⟨ho, ?_⟩⟩)
      rw [size_rep]
      refine ⟨.ref s.heap.objs.size, _, I.laid (t' := s.toks) (o := .tup (List.replicate k.toNat xs).flatten) (fun b ob q => Heap.get?_push_of_some _ q) (Nat.le_refl _) ?_, rfl, q2 hsame _ (I.hok.fresh (Nat.le_refl _))⟩
      exact ⟨flen, _, r.rep k.toNat, IsTup.new _ _⟩
/-- a * b: numbers; a tuple, a list some times -/
def repOk (xs : List D) (k : Int) : Prop := -(2 ^ 63) ≤ k ∧ k < 2 ^ 63 ∧ xs.length * k.toNat ≤ sizeLine
def mulR : D → D → R D
  | .int i, .int j => bd (req (mulOk i j)) fun _ => ok (.int (i * j))
  | .tuple xs, .int k => bd (req (repOk xs k)) fun _ => ok (.tuple (List.replicate k.toNat xs).flatten)
  | .list xs, .int k => bd (req (repOk xs k)) fun _ => ok (.list (List.replicate k.toNat xs).flatten)
  | _, _ => fail
theorem DqAll.rep {K : PySem.W.Frag} {G : Hp} {vs : List V} {ds : List D} (h : DqAll K G vs ds) : ∀ k : Nat, DqAll K G (List.replicate k vs).flatten (List.replicate k ds).flatten
  | 0 => .nil
  | k + 1 => by
    rw [List.replicate_succ, List.replicate_succ, List.flatten_cons, List.flatten_cons]
    exact h.append (DqAll.rep h k)
theorem bop_mulA : Bop X.K (fun x y H Q => (rI CMul (fun i j => .int (i * j)) x y H Q ∨ rI CMulW (fun i j => .int (i * j)) x y H Q) ∨ (rRepA X.K x y H Q ∨ rRep x y H Q)) mulR := by
  intro c G H x y d e post Q w b1 b2 hp q
  match d, e, hp with
  | .int i, .int j, hp => exact .inl (bop_mul (X := X) c G H x y (.int i) (.int j) post Q w b1 b2 hp q)
  | .tuple xs, .int k, hp =>
    obtain ⟨t1, vs, rfl, s1, k1⟩ := b1.tup
    obtain ⟨hs, hp⟩ := hp
    refine .inr (.inl ⟨t1, k, vs, rfl, b2.int, sqT_mono w.sub s1, hs.1, hs.2.1, by rw [k1.length]; exact hs.2.2, fun h => ?_, fun _ p np => ?_⟩)
    · have e0 : (List.replicate k.toNat xs).flatten = xs := by
        rcases h with h | h
        · subst h; cases k1
          cases k.toNat <;> simp [List.replicate_succ]
        · subst h; simp
      have hp2 : post (.tuple xs) := by rw [← e0]; exact hp
      exact q _ hp2 _ G H .refl w (.tup s1 k1)
    · obtain ⟨w1, e1⟩ := w.newF np (.tup (List.replicate k.toNat vs).flatten)
      exact q _ hp _ _ _ e1 w1 (.tup (.of upd_same) ((k1.mono e1.g).rep _))
  | .list xs, .int k, hp =>
    obtain ⟨t1, vs, rfl, s1, k1, _⟩ := b1.lst w
    obtain ⟨hs, hp⟩ := hp
    refine .inr (.inr ⟨t1, k, vs, rfl, b2.int, s1, hs.1, hs.2.1, by rw [k1.length]; exact hs.2.2, fun p np => ?_⟩)
    obtain ⟨w1, e1⟩ := w.newF np (.lst (List.replicate k.toNat vs).flatten)
    exact q _ hp _ _ _ e1 w1 (.lst upd_same ((k1.mono e1.g).rep _))
theorem oMul {a b : Expr} {pos : Pos} {f g : List Sl → R D} (ha : PE X a (tB X.K f)) (hb : PE X b (tB X.K g)) : PE X (.BinOp a .Mult b pos) (tP X.K (m2 f g mulR)) := pOp ((op_mul.or op_mulW).or (op_repA.or op_rep)) bop_mulA ha hb
/-! ### str(n) -/
def strR : List D → R D
  | [.int i] => bd (req (i.natAbs.log2 < 1920)) fun _ => ok (.str (toString i))
  | _ => fail
theorem kStr : CalQ X (.type "str") strR := ⟨_, call_str_int, by
  intro c G H vs ds post Q w bs hp q
  match ds, bs, hp with
  | [.int i], bs, hp =>
    obtain ⟨v, rfl, b⟩ := bs.one
    rw [b.int]
    exact ⟨_, rfl, hp.1, q _ hp.2 _ G H .refl w (.str _)⟩⟩
end
end Pu

namespace Pu
open PySem PySem.Spec PyProof.Rows L2
variable [Tb]
/-! ### the law's draws -/
def drawM : List D → R D
  | [.int n] => bd (req (0 < n ∧ n < 1073741824)) fun _ => fun post => ∀ d : Int, 0 ≤ d → d < n → post (.int d)
  | _ => fail
theorem drawM_inv {ds : List D} {post : D → Prop} (h : drawM ds post) : ∃ n : Int, ds = [.int n] ∧ 0 < n ∧ n < 1073741824 ∧ ∀ d : Int, 0 ≤ d → d < n → post (.int d) := by
  match ds, h with
  | [.int n], h => exact ⟨n, rfl, h.1.1, h.1.2, h.2⟩
/-- the box as it stands: two numbers -/
structure BxAt (H : Hp) (b c : Addr) (ns : List Int) (n s : Int) : Prop where
  ne : b ≠ c
  hb : H b = some (.lst [.ref c, .int n, .int s])
  hc : H c = some (.lst (ns.map V.int))
/-- but for the box and its cells nothing is changed -/
def Only2 (b c : Addr) (H H' : Hp) : Prop := ∀ a, a ≠ b → a ≠ c → H' a = H a
theorem Only2.refl {b c : Addr} {H : Hp} : Only2 b c H H := fun _ _ _ => rfl
theorem Only2.trans {b c : Addr} {H H1 H2 : Hp} (x : Only2 b c H H1) (y : Only2 b c H1 H2) : Only2 b c H H2 := fun a h1 h2 => (y a h1 h2).trans (x a h1 h2)
theorem Only2.upd1 {b c : Addr} {H : Hp} {o : HO} : Only2 b c H (upd H b o) := fun a h _ => upd_ne h
theorem Only2.upd2 {b c : Addr} {H : Hp} {o : HO} : Only2 b c H (upd H c o) := fun a _ h => upd_ne h
theorem BxAt.setB {H : Hp} {b c : Addr} {ns : List Int} {n s n' s' : Int} (x : BxAt H b c ns n s) : BxAt (upd H b (.lst [.ref c, .int n', .int s'])) b c ns n' s' := ⟨x.ne, upd_same, by rw [upd_ne x.ne.symm]; exact x.hc⟩
theorem BxAt.setC {H : Hp} {b c : Addr} {ns ns' : List Int} {n s : Int} (x : BxAt H b c ns n s) : BxAt (upd H c (.lst (ns'.map V.int))) b c ns' n s := ⟨x.ne, by rw [upd_ne x.ne]; exact x.hb, upd_same⟩
/-- what _law_load promises -/
def spLoad : Sp := fun vs H Q _ => ∃ (b c : Addr) (ns : List Int) (n s : Int), vs = [.ref b] ∧ BxAt H b c ns n s ∧ ∀ (r : Int) H' ns' n' s', ns'.length ≤ ns.length → BxAt H' b c ns' n' s' → Only2 b c H H' → Q (.int r) H'
/-- what stands behind the cell's part -/
def tLoad2 (b c : Addr) (m : Nat) (H0 : Hp) (x1 : Nat) : TS := fun D σ H => ∃ (ns : List Int) (n s : Int), σ[0]? = some (some (.ref b)) ∧ BxAt H b c ns n s ∧ ns.length ≤ m ∧ Only2 b c H0 H ∧ σ.length = 6 ∧
  ∀ (r : Int) H' ns' n' s', ns'.length ≤ m → BxAt H' b c ns' n' s' → Only2 b c H0 H' → D.rt (.int r) H'
/-- the tables stay when the box alone is changed -/
theorem tabs2 {k : Nat} {b c : Addr} {H H' : Hp} (h : (Ef.bx k b c).inv H) (o : Only2 b c H H') : LamX.Tabs Tb.T H' := by
  obtain ⟨⟨_, ns, is, _, _, _, hb, hc⟩, ht⟩ := h
  intro p hp
  obtain ⟨ps, h1, h2, h3⟩ := ht p hp
  have ne : ∀ a xs, H a = some (.lst xs) → p.1 ≠ a := fun a xs e z => by rw [← z, h1] at e; cases e
  refine ⟨ps, (o _ (ne _ _ hb) (ne _ _ hc)).trans h1, h2, fun pos cv e => ?_⟩
  obtain ⟨d, e1, e2⟩ := h3 pos cv e
  have nd : ∀ a xs, H a = some (.lst xs) → d ≠ a := fun a xs e z => by
    rw [← z, e2] at e; exact lst_code (Option.some.inj e).symm
  exact ⟨d, e1, (o _ (nd _ _ hb) (nd _ _ hc)).trans e2⟩
/-- .. of the data's side: a draw -/
theorem draw_ext {k : Nat} {b c : Addr} {G H H' : Hp} {ns ns' : List Int} {n s n' s' : Int} (w : W0 (.bx 2 b c) G H) (o : Only2 b c H H') (x : BxAt H' b c ns' n' s') (hl : ns'.length ≤ 1000) : W0 (.bx 2 b c) G H' ∧ Ext (.bx 2 b c) G H G H' := by
  have hv : ∀ p, ¬ (Ef.bx 2 b c).vol p → H' p = H p := fun p h => o p (fun e => h (.inl (.inl e))) (fun e => h (.inl (.inr e)))
  refine ⟨⟨fun p u e => ?_, w.vol, ⟨⟨x.ne, ns', [n', s'], rfl, trivial, hl, x.hb, x.hc⟩, tabs2 w.inv o⟩⟩, ⟨fun _ _ e => e, fun p u e v => by rw [hv p v]; exact e, fun _ _ _ _ e => e⟩⟩
  have nv : ¬ (Ef.bx 2 b c).vol p := fun v => by rw [w.vol p v] at e; cases e
  rw [hv p nv]; exact w.sub p u e
/-- a def that draws: from the box's own promise to that over data -/
def spDraw0 : Sp := fun vs H Q _ => ∃ (b c : Addr) (ns : List Int) (n s m : Int), vs = [.ref b, .int m] ∧ BxAt H b c ns n s ∧ 0 < m ∧ m < 1073741824 ∧ ∀ (r : Int) H' ns' n' s', 0 ≤ r → r < m → ns'.length ≤ ns.length → BxAt H' b c ns' n' s' → Only2 b c H H' → Q (.int r) H'
theorem spDraw_of {K : PySem.W.Frag} {vs : List V} {H : Hp} {Q : VK} {E : XK} (h : spX K 2 1 drawM vs H Q E) : spDraw0 vs H Q E := by
  obtain ⟨E, G, bv, vs', ds, post, rfl, hbx, w, hd, hl, hm, q⟩ := h
  obtain ⟨m, rfl, h0, h1, hp⟩ := drawM_inv hm
  cases E with
  | no => exact hbx.elim
  | bx k b c =>
    obtain ⟨rfl, rfl⟩ := hbx
    obtain ⟨⟨ne, ns, is, hi, _, hns, hb, hc⟩, _⟩ := w.inv
    match is, hi, hb with
    | [n, s], _, hb =>
      cases hd with
      | cons d1 d2 =>
        cases d1; cases d2
        refine ⟨b, c, ns, n, s, m, rfl, ⟨ne, hb, hc⟩, h0, h1, fun r H' ns' n' s' hr0 hr1 hl' x o => ?_⟩
        obtain ⟨w', e'⟩ := draw_ext (k := 2) (ns := ns) (n := n) (s := s) w o x (by omega)
        exact q _ (hp r hr0 hr1) _ G H' e' w' (.int _)
/-- what _law_box promises -/
def spBox (K : PySem.W.Frag) : Sp := fun vs H Q _ => ∃ (a : Addr) (ns : List Int), vs = [.ref a] ∧ SqL K H a (ns.map V.int) ∧ ns.length ≤ 63 ∧ ∀ b c H' ns' n s, Same H H' → H b = none → H c = none → BxAt H' b c ns' n s → ns'.length ≤ 1000 → Q (.ref b) H'
/-- what the law itself promises -/
def spLaw (K : PySem.W.Frag) : Sp := fun vs H Q _ => ∃ (a : Addr) (ns : List Int), vs = [.ref a] ∧ SqL K H a (ns.map V.int) ∧ ns.length ≤ 63 ∧ LamX.Tabs Tb.T H ∧ ∀ H', Q (.bl true) H'
/-- behind the box's making: all the rest is data -/
theorem law_rest {K : PySem.W.Frag} {g : List Sl → R Out} {n : Nat} {Q : VK} {H' : Hp} {b c : Addr} {ns : List Int} {k s : Int} {v : V} (hg : g (.un :: .box 2 :: List.replicate n .un) fun o => o = .rt (.bool true)) (hT : LamX.Tabs Tb.T H') (x : BxAt H' b c ns k s) (hl : ns.length ≤ 1000) (q : ∀ H', Q (.bl true) H') {D : Ends} (hD : D.rt = Q) :
    tS K g D (some v :: some (.ref b) :: List.replicate n none) H' := by
  refine ⟨⟨.bx 2 b c, fun _ => none, H'⟩, fun _ => none, _, _, ⟨⟨fun _ _ e => (nomatch e), fun _ _ => rfl, ⟨⟨x.ne, ns, [k, s], rfl, trivial, hl, x.hb, x.hc⟩, hT⟩⟩, .refl⟩, ⟨by simp, fun i y h => ?_, fun i j ds es u h1 _ k1 => ?_⟩, hg, fun o ho => ?_⟩
  · match i, h with
    | 0, h => exact .inl (Option.some.inj h).symm
    | 1, h => cases h; exact .inr ⟨.ref b, rfl, rfl, rfl⟩
    | i + 2, h =>
      have h' : (List.replicate n Sl.un)[i]? = some y := h
      rw [List.getElem?_replicate] at h'
      split at h'
      · cases h'; exact .inl rfl
      · cases h'
  · exfalso
    match i, h1 with
    | 0, h => cases h; cases k1
    | 1, h => cases h; cases k1
    | i + 2, h =>
      have h' : (List.replicate n Sl.un)[i]? = some ds := h
      rw [List.getElem?_replicate] at h'
      split at h'
      · cases h'; cases k1
      · cases h'
  · subst ho
    intro v G' H2 l w k
    rw [hD]
    cases k
    exact q H2
end Pu

namespace Pu
open PySem PySem.Spec PyProof.Rows L2
variable [Tb]
/-! ### sorted(xs) -/
def dLe (a b : D) : Bool := !W.dataLt b a
structure SortOk (ds : List D) : Prop where
  al : W.AllAlike ds
  so : W.Sortable ds ∨ (ds.length ≤ 1 ∧ ∀ d ∈ ds, d ≠ .none) ∨ ∃ r, ds = .tuple [] :: r ∧ ∀ d ∈ r, ∃ xs, d = .tuple xs
  dp : ∀ d ∈ ds, d.depth ≤ 60
  len : ds.length ≤ sizeLine
def srtV (ds : List D) : R (List D) := bd (req (SortOk ds)) fun _ => ok (ds.mergeSort dLe)
def sortedR : List D → R (List D)
  | [.list xs] => srtV xs
  | [.tuple xs] => srtV xs
  | _ => fail
section
variable {X : Cx}
def srtVs (vs : List V) (ds : List D) : List V := ((vs.zip ds).mergeSort (W.dataLe false (fun b : V × D => b.2))).map (·.1)
def rSortedD (K : PySem.W.Frag) : List V → Hp → VK → Prop := fun xs H Q => ∃ (p : Addr) (vs : List V) (ds : List D), xs = [V.ref p] ∧ (H p = some (.lst vs) ∨ SqT K H p vs) ∧ DqAll K H vs ds ∧ SortOk ds ∧
  ∀ n, H n = none → Q (.ref n) (upd H n (.lst (srtVs vs ds)))
theorem srt_each {K : PySem.W.Frag} {H : Hp} : ∀ {vs : List V} {ds : List D} {us : List Value}, DqAll K H vs ds → Vals vs us → W.EachIs (fun u (b : V × D) => RelV b.1 u) us (vs.zip ds)
  | _, _, _, .nil, r => by cases r; exact .nil
  | _, _, _, .cons k kr, r => by
    cases r with | cons r rr => exact .cons r (srt_each kr rr)
theorem srt_vals : ∀ {bs : List (V × D)} {us : List Value}, W.EachIs (fun u (b : V × D) => RelV b.1 u) us bs → Vals (bs.map (·.1)) us
  | _, _, .nil => .nil
  | _, _, .cons r e => .cons r (srt_vals e)
theorem srt_snd {K : PySem.W.Frag} {H : Hp} : ∀ {vs : List V} {ds : List D}, DqAll K H vs ds → (vs.zip ds).map (·.2) = ds ∧ ∀ b ∈ vs.zip ds, Dq K H b.1 b.2
  | _, _, .nil => ⟨rfl, fun b h => by cases h⟩
  | _, _, .cons k kr => by
    obtain ⟨h1, h2⟩ := srt_snd kr
    refine ⟨by rw [List.zip_cons_cons, List.map_cons, h1], fun b hb => ?_⟩
    rw [List.zip_cons_cons] at hb
    rcases List.mem_cons.mp hb with rfl | hb
    · exact k
    · exact h2 b hb
theorem srt_dq {K : PySem.W.Frag} {H : Hp} : ∀ {bs : List (V × D)}, (∀ b ∈ bs, Dq K H b.1 b.2) → DqAll K H (bs.map (·.1)) (bs.map (·.2))
  | [], _ => .nil
  | b :: bs, h => .cons (h b List.mem_cons_self) (srt_dq fun c hc => h c (List.mem_cons_of_mem _ hc))
theorem DqAll.srt {K : PySem.W.Frag} {G : Hp} {vs : List V} {ds : List D} (k : DqAll K G vs ds) : DqAll K G (srtVs vs ds) (ds.mergeSort dLe) := by
  obtain ⟨h1, h2⟩ := srt_snd k
  have hperm := List.mergeSort_perm (vs.zip ds) (W.dataLe false (fun b : V × D => b.2))
  have hmap : ((vs.zip ds).mergeSort (W.dataLe false (fun b : V × D => b.2))).map (·.2) = ds.mergeSort dLe := by
    rw [List.map_mergeSort (r := W.dataLe false (fun b : V × D => b.2)) (s := dLe) (f := fun b : V × D => b.2) (fun a _ b _ => rfl), h1]
  have hdq := srt_dq (K := K) (H := G) (bs := (vs.zip ds).mergeSort (W.dataLe false (fun b : V × D => b.2))) fun b hb => h2 b (hperm.mem_iff.mp hb)
  rw [hmap] at hdq
  exact hdq
theorem srt_reads {s : Shared} : ∀ {ds : List D} {us : List Value} {bs : List (V × D)} {as : List Addr}, bs.map (·.2) = ds → ReadsAll s.heap us ds as → W.EachIs (fun u (b : V × D) => ∃ as, Reads s.heap u b.2 as) us bs
  | _, _, bs, _, e, r => by subst e; exact W.readsAll_each (fun b : V × D => b.2) r
/-- one item alone is in order, whatever it is -/
theorem sortsAt_one {prog : Program} {w : World} {A : Around} {s : Shared} {vs : List Value} {ds : List D} (e : W.EachIs (fun v d => ∃ as, Reads s.heap v d as) vs ds) (hal : W.AllAlike ds) (hn : ∀ d ∈ ds, d ≠ .none) (h1 : vs.length ≤ 1) (hu : ∀ d ∈ ds, A.units + d.depth < cLine) : W.SortsAt prog w A s (W.dataKind s.heap ds) vs := by
  refine ⟨fun v hv => ?_, general', ?_, fun h2 => absurd h2 (by omega)⟩
  · obtain ⟨d, hd, as, r⟩ := e.left v hv
    exact ⟨_, W.dataKind_some hal hd r⟩
  · intro E x y a b Q ha hb hq
    obtain ⟨d, as, hd, ra, rfl⟩ := W.dataKind_inv ha
    obtain ⟨d', as', hd', rb, rfl⟩ := W.dataKind_inv hb
    exact W.oneLt_alike (f := false) (fun h => by cases h) ra rb (hal d hd d' hd') (hn d hd) (Nat.lt_of_le_of_lt (Nat.add_le_add_left (Nat.min_le_left _ _) _) (hu d hd)) hq
open PySem.SeqAt in
theorem call_tuple_lt {prog : Program} {w : World} {A : Around} {s : Shared} {E : Value → Shared → Prop} {Q : Value → Shared → Prop} {l b : Addr} {items items2 : Array Value} {e r : Nat → Bool} (hl : s.heap.IsTuple l items) (hb : s.heap.IsTuple b items2)
    (he : ∀ j (h1 : j < items.size) (h2 : j < items2.size), EqAt A.in1 s items[j] items2[j] (e j)) (hr : ∀ j (h1 : j < items.size) (h2 : j < items2.size), e j = false → RcLt A.in1 s items[j] items2[j] (r j))
    (h : Q (.bool (firstLt e r (decide (items.size < items2.size)) (List.range (min items.size items2.size)))) s) : wpAny (model prog w) A (PySem.call (.builtin "tuple.__lt__") [.ref l, .ref b]) Q E s := by
  obtain ⟨⟨cls, dd, data, sl⟩, ho, hc, n, hd⟩ := id hl
  obtain ⟨⟨cls2, dd2, data2, sl2⟩, ho2, hc2, n2, hd2⟩ := id hb
  simp only at hc hd hc2 hd2
  subst hc hd hc2 hd2
  exact call_meets F.slot_tuple_lt ⟨_, ho, rfl⟩ F.entry_tuple_lt (F.args_tuple_lt_2 _ _) (tuple_ltAt l b items items2 n n2 dd dd2 sl sl2 e r) ⟨ho, ho2, he, hr, h⟩
open PySem.SeqAt PySem.W in
theorem oneLt_tuples {prog : Program} {w : World} {A : Around} {s : Shared} {E : Value → Shared → Prop} {xs ys : List D} {a b : Value} {as bs : List Addr} {Q : Bool → Shared → Prop} (ra : Reads s.heap a (.tuple xs) as) (rb : Reads s.heap b (.tuple ys) bs) (hal : alikeAll xs ys = true)
    (hu : A.units + min (PyData.depth (.tuple xs)) (PyData.depth (.tuple ys)) < cLine) (hq : Q (dataLt (.tuple xs) (.tuple ys)) s) : wpAny (model prog w) A (oneLt' true a b) Q E s := by
  cases ra with
  | @tuple l o vs n _ as₁ h1 h2 h3 h4 =>
    cases rb with
    | @tuple l' o' vs' n' _ bs₁ k1 k2 k3 k4 =>
      have n1 : vs.size = xs.length := by simpa using ReadsAll.length _ _ _ h4
      have n2 : vs'.size = ys.length := by simpa using ReadsAll.length _ _ _ k4
      rw [dataLt_tuple, ← firstLt_toks xs ys hal, ← n1, ← n2] at hq
      rw [oneLt'_eq]
      simp only [if_true]
      refine wpAny_bind (wpAny_cRoomFor (room_here hu) ?_)
      refine wpAny_bind (wpAny_callSpecialIfBound?_slot (T := "tuple") ⟨_, h1, h2⟩ F.slot_tuple_lt (call_tuple_lt (e := pairEq xs ys) (r := fun j => dataLt (xs.getD j .none) (ys.getD j .none)) ⟨_, h1, h2, _, h3⟩ ⟨_, k1, k2, _, k3⟩ (fun j j1 j2 => ?_) (fun j j1 j2 hj => ?_) ?_))
      · have := eqAt_alikeAll xs ys A.in1 s vs.toList vs'.toList _ _ h4 k4 hal (room_in hu) j (by simpa using j1) (by simpa using j2)
        simpa using this
      · have := rcLt_alikeAll xs ys A.in1 s vs.toList vs'.toList _ _ h4 k4 hal (room_in hu) j (by simpa using j1) (by simpa using j2) hj
        simpa using this
      · exact wpAny_truthy_bool hq
/-- the first things of tuples -/
theorem firsts_any {M : Model} {A : Around} {s : Shared} {E : Value → Shared → Prop} : ∀ {vs : List Value} {ds : List D} {Q : List (Option Value) → Shared → Prop}, W.EachIs (fun v d => ∃ as, Reads s.heap v d as) vs ds → (∀ d ∈ ds, ∃ xs, d = .tuple xs) →
    (∀ fs : List (Option Value), (∀ r, ds = .tuple [] :: r → fs.head? = some none) → Q fs s) → wpAny M A (vs.mapM firstOfTuple') Q E s
  | _, _, Q, .nil, _, h => by rw [List.mapM_nil]; exact wpAny_pure (h [] fun r e => by cases e)
  | v :: vs, d :: ds, Q, .cons ⟨as, r⟩ t, ht, h => by
    obtain ⟨xs, rfl⟩ := ht d List.mem_cons_self
    cases r with
    | @tuple a o ws n _ _ h1 h2 h3 h4 =>
      rw [List.mapM_cons]
      refine wpAny_bind ?_
      rw [W.kas_first_eq]
      refine wpAny_bind (PySem.W.Looks.here (show PySem.W.Looks M s.heap (typeOf (.ref a)) o.cls from (PySem.W.Looks.ld h1).andThen .now) ?_)
      rw [h2, if_neg (by first | decide | simp)]
      refine wpAny_bind (listItems_at h1 h3 (wpAny_pure ?_))
      refine wpAny_bind (firsts_any t (fun d hd => ht d (List.mem_cons_of_mem _ hd)) fun fs _ => wpAny_pure (h _ fun r e => ?_))
      injection e with e1 e2
      injection e1 with e1
      subst e1
      have : ws.toList = [] := by cases hw : ws.toList with
        | nil => rfl
        | cons y l => rw [hw] at h4; cases h4
      have e0 : ws = #[] := by cases ws; simp at this; subst this; rfl
      rw [e0]; rfl
/-- tuples, an empty one first -/
theorem sortsAt_nil {prog : Program} {w : World} {A : Around} {s : Shared} {vs : List Value} {r : List D} (e : W.EachIs (fun v d => ∃ as, Reads s.heap v d as) vs (.tuple [] :: r)) (hal : W.AllAlike (.tuple [] :: r)) (ht : ∀ d ∈ r, ∃ xs, d = .tuple xs) (hu : ∀ d ∈ (.tuple [] :: r : List D), A.units + d.depth < cLine) : W.SortsAt prog w A s (W.dataKind s.heap (.tuple [] :: r)) vs := by
  have ht' : ∀ d ∈ (.tuple [] :: r : List D), ∃ xs, d = .tuple xs := fun d hd => by
    rcases List.mem_cons.mp hd with rfl | hd
    · exact ⟨[], rfl⟩
    · exact ht d hd
  refine ⟨fun v hv => ?_, oneType', ?_, fun h2 E Q hq => ?_⟩
  · obtain ⟨d, hd, as, r⟩ := e.left v hv
    exact ⟨_, W.dataKind_some hal hd r⟩
  · intro E x y a b Q ha hb hq
    obtain ⟨d, as, hd, ra, rfl⟩ := W.dataKind_inv ha
    obtain ⟨d', as', hd', rb, rfl⟩ := W.dataKind_inv hb
    obtain ⟨xs, rfl⟩ := ht' d hd
    obtain ⟨ys, rfl⟩ := ht' d' hd'
    rw [keyLt'_oneType]
    exact oneLt_tuples ra rb (by simpa [W.alike] using hal _ hd _ hd') (Nat.lt_of_le_of_lt (Nat.add_le_add_left (Nat.min_le_left _ _) _) (hu _ hd)) hq
  · rw [keyKind'_eq, List.mapM_toArray, map_eq_pure_bind]
    refine wpAny_bind (wpAny_bind (firsts_any e ht' fun fs hf => wpAny_pure ?_))
    have hf := hf r rfl
    obtain ⟨fs', rfl⟩ : ∃ l, fs = none :: l := by
      cases fs with
      | nil => cases hf
      | cons x l => simp at hf; subst hf; exact ⟨l, rfl⟩
    rw [if_neg (by simp), if_neg (by simp)]
    rw [oneTypeOnly'_eq, List.mapM_toArray, map_eq_pure_bind]
    refine wpAny_bind (wpAny_bind (wpAny_bind (W.kas_mapM (r := Value.type "tuple") _ (fun v hv Q' hq => ?_) (wpAny_pure ?_))))
    · obtain ⟨d, hd, as, rr⟩ := e.left v hv
      obtain ⟨xs, rfl⟩ := ht' d hd
      exact (W.looks_reads rr).here hq
    · obtain ⟨v1, vr, rfl⟩ : ∃ v1 vr, vs = v1 :: vr := by
        cases vs with
        | nil => simp at h2
        | cons v l => exact ⟨v, l, rfl⟩
      have hall : ((List.map (fun _ => Value.type "tuple") (v1 :: vr)).toArray.all fun x => x == Value.type "tuple") = true := by
        simp only [List.all_toArray, List.all_map, List.all_eq_true]
        intro _ _
        rfl
      have h0 : (List.map (fun _ => Value.type "tuple") (v1 :: vr)).toArray[0]? = some (Value.type "tuple") := by simp
      rw [h0]
      simp only [hall, if_true]
      exact wpAny_pure (wpAny_pure hq)
/-! sorted(a tuple) -/
section
open PySem PySem.Calls PySem.W PyProof.Rows
theorem collect_tuple {prog : Program} {w : World} {A : Around} {E : Value → Shared → Prop} {s : Shared} {l : Addr} {vs : List Value} {Q : List Value → Shared → Prop} (hl : IsTup s.heap l vs.toArray)
    (h : Q vs { s with heap := (s.heap.push (seqObj "list" #[] 0)).update s.heap.objs.size (Obj.mapSeq (· ++ vs.toArray)) }) (hsz : vs.length ≤ sizeLine) :
    wpAny (model prog w) A (collect (.ref l)) Q E s := by
  obtain ⟨o, ho, hc, n, hd⟩ := id hl
  unfold collect
  refine wpAny_bind (wpAny_runValue (codeAny_builtin entry_proto_collect' ?_))
  show wpAny _ _ (do again (.builtin "list.__iadd__" ⟨[← newList [], .ref l], []⟩)) _ _ s
  refine wpAny_bind (wpAny_newList (wpAny_pure ⟨Code.quiet_builtin _ (by decide +kernel), codeAny_builtin entry_list_iadd' ?_⟩))
  show wpAny _ _ (Builtin.List.listExtendWith (.ref s.heap.objs.size) (.ref l) (.ref s.heap.objs.size)) _ _ { s with heap := s.heap.push (seqObj "list" #[] 0) }
  unfold Builtin.List.listExtendWith
  have ho' : (s.heap.push (seqObj "list" #[] 0)).get? l = some o := Heap.get?_push_of_some _ ho
  refine wpAny_bind (wpAny_typeOf (T := "tuple") ⟨o, ho', hc⟩ ?_)
  have ht : (Value.type "tuple" == Value.type "tuple") = true := by rfl
  rw [if_pos (by rw [ht]; simp)]
  refine wpAny_bind (listItems_at ho' hd ?_)
  refine wpAny_bind (listItems_at (xs := #[]) (n := 0) (Heap.get?_push_size _ rfl) rfl ?_)
  rw [if_neg (by simp)]
  refine wpAny_bind (listUpdate_at (xs := #[]) (n := 0) (Heap.get?_push_size _ rfl) rfl ?_ (Nat.zero_le _) (by show (#[] ++ vs.toArray).size ≤ sizeLine + 1; simp only [Array.size_append, List.size_toArray, List.length_nil]; simp; omega))
  refine wpAny_pure ?_
  show wpAny (model prog w) A (do
      let o ← load s.heap.objs.size
      match o.data with
      | .seq xs _ => pure xs.toList
      | _ => unsupported "internal:collect") Q E { s with heap := (s.heap.push (seqObj "list" #[] 0)).update s.heap.objs.size (Obj.mapSeq (· ++ vs.toArray)) }
  refine wpAny_bind (wpAny_load (get?_update_seq (Heap.get?_push_size _ rfl) _) ?_)
  show wpAny _ _ (pure ((#[] : Array Value) ++ vs.toArray).toList) Q E _
  rw [show ((#[] : Array Value) ++ vs.toArray).toList = vs by simp]
  exact wpAny_pure h
theorem sorted_of_sortT {prog : Program} {w : World} {A : Around} {E : Value → Shared → Prop} {s : Shared} {l : Addr} {vs : List Value} {kw : List (Str × Value)} {Q : Value → Shared → Prop} (hl : IsTup s.heap l vs.toArray) (hL : vs.length ≤ sizeLine) (ha1 : argsOk "sorted" ⟨[.ref l], kw⟩) (ha2 : ∀ x, argsOk "list.sort" ⟨[.ref x], kw⟩)
    (body : ∀ E' : Value → Shared → Prop, wpAny (model prog w) A.in1.in1 (Builtin.«list.sort» ⟨[.ref (s.heap.objs.size + 1)], kw⟩) (fun f s' => f = .done (.ret .none) ∧ Q (.ref (s.heap.objs.size + 1)) s') E' { s with heap := copyHeap s.heap vs }) :
    wpAny (model prog w) A (PySem.call (.builtin "sorted") [.ref l] kw) Q E s := by
  refine call_function_entry_kw kind_sorted plain_sorted entry_sorted ha1 ?_
  unfold Builtin.«sorted»
  refine wpAny_bind (m := checkCount "sorted" 1 1 _) (wpAny_pure ?_)
  refine wpAny_bind (collect_tuple hl ?_ hL)
  refine wpAny_bind (wpAny_newList ?_ hL)
  have hsz : ((s.heap.push (seqObj "list" #[] 0)).update s.heap.objs.size (Obj.mapSeq (· ++ vs.toArray))).objs.size = s.heap.objs.size + 1 := by
    rw [Heap.size_update, size_push']
  show wpAny _ _ _ _ _ { s with heap := copyHeap s.heap vs }
  rw [hsz]
  refine wpAny_bind (wpAny_holding (wpAny_call_entry_kw slot_list_sort ⟨_, copyHeap_at s.heap vs, rfl⟩ entry_list_sort ?body (ha2 _)))
  case body =>
    show wpAny (model prog w) A.in1.in1 (Builtin.«list.sort» ⟨[.ref (s.heap.objs.size + 1)], kw⟩) _ _ _
    refine wpAny_mono (body _) (fun f s' hf => ?_) fun _ _ e => e
    obtain ⟨rfl, hq⟩ := hf
    exact ⟨_, rfl, wpAny_pure ⟨_, rfl, hq⟩⟩
theorem sorted_vals2 {prog : Program} {w : World} {A : Around} {E : Value → Shared → Prop} {s : Shared} {κ : PyProof.Rows.KeyKind} {l : Addr} {vs : List Value} {Q : Value → Shared → Prop} (hl : s.heap.IsList l vs.toArray ∨ IsTup s.heap l vs.toArray) (S : SortsAt prog w A.in1.in1 { s with heap := sortingHeap (copyHeap s.heap vs) (s.heap.objs.size + 1) vs } κ vs) (hL : vs.length ≤ sizeLine)
    (h : Q (.ref (s.heap.objs.size + 1)) { s with heap := sortedAll s.heap vs (sortVals κ false vs vs).toArray }) : wpAny (model prog w) A (PySem.call (.builtin "sorted") [.ref l]) Q E s := by
  rcases hl with hl | hl
  · exact sorted_vals hl S hL h
  · exact sorted_of_sortT hl hL (args_sorted1 _) (fun _ => args_list_sort _) fun _ => list_sort_vals (s := { s with heap := copyHeap s.heap vs }) (copyHeap_at s.heap vs) S hL ⟨rfl, h⟩
end
theorem sorted_dataQ {prog : Program} {w : World} {A : Around} {E : Value → Shared → Prop} {s : Shared} {β : Type} {vs : List Value} {bs : List β} {enc : β → D} {R : Value → β → Prop} {l : Addr} {Q : Value → Shared → Prop} (hl : s.heap.IsList l vs.toArray ∨ IsTup s.heap l vs.toArray) (e : W.EachIs R vs bs) (er : W.EachIs (fun v b => ∃ as, Reads s.heap v (enc b) as) vs bs) (hal : W.AllAlike (bs.map enc))
    (hk : W.Sortable (bs.map enc) ∨ (bs.length ≤ 1 ∧ ∀ d ∈ bs.map enc, d ≠ .none) ∨ ∃ r, bs.map enc = .tuple [] :: r ∧ ∀ d ∈ r, ∃ xs, d = .tuple xs) (hL : bs.length ≤ sizeLine) (hu : ∀ b, b ∈ bs → A.units + 2 + (enc b).depth < cLine) (h : ∀ out, out.length = bs.length → W.EachIs R out (bs.mergeSort (W.dataLe false enc)) → Q (.ref (s.heap.objs.size + 1)) { s with heap := sortedAll s.heap vs (List.toArray out) }) :
    wpAny (model prog w) A (PySem.call (.builtin "sorted") [.ref l]) Q E s := by
  have er' : W.EachIs (fun v b => ∃ as, Reads (W.sortingHeap (W.copyHeap s.heap vs) (s.heap.objs.size + 1) vs) v (enc b) as) vs bs := er.mono fun _ _ ⟨as, r⟩ => ⟨as, PyProof.Rows.Reads.keeps (fun _ _ => W.sorting_copy_old) r⟩
  have em := W.each_map (R := fun v d => ∃ as, Reads (W.sortingHeap (W.copyHeap s.heap vs) (s.heap.objs.size + 1) vs) v d as) enc er'
  rcases hk with hk | hk | ⟨r, hk, ht⟩
  · exact sorted_vals2 hl (W.SortsAt.data (s := { s with heap := W.sortingHeap (W.copyHeap s.heap vs) (s.heap.objs.size + 1) vs }) em hal hk (W.bound_map hu)) (by rw [e.length]; exact hL)
      (h _ (by rw [W.sortVals_length false rfl]; exact e.length) (W.sortVals_data false e er' hal))
  · exact sorted_vals2 hl (sortsAt_one (s := { s with heap := W.sortingHeap (W.copyHeap s.heap vs) (s.heap.objs.size + 1) vs }) em hal hk.2 (by rw [e.length]; exact hk.1) (W.bound_map hu)) (by rw [e.length]; exact hL)
      (h _ (by rw [W.sortVals_length false rfl]; exact e.length) (W.sortVals_data false e er' hal))
  · have sa : W.SortsAt prog w A.in1.in1 { s with heap := W.sortingHeap (W.copyHeap s.heap vs) (s.heap.objs.size + 1) vs } (W.dataKind (W.sortingHeap (W.copyHeap s.heap vs) (s.heap.objs.size + 1) vs) (bs.map enc)) vs := by
      have hb : ∀ d ∈ bs.map enc, A.in1.in1.units + d.depth < cLine := W.bound_map hu
      rw [hk] at em hal hb ⊢
      exact sortsAt_nil (s := { s with heap := W.sortingHeap (W.copyHeap s.heap vs) (s.heap.objs.size + 1) vs }) em hal ht hb
    exact sorted_vals2 hl sa (by rw [e.length]; exact hL)
      (h _ (by rw [W.sortVals_length false rfl]; exact e.length) (W.sortVals_data false e er' hal))
theorem call_sortedD (hu : X.A.units + 64 < cLine) : CallR X (.builtin "sorted") (rSortedD X.K) := by
  intro pins s σ H xs us Q I r h
  obtain ⟨p, vs, ds, rfl, hq, k, so, q⟩ := h
  cases r with | cons r rr =>
  cases rr; cases r
  obtain ⟨its, rv, pl, hz⟩ : ∃ its : List Value, Vals vs its ∧ (s.heap.IsList p its.toArray ∨ IsTup s.heap p its.toArray) ∧ vs.length ≤ sizeLine := by
    rcases hq with hq | hq
    · obtain ⟨its, rv, pl, hz⟩ := I.list (.of hq)
      exact ⟨its, rv, .inl pl.isList, hz⟩
    · obtain ⟨its, rv, pl, hz⟩ := I.tuple hq
      exact ⟨its, rv, .inr pl, hz⟩
  obtain ⟨as, ra⟩ := dqAll_reads I k rv
  obtain ⟨h1, h2⟩ := srt_snd k
  have hlen : (vs.zip ds).length = ds.length := by rw [← List.length_map (f := (·.2)), h1]
  refine sorted_dataQ (bs := vs.zip ds) (enc := fun b => b.2) (R := fun u b => RelV b.1 u) (vs := its) pl (srt_each k rv) (srt_reads h1 ra) (by rw [h1]; exact so.al) (by rw [h1, hlen]; exact so.so) (by rw [hlen]; exact so.len) (fun b hb => ?_) fun out hl he => ?_
  · have := so.dp b.2 (by rw [← h1]; exact List.mem_map_of_mem hb)
    omega
  · have hperm := List.mergeSort_perm (vs.zip ds) (W.dataLe false (fun b : V × D => b.2))
    obtain ⟨ep, he'⟩ := PyProof.Rows.sortedAll_at s.heap its out.toArray
    refine ⟨.ref _, upd H (s.heap.objs.size + 1) (.lst (srtVs vs ds)), I.laid (t' := s.toks) (fun _ _ => PyProof.Rows.sortedAll_old) (Nat.le_succ _) ⟨?_, out, ep, srt_vals he, he'⟩, rfl, q _ (I.hok.fresh (Nat.le_succ _))⟩
    show (((vs.zip ds).mergeSort _).map _).length ≤ sizeLine
    rw [List.length_map, hperm.length_eq, hlen]; exact so.len
theorem kSorted (hu : X.A.units + 64 < cLine) : CalF X (.builtin "sorted") sortedR := ⟨_, call_sortedD hu, by
  intro c G H vs ds post Q w bs hp q
  match ds, bs, hp with
  | [.list xs], bs, hp =>
    obtain ⟨v, rfl, b⟩ := bs.one
    obtain ⟨p, us, rfl, h1, h2, _⟩ := b.lst w.w
    exact ⟨p, us, xs, rfl, .inl h1, h2.mono w.w.sub, hp.1, fun n hn => fin_new w .refl hn h2.srt hp.2 q⟩
  | [.tuple xs], bs, hp =>
    obtain ⟨v, rfl, b⟩ := bs.one
    obtain ⟨p, us, rfl, h1, h2⟩ := b.tup
    exact ⟨p, us, xs, rfl, .inr (sqT_mono w.w.sub h1), h2.mono w.w.sub, hp.1, fun n hn => fin_new w .refl hn h2.srt hp.2 q⟩⟩
end
end Pu

namespace Pu
open PySem PySem.Spec PyProof.Rows L2
variable [Tb]
/-! ### zip, enumerate: walked -/
def zipD (xs ys : List D) : List D := List.zipWith (fun x y => .tuple [x, y]) xs ys
def zipR : List D → R (List D)
  | [.list xs, .list ys] => bd (req (xs.length ≤ sizeLine)) fun _ => ok (zipD xs ys)
  | [.tuple xs, .tuple ys] => bd (req (xs.length ≤ sizeLine)) fun _ => ok (zipD xs ys)
  | _ => fail
def enumD (xs : List D) : List D := xs.mapIdx fun i x => .tuple [.int (i : Int), x]
def enumR : List D → R (List D)
  | [.list xs] => bd (req (xs.length ≤ sizeLine)) fun _ => ok (enumD xs)
  | _ => fail
theorem zip_get {xs ys : List D} {i : Nat} {d : D} (h : (zipD xs ys)[i]? = some d) : ∃ x y, xs[i]? = some x ∧ ys[i]? = some y ∧ d = .tuple [x, y] := by
  unfold zipD at h
  rw [List.getElem?_zipWith] at h
  cases hx : xs[i]? with
  | none => rw [hx] at h; cases h
  | some x =>
    cases hy : ys[i]? with
    | none => rw [hx, hy] at h; cases h
    | some y => rw [hx, hy] at h; cases h; exact ⟨x, y, rfl, rfl, rfl⟩
theorem zip_len (xs ys : List D) : (zipD xs ys).length = min xs.length ys.length := by simp [zipD]
theorem enum_get {xs : List D} {i : Nat} {d : D} (h : (enumD xs)[i]? = some d) : ∃ x, xs[i]? = some x ∧ d = .tuple [.int (i : Int), x] := by
  unfold enumD at h
  rw [List.getElem?_mapIdx] at h
  cases hx : xs[i]? with
  | none => rw [hx] at h; cases h
  | some x => rw [hx] at h; cases h; exact ⟨x, rfl, rfl⟩
theorem enum_len (xs : List D) : (enumD xs).length = xs.length := by simp [enumD]
theorem pair_new {K : PySem.W.Frag} {c : Ct} {G H : Hp} {T : Addr} {v u : V} {x y : D} (w : W0 c.E G H) (n : H T = none) (k1 : Dq K G v x) (k2 : Dq K G u y) : ∃ G1, Ext c.E G H G1 (upd H T (.tup [v, u])) ∧ W0 c.E G1 (upd H T (.tup [v, u])) ∧ Dq K G1 (.ref T) (.tuple [x, y]) := by
  obtain ⟨w1, e1⟩ := w.newF n (.tup [v, u])
  exact ⟨_, e1, w1, .tup (.of upd_same) (.cons (k1.mono e1.g) (.cons (k2.mono e1.g) .nil))⟩
theorem wks_zipL {K : PySem.W.Frag} {c : Ct} {a b : Addr} {xs ys : List V} {ds es : List D} {Rel : Hp → Hp → Prop} (h : ∀ G H, Rel G H → W0 c.E G H → (SqL K H a xs ∧ SqL K H b ys) ∧ DqAll K G xs ds ∧ DqAll K G ys es) : Wks K c (Itz K a b) Rel (zipD ds es) := by
  intro i G H r w
  obtain ⟨⟨h1, h2⟩, k1, k2⟩ := h G H r w
  refine ⟨fun d hd => ?_, fun hl => ⟨xs, ys, h1, h2, by rw [zip_len, ← k1.length, ← k2.length] at hl; omega⟩⟩
  obtain ⟨x, y, e1, e2, rfl⟩ := zip_get hd
  obtain ⟨v, f1, d1⟩ := k1.get e1
  obtain ⟨u, f2, d2⟩ := k2.get e2
  refine ⟨⟨xs, ys, v, u, h1, h2, f1, f2⟩, fun z H1 yl => ?_⟩
  obtain ⟨T, v', u', rfl, n, rfl, g1, g2⟩ := yl
  obtain rfl : v' = v := Option.some.inj ((g1 _ h1).symm.trans f1)
  obtain rfl : u' = u := Option.some.inj ((g2 _ h2).symm.trans f2)
  exact pair_new w n d1 d2
theorem wks_zipT {K : PySem.W.Frag} {c : Ct} {a b : Addr} {xs ys : List V} {ds es : List D} {Rel : Hp → Hp → Prop} (h : ∀ G H, Rel G H → W0 c.E G H → (SqT K H a xs ∧ SqT K H b ys) ∧ DqAll K G xs ds ∧ DqAll K G ys es) : Wks K c (RZ.ItzT K a b) Rel (zipD ds es) := by
  intro i G H r w
  obtain ⟨⟨h1, h2⟩, k1, k2⟩ := h G H r w
  refine ⟨fun d hd => ?_, fun hl => ⟨xs, ys, h1, h2, by rw [zip_len, ← k1.length, ← k2.length] at hl; omega⟩⟩
  obtain ⟨x, y, e1, e2, rfl⟩ := zip_get hd
  obtain ⟨v, f1, d1⟩ := k1.get e1
  obtain ⟨u, f2, d2⟩ := k2.get e2
  refine ⟨⟨xs, ys, v, u, h1, h2, f1, f2⟩, fun z H1 yl => ?_⟩
  obtain ⟨T, v', u', rfl, n, rfl, g1, g2⟩ := yl
  obtain rfl : v' = v := Option.some.inj ((g1 _ h1).symm.trans f1)
  obtain rfl : u' = u := Option.some.inj ((g2 _ h2).symm.trans f2)
  exact pair_new w n d1 d2
theorem wks_enum {K : PySem.W.Frag} {c : Ct} {a : Addr} {xs : List V} {ds : List D} {Rel : Hp → Hp → Prop} (h : ∀ G H, Rel G H → W0 c.E G H → SqL K H a xs ∧ DqAll K G xs ds) : Wks K c (Ite K a) Rel (enumD ds) := by
  intro i G H r w
  obtain ⟨h1, k1⟩ := h G H r w
  refine ⟨fun d hd => ?_, fun hl => ⟨xs, h1, by rw [enum_len, ← k1.length] at hl; exact hl⟩⟩
  obtain ⟨x, e1, rfl⟩ := enum_get hd
  obtain ⟨v, f1, d1⟩ := k1.get e1
  refine ⟨⟨xs, v, h1, f1⟩, fun z H1 yl => ?_⟩
  obtain ⟨T, v', rfl, n, rfl, g1⟩ := yl
  obtain rfl : v' = v := Option.some.inj ((g1 _ h1).symm.trans f1)
  exact pair_new w n (.int _) d1
section
variable {X : Cx} {a b : Expr} {pos p tpos : Pos} {elts : List Expr} {kk : Nat}
theorem DqAll.two {K : PySem.W.Frag} {G : Hp} {vs : List V} {d e : D} (h : DqAll K G vs [d, e]) : ∃ v u, vs = [v, u] ∧ Dq K G v d ∧ Dq K G u e := by
  cases h with | cons h1 h => cases h with | cons h2 h => cases h; exact ⟨_, _, rfl, h1, h2⟩
theorem DqAll.one1 {K : PySem.W.Frag} {G : Hp} {vs : List V} {d : D} (h : DqAll K G vs [d]) : ∃ v, vs = [v] ∧ Dq K G v d := by
  cases h with | cons h1 h => cases h; exact ⟨_, rfl, h1⟩
theorem zip_le {xs ys : List D} (h : xs.length ≤ sizeLine) : (zipD xs ys).length ≤ sizeLine := by rw [zip_len]; omega
theorem enum_le {xs : List D} (h : xs.length ≤ sizeLine) : (enumD xs).length ≤ sizeLine := by rw [enum_len]; exact h
/-- zip of frozen lists or tuples: for a statement -/
theorem iZ {f : List Sl → R (List D)} (hm : X.mg "zip" = none) (ha : PA X [a, b] (tAF X.K f)) (hg : Gl X "zip" := by rfl) (hs : starEach [a, b] X.env = (false, eval a X.env) :: starEach [b] X.env := by rfl) (hpl : (backTo pos (starEach [b] X.env)).any (·.1) = false := by rfl) : PI X (.Tuple elts kk tpos) (.Call (.Name "zip" p) [a, b] [] pos) (tIs X.K (m1 f zipR)) :=
  PI.wk (RZ.pi_zipA hg hm ha hs hpl) fun σ H R' ⟨c, G, ρ, post, w, r, hf, q⟩ => ⟨c, G, ρ, _, w, r, hf, fun ds hds vs G1 H1 e1 w1 b1 => by
    match ds, b1, hds with
    | [.list xs, .list ys], b1, hds =>
      obtain ⟨v, u, rfl, k1, k2⟩ := b1.two
      cases k1 with
      | lst s1 q1 =>
        cases k2 with
        | lst s2 q2 => exact ⟨_, _, _, _, rfl, .inl ⟨.of (w1.sub _ _ s1), .of (w1.sub _ _ s2), q _ hds.2 (zip_le hds.1) _ G1 H1 e1 w1 (wks_zipL fun G2 H2 l w2 => ⟨⟨.of (w2.sub _ _ (l _ _ s1)), .of (w2.sub _ _ (l _ _ s2))⟩, q1.mono l, q2.mono l⟩)⟩⟩
    | [.tuple xs, .tuple ys], b1, hds =>
      obtain ⟨v, u, rfl, k1, k2⟩ := b1.two
      cases k1 with
      | tup s1 q1 =>
        cases k2 with
        | tup s2 q2 => exact ⟨_, _, _, _, rfl, .inr ⟨sqT_mono w1.sub s1, sqT_mono w1.sub s2, q _ hds.2 (zip_le hds.1) _ G1 H1 e1 w1 (wks_zipT fun G2 H2 l w2 => ⟨⟨sqT_mono w2.sub (sqD_mono l s1), sqT_mono w2.sub (sqD_mono l s2)⟩, q1.mono l, q2.mono l⟩)⟩⟩⟩
/-- .. looked at only: for a comprehension -/
theorem iZB {f : List Sl → R (List D)} (hm : X.mg "zip" = none) (ha : PA X [a, b] (tAB X.K f)) (hg : Gl X "zip" := by rfl) (hs : starEach [a, b] X.env = (false, eval a X.env) :: starEach [b] X.env := by rfl) (hpl : (backTo pos (starEach [b] X.env)).any (·.1) = false := by rfl) : PI X (.Tuple elts kk tpos) (.Call (.Name "zip" p) [a, b] [] pos) (tIw X.K (m1 f zipR)) :=
  PI.wk (RZ.pi_zipA hg hm ha hs hpl) fun σ H R' ⟨c, G, ρ, post, w, r, hf, q⟩ => ⟨c, G, ρ, _, w, r, hf, fun ds hds vs G1 H1 e1 w1 b1 => by
    match ds, b1, hds with
    | [.list xs, .list ys], b1, hds =>
      obtain ⟨v, u, rfl, k1, k2⟩ := b1.two
      obtain ⟨p1, vs1, rfl, s1, q1, n1⟩ := k1.lst w1
      obtain ⟨p2, vs2, rfl, s2, q2, n2⟩ := k2.lst w1
      exact ⟨_, _, _, _, rfl, .inl ⟨.of s1, .of s2, q _ hds.2 (zip_le hds.1) _ G1 H1 e1 w1 (wks_zipL fun G2 H2 l w2 => ⟨⟨.of (l.h _ _ s1 n1), .of (l.h _ _ s2 n2)⟩, q1.mono l.g, q2.mono l.g⟩)⟩⟩
    | [.tuple xs, .tuple ys], b1, hds =>
      obtain ⟨v, u, rfl, k1, k2⟩ := b1.two
      obtain ⟨p1, vs1, rfl, s1, q1⟩ := k1.tup
      obtain ⟨p2, vs2, rfl, s2, q2⟩ := k2.tup
      exact ⟨_, _, _, _, rfl, .inr ⟨sqT_mono w1.sub s1, sqT_mono w1.sub s2, q _ hds.2 (zip_le hds.1) _ G1 H1 e1 w1 (wks_zipT fun G2 H2 l w2 => ⟨⟨sqT_mono w2.sub (sqD_mono l.g s1), sqT_mono w2.sub (sqD_mono l.g s2)⟩, q1.mono l.g, q2.mono l.g⟩)⟩⟩⟩
/-- enumerate of a frozen list: for a statement -/
theorem iE {f : List Sl → R (List D)} (hm : X.mg "enumerate" = none) (ha : PA X [a] (tAF X.K f)) (hg : Gl X "enumerate" := by rfl) (hs : starEach [a] X.env = [(false, eval a X.env)] := by rfl) : PI X (.Tuple elts kk tpos) (.Call (.Name "enumerate" p) [a] [] pos) (tIs X.K (m1 f enumR)) :=
  PI.wk (pi_enum hg hm ha hs) fun σ H R' ⟨c, G, ρ, post, w, r, hf, q⟩ => ⟨c, G, ρ, _, w, r, hf, fun ds hds vs G1 H1 e1 w1 b1 => by
    match ds, b1, hds with
    | [.list xs], b1, hds =>
      obtain ⟨v, rfl, k1⟩ := b1.one1
      cases k1 with
      | lst s1 q1 => exact ⟨_, _, rfl, .of (w1.sub _ _ s1), q _ hds.2 (enum_le hds.1) _ G1 H1 e1 w1 (wks_enum fun G2 H2 l w2 => ⟨.of (w2.sub _ _ (l _ _ s1)), q1.mono l⟩)⟩⟩
/-- .. looked at only -/
theorem iEB {f : List Sl → R (List D)} (hm : X.mg "enumerate" = none) (ha : PA X [a] (tAB X.K f)) (hg : Gl X "enumerate" := by rfl) (hs : starEach [a] X.env = [(false, eval a X.env)] := by rfl) : PI X (.Tuple elts kk tpos) (.Call (.Name "enumerate" p) [a] [] pos) (tIw X.K (m1 f enumR)) :=
  PI.wk (pi_enum hg hm ha hs) fun σ H R' ⟨c, G, ρ, post, w, r, hf, q⟩ => ⟨c, G, ρ, _, w, r, hf, fun ds hds vs G1 H1 e1 w1 b1 => by
    match ds, b1, hds with
    | [.list xs], b1, hds =>
      obtain ⟨v, rfl, k1⟩ := b1.one
      obtain ⟨p1, vs1, rfl, s1, q1, n1⟩ := k1.lst w1
      exact ⟨_, _, rfl, .of s1, q _ hds.2 (enum_le hds.1) _ G1 H1 e1 w1 (wks_enum fun G2 H2 l w2 => ⟨.of (l.h _ _ s1 n1), q1.mono l.g⟩)⟩⟩
end
end Pu

namespace Pu
open PySem PySem.Spec PyProof.Rows L2
variable [Tb]
/-! ### tuple(range(..)), list(range(..)) -/
def rg1R : D → R (List D)
  | .int n => bd (req (rgOk 0 n)) fun _ => ok (rngD 0 n)
  | _ => fail
def rg2R : D → D → R (List D)
  | .int i, .int n => bd (req (rgOk i n)) fun _ => ok (rngD i n)
  | _, _ => fail
def tuF (g : List Sl → R (List D)) : List Sl → R D := fun ρ => bd (g ρ) fun ds => ok (.tuple ds)
theorem rgV_dq {K : PySem.W.Frag} {G : Hp} (i j : Int) : DqAll K G (rgV i j) (rngD i j) := by
  unfold rgV rngD
  generalize List.range (j - i).toNat = l
  induction l with
  | nil => exact .nil
  | cons x l ih => exact .cons (.int _) ih
section
variable {X : Cx} {a b : Expr} {pos p p2 pos2 : Pos}
theorem tupRg1 {f : List Sl → R D} (hm : X.mg "tuple" = none) (hm2 : X.mg "range" = none) (ha : PE X a (tB X.K f)) (hc : X.calm = true := by rfl) (hg : Gl X "tuple" := by rfl) (hg2 : Gl X "range" := by rfl) (na : starEach [.Call (.Name "range" p2) [a] [] pos2] X.env = (false, eval (.Call (.Name "range" p2) [a] [] pos2) X.env) :: starEach [] X.env := by rfl) (na2 : starEach [a] X.env = (false, eval a X.env) :: starEach [] X.env := by rfl) : PE X (.Call (.Name "tuple" p) [.Call (.Name "range" p2) [a] [] pos2] [] pos) (tP X.K (tuF (m1 f rg1R))) :=
  PE.wk (pe_tupRg hc hg hm (prg_1 hg2 hm2 ha na2) na) fun σ H Q ⟨c, G, ρ, post, w, r, hf, q⟩ => ⟨c, G, ρ, _, w, r, hf, fun d hd v G1 H1 e1 w1 b1 => by
    cases d <;> try exact hd.elim
    rw [b1.int]
    refine ⟨_, rfl, hd.1, fun n hn => ?_⟩
    obtain ⟨w4, e4⟩ := w1.newF hn (.tup (rgV 0 _))
    exact q _ hd.2 _ _ _ (e1.trans e4) w4 (.tup (.of upd_same) (rgV_dq _ _))⟩
theorem tupRg2 {f g : List Sl → R D} (hm : X.mg "tuple" = none) (hm2 : X.mg "range" = none) (ha : PE X a (tB X.K f)) (hb : PE X b (tB X.K g)) (hc : X.calm = true := by rfl) (hg : Gl X "tuple" := by rfl) (hg2 : Gl X "range" := by rfl) (na : starEach [.Call (.Name "range" p2) [a, b] [] pos2] X.env = (false, eval (.Call (.Name "range" p2) [a, b] [] pos2) X.env) :: starEach [] X.env := by rfl) (na2 : starEach [a, b] X.env = (false, eval a X.env) :: starEach [b] X.env := by rfl) (na3 : starEach [b] X.env = (false, eval b X.env) :: starEach [] X.env := by rfl) (hpl : (backTo pos2 (starEach [b] X.env)).any (·.1) = false := by rfl) : PE X (.Call (.Name "tuple" p) [.Call (.Name "range" p2) [a, b] [] pos2] [] pos) (tP X.K (tuF (m2 f g rg2R))) :=
  PE.wk (pe_tupRg hc hg hm (prg_2 hg2 hm2 ha hb na2 na3 (hp := hpl)) na) fun σ H Q ⟨c, G, ρ, post, w, r, hf, q⟩ => ⟨c, G, ρ, _, w, r, hf, fun d hd v G1 H1 e1 w1 b1 => ⟨c, G1, ρ, _, w.step w1 e1, r.ext e1, hd, fun e he u G2 H2 e2 w2 b2 => by
    have b1 := b1.ext e2
    cases d <;> cases e <;> try exact he.elim
    rw [b1.int, b2.int]
    refine ⟨_, _, rfl, rfl, he.1, fun n hn => ?_⟩
    obtain ⟨w4, e4⟩ := w2.newF hn (.tup (rgV _ _))
    exact q _ he.2 _ _ _ ((e1.trans e2).trans e4) w4 (.tup (.of upd_same) (rgV_dq _ _))⟩⟩
theorem lstRg1 {f : List Sl → R D} (hm : X.mg "list" = none) (hm2 : X.mg "range" = none) (ha : PE X a (tB X.K f)) (hc : X.calm = true := by rfl) (hg : Gl X "list" := by rfl) (hg2 : Gl X "range" := by rfl) (na : starEach [.Call (.Name "range" p2) [a] [] pos2] X.env = (false, eval (.Call (.Name "range" p2) [a] [] pos2) X.env) :: starEach [] X.env := by rfl) (na2 : starEach [a] X.env = (false, eval a X.env) :: starEach [] X.env := by rfl) : PE X (.Call (.Name "list" p) [.Call (.Name "range" p2) [a] [] pos2] [] pos) (tF X.K (m1 f rg1R)) :=
  PE.wk (pe_listRg hc hg hm (prg_1 hg2 hm2 ha na2) na) fun σ H Q ⟨c, G, ρ, post, w, r, hf, q⟩ => ⟨c, G, ρ, _, w, r, hf, fun d hd v G1 H1 e1 w1 b1 => by
    cases d <;> try exact hd.elim
    rw [b1.int]
    exact ⟨_, rfl, hd.1, fun n hn => fin_new (w.step w1 e1) e1 hn (rgV_dq _ _) hd.2 q⟩⟩
theorem lstRg2 {f g : List Sl → R D} (hm : X.mg "list" = none) (hm2 : X.mg "range" = none) (ha : PE X a (tB X.K f)) (hb : PE X b (tB X.K g)) (hc : X.calm = true := by rfl) (hg : Gl X "list" := by rfl) (hg2 : Gl X "range" := by rfl) (na : starEach [.Call (.Name "range" p2) [a, b] [] pos2] X.env = (false, eval (.Call (.Name "range" p2) [a, b] [] pos2) X.env) :: starEach [] X.env := by rfl) (na2 : starEach [a, b] X.env = (false, eval a X.env) :: starEach [b] X.env := by rfl) (na3 : starEach [b] X.env = (false, eval b X.env) :: starEach [] X.env := by rfl) (hpl : (backTo pos2 (starEach [b] X.env)).any (·.1) = false := by rfl) : PE X (.Call (.Name "list" p) [.Call (.Name "range" p2) [a, b] [] pos2] [] pos) (tF X.K (m2 f g rg2R)) :=
  PE.wk (pe_listRg hc hg hm (prg_2 hg2 hm2 ha hb na2 na3 (hp := hpl)) na) fun σ H Q ⟨c, G, ρ, post, w, r, hf, q⟩ => ⟨c, G, ρ, _, w, r, hf, fun d hd v G1 H1 e1 w1 b1 => ⟨c, G1, ρ, _, w.step w1 e1, r.ext e1, hd, fun e he u G2 H2 e2 w2 b2 => by
    have b1 := b1.ext e2
    have e12 := e1.trans e2
    cases d <;> cases e <;> try exact he.elim
    rw [b1.int, b2.int]
    exact ⟨_, _, rfl, rfl, he.1, fun n hn => fin_new (w.step w2 e12) e12 hn (rgV_dq _ _) he.2 q⟩⟩⟩
end
end Pu

namespace Pu
open PySem PySem.Spec PyProof.Rows L2
variable [Tb]
/-! ### comprehensions with two clauses -/
def noOwn (ρ : List Sl) : List Sl := ρ.map fun s => match s with | .own _ => .un | .od _ => .un | s => s
def ownFree (ρ : List Sl) : Bool := ρ.all fun s => match s with | .own _ => false | .od _ => false | _ => true
theorem RS.noOwn {K : PySem.W.Frag} {c : Ct} {G H : Hp} {σ : L2.St} {ρ : List Sl} (r : RS K c G H σ ρ) : RS K c G H σ (noOwn ρ) := by
  have key : ∀ (i : Nat) (x : Sl), (Pu.noOwn ρ)[i]? = some x → x.isOwn = false ∧ (x = .un ∨ ρ[i]? = some x) := by
    intro i x h
    unfold Pu.noOwn at h
    rw [List.getElem?_map] at h
    cases e : ρ[i]? with
    | none => rw [e] at h; cases h
    | some y =>
      rw [e] at h
      cases y <;> (cases h; exact ⟨rfl, (by first | exact .inl rfl | exact .inr rfl)⟩)
  refine ⟨by rw [r.len]; simp [Pu.noOwn], fun i x h => ?_, fun i j x y v h1 _ k _ _ _ => by (rw [(key i _ h1).1] at k; cases k)⟩
  rcases (key i x h).2 with h2 | h2
  · exact .inl h2
  · exact r.at_ i x h2
theorem RS.free {K : PySem.W.Frag} {c : Ct} {G H G' H' : Hp} {σ : L2.St} {ρ : List Sl} (r : RS K c G H σ ρ) (f : ownFree ρ = true) (l : Le G G') : RS K c G' H' σ ρ := by
  have key : ∀ (i : Nat) (x : Sl), ρ[i]? = some x → x.isOwn = false := by
    intro i x h
    have := List.all_eq_true.mp f _ (List.mem_of_getElem? h)
    cases x <;> first | rfl | cases this
  refine ⟨r.len, fun i x h => ?_, fun i j x y v h1 _ k _ _ _ => by (rw [key i _ h1] at k; cases k)⟩
  rcases r.at_ i x h with h2 | ⟨v, h2, h3⟩
  · exact .inl h2
  · refine .inr ⟨v, h2, ?_⟩
    cases x with
    | un => trivial
    | dat d => exact Dq.mono l h3
    | own ds => have := key i _ h; cases this
    | od ds => have := key i _ h; cases this
    | box k => exact h3
def inF (g : D → List Sl → R (List Sl)) (tt : List Sl → R Bool) (te : List Sl → R D) : List D → List Sl → List D → R (List D)
  | [], _, acc => ok acc
  | e :: es, ρ, acc => bd (g e ρ) fun ρ1 => bd (tt ρ1) fun b => if b = true then bd (te ρ1) fun y => bd (req (acc.length < sizeLine)) fun _ => inF g tt te es ρ (acc ++ [y]) else inF g tt te es ρ acc
def outF (vs1 : List Nat) (g : D → List Sl → R (List Sl)) (tt : List Sl → R Bool) (fi1 : List Sl → R (List D)) (g1 : D → List Sl → R (List Sl)) (tt1 : List Sl → R Bool) (te : List Sl → R D) : List D → List Sl → List D → R (List D)
  | [], _, acc => ok acc
  | d :: ds, ρ, acc => bd (g d ρ) fun ρ1 => bd (req (ownFree ρ1 = true)) fun _ => bd (tt ρ1) fun b => if b = true then bd (fi1 ρ1) fun es => bd (inF g1 tt1 te es (wipeS ρ1 vs1) acc) fun acc' => outF vs1 g tt fi1 g1 tt1 te ds ρ acc' else outF vs1 g tt fi1 g1 tt1 te ds ρ acc
def lc2M (vs vs1 : List Nat) (fi : List Sl → R (List D)) (g : D → List Sl → R (List Sl)) (tt : List Sl → R Bool) (fi1 : List Sl → R (List D)) (g1 : D → List Sl → R (List Sl)) (tt1 : List Sl → R Bool) (te : List Sl → R D) : List Sl → R (List D) := fun ρ => bd (fi ρ) fun ds => outF vs1 g tt fi1 g1 tt1 te ds (wipeS (noOwn ρ) vs) []
/-- the accumulator and the frozen part while the comprehension runs -/
structure Acc (K : PySem.W.Frag) (c : Ct) (G1 H1 : Hp) (D0 : Addr) (G H : Hp) (accd : List D) : Prop where
  ex : Ext c.E G1 (upd H1 D0 (.lst [])) G (upd H D0 (.lst []))
  w : W0 c.E G H
  at_ : ∃ acc, H D0 = some (.lst acc) ∧ DqAll K G acc accd
  gD : G D0 = none
theorem Acc.later {K : PySem.W.Frag} {c : Ct} {G1 H1 G H G6 H6 : Hp} {D0 : Addr} {accd : List D} (a : Acc K c G1 H1 D0 G H accd) (nv : ¬ c.E.vol D0) (e6 : Ext c.E G H G6 H6) (w6 : W0 c.E G6 H6) : Acc K c G1 H1 D0 G6 H6 accd := by
  obtain ⟨acc, hacc, kacc⟩ := a.at_
  refine ⟨a.ex.trans ⟨e6.g, fun p o hp v => ?_, fun p o hp v g0 => ?_⟩, w6, ⟨acc, e6.h _ _ hacc nv, kacc.mono e6.g⟩, e6.n _ _ hacc nv a.gD⟩
  · by_cases hpD : p = D0
    · subst hpD; rw [upd_same] at hp ⊢; exact hp
    · rw [upd_ne hpD] at hp ⊢; exact e6.h p o hp v
  · by_cases hpD : p = D0
    · subst hpD; exact e6.n _ _ hacc nv a.gD
    · rw [upd_ne hpD] at hp; exact e6.n p o hp v g0
theorem Acc.push {K : PySem.W.Frag} {c : Ct} {G1 H1 G H : Hp} {D0 : Addr} {accd : List D} (a : Acc K c G1 H1 D0 G H accd) (nv : ¬ c.E.vol D0) {v : V} {y : D} (k : Dq K G v y) : ∃ acc, H D0 = some (.lst acc) ∧ acc.length = accd.length ∧ Acc K c G1 H1 D0 G (upd H D0 (.lst (acc ++ [v]))) (accd ++ [y]) := by
  obtain ⟨acc, hacc, kacc⟩ := a.at_
  refine ⟨acc, hacc, kacc.length, ⟨by rw [upd_upd]; exact a.ex, ⟨fun p o hp => ?_, a.w.vol, Ef.loc a.w.inv (.lst hacc) fun p vp => ?_⟩, ⟨_, upd_same, kacc.append (.cons k .nil)⟩, a.gD⟩⟩
  · rw [upd_ne (by rintro rfl; rw [a.gD] at hp; cases hp)]; exact a.w.sub p o hp
  · rw [upd_ne (by rintro rfl; exact nv vp)]
theorem Acc.ext1 {K : PySem.W.Frag} {c : Ct} {G1 H1 G H : Hp} {D0 : Addr} {accd : List D} (a : Acc K c G1 H1 D0 G H accd) (hD : H1 D0 = none) : Ext c.E G1 H1 G H := by
  refine ⟨a.ex.g, fun p o hp v => ?_, fun p o hp v g0 => ?_⟩
  · have hne : p ≠ D0 := ne_of_none hp hD
    have := a.ex.h p o (by rw [upd_ne hne]; exact hp) v
    rw [upd_ne hne] at this; exact this
  · have hne : p ≠ D0 := ne_of_none hp hD
    exact a.ex.n p o (by rw [upd_ne hne]; exact hp) v g0
theorem lc2_of {K : PySem.W.Frag} {vs vs1 js js1 : List Nat} {fi fi1 : List Sl → R (List D)} {g g1 : D → List Sl → R (List Sl)} {tt tt1 : List Sl → R Bool} {te : List Sl → R D} (hjs : ∀ j ∈ js, j ∈ vs) (hjs1 : ∀ j ∈ js1, j ∈ vs1) {σ : L2.St} {H : Hp} {Q : VK}
    (q : tF K (lc2M vs vs1 fi g tt fi1 g1 tt1 te) σ H Q) : tLc2 (tIw K fi) (tG K js g) (tT K tt) (tIs K fi1) (tG K js1 g1) (tT K tt1) (tP K te) vs vs1 σ H Q := by
  obtain ⟨c, G, ρ, post, w, r, hf, q⟩ := q
  refine ⟨c, G, ρ, _, w, r, hf, fun ds hds hl J G1 H1 e1 w1 wk D0 hD => ?_⟩
  have wd1 := w.step w1 e1
  obtain ⟨wn, en, on⟩ := wd1.newO (K := K) (G0 := G) (H0 := H) (p := D0) hD (vs := []) (ds := []) .nil
  have nv : ¬ c.E.vol D0 := (w1.fresh hD).2
  have nD : H D0 = none := e1.none hD nv
  refine ⟨fun i m H' => i + m = ds.length ∧ ∃ G' accd, Acc K c G1 H1 D0 G' H' accd ∧ outF vs1 g tt fi1 g1 tt1 te (ds.drop i) (wipeS (noOwn ρ) vs) accd post,
    ⟨ds.length, by omega, G1, [], ⟨by rw [upd_upd]; exact .refl, wn, ⟨[], upd_same, .nil⟩, (w1.fresh hD).1⟩, by simpa using hds⟩, fun i m H' ⟨him, G', accd, ac, hlc⟩ => ?_⟩
  have extO : Ext c.E G H G' H' := e1.trans (ac.ext1 hD)
  have wd' : Wd c G' H' := w.step ac.w extO
  obtain ⟨go, stop⟩ := wk i G' H' (ac.ext1 hD) ac.w
  cases hd : ds[i]? with
  | none =>
    have hle : ds.length ≤ i := List.getElem?_eq_none_iff.mp hd
    rw [List.drop_eq_nil_of_le hle] at hlc
    refine .inl ⟨stop hle, q accd hlc D0 G' H' nD extO ac.w ⟨ac.at_, ac.gD, ?_, nv⟩⟩
    exact on.h0
  | some d =>
    obtain ⟨hlt, hget⟩ := List.getElem?_eq_some_iff.mp hd
    obtain ⟨gg, y1⟩ := go d hd
    rw [List.drop_eq_getElem_cons hlt, hget] at hlc
    refine .inr ⟨gg, fun H'' => ∃ G'' accd', Acc K c G1 H1 D0 G'' H'' accd' ∧ outF vs1 g tt fi1 g1 tt1 te (ds.drop (i + 1)) (wipeS (noOwn ρ) vs) accd' post,
      fun H'' h => ⟨m - 1, by omega, by omega, h⟩, fun x H3 hy => ?_⟩
    obtain ⟨G3, e3, w3, k3⟩ := y1 x H3 hy
    have wd3 := wd'.step w3 e3
    have rw3 : RS K c G3 H3 (L2.wipe σ vs) (wipeS (noOwn ρ) vs) := ((r.ext extO).ext e3).noOwn.wipe vs
    refine ⟨c, G3, wipeS (noOwn ρ) vs, d, _, wd3, rw3, k3, hlc, fun ρ4 h4 σ4 r4 t4 => ?_⟩
    have hwipe : L2.wipe σ4 vs = L2.wipe σ vs := by
      rw [← wipe_wipe σ vs]
      exact wipe_eq t4.1 fun j hj => t4.2 j fun z => hj (hjs j z)
    obtain ⟨hof, h4⟩ := h4
    refine ⟨hwipe, c, G3, ρ4, _, wd3, r4, h4, fun b hb G5 H5 e5 w5 => ?_⟩
    have a5 := ac.later nv (e3.trans e5) w5
    cases b with
    | false => exact ⟨G5, accd, a5, hb⟩
    | true =>
      have wd5 := wd3.step w5 e5
      refine ⟨c, G5, ρ4, _, wd5, r4.ext e5, hb, fun es hes hl1 J1 G6 H6 e6 w6 wk1 => ?_⟩
      have a6 := a5.later nv e6 w6
      refine ⟨fun j k H7 => j + k = es.length ∧ ∃ G7 accd7, Le G6 G7 ∧ Acc K c G1 H1 D0 G7 H7 accd7 ∧ inF g1 tt1 te (es.drop j) (wipeS ρ4 vs1) accd7 (fun acc' => outF vs1 g tt fi1 g1 tt1 te (ds.drop (i + 1)) (wipeS (noOwn ρ) vs) acc' post),
        ⟨es.length, by omega, G6, accd, fun _ _ e => e, a6, by rw [List.drop_zero]; exact hes⟩, fun j k H7 ⟨hjk, G7, accd7, l7, a7, hin⟩ => ?_⟩
      have r7 : RS K c G7 H7 σ4 ρ4 := r4.free hof fun a o h => l7 a o (e6.g a o (e5.g a o h))
      have wd7 : Wd c G7 H7 := w.step a7.w (e1.trans (a7.ext1 hD))
      obtain ⟨go1, stop1⟩ := wk1 j G7 H7 l7 a7.w
      cases he : es[j]? with
      | none =>
        have hle : es.length ≤ j := List.getElem?_eq_none_iff.mp he
        rw [List.drop_eq_nil_of_le hle] at hin
        exact .inl ⟨stop1 hle, G7, accd7, a7, hin⟩
      | some e =>
        obtain ⟨hlt1, hget1⟩ := List.getElem?_eq_some_iff.mp he
        obtain ⟨gg1, y2⟩ := go1 e he
        rw [List.drop_eq_getElem_cons hlt1, hget1] at hin
        refine .inr ⟨gg1, fun H8 => ∃ G8 accd8, Le G6 G8 ∧ Acc K c G1 H1 D0 G8 H8 accd8 ∧ inF g1 tt1 te (es.drop (j + 1)) (wipeS ρ4 vs1) accd8 (fun acc' => outF vs1 g tt fi1 g1 tt1 te (ds.drop (i + 1)) (wipeS (noOwn ρ) vs) acc' post),
          fun H8 h => ⟨k - 1, by omega, by omega, h⟩, fun x2 H8 hy2 => ?_⟩
        obtain ⟨G8, e8, w8, k8⟩ := y2 x2 H8 hy2
        have wd8 := wd7.step w8 e8
        refine ⟨c, G8, wipeS ρ4 vs1, e, _, wd8, (r7.ext e8).wipe vs1, k8, hin, fun ρ9 h9 σ9 r9 t9 => ?_⟩
        have hwipe1 : L2.wipe σ9 vs1 = L2.wipe σ4 vs1 := by
          rw [← wipe_wipe σ4 vs1]
          exact wipe_eq t9.1 fun j hj => t9.2 j fun z => hj (hjs1 j z)
        refine ⟨hwipe1, c, G8, ρ9, _, wd8, r9, h9, fun b2 hb2 G9 H9 e9 w9 => ?_⟩
        have a9 := a7.later nv (e8.trans e9) w9
        have l9 : Le G6 G9 := fun a o h => e9.g a o (e8.g a o (l7 a o h))
        cases b2 with
        | false => exact ⟨G9, accd7, l9, a9, hb2⟩
        | true =>
          refine ⟨c, G9, ρ9, _, wd8.step w9 e9, r9.ext e9, hb2, fun y hy3 v G10 H10 e10 w10 k10 => ?_⟩
          have a10 := a9.later nv e10 w10
          obtain ⟨acc, hacc, hlen, ap⟩ := a10.push nv k10
          exact ⟨acc, hacc, by rw [hlen]; exact hy3.1, G10, accd7 ++ [y], fun a o h => e10.g a o (l9 a o h), ap, hy3.2⟩
section
variable {X : Cx} {elt tg iter tg1 iter1 : Expr} {pos : Pos}
theorem lc2 {scope : Scope} {own : List (Str × Nat)} {vs1 : List Nat} {ifs ifs1 : List Expr} {js js1 : List Nat} {fi fi1 : List Sl → R (List D)} {g g1 : D → List Sl → R (List Sl)} {tt tt1 : List Sl → R Bool} {te : List Sl → R D} (hN : X.N.Nodup) (okb : blkC X.N X.env.scope scope own = true) (hi : PI X tg iter (tIw X.K fi))
    (hg : ∀ (s : Shared) (H : Hp) (C : Addr) (cl : List (Str × Addr)) (fp : List Addr), PG (X.blk s H scope (compEnvC scope cl C X.env) fp) tg (tG X.K js g)) (ht : ∀ (s : Shared) (H : Hp) (C : Addr) (cl : List (Str × Addr)) (fp : List Addr), PTs (X.blk s H scope (compEnvC scope cl C X.env) fp) ifs (tT X.K tt))
    (hi1 : ∀ (s : Shared) (H : Hp) (C : Addr) (cl : List (Str × Addr)) (fp : List Addr), PI (X.blk s H scope (compEnvC scope cl C X.env) fp) tg1 iter1 (tIs X.K fi1))
    (hg1 : ∀ (s : Shared) (H : Hp) (C : Addr) (cl : List (Str × Addr)) (fp : List Addr), PG (X.blk s H scope (compEnvC scope cl C X.env) fp) tg1 (tG X.K js1 g1)) (ht1 : ∀ (s : Shared) (H : Hp) (C : Addr) (cl : List (Str × Addr)) (fp : List Addr), PTs (X.blk s H scope (compEnvC scope cl C X.env) fp) ifs1 (tT X.K tt1))
    (he : ∀ (s : Shared) (H : Hp) (C : Addr) (cl : List (Str × Addr)) (fp : List Addr), PE (X.blk s H scope (compEnvC scope cl C X.env) fp) elt (tP X.K te)) (hv : ∀ i ∈ vs1, i ∈ own.map (·.2) := by decide) (hjs : ∀ j ∈ js, j ∈ own.map (·.2) := by decide) (hjs1 : ∀ j ∈ js1, j ∈ vs1 := by decide) (hc : X.calm = true := by rfl) (hs : ∀ x, foldedSetIterable iter X.env x = pure x := by intro _; rfl) (hs1 : ∀ env x, foldedSetIterable iter1 env x = pure x := by intro _ _; rfl) :
    PE X (.ListComp elt [⟨tg, iter, ifs, 0⟩, ⟨tg1, iter1, ifs1, 0⟩] scope pos) (tF X.K (lc2M (own.map (·.2)) vs1 fi g tt fi1 g1 tt1 te)) := PE.wk (pe_lc2 hc hN hi (blkOk_by okb) hv hg ht hi1 hg1 ht1 he hs hs1) fun _ _ _ q => lc2_of hjs hjs1 q
theorem sLc2 (i : Nat) {y : Str} {py spos : Pos} {scope : Scope} {own : List (Str × Nat)} {vs1 : List Nat} {ifs ifs1 : List Expr} {js js1 : List Nat} {fi fi1 : List Sl → R (List D)} {g g1 : D → List Sl → R (List Sl)} {tt tt1 : List Sl → R Bool} {te : List Sl → R D} (hN : X.N.Nodup) (okb : blkC X.N X.env.scope scope own = true) (hi : PI X tg iter (tIw X.K fi))
    (hg : ∀ (s : Shared) (H : Hp) (C : Addr) (cl : List (Str × Addr)) (fp : List Addr), PG (X.blk s H scope (compEnvC scope cl C X.env) fp) tg (tG X.K js g)) (ht : ∀ (s : Shared) (H : Hp) (C : Addr) (cl : List (Str × Addr)) (fp : List Addr), PTs (X.blk s H scope (compEnvC scope cl C X.env) fp) ifs (tT X.K tt))
    (hi1 : ∀ (s : Shared) (H : Hp) (C : Addr) (cl : List (Str × Addr)) (fp : List Addr), PI (X.blk s H scope (compEnvC scope cl C X.env) fp) tg1 iter1 (tIs X.K fi1))
    (hg1 : ∀ (s : Shared) (H : Hp) (C : Addr) (cl : List (Str × Addr)) (fp : List Addr), PG (X.blk s H scope (compEnvC scope cl C X.env) fp) tg1 (tG X.K js1 g1)) (ht1 : ∀ (s : Shared) (H : Hp) (C : Addr) (cl : List (Str × Addr)) (fp : List Addr), PTs (X.blk s H scope (compEnvC scope cl C X.env) fp) ifs1 (tT X.K tt1))
    (he : ∀ (s : Shared) (H : Hp) (C : Addr) (cl : List (Str × Addr)) (fp : List Addr), PE (X.blk s H scope (compEnvC scope cl C X.env) fp) elt (tP X.K te)) (hsw : swapsWith (.ListComp elt [⟨tg, iter, ifs, 0⟩, ⟨tg1, iter1, ifs1, 0⟩] scope pos) (some (.Name y py)) spos.line X.env = pure true) (hy : X.N[i]? = some y := by rfl) (hyl : X.env.scope.names.lookup y = some .local := by rfl) (hv : ∀ i ∈ vs1, i ∈ own.map (·.2) := by decide) (hjs : ∀ j ∈ js, j ∈ own.map (·.2) := by decide) (hjs1 : ∀ j ∈ js1, j ∈ vs1 := by decide) (hc : X.calm = true := by rfl) (hs : ∀ x, foldedSetIterable iter X.env x = pure x := by intro _; rfl) (hs1 : ∀ env x, foldedSetIterable iter1 env x = pure x := by intro _ _; rfl) :
    PS X (.Assign [.Name y py] (.ListComp elt [⟨tg, iter, ifs, 0⟩, ⟨tg1, iter1, ifs1, 0⟩] scope pos) spos) (tS X.K (setO i (lc2M (own.map (·.2)) vs1 fi g tt fi1 g1 tt1 te))) :=
  PS.wk (ps_setLc2 hc hN hy hyl hsw hi (blkOk_by okb) hv hg ht hi1 hg1 ht1 he hs hs1) fun D σ H ⟨c, G, ρ, post, w, r, hf, q⟩ => lc2_of hjs hjs1 ⟨c, G, ρ, _, w, r, hf, fun d hd a G' H' n e' w' o => q _ hd _ G' H' e'.g (w.step w' e') ((r.ext e').setO o (r.new n))⟩
theorem sLcD2 (i : Nat) {y : Str} {py spos : Pos} {scope : Scope} {own : List (Str × Nat)} {vs1 : List Nat} {ifs ifs1 : List Expr} {js js1 : List Nat} {fi fi1 : List Sl → R (List D)} {g g1 : D → List Sl → R (List Sl)} {tt tt1 : List Sl → R Bool} {te : List Sl → R D} (hN : X.N.Nodup) (okb : blkC X.N X.env.scope scope own = true) (hi : PI X tg iter (tIw X.K fi))
    (hg : ∀ (s : Shared) (H : Hp) (C : Addr) (cl : List (Str × Addr)) (fp : List Addr), PG (X.blk s H scope (compEnvC scope cl C X.env) fp) tg (tG X.K js g)) (ht : ∀ (s : Shared) (H : Hp) (C : Addr) (cl : List (Str × Addr)) (fp : List Addr), PTs (X.blk s H scope (compEnvC scope cl C X.env) fp) ifs (tT X.K tt))
    (hi1 : ∀ (s : Shared) (H : Hp) (C : Addr) (cl : List (Str × Addr)) (fp : List Addr), PI (X.blk s H scope (compEnvC scope cl C X.env) fp) tg1 iter1 (tIs X.K fi1))
    (hg1 : ∀ (s : Shared) (H : Hp) (C : Addr) (cl : List (Str × Addr)) (fp : List Addr), PG (X.blk s H scope (compEnvC scope cl C X.env) fp) tg1 (tG X.K js1 g1)) (ht1 : ∀ (s : Shared) (H : Hp) (C : Addr) (cl : List (Str × Addr)) (fp : List Addr), PTs (X.blk s H scope (compEnvC scope cl C X.env) fp) ifs1 (tT X.K tt1))
    (he : ∀ (s : Shared) (H : Hp) (C : Addr) (cl : List (Str × Addr)) (fp : List Addr), PE (X.blk s H scope (compEnvC scope cl C X.env) fp) elt (tP X.K te)) (hsw : swapsWith (.ListComp elt [⟨tg, iter, ifs, 0⟩, ⟨tg1, iter1, ifs1, 0⟩] scope pos) (some (.Name y py)) spos.line X.env = pure true) (hy : X.N[i]? = some y := by rfl) (hyl : X.env.scope.names.lookup y = some .local := by rfl) (hv : ∀ i ∈ vs1, i ∈ own.map (·.2) := by decide) (hjs : ∀ j ∈ js, j ∈ own.map (·.2) := by decide) (hjs1 : ∀ j ∈ js1, j ∈ vs1 := by decide) (hc : X.calm = true := by rfl) (hs : ∀ x, foldedSetIterable iter X.env x = pure x := by intro _; rfl) (hs1 : ∀ env x, foldedSetIterable iter1 env x = pure x := by intro _ _; rfl) :
    PS X (.Assign [.Name y py] (.ListComp elt [⟨tg, iter, ifs, 0⟩, ⟨tg1, iter1, ifs1, 0⟩] scope pos) spos) (tS X.K (setM i (frz (lc2M (own.map (·.2)) vs1 fi g tt fi1 g1 tt1 te)))) :=
  PS.wk (ps_setLc2 hc hN hy hyl hsw hi (blkOk_by okb) hv hg ht hi1 hg1 ht1 he hs hs1) fun D σ H ⟨c, G, ρ, post, w, r, hf, q⟩ => lc2_of hjs hjs1 ⟨c, G, ρ, _, w, r, hf, fun d hd a G' H' n e' w' o => by
    obtain ⟨G2, w2, l2, k2, ne⟩ := (w.step w' e').freeze o
    refine q _ hd _ G2 H' (fun p u e => l2 p u (e'.g p u e)) w2 (RS.setD ?_ k2)
    have r' := r.ext e'
    refine ⟨r'.len, fun j x h => ?_, r'.dd⟩
    rcases r'.at_ j x h with z | ⟨v, e1, s1⟩
    · exact .inl z
    · refine .inr ⟨v, e1, ?_⟩
      cases x with
      | un => trivial
      | dat d => exact Dq.mono l2 s1
      | box k => exact s1
      | own fs =>
        obtain ⟨b, rfl, ob⟩ := s1
        have hb : b ≠ a := fun z => r.new n j fs h (by rw [← z]; exact e1)
        obtain ⟨vs1, e2, k3⟩ := ob.at_
        exact ⟨b, rfl, ⟨vs1, e2, k3.mono l2⟩, by rw [ne b hb]; exact ob.g, ob.h0, ob.v⟩
      | od fs =>
        obtain ⟨b, rfl, ob⟩ := s1
        have hb : b ≠ a := own_od o ob
        obtain ⟨vs1, e2, k3⟩ := ob.at_
        exact ⟨b, rfl, ⟨vs1, e2, k3.mono l2⟩, by rw [ne b hb]; exact ob.g, ob.h0, ob.v⟩⟩
end
end Pu

namespace Pu
open PySem PySem.Spec PyProof.Rows L2
variable [Tb]
/-! ### the draws of a tape: cells, the next cell's place, what is left, a state -/
structure TpAt (H : Hp) (b c : Addr) (ns : List Int) (i n s : Int) : Prop where
  ne : b ≠ c
  hb : H b = some (.lst [.ref c, .int i, .int n, .int s])
  hc : H c = some (.lst (ns.map V.int))
theorem TpAt.setB {H : Hp} {b c : Addr} {ns : List Int} {i n s i' n' s' : Int} (x : TpAt H b c ns i n s) : TpAt (upd H b (.lst [.ref c, .int i', .int n', .int s'])) b c ns i' n' s' := ⟨x.ne, upd_same, by rw [upd_ne x.ne.symm]; exact x.hc⟩
def spMix : Sp := fun vs H Q _ => ∃ n : Int, vs = [.int n] ∧ ∀ r : Int, Q (.int r) H
theorem mix_small (x : Int) : -(2 ^ 64) < x % 18446744073709551616 ∧ x % 18446744073709551616 < 2 ^ 64 := by omega
def spTake0 : Sp := fun vs H Q _ => ∃ (b c : Addr) (ns : List Int) (i n s m : Int), vs = [.ref b, .int m] ∧ TpAt H b c ns i n s ∧ 0 ≤ i ∧ 0 < m ∧ m < 1073741824 ∧ ∀ (r : Int) H' i' n' s', 0 ≤ r → r < m → 0 ≤ i' → TpAt H' b c ns i' n' s' → Only2 b c H H' → Q (.int r) H'
theorem take_ext {b c : Addr} {G H H' : Hp} {ns : List Int} {i' n' s' : Int} (w : W0 (.bx 3 b c) G H) (o : Only2 b c H H') (hi : 0 ≤ i') (x : TpAt H' b c ns i' n' s') (hl : ns.length ≤ 1000) : W0 (.bx 3 b c) G H' ∧ Ext (.bx 3 b c) G H G H' := by
  have hv : ∀ p, ¬ (Ef.bx 3 b c).vol p → H' p = H p := fun p h => o p (fun e => h (.inl (.inl e))) (fun e => h (.inl (.inr e)))
  refine ⟨⟨fun p u e => ?_, w.vol, ⟨⟨x.ne, ns, [i', n', s'], rfl, hi, hl, x.hb, x.hc⟩, tabs2 w.inv o⟩⟩, ⟨fun _ _ e => e, fun p u e v => by rw [hv p v]; exact e, fun _ _ _ _ e => e⟩⟩
  have nv : ¬ (Ef.bx 3 b c).vol p := fun v => by rw [w.vol p v] at e; cases e
  rw [hv p nv]; exact w.sub p u e
theorem spTake_of {K : PySem.W.Frag} {vs : List V} {H : Hp} {Q : VK} {E : XK} (h : spX K 3 1 drawM vs H Q E) : spTake0 vs H Q E := by
  obtain ⟨E, G, bv, vs', ds, post, rfl, hbx, w, hd, hl, hm, q⟩ := h
  obtain ⟨m, rfl, h0, h1, hp⟩ := drawM_inv hm
  cases E with
  | no => exact hbx.elim
  | bx k b c =>
    obtain ⟨rfl, rfl⟩ := hbx
    obtain ⟨⟨ne, ns, is, hi, hx, hns, hb, hc⟩, _⟩ := w.inv
    match is, hi, hx, hb with
    | [i, n, s], _, hx, hb =>
      cases hd with
      | cons d1 d2 =>
        cases d1; cases d2
        refine ⟨b, c, ns, i, n, s, m, rfl, ⟨ne, hb, hc⟩, hx, h0, h1, fun r H' i' n' s' hr0 hr1 hi' x o => ?_⟩
        obtain ⟨w', e'⟩ := take_ext w o hi' x hns
        exact q _ (hp r hr0 hr1) _ G H' e' w' (.int _)
theorem tape_at {ns : List Int} {i : Int} (h : 0 ≤ i) (h' : i < ((ns.map V.int).length : Int)) : ∃ z, L2.atI (ns.map V.int) i = some (.int z) := by
  rw [List.length_map] at h'
  have hj : i.toNat < ns.length := by omega
  refine ⟨ns[i.toNat], ?_⟩
  unfold L2.atI L2.ixN; rw [List.length_map, if_pos h, if_pos h']; simp [hj]
def spTape (K : PySem.W.Frag) : Sp := fun vs H Q _ => ∃ (a : Addr) (ns : List Int), vs = [.ref a] ∧ SqL K H a (ns.map V.int) ∧ ns.length ≤ 63 ∧ ∀ b c H' ns' i n s, Same H H' → 0 ≤ i → H b = none → H c = none → TpAt H' b c ns' i n s → ns'.length ≤ 1000 → Q (.ref b) H'
theorem law_rest3 {K : PySem.W.Frag} {g : List Sl → R Out} {n : Nat} {Q : VK} {H' : Hp} {b c : Addr} {ns : List Int} {i k s : Int} {v : V} (hg : g (.un :: .box 3 :: List.replicate n .un) fun o => o = .rt (.bool true)) (hi : 0 ≤ i) (hT : LamX.Tabs Tb.T H') (x : TpAt H' b c ns i k s) (hl : ns.length ≤ 1000) (q : ∀ H', Q (.bl true) H') {D : Ends} (hD : D.rt = Q) :
    tS K g D (some v :: some (.ref b) :: List.replicate n none) H' := by
  refine ⟨⟨.bx 3 b c, fun _ => none, H'⟩, fun _ => none, _, _, ⟨⟨fun _ _ e => (nomatch e), fun _ _ => rfl, ⟨⟨x.ne, ns, [i, k, s], rfl, hi, hl, x.hb, x.hc⟩, hT⟩⟩, .refl⟩, ⟨by simp, fun i y h => ?_, fun i j ds es u h1 _ k1 => ?_⟩, hg, fun o ho => ?_⟩
  · match i, h with
    | 0, h => exact .inl (Option.some.inj h).symm
    | 1, h => cases h; exact .inr ⟨.ref b, rfl, rfl, rfl⟩
    | i + 2, h =>
      have h' : (List.replicate n Sl.un)[i]? = some y := h
      rw [List.getElem?_replicate] at h'
      split at h'
      · cases h'; exact .inl rfl
      · cases h'
  · exfalso
    match i, h1 with
    | 0, h => cases h; cases k1
    | 1, h => cases h; cases k1
    | i + 2, h =>
      have h' : (List.replicate n Sl.un)[i]? = some ds := h
      rw [List.getElem?_replicate] at h'
      split at h'
      · cases h'; cases k1
      · cases h'
  · subst ho
    intro v G' H2 l w k
    rw [hD]
    cases k
    exact q H2
end Pu

namespace Pu
open PySem PySem.Spec PyProof.Rows L2
variable [Tb]
/-! ### enumerate and zip over lists and tuples in any mix -/
def SqK (K : PySem.W.Frag) (k : Bool) (H : Hp) (a : Addr) (xs : List V) : Prop := match k with | true => SqL K H a xs | false => SqT K H a xs
def ItK (k : Bool) (h : Heap) (it a : Addr) (i : Nat) : Prop := match k with | true => h.IsListIter it a i | false => h.IsTupleIter it a i
def IsK (k : Bool) (h : Heap) (a : Addr) (its : Array Value) : Prop := match k with | true => h.IsList a its | false => h.IsTuple a its
def oK (k : Bool) (a : Addr) : Obj := match k with
  | true => { cls := .type "list_iterator", data := .fields #[.ref a, .int 0 0] }
  | false => { cls := .type "tuple_iterator", data := .fields #[.ref a, .int 0 0] }
theorem oK.free (k : Bool) (a : Addr) : (oK k a).isFreed = false := by cases k <;> rfl
theorem beginsK (k : Bool) (a : Addr) (its : Array Value) : Begins (.ref a) (oK k a) (fun h => IsK k h a its) := by
  cases k
  · exact begins_tuple a its
  · exact begins_list a its
theorem ItK.new {k : Bool} {h : Heap} {it a : Addr} (e : h.get? it = some (oK k a)) : ItK k h it a 0 := by
  cases k
  · exact ⟨_, e, rfl, rfl⟩
  · exact ⟨_, e, rfl, rfl⟩
theorem ItK.at {k : Bool} {h h' : Heap} {it a : Addr} {i : Nat} (x : ItK k h it a i) (e : ∀ o, h.get? it = some o → h'.get? it = some o) : ItK k h' it a i := by
  cases k
  · exact Heap.IsTupleIter.at x e
  · exact Heap.IsListIter.at x e
theorem IsK.at {k : Bool} {h h' : Heap} {a : Addr} {its : Array Value} (x : IsK k h a its) (e : ∀ o, h.get? a = some o → h'.get? a = some o) : IsK k h' a its := by
  cases k
  · exact Heap.IsTuple.at x e
  · exact Heap.IsList.at x e
theorem ItK.obj {k : Bool} {h : Heap} {it a : Addr} {i : Nat} (x : ItK k h it a i) : ∃ o, h.get? it = some o ∧ ∀ v, o.data ≠ .cell v := by
  cases k
  · obtain ⟨o, h1, h2, h3⟩ := x; exact ⟨o, h1, fun v q => by rw [h3] at q; cases q⟩
  · obtain ⟨o, h1, h2, h3⟩ := x; exact ⟨o, h1, fun v q => by rw [h3] at q; cases q⟩
theorem IsK.obj {k : Bool} {h : Heap} {a : Addr} {its : Array Value} (x : IsK k h a its) : ∃ o, h.get? a = some o := by
  cases k
  · obtain ⟨o, h1, _⟩ := x; exact ⟨o, h1⟩
  · obtain ⟨o, h1, _⟩ := x; exact ⟨o, h1⟩
theorem drawsK {prog : Program} {w : World} {A : Around} (k : Bool) (hh : A.handled = none) (it a : Addr) (hne : a ≠ it) (its : Array Value) :
    Draws prog w A it [it, a] its.size (fun i v => its[i]? = some v) (fun i h => ItK k h it a i ∧ IsK k h a its) := by
  cases k
  · exact .tuple hh it a hne its
  · exact .list hh it a hne its
theorem drawsEnd {prog : Program} {w : World} {A : Around} (k : Bool) (hh : A.handled = none) (it a : Addr) (its : Array Value) (i : Nat) (hi : its.size ≤ i) :
    Draws prog w A it [it, a] i (fun _ _ => False) (fun j h => j = i ∧ ItK k h it a j ∧ IsK k h a its) where
  live := fun _ _ st => let ⟨o, ho, _⟩ := st.2.1.obj; ⟨o, ho⟩
  frame := fun _ _ _ st hk => ⟨st.1, st.2.1.at fun o e => hk it (by simp) o e, st.2.2.at fun o e => hk a (by simp) o e⟩
  item := fun j s Q E hj st hQ => absurd st.1 (by omega)
  done := fun s Q E st hE => by
    cases k
    · exact wpAny_nextOf_tuple_end hh st.2.1 st.2.2 (by simpa using hi) hE
    · exact wpAny_nextOf_list_end hh st.2.1 st.2.2 (by simpa using hi) hE
theorem drawsU {prog : Program} {w : World} {A : Around} (k : Bool) (hh : A.handled = none) (it a : Addr) (hne : a ≠ it) (its : Array Value) (i : Nat) (h : Heap) (x : ItK k h it a i) (y : IsK k h a its) :
    ∃ n P St, Draws prog w A it [it, a] n P St ∧ St i h ∧ i ≤ n ∧ (its.size ≤ i → i = n) := by
  by_cases hi : its.size ≤ i
  · exact ⟨i, _, _, drawsEnd k hh it a its i hi, ⟨rfl, x, y⟩, Nat.le_refl _, fun _ => rfl⟩
  · exact ⟨its.size, _, _, drawsK k hh it a hne its, ⟨x, y⟩, by omega, fun q => absurd q hi⟩
theorem SqK.its {X : Cx} {pins : List (Addr × Obj)} {σ : L2.St} {H : Hp} {s : Shared} {k : Bool} {a : Addr} {xs : List V} (I : Inv X pins σ H s) (h : SqK X.K k H a xs) : ∃ its, Vals xs its ∧ IsK k s.heap a its.toArray := by
  cases k
  · obtain ⟨its, rv, p, _⟩ := I.tuple h; exact ⟨its, rv, p⟩
  · obtain ⟨its, rv, p, _⟩ := I.list h; exact ⟨its, rv, p.isList⟩
theorem SqK.inj {X : Cx} {pins : List (Addr × Obj)} {σ : L2.St} {H : Hp} {s : Shared} {k : Bool} {a : Addr} {xs ys : List V} (I : Inv X pins σ H s) (h : SqK X.K k H a xs) (h' : SqK X.K k H a ys) : xs = ys := by
  cases k
  · exact I.tuple_inj h h'
  · exact I.list_inj h h'
/-- what is at a as it stands at each turn, each item in a new pair with its number -/
def IteK (K : PySem.W.Frag) (k : Bool) (a : Addr) : It :=
  ⟨fun i H => ∃ (xs : List V) (x : V), SqK K k H a xs ∧ xs[i]? = some x, fun i H v H' => ∃ T x, v = .ref T ∧ H T = none ∧ H' = upd H T (.tup [.int (i : Nat), x]) ∧ ∀ xs, SqK K k H a xs → xs[i]? = some x, fun i H => ∃ xs : List V, SqK K k H a xs ∧ xs.length ≤ i⟩
theorem turn_enumK {P : Program} {w : World} {K : PySem.W.Frag} {elts : List Expr} {kk : Nat} {tpos : Pos} (k : Bool) (a e it : Addr) :
    Turn P w K (.Tuple elts kk tpos) (IteK K k a) [e, it] e (fun i h => (∃ old, IsEnum h e it ((i : Nat) : Int) old) ∧ ItK k h it a i ∧ e ≠ it ∧ a ≠ it ∧ e ≠ a) where
  mem := by simp
  obj := fun i h st b hb => by
    obtain ⟨⟨old, he⟩, hit, _⟩ := st
    have e' : b = e ∨ b = it := by simpa using hb
    rcases e' with z | z
    · rw [z]; exact ⟨_, he, fun v q => nomatch q⟩
    · rw [z]; exact hit.obj
  keep := fun i h h' st k => let ⟨⟨old, he⟩, hi, hne⟩ := st; ⟨⟨old, k e (by simp) _ he⟩, hi.at fun o q => k it (by simp) o q, hne⟩
  item := by
    intro X hP hw hK hc i pins s σ H E I hf st hg
    subst hP hw hK
    obtain ⟨⟨old, he⟩, hit, hne, hai, hea⟩ := st
    obtain ⟨xs, x, hq, hx⟩ := hg
    obtain ⟨its, rv, p⟩ := hq.its I
    obtain ⟨u, hu, ru⟩ := rv.get hx
    have hel : e < s.heap.objs.size := Heap.lt_size he
    have hil : it < s.heap.objs.size := by obtain ⟨_, q, _⟩ := hit.obj; exact Heap.lt_size q
    have hlt : i < its.toArray.size := by
      have := (List.getElem?_eq_some_iff.mp hu).1
      simpa using this
    refine wpAny_pyNext_enum_itemC (drawsK (A := X.A.in1) k (I.ok.hd hc) it a hai its.toArray) he ⟨hit, p⟩ hlt hne (by simp [hne, hea]) fun x' h' tk hP ho hst hT hsz hk => ?_
    obtain ⟨hit', _⟩ := hst
    have hP' : its[i]? = some x' := by simpa using hP
    obtain rfl : u = x' := Option.some.inj (hu.symm.trans hP')
    refine ⟨_, rfl, wpAny_letOwnedTupleGo_enum (s := { s with heap := h', toks := tk + 1 }) ho fun h'' he' sb => ?_⟩
    have hT2 : h''.get? s.heap.objs.size = some { cls := .type "tuple", data := .seq #[.int i tk, u] } := (sb.2 _ (Nat.ne_of_gt hel)).trans hT
    have new : ObjOk X.prog X.w (upd H s.heap.objs.size (.tup [.int (i : Nat), x])) h'' s.heap.objs.size (.tup [.int (i : Nat), x]) :=
      ⟨by show 2 ≤ sizeLine; decide, [.int i tk, u], .cons ⟨_, rfl⟩ (.cons ru .nil), ⟨_, hT2, rfl, _, rfl⟩⟩
    have I1 : Inv X pins σ (upd H s.heap.objs.size (.tup [.int (i : Nat), x])) { s with heap := h'', toks := tk + 1 } :=
      I.turnedNew (ch := [e, it]) (fun b ob hb q => (sb.2 b (fun z => hb (by simp [z]))).trans (hk b ob (fun z => hb (by simp [z])) (fun z => hb (by simp [z])) q)) hf (Nat.le_refl _) new
    refine ⟨.ref s.heap.objs.size, _, I1, rfl, ⟨_, x, rfl, I.hok.fresh (Nat.le_refl _), rfl, fun ys hy => by rw [SqK.inj I hy hq]; exact hx⟩, ⟨⟨u, ?_⟩, hit'.at fun o q => (sb.2 it (Ne.symm hne)).trans q, hne, hai, hea⟩, fun b hb => ?_⟩
    · have e1 : ((i + 1 : Nat) : Int) = (i : Int) + 1 := by omega
      rw [e1]; exact he'
    · have hb' : b < s.heap.objs.size := by
        have e' : b = e ∨ b = it := by simpa using hb
        rcases e' with z | z
        · rw [z]; exact hel
        · rw [z]; exact hil
      rw [upd_ne (Nat.ne_of_lt hb')]
      exact (hf b hb).1
  done := by
    intro X hP hw hK hc i pins s σ H E I hf st hg
    subst hP hw hK
    obtain ⟨⟨old, he⟩, hit, hne, hai, hea⟩ := st
    obtain ⟨xs, hq, hx⟩ := hg
    obtain ⟨its, rv, p⟩ := hq.its I
    obtain ⟨f0, f1, f2, f3, f4, f5⟩ := hf it (by simp)
    have hl := rv.length
    exact wpAny_pyNext_enum_endD (drawsEnd (A := X.A.in1) k (I.ok.hd hc) it a its.toArray i (by simp; omega)) he ⟨rfl, hit, p⟩ fun h' eb => ⟨rfl, I.turned (t' := s.toks) (fun b o hb q => eb b o hb q) f0 f1 f3 f4 f5⟩
  self := fun A i s Q E st h => let ⟨⟨_, he⟩, _⟩ := st; wpAny_pyIter_enum he h
theorem enum_meets {v : Value} {o : Obj} {H : Heap → Prop} (B : Begins v o H) :
    Meets (Builtin.«enumerate.__new__» ⟨[.type "enumerate", v], []⟩) (fun _ R s => H s.heap ∧
      R (.ok (.ret (.ref (s.heap.push o).objs.size))) { s with heap := (s.heap.push o).push { cls := .type "enumerate", data := .fields #[.none, .bool false, .ref s.heap.objs.size, rawInt 0, .none, .none] } }) :=
  .of_wp fun prog w A R s h => by
    obtain ⟨hp, g, d, tk, os⟩ := s
    obtain ⟨h1, h⟩ := h
    have hsub := sub_enumerate
    have qq : ∀ {A' : Around} {E : Value → Shared → Prop} {Q : Value → Shared → Prop}, Q (.ref hp.objs.size) ⟨hp.push o, g, d, tk, os⟩ → wpAny (model prog w) A' (pyIter v) Q E ⟨hp, g, d, tk, os⟩ :=
      fun q => B.iter prog w _ _ ⟨hp, g, d, tk, os⟩ _ h1 q
    wp_walk using qq
    refine wpAny_stack_any fun st => wpAny_pure ?_
    split
    · rename_i c _ _ _ _ _
      cases (c == Value.type "enumerate") <;> (wp_walk using qq; exact ⟨_, rfl, h⟩)
    · wp_walk using qq
      exact ⟨_, rfl, h⟩
theorem call_enumK {prog : Program} {w : World} {A : Around} {E : Value → Shared → Prop} {s : Shared} {k : Bool} {a : Addr} {its : Array Value} {Q : Value → Shared → Prop} (h1 : IsK k s.heap a its)
    (h : ∀ h', IsEnum h' (s.heap.objs.size + 1) s.heap.objs.size 0 .none → ItK k h' s.heap.objs.size a 0 →
      (∀ b o, s.heap.get? b = some o → h'.get? b = some o) → Q (.ref (s.heap.objs.size + 1)) { s with heap := h' }) :
    wpAny (model prog w) A (PySem.call (.type "enumerate") [.ref a]) Q E s := by
  refine callType_new F.called_enumerate (by decide) (F.typeCall_enumerate_1 _) (F.newCall_enumerate_1 _) (fun obj => F.args_object_init_2 obj _) F.entry_enumerate_new (enum_meets (beginsK k a its)) ⟨h1, ?_⟩
  have hz : (s.heap.push (oK k a)).objs.size = s.heap.objs.size + 1 := Heap.size_push ..
  show _ ∧ _
  rw [hz]
  have he : IsEnum ((s.heap.push (oK k a)).push { cls := .type "enumerate", data := .fields #[.none, .bool false, .ref s.heap.objs.size, rawInt 0, .none, .none] }) (s.heap.objs.size + 1) s.heap.objs.size 0 .none := by
    have := Heap.get?_push_size (s.heap.push (oK k a)) (o := { cls := .type "enumerate", data := .fields #[.none, .bool false, .ref s.heap.objs.size, rawInt 0, .none, .none] }) rfl
    rw [hz] at this; exact this
  exact ⟨⟨_, he, rfl⟩, h _ he (.new (Heap.get?_push_of_some _ (Heap.get?_push_size _ (oK.free k a)))) fun b o x => Heap.get?_push_of_some _ (Heap.get?_push_of_some _ x)⟩
def iEnumK (K : PySem.W.Frag) (ta : TA) : TI := fun σ H R => ta σ H fun vs H1 => ∃ k a xs, vs = [.ref a] ∧ SqK K k H1 a xs ∧ R (IteK K k a) H1
theorem pi_enumK {X : Cx} {e : Expr} {ta : TA} {p pos tpos : Pos} {elts : List Expr} {kk : Nat} (hg : Gl X "enumerate") (hm : X.mg "enumerate" = none) (ha : PA X [e] ta) (hs : starEach [e] X.env = [(false, eval e X.env)] := by rfl) :
    PI X (.Tuple elts kk tpos) (.Call (.Name "enumerate" p) [e] [] pos) (iEnumK X.K ta) := by
  refine ⟨fun pins s σ H R I h => ?_⟩
  refine Call_ (ld_blt I hg hm boot_enumerate (PyProof.Rows.callWith_type1 (thn (ha.run pos pins s σ H _ I h) fun us s1 ⟨vs, H1, I1, r1, q1⟩ => ?_) hs rfl))
  obtain ⟨k, a, xs, ex, hq, q⟩ := q1
  subst ex
  cases r1 with
  | cons r rr =>
    cases rr
    cases r
    obtain ⟨its, rv, p'⟩ := hq.its I1
    obtain ⟨oa, hoa⟩ := p'.obj
    have hal : a < s1.heap.objs.size := Heap.lt_size hoa
    refine call_enumK p' fun h' he hit hk => wpAny_pyIter_enum he ?_
    have I2 : Inv X pins σ H1 { s1 with heap := h' } := I1.kept (t' := s1.toks) hk
    refine ⟨s1.heap.objs.size + 1, [s1.heap.objs.size + 1, s1.heap.objs.size], _, _, H1, rfl, I2, turn_enumK k a (s1.heap.objs.size + 1) s1.heap.objs.size, ⟨⟨.none, he⟩, hit, Nat.succ_ne_self _, Nat.ne_of_lt hal, Nat.ne_of_gt (Nat.lt_succ_of_lt hal)⟩, fun b hb => ?_, q⟩
    have e' : b = s1.heap.objs.size + 1 ∨ b = s1.heap.objs.size := by simpa using hb
    have hle : s1.heap.objs.size ≤ b := by
      rcases e' with z | z
      · rw [z]; exact Nat.le_add_right _ _
      · rw [z]; exact Nat.le_refl _
    exact I1.fpOk hle (I1.hok.fresh hle)
/-- the 2 rows as they stand at each turn, their items in new rows -/
def IzK2 (K : PySem.W.Frag) (k1 k2 : Bool) (a1 a2 : Addr) : It :=
  ⟨fun i H => ∃ (xs1 xs2 : List V) (x1 x2 : V), SqK K k1 H a1 xs1 ∧ SqK K k2 H a2 xs2 ∧ xs1[i]? = some x1 ∧ xs2[i]? = some x2,
    fun i H v H' => ∃ T x1 x2, v = .ref T ∧ H T = none ∧ H' = upd H T (.tup [x1, x2]) ∧ (∀ xs, SqK K k1 H a1 xs → xs[i]? = some x1) ∧ (∀ xs, SqK K k2 H a2 xs → xs[i]? = some x2),
    fun i H => ∃ xs1 xs2 : List V, SqK K k1 H a1 xs1 ∧ SqK K k2 H a2 xs2 ∧ (xs1.length ≤ i ∨ xs2.length ≤ i)⟩
theorem turn_zip2K {P : Program} {w : World} {K : PySem.W.Frag} {elts : List Expr} {kk : Nat} {tpos : Pos} (k1 k2 : Bool) {a1 a2 z TI TO i1 i2 : Addr} (S : ZipSep2 z TI TO i1 i2 [i1, a1] [i2, a2]) (n1 : a1 ≠ i1) (n2 : a2 ≠ i2) :
    Turn P w K (.Tuple elts kk tpos) (IzK2 K k1 k2 a1 a2) [z, TI, TO, i1, i2] z (fun i h => IsZip h z TI TO .none ∧ IsTupOf2 h TI (.ref i1) (.ref i2) ∧ (∃ y1 y2, IsTupOf2 h TO y1 y2) ∧ ItK k1 h i1 a1 i ∧ ItK k2 h i2 a2 i) where
  mem := by simp
  obj := fun i h st c hc => by
    obtain ⟨hz, hTI, ⟨y1, y2, hTO⟩, h1, h2⟩ := st
    have e' : c = z ∨ c = TI ∨ c = TO ∨ c = i1 ∨ c = i2 := by simpa using hc
    rcases e' with q | q | q | q | q
    · rw [q]; exact ⟨_, hz, fun v q => nomatch q⟩
    · rw [q]; exact ⟨_, hTI, fun v q => nomatch q⟩
    · rw [q]; exact ⟨_, hTO, fun v q => nomatch q⟩
    · rw [q]; exact h1.obj
    · rw [q]; exact h2.obj
  keep := fun i h h' st k => by
    obtain ⟨hz, hTI, ⟨y1, y2, hTO⟩, h1, h2⟩ := st
    exact ⟨k z (by simp) _ hz, k TI (by simp) _ hTI, ⟨y1, y2, k TO (by simp) _ hTO⟩, h1.at fun o q => k i1 (by simp) o q, h2.at fun o q => k i2 (by simp) o q⟩
  item := by
    intro X hP hw hK hc i pins s σ H E I hf st hg
    subst hP hw hK
    obtain ⟨hz, hTI, ⟨y1, y2, hTO⟩, h1, h2⟩ := st
    obtain ⟨xs1, xs2, x1, x2, hq1, hq2, hx1, hx2⟩ := hg
    obtain ⟨its1, rv1, p1⟩ := hq1.its I
    obtain ⟨u1, hu1, ru1⟩ := rv1.get hx1
    have lt1 : i < its1.toArray.size := by
      have := (List.getElem?_eq_some_iff.mp hu1).1
      simpa using this
    obtain ⟨its2, rv2, p2⟩ := hq2.its I
    obtain ⟨u2, hu2, ru2⟩ := rv2.get hx2
    have lt2 : i < its2.toArray.size := by
      have := (List.getElem?_eq_some_iff.mp hu2).1
      simpa using this
    have hzl : z < s.heap.objs.size := Heap.lt_size hz
    refine wpAny_pyNext_zipD2_item S (drawsK (A := X.A.in1) k1 (I.ok.hd hc) i1 a1 n1 its1.toArray) (drawsK (A := X.A.in1) k2 (I.ok.hd hc) i2 a2 n2 its2.toArray) hz hTI hTO ⟨h1, p1⟩ ⟨h2, p2⟩ lt1 lt2 fun v1 v2 h' tk hP1 hP2 z' TO' st1 st2 hT hsz hk => ?_
    obtain rfl : u1 = v1 := Option.some.inj (hu1.symm.trans (by simpa using hP1))
    obtain rfl : u2 = v2 := Option.some.inj (hu2.symm.trans (by simpa using hP2))
    refine ⟨_, rfl, wpAny_letOwnedTupleGo_zip (s := { s with heap := h', toks := tk }) z' fun h'' z'' sb => ?_⟩
    have hT2 : h''.get? s.heap.objs.size = some { cls := .type "tuple", data := .seq #[u1, u2] } := (sb.2 _ (Nat.ne_of_gt hzl)).trans hT
    have new : ObjOk X.prog X.w (upd H s.heap.objs.size (.tup [x1, x2])) h'' s.heap.objs.size (.tup [x1, x2]) :=
      ⟨by show 2 ≤ sizeLine; decide, [u1, u2], .cons ru1 (.cons ru2 .nil), ⟨_, hT2, rfl, _, rfl⟩⟩
    have I1 : Inv X pins σ (upd H s.heap.objs.size (.tup [x1, x2])) { s with heap := h'', toks := tk } :=
      I.turnedNew (ch := [z, TI, TO, i1, i2]) (fun c o hb q => (sb.2 c (fun q' => hb (by simp [q']))).trans (hk c o (fun q' => hb (by simp [q'])) (fun q' => hb (by simp [q'])) (fun q' => hb (by simp [q'])) (fun q' => hb (by simp [q'])) q)) hf (Nat.le_refl _) new
    refine ⟨.ref s.heap.objs.size, _, I1, rfl, ⟨_, x1, x2, rfl, I.hok.fresh (Nat.le_refl _), rfl, fun l hl => by rw [SqK.inj I hl hq1]; exact hx1, fun l hl => by rw [SqK.inj I hl hq2]; exact hx2⟩, ⟨z'', ?_, ⟨u1, u2, ?_⟩, st1.1.at fun o q => (sb.2 _ S.zi1.symm).trans q, st2.1.at fun o q => (sb.2 _ S.zi2.symm).trans q⟩, fun c hcm => ?_⟩
    · exact (sb.2 _ S.TIz).trans (hk _ _ S.TIz S.TITO S.TIi1 S.TIi2 hTI)
    · exact (sb.2 _ S.TOz).trans TO'
    · have hlt : c < s.heap.objs.size := by
        have e' : c = z ∨ c = TI ∨ c = TO ∨ c = i1 ∨ c = i2 := by simpa using hcm
        rcases e' with q | q | q | q | q
        · rw [q]; exact hzl
        · rw [q]; exact Heap.lt_size hTI
        · rw [q]; exact Heap.lt_size hTO
        · rw [q]; obtain ⟨_, e1, _⟩ := h1.obj; exact Heap.lt_size e1
        · rw [q]; obtain ⟨_, e1, _⟩ := h2.obj; exact Heap.lt_size e1
      rw [upd_ne (Nat.ne_of_lt hlt)]
      exact (hf c hcm).1
  done := by
    intro X hP hw hK hc i pins s σ H E I hf st hg
    subst hP hw hK
    obtain ⟨hz, hTI, ⟨y1, y2, hTO⟩, h1, h2⟩ := st
    obtain ⟨xs1, xs2, hq1, hq2, hend⟩ := hg
    obtain ⟨its1, rv1, p1⟩ := hq1.its I
    have l1 := rv1.length
    obtain ⟨m1, P1, St1, D1, s1, b1, e1⟩ := drawsU (A := X.A.in1) (w := X.w) (prog := X.prog) k1 (I.ok.hd hc) i1 a1 n1 its1.toArray i s.heap h1 p1
    obtain ⟨its2, rv2, p2⟩ := hq2.its I
    have l2 := rv2.length
    obtain ⟨m2, P2, St2, D2, s2, b2, e2⟩ := drawsU (A := X.A.in1) (w := X.w) (prog := X.prog) k2 (I.ok.hd hc) i2 a2 n2 its2.toArray i s.heap h2 p2
    exact wpAny_pyNext_zipD2_end S D1 D2 hz hTI hTO s1 s2 b1 b2 (by simp only [List.size_toArray] at *; omega) fun h' tk hk => ⟨rfl, I.turnedL (t' := tk) (ch := [z, TI, TO, i1, i2]) (fun c o hb q =>
      hk c o (fun q' => hb (by simp [q'])) (fun q' => hb (by simp [q'])) (fun q' => hb (by simp [q'])) (fun q' => hb (by simp [q'])) q) hf⟩
  self := fun A i s Q E st h => wpAny_pyIter_zip st.1 h
def iZip2K (K : PySem.W.Frag) (ta : TA) : TI := fun σ H R => ta σ H fun vs H1 => ∃ k1 k2 a1 a2 xs1 xs2, vs = [.ref a1, .ref a2] ∧ SqK K k1 H1 a1 xs1 ∧ SqK K k2 H1 a2 xs2 ∧ R (IzK2 K k1 k2 a1 a2) H1
theorem pi_zip2K {X : Cx} {e1 e2 : Expr} {ta : TA} {p pos tpos : Pos} {elts : List Expr} {kk : Nat} (hg : Gl X "zip") (hm : X.mg "zip" = none) (ha : PA X [e1, e2] ta)
    (hs : starEach [e1, e2] X.env = (false, eval e1 X.env) :: starEach [e2] X.env := by rfl) (hpl : (backTo pos (starEach [e2] X.env)).any (·.1) = false := by rfl) :
    PI X (.Tuple elts kk tpos) (.Call (.Name "zip" p) [e1, e2] [] pos) (iZip2K X.K ta) := by
  refine ⟨fun pins s σ H R I h => ?_⟩
  refine Call_ (ld_blt I hg hm PyProof.Rows.boot_zip (PyProof.Rows.callWith_type1 (thn (ha.run pos pins s σ H _ I h) fun us s1 ⟨vs, H1, I1, r1, q1⟩ => ?_) hs hpl))
  obtain ⟨k1, k2, a1, a2, xs1, xs2, ex, hq1, hq2, q⟩ := q1
  subst ex
  have eu : us = [Value.ref a1, Value.ref a2] := by
    cases r1 with | cons ra1 rr1 => cases rr1 with | cons ra2 rr2 => (cases rr2; cases ra1; cases ra2; rfl)
  subst eu
  have fr : ∀ c, c ∈ [s1.heap.objs.size + 4, s1.heap.objs.size + 2, s1.heap.objs.size + 3, s1.heap.objs.size, s1.heap.objs.size + 1] → FpOk X pins H1 c := fun c hcm => by
    have e' : c = s1.heap.objs.size + 4 ∨ c = s1.heap.objs.size + 2 ∨ c = s1.heap.objs.size + 3 ∨ c = s1.heap.objs.size ∨ c = s1.heap.objs.size + 1 := by simpa using hcm
    have hle : s1.heap.objs.size ≤ c := by
      rcases e' with z | z | z | z | z <;> (rw [z]; first | exact Nat.le_add_right _ _ | exact Nat.le_refl _)
    exact I1.fpOk hle (I1.hok.fresh hle)
  obtain ⟨its1, rv1, p1⟩ := hq1.its I1
  obtain ⟨o1, ho1⟩ := p1.obj
  have hl1 : a1 < s1.heap.objs.size := Heap.lt_size ho1
  obtain ⟨its2, rv2, p2⟩ := hq2.its I1
  obtain ⟨o2, ho2⟩ := p2.obj
  have hl2 : a2 < s1.heap.objs.size := Heap.lt_size ho2
  refine zip_begins2 (beginsK k1 a1 its1.toArray) (beginsK k2 a2 its2.toArray) p1 p2 fun h' hz hTI hTO g1 g2 hsz hk => wpAny_pyIter_zip hz ?_
  have I2 : Inv X pins σ H1 { s1 with heap := h' } := I1.kept (t' := s1.toks) hk
  exact ⟨s1.heap.objs.size + 4, [s1.heap.objs.size + 4, s1.heap.objs.size + 2, s1.heap.objs.size + 3, s1.heap.objs.size, s1.heap.objs.size + 1], _, _, H1, rfl, I2, turn_zip2K k1 k2 (zip_sep2 (N := s1.heap.objs.size) (fp1 := [a1]) (fp2 := [a2]) (fun b hb => by rw [List.mem_singleton.mp hb]; exact hl1) (fun b hb => by rw [List.mem_singleton.mp hb]; exact hl2)) (Nat.ne_of_lt hl1) (Nat.ne_of_lt (Nat.lt_add_right 1 hl2)), ⟨hz, hTI, ⟨_, _, hTO⟩, .new g1, .new g2⟩, fr, q⟩
/-- the 3 rows as they stand at each turn, their items in new rows -/
def IzK3 (K : PySem.W.Frag) (k1 k2 k3 : Bool) (a1 a2 a3 : Addr) : It :=
  ⟨fun i H => ∃ (xs1 xs2 xs3 : List V) (x1 x2 x3 : V), SqK K k1 H a1 xs1 ∧ SqK K k2 H a2 xs2 ∧ SqK K k3 H a3 xs3 ∧ xs1[i]? = some x1 ∧ xs2[i]? = some x2 ∧ xs3[i]? = some x3,
    fun i H v H' => ∃ T x1 x2 x3, v = .ref T ∧ H T = none ∧ H' = upd H T (.tup [x1, x2, x3]) ∧ (∀ xs, SqK K k1 H a1 xs → xs[i]? = some x1) ∧ (∀ xs, SqK K k2 H a2 xs → xs[i]? = some x2) ∧ (∀ xs, SqK K k3 H a3 xs → xs[i]? = some x3),
    fun i H => ∃ xs1 xs2 xs3 : List V, SqK K k1 H a1 xs1 ∧ SqK K k2 H a2 xs2 ∧ SqK K k3 H a3 xs3 ∧ (xs1.length ≤ i ∨ xs2.length ≤ i ∨ xs3.length ≤ i)⟩
theorem turn_zip3K {P : Program} {w : World} {K : PySem.W.Frag} {elts : List Expr} {kk : Nat} {tpos : Pos} (k1 k2 k3 : Bool) {a1 a2 a3 z TI TO i1 i2 i3 : Addr} (S : ZipSep3 z TI TO i1 i2 i3 [i1, a1] [i2, a2] [i3, a3]) (n1 : a1 ≠ i1) (n2 : a2 ≠ i2) (n3 : a3 ≠ i3) :
    Turn P w K (.Tuple elts kk tpos) (IzK3 K k1 k2 k3 a1 a2 a3) [z, TI, TO, i1, i2, i3] z (fun i h => IsZip h z TI TO .none ∧ IsTupOf3 h TI (.ref i1) (.ref i2) (.ref i3) ∧ (∃ y1 y2 y3, IsTupOf3 h TO y1 y2 y3) ∧ ItK k1 h i1 a1 i ∧ ItK k2 h i2 a2 i ∧ ItK k3 h i3 a3 i) where
  mem := by simp
  obj := fun i h st c hc => by
    obtain ⟨hz, hTI, ⟨y1, y2, y3, hTO⟩, h1, h2, h3⟩ := st
    have e' : c = z ∨ c = TI ∨ c = TO ∨ c = i1 ∨ c = i2 ∨ c = i3 := by simpa using hc
    rcases e' with q | q | q | q | q | q
    · rw [q]; exact ⟨_, hz, fun v q => nomatch q⟩
    · rw [q]; exact ⟨_, hTI, fun v q => nomatch q⟩
    · rw [q]; exact ⟨_, hTO, fun v q => nomatch q⟩
    · rw [q]; exact h1.obj
    · rw [q]; exact h2.obj
    · rw [q]; exact h3.obj
  keep := fun i h h' st k => by
    obtain ⟨hz, hTI, ⟨y1, y2, y3, hTO⟩, h1, h2, h3⟩ := st
    exact ⟨k z (by simp) _ hz, k TI (by simp) _ hTI, ⟨y1, y2, y3, k TO (by simp) _ hTO⟩, h1.at fun o q => k i1 (by simp) o q, h2.at fun o q => k i2 (by simp) o q, h3.at fun o q => k i3 (by simp) o q⟩
  item := by
    intro X hP hw hK hc i pins s σ H E I hf st hg
    subst hP hw hK
    obtain ⟨hz, hTI, ⟨y1, y2, y3, hTO⟩, h1, h2, h3⟩ := st
    obtain ⟨xs1, xs2, xs3, x1, x2, x3, hq1, hq2, hq3, hx1, hx2, hx3⟩ := hg
    obtain ⟨its1, rv1, p1⟩ := hq1.its I
    obtain ⟨u1, hu1, ru1⟩ := rv1.get hx1
    have lt1 : i < its1.toArray.size := by
      have := (List.getElem?_eq_some_iff.mp hu1).1
      simpa using this
    obtain ⟨its2, rv2, p2⟩ := hq2.its I
    obtain ⟨u2, hu2, ru2⟩ := rv2.get hx2
    have lt2 : i < its2.toArray.size := by
      have := (List.getElem?_eq_some_iff.mp hu2).1
      simpa using this
    obtain ⟨its3, rv3, p3⟩ := hq3.its I
    obtain ⟨u3, hu3, ru3⟩ := rv3.get hx3
    have lt3 : i < its3.toArray.size := by
      have := (List.getElem?_eq_some_iff.mp hu3).1
      simpa using this
    have hzl : z < s.heap.objs.size := Heap.lt_size hz
    refine wpAny_pyNext_zipD3_item S (drawsK (A := X.A.in1) k1 (I.ok.hd hc) i1 a1 n1 its1.toArray) (drawsK (A := X.A.in1) k2 (I.ok.hd hc) i2 a2 n2 its2.toArray) (drawsK (A := X.A.in1) k3 (I.ok.hd hc) i3 a3 n3 its3.toArray) hz hTI hTO ⟨h1, p1⟩ ⟨h2, p2⟩ ⟨h3, p3⟩ lt1 lt2 lt3 fun v1 v2 v3 h' tk hP1 hP2 hP3 z' TO' st1 st2 st3 hT hsz hk => ?_
    obtain rfl : u1 = v1 := Option.some.inj (hu1.symm.trans (by simpa using hP1))
    obtain rfl : u2 = v2 := Option.some.inj (hu2.symm.trans (by simpa using hP2))
    obtain rfl : u3 = v3 := Option.some.inj (hu3.symm.trans (by simpa using hP3))
    refine ⟨_, rfl, wpAny_letOwnedTupleGo_zip (s := { s with heap := h', toks := tk }) z' fun h'' z'' sb => ?_⟩
    have hT2 : h''.get? s.heap.objs.size = some { cls := .type "tuple", data := .seq #[u1, u2, u3] } := (sb.2 _ (Nat.ne_of_gt hzl)).trans hT
    have new : ObjOk X.prog X.w (upd H s.heap.objs.size (.tup [x1, x2, x3])) h'' s.heap.objs.size (.tup [x1, x2, x3]) :=
      ⟨by show 3 ≤ sizeLine; decide, [u1, u2, u3], .cons ru1 (.cons ru2 (.cons ru3 .nil)), ⟨_, hT2, rfl, _, rfl⟩⟩
    have I1 : Inv X pins σ (upd H s.heap.objs.size (.tup [x1, x2, x3])) { s with heap := h'', toks := tk } :=
      I.turnedNew (ch := [z, TI, TO, i1, i2, i3]) (fun c o hb q => (sb.2 c (fun q' => hb (by simp [q']))).trans (hk c o (fun q' => hb (by simp [q'])) (fun q' => hb (by simp [q'])) (fun q' => hb (by simp [q'])) (fun q' => hb (by simp [q'])) (fun q' => hb (by simp [q'])) q)) hf (Nat.le_refl _) new
    refine ⟨.ref s.heap.objs.size, _, I1, rfl, ⟨_, x1, x2, x3, rfl, I.hok.fresh (Nat.le_refl _), rfl, fun l hl => by rw [SqK.inj I hl hq1]; exact hx1, fun l hl => by rw [SqK.inj I hl hq2]; exact hx2, fun l hl => by rw [SqK.inj I hl hq3]; exact hx3⟩, ⟨z'', ?_, ⟨u1, u2, u3, ?_⟩, st1.1.at fun o q => (sb.2 _ S.zi1.symm).trans q, st2.1.at fun o q => (sb.2 _ S.zi2.symm).trans q, st3.1.at fun o q => (sb.2 _ S.zi3.symm).trans q⟩, fun c hcm => ?_⟩
    · exact (sb.2 _ S.TIz).trans (hk _ _ S.TIz S.TITO S.TIi1 S.TIi2 S.TIi3 hTI)
    · exact (sb.2 _ S.TOz).trans TO'
    · have hlt : c < s.heap.objs.size := by
        have e' : c = z ∨ c = TI ∨ c = TO ∨ c = i1 ∨ c = i2 ∨ c = i3 := by simpa using hcm
        rcases e' with q | q | q | q | q | q
        · rw [q]; exact hzl
        · rw [q]; exact Heap.lt_size hTI
        · rw [q]; exact Heap.lt_size hTO
        · rw [q]; obtain ⟨_, e1, _⟩ := h1.obj; exact Heap.lt_size e1
        · rw [q]; obtain ⟨_, e1, _⟩ := h2.obj; exact Heap.lt_size e1
        · rw [q]; obtain ⟨_, e1, _⟩ := h3.obj; exact Heap.lt_size e1
      rw [upd_ne (Nat.ne_of_lt hlt)]
      exact (hf c hcm).1
  done := by
    intro X hP hw hK hc i pins s σ H E I hf st hg
    subst hP hw hK
    obtain ⟨hz, hTI, ⟨y1, y2, y3, hTO⟩, h1, h2, h3⟩ := st
    obtain ⟨xs1, xs2, xs3, hq1, hq2, hq3, hend⟩ := hg
    obtain ⟨its1, rv1, p1⟩ := hq1.its I
    have l1 := rv1.length
    obtain ⟨m1, P1, St1, D1, s1, b1, e1⟩ := drawsU (A := X.A.in1) (w := X.w) (prog := X.prog) k1 (I.ok.hd hc) i1 a1 n1 its1.toArray i s.heap h1 p1
    obtain ⟨its2, rv2, p2⟩ := hq2.its I
    have l2 := rv2.length
    obtain ⟨m2, P2, St2, D2, s2, b2, e2⟩ := drawsU (A := X.A.in1) (w := X.w) (prog := X.prog) k2 (I.ok.hd hc) i2 a2 n2 its2.toArray i s.heap h2 p2
    obtain ⟨its3, rv3, p3⟩ := hq3.its I
    have l3 := rv3.length
    obtain ⟨m3, P3, St3, D3, s3, b3, e3⟩ := drawsU (A := X.A.in1) (w := X.w) (prog := X.prog) k3 (I.ok.hd hc) i3 a3 n3 its3.toArray i s.heap h3 p3
    exact wpAny_pyNext_zipD3_end S D1 D2 D3 hz hTI hTO s1 s2 s3 b1 b2 b3 (by simp only [List.size_toArray] at *; omega) fun h' tk hk => ⟨rfl, I.turnedL (t' := tk) (ch := [z, TI, TO, i1, i2, i3]) (fun c o hb q =>
      hk c o (fun q' => hb (by simp [q'])) (fun q' => hb (by simp [q'])) (fun q' => hb (by simp [q'])) (fun q' => hb (by simp [q'])) (fun q' => hb (by simp [q'])) q) hf⟩
  self := fun A i s Q E st h => wpAny_pyIter_zip st.1 h
def iZip3K (K : PySem.W.Frag) (ta : TA) : TI := fun σ H R => ta σ H fun vs H1 => ∃ k1 k2 k3 a1 a2 a3 xs1 xs2 xs3, vs = [.ref a1, .ref a2, .ref a3] ∧ SqK K k1 H1 a1 xs1 ∧ SqK K k2 H1 a2 xs2 ∧ SqK K k3 H1 a3 xs3 ∧ R (IzK3 K k1 k2 k3 a1 a2 a3) H1
theorem pi_zip3K {X : Cx} {e1 e2 e3 : Expr} {ta : TA} {p pos tpos : Pos} {elts : List Expr} {kk : Nat} (hg : Gl X "zip") (hm : X.mg "zip" = none) (ha : PA X [e1, e2, e3] ta)
    (hs : starEach [e1, e2, e3] X.env = (false, eval e1 X.env) :: starEach [e2, e3] X.env := by rfl) (hpl : (backTo pos (starEach [e2, e3] X.env)).any (·.1) = false := by rfl) :
    PI X (.Tuple elts kk tpos) (.Call (.Name "zip" p) [e1, e2, e3] [] pos) (iZip3K X.K ta) := by
  refine ⟨fun pins s σ H R I h => ?_⟩
  refine Call_ (ld_blt I hg hm PyProof.Rows.boot_zip (PyProof.Rows.callWith_type1 (thn (ha.run pos pins s σ H _ I h) fun us s1 ⟨vs, H1, I1, r1, q1⟩ => ?_) hs hpl))
  obtain ⟨k1, k2, k3, a1, a2, a3, xs1, xs2, xs3, ex, hq1, hq2, hq3, q⟩ := q1
  subst ex
  have eu : us = [Value.ref a1, Value.ref a2, Value.ref a3] := by
    cases r1 with | cons ra1 rr1 => cases rr1 with | cons ra2 rr2 => cases rr2 with | cons ra3 rr3 => (cases rr3; cases ra1; cases ra2; cases ra3; rfl)
  subst eu
  have fr : ∀ c, c ∈ [s1.heap.objs.size + 5, s1.heap.objs.size + 3, s1.heap.objs.size + 4, s1.heap.objs.size, s1.heap.objs.size + 1, s1.heap.objs.size + 2] → FpOk X pins H1 c := fun c hcm => by
    have e' : c = s1.heap.objs.size + 5 ∨ c = s1.heap.objs.size + 3 ∨ c = s1.heap.objs.size + 4 ∨ c = s1.heap.objs.size ∨ c = s1.heap.objs.size + 1 ∨ c = s1.heap.objs.size + 2 := by simpa using hcm
    have hle : s1.heap.objs.size ≤ c := by
      rcases e' with z | z | z | z | z | z <;> (rw [z]; first | exact Nat.le_add_right _ _ | exact Nat.le_refl _)
    exact I1.fpOk hle (I1.hok.fresh hle)
  obtain ⟨its1, rv1, p1⟩ := hq1.its I1
  obtain ⟨o1, ho1⟩ := p1.obj
  have hl1 : a1 < s1.heap.objs.size := Heap.lt_size ho1
  obtain ⟨its2, rv2, p2⟩ := hq2.its I1
  obtain ⟨o2, ho2⟩ := p2.obj
  have hl2 : a2 < s1.heap.objs.size := Heap.lt_size ho2
  obtain ⟨its3, rv3, p3⟩ := hq3.its I1
  obtain ⟨o3, ho3⟩ := p3.obj
  have hl3 : a3 < s1.heap.objs.size := Heap.lt_size ho3
  refine zip_begins3 (beginsK k1 a1 its1.toArray) (beginsK k2 a2 its2.toArray) (beginsK k3 a3 its3.toArray) p1 p2 p3 fun h' hz hTI hTO g1 g2 g3 hsz hk => wpAny_pyIter_zip hz ?_
  have I2 : Inv X pins σ H1 { s1 with heap := h' } := I1.kept (t' := s1.toks) hk
  exact ⟨s1.heap.objs.size + 5, [s1.heap.objs.size + 5, s1.heap.objs.size + 3, s1.heap.objs.size + 4, s1.heap.objs.size, s1.heap.objs.size + 1, s1.heap.objs.size + 2], _, _, H1, rfl, I2, turn_zip3K k1 k2 k3 (zip_sep3 (N := s1.heap.objs.size) (fp1 := [a1]) (fp2 := [a2]) (fp3 := [a3]) (fun b hb => by rw [List.mem_singleton.mp hb]; exact hl1) (fun b hb => by rw [List.mem_singleton.mp hb]; exact hl2) (fun b hb => by rw [List.mem_singleton.mp hb]; exact hl3)) (Nat.ne_of_lt hl1) (Nat.ne_of_lt (Nat.lt_add_right 1 hl2)) (Nat.ne_of_lt (Nat.lt_add_right 2 hl3)), ⟨hz, hTI, ⟨_, _, _, hTO⟩, .new g1, .new g2, .new g3⟩, fr, q⟩
end Pu

namespace Pu
open PySem PySem.Spec PyProof.Rows L2
variable [Tb]
/-! ### enumerate and zip of data: any mix of lists and tuples -/
def rowsR : List D → R (List (List D))
  | [] => ok []
  | .list xs :: l => bd (rowsR l) fun r => ok (xs :: r)
  | .tuple xs :: l => bd (rowsR l) fun r => ok (xs :: r)
  | _ :: _ => fail
def zip3D (xs ys zs : List D) : List D := List.zipWith (fun (p : D × D) z => .tuple [p.1, p.2, z]) (xs.zip ys) zs
def zip2R (l : List D) : R (List D) := bd (rowsR l) fun r => match r with
  | [xs, ys] => bd (req (xs.length ≤ sizeLine)) fun _ => ok (zipD xs ys)
  | _ => fail
def zip3R (l : List D) : R (List D) := bd (rowsR l) fun r => match r with
  | [xs, ys, zs] => bd (req (xs.length ≤ sizeLine)) fun _ => ok (zip3D xs ys zs)
  | _ => fail
def enumAR (l : List D) : R (List D) := bd (rowsR l) fun r => match r with
  | [xs] => bd (req (xs.length ≤ sizeLine)) fun _ => ok (enumD xs)
  | _ => fail
inductive RwAll : List D → List (List D) → Prop
  | nil : RwAll [] []
  | cons {d : D} {xs : List D} {l : List D} {r : List (List D)} : (d = .list xs ∨ d = .tuple xs) → RwAll l r → RwAll (d :: l) (xs :: r)
theorem rowsR_inv : ∀ {l : List D} {post : List (List D) → Prop}, rowsR l post → ∃ r, post r ∧ RwAll l r := by
  intro l
  induction l with
  | nil => intro post h; exact ⟨[], h, .nil⟩
  | cons d l ih =>
    intro post h
    cases d <;> try exact h.elim
    · obtain ⟨r, hr, f⟩ := ih (post := fun r => post (_ :: r)) h
      exact ⟨_, hr, .cons (.inl rfl) f⟩
    · obtain ⟨r, hr, f⟩ := ih (post := fun r => post (_ :: r)) h
      exact ⟨_, hr, .cons (.inr rfl) f⟩
def Rw (d : D) (xs : List D) : Prop := d = .list xs ∨ d = .tuple xs
theorem enumAR_inv {l : List D} {post : List D → Prop} (h : enumAR l post) : ∃ d xs, l = [d] ∧ Rw d xs ∧ xs.length ≤ sizeLine ∧ post (enumD xs) := by
  obtain ⟨r, hr, f⟩ := rowsR_inv h
  cases f with
  | nil => exact hr.elim
  | cons h1 f =>
    cases f with
    | nil => exact ⟨_, _, rfl, h1, hr.1, hr.2⟩
    | cons _ _ => exact hr.elim
theorem zip2R_inv {l : List D} {post : List D → Prop} (h : zip2R l post) : ∃ d d' xs ys, l = [d, d'] ∧ Rw d xs ∧ Rw d' ys ∧ xs.length ≤ sizeLine ∧ post (zipD xs ys) := by
  obtain ⟨r, hr, f⟩ := rowsR_inv h
  cases f with
  | nil => exact hr.elim
  | cons h1 f =>
    cases f with
    | nil => exact hr.elim
    | cons h2 f =>
      cases f with
      | nil => exact ⟨_, _, _, _, rfl, h1, h2, hr.1, hr.2⟩
      | cons _ _ => exact hr.elim
theorem zip3R_inv {l : List D} {post : List D → Prop} (h : zip3R l post) : ∃ d d' d3 xs ys zs, l = [d, d', d3] ∧ Rw d xs ∧ Rw d' ys ∧ Rw d3 zs ∧ xs.length ≤ sizeLine ∧ post (zip3D xs ys zs) := by
  obtain ⟨r, hr, f⟩ := rowsR_inv h
  cases f with
  | nil => exact hr.elim
  | cons h1 f =>
    cases f with
    | nil => exact hr.elim
    | cons h2 f =>
      cases f with
      | nil => exact hr.elim
      | cons h3 f =>
        cases f with
        | nil => exact ⟨_, _, _, _, _, _, rfl, h1, h2, h3, hr.1, hr.2⟩
        | cons _ _ => exact hr.elim
theorem rowF {K : PySem.W.Frag} {c : Ct} {G : Hp} {v : V} {d : D} {ds : List D} (h : Dq K G v d) (e : d = .list ds ∨ d = .tuple ds) : ∃ k a xs, v = .ref a ∧ (∀ G2 H2, Le G G2 → W0 c.E G2 H2 → SqK K k H2 a xs) ∧ DqAll K G xs ds := by
  rcases e with rfl | rfl
  · cases h with
    | lst s1 q1 => exact ⟨true, _, _, rfl, fun G2 H2 l w2 => .of (w2.sub _ _ (l _ _ s1)), q1⟩
  · cases h with
    | tup s1 q1 => exact ⟨false, _, _, rfl, fun G2 H2 l w2 => sqT_mono w2.sub (sqD_mono l s1), q1⟩
theorem rowB {K : PySem.W.Frag} {c : Ct} {G H : Hp} {v : V} {d : D} {ds : List D} (w : W0 c.E G H) (h : Bv K c G H v d) (e : d = .list ds ∨ d = .tuple ds) : ∃ k a xs, v = .ref a ∧ (∀ G2 H2, Ext c.E G H G2 H2 → W0 c.E G2 H2 → SqK K k H2 a xs) ∧ DqAll K G xs ds := by
  rcases e with rfl | rfl
  · obtain ⟨p1, vs1, rfl, s1, q1, n1⟩ := h.lst w
    exact ⟨true, _, _, rfl, fun G2 H2 l w2 => .of (l.h _ _ s1 n1), q1⟩
  · obtain ⟨p1, vs1, rfl, s1, q1⟩ := h.tup
    exact ⟨false, _, _, rfl, fun G2 H2 l w2 => sqT_mono w2.sub (sqD_mono l.g s1), q1⟩
theorem wks_enumK {K : PySem.W.Frag} {c : Ct} {k : Bool} {a : Addr} {xs : List V} {ds : List D} {Rel : Hp → Hp → Prop} (h : ∀ G H, Rel G H → W0 c.E G H → SqK K k H a xs ∧ DqAll K G xs ds) : Wks K c (IteK K k a) Rel (enumD ds) := by
  intro i G H r w
  obtain ⟨h1, k1⟩ := h G H r w
  refine ⟨fun d hd => ?_, fun hl => ⟨xs, h1, by rw [enum_len, ← k1.length] at hl; exact hl⟩⟩
  obtain ⟨x, e1, rfl⟩ := enum_get hd
  obtain ⟨v, f1, d1⟩ := k1.get e1
  refine ⟨⟨xs, v, h1, f1⟩, fun z H1 yl => ?_⟩
  obtain ⟨T, v', rfl, n, rfl, g1⟩ := yl
  obtain rfl : v' = v := Option.some.inj ((g1 _ h1).symm.trans f1)
  exact pair_new w n (.int _) d1
theorem wks_zip2K {K : PySem.W.Frag} {c : Ct} {k1 k2 : Bool} {a b : Addr} {xs ys : List V} {ds es : List D} {Rel : Hp → Hp → Prop} (h : ∀ G H, Rel G H → W0 c.E G H → (SqK K k1 H a xs ∧ SqK K k2 H b ys) ∧ DqAll K G xs ds ∧ DqAll K G ys es) : Wks K c (IzK2 K k1 k2 a b) Rel (zipD ds es) := by
  intro i G H r w
  obtain ⟨⟨h1, h2⟩, q1, q2⟩ := h G H r w
  refine ⟨fun d hd => ?_, fun hl => ⟨xs, ys, h1, h2, by rw [zip_len, ← q1.length, ← q2.length] at hl; omega⟩⟩
  obtain ⟨x, y, e1, e2, rfl⟩ := zip_get hd
  obtain ⟨v, f1, d1⟩ := q1.get e1
  obtain ⟨u, f2, d2⟩ := q2.get e2
  refine ⟨⟨xs, ys, v, u, h1, h2, f1, f2⟩, fun z H1 yl => ?_⟩
  obtain ⟨T, v', u', rfl, n, rfl, g1, g2⟩ := yl
  obtain rfl : v' = v := Option.some.inj ((g1 _ h1).symm.trans f1)
  obtain rfl : u' = u := Option.some.inj ((g2 _ h2).symm.trans f2)
  exact pair_new w n d1 d2
theorem zip3_get {xs ys zs : List D} {i : Nat} {d : D} (h : (zip3D xs ys zs)[i]? = some d) : ∃ x y z, xs[i]? = some x ∧ ys[i]? = some y ∧ zs[i]? = some z ∧ d = .tuple [x, y, z] := by
  unfold zip3D at h
  rw [List.getElem?_zipWith, List.zip, List.getElem?_zipWith] at h
  cases hx : xs[i]? with
  | none => rw [hx] at h; cases h
  | some x =>
    cases hy : ys[i]? with
    | none => rw [hx, hy] at h; cases h
    | some y =>
      cases hz : zs[i]? with
      | none => rw [hx, hy, hz] at h; cases h
      | some z => rw [hx, hy, hz] at h; cases h; exact ⟨x, y, z, rfl, rfl, rfl, rfl⟩
theorem zip3_len (xs ys zs : List D) : (zip3D xs ys zs).length = min (min xs.length ys.length) zs.length := by simp [zip3D]
theorem tri_new {K : PySem.W.Frag} {c : Ct} {G H : Hp} {T : Addr} {v u t : V} {x y z : D} (w : W0 c.E G H) (n : H T = none) (k1 : Dq K G v x) (k2 : Dq K G u y) (k3 : Dq K G t z) : ∃ G1, Ext c.E G H G1 (upd H T (.tup [v, u, t])) ∧ W0 c.E G1 (upd H T (.tup [v, u, t])) ∧ Dq K G1 (.ref T) (.tuple [x, y, z]) := by
  obtain ⟨w1, e1⟩ := w.newF n (.tup [v, u, t])
  exact ⟨_, e1, w1, .tup (.of upd_same) (.cons (k1.mono e1.g) (.cons (k2.mono e1.g) (.cons (k3.mono e1.g) .nil)))⟩
theorem wks_zip3K {K : PySem.W.Frag} {c : Ct} {k1 k2 k3 : Bool} {a b a3 : Addr} {xs ys zs : List V} {ds es fs : List D} {Rel : Hp → Hp → Prop} (h : ∀ G H, Rel G H → W0 c.E G H → (SqK K k1 H a xs ∧ SqK K k2 H b ys ∧ SqK K k3 H a3 zs) ∧ DqAll K G xs ds ∧ DqAll K G ys es ∧ DqAll K G zs fs) : Wks K c (IzK3 K k1 k2 k3 a b a3) Rel (zip3D ds es fs) := by
  intro i G H r w
  obtain ⟨⟨h1, h2, h3⟩, q1, q2, q3⟩ := h G H r w
  refine ⟨fun d hd => ?_, fun hl => ⟨xs, ys, zs, h1, h2, h3, by rw [zip3_len, ← q1.length, ← q2.length, ← q3.length] at hl; omega⟩⟩
  obtain ⟨x, y, z, e1, e2, e3, rfl⟩ := zip3_get hd
  obtain ⟨v, f1, d1⟩ := q1.get e1
  obtain ⟨u, f2, d2⟩ := q2.get e2
  obtain ⟨t, f3, d3⟩ := q3.get e3
  refine ⟨⟨xs, ys, zs, v, u, t, h1, h2, h3, f1, f2, f3⟩, fun z H1 yl => ?_⟩
  obtain ⟨T, v', u', t', rfl, n, rfl, g1, g2, g3⟩ := yl
  obtain rfl : v' = v := Option.some.inj ((g1 _ h1).symm.trans f1)
  obtain rfl : u' = u := Option.some.inj ((g2 _ h2).symm.trans f2)
  obtain rfl : t' = t := Option.some.inj ((g3 _ h3).symm.trans f3)
  exact tri_new w n d1 d2 d3
section
variable {X : Cx} {a b e : Expr} {pos p tpos : Pos} {elts : List Expr} {kk : Nat}
theorem iEA {f : List Sl → R (List D)} (hm : X.mg "enumerate" = none) (ha : PA X [a] (tAF X.K f)) (hg : Gl X "enumerate" := by rfl) (hs : starEach [a] X.env = [(false, eval a X.env)] := by rfl) : PI X (.Tuple elts kk tpos) (.Call (.Name "enumerate" p) [a] [] pos) (tIs X.K (m1 f enumAR)) :=
  PI.wk (pi_enumK hg hm ha hs) fun σ H R' ⟨c, G, ρ, post, w, r, hf, q⟩ => ⟨c, G, ρ, _, w, r, hf, fun ds hds vs G1 H1 e1 w1 b1 => by
    obtain ⟨d, xs, rfl, h1, hr⟩ := enumAR_inv hds
    · skip
      obtain ⟨v, rfl, k1⟩ := b1.one1
      obtain ⟨k, a', vs', rfl, s1, q1⟩ := rowF (c := c) k1 h1
      exact ⟨k, _, _, rfl, s1 G1 H1 (fun _ _ h => h) w1, q _ hr.2 (enum_le hr.1) _ G1 H1 e1 w1 (wks_enumK fun G2 H2 l w2 => ⟨s1 G2 H2 l w2, q1.mono l⟩)⟩⟩
theorem iEAB {f : List Sl → R (List D)} (hm : X.mg "enumerate" = none) (ha : PA X [a] (tAB X.K f)) (hg : Gl X "enumerate" := by rfl) (hs : starEach [a] X.env = [(false, eval a X.env)] := by rfl) : PI X (.Tuple elts kk tpos) (.Call (.Name "enumerate" p) [a] [] pos) (tIw X.K (m1 f enumAR)) :=
  PI.wk (pi_enumK hg hm ha hs) fun σ H R' ⟨c, G, ρ, post, w, r, hf, q⟩ => ⟨c, G, ρ, _, w, r, hf, fun ds hds vs G1 H1 e1 w1 b1 => by
    obtain ⟨d, xs, rfl, h1, hr⟩ := enumAR_inv hds
    · skip
      obtain ⟨v, rfl, k1⟩ := b1.one
      obtain ⟨k, a', vs', rfl, s1, q1⟩ := rowB w1 k1 h1
      exact ⟨k, _, _, rfl, s1 G1 H1 .refl w1, q _ hr.2 (enum_le hr.1) _ G1 H1 e1 w1 (wks_enumK fun G2 H2 l w2 => ⟨s1 G2 H2 l w2, q1.mono l.g⟩)⟩⟩
theorem iZ2 {f : List Sl → R (List D)} (hm : X.mg "zip" = none) (ha : PA X [a, b] (tAF X.K f)) (hg : Gl X "zip" := by rfl) (hs : starEach [a, b] X.env = (false, eval a X.env) :: starEach [b] X.env := by rfl) (hpl : (backTo pos (starEach [b] X.env)).any (·.1) = false := by rfl) : PI X (.Tuple elts kk tpos) (.Call (.Name "zip" p) [a, b] [] pos) (tIs X.K (m1 f zip2R)) :=
  PI.wk (pi_zip2K hg hm ha hs hpl) fun σ H R' ⟨c, G, ρ, post, w, r, hf, q⟩ => ⟨c, G, ρ, _, w, r, hf, fun ds hds vs G1 H1 e1 w1 b1 => by
    obtain ⟨d, d', xs, ys, rfl, h1, h2, hr⟩ := zip2R_inv hds
    · skip
      obtain ⟨v, u, rfl, k1, k2⟩ := b1.two
      obtain ⟨k, a', vs', rfl, s1, q1⟩ := rowF (c := c) k1 h1
      obtain ⟨k', b', us', rfl, s2, q2⟩ := rowF (c := c) k2 h2
      exact ⟨k, k', _, _, _, _, rfl, s1 G1 H1 (fun _ _ h => h) w1, s2 G1 H1 (fun _ _ h => h) w1, q _ hr.2 (zip_le hr.1) _ G1 H1 e1 w1 (wks_zip2K fun G2 H2 l w2 => ⟨⟨s1 G2 H2 l w2, s2 G2 H2 l w2⟩, q1.mono l, q2.mono l⟩)⟩⟩
theorem iZ2B {f : List Sl → R (List D)} (hm : X.mg "zip" = none) (ha : PA X [a, b] (tAB X.K f)) (hg : Gl X "zip" := by rfl) (hs : starEach [a, b] X.env = (false, eval a X.env) :: starEach [b] X.env := by rfl) (hpl : (backTo pos (starEach [b] X.env)).any (·.1) = false := by rfl) : PI X (.Tuple elts kk tpos) (.Call (.Name "zip" p) [a, b] [] pos) (tIw X.K (m1 f zip2R)) :=
  PI.wk (pi_zip2K hg hm ha hs hpl) fun σ H R' ⟨c, G, ρ, post, w, r, hf, q⟩ => ⟨c, G, ρ, _, w, r, hf, fun ds hds vs G1 H1 e1 w1 b1 => by
    obtain ⟨d, d', xs, ys, rfl, h1, h2, hr⟩ := zip2R_inv hds
    · skip
      obtain ⟨v, u, rfl, k1, k2⟩ := b1.two
      obtain ⟨k, a', vs', rfl, s1, q1⟩ := rowB w1 k1 h1
      obtain ⟨k', b', us', rfl, s2, q2⟩ := rowB w1 k2 h2
      exact ⟨k, k', _, _, _, _, rfl, s1 G1 H1 .refl w1, s2 G1 H1 .refl w1, q _ hr.2 (zip_le hr.1) _ G1 H1 e1 w1 (wks_zip2K fun G2 H2 l w2 => ⟨⟨s1 G2 H2 l w2, s2 G2 H2 l w2⟩, q1.mono l.g, q2.mono l.g⟩)⟩⟩
end
end Pu

namespace Pu
open PySem PySem.Spec PyProof.Rows L2
variable [Tb]
/-! ### next of a zip whose last row is still held -/
section
variable {prog : Program} {w : World} {A : Around} {E : Value → Shared → Prop} {s : Shared} {z TI TO T i1 i2 : Addr} {f : Bool} {oT : Obj} {fp1 : List Addr} {fp2 : List Addr} {i n1 n2 : Nat} {P1 : Nat → Value → Prop} {P2 : Nat → Value → Prop} {St1 : Nat → Heap → Prop} {St2 : Nat → Heap → Prop}
theorem zip2_held_item {Q : Value → Shared → Prop} (S : ZipSep2 z TI TO i1 i2 fp1 fp2) (D1 : Draws prog w A i1 fp1 n1 P1 St1) (D2 : Draws prog w A i2 fp2 n2 P2 St2) (hz : IsZipHeld s.heap z TI TO T f) (hT : s.heap.get? T = some oT) (hTI : IsTupOf2 s.heap TI (.ref i1) (.ref i2)) (st1 : St1 i s.heap) (st2 : St2 i s.heap) (lt1 : i < n1) (lt2 : i < n2)
    (hQ : ∀ x1 x2 h' tk, P1 i x1 → P2 i x2 → IsZipHeld h' z TI TO T true → St1 (i + 1) h' → St2 (i + 1) h' → IsTupOf2 h' s.heap.objs.size x1 x2 → h'.objs.size = s.heap.objs.size + 1 →
      (∀ c o, c ≠ z → c ≠ i1 → c ≠ i2 → s.heap.get? c = some o → h'.get? c = some o) → Q (.ref s.heap.objs.size) { s with heap := h', toks := tk }) :
    wpAny (model prog w) A (Builtin.«zip.__next__» ⟨[.ref z], []⟩) (fun fin s' => ∃ v, fin = .done (.ret v) ∧ Q v s') E s := by
  obtain ⟨hp, gg, dd, tk0, os⟩ := s
  show wpAny _ _ (field (.ref z) 2 >>= _) _ _ _
  refine wpAny_bind (wpAny_field hz rfl (x := .bool false) rfl ?_)
  show wpAny _ _ (field (.ref z) 3 >>= _) _ _ _
  refine wpAny_bind (wpAny_field hz rfl (x := .ref TI) rfl ?_)
  refine wpAny_bind (wpAny_seqItems hTI rfl ?_)
  show wpAny _ _ (Builtin.SmallTypes.ownedTupleIsFree (.ref z) >>= _) _ _ _
  refine wpAny_bind (wpAny_tupleHeld_zip hz hT fun g0 hz0 hs0 => ?_)
  replace hs0 : Heap.SameBut z hp g0 := hs0
  simp only [Bool.false_eq_true, if_false]
  refine wpAny_bind ?_
  rw [← Array.forIn_toList]
  simp only [List.forIn_cons, List.forIn_nil]
  have c1_0 : St1 i g0 := D1.over st1 hs0 S.zf1
  have c2_0 : St2 i g0 := D2.over st2 hs0 S.zf2
  refine wpAny_bind (wpAny_bind (wpAny_holding ?_))
  show wpAny _ _ (Builtin.SmallTypes.nextOf (.ref i1) >>= _) _ _ _
  refine wpAny_bind (D1.item i ⟨g0, gg, dd, tk0, os⟩ _ _ lt1 c1_0 fun y1 g1 tk1 hy1 su1 hs1 => wpAny_pure ?_)
  replace hs1 : Heap.SameBut i1 g0 g1 := hs1
  have c2_1 : St2 i g1 := D2.over c2_0 hs1 S.sep1_2
  refine wpAny_pure ?_
  refine wpAny_bind (wpAny_bind (wpAny_holding ?_))
  show wpAny _ _ (Builtin.SmallTypes.nextOf (.ref i2) >>= _) _ _ _
  refine wpAny_bind (D2.item i ⟨g1, gg, dd, tk1, os⟩ _ _ lt2 c2_1 fun y2 g2 tk2 hy2 su2 hs2 => wpAny_pure ?_)
  replace hs2 : Heap.SameBut i2 g1 g2 := hs2
  have d1_2 : St1 (i + 1) g2 := D1.over su1 hs2 S.sep2_1
  refine wpAny_pure (wpAny_pure ?_)
  show wpAny _ _ (newTuple [y1, y2] >>= _) _ _ _
  refine wpAny_bind (wpAny_newTuple ?_)
  have hsz : g2.objs.size = hp.objs.size := by rw [hs2.1, hs1.1, hs0.1]
  have hzz : IsZipHeld g2 z TI TO T true := hs2.extBut _ _ S.zi2 (hs1.extBut _ _ S.zi1 (hz0))
  have hk : ∀ c o, c ≠ z → c ≠ i1 → c ≠ i2 → hp.get? c = some o → g2.get? c = some o := fun c o c0 c1 c2 e => hs2.extBut _ _ c2 (hs1.extBut _ _ c1 (hs0.extBut _ _ c0 e))
  refine wpAny_pure ⟨_, rfl, ?_⟩
  show Q (.ref g2.objs.size) _
  have hpp : IsTupOf2 (g2.push { cls := .type "tuple", data := .seq #[y1, y2] }) g2.objs.size y1 y2 := Heap.get?_push_size _ rfl
  have hp4 : (g2.push { cls := .type "tuple", data := .seq #[y1, y2] }).objs.size = g2.objs.size + 1 := Heap.size_push ..
  rw [hsz] at hpp hp4 ⊢
  exact hQ y1 y2 _ tk2 hy1 hy2 (Heap.get?_push_of_some _ hzz) (D1.frame _ _ _ d1_2 fun b _ o e => Heap.get?_push_of_some _ e) (D2.frame _ _ _ su2 fun b _ o e => Heap.get?_push_of_some _ e) hpp hp4 fun c o c0 c1 c2 e => Heap.get?_push_of_some _ (hk c o c0 c1 c2 e)
theorem zip2_held {Q : Option Value → Shared → Prop} (S : ZipSep2 z TI TO i1 i2 fp1 fp2) (D1 : Draws prog w A.in1 i1 fp1 n1 P1 St1) (D2 : Draws prog w A.in1 i2 fp2 n2 P2 St2) (hz : IsZipHeld s.heap z TI TO T f) (hT : s.heap.get? T = some oT) (hTI : IsTupOf2 s.heap TI (.ref i1) (.ref i2)) (st1 : St1 i s.heap) (st2 : St2 i s.heap) (lt1 : i < n1) (lt2 : i < n2)
    (hQ : ∀ x1 x2 h' tk, P1 i x1 → P2 i x2 → IsZipHeld h' z TI TO T true → St1 (i + 1) h' → St2 (i + 1) h' → IsTupOf2 h' s.heap.objs.size x1 x2 → h'.objs.size = s.heap.objs.size + 1 →
      (∀ c o, c ≠ z → c ≠ i1 → c ≠ i2 → s.heap.get? c = some o → h'.get? c = some o) → Q (some (.ref s.heap.objs.size)) { s with heap := h', toks := tk }) :
    wpAny (model prog w) A (pyNext (.ref z)) Q E s := by
  have hTy : s.TypeIs (.ref z) "zip" := ⟨_, hz, rfl⟩
  unfold pyNext
  exact wpAny_bind (wpAny_attempt (wpAny_callSpecial?_slot (name := Str.ofString "__next__") hTy F.slot_zip_next
    (wpAny_call_entry F.slot_zip_next hTy F.entry_zip_next
      (zip2_held_item S D1 D2 hz hT hTI st1 st2 lt1 lt2 fun x1 x2 h' tk p1 p2 b1 d1 d2 b5 b6 b7 => wpAny_pure (hQ x1 x2 h' tk p1 p2 b1 d1 d2 b5 b6 b7)) (F.args_zip_next_1 _))))
theorem zip2_held_end_ {Q : Fin → Shared → Prop} (S : ZipSep2 z TI TO i1 i2 fp1 fp2) (D1 : Draws prog w A i1 fp1 n1 P1 St1) (D2 : Draws prog w A i2 fp2 n2 P2 St2) (hz : IsZipHeld s.heap z TI TO T f) (hT : s.heap.get? T = some oT) (hTI : IsTupOf2 s.heap TI (.ref i1) (.ref i2)) (st1 : St1 i s.heap) (st2 : St2 i s.heap) (le1 : i ≤ n1) (le2 : i ≤ n2) (hend : i = n1 ∨ i = n2)
    (hE : ∀ h' tk e, (∀ c o, c ≠ z → c ≠ i1 → c ≠ i2 → s.heap.get? c = some o → h'.get? c = some o) → (∃ o, h'.get? e = some o ∧ o.cls = .type "StopIteration") → E (.ref e) { s with heap := h', toks := tk }) :
    wpAny (model prog w) A (Builtin.«zip.__next__» ⟨[.ref z], []⟩) Q E s := by
  obtain ⟨hp, gg, dd, tk0, os⟩ := s
  show wpAny _ _ (field (.ref z) 2 >>= _) _ _ _
  refine wpAny_bind (wpAny_field hz rfl (x := .bool false) rfl ?_)
  show wpAny _ _ (field (.ref z) 3 >>= _) _ _ _
  refine wpAny_bind (wpAny_field hz rfl (x := .ref TI) rfl ?_)
  refine wpAny_bind (wpAny_seqItems hTI rfl ?_)
  show wpAny _ _ (Builtin.SmallTypes.ownedTupleIsFree (.ref z) >>= _) _ _ _
  refine wpAny_bind (wpAny_tupleHeld_zip hz hT fun g0 hz0 hs0 => ?_)
  replace hs0 : Heap.SameBut z hp g0 := hs0
  simp only [Bool.false_eq_true, if_false]
  refine wpAny_bind ?_
  rw [← Array.forIn_toList]
  simp only [List.forIn_cons, List.forIn_nil]
  have c1_0 : St1 i g0 := D1.over st1 hs0 S.zf1
  have c2_0 : St2 i g0 := D2.over st2 hs0 S.zf2
  refine wpAny_bind (wpAny_bind (wpAny_holding ?_))
  show wpAny _ _ (Builtin.SmallTypes.nextOf (.ref i1) >>= _) _ _ _
  by_cases eq1 : i = n1
  · obtain rfl := eq1
    refine wpAny_bind (D1.done ⟨g0, gg, dd, tk0, os⟩ _ _ c1_0 fun g' e hx he => ?_)
    exact hE g' tk0 e (fun c o c0 c1 c2 x => hx _ _ c1 (hs0.extBut _ _ c0 x)) he
  refine wpAny_bind (D1.item i ⟨g0, gg, dd, tk0, os⟩ _ _ (by omega) c1_0 fun y1 g1 tk1 hy1 su1 hs1 => wpAny_pure ?_)
  replace hs1 : Heap.SameBut i1 g0 g1 := hs1
  have c2_1 : St2 i g1 := D2.over c2_0 hs1 S.sep1_2
  refine wpAny_pure ?_
  refine wpAny_bind (wpAny_bind (wpAny_holding ?_))
  show wpAny _ _ (Builtin.SmallTypes.nextOf (.ref i2) >>= _) _ _ _
  have eq2 : i = n2 := by omega
  · obtain rfl := eq2
    refine wpAny_bind (D2.done ⟨g1, gg, dd, tk1, os⟩ _ _ c2_1 fun g' e hx he => ?_)
    exact hE g' tk1 e (fun c o c0 c1 c2 x => hx _ _ c2 (hs1.extBut _ _ c1 (hs0.extBut _ _ c0 x))) he
theorem zip2_held_end {Q : Option Value → Shared → Prop} (S : ZipSep2 z TI TO i1 i2 fp1 fp2) (D1 : Draws prog w A.in1 i1 fp1 n1 P1 St1) (D2 : Draws prog w A.in1 i2 fp2 n2 P2 St2) (hz : IsZipHeld s.heap z TI TO T f) (hT : s.heap.get? T = some oT) (hTI : IsTupOf2 s.heap TI (.ref i1) (.ref i2)) (st1 : St1 i s.heap) (st2 : St2 i s.heap) (le1 : i ≤ n1) (le2 : i ≤ n2) (hend : i = n1 ∨ i = n2)
    (hQ : ∀ h' tk, (∀ c o, c ≠ z → c ≠ i1 → c ≠ i2 → s.heap.get? c = some o → h'.get? c = some o) → Q none { s with heap := h', toks := tk }) : wpAny (model prog w) A (pyNext (.ref z)) Q E s := by
  have hTy : s.TypeIs (.ref z) "zip" := ⟨_, hz, rfl⟩
  unfold pyNext
  refine wpAny_bind (wpAny_attempt (wpAny_callSpecial?_slot (name := Str.ofString "__next__") hTy F.slot_zip_next
    (wpAny_call_entry F.slot_zip_next hTy F.entry_zip_next (zip2_held_end_ S D1 D2 hz hT hTI st1 st2 le1 le2 hend fun h' tk e hk he => ?_) (F.args_zip_next_1 _))))
  obtain ⟨o, ho, hc⟩ := he
  refine wpAny_bind (wpAny_isInstance (T := "StopIteration") (b := true) ⟨o, ho, hc⟩ isSubtype_stop ?_)
  exact wpAny_pure (hQ _ _ hk)
end
section
variable {prog : Program} {w : World} {A : Around} {E : Value → Shared → Prop} {s : Shared} {z TI TO T i1 i2 i3 : Addr} {f : Bool} {oT : Obj} {fp1 : List Addr} {fp2 : List Addr} {fp3 : List Addr} {i n1 n2 n3 : Nat} {P1 : Nat → Value → Prop} {P2 : Nat → Value → Prop} {P3 : Nat → Value → Prop} {St1 : Nat → Heap → Prop} {St2 : Nat → Heap → Prop} {St3 : Nat → Heap → Prop}
theorem zip3_held_item {Q : Value → Shared → Prop} (S : ZipSep3 z TI TO i1 i2 i3 fp1 fp2 fp3) (D1 : Draws prog w A i1 fp1 n1 P1 St1) (D2 : Draws prog w A i2 fp2 n2 P2 St2) (D3 : Draws prog w A i3 fp3 n3 P3 St3) (hz : IsZipHeld s.heap z TI TO T f) (hT : s.heap.get? T = some oT) (hTI : IsTupOf3 s.heap TI (.ref i1) (.ref i2) (.ref i3)) (st1 : St1 i s.heap) (st2 : St2 i s.heap) (st3 : St3 i s.heap) (lt1 : i < n1) (lt2 : i < n2) (lt3 : i < n3)
    (hQ : ∀ x1 x2 x3 h' tk, P1 i x1 → P2 i x2 → P3 i x3 → IsZipHeld h' z TI TO T true → St1 (i + 1) h' → St2 (i + 1) h' → St3 (i + 1) h' → IsTupOf3 h' s.heap.objs.size x1 x2 x3 → h'.objs.size = s.heap.objs.size + 1 →
      (∀ c o, c ≠ z → c ≠ i1 → c ≠ i2 → c ≠ i3 → s.heap.get? c = some o → h'.get? c = some o) → Q (.ref s.heap.objs.size) { s with heap := h', toks := tk }) :
    wpAny (model prog w) A (Builtin.«zip.__next__» ⟨[.ref z], []⟩) (fun fin s' => ∃ v, fin = .done (.ret v) ∧ Q v s') E s := by
  obtain ⟨hp, gg, dd, tk0, os⟩ := s
  show wpAny _ _ (field (.ref z) 2 >>= _) _ _ _
  refine wpAny_bind (wpAny_field hz rfl (x := .bool false) rfl ?_)
  show wpAny _ _ (field (.ref z) 3 >>= _) _ _ _
  refine wpAny_bind (wpAny_field hz rfl (x := .ref TI) rfl ?_)
  refine wpAny_bind (wpAny_seqItems hTI rfl ?_)
  show wpAny _ _ (Builtin.SmallTypes.ownedTupleIsFree (.ref z) >>= _) _ _ _
  refine wpAny_bind (wpAny_tupleHeld_zip hz hT fun g0 hz0 hs0 => ?_)
  replace hs0 : Heap.SameBut z hp g0 := hs0
  simp only [Bool.false_eq_true, if_false]
  refine wpAny_bind ?_
  rw [← Array.forIn_toList]
  simp only [List.forIn_cons, List.forIn_nil]
  have c1_0 : St1 i g0 := D1.over st1 hs0 S.zf1
  have c2_0 : St2 i g0 := D2.over st2 hs0 S.zf2
  have c3_0 : St3 i g0 := D3.over st3 hs0 S.zf3
  refine wpAny_bind (wpAny_bind (wpAny_holding ?_))
  show wpAny _ _ (Builtin.SmallTypes.nextOf (.ref i1) >>= _) _ _ _
  refine wpAny_bind (D1.item i ⟨g0, gg, dd, tk0, os⟩ _ _ lt1 c1_0 fun y1 g1 tk1 hy1 su1 hs1 => wpAny_pure ?_)
  replace hs1 : Heap.SameBut i1 g0 g1 := hs1
  have c2_1 : St2 i g1 := D2.over c2_0 hs1 S.sep1_2
  have c3_1 : St3 i g1 := D3.over c3_0 hs1 S.sep1_3
  refine wpAny_pure ?_
  refine wpAny_bind (wpAny_bind (wpAny_holding ?_))
  show wpAny _ _ (Builtin.SmallTypes.nextOf (.ref i2) >>= _) _ _ _
  refine wpAny_bind (D2.item i ⟨g1, gg, dd, tk1, os⟩ _ _ lt2 c2_1 fun y2 g2 tk2 hy2 su2 hs2 => wpAny_pure ?_)
  replace hs2 : Heap.SameBut i2 g1 g2 := hs2
  have d1_2 : St1 (i + 1) g2 := D1.over su1 hs2 S.sep2_1
  have c3_2 : St3 i g2 := D3.over c3_1 hs2 S.sep2_3
  refine wpAny_pure ?_
  refine wpAny_bind (wpAny_bind (wpAny_holding ?_))
  show wpAny _ _ (Builtin.SmallTypes.nextOf (.ref i3) >>= _) _ _ _
  refine wpAny_bind (D3.item i ⟨g2, gg, dd, tk2, os⟩ _ _ lt3 c3_2 fun y3 g3 tk3 hy3 su3 hs3 => wpAny_pure ?_)
  replace hs3 : Heap.SameBut i3 g2 g3 := hs3
  have d1_3 : St1 (i + 1) g3 := D1.over d1_2 hs3 S.sep3_1
  have d2_3 : St2 (i + 1) g3 := D2.over su2 hs3 S.sep3_2
  refine wpAny_pure (wpAny_pure ?_)
  show wpAny _ _ (newTuple [y1, y2, y3] >>= _) _ _ _
  refine wpAny_bind (wpAny_newTuple ?_)
  have hsz : g3.objs.size = hp.objs.size := by rw [hs3.1, hs2.1, hs1.1, hs0.1]
  have hzz : IsZipHeld g3 z TI TO T true := hs3.extBut _ _ S.zi3 (hs2.extBut _ _ S.zi2 (hs1.extBut _ _ S.zi1 (hz0)))
  have hk : ∀ c o, c ≠ z → c ≠ i1 → c ≠ i2 → c ≠ i3 → hp.get? c = some o → g3.get? c = some o := fun c o c0 c1 c2 c3 e => hs3.extBut _ _ c3 (hs2.extBut _ _ c2 (hs1.extBut _ _ c1 (hs0.extBut _ _ c0 e)))
  refine wpAny_pure ⟨_, rfl, ?_⟩
  show Q (.ref g3.objs.size) _
  have hpp : IsTupOf3 (g3.push { cls := .type "tuple", data := .seq #[y1, y2, y3] }) g3.objs.size y1 y2 y3 := Heap.get?_push_size _ rfl
  have hp4 : (g3.push { cls := .type "tuple", data := .seq #[y1, y2, y3] }).objs.size = g3.objs.size + 1 := Heap.size_push ..
  rw [hsz] at hpp hp4 ⊢
  exact hQ y1 y2 y3 _ tk3 hy1 hy2 hy3 (Heap.get?_push_of_some _ hzz) (D1.frame _ _ _ d1_3 fun b _ o e => Heap.get?_push_of_some _ e) (D2.frame _ _ _ d2_3 fun b _ o e => Heap.get?_push_of_some _ e) (D3.frame _ _ _ su3 fun b _ o e => Heap.get?_push_of_some _ e) hpp hp4 fun c o c0 c1 c2 c3 e => Heap.get?_push_of_some _ (hk c o c0 c1 c2 c3 e)
theorem zip3_held {Q : Option Value → Shared → Prop} (S : ZipSep3 z TI TO i1 i2 i3 fp1 fp2 fp3) (D1 : Draws prog w A.in1 i1 fp1 n1 P1 St1) (D2 : Draws prog w A.in1 i2 fp2 n2 P2 St2) (D3 : Draws prog w A.in1 i3 fp3 n3 P3 St3) (hz : IsZipHeld s.heap z TI TO T f) (hT : s.heap.get? T = some oT) (hTI : IsTupOf3 s.heap TI (.ref i1) (.ref i2) (.ref i3)) (st1 : St1 i s.heap) (st2 : St2 i s.heap) (st3 : St3 i s.heap) (lt1 : i < n1) (lt2 : i < n2) (lt3 : i < n3)
    (hQ : ∀ x1 x2 x3 h' tk, P1 i x1 → P2 i x2 → P3 i x3 → IsZipHeld h' z TI TO T true → St1 (i + 1) h' → St2 (i + 1) h' → St3 (i + 1) h' → IsTupOf3 h' s.heap.objs.size x1 x2 x3 → h'.objs.size = s.heap.objs.size + 1 →
      (∀ c o, c ≠ z → c ≠ i1 → c ≠ i2 → c ≠ i3 → s.heap.get? c = some o → h'.get? c = some o) → Q (some (.ref s.heap.objs.size)) { s with heap := h', toks := tk }) :
    wpAny (model prog w) A (pyNext (.ref z)) Q E s := by
  have hTy : s.TypeIs (.ref z) "zip" := ⟨_, hz, rfl⟩
  unfold pyNext
  exact wpAny_bind (wpAny_attempt (wpAny_callSpecial?_slot (name := Str.ofString "__next__") hTy F.slot_zip_next
    (wpAny_call_entry F.slot_zip_next hTy F.entry_zip_next
      (zip3_held_item S D1 D2 D3 hz hT hTI st1 st2 st3 lt1 lt2 lt3 fun x1 x2 x3 h' tk p1 p2 p3 b1 d1 d2 d3 b5 b6 b7 => wpAny_pure (hQ x1 x2 x3 h' tk p1 p2 p3 b1 d1 d2 d3 b5 b6 b7)) (F.args_zip_next_1 _))))
theorem zip3_held_end_ {Q : Fin → Shared → Prop} (S : ZipSep3 z TI TO i1 i2 i3 fp1 fp2 fp3) (D1 : Draws prog w A i1 fp1 n1 P1 St1) (D2 : Draws prog w A i2 fp2 n2 P2 St2) (D3 : Draws prog w A i3 fp3 n3 P3 St3) (hz : IsZipHeld s.heap z TI TO T f) (hT : s.heap.get? T = some oT) (hTI : IsTupOf3 s.heap TI (.ref i1) (.ref i2) (.ref i3)) (st1 : St1 i s.heap) (st2 : St2 i s.heap) (st3 : St3 i s.heap) (le1 : i ≤ n1) (le2 : i ≤ n2) (le3 : i ≤ n3) (hend : i = n1 ∨ i = n2 ∨ i = n3)
    (hE : ∀ h' tk e, (∀ c o, c ≠ z → c ≠ i1 → c ≠ i2 → c ≠ i3 → s.heap.get? c = some o → h'.get? c = some o) → (∃ o, h'.get? e = some o ∧ o.cls = .type "StopIteration") → E (.ref e) { s with heap := h', toks := tk }) :
    wpAny (model prog w) A (Builtin.«zip.__next__» ⟨[.ref z], []⟩) Q E s := by
  obtain ⟨hp, gg, dd, tk0, os⟩ := s
  show wpAny _ _ (field (.ref z) 2 >>= _) _ _ _
  refine wpAny_bind (wpAny_field hz rfl (x := .bool false) rfl ?_)
  show wpAny _ _ (field (.ref z) 3 >>= _) _ _ _
  refine wpAny_bind (wpAny_field hz rfl (x := .ref TI) rfl ?_)
  refine wpAny_bind (wpAny_seqItems hTI rfl ?_)
  show wpAny _ _ (Builtin.SmallTypes.ownedTupleIsFree (.ref z) >>= _) _ _ _
  refine wpAny_bind (wpAny_tupleHeld_zip hz hT fun g0 hz0 hs0 => ?_)
  replace hs0 : Heap.SameBut z hp g0 := hs0
  simp only [Bool.false_eq_true, if_false]
  refine wpAny_bind ?_
  rw [← Array.forIn_toList]
  simp only [List.forIn_cons, List.forIn_nil]
  have c1_0 : St1 i g0 := D1.over st1 hs0 S.zf1
  have c2_0 : St2 i g0 := D2.over st2 hs0 S.zf2
  have c3_0 : St3 i g0 := D3.over st3 hs0 S.zf3
  refine wpAny_bind (wpAny_bind (wpAny_holding ?_))
  show wpAny _ _ (Builtin.SmallTypes.nextOf (.ref i1) >>= _) _ _ _
  by_cases eq1 : i = n1
  · obtain rfl := eq1
    refine wpAny_bind (D1.done ⟨g0, gg, dd, tk0, os⟩ _ _ c1_0 fun g' e hx he => ?_)
    exact hE g' tk0 e (fun c o c0 c1 c2 c3 x => hx _ _ c1 (hs0.extBut _ _ c0 x)) he
  refine wpAny_bind (D1.item i ⟨g0, gg, dd, tk0, os⟩ _ _ (by omega) c1_0 fun y1 g1 tk1 hy1 su1 hs1 => wpAny_pure ?_)
  replace hs1 : Heap.SameBut i1 g0 g1 := hs1
  have c2_1 : St2 i g1 := D2.over c2_0 hs1 S.sep1_2
  have c3_1 : St3 i g1 := D3.over c3_0 hs1 S.sep1_3
  refine wpAny_pure ?_
  refine wpAny_bind (wpAny_bind (wpAny_holding ?_))
  show wpAny _ _ (Builtin.SmallTypes.nextOf (.ref i2) >>= _) _ _ _
  by_cases eq2 : i = n2
  · obtain rfl := eq2
    refine wpAny_bind (D2.done ⟨g1, gg, dd, tk1, os⟩ _ _ c2_1 fun g' e hx he => ?_)
    exact hE g' tk1 e (fun c o c0 c1 c2 c3 x => hx _ _ c2 (hs1.extBut _ _ c1 (hs0.extBut _ _ c0 x))) he
  refine wpAny_bind (D2.item i ⟨g1, gg, dd, tk1, os⟩ _ _ (by omega) c2_1 fun y2 g2 tk2 hy2 su2 hs2 => wpAny_pure ?_)
  replace hs2 : Heap.SameBut i2 g1 g2 := hs2
  have c3_2 : St3 i g2 := D3.over c3_1 hs2 S.sep2_3
  refine wpAny_pure ?_
  refine wpAny_bind (wpAny_bind (wpAny_holding ?_))
  show wpAny _ _ (Builtin.SmallTypes.nextOf (.ref i3) >>= _) _ _ _
  have eq3 : i = n3 := by omega
  · obtain rfl := eq3
    refine wpAny_bind (D3.done ⟨g2, gg, dd, tk2, os⟩ _ _ c3_2 fun g' e hx he => ?_)
    exact hE g' tk2 e (fun c o c0 c1 c2 c3 x => hx _ _ c3 (hs2.extBut _ _ c2 (hs1.extBut _ _ c1 (hs0.extBut _ _ c0 x)))) he
theorem zip3_held_end {Q : Option Value → Shared → Prop} (S : ZipSep3 z TI TO i1 i2 i3 fp1 fp2 fp3) (D1 : Draws prog w A.in1 i1 fp1 n1 P1 St1) (D2 : Draws prog w A.in1 i2 fp2 n2 P2 St2) (D3 : Draws prog w A.in1 i3 fp3 n3 P3 St3) (hz : IsZipHeld s.heap z TI TO T f) (hT : s.heap.get? T = some oT) (hTI : IsTupOf3 s.heap TI (.ref i1) (.ref i2) (.ref i3)) (st1 : St1 i s.heap) (st2 : St2 i s.heap) (st3 : St3 i s.heap) (le1 : i ≤ n1) (le2 : i ≤ n2) (le3 : i ≤ n3) (hend : i = n1 ∨ i = n2 ∨ i = n3)
    (hQ : ∀ h' tk, (∀ c o, c ≠ z → c ≠ i1 → c ≠ i2 → c ≠ i3 → s.heap.get? c = some o → h'.get? c = some o) → Q none { s with heap := h', toks := tk }) : wpAny (model prog w) A (pyNext (.ref z)) Q E s := by
  have hTy : s.TypeIs (.ref z) "zip" := ⟨_, hz, rfl⟩
  unfold pyNext
  refine wpAny_bind (wpAny_attempt (wpAny_callSpecial?_slot (name := Str.ofString "__next__") hTy F.slot_zip_next
    (wpAny_call_entry F.slot_zip_next hTy F.entry_zip_next (zip3_held_end_ S D1 D2 D3 hz hT hTI st1 st2 st3 le1 le2 le3 hend fun h' tk e hk he => ?_) (F.args_zip_next_1 _))))
  obtain ⟨o, ho, hc⟩ := he
  refine wpAny_bind (wpAny_isInstance (T := "StopIteration") (b := true) ⟨o, ho, hc⟩ isSubtype_stop ?_)
  exact wpAny_pure (hQ _ _ hk)
end
end Pu

namespace Pu
open PySem PySem.Spec PyProof.Rows L2 PySem.Calls
variable [Tb]
/-! ### list(it) of an iterator that gives out a new row each time -/
structure TIt (prog : Program) (w : World) (A : Around) (S z lo : Addr) (wr : List Addr) (n : Nat) (P : Nat → List Value → Prop) (St : Nat → Heap → Prop) : Prop where
  low : ∀ b ∈ wr, b ≤ lo
  sep : S ∉ wr
  frame : ∀ i h h', St i h → (∀ b o, b ≠ S → h.get? b = some o → h'.get? b = some o) → St i h'
  item : ∀ i (s : Shared) (Q : Option Value → Shared → Prop) (E : Value → Shared → Prop), i < n → St i s.heap → S < s.heap.objs.size →
    (∀ vs h' tk, P i vs → St (i + 1) h' → h'.get? s.heap.objs.size = some { cls := .type "tuple", data := .seq vs.toArray } → (∀ b o, b ∉ wr → s.heap.get? b = some o → h'.get? b = some o) → Q (some (.ref s.heap.objs.size)) { s with heap := h', toks := tk }) →
    wpAny (model prog w) A (pyNext (.ref z)) Q E s
  done : ∀ (s : Shared) (Q : Option Value → Shared → Prop) (E : Value → Shared → Prop), St n s.heap →
    (∀ h' tk, (∀ b o, b ∉ wr → s.heap.get? b = some o → h'.get? b = some o) → Q none { s with heap := h', toks := tk }) → wpAny (model prog w) A (pyNext (.ref z)) Q E s
/-- the rows given out lie above lo, one after the other -/
structure RwG (rows : List (List Value)) (lo : Addr) (h : Heap) (as : List Addr) : Prop where
  rise : as.Pairwise (· < ·)
  above : ∀ a ∈ as, lo < a
  pairs : ∀ (j : Nat) (a : Addr), as[j]? = some a → ∃ vs, rows[j]? = some vs ∧ h.get? a = some { cls := .type "tuple", data := .seq vs.toArray }
theorem RwG.there {rows : List (List Value)} {lo : Addr} {h : Heap} {as : List Addr} (g : RwG rows lo h as) {a : Addr} (ha : a ∈ as) : a < h.objs.size := by
  obtain ⟨j, hj⟩ := List.mem_iff_getElem?.mp ha
  obtain ⟨_, _, e⟩ := g.pairs j a hj
  exact Heap.lt_size e
section
variable {prog : Program} {w : World} {A : Around} {s : Shared} {R : Result → Shared → Prop} {S z lo : Addr} {wr : List Addr} {n : Nat} {P : Nat → List Value → Prop} {St : Nat → Heap → Prop}
theorem tz_loop (T : TIt prog w A.in1 S z lo wr n P St) (hSlo : S ≤ lo) (hn : n ≤ sizeLine) (res : Value) {h₁ : Heap}
    (hR : ∀ h' tk acc c as rows, (∀ b o, b ≠ S → b ∉ wr → h₁.get? b = some o → h'.get? b = some o) → h'.get? S = some { cls := .type "list", dict := none, data := .seq acc c, slots := #[] } → as.length = n → rows.length = n → (∀ j vs, rows[j]? = some vs → P j vs) → RwG rows lo h' as →
      acc.toList = as.map Value.ref → R (.ok (.ret res)) { s with heap := h', toks := tk }) :
    ∀ (k i : Nat) (h : Heap) (tk c : Nat) (acc : Array Value) (as : List Addr) (rows : List (List Value)), n - i = k → i ≤ n → St i h → (∀ b o, b ≠ S → b ∉ wr → h₁.get? b = some o → h.get? b = some o) →
      h.get? S = some { cls := .type "list", dict := none, data := .seq acc c, slots := #[] } → acc.toList = as.map Value.ref → as.length = i → rows.length = i → (∀ j vs, rows[j]? = some vs → P j vs) → RwG rows lo h as → lo < h.objs.size →
      codeAny (model prog w) A (.builtin "list.extend.loop" ⟨[.ref S, .ref z, res], []⟩) R { s with heap := h, toks := tk } := by
  intro k
  induction k with
  | zero =>
    intro i h tk c acc as rows hk hi hst hkeep hS hacc hal hrl hP hG hIs
    obtain rfl : i = n := by omega
    refine codeAny_builtin PySem.F.entry_extend_loop ?_
    rw [Around.under_plainId PySem.F.plain_extend_loop _]
    show wpAny _ A.in1 (pyNext (.ref z) >>= _) _ _ _
    refine wpAny_bind (T.done { s with heap := h, toks := tk } _ _ hst fun h' tk' he => ?_)
    refine wpAny_pure (hR h' tk' acc c as rows (fun b o h1 h2 e => he b o h2 (hkeep b o h1 h2 e)) (he S _ T.sep hS) hal hrl hP ⟨hG.rise, hG.above, fun j a hj => ?_⟩ hacc)
    obtain ⟨vs, e2, e3⟩ := hG.pairs j a hj
    exact ⟨vs, e2, he a _ (fun hw => absurd (T.low a hw) (Nat.not_le.mpr (hG.above a (List.mem_of_getElem? hj)))) e3⟩
  | succ k ih =>
    intro i h tk c acc as rows hk hi hst hkeep hS hacc hal hrl hP hG hIs
    have hlt : i < n := by omega
    have hsz : acc.size = i := by rw [← Array.length_toList, hacc, List.length_map, hal]
    have hSl : S < h.objs.size := Heap.lt_size hS
    refine codeAny_builtin PySem.F.entry_extend_loop ?_
    rw [Around.under_plainId PySem.F.plain_extend_loop _]
    show wpAny _ A.in1 (pyNext (.ref z) >>= _) _ _ _
    refine wpAny_bind (T.item i { s with heap := h, toks := tk } _ _ hlt hst hSl fun vs h' tk' hPv hst' ht hkp => ?_)
    dsimp only at ht hkp ⊢
    have hS' := hkp S _ T.sep hS
    have up : ∀ b o, b ≠ S → h'.get? b = some o → (h'.update S (Obj.mapSeq (·.push (Value.ref h.objs.size)))).get? b = some o := fun b o hb e => (Heap.get?_update_other _ _ (Ne.symm hb)).trans e
    have tN : h.objs.size ≠ S := Nat.ne_of_gt hSl
    show wpAny _ A.in1 (updateSeq S (·.push (Value.ref h.objs.size)) >>= _) _ _ _
    refine wpAny_bind ?_
    refine wpAny_updateSeq hS' rfl (wpAny_pure ⟨plainId_quiet PySem.F.plain_extend_loop _, ih (i + 1) _ tk' _ (acc.push (Value.ref h.objs.size)) (as ++ [h.objs.size]) (rows ++ [vs]) (by omega) hlt (T.frame _ _ _ hst' up)
      (fun b o h1 h2 e => up b o h1 (hkp b o h2 (hkeep b o h1 h2 e))) (Heap.get?_update_self _ hS' rfl) (by rw [Array.toList_push, hacc, List.map_append]; rfl) (by rw [List.length_append, hal]; rfl) (by rw [List.length_append, hrl]; rfl) ?_ ⟨?_, ?_, ?_⟩ ?_⟩) (by rw [hsz]; omega) (by show (acc.push (Value.ref h.objs.size)).size ≤ sizeLine + 1; rw [Array.size_push, hsz]; omega)
    · intro j us hj
      rcases Nat.lt_trichotomy j rows.length with h1 | h1 | h1
      · rw [List.getElem?_append_left h1] at hj; exact hP j us hj
      · subst h1
        have : vs = us := by simpa using hj
        subst this; rw [hrl]; exact hPv
      · rw [List.getElem?_eq_none (by rw [List.length_append, List.length_singleton]; omega)] at hj; cases hj
    · refine List.pairwise_append.mpr ⟨hG.rise, List.pairwise_singleton _ _, fun a ha b hb => ?_⟩
      rw [List.mem_singleton.mp hb]
      exact hG.there ha
    · intro a ha
      rcases List.mem_append.mp ha with ha | ha
      · exact hG.above a ha
      · rw [List.mem_singleton.mp ha]; exact hIs
    · intro j b hj
      rcases Nat.lt_trichotomy j as.length with h1 | h1 | h1
      · rw [List.getElem?_append_left h1] at hj
        obtain ⟨us, e2, e3⟩ := hG.pairs j b hj
        have hb := hG.above b (List.mem_of_getElem? hj)
        refine ⟨us, by rw [List.getElem?_append_left (by omega)]; exact e2, up b _ (Nat.ne_of_gt (Nat.lt_of_le_of_lt hSlo hb)) (hkp b _ (fun hw => absurd (T.low b hw) (Nat.not_le.mpr hb)) e3)⟩
      · subst h1
        have hb : h.objs.size = b := by simpa using hj
        subst hb
        exact ⟨vs, by rw [hal, ← hrl]; simp, up _ _ tN ht⟩
      · rw [List.getElem?_eq_none (by rw [List.length_append, List.length_singleton]; omega)] at hj; cases hj
    · have e : (h'.update S (Obj.mapSeq (·.push (Value.ref h.objs.size)))).get? h.objs.size = _ := up _ _ tN ht
      exact Nat.lt_trans hIs (Heap.lt_size e)
end
section
variable {prog : Program} {w : World} {A : Around} {E : Value → Shared → Prop} {s : Shared} {r : Addr}
theorem zip_no_len : typeLookup (.type "zip") "__len__" = pure none := am_miss_of_fast (by decide +kernel)
theorem zip_no_hint : typeLookup (.type "zip") "__length_hint__" = pure none := am_miss_of_fast (by decide +kernel)
theorem zip_hint (hT : s.TypeIs (.ref r) "zip") {Q : Bool → Shared → Prop} (h : Q true s) : wpAny (model prog w) A (Builtin.List.listLengthHint (.ref r)) Q E s := by
  unfold Builtin.List.listLengthHint
  refine wpAny_bind (wpAny_specialOf hT zip_no_len ?_)
  refine wpAny_bind (wpAny_specialOf hT zip_no_hint ?_)
  exact wpAny_pure h
end
section
variable {prog : Program} {w : World} {A : Around} {E : Value → Shared → Prop} {s : Shared} {S z lo TI TO : Addr} {wr : List Addr} {n : Nat} {P : Nat → List Value → Prop} {St : Nat → Heap → Prop}
theorem tz_extend {R : Result → Shared → Prop} (T : TIt prog w A.in1 S z lo wr n P St) (hz : IsZip s.heap z TI TO .none) (hSz : S ≠ z) (hSlo : S ≤ lo) (hlo : lo < s.heap.objs.size) (hst : St 0 s.heap) (hn : n ≤ sizeLine) (res : Value) (c₀ : Nat) (hS : s.heap.get? S = some { cls := .type "list", data := .seq #[] c₀ })
    (hR : ∀ h' tk acc c as rows, (∀ b o, b ≠ S → b ∉ wr → s.heap.get? b = some o → h'.get? b = some o) → h'.get? S = some { cls := .type "list", dict := none, data := .seq acc c, slots := #[] } → as.length = n → rows.length = n → (∀ j vs, rows[j]? = some vs → P j vs) → RwG rows lo h' as →
      acc.toList = as.map Value.ref → R (.ok (.ret res)) { s with heap := h', toks := tk }) :
    wpAny (model prog w) A.in1 (Builtin.List.listExtendWith (.ref S) (.ref z) res)
      (fun fin s' => match fin with | .done f => R (.ok f) s' | .again c' => c'.quiet = true ∧ codeAny (model prog w) A c' R s') (fun e s' => R (.error e) s') s := by
  have hT : s.TypeIs (.ref z) "zip" := ⟨_, hz, rfl⟩
  have key : ∀ (h : Heap) (c₁ tk : Nat), (∀ b o, b ≠ S → s.heap.get? b = some o → h.get? b = some o) → lo < h.objs.size →
      h.get? S = some { cls := .type "list", data := .seq #[] c₁ } → codeAny (model prog w) A (.builtin "list.extend.loop" ⟨[.ref S, .ref z, res], []⟩) R { s with heap := h, toks := tk } := by
    intro h c₁ tk hk hl hS₁
    exact tz_loop T hSlo hn res (h₁ := s.heap) hR n 0 h tk c₁ #[] [] [] (Nat.sub_zero _) (Nat.zero_le _) (T.frame _ _ _ hst hk) (fun b o hb _ e => hk b o hb e) hS₁ rfl rfl rfl (fun j vs hj => by simp at hj)
      ⟨List.Pairwise.nil, (fun _ ha => nomatch ha), (fun j a hj => by simp at hj)⟩ hl
  unfold Builtin.List.listExtendWith
  refine wpAny_bind (wpAny_typeOf (T := "zip") hT ?_)
  have h1 : Builtin.List.listSameRef (.ref S) (.ref z) = false := by simp [Builtin.List.listSameRef, hSz]
  have h2 : (Value.type "zip" == Value.type "list") = false := by decide
  have h3 : (Value.type "zip" == Value.type "tuple") = false := by decide
  simp only [h1, h2, h3, Bool.or_false, Bool.false_eq_true, if_false]
  refine wpAny_bind (wpAny_pyIter_zip hz ?_)
  refine wpAny_bind (wpAny_holding (zip_hint hT ?_))
  refine wpAny_ite_split (fun _ => ?_) (fun _ => wpAny_pure ⟨plainId_quiet PySem.F.plain_extend_loop _, key _ c₀ _ (fun b o _ e => e) hlo hS⟩)
  refine wpAny_bind (wpAny_rule ?_)
  refine wpAny_bind ?_
  show wpAny _ _ (updateSeq S (·.push .none) >>= fun _ => updateSeq S (·.pop)) _ _ _
  refine wpAny_bind (wpAny_updateSeq hS rfl ?_)
  have hS₂ := Heap.get?_update_self (Obj.mapSeq (·.push Value.none)) hS rfl
  refine wpAny_updateSeq (hz := by seq_fits) hS₂ rfl ?_
  have hS₃ := Heap.get?_update_self (Obj.mapSeq (·.pop)) hS₂ rfl
  refine wpAny_pure ⟨plainId_quiet PySem.F.plain_extend_loop _, key _ _ _ (fun b o hb e => ?_) ?_ hS₃⟩
  · exact (Heap.get?_update_other _ _ (Ne.symm hb)).trans ((Heap.get?_update_other _ _ (Ne.symm hb)).trans e)
  · simpa using hlo
theorem tz_init {R : Result → Shared → Prop} (T : TIt prog w A.in1 S z lo wr n P St) (hz : IsZip s.heap z TI TO .none) (hSz : S ≠ z) (hSlo : S ≤ lo) (hlo : lo < s.heap.objs.size) (hst : St 0 s.heap) (hn : n ≤ sizeLine) (hS : s.heap.get? S = some { cls := .type "list", data := .seq #[] })
    (hR : ∀ h' tk acc c as rows, (∀ b o, b ≠ S → b ∉ wr → s.heap.get? b = some o → h'.get? b = some o) → h'.get? S = some { cls := .type "list", dict := none, data := .seq acc c, slots := #[] } → as.length = n → rows.length = n → (∀ j vs, rows[j]? = some vs → P j vs) → RwG rows lo h' as →
      acc.toList = as.map Value.ref → R (.ok (.ret .none)) { s with heap := h', toks := tk }) :
    wpAny (model prog w) A.in1 (Builtin.«list.__init__» ⟨[.ref S, .ref z], []⟩)
      (fun fin s' => match fin with | .done f => R (.ok f) s' | .again c' => c'.quiet = true ∧ codeAny (model prog w) A c' R s') (fun e s' => R (.error e) s') s := by
  show wpAny _ _ (do let old ← Builtin.List.listItems (.ref S); Builtin.List.listUpdate (.ref S) (fun _ => #[]); letGo old.toList.reverse; Builtin.List.listExtendWith (.ref S) (.ref z) .none) _ _ s
  refine wpAny_bind ?_
  unfold Builtin.List.listItems
  refine wpAny_bind (wpAny_seqItems hS rfl (wpAny_pure ?_))
  show wpAny _ _ (updateSeq S (fun _ => #[]) >>= fun _ => letGo (#[] : Array Value).toList.reverse >>= fun _ => Builtin.List.listExtendWith (.ref S) (.ref z) .none) _ _ s
  refine wpAny_bind (wpAny_updateSeq hS rfl ?_)
  have hS₂ := Heap.get?_update_self (Obj.mapSeq (fun _ => (#[] : Array Value))) hS rfl
  have oth : ∀ b o, b ≠ S → s.heap.get? b = some o → (s.heap.update S (Obj.mapSeq (fun _ => (#[] : Array Value)))).get? b = some o :=
    fun b o hb e => (Heap.get?_update_other _ _ (Ne.symm hb)).trans e
  refine wpAny_bind (wpAny_letGo ?_)
  refine tz_extend (TI := TI) (TO := TO) T (oth z _ hSz.symm hz) hSz hSlo (by simpa using hlo) (T.frame _ _ _ hst oth) hn .none _ hS₂ (fun h' tk acc c as rows hk hS' hl hrl hP hG hacc => ?_)
  exact hR h' tk acc c as rows (fun b o hb hw e => hk b o hb hw (oth b o hb e)) hS' hl hrl hP hG hacc
/-- list(z) of a new zip -/
theorem tz_call {Q : Value → Shared → Prop} (hz : IsZip s.heap z TI TO .none) (hn : n ≤ sizeLine)
    (T : TIt prog w A.in1.in1 s.heap.objs.size z s.heap.objs.size wr n P St) (hst : St 0 (s.heap.push { cls := .type "list", data := .seq #[] }))
    (hQ : ∀ h' tk acc c as rows, (∀ b o, b ∉ wr → s.heap.get? b = some o → h'.get? b = some o) → h'.get? s.heap.objs.size = some { cls := .type "list", dict := none, data := .seq acc c, slots := #[] } → as.length = n → rows.length = n → (∀ j vs, rows[j]? = some vs → P j vs) → RwG rows s.heap.objs.size h' as →
      acc.toList = as.map Value.ref → Q (.ref s.heap.objs.size) { s with heap := h', toks := tk }) :
    wpAny (model prog w) A (PySem.call (.type "list") [.ref z]) Q E s := by
  refine callType_codes (Q₁ := fun obj s₁ => obj = .ref s.heap.objs.size ∧ s₁ = { s with heap := s.heap.push { cls := .type "list", data := .seq #[] } }) PySem.F.called_list (PySem.F.typeCall_list_1 _) PySem.F.entry_list_init
    (code_list_new _ ⟨rfl, rfl⟩) fun obj s₁ h₁ => ?_
  obtain ⟨rfl, rfl⟩ := h₁
  have hS : (s.heap.push { cls := .type "list", data := .seq #[] }).get? s.heap.objs.size = some { cls := .type "list", data := .seq #[] } := Heap.get?_push_size _ rfl
  have hr : z < s.heap.objs.size := Heap.lt_size hz
  refine ⟨⟨_, hS, rfl⟩, PySem.F.args_list_init_2 _ _, tz_init (A := A.in1) (TI := TI) (TO := TO) T (Heap.get?_push_of_some _ hz) (Nat.ne_of_gt hr) (Nat.le_refl _) (by rw [Heap.size_push]; exact Nat.lt_succ_self _) hst hn hS (fun h' tk acc c as rows hk hS' hl hrl hP hG hacc => ?_)⟩
  · exact ⟨rfl, hQ h' tk acc c as rows (fun b o hw e => hk b o (Nat.ne_of_lt (Heap.lt_size e)) hw (Heap.get?_push_of_some _ e)) hS' hl hrl hP hG hacc⟩
end
def zst2 (k1 k2 : Bool) (z TI TO S : Addr) (i1 i2 a1 a2 : Addr) (its1 its2 : Array Value) (i : Nat) (h : Heap) : Prop :=
  ((i = 0 ∧ IsZip h z TI TO .none ∧ ∃ y1 y2, IsTupOf2 h TO y1 y2) ∨ ∃ T f oT, IsZipHeld h z TI TO T f ∧ h.get? T = some oT ∧ S < T) ∧ IsTupOf2 h TI (.ref i1) (.ref i2) ∧ (ItK k1 h i1 a1 i ∧ IsK k1 h a1 its1) ∧ (ItK k2 h i2 a2 i ∧ IsK k2 h a2 its2)
def zrow2 (its1 its2 : Array Value) (j : Nat) (vs : List Value) : Prop := ∃ x1 x2, its1[j]? = some x1 ∧ its2[j]? = some x2 ∧ vs = [x1, x2]
theorem tit_zip2 {prog : Program} {w : World} {A : Around} (hh : A.handled = none) {k1 k2 : Bool} {z TI TO S i1 i2 a1 a2 : Addr} {its1 its2 : Array Value} (Z : ZipSep2 z TI TO i1 i2 [i1, a1] [i2, a2]) (n1 : a1 ≠ i1) (n2 : a2 ≠ i2) (hS : ∀ b, b ∈ [z, TI, TO, i1, i2, a1, a2] → b < S) :
    TIt prog w A S z S [z, TO, i1, i2] (min its1.size its2.size) (zrow2 its1 its2) (zst2 k1 k2 z TI TO S i1 i2 a1 a2 its1 its2) where
  low := fun b hb => Nat.le_of_lt (hS b (by simp only [List.mem_cons, List.not_mem_nil, or_false] at hb ⊢; rcases hb with rfl | rfl | rfl | rfl <;> simp))
  sep := fun hb => Nat.lt_irrefl S (hS S (by simp only [List.mem_cons, List.not_mem_nil, or_false] at hb ⊢; rcases hb with rfl | rfl | rfl | rfl <;> simp))
  frame := fun i h h' st k => by
    obtain ⟨hz, hTI, ⟨h1, p1⟩, ⟨h2, p2⟩⟩ := st
    have ne : ∀ {b}, b ∈ [z, TI, TO, i1, i2, a1, a2] → b ≠ S := fun hb e => Nat.lt_irrefl S (by have := hS _ hb; rw [e] at this; exact this)
    refine ⟨?_, k TI _ (ne (by simp)) hTI, ⟨h1.at fun o e => k _ _ (ne (by simp)) e, p1.at fun o e => k _ _ (ne (by simp)) e⟩, ⟨h2.at fun o e => k _ _ (ne (by simp)) e, p2.at fun o e => k _ _ (ne (by simp)) e⟩⟩
    rcases hz with ⟨e0, hz, y1, y2, hTO⟩ | ⟨T, f, oT, hz, hT, hn⟩
    · exact .inl ⟨e0, k z _ (ne (by simp)) hz, y1, y2, k TO _ (ne (by simp)) hTO⟩
    · exact .inr ⟨T, f, oT, k z _ (ne (by simp)) hz, k T _ (Nat.ne_of_gt hn) hT, hn⟩
  item := fun i s Q E hi st hSs hQ => by
    obtain ⟨hz, hTI, ⟨h1, p1⟩, ⟨h2, p2⟩⟩ := st
    have lo : ∀ {b T : Addr}, b ∈ [z, TI, TO, i1, i2, a1, a2] → S < T → T ≠ b := fun hb h e => by have := hS _ hb; rw [← e] at this; exact Nat.lt_asymm h this
    rcases hz with ⟨e0, hz, y1, y2, hTO⟩ | ⟨T, f, oT, hz, hT, hn⟩
    · refine wpAny_pyNext_zipD2_item Z (drawsK (A := A.in1) k1 hh i1 a1 n1 its1) (drawsK (A := A.in1) k2 hh i2 a2 n2 its2) hz hTI hTO ⟨h1, p1⟩ ⟨h2, p2⟩ (by omega) (by omega) fun x1 x2 h' tk q1 q2 z' TO' d1 d2 hT hsz hk => ?_
      exact hQ _ h' tk ⟨x1, x2, q1, q2, rfl⟩ ⟨.inr ⟨_, false, _, z', hT, hSs⟩, hk _ _ Z.TIz Z.TITO Z.TIi1 Z.TIi2 hTI, d1, d2⟩ hT fun b o hb e => hk b o (fun e' => hb (by simp [e'])) (fun e' => hb (by simp [e'])) (fun e' => hb (by simp [e'])) (fun e' => hb (by simp [e'])) e
    · refine zip2_held Z (drawsK (A := A.in1) k1 hh i1 a1 n1 its1) (drawsK (A := A.in1) k2 hh i2 a2 n2 its2) hz hT hTI ⟨h1, p1⟩ ⟨h2, p2⟩ (by omega) (by omega) fun x1 x2 h' tk q1 q2 z' d1 d2 hT2 hsz hk => ?_
      refine hQ _ h' tk ⟨x1, x2, q1, q2, rfl⟩ ⟨.inr ⟨T, true, oT, z', ?_, hn⟩, hk _ _ Z.TIz Z.TIi1 Z.TIi2 hTI, d1, d2⟩ hT2 fun b o hb e => hk b o (fun e' => hb (by simp [e'])) (fun e' => hb (by simp [e'])) (fun e' => hb (by simp [e'])) e
      exact hk _ _ (lo (by simp) hn) (lo (by simp) hn) (lo (by simp) hn) hT
  done := fun s Q E st hQ => by
    obtain ⟨hz, hTI, ⟨h1, p1⟩, ⟨h2, p2⟩⟩ := st
    rcases hz with ⟨e0, hz, y1, y2, hTO⟩ | ⟨T, f, oT, hz, hT, hn⟩
    · exact wpAny_pyNext_zipD2_end Z (drawsK (A := A.in1) k1 hh i1 a1 n1 its1) (drawsK (A := A.in1) k2 hh i2 a2 n2 its2) hz hTI hTO ⟨h1, p1⟩ ⟨h2, p2⟩ (by omega) (by omega) (by omega) fun h' tk hk => hQ h' tk fun b o hb e => hk b o (fun e' => hb (by simp [e'])) (fun e' => hb (by simp [e'])) (fun e' => hb (by simp [e'])) (fun e' => hb (by simp [e'])) e
    · exact zip2_held_end Z (drawsK (A := A.in1) k1 hh i1 a1 n1 its1) (drawsK (A := A.in1) k2 hh i2 a2 n2 its2) hz hT hTI ⟨h1, p1⟩ ⟨h2, p2⟩ (by omega) (by omega) (by omega) fun h' tk hk => hQ h' tk fun b o hb e => hk b o (fun e' => hb (by simp [e'])) (fun e' => hb (by simp [e'])) (fun e' => hb (by simp [e'])) e
def zst3 (k1 k2 k3 : Bool) (z TI TO S : Addr) (i1 i2 i3 a1 a2 a3 : Addr) (its1 its2 its3 : Array Value) (i : Nat) (h : Heap) : Prop :=
  ((i = 0 ∧ IsZip h z TI TO .none ∧ ∃ y1 y2 y3, IsTupOf3 h TO y1 y2 y3) ∨ ∃ T f oT, IsZipHeld h z TI TO T f ∧ h.get? T = some oT ∧ S < T) ∧ IsTupOf3 h TI (.ref i1) (.ref i2) (.ref i3) ∧ (ItK k1 h i1 a1 i ∧ IsK k1 h a1 its1) ∧ (ItK k2 h i2 a2 i ∧ IsK k2 h a2 its2) ∧ (ItK k3 h i3 a3 i ∧ IsK k3 h a3 its3)
def zrow3 (its1 its2 its3 : Array Value) (j : Nat) (vs : List Value) : Prop := ∃ x1 x2 x3, its1[j]? = some x1 ∧ its2[j]? = some x2 ∧ its3[j]? = some x3 ∧ vs = [x1, x2, x3]
theorem tit_zip3 {prog : Program} {w : World} {A : Around} (hh : A.handled = none) {k1 k2 k3 : Bool} {z TI TO S i1 i2 i3 a1 a2 a3 : Addr} {its1 its2 its3 : Array Value} (Z : ZipSep3 z TI TO i1 i2 i3 [i1, a1] [i2, a2] [i3, a3]) (n1 : a1 ≠ i1) (n2 : a2 ≠ i2) (n3 : a3 ≠ i3) (hS : ∀ b, b ∈ [z, TI, TO, i1, i2, i3, a1, a2, a3] → b < S) :
    TIt prog w A S z S [z, TO, i1, i2, i3] (min (min its1.size its2.size) its3.size) (zrow3 its1 its2 its3) (zst3 k1 k2 k3 z TI TO S i1 i2 i3 a1 a2 a3 its1 its2 its3) where
  low := fun b hb => Nat.le_of_lt (hS b (by simp only [List.mem_cons, List.not_mem_nil, or_false] at hb ⊢; rcases hb with rfl | rfl | rfl | rfl | rfl <;> simp))
  sep := fun hb => Nat.lt_irrefl S (hS S (by simp only [List.mem_cons, List.not_mem_nil, or_false] at hb ⊢; rcases hb with rfl | rfl | rfl | rfl | rfl <;> simp))
  frame := fun i h h' st k => by
    obtain ⟨hz, hTI, ⟨h1, p1⟩, ⟨h2, p2⟩, ⟨h3, p3⟩⟩ := st
    have ne : ∀ {b}, b ∈ [z, TI, TO, i1, i2, i3, a1, a2, a3] → b ≠ S := fun hb e => Nat.lt_irrefl S (by have := hS _ hb; rw [e] at this; exact this)
    refine ⟨?_, k TI _ (ne (by simp)) hTI, ⟨h1.at fun o e => k _ _ (ne (by simp)) e, p1.at fun o e => k _ _ (ne (by simp)) e⟩, ⟨h2.at fun o e => k _ _ (ne (by simp)) e, p2.at fun o e => k _ _ (ne (by simp)) e⟩, ⟨h3.at fun o e => k _ _ (ne (by simp)) e, p3.at fun o e => k _ _ (ne (by simp)) e⟩⟩
    rcases hz with ⟨e0, hz, y1, y2, y3, hTO⟩ | ⟨T, f, oT, hz, hT, hn⟩
    · exact .inl ⟨e0, k z _ (ne (by simp)) hz, y1, y2, y3, k TO _ (ne (by simp)) hTO⟩
    · exact .inr ⟨T, f, oT, k z _ (ne (by simp)) hz, k T _ (Nat.ne_of_gt hn) hT, hn⟩
  item := fun i s Q E hi st hSs hQ => by
    obtain ⟨hz, hTI, ⟨h1, p1⟩, ⟨h2, p2⟩, ⟨h3, p3⟩⟩ := st
    have lo : ∀ {b T : Addr}, b ∈ [z, TI, TO, i1, i2, i3, a1, a2, a3] → S < T → T ≠ b := fun hb h e => by have := hS _ hb; rw [← e] at this; exact Nat.lt_asymm h this
    rcases hz with ⟨e0, hz, y1, y2, y3, hTO⟩ | ⟨T, f, oT, hz, hT, hn⟩
    · refine wpAny_pyNext_zipD3_item Z (drawsK (A := A.in1) k1 hh i1 a1 n1 its1) (drawsK (A := A.in1) k2 hh i2 a2 n2 its2) (drawsK (A := A.in1) k3 hh i3 a3 n3 its3) hz hTI hTO ⟨h1, p1⟩ ⟨h2, p2⟩ ⟨h3, p3⟩ (by omega) (by omega) (by omega) fun x1 x2 x3 h' tk q1 q2 q3 z' TO' d1 d2 d3 hT hsz hk => ?_
      exact hQ _ h' tk ⟨x1, x2, x3, q1, q2, q3, rfl⟩ ⟨.inr ⟨_, false, _, z', hT, hSs⟩, hk _ _ Z.TIz Z.TITO Z.TIi1 Z.TIi2 Z.TIi3 hTI, d1, d2, d3⟩ hT fun b o hb e => hk b o (fun e' => hb (by simp [e'])) (fun e' => hb (by simp [e'])) (fun e' => hb (by simp [e'])) (fun e' => hb (by simp [e'])) (fun e' => hb (by simp [e'])) e
    · refine zip3_held Z (drawsK (A := A.in1) k1 hh i1 a1 n1 its1) (drawsK (A := A.in1) k2 hh i2 a2 n2 its2) (drawsK (A := A.in1) k3 hh i3 a3 n3 its3) hz hT hTI ⟨h1, p1⟩ ⟨h2, p2⟩ ⟨h3, p3⟩ (by omega) (by omega) (by omega) fun x1 x2 x3 h' tk q1 q2 q3 z' d1 d2 d3 hT2 hsz hk => ?_
      refine hQ _ h' tk ⟨x1, x2, x3, q1, q2, q3, rfl⟩ ⟨.inr ⟨T, true, oT, z', ?_, hn⟩, hk _ _ Z.TIz Z.TIi1 Z.TIi2 Z.TIi3 hTI, d1, d2, d3⟩ hT2 fun b o hb e => hk b o (fun e' => hb (by simp [e'])) (fun e' => hb (by simp [e'])) (fun e' => hb (by simp [e'])) (fun e' => hb (by simp [e'])) e
      exact hk _ _ (lo (by simp) hn) (lo (by simp) hn) (lo (by simp) hn) (lo (by simp) hn) hT
  done := fun s Q E st hQ => by
    obtain ⟨hz, hTI, ⟨h1, p1⟩, ⟨h2, p2⟩, ⟨h3, p3⟩⟩ := st
    rcases hz with ⟨e0, hz, y1, y2, y3, hTO⟩ | ⟨T, f, oT, hz, hT, hn⟩
    · exact wpAny_pyNext_zipD3_end Z (drawsK (A := A.in1) k1 hh i1 a1 n1 its1) (drawsK (A := A.in1) k2 hh i2 a2 n2 its2) (drawsK (A := A.in1) k3 hh i3 a3 n3 its3) hz hTI hTO ⟨h1, p1⟩ ⟨h2, p2⟩ ⟨h3, p3⟩ (by omega) (by omega) (by omega) (by omega) fun h' tk hk => hQ h' tk fun b o hb e => hk b o (fun e' => hb (by simp [e'])) (fun e' => hb (by simp [e'])) (fun e' => hb (by simp [e'])) (fun e' => hb (by simp [e'])) (fun e' => hb (by simp [e'])) e
    · exact zip3_held_end Z (drawsK (A := A.in1) k1 hh i1 a1 n1 its1) (drawsK (A := A.in1) k2 hh i2 a2 n2 its2) (drawsK (A := A.in1) k3 hh i3 a3 n3 its3) hz hT hTI ⟨h1, p1⟩ ⟨h2, p2⟩ ⟨h3, p3⟩ (by omega) (by omega) (by omega) (by omega) fun h' tk hk => hQ h' tk fun b o hb e => hk b o (fun e' => hb (by simp [e'])) (fun e' => hb (by simp [e'])) (fun e' => hb (by simp [e'])) (fun e' => hb (by simp [e'])) e
end Pu

namespace Pu
open PySem PySem.Spec PyProof.Rows L2 PySem.Calls
variable [Tb]
/-! ### rows that were made, tracked -/
def putR : Hp → List Addr → List (List V) → Hp
  | H, a :: as, r :: rs => putR (upd H a (.tup r)) as rs
  | H, _, _ => H
theorem putR_off {b : Addr} : ∀ (as : List Addr) (rs : List (List V)) (H : Hp), b ∉ as → putR H as rs b = H b
  | [], _, _, _ => rfl
  | _ :: _, [], _, _ => rfl
  | a :: as, r :: rs, H, h => by
    show putR (upd H a (.tup r)) as rs b = H b
    rw [putR_off as rs _ (fun z => h (List.mem_cons_of_mem _ z)), upd_ne (fun z => h (by rw [z]; exact List.mem_cons_self))]
theorem putR_at : ∀ (as : List Addr) (rs : List (List V)) (H : Hp), as.length = rs.length → as.Nodup → ∀ (j : Nat) (a : Addr), as[j]? = some a → ∃ r, rs[j]? = some r ∧ putR H as rs a = some (.tup r)
  | [], _, _, _, _, j, a, h => by simp at h
  | _ :: _, [], _, h, _, _, _, _ => by cases h
  | a :: as, r :: rs, H, hl, hn, 0, b, h => by
    have e : a = b := by simpa using h
    subst e
    refine ⟨r, rfl, ?_⟩
    show putR (upd H a (.tup r)) as rs a = _
    rw [putR_off as rs _ (List.nodup_cons.mp hn).1, upd_same]
  | a :: as, r :: rs, H, hl, hn, j + 1, b, h => by
    obtain ⟨r', h1, h2⟩ := putR_at as rs (upd H a (.tup r)) (Nat.succ.inj hl) (List.nodup_cons.mp hn).2 j b (by simpa using h)
    exact ⟨r', by simpa using h1, h2⟩
theorem refs_vals : ∀ as : List Addr, Vals (as.map V.ref) (as.map Value.ref)
  | [] => .nil
  | _ :: as => .cons rfl (refs_vals as)
theorem rows_laid {X : Cx} {pins : List (Addr × Obj)} {σ : L2.St} {H : Hp} {s : Shared} {h' : Heap} {tk p : Nat} {rows : List (List Value)} {vr : List (List V)} {acc : Array Value} {c : Nat} {as : List Addr} (I : Inv X pins σ H s) (hp : s.heap.objs.size ≤ p) (hz : rows.length ≤ sizeLine)
    (hk : ∀ b o, s.heap.get? b = some o → h'.get? b = some o) (hS : h'.get? p = some { cls := .type "list", dict := none, data := .seq acc c, slots := #[] }) (hl : as.length = rows.length) (hvl : vr.length = rows.length) (hG : RwG rows p h' as) (hacc : acc.toList = as.map Value.ref)
    (hv : ∀ (j : Nat) (v : List V) (r : List Value), vr[j]? = some v → rows[j]? = some r → Vals v r ∧ v.length ≤ sizeLine) :
    ∃ H' : Hp, (∀ b o, H b = some o → H' b = some o) ∧ H p = none ∧ (∀ t ∈ as, H t = none) ∧ p ∉ as ∧ H' p = some (.lst (as.map V.ref)) ∧ (∀ (j : Nat) (t : Addr), as[j]? = some t → ∃ v, vr[j]? = some v ∧ H' t = some (.tup v)) ∧ Inv X pins σ H' { s with heap := h', toks := tk } := by
  have hSn : p ∉ as := fun z => Nat.lt_irrefl _ (hG.above _ z)
  have nd : as.Nodup := List.Pairwise.imp (fun {a b} (h : a < b) => Nat.ne_of_lt h) hG.rise
  have ab : ∀ t ∈ as, s.heap.objs.size ≤ t := fun t ht => Nat.le_trans hp (Nat.le_of_lt (hG.above t ht))
  have new : ∀ t ∈ as, H t = none := fun t ht => I.hok.fresh (ab t ht)
  have newS : H p = none := I.hok.fresh hp
  have atP := putR_at as vr (upd H p (.lst (as.map V.ref))) (by omega) nd
  have off : ∀ b, b ∉ as → b ≠ p → putR (upd H p (.lst (as.map V.ref))) as vr b = H b := fun b h1 h2 => by rw [putR_off as vr _ h1, upd_ne h2]
  have low : ∀ b o, s.heap.get? b = some o → b ∉ as ∧ b ≠ p := fun b o e => ⟨fun z => absurd (Heap.lt_size e) (Nat.not_lt.mpr (ab b z)), Nat.ne_of_lt (Nat.lt_of_lt_of_le (Heap.lt_size e) hp)⟩
  have kp : ∀ b u, H b = some u → (putR (upd H p (.lst (as.map V.ref))) as vr) b = some u := fun b u e => by
    rw [off b (fun z => by rw [new b z] at e; cases e) (fun z => by rw [z, newS] at e; cases e)]
    exact e
  have eS : putR (upd H p (.lst (as.map V.ref))) as vr p = some (.lst (as.map V.ref)) := by rw [putR_off as vr _ hSn, upd_same]
  refine ⟨putR (upd H p (.lst (as.map V.ref))) as vr, kp, newS, new, hSn, eS, atP, ?_⟩
  refine I.call' (ch := []) rfl ⟨fun b o q _ _ _ => hk b o q, fun b o q _ _ _ => ⟨o.slots, hk b o q⟩, fun b o q n _ => ?_, fun b o q _ => ⟨o, hk b o q⟩, fun b xs q => kp b _ q, fun b o u q => kp b _ q, fun b ps q => ⟨#[], by rw [kp b _ q]; simp⟩⟩ (fun b u q => ?_) I.bare fun b z => by simp at z
  · obtain ⟨z1, z2⟩ := low b o q
    rw [off b z1 z2]
    exact n
  · by_cases hb : b ∈ as
    · obtain ⟨j, e1⟩ := List.mem_iff_getElem?.mp hb
      obtain ⟨v, e2, e3⟩ := atP j b e1
      rw [e3] at q
      cases q
      obtain ⟨rw', f1, f2⟩ := hG.pairs j b e1
      obtain ⟨rv, hvz⟩ := hv j v rw' e2 f1
      exact ⟨hvz, rw', rv, ⟨_, f2, rfl, _, rfl⟩⟩
    · by_cases hb2 : b = p
      · rw [hb2] at q ⊢
        rw [eS] at q
        cases q
        refine ⟨by rw [List.length_map]; omega, acc.toList, c, by rw [hacc]; exact refs_vals as, ?_⟩
        rw [Array.toArray_toList]
        exact hS
      · rw [off b hb hb2] at q
        exact (I.hok b u q).stay (fun d v _ y => hk d v y) (fun d y => kp d _ y) fun d xs y => kp d _ y
/-- .. of the data's side -/
theorem fin_rows {K : PySem.W.Frag} {c : Ct} {G H G1 H1 H' : Hp} {p : Addr} {as : List Addr} {ds : List D} {post : List D → Prop} {Q : VK} (w : Wd c G1 H1) (e : Ext c.E G H G1 H1) (n : H1 p = none) (na : ∀ t ∈ as, H1 t = none) (npa : p ∉ as) (hk : ∀ b o, H1 b = some o → H' b = some o)
    (hp' : H' p = some (.lst (as.map V.ref))) (hl : ds.length = as.length) (ht : ∀ (j : Nat) (t : Addr) (d : D), as[j]? = some t → ds[j]? = some d → ∃ v es, H' t = some (.tup v) ∧ d = .tuple es ∧ DqAll K G1 v es) (hp : post ds)
    (q : ∀ r, post r → ∀ a G' H', H a = none → Ext c.E G H G' H' → W0 c.E G' H' → Own K c G' H' a r → Q (.ref a) H') : Q (.ref p) H' := by
  let G' : Hp := fun b => if b ∈ as then H' b else G1 b
  have gin : ∀ {b}, b ∈ as → G' b = H' b := fun h => if_pos h
  have gout : ∀ {b}, b ∉ as → G' b = G1 b := fun h => if_neg h
  have nin : ∀ {b o}, H1 b = some o → b ∉ as := fun e h => by rw [na _ h] at e; cases e
  have vt : ∀ {b}, c.E.vol b → ∃ o, H1 b = some o := fun h => Ef.there w.w.inv h
  have w' : W0 c.E G' H' := ⟨fun a o h => by
      by_cases ha : a ∈ as
      · rw [gin ha] at h; exact h
      · rw [gout ha] at h; exact hk a o (w.w.sub a o h), fun a va => by
      obtain ⟨o, ho⟩ := vt va
      rw [gout (nin ho)]; exact w.w.vol a va, Ef.loc w.w.inv (.le hk) fun a va => by
      obtain ⟨o, ho⟩ := vt va
      rw [ho]; exact hk a o ho⟩
  have e' : Ext c.E G1 H1 G' H' := ⟨fun a o h => by rw [gout (nin (w.w.sub a o h))]; exact h, fun a o h _ => hk a o h, fun a o h _ g => by rw [gout (nin h)]; exact g⟩
  have le : Le G1 G' := e'.g
  have all : ∀ (as' : List Addr) (ds' : List D), ds'.length = as'.length → (∀ (j : Nat) (t : Addr) (d : D), as'[j]? = some t → ds'[j]? = some d → t ∈ as ∧ ∃ v es, H' t = some (.tup v) ∧ d = .tuple es ∧ DqAll K G1 v es) → DqAll K G' (as'.map V.ref) ds' := by
    intro as'
    induction as' with
    | nil =>
      intro ds' hl' _
      cases ds' with
      | nil => exact .nil
      | cons _ _ => cases hl'
    | cons t as' ih =>
      intro ds' hl' h'
      cases ds' with
      | nil => cases hl'
      | cons d ds' =>
        obtain ⟨hta, v, es, h1, rfl, h3⟩ := h' 0 t d rfl rfl
        refine .cons (.tup (.of ((gin hta).trans h1)) (h3.mono le)) (ih ds' (Nat.succ.inj hl') fun j t d h1 h2 => h' (j + 1) t d (by simpa using h1) (by simpa using h2))
  have nv : ¬ c.E.vol p := fun v => by obtain ⟨o, ho⟩ := vt v; rw [n] at ho; cases ho
  have g0 : G1 p = none := by
    cases z : G1 p with
    | none => rfl
    | some o => rw [w.w.sub p o z] at n; cases n
  have h0 : c.H0 p = none := by
    cases z : c.H0 p with
    | none => rfl
    | some o => have := w.e.h p o z nv; rw [n] at this; cases this
  have hH : H p = none := by
    cases z : H p with
    | none => rfl
    | some o => have := e.h p o z nv; rw [n] at this; cases this
  exact q ds hp p G' H' hH (e.trans e') w' ⟨⟨_, hp', all as ds hl fun j t d h1 h2 => ⟨List.mem_of_getElem? h1, ht j t d h1 h2⟩⟩, by rw [gout npa]; exact g0, h0, nv⟩
theorem BvAll.three {K : PySem.W.Frag} {c : Ct} {G H : Hp} {vs : List V} {d e f : D} (h : BvAll K c G H vs [d, e, f]) : ∃ v u t, vs = [v, u, t] ∧ Bv K c G H v d ∧ Bv K c G H u e ∧ Bv K c G H t f := by
  cases h with | cons b t => cases t with | cons b' t' => cases t' with | cons b2 t2 => cases t2; exact ⟨_, _, _, rfl, b, b', b2⟩
theorem lstZ2 {X : Cx} {e1 e2 : Expr} {pos p p2 pos2 : Pos} {f : List Sl → R (List D)} (hm : X.mg "list" = none) (hm2 : X.mg "zip" = none) (ha : PA X [e1, e2] (tAB X.K f)) (hc : X.calm = true := by rfl) (hg : Gl X "list" := by rfl) (hg2 : Gl X "zip" := by rfl)
    (na : starEach [.Call (.Name "zip" p2) [e1, e2] [] pos2] X.env = (false, eval (.Call (.Name "zip" p2) [e1, e2] [] pos2) X.env) :: starEach [] X.env := by rfl)
    (hs : starEach [e1, e2] X.env = (false, eval e1 X.env) :: starEach [e2] X.env := by rfl) (hpl : (backTo pos2 (starEach [e2] X.env)).any (·.1) = false := by rfl) :
    PE X (.Call (.Name "list" p) [.Call (.Name "zip" p2) [e1, e2] [] pos2] [] pos) (tF X.K (m1 f zip2R)) := by
  refine ⟨fun pins s σ H Q I h => ?_⟩
  obtain ⟨c, G, ρ, post, w, r, hf, q⟩ := h
  refine Call_ (ld_blt I hg hm boot_list (PyProof.Rows.callWith_type1 (args_cons (Call_ (ld_blt I hg2 hm2 PyProof.Rows.boot_zip (PyProof.Rows.callWith_type1 (thn (ha.run pos2 pins s σ H (fun vs H1 => ∃ ds G1, zip2R ds post ∧ Ext c.E G H G1 H1 ∧ Wd c G1 H1 ∧ BvAll X.K c G1 H1 vs ds) I ⟨c, G, ρ, _, w, r, hf, fun ds hds vs G1 H1 e1 w1 b1 => ⟨ds, G1, hds, e1, w.step w1 e1, b1⟩⟩) fun us s1 ⟨vs, H1, I1, r1, q1⟩ => ?_) hs hpl))) na) na))
  obtain ⟨ds, G1, hz, ex, W1, b1⟩ := q1
  obtain ⟨d1, d2, xs1, xs2, rfl, w1, w2, hsz, hp⟩ := zip2R_inv hz
  obtain ⟨v1, v2, rfl, bv1, bv2⟩ := b1.two
  obtain ⟨k1, a1, vs1, rfl, sk1, dq1⟩ := rowB W1.w bv1 w1
  have sq1 := sk1 G1 H1 .refl W1.w
  obtain ⟨k2, a2, vs2, rfl, sk2, dq2⟩ := rowB W1.w bv2 w2
  have sq2 := sk2 G1 H1 .refl W1.w
  have eu : us = [Value.ref a1, Value.ref a2] := by
    cases r1 with | cons ra1 rr1 => cases rr1 with | cons ra2 rr2 => (cases rr2; cases ra1; cases ra2; rfl)
  subst eu
  obtain ⟨its1, rv1, p1⟩ := sq1.its I1
  obtain ⟨o1, ho1⟩ := p1.obj
  have hl1 : a1 < s1.heap.objs.size := Heap.lt_size ho1
  have len1 : vs1.length = its1.length := rv1.length
  obtain ⟨its2, rv2, p2⟩ := sq2.its I1
  obtain ⟨o2, ho2⟩ := p2.obj
  have hl2 : a2 < s1.heap.objs.size := Heap.lt_size ho2
  have len2 : vs2.length = its2.length := rv2.length
  refine zip_begins2 (beginsK k1 a1 its1.toArray) (beginsK k2 a2 its2.toArray) p1 p2 fun h' hz' hTI hTO g1 g2 hsz' hk => args_nil ?_
  have hh := I1.ok.hd hc
  have T := tit_zip2 (prog := X.prog) (w := X.w) (A := X.A.in1.in1) (S := h'.objs.size) hh (zip_sep2 (N := s1.heap.objs.size) (fp1 := [a1]) (fp2 := [a2]) (fun b hb => by rw [List.mem_singleton.mp hb]; exact hl1) (fun b hb => by rw [List.mem_singleton.mp hb]; exact hl2)) (Nat.ne_of_lt hl1) (Nat.ne_of_lt (Nat.lt_add_right 1 hl2)) (k1 := k1) (k2 := k2) (its1 := its1.toArray) (its2 := its2.toArray) (fun b hb => by
    rw [hsz']
    simp only [List.mem_cons, List.not_mem_nil, or_false] at hb
    rcases hb with rfl | rfl | rfl | rfl | rfl | rfl | rfl
    · exact Nat.add_lt_add_left (by decide) _
    · exact Nat.add_lt_add_left (by decide) _
    · exact Nat.add_lt_add_left (by decide) _
    · exact Nat.lt_add_of_pos_right (by decide)
    · exact Nat.add_lt_add_left (by decide) _
    · exact Nat.lt_add_right _ hl1
    · exact Nat.lt_add_right _ hl2)
  refine tz_call (s := { s1 with heap := h' }) (E := X.xe) hz' (n := min its1.toArray.size its2.toArray.size) ?_ T ?_ fun h2 tk acc cc as rows hk2 hS2 hal hrl hP hG hacc => ?_
  · have : xs1.length ≤ sizeLine := hsz
    have := dq1.length
    simp only [List.size_toArray]
    omega
  · refine ⟨.inl ⟨rfl, Heap.get?_push_of_some _ hz', _, _, Heap.get?_push_of_some _ hTO⟩, Heap.get?_push_of_some _ hTI, ⟨(ItK.new g1).at fun o e => Heap.get?_push_of_some _ e, p1.at fun o e => Heap.get?_push_of_some _ (hk _ _ e)⟩, ⟨(ItK.new g2).at fun o e => Heap.get?_push_of_some _ e, p2.at fun o e => Heap.get?_push_of_some _ (hk _ _ e)⟩⟩
  · have I2 : Inv X pins σ H1 { s1 with heap := h' } := I1.kept (t' := s1.toks) hk
    have kept : ∀ b o, s1.heap.get? b = some o → h2.get? b = some o := fun b o e => hk2 b o (fun hb => by
      have hlt := Heap.lt_size e
      simp only [List.mem_cons, List.not_mem_nil, or_false] at hb
      rcases hb with rfl | rfl | rfl | rfl
      · exact absurd hlt (Nat.not_lt.mpr (Nat.le_add_right _ _))
      · exact absurd hlt (Nat.not_lt.mpr (Nat.le_add_right _ _))
      · exact absurd hlt (Nat.not_lt.mpr (Nat.le_refl _))
      · exact absurd hlt (Nat.not_lt.mpr (Nat.le_add_right _ _))) (hk b o e)
    simp only [List.size_toArray] at hal hrl
    have hv : ∀ (j : Nat) (v : List V) (rr : List Value), (List.zipWith (fun x y => [x, y]) vs1 vs2)[j]? = some v → rows[j]? = some rr → Vals v rr ∧ v.length ≤ sizeLine := by
      intro j v rr h1 h3
      obtain ⟨y1, y2, z1, z2, rfl⟩ := hP j rr h3
      have z1' : its1[j]? = some y1 := by simpa using z1
      have jl1 : j < vs1.length := by
        have := (List.getElem?_eq_some_iff.mp z1').1
        omega
      obtain ⟨u1, m1, t1⟩ := rv1.get (List.getElem?_eq_getElem jl1)
      obtain rfl : u1 = y1 := Option.some.inj (m1.symm.trans z1')
      have z2' : its2[j]? = some y2 := by simpa using z2
      have jl2 : j < vs2.length := by
        have := (List.getElem?_eq_some_iff.mp z2').1
        omega
      obtain ⟨u2, m2, t2⟩ := rv2.get (List.getElem?_eq_getElem jl2)
      obtain rfl : u2 = y2 := Option.some.inj (m2.symm.trans z2')
      rw [List.getElem?_zipWith, List.getElem?_eq_getElem jl1, List.getElem?_eq_getElem jl2] at h1
      obtain rfl : [vs1[j], vs2[j]] = v := by simpa using h1
      exact ⟨.cons t1 (.cons t2 .nil), by show 2 ≤ sizeLine; decide⟩
    have hlr : as.length = rows.length := by omega
    obtain ⟨H', j1, j2, j3, j4, j5, j6, J⟩ := rows_laid (tk := tk) (p := h'.objs.size) (vr := List.zipWith (fun x y => [x, y]) vs1 vs2) I1 (by rw [hsz']; exact Nat.le_add_right _ _) (by
      have : xs1.length ≤ sizeLine := hsz
      have := dq1.length
      omega) kept hS2 hlr (by simp only [List.length_zipWith]; omega) hG hacc hv
    · refine ⟨.ref h'.objs.size, H', J, rfl, ?_⟩
      refine fin_rows W1 ex j2 j3 j4 j1 j5 (by rw [zip_len]; have := dq1.length; have := dq2.length; omega) (fun j t d h1 h3 => ?_) hp q
      obtain ⟨x1, x2, f1, f2, rfl⟩ := zip_get h3
      obtain ⟨v, h4, h5⟩ := j6 j t h1
      obtain ⟨u1, m1, t1⟩ := dq1.get f1
      obtain ⟨u2, m2, t2⟩ := dq2.get f2
      rw [List.getElem?_zipWith, m1, m2] at h4
      obtain rfl : [u1, u2] = v := by simpa using h4
      exact ⟨_, _, h5, rfl, .cons t1 (.cons t2 .nil)⟩
theorem lstZ3 {X : Cx} {e1 e2 e3 : Expr} {pos p p2 pos2 : Pos} {f : List Sl → R (List D)} (hm : X.mg "list" = none) (hm2 : X.mg "zip" = none) (ha : PA X [e1, e2, e3] (tAB X.K f)) (hc : X.calm = true := by rfl) (hg : Gl X "list" := by rfl) (hg2 : Gl X "zip" := by rfl)
    (na : starEach [.Call (.Name "zip" p2) [e1, e2, e3] [] pos2] X.env = (false, eval (.Call (.Name "zip" p2) [e1, e2, e3] [] pos2) X.env) :: starEach [] X.env := by rfl)
    (hs : starEach [e1, e2, e3] X.env = (false, eval e1 X.env) :: starEach [e2, e3] X.env := by rfl) (hpl : (backTo pos2 (starEach [e2, e3] X.env)).any (·.1) = false := by rfl) :
    PE X (.Call (.Name "list" p) [.Call (.Name "zip" p2) [e1, e2, e3] [] pos2] [] pos) (tF X.K (m1 f zip3R)) := by
  refine ⟨fun pins s σ H Q I h => ?_⟩
  obtain ⟨c, G, ρ, post, w, r, hf, q⟩ := h
  refine Call_ (ld_blt I hg hm boot_list (PyProof.Rows.callWith_type1 (args_cons (Call_ (ld_blt I hg2 hm2 PyProof.Rows.boot_zip (PyProof.Rows.callWith_type1 (thn (ha.run pos2 pins s σ H (fun vs H1 => ∃ ds G1, zip3R ds post ∧ Ext c.E G H G1 H1 ∧ Wd c G1 H1 ∧ BvAll X.K c G1 H1 vs ds) I ⟨c, G, ρ, _, w, r, hf, fun ds hds vs G1 H1 e1 w1 b1 => ⟨ds, G1, hds, e1, w.step w1 e1, b1⟩⟩) fun us s1 ⟨vs, H1, I1, r1, q1⟩ => ?_) hs hpl))) na) na))
  obtain ⟨ds, G1, hz, ex, W1, b1⟩ := q1
  obtain ⟨d1, d2, d3, xs1, xs2, xs3, rfl, w1, w2, w3, hsz, hp⟩ := zip3R_inv hz
  obtain ⟨v1, v2, v3, rfl, bv1, bv2, bv3⟩ := b1.three
  obtain ⟨k1, a1, vs1, rfl, sk1, dq1⟩ := rowB W1.w bv1 w1
  have sq1 := sk1 G1 H1 .refl W1.w
  obtain ⟨k2, a2, vs2, rfl, sk2, dq2⟩ := rowB W1.w bv2 w2
  have sq2 := sk2 G1 H1 .refl W1.w
  obtain ⟨k3, a3, vs3, rfl, sk3, dq3⟩ := rowB W1.w bv3 w3
  have sq3 := sk3 G1 H1 .refl W1.w
  have eu : us = [Value.ref a1, Value.ref a2, Value.ref a3] := by
    cases r1 with | cons ra1 rr1 => cases rr1 with | cons ra2 rr2 => cases rr2 with | cons ra3 rr3 => (cases rr3; cases ra1; cases ra2; cases ra3; rfl)
  subst eu
  obtain ⟨its1, rv1, p1⟩ := sq1.its I1
  obtain ⟨o1, ho1⟩ := p1.obj
  have hl1 : a1 < s1.heap.objs.size := Heap.lt_size ho1
  have len1 : vs1.length = its1.length := rv1.length
  obtain ⟨its2, rv2, p2⟩ := sq2.its I1
  obtain ⟨o2, ho2⟩ := p2.obj
  have hl2 : a2 < s1.heap.objs.size := Heap.lt_size ho2
  have len2 : vs2.length = its2.length := rv2.length
  obtain ⟨its3, rv3, p3⟩ := sq3.its I1
  obtain ⟨o3, ho3⟩ := p3.obj
  have hl3 : a3 < s1.heap.objs.size := Heap.lt_size ho3
  have len3 : vs3.length = its3.length := rv3.length
  refine zip_begins3 (beginsK k1 a1 its1.toArray) (beginsK k2 a2 its2.toArray) (beginsK k3 a3 its3.toArray) p1 p2 p3 fun h' hz' hTI hTO g1 g2 g3 hsz' hk => args_nil ?_
  have hh := I1.ok.hd hc
  have T := tit_zip3 (prog := X.prog) (w := X.w) (A := X.A.in1.in1) (S := h'.objs.size) hh (zip_sep3 (N := s1.heap.objs.size) (fp1 := [a1]) (fp2 := [a2]) (fp3 := [a3]) (fun b hb => by rw [List.mem_singleton.mp hb]; exact hl1) (fun b hb => by rw [List.mem_singleton.mp hb]; exact hl2) (fun b hb => by rw [List.mem_singleton.mp hb]; exact hl3)) (Nat.ne_of_lt hl1) (Nat.ne_of_lt (Nat.lt_add_right 1 hl2)) (Nat.ne_of_lt (Nat.lt_add_right 2 hl3)) (k1 := k1) (k2 := k2) (k3 := k3) (its1 := its1.toArray) (its2 := its2.toArray) (its3 := its3.toArray) (fun b hb => by
    rw [hsz']
    simp only [List.mem_cons, List.not_mem_nil, or_false] at hb
    rcases hb with rfl | rfl | rfl | rfl | rfl | rfl | rfl | rfl | rfl
    · exact Nat.add_lt_add_left (by decide) _
    · exact Nat.add_lt_add_left (by decide) _
    · exact Nat.add_lt_add_left (by decide) _
    · exact Nat.lt_add_of_pos_right (by decide)
    · exact Nat.add_lt_add_left (by decide) _
    · exact Nat.add_lt_add_left (by decide) _
    · exact Nat.lt_add_right _ hl1
    · exact Nat.lt_add_right _ hl2
    · exact Nat.lt_add_right _ hl3)
  refine tz_call (s := { s1 with heap := h' }) (E := X.xe) hz' (n := min (min its1.toArray.size its2.toArray.size) its3.toArray.size) ?_ T ?_ fun h2 tk acc cc as rows hk2 hS2 hal hrl hP hG hacc => ?_
  · have : xs1.length ≤ sizeLine := hsz
    have := dq1.length
    simp only [List.size_toArray]
    omega
  · refine ⟨.inl ⟨rfl, Heap.get?_push_of_some _ hz', _, _, _, Heap.get?_push_of_some _ hTO⟩, Heap.get?_push_of_some _ hTI, ⟨(ItK.new g1).at fun o e => Heap.get?_push_of_some _ e, p1.at fun o e => Heap.get?_push_of_some _ (hk _ _ e)⟩, ⟨(ItK.new g2).at fun o e => Heap.get?_push_of_some _ e, p2.at fun o e => Heap.get?_push_of_some _ (hk _ _ e)⟩, ⟨(ItK.new g3).at fun o e => Heap.get?_push_of_some _ e, p3.at fun o e => Heap.get?_push_of_some _ (hk _ _ e)⟩⟩
  · have I2 : Inv X pins σ H1 { s1 with heap := h' } := I1.kept (t' := s1.toks) hk
    have kept : ∀ b o, s1.heap.get? b = some o → h2.get? b = some o := fun b o e => hk2 b o (fun hb => by
      have hlt := Heap.lt_size e
      simp only [List.mem_cons, List.not_mem_nil, or_false] at hb
      rcases hb with rfl | rfl | rfl | rfl | rfl
      · exact absurd hlt (Nat.not_lt.mpr (Nat.le_add_right _ _))
      · exact absurd hlt (Nat.not_lt.mpr (Nat.le_add_right _ _))
      · exact absurd hlt (Nat.not_lt.mpr (Nat.le_refl _))
      · exact absurd hlt (Nat.not_lt.mpr (Nat.le_add_right _ _))
      · exact absurd hlt (Nat.not_lt.mpr (Nat.le_add_right _ _))) (hk b o e)
    simp only [List.size_toArray] at hal hrl
    have hv : ∀ (j : Nat) (v : List V) (rr : List Value), (List.zipWith (fun (q : V × V) z => [q.1, q.2, z]) (vs1.zip vs2) vs3)[j]? = some v → rows[j]? = some rr → Vals v rr ∧ v.length ≤ sizeLine := by
      intro j v rr h1 h3
      obtain ⟨y1, y2, y3, z1, z2, z3, rfl⟩ := hP j rr h3
      have z1' : its1[j]? = some y1 := by simpa using z1
      have jl1 : j < vs1.length := by
        have := (List.getElem?_eq_some_iff.mp z1').1
        omega
      obtain ⟨u1, m1, t1⟩ := rv1.get (List.getElem?_eq_getElem jl1)
      obtain rfl : u1 = y1 := Option.some.inj (m1.symm.trans z1')
      have z2' : its2[j]? = some y2 := by simpa using z2
      have jl2 : j < vs2.length := by
        have := (List.getElem?_eq_some_iff.mp z2').1
        omega
      obtain ⟨u2, m2, t2⟩ := rv2.get (List.getElem?_eq_getElem jl2)
      obtain rfl : u2 = y2 := Option.some.inj (m2.symm.trans z2')
      have z3' : its3[j]? = some y3 := by simpa using z3
      have jl3 : j < vs3.length := by
        have := (List.getElem?_eq_some_iff.mp z3').1
        omega
      obtain ⟨u3, m3, t3⟩ := rv3.get (List.getElem?_eq_getElem jl3)
      obtain rfl : u3 = y3 := Option.some.inj (m3.symm.trans z3')
      rw [List.getElem?_zipWith, List.zip, List.getElem?_zipWith, List.getElem?_eq_getElem jl1, List.getElem?_eq_getElem jl2, List.getElem?_eq_getElem jl3] at h1
      obtain rfl : [vs1[j], vs2[j], vs3[j]] = v := by simpa using h1
      exact ⟨.cons t1 (.cons t2 (.cons t3 .nil)), by show 3 ≤ sizeLine; decide⟩
    have hlr : as.length = rows.length := by omega
    obtain ⟨H', j1, j2, j3, j4, j5, j6, J⟩ := rows_laid (tk := tk) (p := h'.objs.size) (vr := List.zipWith (fun (q : V × V) z => [q.1, q.2, z]) (vs1.zip vs2) vs3) I1 (by rw [hsz']; exact Nat.le_add_right _ _) (by
      have : xs1.length ≤ sizeLine := hsz
      have := dq1.length
      omega) kept hS2 hlr (by simp only [List.length_zipWith, List.length_zip]; omega) hG hacc hv
    · refine ⟨.ref h'.objs.size, H', J, rfl, ?_⟩
      refine fin_rows W1 ex j2 j3 j4 j1 j5 (by rw [zip3_len]; have := dq1.length; have := dq2.length; have := dq3.length; omega) (fun j t d h1 h3 => ?_) hp q
      obtain ⟨x1, x2, x3, f1, f2, f3, rfl⟩ := zip3_get h3
      obtain ⟨v, h4, h5⟩ := j6 j t h1
      obtain ⟨u1, m1, t1⟩ := dq1.get f1
      obtain ⟨u2, m2, t2⟩ := dq2.get f2
      obtain ⟨u3, m3, t3⟩ := dq3.get f3
      rw [List.getElem?_zipWith, List.zip, List.getElem?_zipWith, m1, m2, m3] at h4
      obtain rfl : [u1, u2, u3] = v := by simpa using h4
      exact ⟨_, _, h5, rfl, .cons t1 (.cons t2 (.cons t3 .nil))⟩
end Pu

namespace Pu
open PySem PySem.Spec PyProof.Rows L2 HT
variable [Tb]
/-! ### t[::1] of a tuple: itself -/
section
variable {prog : Program} {w : World} {A : Around} {E : Value → Shared → Prop} {s : Shared}
theorem sliceApplied_one {sl : Addr} {vl vu vs : Value} {n : Nat} {Q : Int × Int × Nat → Shared → Prop} (hs : s.heap.IsSliceOf sl vl vu vs) (pl : IsPart vl none) (pu : IsPart vu none) (ps : IsPart vs (some 1))
    (h : Q (0, 1, n) s) : wpAny (model prog w) A (Builtin.Slice.sliceApplied (.ref sl) (pure (n : Int))) Q E s := by
  obtain ⟨os, hos, hcs, hds⟩ := id hs
  unfold Builtin.Slice.sliceApplied Builtin.Slice.sliceFields
  refine wpAny_bind (wpAny_bind (wpAny_field hos hds (x := vl) rfl (wpAny_bind (wpAny_field hos hds (x := vu) rfl (wpAny_bind (wpAny_field hos hds (x := vs) rfl (wpAny_pure ?_)))))))
  refine wpAny_bind (slicePart_ ps ?_)
  show wpAny _ _ (if ((1 : Int) == 0) = true then _ else _) _ _ s
  rw [if_neg (by decide)]
  refine wpAny_bind (slicePart_ pl (wpAny_bind (slicePart_ pu (wpAny_bind (wpAny_pure ?_)))))
  have e : Builtin.Slice.sliceAdjust none none 1 (n : Int) = (0, (n : Int)) := by
    unfold Builtin.Slice.sliceAdjust
    simp
  show wpAny _ _ (match Builtin.Slice.sliceAdjust none none 1 (n : Int) with | (lo, hi) => pure (lo, (1 : Int), Builtin.Slice.slicePlaces lo hi 1)) _ _ s
  rw [e]
  have e2 : Builtin.Slice.slicePlaces 0 (n : Int) 1 = n := by
    unfold Builtin.Slice.slicePlaces
    cases n with
    | zero => simp
    | succ n => simp
  show wpAny _ _ (pure ((0 : Int), (1 : Int), Builtin.Slice.slicePlaces 0 (n : Int) 1)) _ _ s
  rw [e2]
  exact wpAny_pure h
theorem getItem_tuple_one {t sl : Addr} {items : Array Value} {vl vu vs : Value} {Q : Value → Shared → Prop} (ht : IsTup s.heap t items) (hs : s.heap.IsSliceOf sl vl vu vs) (pl : IsPart vl none) (pu : IsPart vu none) (ps : IsPart vs (some 1))
    (h : Q (.ref t) s) : wpAny (model prog w) A (getItem (.ref t) (.ref sl)) Q E s := by
  obtain ⟨os, hos, hcs, hds⟩ := id hs
  have hTs : s.TypeIs (.ref sl) "slice" := ⟨os, hos, hcs⟩
  unfold getItem
  try with_reducible refine wpAny_holding ?_
  first | refine wpAny_bind (wpAny_pure ?_) | skip
  refine wpAny_bind (wpAny_sequenceKey ht.typeIs (by decide) ?_)
  refine wpAny_bind (wpAny_callSpecial?_slot (name := Str.ofString "__getitem__") ht.typeIs PyProof.Rows.slot_tuple_getitem
    (wpAny_call_entry PyProof.Rows.slot_tuple_getitem ht.typeIs entry_tuple_getitem ?_ (args_tuple_getitem _ _)))
  show wpAny _ _ (Builtin.Tuple.tupleItemsOf (.ref t) >>= _) _ _ s
  refine wpAny_bind (tupleItemsOf_ ht ?_)
  refine wpAny_bind (wpAny_typeOf hTs ?_)
  rw [if_pos (by decide)]
  refine wpAny_bind (sliceApplied_one hs pl pu ps ?_)
  have hyes : (((0 : Int) == 0 && (1 : Int) == 1 && items.size == items.size) = true) := by simp
  show wpAny _ _ (if ((0 : Int) == 0 && (1 : Int) == 1 && items.size == items.size) = true then _ else _) _ _ s
  rw [if_pos hyes]
  refine wpAny_bind ?_
  unfold Builtin.Tuple.tupleIsExact
  refine wpAny_bind (wpAny_typeOf ht.typeIs (wpAny_pure ?_))
  rw [if_pos (by decide)]
  exact wpAny_bind (wpAny_rule (wpAny_pure ⟨_, rfl, wpAny_pure h⟩))
end
def tOneT (K : PySem.W.Frag) (te : TE) : TE := fun σ H Q => te σ H fun x H1 => ∃ a xs, x = .ref a ∧ SqT K H1 a xs ∧ Q (.ref a) H1
section
variable {X : Cx}
theorem pe_oneT {e : Expr} {te : TE} {k : Nat} {p1 p3 pos : Pos} (he : PE X e te) : PE X (.Subscript e (.Slice none none (some (.Constant (.int 1) k p1)) p3) pos) (tOneT X.K te) := by
  refine ⟨fun pins s σ H Q I h => ?_⟩
  refine Subscript_ (thn (he.run pins s σ H _ I h) fun v s1 ⟨x, H1, I1, r1, q1⟩ => ?_)
  have hst : PO X (some (.Constant (.int 1) k p1)) (tPart (tC (.int 1))) := po_some pe_int
  refine wpAny_Slice (thn (po_none.run pins s1 σ H1 (fun o H2 => o = none ∧ H2 = H1) I1 ⟨rfl, rfl⟩) fun vl s2 ⟨l, H2, I2, pl, el, e2⟩ => ?_)
  subst el e2
  refine thn (po_none.run pins s2 σ H2 (fun o H3 => o = none ∧ H3 = H2) I2 ⟨rfl, rfl⟩) fun vu s3 ⟨u, H3, I3, pu, eu, e3⟩ => ?_
  subst eu e3
  refine thn (hst.run pins s3 σ H3 (fun o H4 => o = some 1 ∧ H4 = H3) I3 ⟨1, rfl, rfl, rfl⟩) fun vs s4 ⟨o, H4, I4, ps, eo, e4⟩ => ?_
  subst eo e4
  have I5 : Inv X pins σ H4 { s4 with heap := s4.heap.push { cls := .type "slice", data := .fields #[vl, vu, vs] } } := I4.kept (t' := s4.toks) fun b ob q => Heap.get?_push_of_some _ q
  obtain ⟨a, xs, ex, hx, q⟩ := q1
  subst ex
  cases r1
  obtain ⟨its, r, ht, hz⟩ := I5.tuple hx
  show wpAny (model X.prog X.w) X.A (subscriptTail e (.Slice none none (some (.Constant (.int 1) k p1)) p3) (.ref a) (.ref s4.heap.objs.size)) (EP X pins σ Q) X.xe { s4 with heap := s4.heap.push { cls := .type "slice", data := .fields #[vl, vu, vs] } }
  refine tail_any (ops := [.ref a, .ref s4.heap.objs.size]) ht.typeIs (PyProof.Rows.slot_tuple_getitem.lookup) ?_ (by with_unfolding_all rfl)
  refine getItem_tuple_one ht (Heap.IsSliceOf.new _ vl vu vs) pl pu ps ?_
  exact ⟨.ref a, H4, I5, rfl, q⟩
variable {e a b : Expr} {es : List Expr} {pos : Pos} {st : Stmt}
def oneR : D → R D
  | .tuple xs => ok (.tuple xs)
  | _ => fail
theorem onePT {f : List Sl → R D} {k : Nat} {p1 p3 : Pos} (ha : PE X a (tB X.K f)) : PE X (.Subscript a (.Slice none none (some (.Constant (.int 1) k p1)) p3) pos) (tP X.K (m1 f oneR)) :=
  PE.wk (pe_oneT ha) fun σ H Q ⟨c, G, ρ, post, w, r, hf, q⟩ => ⟨c, G, ρ, _, w, r, hf, fun d hd v G1 H1 e1 w1 b1 => by
    cases d <;> try exact hd.elim
    obtain ⟨p, vs, rfl, h1, h2⟩ := b1.tup
    exact ⟨p, vs, rfl, sqT_mono w1.sub h1, q _ hd _ G1 H1 e1 w1 (.tup h1 h2)⟩⟩
end
end Pu
namespace Pu
open PySem PySem.Spec PyProof.Rows L2 HT
variable [Tb]
open PySem.AutoSeq1 in
theorem list_extend_tupG (l : Addr) (items : Array Value) (n : Nat) (b : Addr) (items2 : Array Value) (n2 : Nat) (dd : Option Addr) (sl : Array (Option Value)) (hs0 : ¬(!items.isEmpty && Builtin.List.listTooLong (items.size + items2.size)) = true) (hs1 : items.size ≤ sizeLine) (hs2 : items.size + items2.size ≤ sizeLine + 1) :
    Meets (Builtin.«list.extend» ⟨[.ref l, .ref b], []⟩) (fun _ R s => s.heap.get? l = some { cls := .type "list", dict := none, data := .seq items n, slots := #[] } ∧ s.heap.get? b = some { cls := .type "tuple", dict := dd, data := .seq items2 n2, slots := sl } ∧ R (.ok (.ret Value.none)) { s with heap := s.heap.update l (Obj.mapSeq fun x => x ++ items2), toks := s.toks }) :=
  .of_wp fun prog w A R s h => by
    obtain ⟨hp, g, d, tk, os⟩ := s; obtain ⟨hl, hb, h⟩ := h; have f1 := idx_int; have f2 := AutoSeq1.sub_tuple_tuple; have f3 := AutoSeq1.sub_list_list; have f4 := AutoSeq1.sub_tuple_list; have f5 := AutoSeq1.sub_list_tuple;
    have hz' : (items ++ items2).size ≤ sizeLine + 1 := by rw [Array.size_append]; exact hs2
    wp_walk using (wpAny_updateSeq hl rfl (hz := hs1) (_hz' := hz')), wpAny_loadPart' hl, wpAny_loadPart' hb; exact ⟨_, rfl, h⟩
def rExtendA (K : PySem.W.Frag) : V → List V → Hp → VK → Prop := fun x vs H Q => ∃ l b xs zs, x = .ref l ∧ vs = [.ref b] ∧ H l = some (.lst xs) ∧ (H b = some (.lst zs) ∨ SqT K H b zs) ∧ xs.length + zs.length ≤ sizeLine ∧ Q .non (upd H l (.lst (xs ++ zs)))
section
variable {X : Cx}
theorem mt_extendA : MtM X "list.extend" (rExtendA X.K) := by
  intro pins s σ H x vs v us Q I rx rv h
  obtain ⟨l, b, xs, zs, rfl, rfl, hH, hB, hz, q⟩ := h
  rcases hB with hB | hB
  · exact mt_extend pins s σ H _ _ v us Q I rx rv ⟨l, b, xs, zs, rfl, rfl, hH, hB, hz, q⟩
  cases rx
  obtain ⟨u, rfl, ru⟩ := rv.one
  cases ru
  obtain ⟨z, its, n, r, hl, e⟩ := I.lstM hH
  obtain ⟨its2, r2, ⟨⟨cls2, dd, data2, sl⟩, e2, hc2, n2, hd2⟩, hl2⟩ := I.tuple hB
  simp only at hc2 hd2
  subst hc2 hd2
  have n1 := r.length
  have n2' := r2.length
  have hsz : its.toArray.size + its2.toArray.size ≤ sizeLine := by rw [List.size_toArray, List.size_toArray]; omega
  have hlong : ¬ (!its.toArray.isEmpty && Builtin.List.listTooLong (its.toArray.size + its2.toArray.size)) = true := by
    rw [notLongL hsz, Bool.and_false]
    exact Bool.false_ne_true
  refine call_meets F.slot_list_extend ⟨_, e, rfl⟩ F.entry_list_extend (F.args_list_extend_2 _ _)
    (list_extend_tupG l its.toArray n b its2.toArray n2 dd sl hlong (by rw [List.size_toArray]; omega) (by omega)) ⟨e, e2, ?_⟩
  refine ⟨.non, _, I.lset (its' := its ++ its2) hH e (by simp) (r.append r2) ?_, rfl, q⟩
  rw [List.length_append]
  omega
end
def extAR : List D → List D → R (List D)
  | ds, [.list es] => bd (req (ds.length + es.length ≤ sizeLine)) fun _ => ok (ds ++ es)
  | ds, [.tuple es] => bd (req (ds.length + es.length ≤ sizeLine)) fun _ => ok (ds ++ es)
  | _, _ => fail
theorem mut_extA {K : PySem.W.Frag} : MutB K (rExtendA K) extAR := by
  intro c G H a ds vs xs args post Q w h k ka hp q
  match args, ka, hp with
  | [.list es], ka, hp =>
    obtain ⟨v, rfl, b⟩ := ka.one
    obtain ⟨p, us, rfl, h1, h2, _⟩ := b.lst w
    exact ⟨a, p, vs, us, rfl, rfl, h, .inl h1, by rw [k.length, h2.length]; exact hp.1, q _ hp.2 _ _ (k.append h2)⟩
  | [.tuple es], ka, hp =>
    obtain ⟨v, rfl, b⟩ := ka.one
    obtain ⟨p, us, rfl, h1, h2⟩ := b.tup
    exact ⟨a, p, vs, us, rfl, rfl, h, .inr (sqT_mono w.sub h1), by rw [k.length, h2.length]; exact hp.1, q _ hp.2 _ _ (k.append h2)⟩
end Pu

namespace Pu
open PySem PySem.Spec PyProof.Rows L2
variable [Tb]
/-! ### expressions that are never reached; shifts; comparisons of four -/
section
variable {X : Cx} {e a b d d' : Expr} {pos : Pos}
theorem neverE : PE X e (tP X.K fun _ => fail) := ⟨fun pins s σ H Q I ⟨c, G, ρ, post, w, r, hg, q⟩ => hg.elim⟩
def shlR : D → D → R D
  | .int i, .int j => bd (req (0 ≤ j ∧ j ≤ 1000000 ∧ i.natAbs < 2 ^ 64)) fun _ => ok (.int (i * 2 ^ j.toNat))
  | _, _ => fail
theorem bop_shl : Bop X.K (rI CPow fun i j => .int (i * 2 ^ j.toNat)) shlR := by
  intro c G H x y d e post Q w b1 b2 hp q
  cases d <;> cases e <;> try exact hp.elim
  exact ⟨_, _, b1.int, b2.int, hp.1, q _ hp.2 _ G H .refl w (.int _)⟩
theorem oShl {f g : List Sl → R D} (ha : PE X a (tB X.K f)) (hb : PE X b (tB X.K g)) : PE X (.BinOp a .LShift b pos) (tP X.K (m2 f g shlR)) := pOp op_shl bop_shl ha hb
def tChain3 (r r' r'' : R2) (ta tb tc td : TE) : TE := fun σ H Q => ta σ H fun x H1 => tb σ H1 fun y H2 => r x y H2 fun z H3 => ∃ k, z = .bl k ∧
  (if k = true then tc σ H3 fun u H4 => r' y u H4 fun z' H5 => ∃ k', z' = .bl k' ∧ (if k' = true then td σ H5 fun v H6 => r'' u v H6 Q else Q (.bl false) H5) else Q (.bl false) H3)
theorem pe_chain3 {op op' op'' : CmpOp} {r r' r'' : R2} {ta tb tc td : TE} (ho : OpR X (compareOp op) r) (ho' : OpR X (compareOp op') r') (ho'' : OpR X (compareOp op'') r'') (ha : PE X a ta) (hb : PE X b tb) (hc : PE X d tc) (hd : PE X d' td)
    (hm : lastMarks [op, op', op''] [b, d, d'] = false := by with_unfolding_all rfl) : PE X (.Compare a [op, op', op''] [b, d, d'] pos) (tChain3 r r' r'' ta tb tc td) := by
  refine ⟨fun pins s σ H Q I h => ?_⟩
  refine Compare_chain (thn (ha.run pins s σ H _ I h) fun v s1 ⟨x, H1, I1, r1, q1⟩ => chain_link (thn (hb.run pins s1 σ H1 _ I1 q1) fun u s2 ⟨y, H2, I2, r2, q2⟩ =>
    thn (ho pins s2 σ H2 x y v u _ I2 r1 r2 q2) fun d s3 ⟨z, H3, I3, r3, k, e, q3⟩ => ?_)) hm
  subst e
  cases r3
  refine wpAny_truthy_bool ?_
  cases k with
  | false => exact ite_ff ⟨.bl false, H3, I3, rfl, q3⟩
  | true =>
    refine ite_tt (chain_link (thn (hc.run pins s3 σ H3 _ I3 q3) fun w' s4 ⟨z', H4, I4, r4, q4⟩ => thn (ho' pins s4 σ H4 y z' u w' _ I4 r2 r4 q4) fun d5 s5 ⟨z5, H5, I5, r5, k5, e5, q5⟩ => ?_))
    subst e5
    cases r5
    refine wpAny_truthy_bool ?_
    cases k5 with
    | false => exact ite_ff ⟨.bl false, H5, I5, rfl, q5⟩
    | true => exact ite_tt (chain_last (thn (hd.run pins s5 σ H5 _ I5 q5) fun w6 s6 ⟨z6, H6, I6, r6, q6⟩ => ho'' pins s6 σ H6 z' z6 w' w6 Q I6 r4 r6 q6))
theorem pt_chain3 {op op' op'' : CmpOp} {r r' r'' : R2} {ta tb tc td : TE} (ho : OpR X (compareOp op) r) (ho' : OpR X (compareOp op') r') (ho'' : OpR X (compareOp op'') r'') (ha : PE X a ta) (hb : PE X b tb) (hc : PE X d tc) (hd : PE X d' td)
    (hm : lastMarks [op, op', op''] [b, d, d'] = false := by with_unfolding_all rfl) : PT X (.Compare a [op, op', op''] [b, d, d'] pos) (tTest (tChain3 r r' r'' ta tb tc td)) := by
  refine ⟨fun pins s σ H Q I h => ?_⟩
  refine isTrue_chain (thn (ha.run pins s σ H _ I h) fun v s1 ⟨x, H1, I1, r1, q1⟩ => test_link (thn (hb.run pins s1 σ H1 _ I1 q1) fun u s2 ⟨y, H2, I2, r2, q2⟩ =>
    thn (ho pins s2 σ H2 x y v u _ I2 r1 r2 q2) fun d s3 ⟨z, H3, I3, r3, k, e, q3⟩ => ?_)) hm
  subst e
  cases r3
  refine wpAny_truthy_bool ?_
  cases k with
  | false =>
    obtain ⟨k', e', q'⟩ := q3
    cases e'
    exact ite_ff ⟨H3, I3, q'⟩
  | true =>
    refine ite_tt (test_link (thn (hc.run pins s3 σ H3 _ I3 q3) fun w' s4 ⟨z', H4, I4, r4, q4⟩ => thn (ho' pins s4 σ H4 y z' u w' _ I4 r2 r4 q4) fun d5 s5 ⟨z5, H5, I5, r5, k5, e5, q5⟩ => ?_))
    subst e5
    cases r5
    refine wpAny_truthy_bool ?_
    cases k5 with
    | false =>
      obtain ⟨k', e', q'⟩ := q5
      cases e'
      exact ite_ff ⟨H5, I5, q'⟩
    | true =>
      refine ite_tt (test_last (thn (hd.run pins s5 σ H5 _ I5 q5) fun w6 s6 ⟨z6, H6, I6, r6, q6⟩ => thn (ho'' pins s6 σ H6 z' z6 w' w6 _ I6 r4 r6 q6) fun d7 s7 ⟨z7, H7, I7, r7, k7, e7, q7⟩ => ?_))
      subst e7
      cases r7
      exact wpAny_truthy_bool ⟨H7, I7, q7⟩
def chain3 (h h' h'' : D → D → R D) (f g k l : List Sl → R D) : List Sl → R D := fun ρ => bd (f ρ) fun x => bd (g ρ) fun y => bd (h x y) fun z => bd (asB z) fun t =>
  if t = true then bd (k ρ) fun u => bd (h' y u) fun z => bd (asB z) fun t => if t = true then bd (l ρ) fun v => h'' u v else ok (.bool false) else ok (.bool false)
theorem chain3_of {K : PySem.W.Frag} {r r' r'' : R2} {h h' h'' : D → D → R D} (hr : Bop K r h) (hr' : Bop K r' h') (hr'' : Bop K r'' h'') {f g k l : List Sl → R D} {σ : L2.St} {H : Hp} {Q : VK} (q : tP K (chain3 h h' h'' f g k l) σ H Q) : tChain3 r r' r'' (tB K f) (tB K g) (tB K k) (tB K l) σ H Q := by
  obtain ⟨c, G, ρ, post, w, rs, hf, q⟩ := q
  refine ⟨c, G, ρ, _, w, rs, hf, fun x hx v G1 H1 e1 w1 b1 => ?_⟩
  refine ⟨c, G1, ρ, _, w.step w1 e1, rs.ext e1, hx, fun y hy u G2 H2 e2 w2 b2 => ?_⟩
  refine hr c G2 H2 v u x y _ _ w2 (b1.ext e2) b2 hy fun z hz v' G3 H3 e3 w3 d3 => ?_
  obtain ⟨t, rfl, ht⟩ := asB_inv hz
  cases d3
  refine ⟨t, rfl, ?_⟩
  cases t with
  | false => exact q _ ht _ G3 H3 ((e1.trans e2).trans e3) w3 (.bl _)
  | true =>
    rw [if_pos rfl]
    have w3' : Wd c G3 H3 := ((w.step w1 e1).step w2 e2).step w3 e3
    rw [if_pos rfl] at ht
    refine ⟨c, G3, ρ, _, w3', ((rs.ext e1).ext e2).ext e3, ht, fun z hz v' G4 H4 e4 w4 b4 => ?_⟩
    refine hr' c G4 H4 u v' y z _ _ w4 ((b2.ext e3).ext e4) b4 hz fun z5 hz5 v5 G5 H5 e5 w5 d5 => ?_
    obtain ⟨t5, rfl, ht5⟩ := asB_inv hz5
    cases d5
    refine ⟨t5, rfl, ?_⟩
    cases t5 with
    | false => exact q _ ht5 _ G5 H5 ((((e1.trans e2).trans e3).trans e4).trans e5) w5 (.bl _)
    | true =>
      rw [if_pos rfl]
      rw [if_pos rfl] at ht5
      refine ⟨c, G5, ρ, _, (w3'.step w4 e4).step w5 e5, ((((rs.ext e1).ext e2).ext e3).ext e4).ext e5, ht5, fun z6 hz6 v6 G6 H6 e6 w6 b6 => ?_⟩
      exact hr'' c G6 H6 v' v6 z z6 post Q w6 ((b4.ext e5).ext e6) b6 hz6 fun z7 hz7 v7 G' H' e7 w7 d7 => q z7 hz7 v7 G' H' ((((((e1.trans e2).trans e3).trans e4).trans e5).trans e6).trans e7) w7 d7
theorem cmp3 {op op' op'' : CmpOp} {h h' h'' : D → D → R D} (k : CmpQ X op h) (k' : CmpQ X op' h') (k'' : CmpQ X op'' h'') {f g l m : List Sl → R D} (ha : PE X a (tB X.K f)) (hb : PE X b (tB X.K g)) (hc : PE X d (tB X.K l)) (hd : PE X d' (tB X.K m)) (hm : lastMarks [op, op', op''] [b, d, d'] = false := by with_unfolding_all rfl) :
    PE X (.Compare a [op, op', op''] [b, d, d'] pos) (tP X.K (chain3 h h' h'' f g l m)) := let ⟨_, o, z⟩ := k.ex; let ⟨_, o', z'⟩ := k'.ex; let ⟨_, o'', z''⟩ := k''.ex; PE.wk (pe_chain3 o o' o'' ha hb hc hd hm) fun _ _ _ q => chain3_of z z' z'' q
theorem cmp3T {op op' op'' : CmpOp} {h h' h'' : D → D → R D} (k : CmpQ X op h) (k' : CmpQ X op' h') (k'' : CmpQ X op'' h'') {f g l m : List Sl → R D} (ha : PE X a (tB X.K f)) (hb : PE X b (tB X.K g)) (hc : PE X d (tB X.K l)) (hd : PE X d' (tB X.K m)) (hm : lastMarks [op, op', op''] [b, d, d'] = false := by with_unfolding_all rfl) :
    PT X (.Compare a [op, op', op''] [b, d, d'] pos) (tT X.K (m1 (chain3 h h' h'' f g l m) asB)) := let ⟨_, o, z⟩ := k.ex; let ⟨_, o', z'⟩ := k'.ex; let ⟨_, o'', z''⟩ := k''.ex; PT.wk (pt_chain3 o o' o'' ha hb hc hd hm) fun _ _ _ q => tTest_of (fun _ _ _ y => chain3_of z z' z'' y) q
end
end Pu

namespace Pu
open PySem PySem.Spec PyProof.Rows L2
variable [Tb]
/-! ### set(xs) of a list of ints, sorted -/
/-- a set just made -/
abbrev newS (w : World) : Obj := { cls := .type "set", dict := none, data := .set #[] 0 (.fresh 0 0 (!w.params.followText "set-order")) }
section
variable {P : Program} {w : World} {A : Around} {E : Value → Shared → Prop} {s : Shared}
/-- what the call leaves: the set of the ints at the next free place -/
def Made (w : World) (s : Shared) (ns : List Int) (h : Heap) : Prop := (∃ c, SetR w h s.heap.objs.size (fun j => decide (j ∈ ns)) c) ∧ ∀ b o, s.heap.get? b = some o → h.get? b = some o
theorem fill_set {l : Addr} {its : Array Value} {ns : List Int} (hh : A.handled = none) (hl : s.heap.IsList l its) (hit : IntsAre its.toList ns) (hb : ns.length + 1 < scanBound) {Q : Value → Shared → Prop}
    (q : ∀ h tk, Made w s ns h → Q .none { s with heap := h, toks := tk }) :
    wpAny (model P w) A (Builtin.«set.__init__» ⟨[.ref s.heap.objs.size, .ref l], []⟩) (fun fin s' => ∃ v, fin = .done (.ret v) ∧ Q v s') E { s with heap := s.heap.push (newS w) } := by
  obtain ⟨⟨cl, dd, dt, sl⟩, hol, hcl, nl, hdl⟩ := hl
  simp only at hcl hdl
  subst hcl
  subst hdl
  have sz : its.size = ns.length := by
    rw [← Array.length_toList]; exact IntsAre.length hit
  have hol' := Heap.get?_push_of_some (newS w) hol
  have f1 := F.sub_list_set
  have f2 := F.sub_list_frozenset
  have f3 : (Value.type "list" == Value.type "dict") = false := by decide
  have L1 : (s.heap.push (newS w)).IsList l its := ⟨_, hol', rfl, nl, rfl⟩
  unfold Builtin.«set.__init__» noKeywords Builtin.Frozenset.updateFrom
  generalize gi : pyIter = PI
  wp_walk
  subst gi
  refine wpAny_pyIter_list L1 ?_
  refine wpAny_bind (wpAny_runValue ?_)
  have lt := Heap.lt_size hol
  have z1 : (s.heap.push (newS w)).objs.size = s.heap.objs.size + 1 := Heap.size_push ..
  have hh' : A.in1.handled = none := by simp [hh]
  have ne1 : l ≠ (s.heap.push (newS w)).objs.size := by rw [z1]; exact Nat.ne_of_lt (Nat.lt_succ_of_lt lt)
  have nf : s.heap.objs.size ∉ [(s.heap.push (newS w)).objs.size, l] := fun h => by
    rcases List.mem_cons.mp h with h | h
    · rw [z1] at h; exact Nat.ne_of_lt (Nat.lt_succ_self _) h
    · exact Nat.ne_of_gt lt (List.mem_singleton.mp h)
  have val : ∀ (i : Nat) (v : Value), its[i]? = some v → ∃ k t, ns[i]? = some k ∧ v = .int k t := fun i v hv => by
    have lti : i < ns.length := by rw [← sz]; exact (Array.getElem?_eq_some_iff.mp hv).1
    obtain ⟨t, e⟩ := PyProof.Rows.IntsAre.int_at hit i v (by rw [Array.getElem?_toList]; exact hv)
    exact ⟨ns[i], t, List.getElem?_eq_getElem lti, by rw [e, List.getD_eq_getElem?_getD, List.getElem?_eq_getElem lti] <;> rfl⟩
  have at2 : ((s.heap.push (newS w)).push { cls := .type "list_iterator", data := .fields #[.ref l, .int 0 0] }).get? s.heap.objs.size = some (newS w) := Heap.get?_push_of_some _ (Heap.get?_push_size _ rfl)
  refine set_update_ints ((Walks.list hh' _ l ne1 its).toS) s.heap.objs.size nf ns sz hb val (its.size - 0) 0 _ (by omega) (Nat.zero_le _) ⟨⟨_, Heap.get?_push_size _ rfl, rfl, rfl⟩, L1.push _⟩ ⟨0, Nat.le_refl 0, setR_new_at at2⟩ fun s' c m _ S => ?_
  obtain ⟨h', g', d', t', o'⟩ := s'
  obtain rfl : g' = s.gens := m.gens
  obtain rfl : d' = s.drawn := m.drawn
  obtain rfl : o' = s.os := m.os
  refine wpAny_pure ?_
  refine wpAny_pure ⟨_, rfl, q h' t' ⟨⟨c, S⟩, fun b o e => ?_⟩⟩
  have := Heap.lt_size e
  refine m.heap b o (fun h => ?_) (Heap.get?_push_of_some _ (Heap.get?_push_of_some _ e))
  rcases List.mem_cons.mp h with h | h
  · exact Nat.ne_of_lt this h
  · have h := List.mem_singleton.mp h
    change b = (s.heap.push (newS w)).objs.size at h
    rw [z1] at h
    exact Nat.ne_of_lt (Nat.lt_succ_of_lt this) h
theorem call_setL {l : Addr} {its : Array Value} {ns : List Int} (hh : A.handled = none) (hl : s.heap.IsList l its) (hit : IntsAre its.toList ns) (hb : ns.length + 1 < scanBound) {Q : Value → Shared → Prop}
    (q : ∀ h tk, Made w s ns h → Q (.ref s.heap.objs.size) { s with heap := h, toks := tk }) : wpAny (model P w) A (PySem.call (.type "set") [.ref l]) Q E s := by
  obtain ⟨cc, tl, mro⟩ := F.called_set.mro
  have h1 := F.called_set.made
  have h2 := F.called_set.sub
  have h3 := F.called_set.notType
  have h4 := F.called_set.canCreate
  have h5 := F.typeCall_set_1 (.ref l)
  refine wpAny_call (codeAny_of_tree ?_)
  show wpAny _ _ (callAny (.type "set") _) _ _ _
  refine wpAny_pure ⟨Code.quiet_builtin _ (by decide +kernel), codeAny_builtin F.entry_type_call ?_⟩
  rw [Around.under_plain (weight_type_call_type "set" [.ref l] []) rfl]
  repeat (any_goals (first | assumption | wp_step))
  refine codeAny_mono (code_set_led1 (.ref l) (E := E) (Q₁ := fun v t => v = .ref s.heap.objs.size ∧ t = { s with heap := s.heap.push (newS w) }) ⟨rfl, rfl⟩) fun r t ht => ?_
  rcases r with e | r
  · exact ht
  rcases r with v | _ | _ | _ <;> try exact ht.elim
  obtain ⟨rfl, rfl⟩ := ht
  have T : Shared.TypeIs { s with heap := s.heap.push (newS w) } (.ref s.heap.objs.size) "set" := ⟨_, Heap.get?_push_size _ rfl, rfl⟩
  have b1 := F.called_set.init.lookup
  have b2 := F.called_set.init.bind (.ref s.heap.objs.size)
  repeat (any_goals (first | assumption | wp_step))
  refine codeAny_mono (codeAny_call_builtin (R := wants (fun v t => v = .none ∧ ∃ h tk, t = { s with heap := h, toks := tk } ∧ Made w s ns h) E) F.called_set.init.plain F.entry_set_init (check_set_init_1 T ?_)) fun r t ht => ?_
  · exact wpAny_mono (fill_set (A := A.in1.in1) (E := E) (Q := fun v t => v = .none ∧ ∃ h tk, t = { s with heap := h, toks := tk } ∧ Made w s ns h) (by simp [hh]) hl hit hb fun h tk m => ⟨rfl, h, tk, rfl, m⟩) (fun fin t ⟨v, e, q⟩ => by subst e; exact q) fun e t h => h
  rcases r with e | r
  · exact ht
  rcases r with v | _ | _ | _ <;> try exact ht.elim
  obtain ⟨rfl, h, tk, rfl, m⟩ := ht
  repeat (any_goals (first | assumption | wp_step))
  exact q h tk m
end
section
variable {X : Cx} {a e : Expr} {pos p p2 q2 : Pos}
theorem card_le : ∀ (ks L : List Int), ks.Nodup → (∀ k ∈ ks, k ∈ L) → ks.length ≤ L.length
  | [], _, _, _ => Nat.zero_le _
  | k :: ks, L, nd, h => by
    obtain ⟨n1, n2⟩ := List.nodup_cons.mp nd
    have hk := h k List.mem_cons_self
    have := card_le ks (L.erase k) n2 fun x hx => (List.mem_erase_of_ne (by rintro rfl; exact n1 hx)).mpr (h x (List.mem_cons_of_mem _ hx))
    rw [List.length_erase_of_mem hk] at this
    have : 0 < L.length := List.length_pos_of_mem hk
    rw [List.length_cons]; omega
def rSetLI (K : PySem.W.Frag) (w : World) : List V → Hp → VK → Prop := fun xs H Q => ∃ (l : Addr) (ns L : List Int), xs = [.ref l] ∧ SqL K H l (ns.map V.int) ∧ ns.length + 1 < scanBound ∧ L.length < 64 ∧ (∀ k ∈ ns, k ∈ L) ∧
  ∀ p n, H p = none → n < 64 → Q (.ref p) (upd H p (SetO w p (fun j => decide (j ∈ ns)) n))
theorem cr_setLI (hc : X.calm = true) : CallR X (.type "set") (rSetLI X.K X.w) := by
  intro pins s σ H xs us Q I r h
  obtain ⟨l, ns, L, rfl, hl, hb, hL, hs, q⟩ := h
  rw [Vals.ref1 r]
  obtain ⟨its, rv, pl, hz⟩ := I.list hl
  have hn : H s.heap.objs.size = none := I.hok.fresh (Nat.le_refl _)
  refine call_setL (P := X.prog) (w := X.w) (I.ok.hd hc) pl.isList (by simpa using ints_of_vals rv) hb fun h' tk m => ?_
  obtain ⟨⟨c, R⟩, k⟩ := m
  have hc : c < 64 := by
    obtain ⟨o, es, ep, t, _, _, _, _, nd, hm, _, _, hn, _⟩ := R
    have := card_le (es.toList.map keyOf) L nd fun j hj => hs j (by simpa using (hm j).mpr hj)
    rw [List.length_map, Array.length_toList, hn] at this
    omega
  exact ⟨.ref s.heap.objs.size, upd H s.heap.objs.size (SetO X.w s.heap.objs.size (fun j => decide (j ∈ ns)) c), I.laid (t' := tk) k (Nat.le_refl _) (setO_new R), rfl, q _ c hn hc⟩
end
end Pu

namespace Pu
open PySem PySem.Spec PyProof.Rows L2
variable [Tb]
/-- ints of a list of data -/
def intsD : List D → Option (List Int)
  | [] => some []
  | .int i :: ds => (intsD ds).map (i :: ·)
  | _ :: _ => none
theorem intsD_map : ∀ ns : List Int, intsD (ns.map .int) = some ns
  | [] => rfl
  | n :: ns => by rw [List.map_cons, intsD, intsD_map ns]; rfl
theorem intsD_inv : ∀ {ds : List D} {ns : List Int}, intsD ds = some ns → ds = ns.map .int
  | [], _, h => by cases h; rfl
  | .int i :: ds, _, h => by
    rw [intsD] at h
    cases e : intsD ds with
    | none => rw [e] at h; cases h
    | some ms => rw [e] at h; cases h; rw [intsD_inv e]; rfl
  | .none :: _, _, h => nomatch h
  | .bool _ :: _, _, h => nomatch h
  | .str _ :: _, _, h => nomatch h
  | .list _ :: _, _, h => nomatch h
  | .tuple _ :: _, _, h => nomatch h
  | .dict _ :: _, _, h => nomatch h
/-- what must hold of ints that are put into a set and sorted: few different ones -/
def setOk (ns : List Int) : Prop := ns.length + 1 < 4096 ∧ ∃ L : List Int, L.length < 64 ∧ ∀ k ∈ ns, k ∈ L
/-- sorted(set(xs)): the different ones, ascending -/
def srtIR : Option (List Int) → R (List D)
  | some ns => fun post => setOk ns ∧ ∀ out : List Int, out.Pairwise (· < ·) → (∀ k, k ∈ out ↔ k ∈ ns) → post (out.map .int)
  | none => fail
def srtSetR : D → R (List D)
  | .list ds => srtIR (intsD ds)
  | _ => fail
section
variable {X : Cx} {a : Expr} {pos p p2 q2 : Pos} {x y : Str}
theorem srtSet (hc : X.calm = true) (hm : X.mg "sorted" = none) (hm2 : X.mg "set" = none) {f : List Sl → R D} (ha : PE X a (tB X.K f)) (hg : Gl X "sorted" := by rfl) (hg2 : Gl X "set" := by rfl)
    (hs : starEach [a] X.env = [(false, eval a X.env)] := by rfl) (hpl : (backTo q2 (starEach [] X.env)).any (·.1) = false := by rfl)
    (hs2 : starEach [.Call (.Name "set" p2) [a] [] q2] X.env = [(false, eval (.Call (.Name "set" p2) [a] [] q2) X.env)] := by rfl) (hpl2 : (backTo pos (starEach [] X.env)).any (·.1) = false := by rfl) :
    PE X (.Call (.Name "sorted" p) [.Call (.Name "set" p2) [a] [] q2] [] pos) (tF X.K (m1 f srtSetR)) :=
  PE.wk (pe_callB (cr_sortedSet hc) hg hm (by decide +kernel) (pa_cons (pe_callTy (cr_setLI hc) hg2 hm2 (by decide +kernel) (pa_cons ha pa_nil hs) (by decide) (by decide) hs hpl) pa_nil hs2) (by decide) (by decide) hs2 hpl2) fun σ H Q ⟨c, G, ρ, post, w, r, hf, q⟩ => by
    refine ⟨c, G, ρ, _, w, r, hf, fun d hd v G1 H1 e1 w1 b1 => ?_⟩
    cases d <;> try exact hd.elim
    rename_i ds
    change srtIR (intsD ds) _ at hd
    cases e : intsD ds with
    | none => rw [e] at hd; exact hd.elim
    | some ns =>
      rw [e] at hd
      obtain ⟨⟨hn, L, hL, hin⟩, hd⟩ := hd
      obtain rfl := intsD_inv e
      obtain ⟨l, us, rfl, h1, h2, _⟩ := b1.lst w1
      have hu := h2.ints
      subst hu
      refine ⟨l, ns, L, rfl, .inl (.inl h1), hn, hL, hin, fun p1 n np hn64 => ?_⟩
      refine ⟨p1, _, n, rfl, upd_same, hn64, fun out p3 o1 o2 _ np3 => ?_⟩
      obtain ⟨w2, e2⟩ := w1.new np (SetO X.w p1 (fun j => decide (j ∈ ns)) n)
      exact fin_new (ds := out.map .int) ((w.step w1 e1).step w2 e2) (e1.trans e2) np3 (DqAll.ofInts out) (hd out o1 fun k => (o2 k).trans (by simp)) q
end
end Pu

namespace Pu
open PySem PySem.Spec PyProof.Rows L2
variable [Tb]
/-! ### sorted(dict(pairs)), the keys whole numbers -/
def keysD : List D → Option (List Int)
  | [] => some []
  | .tuple [.int i, _] :: ds => (keysD ds).map (i :: ·)
  | _ :: _ => none
theorem keysD_cons {d : D} {ds : List D} {ns : List Int} (h : keysD (d :: ds) = some ns) : ∃ i e ms, d = .tuple [.int i, e] ∧ keysD ds = some ms ∧ ns = i :: ms := by
  match d, h with
  | .tuple [.int i, e], h =>
    have h : (keysD ds).map (i :: ·) = some ns := h
    cases k : keysD ds with
    | none => rw [k] at h; cases h
    | some ms => rw [k] at h; cases h; exact ⟨i, e, ms, rfl, rfl, rfl⟩
theorem putK_keys {acc : List (Key × V)} {ks : List Int} (h : acc.map (·.1) = ks.map Sum.inl) (hn : ks.Nodup) (i : Int) (v : V) : ∃ ks' : List Int, (putK acc (.inl i) v).map (·.1) = ks'.map Sum.inl ∧ ks'.Nodup ∧ ∀ k, k ∈ ks' ↔ k ∈ ks ∨ k = i := by
  have hany : (acc.any fun kv => decide (kv.1 = Sum.inl i)) = decide (i ∈ ks) := by
    have : (acc.any fun kv => decide (kv.1 = Sum.inl i)) = ((acc.map (·.1)).any fun k => decide (k = Sum.inl i)) := by rw [List.any_map]; rfl
    rw [this, h, List.any_map, Bool.eq_iff_iff, List.any_eq_true, decide_eq_true_eq]
    constructor
    · rintro ⟨x, hx, e⟩
      have : x = i := by simpa using e
      rw [← this]; exact hx
    · intro hi
      exact ⟨i, hi, by simp⟩
  unfold putK
  rw [hany]
  by_cases hi : i ∈ ks
  · rw [if_pos (by simpa using hi)]
    refine ⟨ks, ?_, hn, fun k => ⟨.inl, fun h => h.elim id fun e => e ▸ hi⟩⟩
    rw [← h, List.map_map]
    refine List.map_congr_left fun x _ => ?_
    show (if x.1 = Sum.inl i then (x.1, v) else x).1 = x.1
    split <;> rfl
  · rw [if_neg (by simpa using hi)]
    refine ⟨ks ++ [i], by rw [List.map_append, List.map_append, h]; rfl, ?_, fun k => by simp⟩
    rw [List.nodup_append]
    exact ⟨hn, by simp, fun a ha b hb e => by
      simp at hb
      subst hb
      subst e
      exact hi ha⟩
theorem mergeK_keys : ∀ (more : List (Key × V)) (ns : List Int), more.map (·.1) = ns.map Sum.inl → ∀ (acc : List (Key × V)) (ks : List Int), acc.map (·.1) = ks.map Sum.inl → ks.Nodup → ∃ ks' : List Int, (mergeK acc more).map (·.1) = ks'.map Sum.inl ∧ ks'.Nodup ∧ ∀ k, k ∈ ks' ↔ k ∈ ks ∨ k ∈ ns
  | [], [], _, acc, ks, h, hn => ⟨ks, h, hn, fun k => by simp⟩
  | [], _ :: _, e, _, _, _, _ => by simp at e
  | _ :: _, [], e, _, _, _, _ => by simp at e
  | (a, v) :: more, n :: ns, e, acc, ks, h, hn => by
    rw [List.map_cons, List.map_cons] at e
    obtain ⟨e0, er⟩ := List.cons.inj e
    have e0 : a = Sum.inl n := e0
    subst e0
    obtain ⟨ks1, h1, h2, h3⟩ := putK_keys h hn n v
    obtain ⟨ks2, g1, g2, g3⟩ := mergeK_keys more ns er _ ks1 h1 h2
    refine ⟨ks2, g1, g2, fun k => ?_⟩
    rw [g3, h3, List.mem_cons]
    constructor
    · rintro ((h | h) | h)
      · exact .inl h
      · exact .inr (.inl h)
      · exact .inr (.inr h)
    · rintro (h | h | h)
      · exact .inl (.inl h)
      · exact .inl (.inr h)
      · exact .inr h
def srtDI : Option (List Int) → R (List D)
  | some ns => fun post => setOk ns ∧ ∀ out : List Int, out.Pairwise (· < ·) → (∀ k, k ∈ out ↔ k ∈ ns) → post (out.map .int)
  | none => fail
/-- sorted(dict(pairs)): the different keys, ascending -/
def srtDicR : D → R (List D)
  | .list ds => srtDI (keysD ds)
  | _ => fail
theorem pairs_of_keys {K : PySem.W.Frag} {H : Hp} : ∀ {ds : List D} {ns : List Int} {us : List V}, keysD ds = some ns → DqAll K H us ds → ∃ (ps : List Addr) (kvs : List (Key × V)), us = ps.map V.ref ∧ Paired (fun p kv => SqT K H p [kV kv.1, kv.2]) ps kvs ∧ kvs.map (·.1) = ns.map Sum.inl
  | [], ns, us, h, q => by
    cases h; cases q
    exact ⟨[], [], rfl, .nil, rfl⟩
  | d :: ds, ns, us, h, q => by
    obtain ⟨i, e, ms, rfl, h1, rfl⟩ := keysD_cons h
    cases q with
    | cons q1 q2 =>
      obtain ⟨ps, kvs, rfl, hp, hk⟩ := pairs_of_keys h1 q2
      cases q1 with
      | tup e1 k =>
        cases k with
        | cons ka kb =>
          cases kb with
          | cons kc kd =>
            cases kd
            cases ka
            exact ⟨_ :: ps, (.inl i, _) :: kvs, rfl, .cons e1.sqT hp, by rw [List.map_cons, hk]; rfl⟩
section
variable {X : Cx} {a : Expr} {pos p p2 q2 : Pos}
theorem srtDic (hc : X.calm = true) (hm : X.mg "sorted" = none) (hm2 : X.mg "dict" = none) {f : List Sl → R D} (ha : PE X a (tB X.K f)) (hg : Gl X "sorted" := by rfl) (hg2 : Gl X "dict" := by rfl)
    (hs : starEach [a] X.env = [(false, eval a X.env)] := by rfl) (hpl : (backTo q2 (starEach [] X.env)).any (·.1) = false := by rfl)
    (hs2 : starEach [.Call (.Name "dict" p2) [a] [] q2] X.env = [(false, eval (.Call (.Name "dict" p2) [a] [] q2) X.env)] := by rfl) (hpl2 : (backTo pos (starEach [] X.env)).any (·.1) = false := by rfl) :
    PE X (.Call (.Name "sorted" p) [.Call (.Name "dict" p2) [a] [] q2] [] pos) (tF X.K (m1 f srtDicR)) :=
  PE.wk (pe_callB (call_sortedDI hc) hg hm (by decide +kernel) (pa_cons (pe_callTy (call_dictP hc) hg2 hm2 (by decide +kernel) (pa_cons ha pa_nil hs) (by decide) (by decide) hs hpl) pa_nil hs2) (by decide) (by decide) hs2 hpl2) fun σ H Q ⟨c, G, ρ, post, w, r, hf, q⟩ => by
    refine ⟨c, G, ρ, _, w, r, hf, fun d hd v G1 H1 e1 w1 b1 => ?_⟩
    cases d <;> try exact hd.elim
    rename_i ds
    change srtDI (keysD ds) _ at hd
    cases e : keysD ds with
    | none => rw [e] at hd; exact hd.elim
    | some ns =>
      rw [e] at hd
      obtain ⟨⟨hn, L, hL, hin⟩, hd⟩ := hd
      obtain ⟨l, us, rfl, h1, h2, _⟩ := b1.lst w1
      obtain ⟨ps, kvs, rfl, hp, hk⟩ := pairs_of_keys e (h2.mono w1.sub)
      refine ⟨l, ps, kvs, rfl, .inl (.inl h1), hp, fun p1 np => ?_⟩
      obtain ⟨ks, g1, g2, g3⟩ := mergeK_keys kvs ns hk [] [] rfl .nil
      refine ⟨p1, mergeK [] kvs, ks, rfl, .inl upd_same, g1, Nat.lt_of_le_of_lt (card_le ks L g2 fun k h => hin k (by simpa using (g3 k).mp h)) hL, fun ys p3 o1 o2 np3 => ?_⟩
      obtain ⟨w2, e2⟩ := w1.new np (.dK (mergeK [] kvs))
      refine fin_new (ds := ys.map .int) ((w.step w1 e1).step w2 e2) (e1.trans e2) np3 (DqAll.ofInts ys) (hd ys ?_ fun k => (o1.mem_iff).trans ((g3 k).trans (by simp))) q
      have nd : ys.Nodup := o1.nodup_iff.mpr g2
      clear o1
      induction ys with
      | nil => exact .nil
      | cons y ys ih =>
        obtain ⟨a1, a2⟩ := List.pairwise_cons.mp o2
        obtain ⟨b1, b2⟩ := List.nodup_cons.mp nd
        exact List.pairwise_cons.mpr ⟨fun z hz => by
          have := a1 z hz
          have : y ≠ z := fun e => b1 (e ▸ hz)
          omega, ih a2 b2⟩
end
end Pu

namespace Pu
open PySem PySem.Spec PyProof.Rows L2
variable [Tb]
/-! ### ranges with a step -/
def rgcD (lo c : Int) (n : Nat) : List D := (List.range n).map fun (i : Nat) => .int (lo + (i : Int) * c)
theorem rgcD_length (lo c : Int) (n : Nat) : (rgcD lo c n).length = n := by simp [rgcD]
def range3R : List D → R (List D)
  | [.int i, .int j, .int c] => fun post => ∃ n, RgC i j c n ∧ n ≤ sizeLine ∧ post (rgcD i c n)
  | _ => fail
theorem wks_rngC {K : PySem.W.Frag} {c : Ct} {lo k : Int} {n : Nat} {Rel : Hp → Hp → Prop} : Wks K c (Itc lo k n) Rel (rgcD lo k n) := by
  intro i G H r w
  refine ⟨fun d hd => ?_, fun hl => by rw [rgcD_length] at hl; exact hl⟩
  have hlt : i < n := by rw [← rgcD_length lo k n]; exact (List.getElem?_eq_some_iff.mp hd).1
  have ed : d = .int (lo + (i : Int) * k) := by
    unfold rgcD at hd
    rw [List.getElem?_map, List.getElem?_range hlt] at hd
    exact (Option.some.inj hd).symm
  subst ed
  refine ⟨hlt, fun x H1 ⟨h1, h2⟩ => ?_⟩
  subst h1 h2
  exact ⟨G, .refl, w, .int _⟩
section
variable {X : Cx} {tg : Expr} {a b c : Expr} {pos : Pos}
theorem iR3 {p : Pos} {f : List Sl → R (List D)} (hm : X.mg "range" = none) (ha : PA X [a, b, c] (tAB X.K f)) (hg : Gl X "range" := by rfl) (hs : starEach [a, b, c] X.env = (false, eval a X.env) :: starEach [b, c] X.env := by rfl) (hpl : (backTo pos (starEach [b, c] X.env)).any (·.1) = false := by rfl) : PI X tg (.Call (.Name "range" p) [a, b, c] [] pos) (tIs X.K (m1 f range3R)) :=
  PI.wk (pi_range3 hg hm ha hs hpl) fun σ H R' ⟨c, G, ρ, post, w, r, hf, q⟩ => ⟨c, G, ρ, _, w, r, hf, fun ds hds vs G1 H1 e1 w1 b1 => by
    match ds, b1, hds with
    | [.int i, .int j, .int k], b1, hds =>
      obtain ⟨v, u, x, rfl, b, b', b''⟩ := b1.three
      rw [b.int, b'.int, b''.int]
      obtain ⟨n, h, hz, hp⟩ := hds
      exact ⟨i, j, k, n, rfl, h, q _ hp (by rw [rgcD_length]; exact hz) _ G1 H1 e1 w1 wks_rngC⟩⟩
end
theorem range3_e {i j c : Int} {n : Nat} (h : RgC i j c n) (hn : n ≤ 1000000) : range3R [.int i, .int j, .int c] = ok (rgcD i c n) := by
  funext post
  apply propext
  constructor
  · rintro ⟨m, hm, _, hp⟩
    have e : (m : Int) = (n : Int) := hm.2.2.2.symm.trans h.2.2.2
    have e : m = n := by omega
    subst e
    exact hp
  · intro hp
    exact ⟨n, h, Nat.le_trans hn (by decide), hp⟩
theorem rgc_up {i j c : Int} {n : Nat} (hc : 0 < c) (hc' : c < 2 ^ 20) (hi : -(2 ^ 40) < i) (hi' : i < 2 ^ 40) (hj' : j < 2 ^ 40) (hij : i < j) (hn : (j - i - 1) / c + 1 = (n : Int)) : RgC i j c n := by
  have hs : Builtin.Range.rangeSize i j c = n := by
    unfold Builtin.Range.rangeSize
    rw [if_pos hc, if_pos hij, hn]
  refine ⟨by omega, by omega, ?_, hs⟩
  unfold Builtin.Range.small
  rw [hs]
  have h1 := Int.ediv_le_self c (show (0 : Int) ≤ j - i - 1 by omega)
  have h2 : (n : Int) * c ≤ j - i - 1 + c := by
    rw [← hn, Int.add_mul, Int.one_mul]
    have := Int.ediv_mul_le (j - i - 1) (show c ≠ 0 by omega)
    omega
  simp only [Builtin.Range.rangeFitsLong, Bool.and_eq_true, Bool.or_eq_true, decide_eq_true_eq, beq_iff_eq, hc, if_true]
  omega
end Pu

namespace Pu
open PySem PySem.Spec PyProof.Rows L2
variable [Tb]
/-! ### dicts of a slot of its own, the keys ints and texts -/
def keyR : D → R Key
  | .int i => ok (.inl i)
  | .str s => ok (.inr s)
  | _ => fail
theorem keyR_inv {K : PySem.W.Frag} {G : Hp} {v : V} {d : D} {post : Key → Prop} (q : Dq K G v d) (h : keyR d post) : ∃ k, v = kV k ∧ post k := by
  cases q with
  | int i => exact ⟨.inl i, rfl, h⟩
  | str s => exact ⟨.inr s, rfl, h⟩
  | _ => exact h.elim
def valG (kvs : List (Key × D)) (k : Key) : Option D := (kvs.find? fun kv => decide (kv.1 = k)).map (·.2)
def putG (kvs : List (Key × D)) (k : Key) (d : D) : List (Key × D) := if (kvs.any fun kv => decide (kv.1 = k)) = true then kvs.map fun kv => if kv.1 = k then (kv.1, d) else kv else kvs ++ [(k, d)]
section
variable {K : PySem.W.Frag} {G : Hp}
theorem DqK.any (k : Key) : ∀ {vs : List (Key × V)} {ds : List (Key × D)}, DqK K G vs ds → (vs.any fun kv => decide (kv.1 = k)) = ds.any fun kv => decide (kv.1 = k)
  | _, _, .nil => rfl
  | _, _, .cons e q => by rw [List.any_cons, List.any_cons, DqK.any k q]
theorem DqK.repl (k : Key) {x : V} {y : D} (r : Dq K G x y) : ∀ {vs : List (Key × V)} {ds : List (Key × D)}, DqK K G vs ds → DqK K G (vs.map fun kv => if kv.1 = k then (kv.1, x) else kv) (ds.map fun kv => if kv.1 = k then (kv.1, y) else kv)
  | _, _, .nil => .nil
  | _, _, .cons (k := j) e q => by
    rw [List.map_cons, List.map_cons]
    by_cases h : j = k
    · rw [if_pos h, if_pos h]; exact .cons r (DqK.repl k r q)
    · rw [if_neg h, if_neg h]; exact .cons e (DqK.repl k r q)
theorem DqK.snoc (k : Key) {x : V} {y : D} (r : Dq K G x y) : ∀ {vs : List (Key × V)} {ds : List (Key × D)}, DqK K G vs ds → DqK K G (vs ++ [(k, x)]) (ds ++ [(k, y)])
  | _, _, .nil => .cons r .nil
  | _, _, .cons e q => .cons e (DqK.snoc k r q)
theorem DqK.put (k : Key) {x : V} {y : D} (r : Dq K G x y) {vs : List (Key × V)} {ds : List (Key × D)} (q : DqK K G vs ds) : DqK K G (putK vs k x) (putG ds k y) := by
  unfold putK putG
  rw [q.any k]
  split
  · exact q.repl k r
  · exact q.snoc k r
theorem DqK.val (k : Key) : ∀ {vs : List (Key × V)} {ds : List (Key × D)}, DqK K G vs ds → (valV vs k = none ∧ valG ds k = none) ∨ ∃ v d, valV vs k = some v ∧ valG ds k = some d ∧ Dq K G v d
  | _, _, .nil => .inl ⟨rfl, rfl⟩
  | _, _, .cons (k := j) (v := v) (d := d) (r := r) (s := s) e q => by
    by_cases h : j = k
    · exact .inr ⟨v, d, by simp [valV, h], by simp [valG, h], e⟩
    · rcases DqK.val k q with ⟨h1, h2⟩ | ⟨v', d', h1, h2, h3⟩
      · exact .inl ⟨by rw [valV_neg (by exact h)]; exact h1, by unfold valG at *; rw [List.find?_cons_of_neg (by simpa using h)]; exact h2⟩
      · exact .inr ⟨v', d', by rw [valV_neg (by exact h)]; exact h1, by unfold valG at *; rw [List.find?_cons_of_neg (by simpa using h)]; exact h2, h3⟩
end
/-- the own dict in a slot -/
def getOD (ρ : List Sl) (i : Nat) : R (List (Key × D)) := match ρ[i]? with
  | some (.od ds) => ok ds
  | _ => fail
theorem getOD_inv {ρ : List Sl} {i : Nat} {post : List (Key × D) → Prop} (h : getOD ρ i post) : ∃ ds, ρ[i]? = some (.od ds) ∧ post ds := by
  unfold getOD at h
  cases e : ρ[i]? with
  | none => rw [e] at h; exact h.elim
  | some x =>
    rw [e] at h
    cases x with
    | od ds => exact ⟨ds, rfl, h⟩
    | _ => exact h.elim
/-- the own dict in a slot is changed -/
theorem Wd.mutD {K : PySem.W.Frag} {c : Ct} {G H : Hp} {a : Addr} {ds es : List (Key × D)} (w : Wd c G H) (o : OwnD K c G H a ds) {ws : List (Key × V)} (q : DqK K G ws es) : Wd c G (upd H a (.dK ws)) ∧ OwnD K c G (upd H a (.dK ws)) a es := by
  have h0 : ∀ p u, c.H0 p = some u → p ≠ a := fun p u e z => by subst z; rw [o.h0] at e; cases e
  refine ⟨⟨⟨fun p u e => ?_, w.w.vol, Ef.loc w.w.inv (by obtain ⟨us, hu, _⟩ := o.at_; exact .dK hu) fun p vp => ?_⟩, ⟨w.e.g, fun p u e v => ?_, w.e.n⟩⟩, ⟨⟨ws, upd_same, q⟩, o.g, o.h0, o.v⟩⟩
  · rw [upd_ne (by rintro rfl; rw [o.g] at e; cases e)]; exact w.w.sub p u e
  · rw [upd_ne (by rintro rfl; exact o.v vp)]
  · rw [upd_ne (h0 p u e)]; exact w.e.h p u e v
theorem RS.mutD {K : PySem.W.Frag} {c : Ct} {G H : Hp} {σ : L2.St} {ρ : List Sl} (r : RS K c G H σ ρ) {i : Nat} {a : Addr} {ds es : List (Key × D)} (hi : ρ[i]? = some (.od ds)) (hs : σ[i]? = some (some (.ref a)))
    (o : OwnD K c G H a ds) {ws : List (Key × V)} (q : DqK K G ws es) : RS K c G (upd H a (.dK ws)) σ (ρ.set i (.od es)) := by
  refine ⟨by simp [r.len], fun j x h => ?_, fun j l ds' es' u h1 h2 k1 k2 h3 h4 => ?_⟩
  · rcases set_get h with ⟨rfl, rfl⟩ | ⟨hj, h⟩
    · exact .inr ⟨_, hs, a, rfl, ⟨⟨ws, upd_same, q⟩, o.g, o.h0, o.v⟩⟩
    · rcases r.at_ j x h with e | ⟨u, e, s⟩
      · exact .inl e
      · refine .inr ⟨u, e, ?_⟩
        cases x with
        | un => trivial
        | dat d => exact s
        | box k => exact s
        | own fs =>
          obtain ⟨b, rfl, ob⟩ := s
          have hb : b ≠ a := fun z => own_od ob o z.symm
          obtain ⟨vs, e1, e2⟩ := ob.at_
          exact ⟨b, rfl, ⟨vs, by rw [upd_ne hb]; exact e1, e2⟩, ob.g, ob.h0, ob.v⟩
        | od fs =>
          obtain ⟨b, rfl, ob⟩ := s
          have hb : b ≠ a := fun z => by subst z; exact hj (r.dd j i _ _ _ h hi rfl rfl e hs)
          obtain ⟨vs, e1, e2⟩ := ob.at_
          exact ⟨b, rfl, ⟨vs, by rw [upd_ne hb]; exact e1, e2⟩, ob.g, ob.h0, ob.v⟩
  · have f : ∀ (j : Nat) (x : Sl), (ρ.set i (.od es))[j]? = some x → x.isOwn = true → ∃ y : Sl, ρ[j]? = some y ∧ y.isOwn = true := fun j x h k => by
      rcases set_get h with ⟨rfl, _⟩ | ⟨_, h⟩
      · exact ⟨_, hi, rfl⟩
      · exact ⟨_, h, k⟩
    obtain ⟨_, g1, m1⟩ := f j ds' h1 k1
    obtain ⟨_, g2, m2⟩ := f l es' h2 k2
    exact r.dd j l _ _ u g1 g2 m1 m2 h3 h4
/-- .. gives a new dict, not frozen -/
def tFD (K : PySem.W.Frag) (f : List Sl → R (List (Key × D))) : TE := fun σ H Q => ∃ (c : Ct) (G : Hp) (ρ : List Sl) (post : List (Key × D) → Prop), Wd c G H ∧ RS K c G H σ ρ ∧ f ρ post ∧
  ∀ r, post r → ∀ a G' H', H a = none → Ext c.E G H G' H' → W0 c.E G' H' → OwnD K c G' H' a r → Q (.ref a) H'
def setOD (i : Nat) (f : List Sl → R (List (Key × D))) : List Sl → R Out := fun ρ => bd (f ρ) fun ds => ok (.nx (ρ.set i (.od ds)))
def emptyD : List Sl → R (List (Key × D)) := fun _ => ok []
section
variable {X : Cx} {e : Expr} {pos : Pos}
theorem dNew : PE X (.Dict [] [] pos) (tFD X.K emptyD) := PE.wk pe_dnewK fun σ H Q ⟨c, G, ρ, post, w, r, hf, q⟩ p np => by
  obtain ⟨w1, e1⟩ := w.w.new np (.dK [])
  have fr := w.w.fresh np
  refine q [] hf p G _ np e1 w1 ⟨⟨[], upd_same, .nil⟩, fr.1, ?_, fr.2⟩
  cases h : c.H0 p with
  | none => rfl
  | some u =>
    by_cases v : c.E.vol p
    · exact absurd v fr.2
    · have := w.e.h p u h v
      rw [np] at this; cases this
theorem sSetOD (i : Nat) {x : Str} {pos' : Pos} {f : List Sl → R (List (Key × D))} (hN : X.N.Nodup) (he : PE X e (tFD X.K f)) (hi : X.N[i]? = some x := by rfl) (hx : Loc X.env.scope x := by first | exact Or.inl rfl | exact Or.inr rfl) (hs : swapsWith e (some (.Name x pos')) pos.line X.env = pure false := by rfl)
    (hf : X.fn x = true ∨ X.env.scope.names.lookup x = some .local := by first | exact .inl rfl | exact .inr rfl) : PS X (.Assign [.Name x pos'] e pos) (tS X.K (setOD i f)) :=
  PS.wk (ps_set hN hi hx he hs hf) fun D σ H ⟨c, G, ρ, post, w, r, hg, q⟩ => ⟨c, G, ρ, _, w, r, hg, fun d hd a G' H' n e' w' o => q _ hd _ G' H' e'.g (w.step w' e') ((r.ext e').setOD o fun j es h => r.newN n j _ h rfl)⟩
def rOD (f : List Sl → R (List (Key × D))) : List Sl → R Sl := fun ρ => bd (f ρ) fun ds => ok (.od ds)
/-- x[k] = v -/
def putM (i : Nat) (fk fv : List Sl → R D) : List Sl → R Out := fun ρ => bd (fv ρ) fun v => bd (getOD ρ i) fun _ => bd (fk ρ) fun k => bd (keyR k) fun kk => bd (getOD ρ i) fun ds => bd (req (ds.length < sizeLine)) fun _ => ok (.nx (ρ.set i (.od (putG ds kk v))))
theorem sPutD (i : Nat) {x : Str} {p pos' : Pos} {ke ve : Expr} {fk fv : List Sl → R D} (hu : X.A.units + 1 < cLine) (hk : PE X ke (tP X.K fk)) (hv : PE X ve (tP X.K fv)) (hi : X.N[i]? = some x := by rfl) (hvis : Vis X.env.scope x := by first | exact Or.inl rfl | exact Or.inr (Or.inl rfl) | exact Or.inr (Or.inr rfl))
    (hd : (x == ("__debug__" : Str)) = false := by decide) (hcd : (x == ("__classdict__" : Str)) = false := by decide) (hs : swapsWith ve (some (.Subscript (.Name x p) ke pos')) pos.line X.env = pure false := by rfl) :
    PS X (.Assign [.Subscript (.Name x p) ke pos'] ve pos) (tS X.K (putM i fk fv)) :=
  PS.wk (ps_dput hu (pe_var hi hvis hd hcd) hk hv hs) fun D σ H ⟨c, G, ρ, post, w, r, hg, q⟩ => ⟨c, G, ρ, _, w, r, hg, fun d hd v G1 H1 e1 w1 k1 => by
    have r1 := r.ext e1
    obtain ⟨ds, hi, hd⟩ := getOD_inv hd
    rcases r1.at_ i _ hi with z | ⟨v0, e0, a, rfl, o⟩
    · cases z
    · refine ⟨_, e0, c, G1, ρ, _, w.step w1 e1, r1, hd, fun y hy u G2 H2 e2 w2 k2 => ?_⟩
      obtain ⟨k, rfl, hy⟩ := keyR_inv k2 hy
      obtain ⟨ds', hi', hy⟩ := getOD_inv hy
      rw [hi] at hi'; cases hi'
      have o2 := o.ext e2
      obtain ⟨vs, hvs, kv⟩ := o2.at_
      have hq := kv.put k (k1.mono e2.g)
      exact ⟨a, _, rfl, DPut.k hvs (by rw [kv.length]; exact hy.1), q _ hy.2 σ G2 _ (fun p u e => e2.g p u (e1.g p u e)) (Wd.mutD ((w.step w1 e1).step w2 e2) o2 hq).1 ((r1.ext e2).mutD hi e0 o2 hq)⟩⟩
/-- x[k] -/
def ixdM (i : Nat) (fk : List Sl → R D) : List Sl → R D := fun ρ => bd (getOD ρ i) fun _ => bd (fk ρ) fun k => bd (keyR k) fun kk => bd (getOD ρ i) fun ds => match valG ds kk with
  | some d => ok d
  | none => fail
theorem ixD (i : Nat) {x : Str} {p : Pos} {ke : Expr} {fk : List Sl → R D} (hu : X.A.units + 1 < cLine) (hk : PE X ke (tP X.K fk)) (hs : NoSl ke := by intro _ _; rfl) (hi : X.N[i]? = some x := by rfl) (hvis : Vis X.env.scope x := by first | exact Or.inl rfl | exact Or.inr (Or.inl rfl) | exact Or.inr (Or.inr rfl))
    (hd : (x == ("__debug__" : Str)) = false := by decide) (hcd : (x == ("__classdict__" : Str)) = false := by decide) : PE X (.Subscript (.Name x p) ke pos) (tP X.K (ixdM i fk)) :=
  PE.wk (pe_dget hu (pe_var hi hvis hd hcd) hk hs) fun σ H Q ⟨c, G, ρ, post, w, r, hg, q⟩ => by
    obtain ⟨ds, h0, hg⟩ := getOD_inv hg
    rcases r.at_ i _ h0 with z | ⟨v0, e0, a, rfl, o⟩
    · cases z
    · refine ⟨_, e0, c, G, ρ, _, w, r, hg, fun y hy u G2 H2 e2 w2 k2 => ?_⟩
      obtain ⟨k, rfl, hy⟩ := keyR_inv k2 hy
      obtain ⟨ds', h0', hy⟩ := getOD_inv hy
      rw [h0] at h0'; cases h0'
      obtain ⟨vs, hvs, kv⟩ := (o.ext e2).at_
      rcases kv.val k with ⟨_, z⟩ | ⟨v, d, g1, g2, g3⟩
      · rw [z] at hy; exact hy.elim
      · rw [g2] at hy
        exact ⟨a, v, rfl, g1 ▸ DGet.k hvs, q d hy v G2 H2 e2 w2 g3⟩
/-- x.get(k, d) -/
def getM2 (i : Nat) (fk fd : List Sl → R D) : List Sl → R D := fun ρ => bd (getOD ρ i) fun _ => bd (fk ρ) fun k => bd (fd ρ) fun z => bd (keyR k) fun kk => bd (getOD ρ i) fun ds => ok ((valG ds kk).getD z)
theorem getD2 (i : Nat) {x : Str} {p apos : Pos} {ke de : Expr} {fk fd : List Sl → R D} (hu : X.A.units + 1 < cLine) (hk : PE X ke (tP X.K fk)) (hd2 : PE X de (tP X.K fd)) (hi : X.N[i]? = some x := by rfl) (hvis : Vis X.env.scope x := by first | exact Or.inl rfl | exact Or.inr (Or.inl rfl) | exact Or.inr (Or.inr rfl))
    (hd : (x == ("__debug__" : Str)) = false := by decide) (hcd : (x == ("__classdict__" : Str)) = false := by decide) (m : M2 X (.Name x p) "get" apos ke de pos := by exact ⟨by rfl, by rfl, by rfl, by rfl⟩) : PE X (.Call (.Attribute (.Name x p) "get" apos) [ke, de] [] pos) (tP X.K (getM2 i fk fd)) :=
  PE.wk (pe_dget2 hu (pe_var hi hvis hd hcd) hk hd2 m) fun σ H Q ⟨c, G, ρ, post, w, r, hg, q⟩ => by
    obtain ⟨ds, h0, hg⟩ := getOD_inv hg
    rcases r.at_ i _ h0 with z | ⟨v0, e0, a, rfl, o⟩
    · cases z
    · obtain ⟨vs0, hv0, _⟩ := o.at_
      refine ⟨_, e0, a, rfl, .inl ⟨vs0, .inl hv0⟩, c, G, ρ, _, w, r, hg, fun y hy u G2 H2 e2 w2 k2 => ⟨c, G2, ρ, _, w.step w2 e2, r.ext e2, hy, fun z hz t G3 H3 e3 w3 k3 => ?_⟩⟩
      obtain ⟨k, rfl, hz⟩ := keyR_inv (k2.mono e3.g) hz
      obtain ⟨ds', h0', hz⟩ := getOD_inv hz
      rw [h0] at h0'; cases h0'
      obtain ⟨vs, hvs, kv⟩ := ((o.ext e2).ext e3).at_
      refine ⟨_, DGet.k hvs, ?_⟩
      rcases kv.val k with ⟨g1, g2⟩ | ⟨v, d, g1, g2, g3⟩
      · rw [g2] at hz
        rw [g1]
        exact q z hz t G3 H3 (e2.trans e3) w3 k3
      · rw [g2] at hz
        rw [g1]
        exact q d hz v G3 H3 (e2.trans e3) w3 g3
/-- sorted(x): the keys, ascending -/
def intK : List (Key × D) → Option (List Int)
  | [] => some []
  | (.inl i, _) :: r => (intK r).map (i :: ·)
  | _ :: _ => none
theorem intK_eq {K : PySem.W.Frag} {G : Hp} : ∀ {vs : List (Key × V)} {ds : List (Key × D)} {ks : List Int}, DqK K G vs ds → intK ds = some ks → vs.map (·.1) = ks.map Sum.inl
  | _, _, ks, .nil, h => by cases h; rfl
  | _, _, ks, .cons (k := j) (s := s) e q, h => by
    cases j with
    | inl i =>
      have h : (intK s).map (i :: ·) = some ks := h
      cases g : intK s with
      | none => rw [g] at h; cases h
      | some ms => rw [g] at h; cases h; rw [List.map_cons, List.map_cons, intK_eq q g]
    | inr x => cases h
def srtKM (i : Nat) : List Sl → R (List D) := fun ρ => bd (getOD ρ i) fun ds => match intK ds with
  | some ks => fun post => ks.length < 64 ∧ ∀ ys : List Int, ys.Perm ks → ys.Pairwise (· ≤ ·) → post (ys.map .int)
  | none => fail
theorem srtK (i : Nat) {x : Str} {p p2 : Pos} (hc : X.calm = true) (hm : X.mg "sorted" = none) (hg : Gl X "sorted" := by rfl) (hi : X.N[i]? = some x := by rfl) (hvis : Vis X.env.scope x := by first | exact Or.inl rfl | exact Or.inr (Or.inl rfl) | exact Or.inr (Or.inr rfl))
    (hd : (x == ("__debug__" : Str)) = false := by decide) (hcd : (x == ("__classdict__" : Str)) = false := by decide) (hs : starEach [.Name x p2] X.env = [(false, eval (.Name x p2) X.env)] := by rfl) (hpl : (backTo pos (starEach [] X.env)).any (·.1) = false := by rfl) :
    PE X (.Call (.Name "sorted" p) [.Name x p2] [] pos) (tF X.K (srtKM i)) :=
  PE.wk (pe_callB (call_sortedDI hc) hg hm (by decide +kernel) (pa_cons (pe_var hi hvis hd hcd) pa_nil hs) (by decide) (by decide) hs hpl) fun σ H Q ⟨c, G, ρ, post, w, r, hg, q⟩ => by
    obtain ⟨ds, h0, hg⟩ := getOD_inv hg
    rcases r.at_ i _ h0 with z | ⟨v0, e0, a, rfl, o⟩
    · cases z
    · obtain ⟨vs, hvs, kv⟩ := o.at_
      cases e : intK ds with
      | none => rw [e] at hg; exact hg.elim
      | some ks =>
        rw [e] at hg
        refine ⟨_, e0, a, vs, ks, rfl, .inl hvs, intK_eq kv e, hg.1, fun ys p1 o1 o2 np => ?_⟩
        exact fin_new (ds := ys.map .int) w .refl np (DqAll.ofInts ys) (hg.2 ys o1 o2) q
end
end Pu

namespace Pu
open PySem PySem.Spec PyProof.Rows L2
variable [Tb]
/-! ### {k: v}, k in x, k not in x, len(x) -/
theorem un1 {n : Nat} (h : n + 64 < cLine) : n + 1 < cLine := by omega
def disp1 (fk fv : List Sl → R D) : List Sl → R (List (Key × D)) := fun ρ => bd (fk ρ) fun k => bd (keyR k) fun kk => bd (fv ρ) fun v => ok [(kk, v)]
section
variable {X : Cx} {pos : Pos}
theorem dDisp1 {ke ve : Expr} {fk fv : List Sl → R D} (hk : PE X ke (tP X.K fk)) (hv : PE X ve (tP X.K fv)) : PE X (.Dict [some ke] [ve] pos) (tFD X.K (disp1 fk fv)) :=
  PE.wk (pe_disp (pps_cons hk hv pps_nil) rfl rfl (by simp) (by simp)) fun σ H Q ⟨c, G, ρ, post, w, r, hf, q⟩ p np => by
    obtain ⟨w1, e1⟩ := w.w.new np (.dK [])
    have fr := w.w.fresh np
    refine ⟨c, G, ρ, _, w.step w1 e1, r.ext e1, hf, fun d hd u G2 H2 e2 w2 k2 => ?_⟩
    obtain ⟨k, rfl, hd⟩ := keyR_inv k2 hd
    refine ⟨c, G2, ρ, _, (w.step w1 e1).step w2 e2, (r.ext e1).ext e2, hd, fun z hz t G3 H3 e3 w3 k3 => ?_⟩
    have hp : H3 p = some (.dK []) := e3.h p _ (e2.h p _ upd_same fr.2) fr.2
    have hg2 : G2 p = none := e2.n p _ upd_same fr.2 fr.1
    have hg3 : G3 p = none := e3.n p _ (e2.h p _ upd_same fr.2) fr.2 hg2
    have h0 : c.H0 p = none := by
      cases h : c.H0 p with
      | none => rfl
      | some u => rw [w.e.h p u h fr.2] at np; cases np
    have o : OwnD X.K c G3 H3 p [] := ⟨⟨[], hp, .nil⟩, hg3, h0, fr.2⟩
    have m := Wd.mutD (((w.step w1 e1).step w2 e2).step w3 e3) o (ws := [(k, t)]) (es := [(k, z)]) (.cons k3 .nil)
    have ee := (e1.trans e2).trans e3
    exact ⟨hp, [(k, t)], rfl, by simp, q _ hz p G3 _ np ⟨ee.g, fun a u h v => by
      rw [upd_ne (ne_of_none h np)]; exact ee.h a u h v, ee.n⟩ m.1.w m.2⟩
def inDM (i : Nat) (fk : List Sl → R D) : List Sl → R D := fun ρ => bd (fk ρ) fun k => bd (keyR k) fun kk => bd (getOD ρ i) fun ds => ok (.bool (valG ds kk).isSome)
def notInDM (i : Nat) (fk : List Sl → R D) : List Sl → R D := fun ρ => bd (fk ρ) fun k => bd (keyR k) fun kk => bd (getOD ρ i) fun ds => ok (.bool (!(valG ds kk).isSome))
theorem dIn_of {i : Nat} {fk : List Sl → R D} {neg : Bool} {g : List Sl → R D} (hg : ∀ ρ, g ρ = bd (fk ρ) fun k => bd (keyR k) fun kk => bd (getOD ρ i) fun ds => ok (.bool (if neg then !(valG ds kk).isSome else (valG ds kk).isSome))) {σ : L2.St} {H : Hp} {Q : VK} (h : tP X.K g σ H Q) :
    tP X.K fk σ H fun y H1 => tVar i σ H1 fun x H2 => ∃ a o, x = .ref a ∧ DGet H2 a y o ∧ Q (.bl (if neg then !o.isSome else o.isSome)) H2 := by
  obtain ⟨c, G, ρ, post, w, r, hf, q⟩ := h
  rw [hg] at hf
  refine ⟨c, G, ρ, _, w, r, hf, fun y hy u G2 H2 e2 w2 k2 => ?_⟩
  obtain ⟨k, rfl, hy⟩ := keyR_inv k2 hy
  obtain ⟨ds, h0, hy⟩ := getOD_inv hy
  rcases (r.ext e2).at_ i _ h0 with z | ⟨v0, e0, a, rfl, o⟩
  · cases z
  · obtain ⟨vs, hvs, kv⟩ := o.at_
    refine ⟨_, e0, a, _, rfl, DGet.k hvs, ?_⟩
    have he : (valV vs k).isSome = (valG ds k).isSome := by
      rcases kv.val k with ⟨g1, g2⟩ | ⟨v, d, g1, g2, _⟩ <;> rw [g1, g2] <;> rfl
    rw [he]
    exact q _ hy _ G2 H2 e2 w2 (.bl _)
theorem inD (i : Nat) {x : Str} {p : Pos} {ke : Expr} {fk : List Sl → R D} (hu : X.A.units + 1 < cLine) (hk : PE X ke (tP X.K fk)) (hi : X.N[i]? = some x := by rfl) (hvis : Vis X.env.scope x := by first | exact Or.inl rfl | exact Or.inr (Or.inl rfl) | exact Or.inr (Or.inr rfl))
    (hd : (x == ("__debug__" : Str)) = false := by decide) (hcd : (x == ("__classdict__" : Str)) = false := by decide) : PE X (.Compare ke [.In] [.Name x p] pos) (tP X.K (inDM i fk)) :=
  PE.wk (pe_cmp (pc_din hu hk (pe_var hi hvis hd hcd))) fun σ H Q h => dIn_of (neg := false) (fun _ => rfl) h
theorem notInD (i : Nat) {x : Str} {p : Pos} {ke : Expr} {fk : List Sl → R D} (hu : X.A.units + 1 < cLine) (hk : PE X ke (tP X.K fk)) (hi : X.N[i]? = some x := by rfl) (hvis : Vis X.env.scope x := by first | exact Or.inl rfl | exact Or.inr (Or.inl rfl) | exact Or.inr (Or.inr rfl))
    (hd : (x == ("__debug__" : Str)) = false := by decide) (hcd : (x == ("__classdict__" : Str)) = false := by decide) : PE X (.Compare ke [.NotIn] [.Name x p] pos) (tP X.K (notInDM i fk)) :=
  PE.wk (pe_cmp (pc_dnotin hu hk (pe_var hi hvis hd hcd))) fun σ H Q h => dIn_of (neg := true) (fun _ => rfl) h
theorem inDT (i : Nat) {x : Str} {p : Pos} {ke : Expr} {fk : List Sl → R D} (hu : X.A.units + 1 < cLine) (hk : PE X ke (tP X.K fk)) (hi : X.N[i]? = some x := by rfl) (hvis : Vis X.env.scope x := by first | exact Or.inl rfl | exact Or.inr (Or.inl rfl) | exact Or.inr (Or.inr rfl))
    (hd : (x == ("__debug__" : Str)) = false := by decide) (hcd : (x == ("__classdict__" : Str)) = false := by decide) : PT X (.Compare ke [.In] [.Name x p] pos) (tT X.K (m1 (inDM i fk) asB)) :=
  PT.wk (pt_cmp (pc_din hu hk (pe_var hi hvis hd hcd))) fun σ H Q ⟨c, G, ρ, post, w, r, hf, q⟩ => dIn_of (Q := fun x H1 => ∃ c, x = .bl c ∧ Q c H1) (neg := false) (g := inDM i fk) (fun _ => rfl) ⟨c, G, ρ, fun d => asB d post, w, r, hf, fun d hd v G1 H1 e1 w1 k1 => by
    cases k1 with
    | bl b => exact ⟨b, rfl, q b hd G1 H1 e1 w1⟩
    | _ => exact hd.elim⟩
theorem notInDT (i : Nat) {x : Str} {p : Pos} {ke : Expr} {fk : List Sl → R D} (hu : X.A.units + 1 < cLine) (hk : PE X ke (tP X.K fk)) (hi : X.N[i]? = some x := by rfl) (hvis : Vis X.env.scope x := by first | exact Or.inl rfl | exact Or.inr (Or.inl rfl) | exact Or.inr (Or.inr rfl))
    (hd : (x == ("__debug__" : Str)) = false := by decide) (hcd : (x == ("__classdict__" : Str)) = false := by decide) : PT X (.Compare ke [.NotIn] [.Name x p] pos) (tT X.K (m1 (notInDM i fk) asB)) :=
  PT.wk (pt_cmp (pc_dnotin hu hk (pe_var hi hvis hd hcd))) fun σ H Q ⟨c, G, ρ, post, w, r, hf, q⟩ => dIn_of (Q := fun x H1 => ∃ c, x = .bl c ∧ Q c H1) (neg := true) (g := notInDM i fk) (fun _ => rfl) ⟨c, G, ρ, fun d => asB d post, w, r, hf, fun d hd v G1 H1 e1 w1 k1 => by
    cases k1 with
    | bl b => exact ⟨b, rfl, q b hd G1 H1 e1 w1⟩
    | _ => exact hd.elim⟩
theorem mOD {a : Expr} {es : List Expr} {f : List Sl → R (List (Key × D))} {g : List Sl → R (List Sl)} (ha : PE X a (tFD X.K f)) (hr : PA X es (tM X.K g)) (hs : starEach (a :: es) X.env = (false, eval a X.env) :: starEach es X.env := by rfl) : PA X (a :: es) (tM X.K (consR (rOD f) g)) :=
  PA.wk (pa_cons ha hr hs) fun σ H Q ⟨c, G, ρ, post, w, r, hf, q⟩ => by
    refine ⟨c, G, ρ, _, w, r, hf, fun d hd p G1 H1 n1 e1 w1 o1 => ?_⟩
    refine ⟨c, G1, ρ, _, w.step w1 e1, r.ext e1, hd, fun xs hxs vs G2 H2 e2 w2 b2 n2 => q (.od d :: xs) hxs _ G2 H2 (e1.trans e2) w2 (.cons ⟨p, rfl, o1.ext e2⟩ (fun _ j fs h1 k1 h2 => ?_) b2) fun j es a h1 k1 h2 => ?_⟩
    · obtain ⟨vs1, hv, _⟩ := o1.at_
      have hn := n2 j fs p h1 k1 h2
      rw [hn] at hv; cases hv
    · cases j with
      | zero => cases h2; exact n1
      | succ j =>
        have hn := n2 j es a h1 k1 h2
        exact e1.none hn (w1.fresh hn).2
end
end Pu

namespace Pu
open PySem PySem.Spec PyProof.Rows L2
variable [Tb]
/-! ### constants of a module: dicts with texts as keys, tuples -/
def tbG (tbl : List (Str × D)) (z : Str) : Option D := (tbl.find? fun p => decide (p.1 = z)).map (·.2)
/-- the dict at p, written by the module, stands for the table -/
def KTb (K : PySem.W.Frag) (w : World) (p : Addr) (tbl : List (Str × D)) : Prop :=
  ∃ es n, K.lookup p = some ⟨.type "dict", none, .dict es n, #[]⟩ ∧ PySem.W.KeysLit w.params es.toList ∧ (p == sysModules) = false ∧
    ∀ z, ∃ r, PySem.W.nsIn K p z = some r ∧ ((tbG tbl z = none ∧ r = none) ∨ ∃ d v u, tbG tbl z = some d ∧ r = some u ∧ RelV v u ∧ ∀ G : Hp, Dq K G v d)
structure CDict (K : PySem.W.Frag) (w : World) (mg : Str → Option Value) (x : Str) (tbl : List (Str × D)) : Prop where
  ex : ∃ p, mg x = some (.ref p) ∧ KTb K w p tbl
/-- one entry -/
structure EnI (K : PySem.W.Frag) (e : DictEntry) (p : Str × D) : Prop where
  key : ∃ t, e.key = .str p.1 t
  val : ∃ v : V, RelV v e.val ∧ ∀ G : Hp, Dq K G v p.2
inductive EnIs (K : PySem.W.Frag) : List DictEntry → List (Str × D) → Prop
  | nil : EnIs K [] []
  | cons {e : DictEntry} {p : Str × D} {l : List DictEntry} {k : List (Str × D)} : EnI K e p → EnIs K l k → EnIs K (e :: l) (p :: k)
theorem isStr_e (x z : Str) (t : Tok) : (Value.str x t).isStr z = decide (x = z) := by
  show (x == z) = _
  by_cases h : x = z
  · subst h; simp
  · simp [h]
theorem en_find {K : PySem.W.Frag} (z : Str) : ∀ {l : List DictEntry} {k : List (Str × D)}, EnIs K l k → (l.find? (·.key.isStr z) = none ∧ tbG k z = none) ∨ ∃ e p, l.find? (·.key.isStr z) = some e ∧ tbG k z = some p.2 ∧ EnI K e p
  | _, _, .nil => .inl ⟨rfl, rfl⟩
  | e :: l, p :: k, .cons h r => by
    obtain ⟨t, ht⟩ := h.key
    have he : e.key.isStr z = decide (p.1 = z) := by rw [ht]; exact isStr_e _ _ _
    by_cases hz : p.1 = z
    · right
      refine ⟨e, p, ?_, ?_, h⟩
      · rw [List.find?_cons_of_pos (by rw [he]; simpa using hz)]
      · unfold tbG
        rw [List.find?_cons_of_pos (by simpa using hz)]; rfl
    · rcases en_find z r with ⟨h1, h2⟩ | ⟨e', p', h1, h2, h3⟩
      · left
        refine ⟨?_, ?_⟩
        · rw [List.find?_cons_of_neg (by rw [he]; simpa using hz)]; exact h1
        · unfold tbG at *
          rw [List.find?_cons_of_neg (by simpa using hz)]; exact h2
      · right
        refine ⟨e', p', ?_, ?_, h3⟩
        · rw [List.find?_cons_of_neg (by rw [he]; simpa using hz)]; exact h1
        · unfold tbG at *
          rw [List.find?_cons_of_neg (by simpa using hz)]; exact h2
theorem en_noref {K : PySem.W.Frag} : ∀ {l : List DictEntry} {k : List (Str × D)}, EnIs K l k → l.any (·.refKey) = false
  | _, _, .nil => rfl
  | e :: l, p :: k, .cons h r => by
    obtain ⟨t, ht⟩ := h.key
    have he : e.refKey = false := by
      unfold PySem.DictEntry.refKey
      rw [ht]
    rw [List.any_cons, he, en_noref r]; rfl
theorem KTb.mk' {K : PySem.W.Frag} {w : World} {p : Addr} {es : Array DictEntry} {n : Nat} {tbl : List (Str × D)} (hl : K.lookup p = some ⟨.type "dict", none, .dict es n, #[]⟩) (hk : PySem.W.KeysLit w.params es.toList) (lo : (p == sysModules) = false) (he : EnIs K es.toList tbl) : KTb K w p tbl := by
  refine ⟨es, n, hl, hk, lo, fun z => ?_⟩
  unfold PySem.W.nsIn
  rw [hl]
  dsimp only
  rcases en_find z he with ⟨h1, h2⟩ | ⟨e, q, h1, h2, h3⟩
  · rw [h1]
    dsimp only
    rw [en_noref he]
    exact ⟨none, rfl, .inl ⟨h2, rfl⟩⟩
  · rw [h1]
    obtain ⟨v, r, hd⟩ := h3.val
    exact ⟨_, rfl, .inr ⟨q.2, v, _, h2, rfl, r, hd⟩⟩
theorem enI_int {K : PySem.W.Frag} {h : Int} {x : Str} {t u : Tok} {i : Int} : EnI K ⟨h, .str x t, .int i u⟩ (x, .int i) := ⟨⟨t, rfl⟩, .int i, ⟨u, rfl⟩, fun _ => .int i⟩
section
variable {X : Cx} {pos : Pos}
def inTR (tbl : List (Str × D)) (neg : Bool) : D → R D
  | .str z => ok (.bool (if neg then !(tbG tbl z).isSome else (tbG tbl z).isSome))
  | _ => fail
def ixTR (tbl : List (Str × D)) : D → R D
  | .str z => match tbG tbl z with
    | some d => ok d
    | none => fail
  | _ => fail
def rInT (K : PySem.W.Frag) (w : World) (neg : Bool) (p : Addr) (tbl : List (Str × D)) : R2 := fun x y H Q => ∃ z, x = .str z ∧ y = .ref p ∧ KTb K w p tbl ∧ Q (.bl (if neg then !(tbG tbl z).isSome else (tbG tbl z).isSome)) H
theorem op_inT {p : Addr} {tbl : List (Str × D)} : OpR X (compareOp .In) (rInT X.K X.w false p tbl) := by
  intro pins s σ H x y v u Q I rx ry h
  obtain ⟨z, rfl, rfl, ⟨es, n, hl, hk, lo, ht⟩, q⟩ := h
  obtain ⟨t, rfl⟩ := rx
  obtain rfl : u = Value.ref p := ry
  obtain ⟨r, hr, hrel⟩ := ht z
  refine PySem.wpAny_in_of (strKind_is X.prog X.w z t) lo (PySem.W.mapOf_K (prog := X.prog) (w := X.w) I.kIn hl hk) ?_
  rw [PySem.W.find_K hl hr]
  refine ⟨.bl r.isSome, H, I.tok _, rfl, ?_⟩
  have e : r.isSome = (tbG tbl z).isSome := by
    rcases hrel with ⟨h1, rfl⟩ | ⟨d, v, u, h1, rfl, _⟩ <;> rw [h1] <;> rfl
  rw [e]; exact q
theorem op_notInT {p : Addr} {tbl : List (Str × D)} : OpR X (compareOp .NotIn) (rInT X.K X.w true p tbl) := by
  intro pins s σ H x y v u Q I rx ry h
  obtain ⟨z, rfl, rfl, ⟨es, n, hl, hk, lo, ht⟩, q⟩ := h
  obtain ⟨t, rfl⟩ := rx
  obtain rfl : u = Value.ref p := ry
  obtain ⟨r, hr, hrel⟩ := ht z
  refine PySem.wpAny_notIn_of (strKind_is X.prog X.w z t) lo (PySem.W.mapOf_K (prog := X.prog) (w := X.w) I.kIn hl hk) ?_
  rw [PySem.W.find_K hl hr]
  refine ⟨.bl (!r.isSome), H, I.tok _, rfl, ?_⟩
  have e : r.isSome = (tbG tbl z).isSome := by
    rcases hrel with ⟨h1, rfl⟩ | ⟨d, v, u, h1, rfl, _⟩ <;> rw [h1] <;> rfl
  rw [e]; exact q
theorem tC_of {K : PySem.W.Frag} {w : World} {p : Addr} {tbl : List (Str × D)} {neg : Bool} (ht : KTb K w p tbl) {f : List Sl → R D} {σ : L2.St} {H : Hp} {Q : VK} (h : tP K (m1 f (inTR tbl neg)) σ H Q) : tOp (rInT K w neg p tbl) (tB K f) (tC (.ref p)) σ H Q := by
  obtain ⟨c, G, ρ, post, wd, rs, hf, q⟩ := h
  refine ⟨c, G, ρ, fun d => inTR tbl neg d post, wd, rs, hf, fun d hd v G1 H1 e1 w1 b1 => ?_⟩
  cases d with
  | str z => exact ⟨z, b1.str, rfl, ht, q _ hd _ G1 H1 e1 w1 (.bl _)⟩
  | _ => exact hd.elim
theorem inT {x : Str} {p1 : Pos} {ke : Expr} {tbl : List (Str × D)} {fk : List Sl → R D} (C : CDict X.K X.w X.mg x tbl) (hk : PE X ke (tB X.K fk)) (hg : Gl X x := by rfl) (hd : (x == ("__debug__" : Str)) = false := by decide) (hm : behindInMarks .In (.Name x p1) = false := by first | exact nomark _ | rfl) : PE X (.Compare ke [.In] [.Name x p1] pos) (tP X.K (m1 fk (inTR tbl false))) :=
  let ⟨_, h1, h2⟩ := C.ex
  PE.wk (pe_cmpR op_inT hk (pe_glob (v := .ref _) hg h1 rfl hd) hm) fun σ H Q h => tC_of h2 h
theorem notInT {x : Str} {p1 : Pos} {ke : Expr} {tbl : List (Str × D)} {fk : List Sl → R D} (C : CDict X.K X.w X.mg x tbl) (hk : PE X ke (tB X.K fk)) (hg : Gl X x := by rfl) (hd : (x == ("__debug__" : Str)) = false := by decide) (hm : behindInMarks .NotIn (.Name x p1) = false := by first | exact nomark _ | rfl) : PE X (.Compare ke [.NotIn] [.Name x p1] pos) (tP X.K (m1 fk (inTR tbl true))) :=
  let ⟨_, h1, h2⟩ := C.ex
  PE.wk (pe_cmpR op_notInT hk (pe_glob (v := .ref _) hg h1 rfl hd) hm) fun σ H Q h => tC_of h2 h
theorem inTT {x : Str} {p1 : Pos} {ke : Expr} {tbl : List (Str × D)} {fk : List Sl → R D} (C : CDict X.K X.w X.mg x tbl) (hk : PE X ke (tB X.K fk)) (hg : Gl X x := by rfl) (hd : (x == ("__debug__" : Str)) = false := by decide) (hm : behindInMarks .In (.Name x p1) = false := by first | exact nomark _ | rfl) : PT X (.Compare ke [.In] [.Name x p1] pos) (tT X.K (m1 (m1 fk (inTR tbl false)) asB)) :=
  let ⟨_, h1, h2⟩ := C.ex
  PT.wk (pt_cmpR op_inT hk (pe_glob (v := .ref _) hg h1 rfl hd) hm) fun σ H Q h => tTest_of (fun _ _ _ z => tC_of h2 z) h
theorem notInTT {x : Str} {p1 : Pos} {ke : Expr} {tbl : List (Str × D)} {fk : List Sl → R D} (C : CDict X.K X.w X.mg x tbl) (hk : PE X ke (tB X.K fk)) (hg : Gl X x := by rfl) (hd : (x == ("__debug__" : Str)) = false := by decide) (hm : behindInMarks .NotIn (.Name x p1) = false := by first | exact nomark _ | rfl) : PT X (.Compare ke [.NotIn] [.Name x p1] pos) (tT X.K (m1 (m1 fk (inTR tbl true)) asB)) :=
  let ⟨_, h1, h2⟩ := C.ex
  PT.wk (pt_cmpR op_notInT hk (pe_glob (v := .ref _) hg h1 rfl hd) hm) fun σ H Q h => tTest_of (fun _ _ _ z => tC_of h2 z) h
theorem ixT {x : Str} {p1 : Pos} {ke : Expr} {tbl : List (Str × D)} {fk : List Sl → R D} (C : CDict X.K X.w X.mg x tbl) (hk : PE X ke (tB X.K fk)) (hs : PlainIx ke := by exact fun _ _ => rfl) (hg : Gl X x := by rfl) (hd : (x == ("__debug__" : Str)) = false := by decide) : PE X (.Subscript (.Name x p1) ke pos) (tP X.K (m1 fk (ixTR tbl))) :=
  let ⟨p, h1, h2⟩ := C.ex
  PE.wk (pe_ix ix_kdict (pe_glob (v := .ref _) hg h1 rfl hd) hk hs) fun σ H Q ⟨c, G, ρ, post, wd, rs, hf, q⟩ => by
    refine ⟨c, G, ρ, fun d => ixTR tbl d post, wd, rs, hf, fun d hd v G1 H1 e1 w1 b1 => ?_⟩
    cases d with
    | str z =>
      obtain ⟨es, n, hl, hk, lo, ht⟩ := h2
      obtain ⟨r, hr, hrel⟩ := ht z
      have hd : (match tbG tbl z with | some d => ok d | none => fail) post := hd
      rcases hrel with ⟨h1, rfl⟩ | ⟨d, v0, u, h1, rfl, rv, hdq⟩
      · rw [h1] at hd; exact hd.elim
      · rw [h1] at hd
        exact ⟨p, z, v0, rfl, b1.str, ⟨es, n, u, hl, hk, hr, rv⟩, q _ hd _ G1 H1 e1 w1 (hdq _)⟩
    | _ => exact hd.elim
end
/-! ### a tuple of the module -/
structure CTup (K : PySem.W.Frag) (mg : Str → Option Value) (x : Str) (d : D) : Prop where
  ex : ∃ (v : V) (u : Value), mg x = some u ∧ RelV v u ∧ ∀ G : Hp, Dq K G v d
theorem gTC {X : Cx} {pos : Pos} {x : Str} {d : D} (C : CTup X.K X.mg x d) (hg : Gl X x := by rfl) (hd : (x == ("__debug__" : Str)) = false := by decide) : PE X (.Name x pos) (tP X.K fun _ => ok d) :=
  let ⟨_, _, h1, h2, h3⟩ := C.ex
  gC h3 h1 h2 hg hd
inductive TcIs (K : PySem.W.Frag) : List Value → List V → List D → Prop
  | nil : TcIs K [] [] []
  | int {i : Int} {t : Tok} {us : List Value} {vs : List V} {ds : List D} : TcIs K us vs ds → TcIs K (.int i t :: us) (.int i :: vs) (.int i :: ds)
  | str {x : Str} {t : Tok} {us : List Value} {vs : List V} {ds : List D} : TcIs K us vs ds → TcIs K (.str x t :: us) (.str x :: vs) (.str x :: ds)
theorem TcIs.vals {K : PySem.W.Frag} : ∀ {us : List Value} {vs : List V} {ds : List D}, TcIs K us vs ds → Vals vs us
  | _, _, _, .nil => .nil
  | _, _, _, .int h => .cons ⟨_, rfl⟩ h.vals
  | _, _, _, .str h => .cons ⟨_, rfl⟩ h.vals
theorem TcIs.dq {K : PySem.W.Frag} {G : Hp} : ∀ {us : List Value} {vs : List V} {ds : List D}, TcIs K us vs ds → DqAll K G vs ds
  | _, _, _, .nil => .nil
  | _, _, _, .int h => .cons (.int _) h.dq
  | _, _, _, .str h => .cons (.str _) h.dq
theorem CTup.mk' (hk : Tb.kc = true) {K : PySem.W.Frag} {mg : Str → Option Value} {x : Str} {p : Addr} {dd : Option Addr} {l : List Value} {n : Nat} {sl : Array (Option Value)} {vs : List V} {ds : List D} (hm : mg x = some (.ref p)) (hl : K.lookup p = some ⟨.type "tuple", dd, .seq l.toArray n, sl⟩) (ht : TcIs K l vs ds) (hs : l.length ≤ sizeLine) : CTup K mg x (.tuple ds) :=
  ⟨.ref p, .ref p, hm, rfl, fun G => .tup (.inr ⟨hk, .inr ⟨_, l.toArray, n, hl, rfl, rfl, by simpa using hs, by simpa using ht.vals⟩⟩) ht.dq⟩
end Pu

namespace Pu
open PySem PySem.Spec PyProof.Rows L2
variable [Tb]
/-! ### x[a:b] = a new list -/
def gSlc (K : PySem.W.Frag) (to : TE) (tl th : TO) : TG := fun v σ H Q => to σ H fun o H1 => tl σ H1 fun l H2 => th σ H2 fun u H3 =>
  ∃ (a b : Addr) (xs ys : List V) (i j : Int), o = .ref a ∧ v = .ref b ∧ l = some i ∧ u = some j ∧ H3 a = some (.lst xs) ∧ H3 b = some (.lst ys) ∧ a ≠ b ∧ 0 ≤ i ∧ i ≤ j ∧ j ≤ xs.length ∧ xs.length + ys.length ≤ sizeLine ∧ Q σ (upd H3 a (.lst (xs.take i.toNat ++ ys ++ xs.drop j.toNat)))
section
variable {X : Cx} {o : Expr} {to : TE} {lo hi : Option Expr} {tl th : TO} {pos p2 : Pos}
theorem pg_slc (ho : PE X o to) (hl : PO X lo tl) (hu : PO X hi th)
    (ha : ∀ v, assign (.Subscript o (.Slice lo hi none p2) pos) X.env v = (do
      let ov ← holding [v] (eval o X.env)
      let iv ← holding [v, ov] (eval (.Slice lo hi none p2) X.env)
      standAt pos
      holding [v, ov, iv] (setItem ov iv v)
      release [iv, v, ov] []) := by intro _; rfl) : PG X (.Subscript o (.Slice lo hi none p2) pos) (gSlc X.K to tl th) := by
  refine ⟨fun pins s σ H v u Q I r h => ?_⟩
  rw [ha]
  refine wpAny_bind (wpAny_holding (thn (ho.run pins s σ H _ I h) fun ov s1 ⟨x, H1, I1, r1, q1⟩ => ?_))
  refine wpAny_bind (wpAny_holding ?_)
  refine wpAny_Slice (thn (hl.run pins s1 σ H1 _ I1 q1) fun vl s2 ⟨l, H2, I2, pl, q2⟩ => thn (hu.run pins s2 σ H2 _ I2 q2) fun vu s3 ⟨u', H3, I3, pu, q3⟩ => ?_)
  rw [evalPart_none]
  refine wpAny_pure ?_
  have I4 : Inv X pins σ H3 { s3 with heap := s3.heap.push { cls := .type "slice", data := .fields #[vl, vu, .none] } } := I3.kept (t' := s3.toks) fun b ob q => Heap.get?_push_of_some _ q
  obtain ⟨a, b, xs, ys, i, j, rfl, rfl, rfl, rfl, hx, hy, hne, h0, hij, hj, hz, q⟩ := q3
  obtain rfl : ov = Value.ref a := r1
  obtain rfl : u = Value.ref b := r
  cases pl with
  | int i t =>
    cases pu with
    | int j t' =>
      refine wpAny_bind (wpAny_standAt (wpAny_bind (wpAny_holding (set_slice I4 hx hy hne (Heap.IsSliceOf.new ..) ⟨t, rfl⟩ ⟨t', rfl⟩ h0 hij hj hz fun s5 I5 => ?_))))
      exact wpAny_release ⟨σ, _, I5, q⟩
def intX : D → R Int
  | .int i => ok i
  | _ => fail
def setSlR (ds : List D) (l u : Int) (es : List D) : R (List D) := bd (req (0 ≤ l ∧ l ≤ u ∧ u ≤ ds.length ∧ ds.length + es.length ≤ sizeLine)) fun _ => ok (ds.take l.toNat ++ es ++ ds.drop u.toNat)
def setSlM (i : Nat) (f : List Sl → R (List D)) (gl gh : List Sl → R D) : List Sl → R Out := fun ρ => bd (f ρ) fun es => bd (getO ρ i) fun _ => bd (gl ρ) fun l => bd (intX l) fun l => bd (gh ρ) fun u => bd (intX u) fun u => bd (getO ρ i) fun ds => bd (setSlR ds l u es) fun ds' => ok (.nx (ρ.set i (.own ds')))
theorem setSlM_e (i : Nat) (f : List Sl → R (List D)) (gl gh : List Sl → R D) (ρ : List Sl) : setSlM i f gl gh ρ = bd (f ρ) fun es => bd (getO ρ i) fun _ => bd (gl ρ) fun l => bd (intX l) fun l => bd (gh ρ) fun u => bd (intX u) fun u => bd (getO ρ i) fun ds => bd (setSlR ds l u es) fun ds' => ok (.nx (ρ.set i (.own ds'))) := (rfl)
theorem sSetSl {i : Nat} {x : Str} {e le ue : Expr} {f : List Sl → R (List D)} {gl gh : List Sl → R D} {npos spos p2 : Pos} (he : PE X e (tF X.K f)) (hv : PE X (.Name x npos) (tVar i)) (hl : PE X le (tP X.K gl)) (hu : PE X ue (tP X.K gh))
    (ha : ∀ v, assign (.Subscript (.Name x npos) (.Slice (some le) (some ue) none p2) spos) X.env v = (do
      let ov ← holding [v] (eval (.Name x npos) X.env)
      let iv ← holding [v, ov] (eval (.Slice (some le) (some ue) none p2) X.env)
      standAt spos
      holding [v, ov, iv] (setItem ov iv v)
      release [iv, v, ov] []) := by intro _; rfl)
    (hs : swapsWithSole [.Subscript (.Name x npos) (.Slice (some le) (some ue) none p2) spos] e pos.line X.env = pure false := by rfl) (hw : swappedStores [.Subscript (.Name x npos) (.Slice (some le) (some ue) none p2) spos] e X.env = pure none := by rfl)
    (h1 : (assignEach [.Subscript (.Name x npos) (.Slice (some le) (some ue) none p2) spos] X.env).map (·.2) = [assign (.Subscript (.Name x npos) (.Slice (some le) (some ue) none p2) spos) X.env] := by rfl) :
    PS X (.Assign [.Subscript (.Name x npos) (.Slice (some le) (some ue) none p2) spos] e pos) (tS X.K (setSlM i f gl gh)) :=
  PS.wk (ps_asg he (pg_slc hv (po_some hl) (po_some hu) ha) hs hw h1) fun D σ H ⟨c, G, ρ, post, w, r, hg, q⟩ => ⟨c, G, ρ, _, w, r, hg, fun es hd b G1 H1 nb e1 w1 ob => by
    obtain ⟨ds, e0, hd⟩ := getO_inv hd
    rcases r.at_ i _ e0 with z | ⟨u, eu, a, rfl, o⟩
    · cases z
    · obtain ⟨vs0, hvs0, _⟩ := o.at_
      have hne : a ≠ b := ne_of_none hvs0 nb
      refine ⟨_, eu, c, G1, ρ, _, w.step w1 e1, r.ext e1, hd, fun l hl v G2 H2 e2 w2 k2 => ?_⟩
      cases l with
      | int li =>
        cases k2
        refine ⟨li, rfl, c, G2, ρ, _, (w.step w1 e1).step w2 e2, (r.ext e1).ext e2, hl, fun u hu v' G3 H3 e3 w3 k3 => ?_⟩
        cases u with
        | int ui =>
          obtain ⟨ds', e0', hu⟩ := getO_inv (show (bd (getO ρ i) fun ds => bd (setSlR ds li ui es) fun ds' => ok (Out.nx (ρ.set i (.own ds')))) post from hu)
          rw [e0] at e0'; cases e0'
          cases k3
          obtain ⟨⟨h0, hlu, hul, hz⟩, hu⟩ := hu
          have e13 := (e1.trans e2).trans e3
          have o' := o.ext e13
          obtain ⟨vs, hvs, kv⟩ := o'.at_
          obtain ⟨ys, hys, ky⟩ := ((ob.ext e2).ext e3).at_
          have kw : DqAll X.K G3 (vs.take li.toNat ++ ys ++ vs.drop ui.toNat) (ds.take li.toNat ++ es ++ ds.drop ui.toNat) := (DqAll.append (kv.take _) ky).append (kv.drop _)
          exact ⟨ui, rfl, a, b, vs, ys, li, ui, rfl, rfl, rfl, rfl, hvs, hys, hne, h0, hlu, by rw [kv.length]; exact hul, by rw [kv.length, ky.length]; exact hz, q _ hu σ G3 _ e13.g (Wd.mut (((w.step w1 e1).step w2 e2).step w3 e3) o' kw).1 ((r.ext e13).mut e0 eu o' kw)⟩
        | _ => exact hu.elim
      | _ => exact hl.elim⟩
end
end Pu

namespace Pu
open PySem PySem.Spec PyProof.Rows L2
variable [Tb]
/-! ### (a, b) = a list -/
def gLst (K : PySem.W.Frag) (n : Nat) (t : TGs) : TG := fun v σ H Q => ∃ a xs, v = .ref a ∧ SqL K H a xs ∧ xs.length = n ∧ t xs σ H Q
theorem pg_lst {X : Cx} {pos : Pos} {es : List Expr} {k : Nat} {t : TGs} {n : Nat} (hc : X.calm = true) (h : PGs X es t)
    (hn : (assignEach es X.env).length = n) (hst : (assignEach es X.env).findIdx? (·.1) = none) : PG X (.Tuple es k pos) (gLst X.K n t) := by
  refine ⟨fun pins s σ H v u Q I r hw => ?_⟩
  obtain ⟨a, xs, e1, hq, hl, hw⟩ := hw
  subst e1
  cases r
  obtain ⟨its, rv, ⟨o, m, e, hcl, hd, hs⟩, hz⟩ := I.list hq
  have hli : s.heap.IsList a its.toArray := ⟨o, e, by first | exact hcl | exact ⟨hcl, _, hs⟩, by first | exact ⟨_, hs⟩ | exact ⟨_, hd⟩⟩
  have hnn : its.toArray.size = n := by simp [← hl, rv.length]
  rw [assign_Tuple]
  refine wpAny_bind (wpAny_standAt ?_)
  unfold unpack
  rw [hn, hst, ← hnn]
  refine wpAny_bind (wpAny_holding (W.kun_itemsOf (I.ok.hd hc) hli fun h' hx => ?_))
  have I1 : Inv X pins σ H { s with heap := h' } := I.kept (t' := s.toks) fun b o e => hx b o (Nat.ne_of_lt (Heap.lt_size e)) e
  exact h.run pins _ σ H xs _ Q I1 (by simpa using rv) hw
def gSeqR (n : Nat) (g : List D → List Sl → R (List Sl)) : D → List Sl → R (List Sl)
  | .list ds, ρ => bd (req (ds.length = n)) fun _ => g ds ρ
  | .tuple ds, ρ => bd (req (ds.length = n)) fun _ => g ds ρ
  | _, _ => fail
theorem gS {X : Cx} {pos : Pos} {es : List Expr} {k n : Nat} {js : List Nat} {g : List D → List Sl → R (List Sl)} (h : PGs X es (tGs X.K js g)) (hc : X.calm = true := by rfl) (hn : (assignEach es X.env).length = n := by rfl) (hst : (assignEach es X.env).findIdx? (·.1) = none := by rfl) : PG X (.Tuple es k pos) (tG X.K js (gSeqR n g)) := by
  refine ⟨fun pins s σ H v u Q I rv ⟨c, G, ρ, d, post, w, r, k, hg, q⟩ => ?_⟩
  cases k with
  | tup e1 e2 => exact (pg_tup (pos := pos) hc h hn hst).run pins s σ H _ u Q I rv ⟨_, _, rfl, sqT_mono w.w.sub e1, by rw [e2.length]; exact hg.1, c, G, ρ, _, post, w, r, e2, hg.2, q⟩
  | lst e1 e2 => exact (pg_lst (pos := pos) hc h hn hst).run pins s σ H _ u Q I rv ⟨_, _, rfl, SqL.of (w.w.sub _ _ e1), by rw [e2.length]; exact hg.1, c, G, ρ, _, post, w, r, e2, hg.2, q⟩
  | _ => exact hg.elim
theorem gS2 {ρ : List Sl} {g h : D → List Sl → R (List Sl)} {a b : D} : gSeqR 2 (gConsR g (gConsR h gNilR)) (.list [a, b]) ρ = bd (g a ρ) (h b) := by
  show bd (req ([a, b].length = 2)) _ = _
  rw [bd_req (show [a, b].length = 2 from rfl)]
  show bd (g a ρ) (gConsR h gNilR [b]) = _
  have : gConsR h gNilR [b] = h b := by
    funext ρ'
    show bd (h b ρ') (gNilR []) = _
    exact bd_ret _
  rw [this]
end Pu

namespace Pu
open PySem PySem.Spec PyProof.Rows L2
variable [Tb]
/-! ### own dicts: moved, told, sorted -/
section
variable {K : PySem.W.Frag} {c : Ct} {G H : Hp} {σ : L2.St} {ρ : List Sl}
/-- a slot is forgotten -/
theorem RS.forget (r : RS K c G H σ ρ) (i : Nat) : RS K c G H σ (ρ.set i .un) := by
  refine ⟨by simp [r.len], fun j x h => ?_, fun j l ds es u h1 h2 k1 k2 h3 h4 => ?_⟩
  · rcases set_get h with ⟨rfl, rfl⟩ | ⟨hj, h⟩
    · exact .inl rfl
    · exact r.at_ j x h
  · rcases set_get h1 with ⟨_, e⟩ | ⟨n1, e1⟩
    · rw [e] at k1; cases k1
    · rcases set_get h2 with ⟨_, e⟩ | ⟨n2, e2⟩
      · rw [e] at k2; cases k2
      · exact r.dd j l ds es u e1 e2 k1 k2 h3 h4
end
/-- x = y, y an own dict: y is lost -/
def mvD (i j : Nat) : List Sl → R Out := fun ρ => bd (getOD ρ j) fun ds => ok (.nx ((ρ.set j .un).set i (.od ds)))
/-- a def's end: the own dict in a slot is told -/
def tRD (K : PySem.W.Frag) (h : List Sl → R (List (Key × D))) : TS := fun Z σ H => ∃ (c : Ct) (G : Hp) (ρ : List Sl) (post : List (Key × D) → Prop), Wd c G H ∧ RS K c G H σ ρ ∧ h ρ post ∧ ∀ ds, post ds → ∀ a G' H', Le G G' → Wd c G' H' → OwnD K c G' H' a ds → Z.rt (.ref a) H'
def odR (i : Nat) : List Sl → R (List (Key × D)) := fun ρ => getOD ρ i
def seqD (g : List Sl → R Out) (h : List Sl → R (List (Key × D))) : List Sl → R (List (Key × D)) := fun ρ => bd (g ρ) fun o => match o with
  | .nx ρ' => h ρ'
  | _ => fail
section
variable {X : Cx} {pos : Pos} {st : Stmt} {rest : List Stmt}
theorem sMvD (i j : Nat) {x y : Str} {p p' : Pos} (hN : X.N.Nodup) (hij : (i == j) = false := by rfl) (hi : X.N[i]? = some x := by rfl) (hx : Loc X.env.scope x := by first | exact Or.inl rfl | exact Or.inr rfl) (hj : X.N[j]? = some y := by rfl)
    (hvis : Vis X.env.scope y := by first | exact Or.inl rfl | exact Or.inr (Or.inl rfl) | exact Or.inr (Or.inr rfl)) (hd : (y == ("__debug__" : Str)) = false := by decide) (hcd : (y == ("__classdict__" : Str)) = false := by decide)
    (hs : swapsWith (.Name y p) (some (.Name x p')) pos.line X.env = pure false := by rfl) (hf : X.fn x = true ∨ X.env.scope.names.lookup x = some .local := by first | exact .inl rfl | exact .inr rfl) :
    PS X (.Assign [.Name x p'] (.Name y p) pos) (tS X.K (mvD i j)) :=
  PS.wk (ps_set hN hi hx (pe_var hj hvis hd hcd) hs hf) fun D σ H ⟨c, G, ρ, post, w, r, hg, q⟩ => by
    obtain ⟨ds, h0, hg⟩ := getOD_inv hg
    rcases r.at_ j _ h0 with z | ⟨v0, e0, a, rfl, o⟩
    · cases z
    · refine ⟨_, e0, ?_⟩
      refine q _ hg _ G H (fun _ _ e => e) w ((r.forget j).setOD o fun k es hk e => ?_)
      rcases set_get hk with ⟨_, z⟩ | ⟨nk, hk⟩
      · cases z
      · exact nk (r.dd k j _ _ _ hk h0 rfl rfl e e0)
theorem sRetD (i : Nat) {x : Str} {p : Pos} (hi : X.N[i]? = some x := by rfl) (hvis : Vis X.env.scope x := by first | exact Or.inl rfl | exact Or.inr (Or.inl rfl) | exact Or.inr (Or.inr rfl)) (hd : (x == ("__debug__" : Str)) = false := by decide) (hcd : (x == ("__classdict__" : Str)) = false := by decide) :
    PSs X [.Return (some (.Name x p)) pos] (tRD X.K (odR i)) :=
  PSs.wk (pss_one (ps_ret (pe_var hi hvis hd hcd))) fun D σ H ⟨c, G, ρ, post, w, r, hg, q⟩ => by
    obtain ⟨ds, h0, hg⟩ := getOD_inv hg
    rcases r.at_ i _ h0 with z | ⟨v0, e0, a, rfl, o⟩
    · cases z
    · exact ⟨_, e0, q _ hg a G H (fun _ _ e => e) w o⟩
theorem sConsD {g : List Sl → R Out} {h : List Sl → R (List (Key × D))} (h1 : PS X st (tS X.K g)) (h2 : PSs X rest (tRD X.K h)) : PSs X (st :: rest) (tRD X.K (seqD g h)) := PSs.wk (pss_cons h1 h2) fun D σ H ⟨c, G, ρ, post, w, r, hg, q⟩ =>
  ⟨c, G, ρ, _, w, r, hg, fun o ho => by
    cases o with
    | nx ρ' => exact fun σ' G' H' l w' r' => ⟨c, G', ρ', post, w', r', ho, fun ds hds a G2 H2 l2 => q ds hds a G2 H2 fun a o e => l2 a o (l a o e)⟩
    | rt d => exact ho.elim
    | bk ρ' => exact ho.elim
    | ct ρ' => exact ho.elim⟩
end
/-- what a def that tells an own dict does -/
def spRD (K : PySem.W.Frag) (n : Nat) (m : List D → R (List (Key × D))) : Sp := fun vs H Q _ => ∃ (E : Ef) (G : Hp) (ds : List D) (post : List (Key × D) → Prop), W0 E G H ∧ DqAll K G vs ds ∧ ds.length = n ∧ m ds post ∧
  ∀ r, post r → ∀ a G' H', H a = none → Ext E G H G' H' → W0 E G' H' → (∃ ws, H' a = some (.dK ws) ∧ DqK K G' ws r) → G' a = none → ¬ E.vol a → Q (.ref a) H'
def fnD (n : Nat) (g : List Sl → R (List (Key × D))) : List D → R (List (Key × D)) := fun ds => g (env0 ds n)
section
variable {P : Program} {w : World} {K : PySem.W.Frag} {mg : Str → Option Value} {base : Heap}
theorem fn_okD {x qual : Str} {st : Stmt} {f : Addr} {fd : FuncData} {N ps : List Str} {k : Nat} {g : List Sl → R (List (Key × D))} (F : Fun K x qual st f fd) (S : FnScope N ps (defScope st))
    (hb : ∀ (cdv : Value) (A : Around) (outer : List Env) (s : Shared) (H : Hp) (E : XK), Room k (A.deeper (envOfC qual (defScope st) s.heap.objs.size f cdv)) → PSs (cxOf CX0 P w K mg base N qual (defScope st) f cdv A outer s H E).nox (defBody st) (tRD K g)) :
    FnOk P w K mg base CX0 (k + 1) f fd ps (spRD K ps.length (fnD N.length g)) := by
  refine F.ok S (fun vs H Q E h => ?_) (fun cdv A outer s H vs Q E hr h => ?_)
  · obtain ⟨_, _, ds, _, _, hd, hl, _⟩ := h
    rw [hd.length, hl]
  · obtain ⟨Ef, G, ds, post, w0, hd, hl, hm, q⟩ := h
    refine ⟨_, hb cdv A outer s H E hr, ⟨Ef, G, H⟩, G, env0 ds N.length, _, ⟨w0, .refl⟩, rs_start N.length hd, hm, fun r hr a G' H' l w' o => ?_⟩
    exact q r hr a G' H' o.h0 w'.e w'.w o.at_ o.g o.v
end
section
variable {X : Cx} {k n j : Nat} {f : Addr} {fd : FuncData} {ps : List Str} {m : List D → R (List (Key × D))} {x : Str} {p pos : Pos} {e : Expr} {es : List Expr}
def callRD (n : Nat) (m : List D → R (List (Key × D))) : List D → R (List (Key × D)) := fun ds => bd (req (ds.length = n)) fun _ => m ds
theorem callRD_1 (m : List D → R (List (Key × D))) (a : D) : callRD 1 m [a] = m [a] := bd_req rfl _
theorem callDD {g : List Sl → R (List D)} (F : FnOk X.prog X.w X.K X.mg X.base CX0 k f fd ps (spRD X.K n m)) (hr : Room k X.A) (hm : X.mg x = some (.ref f)) (hk : PySem.W.keepIn X.K (.ref f) = true) (hb : Binds X.K fd ps []) (ha : PA X (e :: es) (tAF X.K g))
    (hg : Gl X x := by rfl) (hdb : (x == ("__debug__" : Str)) = false := by decide) (he : starEach (e :: es) X.env = (false, eval e X.env) :: starEach es X.env := by rfl) (hpl : (backTo pos (starEach es X.env)).any (·.1) = false := by rfl) : PE X (.Call (.Name x p) (e :: es) [] pos) (tFD X.K (m1 g (callRD n m))) :=
  PE.wk (pe_call F hr hg hm hk hb .nil pass0 ha hdb he hpl) fun σ H Q ⟨c, G, ρ, post, w, r, hf, q⟩ => ⟨c, G, ρ, _, w, r, hf, fun ds hds vs G1 H1 e1 w1 b1 => by
    show spRD X.K n m (vs ++ []) H1 Q E0
    rw [List.append_nil]
    refine ⟨c.E, G1, ds, post, w1, b1, hds.1, hds.2, fun r hr a G' H' ha e2 w2 at_ hg hv => ?_⟩
    have h0 : H a = none := by
      cases h : H a with
      | none => rfl
      | some u => rw [e1.h a u h hv] at ha; cases ha
    refine q r hr a G' H' h0 (e1.trans e2) w2 ⟨at_, hg, ?_, hv⟩
    cases h : c.H0 a with
    | none => rfl
    | some u => rw [w.e.h a u h hv] at h0; cases h0⟩
end
end Pu

namespace Pu
open PySem PySem.Spec PyProof.Rows L2
variable [Tb]
/-! ### sorted(dict), sorted(dict.items()) -/
structure SrtK (ds : List D) : Prop where
  al : W.AllAlike ds
  so : W.Sortable ds
  dp : ∀ d ∈ ds, d.depth ≤ 60
section
variable {X : Cx} {pins : List (Addr × Obj)} {σ : L2.St} {H : Hp} {s : Shared}
/-- a new list of known things is put in order -/
theorem sort_new (hu : X.A.units + 64 < cLine) {h' : Heap} {tk : Nat} {us : List Value} {vs : List V} {ds : List D} (I1 : Inv X pins σ H { s with heap := h', toks := tk }) (k : DqAll X.K H vs ds) (rv : Vals vs us) (so : SrtK ds) (hl : ds.length ≤ sizeLine) {R : Value → Shared → Prop} {E : Value → Shared → Prop}
    (h : ∀ (h2 : Heap) (out : List Value) (e : Nat), (∀ b o, h'.get? b = some o → h2.get? b = some o) → h2.get? h'.objs.size = some (seqObj "list" out.toArray e) → Vals (srtVs vs ds) out → ∀ v, R v { s with heap := h2, toks := tk }) :
    wpAny (model X.prog X.w) X.A.in1 (PySem.call (.builtin "list.sort") [.ref h'.objs.size]) R E { s with heap := h'.push (seqObj "list" us.toArray 0), toks := tk } := by
  obtain ⟨as, ra⟩ := dqAll_reads I1 k rv
  obtain ⟨h1, h2⟩ := srt_snd k
  have hoL : (h'.push (seqObj "list" us.toArray 0)).get? h'.objs.size = some (seqObj "list" us.toArray 0) := Heap.get?_push_size _ rfl
  have hlen : (vs.zip ds).length = ds.length := by rw [← List.length_map (f := (·.2)), h1]
  have hz : us.length ≤ sizeLine := by
    have e1 := rv.length
    have e2 := k.length
    omega
  have er : W.EachIs (fun v (b : V × D) => ∃ as, Reads h' v b.2 as) us (vs.zip ds) := srt_reads (s := { s with heap := h', toks := tk }) h1 ra
  have keep : ∀ b o, h'.get? b = some o → (W.sortingHeap (h'.push (seqObj "list" us.toArray 0)) h'.objs.size us).get? b = some o := fun b o e =>
    W.sortingHeap_old (Nat.ne_of_lt (Heap.lt_size e)) (Heap.get?_push_of_some _ e)
  have er' : W.EachIs (fun v (b : V × D) => ∃ as, Reads (W.sortingHeap (h'.push (seqObj "list" us.toArray 0)) h'.objs.size us) v b.2 as) us (vs.zip ds) := er.mono fun _ _ ⟨as, r⟩ => ⟨as, PyProof.Rows.Reads.keeps keep r⟩
  have em := W.each_map (R := fun v d => ∃ as, Reads (W.sortingHeap (h'.push (seqObj "list" us.toArray 0)) h'.objs.size us) v d as) (fun b : V × D => b.2) er'
  have hal : W.AllAlike ((vs.zip ds).map fun b => b.2) := by rw [h1]; exact so.al
  have hso : W.Sortable ((vs.zip ds).map fun b => b.2) := by rw [h1]; exact so.so
  have hb : ∀ d, d ∈ (vs.zip ds).map (fun b => b.2) → X.A.in1.in1.units + d.depth < cLine := fun d hd => by
    rw [h1] at hd
    have := so.dp d hd
    show X.A.units + 2 + d.depth < cLine
    omega
  refine wpAny_call_entry PyProof.Rows.slot_list_sort ⟨_, hoL, rfl⟩ PyProof.Rows.entry_list_sort ?_ (PyProof.Rows.args_list_sort _)
  refine W.list_sort_vals (s := { s with heap := h'.push (seqObj "list" us.toArray 0), toks := tk }) hoL (W.SortsAt.data (s := { s with heap := W.sortingHeap (h'.push (seqObj "list" us.toArray 0)) h'.objs.size us, toks := tk }) em hal hso hb) hz ⟨_, rfl, ?_⟩
  obtain ⟨e', he'⟩ := PyProof.Rows.sortedHeap_at (vs := us) (out := (W.sortVals (W.dataKind (W.sortingHeap (h'.push (seqObj "list" us.toArray 0)) h'.objs.size us) ((vs.zip ds).map fun b => b.2)) false us us).toArray) hoL
  refine h _ _ e' (fun b u e => ?_) he' (srt_vals (W.sortVals_data false (srt_each k rv) er' hal)) _
  have hb : b < h'.objs.size := Heap.lt_size e
  rw [PyProof.Rows.sortedHeap_old (Nat.ne_of_lt hb) (by rw [size_push']; exact Nat.lt_succ_of_lt hb)]
  exact Heap.get?_push_of_some _ e
def kD : Key → D
  | .inl i => .int i
  | .inr s => .str s
theorem dq_key {K : PySem.W.Frag} {G : Hp} : ∀ k : Key, Dq K G (kV k) (kD k)
  | .inl i => .int i
  | .inr s => .str s
theorem dq_keys {K : PySem.W.Frag} {G : Hp} : ∀ kvs : List (Key × V), DqAll K G (kvs.map fun kv => kV kv.1) (kvs.map fun kv => kD kv.1)
  | [] => .nil
  | kv :: r => .cons (dq_key kv.1) (dq_keys r)
def rSrtK : List V → Hp → VK → Prop := fun xs H Q => ∃ (a : Addr) (kvs : List (Key × V)), xs = [.ref a] ∧ H a = some (.dK kvs) ∧ SrtK (kvs.map fun kv => kD kv.1) ∧ ∀ p, H p = none → Q (.ref p) (upd H p (.lst (srtVs (kvs.map fun kv => kV kv.1) (kvs.map fun kv => kD kv.1))))
theorem srtVs_len {K : PySem.W.Frag} {G : Hp} {vs : List V} {ds : List D} (k : DqAll K G vs ds) : (srtVs vs ds).length = ds.length := by
  have := k.srt.length
  rw [this, List.length_mergeSort]
theorem call_sortedDk (hcalm : X.calm = true) (hu : X.A.units + 64 < cLine) : CallR X (.builtin "sorted") rSrtK := by
  intro pins s σ H xs us Q I r q
  obtain ⟨a, kvs, ex, hd, so, q⟩ := q
  subst ex
  obtain ⟨u, eu, rx⟩ := vals1 r
  subst eu
  cases rx
  obtain ⟨z, lo, vs, rel, dd⟩ := dk_of I.hok hd
  obtain ⟨ep, hat⟩ := dd.dictAt
  have hl : kvs.length = vs.length := Paired.length rel
  refine Calls.call_function_entry PyProof.Rows.kind_sorted PyProof.Rows.plain_sorted PyProof.Rows.entry_sorted (PyProof.Rows.args_sorted1 _) ?_
  unfold Builtin.«sorted»
  refine wpAny_bind (m := checkCount "sorted" 1 1 _) (wpAny_pure ?_)
  refine wpAny_bind (PySem.W.kdu_collect (A := X.A.in1) (PySem.W.kdl_dict (knd := mixKind X.prog X.w) (kvs := vs) (ep := ep) lo) (I.ok.hd hcalm) hat (by rw [← hl]; exact z) fun h' tk acc hk hacc => ?_)
  have hal : acc.toList.length = kvs.length := by rw [Array.length_toList, hacc.1, hl]
  have rv : Vals (kvs.map fun kv => kV kv.1) acc.toList := vals_of_at (by rw [List.length_map, hal]) fun j x w h1 h2 => by
    obtain ⟨k, y, hky, hi⟩ := hacc.2 j w (by rw [← Array.getElem?_toList]; exact h2)
    have e1 : (kvs.map (·.1))[j]? = some k := by
      rw [KV.keys rel, List.getElem?_map, hky] <;> rfl
    have e2 : (kvs.map fun kv => kV kv.1)[j]? = some (kV k) := by
      have e3 : (kvs.map fun kv => kV kv.1) = (kvs.map (·.1)).map kV := by rw [List.map_map] <;> rfl
      rw [e3, List.getElem?_map, e1] <;> rfl
    rw [e2] at h1
    cases h1
    exact keyIs_rel hi
  have I1 : Inv X pins σ H { s with heap := h', toks := tk } := I.kept hk
  refine wpAny_bind (wpAny_newList ?_ (by rw [hal]; exact z))
  show wpAny _ _ _ _ _ { s with heap := h'.push (seqObj "list" acc.toList.toArray 0), toks := tk }
  have k := dq_keys (K := X.K) (G := H) kvs
  refine wpAny_bind (wpAny_holding (sort_new hu I1 k rv so (by rw [List.length_map]; exact z) fun h2 out e' hk2 he' rv2 v => ?_))
  have hlen : (srtVs (kvs.map fun kv => kV kv.1) (kvs.map fun kv => kD kv.1)).length ≤ sizeLine := by rw [srtVs_len k, List.length_map]; exact z
  exact wpAny_pure ⟨_, rfl, .ref h'.objs.size, upd H h'.objs.size (.lst (srtVs (kvs.map fun kv => kV kv.1) (kvs.map fun kv => kD kv.1))), I1.laid (t' := tk) hk2 (Nat.le_refl _)
    (show ObjOk X.prog X.w _ _ _ (.lst _) from ⟨hlen, out, e', rv2, he'⟩), rfl, q _ (I1.hok.fresh (Nat.le_refl _))⟩
end
theorem DqK.keys {K : PySem.W.Frag} {G : Hp} : ∀ {vs : List (Key × V)} {ds : List (Key × D)}, DqK K G vs ds → vs.map (fun kv => kD kv.1) = ds.map fun kv => kD kv.1
  | _, _, .nil => rfl
  | _, _, .cons e q => by rw [List.map_cons, List.map_cons, DqK.keys q]
/-- sorted(x), sorted(..) of a dict told -/
def srtK_ (ds : List (Key × D)) : R (List D) := bd (req (SrtK (ds.map fun kv => kD kv.1))) fun _ => ok ((ds.map fun kv => kD kv.1).mergeSort dLe)
def srtAM (i : Nat) : List Sl → R (List D) := fun ρ => bd (getOD ρ i) srtK_
def srtFM (f : List Sl → R (List (Key × D))) : List Sl → R (List D) := fun ρ => bd (f ρ) srtK_
section
variable {X : Cx} {pos : Pos} {e : Expr}
theorem srtA (i : Nat) {x : Str} {p p2 : Pos} (hc : X.calm = true) (hu : X.A.units + 64 < cLine) (hm : X.mg "sorted" = none) (hg : Gl X "sorted" := by rfl) (hi : X.N[i]? = some x := by rfl) (hvis : Vis X.env.scope x := by first | exact Or.inl rfl | exact Or.inr (Or.inl rfl) | exact Or.inr (Or.inr rfl))
    (hd : (x == ("__debug__" : Str)) = false := by decide) (hcd : (x == ("__classdict__" : Str)) = false := by decide) (hs : starEach [.Name x p2] X.env = [(false, eval (.Name x p2) X.env)] := by rfl) (hpl : (backTo pos (starEach [] X.env)).any (·.1) = false := by rfl) :
    PE X (.Call (.Name "sorted" p) [.Name x p2] [] pos) (tF X.K (srtAM i)) :=
  PE.wk (pe_callB (call_sortedDk hc hu) hg hm (by decide +kernel) (pa_cons (pe_var hi hvis hd hcd) pa_nil hs) (by decide) (by decide) hs hpl) fun σ H Q ⟨c, G, ρ, post, w, r, hg, q⟩ => by
    obtain ⟨ds, h0, hg⟩ := getOD_inv hg
    rcases r.at_ i _ h0 with z | ⟨v0, e0, a, rfl, o⟩
    · cases z
    · obtain ⟨vs, hvs, kv⟩ := o.at_
      have k := dq_keys (K := X.K) (G := G) vs
      unfold srtK_ at hg
      rw [← kv.keys] at hg
      exact ⟨_, e0, a, vs, rfl, hvs, hg.1, fun p np => fin_new w .refl np k.srt hg.2 q⟩
theorem srtF {f : List Sl → R (List (Key × D))} {p : Pos} (hc : X.calm = true) (hu : X.A.units + 64 < cLine) (hm : X.mg "sorted" = none) (he : PE X e (tFD X.K f)) (hg : Gl X "sorted" := by rfl) (hs : starEach [e] X.env = [(false, eval e X.env)] := by rfl) (hpl : (backTo pos (starEach [] X.env)).any (·.1) = false := by rfl) :
    PE X (.Call (.Name "sorted" p) [e] [] pos) (tF X.K (srtFM f)) :=
  PE.wk (pe_callB (call_sortedDk hc hu) hg hm (by decide +kernel) (pa_cons he pa_nil hs) (by decide) (by decide) hs hpl) fun σ H Q ⟨c, G, ρ, post, w, r, hf, q⟩ => ⟨c, G, ρ, _, w, r, hf, fun ds hg a G1 H1 na e1 w1 o => by
    obtain ⟨vs, hvs, kv⟩ := o.at_
    have k := dq_keys (K := X.K) (G := G1) vs
    unfold srtK_ at hg
    rw [← kv.keys] at hg
    exact ⟨a, vs, rfl, hvs, hg.1, fun p np => fin_new (w.step w1 e1) e1 np k.srt hg.2 q⟩⟩
end
end Pu

namespace Pu
open PySem PySem.Spec PyProof.Rows L2
variable [Tb]
/-! ### sorted(d.items()) -/
def rViewK : V → Hp → VK → Prop := fun x H Q => ∃ (a : Addr) (kvs : List (Key × V)), x = .ref a ∧ H a = some (.dK kvs) ∧ ∀ p, H p = none → Q (.ref p) (upd H p (L2.DX.itemsO p a))
section
variable {X : Cx} {e : Expr} {te : TE} {apos cpos pos : Pos}
/-- d.items(), the view -/
theorem pe_viewK (he : PE X e te) (hbase : attributeBase e "items" X.env (eval e X.env) = eval e X.env := by rfl) (hline : (apos.endLine == cpos.line) = true := by rfl) : PE X (.Call (.Attribute e "items" apos) [] [] cpos) (fun σ H Q => te σ H fun x H1 => rViewK x H1 Q) := by
  refine ⟨fun pins s σ H Q I hq => ?_⟩
  refine wpAny_Call_method (T := "dict") (id := "dict.items") hbase rfl hline F.plainAttrs_dict F.slot_dict_items F.type_dict_items (thn (he.run pins s σ H _ I hq) fun u s1 ⟨x, H1, I1, rx, d, kvs, ex, hd, q⟩ => ?_)
  subst ex
  obtain rfl : u = Value.ref d := rx
  obtain ⟨hz, hs0, vs, kv, hdo⟩ := I1.hok d _ hd
  refine ⟨hdo.typeIs, hdo.mapOf.noDict, ?_⟩
  show wpAny _ _ (callWith cpos (.builtin "dict.items") [.ref d] [] []) _ X.xe s1
  refine method_meetsIn F.slot_dict_items F.entry_dict_items rfl (PySem.evalArgs_none ⟨rfl, hdo.typeIs, F.args_dict_items_1 _, _, meets_dict_items (mixKind X.prog X.w) d hs0, ⟨vs, hdo⟩, ?_⟩)
  exact ⟨.ref s1.heap.objs.size, upd H1 s1.heap.objs.size (L2.DX.itemsO s1.heap.objs.size d), I1.laid (t' := s1.toks) (fun b u e => Heap.get?_push_of_some _ e) (Nat.le_refl _) (L2.DX.itemsO_ok (Heap.get?_push_size _ rfl)), rfl, q _ (I1.hok.fresh (Nat.le_refl _))⟩
/-- the tuples of a view laid down -/
theorem items_laid2 {pins : List (Addr × Obj)} {σ : L2.St} {H : Hp} {s : Shared} {h' : Heap} {tk : Nat} {kvs : List (Key × V)} {vs : List (Key × Value)} {as : List Addr} (I : Inv X pins σ H s) (kv : KV kvs vs)
    (hk : ∀ b o, s.heap.get? b = some o → h'.get? b = some o) (hl : as.length = vs.length) (hG : PySem.W.KdxG (mixKind X.prog X.w) vs s.heap.objs.size h' as) :
    as.Nodup ∧ (∀ t ∈ as, H t = none) ∧ Inv X pins σ (LiI.putT H as kvs) { s with heap := h', toks := tk } := by
  have lk : kvs.length = vs.length := Paired.length kv
  have nd : as.Nodup := List.Pairwise.imp (fun {a b} (h : a < b) => Nat.ne_of_lt h) hG.rise
  have new : ∀ t ∈ as, H t = none := fun t ht => I.hok.fresh (Nat.le_of_lt (hG.above t ht))
  have atP := LiI.putT_at as kvs H (by omega) nd
  have off : ∀ b, b ∉ as → LiI.putT H as kvs b = H b := fun b h1 => LiI.putT_off as kvs _ h1
  have low : ∀ b o, s.heap.get? b = some o → b ∉ as := fun b o e z => absurd (Heap.lt_size e) (Nat.not_lt.mpr (Nat.le_of_lt (hG.above b z)))
  have kp : ∀ b u, H b = some u → LiI.putT H as kvs b = some u := fun b u e => by
    rw [off b (fun z => by rw [new b z] at e; cases e)]
    exact e
  refine ⟨nd, new, ?_⟩
  refine I.call' (ch := []) rfl ⟨fun b o q _ _ _ => hk b o q, fun b o q _ _ _ => ⟨o.slots, hk b o q⟩, fun b o q n _ => ?_, fun b o q _ => ⟨o, hk b o q⟩, fun b xs q => kp b _ q, fun b o u q => kp b _ q, fun b ps q => ⟨#[], by rw [kp b _ q]; simp⟩⟩ (fun b u q => ?_) I.bare fun b z => by simp at z
  · rw [off b (low b o q)]
    exact n
  · by_cases hb : b ∈ as
    · obtain ⟨j, pk, e1, e2, e3⟩ := LiI.paired_ix atP hb
      rw [e3] at q
      cases q
      obtain ⟨key, k, x, f1, f2, f3⟩ := hG.pairs j b e1
      obtain ⟨qv, g1, g2, g3⟩ := LiI.paired_get kv e2
      rw [f1] at g1
      cases g1
      have rk : RelV (kV pk.1) key := by
        rw [g2]
        exact relV_key (show keyIs k key = true from f2)
      exact ⟨by show 2 ≤ sizeLine; decide, [key, x], .cons rk (.cons g3 .nil), ⟨_, f3, rfl, _, rfl⟩⟩
    · rw [off b hb] at q
      exact (I.hok b u q).stay (fun d v _ y => hk d v y) (fun d y => kp d _ y) fun d xs y => kp d _ y
def itD (kv : Key × D) : D := .tuple [kD kv.1, kv.2]
theorem putT_dq {K : PySem.W.Frag} {G : Hp} : ∀ {kvs : List (Key × V)} {ds : List (Key × D)} {as : List Addr}, DqK K G kvs ds → as.length = kvs.length → as.Nodup → (∀ t ∈ as, G t = none) → DqAll K (LiI.putT G as kvs) (as.map V.ref) (ds.map itD) ∧ Le G (LiI.putT G as kvs)
  | _, _, [], .nil, _, _, _ => ⟨.nil, fun _ _ e => e⟩
  | _, _, _ :: _, .nil, h, _, _ => by cases h
  | _, _, [], .cons _ _, h, _, _ => by cases h
  | _, _, a :: as, .cons (k := k) (v := v) (d := d) (r := r) (s := s) e q, h, hn, new => by
    obtain ⟨h1, h2⟩ := List.nodup_cons.mp hn
    have le1 : Le G (upd G a (.tup [kV k, v])) := fun b o z => by rw [upd_ne (fun z2 => by rw [z2, new a List.mem_cons_self] at z; cases z)]; exact z
    have ih := putT_dq (G := upd G a (.tup [kV k, v])) (q.mono le1) (Nat.succ.inj h) h2 fun t ht => by
      rw [upd_ne (fun z => h1 (by rw [← z]; exact ht))]
      exact new t (List.mem_cons_of_mem _ ht)
    have le2 : Le G (LiI.putT G (a :: as) ((k, v) :: r)) := fun b o z => ih.2 b o (le1 b o z)
    refine ⟨.cons (.tup (.of ?_) (.cons (dq_key k) (.cons (e.mono le2) .nil))) ih.1, le2⟩
    exact ih.2 a _ upd_same
theorem call_sortedI (hcalm : X.calm = true) (hu : X.A.units + 64 < cLine) : CallR X (.builtin "sorted") (fun xs H Q => ∃ (p a : Addr) (kvs : List (Key × V)) (ds : List (Key × D)), xs = [.ref p] ∧ H p = some (L2.DX.itemsO p a) ∧ H a = some (.dK kvs) ∧ DqK X.K H kvs ds ∧ SrtK (ds.map itD) ∧
    ∀ as n, as.length = kvs.length → as.Nodup → (∀ t ∈ as, H t = none) → LiI.putT H as kvs n = none → Q (.ref n) (upd (LiI.putT H as kvs) n (.lst (srtVs (as.map V.ref) (ds.map itD))))) := by
  intro pins s σ H xs us Q I r q
  obtain ⟨p, a, kvs, ds, ex, hp, hd, hq, so, q⟩ := q
  subst ex
  obtain ⟨u, eu, rx⟩ := vals1 r
  subst eu
  cases rx
  obtain ⟨z, lo, vs, rel, dd⟩ := dk_of I.hok hd
  obtain ⟨ep, hat⟩ := dd.dictAt
  have hv : s.heap.IsItemsView p a := (show ObjOk X.prog X.w H s.heap p (L2.DX.itemsO p a) from I.hok p _ hp).1
  have hl : kvs.length = vs.length := Paired.length rel
  refine Calls.call_function_entry PyProof.Rows.kind_sorted PyProof.Rows.plain_sorted PyProof.Rows.entry_sorted (PyProof.Rows.args_sorted1 _) ?_
  unfold Builtin.«sorted»
  refine wpAny_bind (m := checkCount "sorted" 1 1 _) (wpAny_pure ?_)
  refine wpAny_bind (PySem.W.kdx_collect (A := X.A.in1) (knd := mixKind X.prog X.w) (kvs := vs) (ep := ep) (I.ok.hd hcalm) hv hat (by rw [← hl]; exact z) fun h' tk as hk hal hG => ?_)
  obtain ⟨nd, new, I1⟩ := items_laid2 (tk := tk) I rel hk hal hG
  have k := (putT_dq (K := X.K) (G := H) hq (by rw [hal, hl]) nd new).1
  have rv : Vals (as.map V.ref) (as.map Value.ref) := LiI.vals_refs as
  have hds : ds.length = kvs.length := hq.length.symm
  have hz : (ds.map itD).length ≤ sizeLine := by rw [List.length_map, hds]; exact z
  refine wpAny_bind (wpAny_newList ?_ (by rw [List.length_map, hal, ← hl]; exact z))
  show wpAny _ _ _ _ _ { s with heap := h'.push (seqObj "list" (as.map Value.ref).toArray 0), toks := tk }
  refine wpAny_bind (wpAny_holding (sort_new hu I1 k rv so hz fun h2 out e' hk2 he' rv2 v => ?_))
  have hlen : (srtVs (as.map V.ref) (ds.map itD)).length ≤ sizeLine := by rw [srtVs_len k]; exact hz
  exact wpAny_pure ⟨_, rfl, .ref h'.objs.size, upd (LiI.putT H as kvs) h'.objs.size (.lst (srtVs (as.map V.ref) (ds.map itD))), I1.laid (t' := tk) hk2 (Nat.le_refl _)
    (show ObjOk X.prog X.w _ _ _ (.lst _) from ⟨hlen, out, e', rv2, he'⟩), rfl, q as _ (by rw [hal, hl]) nd new (I1.hok.fresh (Nat.le_refl _))⟩
theorem newT {E : Ef} : ∀ (as : List Addr) (kvs : List (Key × V)) {G H : Hp}, W0 E G H → as.Nodup → (∀ t ∈ as, H t = none) → W0 E (LiI.putT G as kvs) (LiI.putT H as kvs) ∧ Ext E G H (LiI.putT G as kvs) (LiI.putT H as kvs)
  | [], _, _, _, w, _, _ => ⟨w, .refl⟩
  | _ :: _, [], _, _, w, _, _ => ⟨w, .refl⟩
  | a :: as, kv :: kvs, G, H, w, hn, new => by
    obtain ⟨h1, h2⟩ := List.nodup_cons.mp hn
    obtain ⟨w1, e1⟩ := w.newF (new a List.mem_cons_self) (.tup [kV kv.1, kv.2])
    obtain ⟨w2, e2⟩ := newT as kvs w1 h2 fun t ht => by
      rw [upd_ne (fun z => h1 (by rw [← z]; exact ht))]
      exact new t (List.mem_cons_of_mem _ ht)
    exact ⟨w2, e1.trans e2⟩
def srtIM (i : Nat) : List Sl → R (List D) := fun ρ => bd (getOD ρ i) fun ds => bd (req (SrtK (ds.map itD))) fun _ => ok ((ds.map itD).mergeSort dLe)
theorem srtI (i : Nat) {x : Str} {p p2 : Pos} (hc : X.calm = true) (hu : X.A.units + 64 < cLine) (hm : X.mg "sorted" = none) (hg : Gl X "sorted" := by rfl) (hi : X.N[i]? = some x := by rfl) (hvis : Vis X.env.scope x := by first | exact Or.inl rfl | exact Or.inr (Or.inl rfl) | exact Or.inr (Or.inr rfl))
    (hd : (x == ("__debug__" : Str)) = false := by decide) (hcd : (x == ("__classdict__" : Str)) = false := by decide)
    (hbase : attributeBase (.Name x p2) "items" X.env (eval (.Name x p2) X.env) = eval (.Name x p2) X.env := by rfl) (hline : (apos.endLine == cpos.line) = true := by rfl)
    (hs : starEach [.Call (.Attribute (.Name x p2) "items" apos) [] [] cpos] X.env = [(false, eval (.Call (.Attribute (.Name x p2) "items" apos) [] [] cpos) X.env)] := by rfl) (hpl : (backTo pos (starEach [] X.env)).any (·.1) = false := by rfl) :
    PE X (.Call (.Name "sorted" p) [.Call (.Attribute (.Name x p2) "items" apos) [] [] cpos] [] pos) (tF X.K (srtIM i)) :=
  PE.wk (pe_callB (call_sortedI hc hu) hg hm (by decide +kernel) (pa_cons (pe_viewK (pe_var hi hvis hd hcd) hbase hline) pa_nil hs) (by decide) (by decide) hs hpl) fun σ H Q ⟨c, G, ρ, post, w, r, hg, q⟩ => by
    obtain ⟨ds, h0, hg⟩ := getOD_inv hg
    rcases r.at_ i _ h0 with z | ⟨v0, e0, a, rfl, o⟩
    · cases z
    · obtain ⟨vs, hvs, kv⟩ := o.at_
      refine ⟨_, e0, a, vs, rfl, hvs, fun p np => ?_⟩
      have ne : a ≠ p := ne_of_none hvs np
      obtain ⟨w1, e1⟩ := w.w.new np (L2.DX.itemsO p a)
      have wd1 := w.step w1 e1
      refine ⟨p, a, vs, ds, rfl, upd_same, by rw [upd_ne ne]; exact hvs, kv.mono w1.sub, hg.1, fun as n hl hn new nn => ?_⟩
      obtain ⟨w2, e2⟩ := newT as vs w1 hn new
      have k := (putT_dq (K := X.K) (G := G) kv hl hn fun t ht => (w1.fresh (new t ht)).1).1
      exact fin_new (wd1.step w2 e2) (e1.trans e2) nn k.srt hg.2 q
end
end Pu

namespace Pu
open PySem PySem.Spec PyProof.Rows L2
variable [Tb]
/-! ### {k: v for ..}, keys ints and texts -/
def dcF (g : D → List Sl → R (List Sl)) (tt : List Sl → R Bool) (tk tv : List Sl → R D) : List D → List Sl → List (Key × D) → R (List (Key × D))
  | [], _, acc => ok acc
  | d :: ds, ρ, acc => bd (g d ρ) fun ρ1 => bd (tt ρ1) fun b => if b = true then bd (tk ρ1) fun k => bd (tv ρ1) fun v => bd (keyR k) fun kk => dcF g tt tk tv ds ρ (putG acc kk v) else dcF g tt tk tv ds ρ acc
def dcM (vs : List Nat) (fi : List Sl → R (List D)) (g : D → List Sl → R (List Sl)) (tt : List Sl → R Bool) (tk tv : List Sl → R D) : List Sl → R (List (Key × D)) := fun ρ => bd (fi ρ) fun ds => dcF g tt tk tv ds (wipeS ρ vs) []
theorem putG_len (acc : List (Key × D)) (k : Key) (d : D) : (putG acc k d).length ≤ acc.length + 1 := by
  unfold putG
  split
  · simp
  · simp
theorem dc_of {K : PySem.W.Frag} {vs js : List Nat} {fi : List Sl → R (List D)} {g : D → List Sl → R (List Sl)} {tt : List Sl → R Bool} {tk tv : List Sl → R D} (hjs : ∀ j ∈ js, j ∈ vs) {σ : L2.St} {H : Hp} {Q : VK}
    (q : tFD K (dcM vs fi g tt tk tv) σ H Q) : L2.tDc (tIw K fi) (tG K js g) (tT K tt) (tP K tk) (tP K tv) vs σ H Q := by
  obtain ⟨c, G, ρ, post, w, r, hf, q⟩ := q
  refine ⟨c, G, ρ, _, w, r, hf, fun ds hds hl J G1 H1 e1 w1 wk D0 hD => ?_⟩
  have wd1 := w.step w1 e1
  obtain ⟨wn, en⟩ := w1.new hD (.dK [])
  have nv : ¬ c.E.vol D0 := (w1.fresh hD).2
  have nD : H D0 = none := e1.none hD nv
  have h0 : c.H0 D0 = none := by
    cases h : c.H0 D0 with
    | none => rfl
    | some u => rw [w.e.h D0 u h nv] at nD; cases nD
  refine ⟨fun i m H' => i + m = ds.length ∧ ∃ G' accd acc, Ext c.E G1 (upd H1 D0 (.dK [])) G' (upd H' D0 (.dK [])) ∧ W0 c.E G' H' ∧ H' D0 = some (.dK acc) ∧ G' D0 = none ∧ DqK K G' acc accd ∧ accd.length ≤ i ∧ dcF g tt tk tv (ds.drop i) (wipeS ρ vs) accd post,
    ⟨ds.length, by omega, G1, [], [], by rw [upd_upd]; exact .refl, wn, upd_same, (w1.fresh hD).1, .nil, Nat.le_refl _, by simpa using hds⟩, fun i m H' ⟨him, G', accd, acc, ex, w', hacc, gD, kacc, hlen, hlc⟩ => ?_⟩
  have ext1 : Ext c.E G1 H1 G' H' := by
    refine ⟨ex.g, fun p o hp v => ?_, fun p o hp v g0 => ?_⟩
    · have hne : p ≠ D0 := ne_of_none hp hD
      have := ex.h p o (by rw [upd_ne hne]; exact hp) v
      rw [upd_ne hne] at this; exact this
    · have hne : p ≠ D0 := ne_of_none hp hD
      exact ex.n p o (by rw [upd_ne hne]; exact hp) v g0
  have extO : Ext c.E G H G' H' := e1.trans ext1
  have wd' : Wd c G' H' := w.step w' extO
  obtain ⟨go, stop⟩ := wk i G' H' ext1 w'
  cases hd : ds[i]? with
  | none =>
    have hle : ds.length ≤ i := List.getElem?_eq_none_iff.mp hd
    rw [List.drop_eq_nil_of_le hle] at hlc
    exact .inl ⟨stop hle, q accd hlc D0 G' H' nD extO w' ⟨⟨acc, hacc, kacc⟩, gD, h0, nv⟩⟩
  | some d =>
    obtain ⟨hlt, hget⟩ := List.getElem?_eq_some_iff.mp hd
    obtain ⟨g1, y1⟩ := go d hd
    rw [List.drop_eq_getElem_cons hlt, hget] at hlc
    refine .inr ⟨g1, fun H'' => ∃ G'' accd' acc', Ext c.E G1 (upd H1 D0 (.dK [])) G'' (upd H'' D0 (.dK [])) ∧ W0 c.E G'' H'' ∧ H'' D0 = some (.dK acc') ∧ G'' D0 = none ∧ DqK K G'' acc' accd' ∧ accd'.length ≤ i + 1 ∧ dcF g tt tk tv (ds.drop (i + 1)) (wipeS ρ vs) accd' post,
      fun H'' h => ⟨m - 1, by omega, by omega, h⟩, fun x H3 hy => ?_⟩
    obtain ⟨G3, e3, w3, k3⟩ := y1 x H3 hy
    have wd3 := wd'.step w3 e3
    have rw3 : RS K c G3 H3 (L2.wipe σ vs) (wipeS ρ vs) := ((r.ext extO).ext e3).wipe vs
    refine ⟨c, G3, wipeS ρ vs, d, _, wd3, rw3, k3, hlc, fun ρ4 h4 σ4 r4 t4 => ?_⟩
    have hwipe : L2.wipe σ4 vs = L2.wipe σ vs := by
      rw [← wipe_wipe σ vs]
      exact wipe_eq t4.1 fun j hj => t4.2 j fun z => hj (hjs j z)
    refine ⟨hwipe, c, G3, ρ4, _, wd3, r4, h4, fun b hb G5 H5 e5 w5 => ?_⟩
    have later : ∀ G6 H6, Ext c.E G' H' G6 H6 → W0 c.E G6 H6 → H6 D0 = some (.dK acc) ∧ G6 D0 = none ∧ DqK K G6 acc accd ∧ Ext c.E G1 (upd H1 D0 (.dK [])) G6 (upd H6 D0 (.dK [])) := fun G6 H6 e6 w6 => by
      refine ⟨e6.h _ _ hacc nv, e6.n _ _ hacc nv gD, kacc.mono e6.g, ex.trans ⟨e6.g, fun p o hp v => ?_, fun p o hp v g0 => ?_⟩⟩
      · by_cases hpD : p = D0
        · subst hpD; rw [upd_same] at hp ⊢; exact hp
        · rw [upd_ne hpD] at hp ⊢; exact e6.h p o hp v
      · by_cases hpD : p = D0
        · subst hpD; exact e6.n _ _ hacc nv gD
        · rw [upd_ne hpD] at hp; exact e6.n p o hp v g0
    cases b with
    | false =>
      obtain ⟨a1, a2, a3, a4⟩ := later G5 H5 (e3.trans e5) w5
      exact ⟨G5, accd, acc, a4, w5, a1, a2, a3, by omega, hb⟩
    | true =>
      refine ⟨c, G5, ρ4, _, wd3.step w5 e5, r4.ext e5, hb, fun y hy v G6 H6 e6 w6 k6 => ?_⟩
      refine ⟨c, G6, ρ4, _, (wd3.step w5 e5).step w6 e6, (r4.ext e5).ext e6, hy, fun y2 hy2 v2 G7 H7 e7 w7 k7 => ?_⟩
      obtain ⟨a1, a2, a3, a4⟩ := later G7 H7 (((e3.trans e5).trans e6).trans e7) w7
      obtain ⟨kk, rfl, hk⟩ := keyR_inv (k6.mono e7.g) hy2
      have pl := putG_len accd kk y2
      refine ⟨acc, kk, rfl, a1, by rw [kacc.length]; omega, G7, putG accd kk y2, putK acc kk v2, by rw [upd_upd]; exact a4, ⟨fun p o hp => ?_, w7.vol, Ef.loc w7.inv (.dK a1) fun p vp => ?_⟩, upd_same, a2, a3.put kk k7, by omega, hk⟩
      · rw [upd_ne (by rintro rfl; rw [a2] at hp; cases hp)]; exact w7.sub p o hp
      · rw [upd_ne (by rintro rfl; exact nv vp)]
section
variable {X : Cx} {tg iter kx vx : Expr} {pos : Pos}
theorem dc {scope : Scope} {own : List (Str × Nat)} {ifs : List Expr} {js : List Nat} {fi : List Sl → R (List D)} {g : D → List Sl → R (List Sl)} {tt : List Sl → R Bool} {tk tv : List Sl → R D} (hN : X.N.Nodup) (okb : blkC X.N X.env.scope scope own = true) (hi : PI X tg iter (tIw X.K fi))
    (hg : ∀ (s : Shared) (H : Hp) (C : Addr) (cl : List (Str × Addr)) (fp : List Addr), PG (X.blk s H scope (compEnvC scope cl C X.env) fp) tg (tG X.K js g)) (ht : ∀ (s : Shared) (H : Hp) (C : Addr) (cl : List (Str × Addr)) (fp : List Addr), PTs (X.blk s H scope (compEnvC scope cl C X.env) fp) ifs (tT X.K tt))
    (hk : ∀ (s : Shared) (H : Hp) (C : Addr) (cl : List (Str × Addr)) (fp : List Addr), PE (X.blk s H scope (compEnvC scope cl C X.env) fp) kx (tP X.K tk)) (he : ∀ (s : Shared) (H : Hp) (C : Addr) (cl : List (Str × Addr)) (fp : List Addr), PE (X.blk s H scope (compEnvC scope cl C X.env) fp) vx (tP X.K tv))
    (hjs : ∀ j ∈ js, j ∈ own.map (·.2) := by decide) (hc : X.calm = true := by rfl) (hs : ∀ x, foldedSetIterable iter X.env x = pure x := by intro _; rfl) :
    PE X (.DictComp kx vx [⟨tg, iter, ifs, 0⟩] scope pos) (tFD X.K (dcM (own.map (·.2)) fi g tt tk tv)) := PE.wk (pe_dc hc hN hi (blkOk_by okb) hg ht hk he hs) fun _ _ _ q => dc_of hjs q
end
end Pu

namespace Pu
open PySem PySem.Spec PyProof.Rows L2
variable [Tb]
/-! ### min(a, b) of data; len(dict) -/
open PySem.W in
theorem min_two_data {prog : Program} {w : World} {A : Around} {E : Value → Shared → Prop} {s : Shared} {a b : Value} {x y : D} {as : List Addr} {Q : Value → Shared → Prop} (hh : A.handled = none) (hr : ReadsAll s.heap [a, b] [x, y] as) (ha : AlikeAll [x, y]) (hu : A.units + 1 + PyData.depthAll [x, y] < cLine)
    (h : ∀ (i : Nat) v h' tk bs, [a, b][i]? = some v → Reads h' v (minD x [y]) bs → (∀ b o, s.heap.get? b = some o → h'.get? b = some o) → Q v { s with heap := h', toks := tk }) : wpAny (model prog w) A (PySem.call (.builtin "min") [a, b]) Q E s := by
  have hname : (toString "min" ++ toString ".loop" : String) = "min.loop" := by decide
  refine call_function_tree F.kind_min F.plain_min F.entry_min (F.args_min2 _ _) ?_
  show wpAny _ A.in1 (Builtin.Builtins.bindParams "min" ["key", "default"] 0 ⟨[], []⟩ >>= _) _ _ s
  refine wpAny_bind (wpAny_of_eq (show Builtin.Builtins.bindParams "min" ["key", "default"] 0 ⟨[], []⟩ = pure [none, none] from rfl) ?_)
  show wpAny _ A.in1 (newTuple [a, b] >>= _) _ _ s
  refine wpAny_bind (wpAny_newObj_type ?_)
  have hT : (s.heap.push { cls := .type "tuple", data := .seq #[a, b] }).IsTuple s.heap.objs.size #[a, b] := ⟨_, Heap.get?_push_size _ rfl, rfl, 0, rfl⟩
  have k1 : ∀ b' o, s.heap.get? b' = some o → (s.heap.push { cls := .type "tuple", data := .seq #[a, b] }).get? b' = some o := fun b' o e => Heap.get?_push_of_some _ e
  have hr1 : ReadsAll (s.heap.push { cls := .type "tuple", data := .seq #[a, b] }) (#[a, b] : Array Value).toList [x, y] as := PyProof.Rows.ReadsAll.keeps k1 hr
  refine wpAny_bind (iter_tupleW (A := A.in1) (s := { s with heap := s.heap.push { cls := .type "tuple", data := .seq #[a, b] } }) hh hT fun s₂ e W st hfp hw hk => ?_)
  refine wpAny_bind (wpAny_newObj_type ?_)
  have hSf : s₂.heap.objs.size ∉ _ := fun hm => Nat.lt_irrefl _ (hfp _ hm)
  rw [hname]
  have hcmp := cmpIn_lt (prog := prog) (w := w) (A := A.in1) (s := { s with heap := s.heap.push { cls := .type "tuple", data := .seq #[a, b] } }) hr1 ha (by show A.units + 1 + _ < _; exact hu)
  refine wpAny_pure ⟨plainId_quiet F.plain_min_loop _, codeAny_min_loop_firstH W _ hw _ hcmp s₂.heap.objs.size hSf (fresh_in hk) _ (by simp) (fun b o e => Heap.get?_push_of_some _ (hk b o e)) (W.frame 0 s₂ _ s₂.toks st (Nat.le_refl _) fun b _ o e => Heap.get?_push_of_some _ e) (Heap.get?_push_size _ rfl) fun v s' hP hm => ?_⟩
  obtain ⟨h', tk, rfl, hk'⟩ := moved_old e rfl (Moved.drop_new (tk := s₂.toks) hm (Nat.le_refl _))
  obtain ⟨bs, r, _, _, _⟩ := readsAll_atA hr1 _ v hP
  have e2 := (argBest_fold dataLt PyData.none x [y] 1 (Nat.le_refl _)).2
  rw [show List.take 1 [y] = [y] from rfl] at e2
  have hP' := hP
  rw [← Array.getElem?_toList] at hP'
  exact h _ v h' tk bs hP' (reads_keeps hk' (by unfold minD; rw [← e2]; exact r)) fun b o e => hk' b o (k1 b o e)
section
variable {X : Cx}
theorem call_minTQ (hh : X.calm = true) (hu : X.A.units + 64 < cLine) : CallR X (.builtin "min") (fun xs H Q => ∃ u v x y, xs = [u, v] ∧ Dq X.K H u x ∧ Dq X.K H v y ∧ (W.AlikeAll [x, y] ∧ PyData.depthAll [x, y] ≤ 60) ∧ ∀ (i : Nat) z, [u, v][i]? = some z → [x, y][i]? = some (W.minD x [y]) → Q z H) := by
  intro pins s σ H xs us Q I r h
  obtain ⟨u, v, x, y, rfl, hx, hy, ha, q⟩ := h
  obtain ⟨u1, u2, rfl, r1, r2⟩ := vals2 r
  have k : DqAll X.K H [u, v] [x, y] := .cons hx (.cons hy .nil)
  have rv : Vals [u, v] [u1, u2] := .cons r1 (.cons r2 .nil)
  obtain ⟨as, ra⟩ := dqAll_reads I k rv
  refine min_two_data (I.ok.hd hh) ra ha.1 (by omega) fun i v h' tk bs hv hr hk => ?_
  obtain ⟨z, e1, e2⟩ := vals_back rv hv
  exact ⟨z, H, I.kept hk, e2, q i z e1 (reads_same ra k.plain hv hr hk)⟩
end
def minTR : List D → R D
  | [.tuple xs, .tuple ys] => bestV W.minD [.tuple xs, .tuple ys]
  | _ => fail
theorem kMinT {X : Cx} (hh : X.calm = true) (hu : X.A.units + 64 < cLine) : CalQ X (.builtin "min") minTR := ⟨_, call_minTQ hh hu, by
  intro c G H vs ds post Q w bs hp q
  match ds, bs, hp with
  | [.tuple xs, .tuple ys], bs, hp =>
    obtain ⟨u, v, rfl, b1, b2⟩ := bs.two
    obtain ⟨p, us, rfl, e1, e2⟩ := b1.tup
    obtain ⟨p', us', rfl, e1', e2'⟩ := b2.tup
    have q1 : Dq X.K G (.ref p) (.tuple xs) := .tup e1 e2
    have q2 : Dq X.K G (.ref p') (.tuple ys) := .tup e1' e2'
    refine ⟨_, _, _, _, rfl, q1.mono w.sub, q2.mono w.sub, hp.1, fun i z h1 h2 => ?_⟩
    exact best_fin w (.cons q1 (.cons q2 .nil)) hp.2 q i z h1 h2⟩
/-- len(x), x an own dict -/
def lenDM (i : Nat) : List Sl → R D := fun ρ => bd (getOD ρ i) fun ds => ok (.int ds.length)
theorem lenD {X : Cx} {pos : Pos} (i : Nat) {x : Str} {p p2 : Pos} (hm : X.mg "len" = none) (hg : Gl X "len" := by rfl) (hi : X.N[i]? = some x := by rfl) (hvis : Vis X.env.scope x := by first | exact Or.inl rfl | exact Or.inr (Or.inl rfl) | exact Or.inr (Or.inr rfl))
    (hd : (x == ("__debug__" : Str)) = false := by decide) (hcd : (x == ("__classdict__" : Str)) = false := by decide) (hs : starEach [.Name x p2] X.env = [(false, eval (.Name x p2) X.env)] := by rfl) (hpl : (backTo pos (starEach [] X.env)).any (·.1) = false := by rfl) :
    PE X (.Call (.Name "len" p) [.Name x p2] [] pos) (tP X.K (lenDM i)) :=
  PE.wk (pe_callB call_lenD hg hm (by decide +kernel) (pa_cons (pe_var hi hvis hd hcd) pa_nil hs) (by decide) (by decide) hs hpl) fun σ H Q ⟨c, G, ρ, post, w, r, hg, q⟩ => by
    obtain ⟨ds, h0, hg⟩ := getOD_inv hg
    rcases r.at_ i _ h0 with z | ⟨v0, e0, a, rfl, o⟩
    · cases z
    · obtain ⟨vs, hvs, kv⟩ := o.at_
      refine ⟨_, e0, a, vs, rfl, hvs, ?_⟩
      rw [kv.length]
      exact q _ hg _ G H .refl w.w (.int _)
section
variable {X : Cx} {k n : Nat} {ps : List Str} {m : List D → R (List (Key × D))} {x : Str} {p pos : Pos} {e : Expr} {es : List Expr}
theorem callDDf {g : List Sl → R (List D)} (F : Def X.prog X.w X.K X.mg X.base x ps k (spRD X.K n m)) (hr : Room k X.A) (ha : PA X (e :: es) (tAF X.K g))
    (hg : Gl X x := by rfl) (hdb : (x == ("__debug__" : Str)) = false := by decide) (he : starEach (e :: es) X.env = (false, eval e X.env) :: starEach es X.env := by rfl) (hpl : (backTo pos (starEach es X.env)).any (·.1) = false := by rfl) : PE X (.Call (.Name x p) (e :: es) [] pos) (tFD X.K (m1 g (callRD n m))) :=
  let ⟨_, _, hm, hk, hb, F⟩ := F.ex
  callDD F hr hm hk hb ha hg hdb he hpl
end
end Pu

namespace Pu
open PySem PySem.Spec PyProof.Rows L2
variable [Tb]
/-! ### lambdas: the making of one -/
theorem tab_ne {q : Str} {P : Addr} {H : Hp} (hP : (P, q) ∈ Tb.T) (t : LamX.Tabs Tb.T H) {a : Addr} {xs : List V} (e : H a = some (.lst xs)) : a ≠ P := fun z => by
  obtain ⟨ps, h, _⟩ := t _ hP
  rw [z] at e
  rw [show H P = some (.tbl ps) from h] at e
  cases e
/-- a table is written, the rest stays -/
theorem W0.lam {E : Ef} {G H H1 : Hp} {P : Addr} {q : Str} (w : W0 E G H) (hP : (P, q) ∈ Tb.T) (k : ∀ b o, b ≠ P → H b = some o → H1 b = some o) (t : LamX.Tabs Tb.T H1) : W0 E G H1 ∧ Ext E G H G H1 := by
  have vP : E.vol P := .inr ⟨q, hP⟩
  refine ⟨⟨fun a o e => k a o (fun z => ?_) (w.sub a o e), w.vol, ?_, t⟩, ⟨fun _ _ e => e, fun a o e v => k a o (fun z => v (by rw [z]; exact vP)) e, fun _ _ _ _ g => g⟩⟩
  · rw [z, w.vol P vP] at e; cases e
  · have h := w.inv.1
    cases E with
    | no => trivial
    | bx j b c =>
      obtain ⟨ne, ns, is, h1, h2, h3, hb, hc⟩ := h
      exact ⟨ne, ns, is, h1, h2, h3, k _ _ (tab_ne hP w.inv.2 hb) hb, k _ _ (tab_ne hP w.inv.2 hc) hc⟩
section
variable {X : Cx} {pins : List (Addr × Obj)} {σ : L2.St} {H : Hp} {s : Shared}
/-- a table is written, things told by a wish are new -/
theorem inv_more {P : Addr} {ps more : Array Value} {h' : Heap} {t' : Nat} {H' : Hp} (I : Inv X pins σ H s) (hP : H P = some (.tbl ps)) (k : ∀ b o, b ≠ P → s.heap.get? b = some o → h'.get? b = some o)
    (hm : h'.get? P = some { cls := .none, data := .fields (ps ++ more) }) (a1 : ∀ b o, b ≠ P → H b = some o → H' b = some o) (a2 : H' P = some (.tbl (ps ++ more)))
    (a3 : ∀ b u, H b = none → H' b = some u → s.heap.objs.size ≤ b ∧ ObjOk X.prog X.w H' h' b u) : Inv X pins σ H' { s with heap := h', toks := t' } := by
  have nP : ∀ b u, H b = some u → (∀ q, u ≠ .tbl q) → b ≠ P := fun b u e q z => by
    rw [z, hP] at e
    exact q ps (Option.some.inj e).symm
  have nN : ∀ b, H b = none → b ≠ P := fun b e z => by
    rw [z, hP] at e
    cases e
  refine I.step (g' := s.gens) (d' := s.drawn) (ch := []) (fun b hb => absurd hb (by simp)) (fun b o _ _ _ e n => k b o (nN b n) e) (fun b o _ _ _ e n => ⟨o.slots, k b o (nN b n) e⟩)
    (fun b o _ e n => ?_) (fun b o _ e => ?_) (fun b xs e => a1 b _ (nP b _ e (fun q z => by cases z)) e) (fun b o u e => a1 b _ (nP b _ e (fun q z => by cases z)) e) (fun b qs e => ?_) (fun m hn => ?_) (fun b u e => ?_) I.bare
  · cases z : H' b with
    | none => rfl
    | some u => exact absurd (Heap.lt_size e) (Nat.not_lt_of_le (a3 b u n z).1)
  · by_cases hb : b = P
    · rw [hb]
      exact ⟨_, hm⟩
    · exact ⟨o, k b o hb e⟩
  · by_cases hb : b = P
    · rw [hb, hP] at e
      cases e
      rw [hb, a2]
      exact ⟨more, rfl⟩
    · rw [a1 b _ hb e]
      exact ⟨#[], by simp⟩
  · obtain ⟨ob, es, ep, ho, r⟩ := hn
    exact ⟨ob, es, ep, k _ ob (nN _ I.free) ho, r⟩
  · cases n : H b with
    | none => exact (a3 b u n e).2
    | some u0 =>
      by_cases hb2 : b = P
      · rw [hb2, a2] at e
        cases e
        rw [hb2]
        exact hm
      · rw [a1 b _ hb2 n] at e
        cases e
        refine (I.hok b u n).stay (fun d v hd q => k d v ?_ q) (fun d q => a1 d _ (nP d _ q (fun q z => by cases z)) q) fun d xs q => a1 d _ (nP d _ q (fun q z => by cases z)) q
        rcases hd with z | z
        · rw [z]
          exact hb2
        · exact nP d _ z (fun q z => by cases z)
/-- a function that is known to the object -/
def FnO (f : Addr) (o : Obj) : HO := .ext fun h => h.get? f = some o
theorem fnO_ok {P : Program} {w : World} {H : Hp} {h : Heap} {f : Addr} {o : Obj} (e : h.get? f = some o) : ObjOk P w H h f (FnO f o) := ⟨e, ⟨o, e⟩, fun _ _ a st => st _ a⟩
abbrev lamO (X : Cx) (params : Arguments) (body : Expr) (scope : Scope) (pm : Value) (c' : Addr) (ctv : Value) : Obj := PySem.W.kla_obj "<lambda>" (X.env.qual ++ "<lambda>") params body scope (cloFrom X.env.cells scope.names []) pm c' ctv
/-- a lambda is made: a new function; one table is written at most (after LamX.lam_make2, which tells less of what stays) -/
theorem lam_make {T : List (Addr × Str)} {c P : Addr} {params : Arguments} {body : Expr} {scope : Scope} {pos : Pos} {E : Value → Shared → Prop} {Q : Value → Shared → Prop} (I : Inv X pins σ H s) (TB : LamX.TabB X.base X.mg c P) (hcode : X.env.code = .ref c)
    (hm : (P, X.env.qual ++ "<lambda>") ∈ T) (hu : ∀ p ∈ T, p.1 = P → p.2 = X.env.qual ++ "<lambda>") (hT : LamX.Tabs T H) (hdef : defaultsOf params X.env = ([], [])) (hfree : ∀ y ∈ scope.names, y.2 = .free → ∃ c, X.env.cells.lookup y.1 = some c)
    (h : ∀ (f c' : Addr) (pm ctv : Value) (H1 : Hp) (s' : Shared), Inv X pins σ H1 s' → (∀ b o, b ≠ P → H b = some o → H1 b = some o) → LamX.Tabs T H1 → H f = none →
      H1 f = some (FnO f (lamO X params body scope pm c' ctv)) → H1 c' = some (LamX.CodeO c' (X.env.qual ++ "<lambda>")) → Q (.ref f) s') :
    wpAny (model X.prog X.w) X.A (eval (.Lambda params body scope pos) X.env) Q E s := by
  obtain ⟨ps, hP, ht, ha⟩ := hT _ hm
  have hP : H P = some (.tbl ps) := hP
  have bP : s.heap.BuiltinsAt X.mg P := TB.bm.keeps I.bk
  have hP' : s.heap.get? P = some { cls := .none, data := .fields ps } := I.hok P _ hP
  have cP : ∀ c0 q, H c0 = some (LamX.CodeO c0 q) → c0 ≠ P := fun c0 q e z => by
    rw [z, hP] at e
    exact LamX.codeO_ne ps (Option.some.inj e).symm
  refine PySem.W.kla_eval hdef ?_
  cases hc : codeAmong pos ps.toList with
  | some cv =>
    obtain ⟨c', e, hco⟩ := ha pos cv hc
    subst e
    refine PySem.W.kla_makeFunctionHit (mg := X.mg) (c := c) (P := P) (ps := ps) (closure_ok hfree) I.ok.glob (I.mod.glob.keeps I.bk) hcode (TB.code.keeps I.bk) hP' ht hc bP fun ctv h' tk hx hsz => ?_
    have nF : H h'.objs.size = none := I.hok.fresh hsz
    have kp : ∀ b o, s.heap.get? b = some o → (h'.push (lamO X params body scope ((X.mg "__name__").getD .none) c' ctv)).get? b = some o := fun b o e => Heap.get?_push_of_some _ (hx b o e)
    have st : ∀ b o, H b = some o → (upd H h'.objs.size (FnO h'.objs.size (lamO X params body scope ((X.mg "__name__").getD .none) c' ctv))) b = some o := fun b o e => by rw [upd_ne (ne_of_none e nF)]; exact e
    have I1 := inv_more (t' := tk) (more := #[]) I hP (fun b o _ e => kp b o e) (by rw [Array.append_empty]; exact kp _ _ hP') (fun b o _ e => st b o e) (by rw [Array.append_empty]; exact st _ _ hP) fun b u n e => by
      by_cases hb : b = h'.objs.size
      · subst hb
        rw [upd_same] at e
        cases e
        exact ⟨hsz, fnO_ok (Heap.get?_push_size _ rfl)⟩
      · rw [upd_ne hb, n] at e
        cases e
    exact h h'.objs.size c' _ ctv _ _ I1 (fun b o _ e => st b o e) (hT.ext st) nF upd_same (st _ _ hco)
  | none =>
    refine PySem.W.kla_makeFunction (mg := X.mg) (c := c) (P := P) (ps := ps) (closure_ok hfree) I.ok.glob (I.mod.glob.keeps I.bk) hcode (TB.code.keeps I.bk) hP' ht hc TB.gP bP fun c' ctv h' tk hx hge hlt hrec htb => ?_
    obtain ⟨c2, oc, vs, t, e2, hoc, hd, hv⟩ := hrec
    cases e2
    have hsz : s.heap.objs.size ≤ h'.objs.size := Nat.le_trans hge (Nat.le_of_lt hlt)
    have nC : H c' = none := I.hok.fresh hge
    have nF : H h'.objs.size = none := I.hok.fresh hsz
    have fc : c' ≠ h'.objs.size := Nat.ne_of_lt hlt
    have PF : P ≠ h'.objs.size := ne_of_none hP nF
    let H1 : Hp := upd (upd (upd H P (.tbl (ps ++ #[rawInt pos.line, rawInt pos.col, .ref c']))) c' (LamX.CodeO c' (X.env.qual ++ "<lambda>"))) h'.objs.size (FnO h'.objs.size (lamO X params body scope ((X.mg "__name__").getD .none) c' ctv))
    have hE : ∀ b o, b ≠ P → H b = some o → H1 b = some o := fun b o n e => by
      show upd _ _ _ b = _
      rw [upd_ne (ne_of_none e nF), upd_ne (ne_of_none e nC), upd_ne n]
      exact e
    have hP1 : H1 P = some (.tbl (ps ++ #[rawInt pos.line, rawInt pos.col, .ref c'])) := by
      show upd _ _ _ P = _
      rw [upd_ne PF, upd_ne (ne_of_none hP nC), upd_same]
    have hC1 : H1 c' = some (LamX.CodeO c' (X.env.qual ++ "<lambda>")) := by
      show upd _ _ _ c' = _
      rw [upd_ne fc, upd_same]
    have I1 := inv_more (t' := tk) (H' := H1) (more := #[rawInt pos.line, rawInt pos.col, .ref c']) (h' := h'.push (lamO X params body scope ((X.mg "__name__").getD .none) c' ctv)) I hP
      (fun b o hb e => Heap.get?_push_of_some _ (hx b o hb e)) (Heap.get?_push_of_some _ htb) hE hP1 fun b u n e => by
      have e : upd (upd (upd H P (.tbl (ps ++ #[rawInt pos.line, rawInt pos.col, .ref c']))) c' (LamX.CodeO c' (X.env.qual ++ "<lambda>"))) h'.objs.size (FnO h'.objs.size (lamO X params body scope ((X.mg "__name__").getD .none) c' ctv)) b = some u := e
      by_cases hb : b = h'.objs.size
      · subst hb
        rw [upd_same] at e
        cases e
        exact ⟨hsz, fnO_ok (Heap.get?_push_size _ rfl)⟩
      · rw [upd_ne hb] at e
        by_cases hb2 : b = c'
        · subst hb2
          rw [upd_same] at e
          cases e
          have g1 := Heap.get?_push_of_some (lamO X params body scope ((X.mg "__name__").getD .none) b ctv) hoc
          exact ⟨hge, ⟨oc, vs, t, g1, hd, hv⟩, ⟨oc, g1⟩, fun h1 h2 ⟨oc, vs, t, a, b, c⟩ st => ⟨oc, vs, t, st _ a, b, c⟩⟩
        · rw [upd_ne hb2, upd_ne (fun z => by rw [z, hP] at n; cases n), n] at e
          cases e
    have eL : (ps ++ #[rawInt pos.line, rawInt pos.col, .ref c']).toList = ps.toList ++ [rawInt pos.line, rawInt pos.col, .ref c'] := by simp
    refine h h'.objs.size c' ((X.mg "__name__").getD .none) ctv H1 _ I1 hE (fun p hp => ?_) nF upd_same hC1
    by_cases hb : p.1 = P
    · rw [hu p hp hb, hb]
      refine ⟨_, hP1, by rw [eL]; exact PySem.TriplesOk_snoc _ _ _ _ ht, fun p' cv hcv => ?_⟩
      rw [eL] at hcv
      rcases LamX.among_app _ ht hcv with z | z
      · obtain ⟨c0, e1, e2⟩ := ha p' cv z
        exact ⟨c0, e1, hE _ _ (cP _ _ e2) e2⟩
      · exact ⟨c', z, hC1⟩
    · obtain ⟨ps', q1, q2, q3⟩ := hT p hp
      refine ⟨ps', hE _ _ hb q1, q2, fun p' cv hcv => ?_⟩
      obtain ⟨c0, e1, e2⟩ := q3 p' cv hcv
      exact ⟨c0, e1, hE _ _ (cP _ _ e2) e2⟩
/-- the lambda as an expression: its function f -/
def tLamE (X : Cx) (P : Addr) (params : Arguments) (body : Expr) (scope : Scope) : TE := fun _ H Q => LamX.Tabs Tb.T H ∧ ∀ (f c' : Addr) (pm ctv : Value) (H1 : Hp), (∀ b o, b ≠ P → H b = some o → H1 b = some o) → LamX.Tabs Tb.T H1 → H f = none →
  H1 f = some (FnO f (lamO X params body scope pm c' ctv)) → H1 c' = some (LamX.CodeO c' (X.env.qual ++ "<lambda>")) → Q (.ref f) H1
theorem pe_lam {c P : Addr} {params : Arguments} {body : Expr} {scope : Scope} {pos : Pos} (TB : LamX.TabB X.base X.mg c P) (hcode : X.env.code = .ref c) (hm : (P, X.env.qual ++ "<lambda>") ∈ Tb.T) (hu : ∀ p ∈ Tb.T, p.1 = P → p.2 = X.env.qual ++ "<lambda>")
    (hdef : defaultsOf params X.env = ([], []) := by rfl) (hfree : ∀ y ∈ scope.names, y.2 ≠ .free := by decide) : PE X (.Lambda params body scope pos) (tLamE X P params body scope) := by
  refine ⟨fun pins s σ H Q I ⟨hT, h⟩ => ?_⟩
  exact lam_make I TB hcode hm hu hT hdef (fun y hy e => absurd e (hfree y hy)) fun f c' pm ctv H1 s' I1 k t n e1 e2 => ⟨.ref f, H1, I1, rfl, h f c' pm ctv H1 k t n e1 e2⟩
end
end Pu

namespace Pu
open PySem PySem.Spec PyProof.Rows L2
variable [Tb]
/-! ### a lambda's body: plain expressions of its one name -/
mutual
/-- data without lists and dicts -/
def nol : D → Bool
  | .list _ => false
  | .dict _ => false
  | .tuple xs => nolA xs
  | _ => true
def nolA : List D → Bool
  | [] => true
  | x :: r => nol x && nolA r
end
mutual
theorem reads_nol {h : Heap} : ∀ {v : Value} {d : D} {as : List Addr}, Reads h v d as → nol d = true → as = []
  | _, _, _, .none, _ => rfl
  | _, _, _, .bool _, _ => rfl
  | _, _, _, .int _ _, _ => rfl
  | _, _, _, .str _ _, _ => rfl
  | _, _, _, .list _ _ _ _, q => by simp [nol] at q
  | _, _, _, .dict _ _ _ _ _, q => by simp [nol] at q
  | _, _, _, .tuple _ _ _ r, q => readsA_nol r (by rw [nol] at q; exact q)
theorem readsA_nol {h : Heap} : ∀ {vs : List Value} {ds : List D} {as : List Addr}, ReadsAll h vs ds as → nolA ds = true → as = []
  | _, _, _, .nil, _ => rfl
  | _, _, _, .cons r t, q => by
    rw [nolA, Bool.and_eq_true] at q
    rw [reads_nol r q.1, readsA_nol t q.2]
    rfl
end
theorem readsA_get {h : Heap} : ∀ {vs : List Value} {ds : List D} {as : List Addr}, ReadsAll h vs ds as → ∀ {i : Nat} {d : D}, ds[i]? = some d → ∃ v bs, vs[i]? = some v ∧ Reads h v d bs
  | _, _, _, .nil, _, _, e => by simp at e
  | _, _, _, .cons r _, 0, _, e => by simp at e; subst e; exact ⟨_, _, rfl, r⟩
  | _, _, _, .cons _ t, i + 1, _, e => by
    obtain ⟨v, bs, h1, h2⟩ := readsA_get t (i := i) (by simpa using e)
    exact ⟨v, bs, by simpa using h1, h2⟩
theorem readsA_len {h : Heap} : ∀ {vs : List Value} {ds : List D} {as : List Addr}, ReadsAll h vs ds as → vs.length = ds.length
  | _, _, _, .nil => rfl
  | _, _, _, .cons _ t => by rw [List.length_cons, List.length_cons, readsA_len t]
def Keep (h h' : Heap) : Prop := ∀ b o, h.get? b = some o → h'.get? b = some o
theorem Keep.refl {h : Heap} : Keep h h := fun _ _ e => e
theorem Keep.trans {a b c : Heap} (p : Keep a b) (q : Keep b c) : Keep a c := fun x o e => q x o (p x o e)
section
variable {prog : Program} {w : World} {A : Around} {env : Env} {h0 : Heap} {e e2 : Expr} {pos p1 p2 : Pos}
/-- e is worth r from any heap that keeps h0; what stands is kept -/
def KEx (prog : Program) (w : World) (A : Around) (env : Env) (h0 : Heap) (e : Expr) (r : D) : Prop :=
  ∀ (s : Shared) (Q E : Value → Shared → Prop), Keep h0 s.heap → (∀ v h' tk, Keep s.heap h' → (∃ as, Reads h' v r as) → Q v { s with heap := h', toks := tk }) → wpAny (model prog w) A (eval e env) Q E s
theorem kx_var {x : Str} {m : Str → Option Value} {v : Value} {d : D} {as : List Addr} (hk : env.scope.kind = .function) (hl : env.kindOf x = some .local) (hn : h0.Ns env.locals m) (hv : m x = some v) (r : Reads h0 v d as) (hd : (x == ("__debug__" : Str)) = false := by decide) : KEx prog w A env h0 (.Name x pos) d :=
  fun s Q E k q => wpAny_Name (wpAny_loadName_local hk hl (hn.keeps k) hv (q v s.heap s.toks .refl ⟨as, Reads.keeps k r⟩)) hd
theorem kx_neg {i : Int} (a : KEx prog w A env h0 e (.int i)) : KEx prog w A env h0 (.UnaryOp .USub e pos) (.int (-i)) := fun s Q E k q => UnaryOp_ (a s _ E k fun v h' tk k1 ⟨as, r⟩ => by
  cases r
  exact neg_int (q _ _ _ k1 ⟨[], .int _ _⟩))
theorem kx_ix {i : Int} {n j : Nat} {ds : List D} {r : D} (a : KEx prog w A env h0 e (.tuple ds)) (hi : i = n) (hn : ds[n]? = some r) (hz : ds.length ≤ sizeLine) (hs : PlainIx (.Constant (.int i) j p1)) : KEx prog w A env h0 (.Subscript e (.Constant (.int i) j p1) pos) r := fun s Q E k q =>
  Subscript_ (a s _ E k fun v h' tk k1 ⟨as, r⟩ => by
    cases r with
    | @tuple a o vs m _ as h1 h2 h3 h4 =>
    obtain ⟨u, bs, e1, r1⟩ := readsA_get h4 hn
    have hl := readsA_len h4
    have hlt : n < ds.length := (List.getElem?_eq_some_iff.mp hn).1
    have hll := line63
    refine wpAny_Constant_int ?_
    have ht : IsTup h' a vs := ⟨o, h1, h2, m, h3⟩
    refine subscriptTail_builtinR (x := u) (s := { s with heap := h', toks := tk + 1 }) ht.typeIs slot_tuple_getitem.lookup
      (getItem_tuple (j := n) (Q := fun r s' => r = u ∧ Q r s') ht (by omega) (by omega) ?_ (by simpa using e1) ⟨rfl, q _ _ _ k1 ⟨bs, r1⟩⟩) (hs _ _)
    rw [seqIndex_of (by omega) (by rw [← Array.length_toList, hl]; omega), hi]
    rfl)
theorem kx_len {ds : List D} {mg : Str → Option Value} (a : KEx prog w A env h0 e (.tuple ds)) (hz : ds.length ≤ sizeLine) (hk : env.scope.kind = .function) (hg : env.kindOf "len" = some .globalImplicit) (hge : env.globals = mainGlobals) (hbe : env.builtins = builtinsNs)
    (G : h0.Ns mainGlobals mg) (hm : mg "len" = none) (B : ∃ mb, h0.Ns builtinsNs mb ∧ ∀ x : Str, x ≠ "__name__" → mb x = bootBuiltins x) (he : starEach [e] env = (false, eval e env) :: starEach [] env := by rfl) :
    KEx prog w A env h0 (.Call (.Name "len" p1) [e] [] pos) (.int ds.length) := fun s Q E k q => by
  obtain ⟨mb, b1, b2⟩ := B
  refine wpAny_Call_Name_kw (Calls.Name_function_global hk hg (Calls.loadGlobal_builtin (by rw [hge]; exact G.keeps k) hm (by rw [hbe]; exact b1.keeps k) ((b2 _ (by decide)).trans PySem.boot_len) ?_) (by decide))
  refine PyProof.Rows.callWith_builtin1 ?_ he (by rfl)
  rw [he]
  show wpAny _ _ (spliced ((false, eval e env) :: backTo pos (starEach [] env))) _ _ s
  refine Calls.spliced_cons (a s _ E k fun v h' tk k1 ⟨as, r⟩ => Calls.spliced_nil ?_)
  cases r with
  | @tuple t o vs m _ as h1 h2 h3 h4 =>
  have hl := readsA_len h4
  rw [Array.length_toList] at hl
  have hll := line63
  refine len_tuple (s := { s with heap := h', toks := tk }) ⟨o, h1, h2, m, h3⟩ (by omega) ?_
  rw [hl]
  exact q _ _ _ k1 ⟨[], .int _ _⟩
theorem kx_tup2 {x1} {r r2 : D} (a : KEx prog w A env h0 e r) (b : KEx prog w A env h0 e2 r2) (he : starEach [e, e2] env = (false, eval e env) :: starEach [e2] env := by rfl) (he2 : starEach [e2] env = (false, eval e2 env) :: starEach [] env := by rfl) :
    KEx prog w A env h0 (.Tuple [e, e2] x1 pos) (.tuple [r, r2]) := fun s Q E k q => by
  refine wpAny_Tuple_spliced ?_
  rw [he, he2]
  show wpAny _ _ (spliced ((false, eval e env) :: (false, eval e2 env) :: [])) _ _ s
  refine Calls.spliced_cons (a s _ E k fun v h1 t1 k1 ⟨as, r⟩ => ?_)
  refine Calls.spliced_cons (b _ _ E (k.trans k1) fun v2 h2 t2 k2 ⟨bs, r2⟩ => Calls.spliced_nil ⟨(show 2 ≤ sizeLine by decide), ?_⟩)
  have kp : Keep h2 (h2.push { cls := .type "tuple", data := .seq [v, v2].toArray }) := fun b o e => Heap.get?_push_of_some _ e
  exact q _ _ _ ((k1.trans k2).trans kp) ⟨as ++ (bs ++ []), .tuple (Heap.get?_push_size _ rfl) rfl rfl (.cons (Reads.keeps (k2.trans kp) r) (.cons (Reads.keeps kp r2) .nil))⟩
end
/-! ### a lambda is called with one value -/
section
variable {prog : Program} {w : World} {A : Around} {s : Shared}
theorem lam_call {f c' : Addr} {name qual x : Str} {params : Arguments} {body : Expr} {scope : Scope} {cl : List (Str × Addr)} {pm ctv v : Value} {r : D} {E : Value → Shared → Prop} (hroom : A.depth < recursionLimit) (ho : s.heap.get? f = some (PySem.W.kla_obj name qual params body scope cl pm c' ctv)) (hcd : s.heap.CodeRec (.ref c') qual) (lim : s.heap.NoLimit)
    (hbind : bindArgs (PySem.W.kla_fn name qual params body scope cl pm (.ref c') ctv) ⟨[v], []⟩ = pure [(x, v)]) (hx : scope.names.lookup x = some .local) (hcell : ∀ y ∈ scope.names, y.2 ≠ .cell) (hk : scope.kind = .function) (hco : scope.isCoroutine = false) (hgen : scope.isGenerator = false)
    (hb : ∀ (h0 : Heap) (L : Addr), Keep s.heap h0 → h0.Ns L (fun y => [(x, v)].reverse.lookup y) → KEx prog w (A.deeper (PySem.W.envX qual scope L f (.ref c') cl)) (PySem.W.envX qual scope L f (.ref c') cl) h0 body r) :
    wpAny (model prog w) A (PySem.call (.ref f) [v]) (fun v' s' => ∃ h' tk, s' = { s with heap := h', toks := tk } ∧ Keep s.heap h' ∧ ∃ as, Reads h' v' r as) E s := by
  refine wpAny_call (codeAny_mono (PySem.W.kla_callFunE (R := fun r' s' => ∃ v', r' = .ok (.ret v') ∧ ∃ h' tk, s' = { s with heap := h', toks := tk } ∧ Keep s.heap h' ∧ ∃ as, Reads h' v' r as) hroom ho rfl hco hgen rfl hcd ?_) fun r' s' h => ?_)
  · rw [hbind]
    refine wpAny_pure (wpAny_newFunctionEnv hcell (fun y hy => ?_) (fun h1 hns hsb => ⟨lim.fresh _ hsb, ?_⟩) hk)
    · rw [List.mem_singleton] at hy
      rw [hy]; exact hx
    · have k1 : Keep s.heap h1 := fun b o e => hsb.extBut b o (Nat.ne_of_lt (Heap.lt_size e)) (Heap.get?_push_of_some _ e)
      exact PySem.W.kla_codeExpr (hb h1 s.heap.objs.size k1 hns { s with heap := h1, toks := s.toks + 1 } _ _ .refl fun v' h' tk k2 r => ⟨v', rfl, h', tk, rfl, k1.trans k2, r⟩)
  · obtain ⟨v', rfl, q⟩ := h
    exact q
end
end Pu

namespace Pu
open PySem PySem.Spec PyProof.Rows L2
variable [Tb]
/-! ### sorted(xs, key=f) of a list or a tuple; the keys may begin with an empty tuple -/
section
open PySem.Calls PySem.W
variable {prog : Program} {w : World} {A : Around} {E : Value → Shared → Prop} {s : Shared} {vs : List Value} {kz : List D}
/-- what f tells of the i-th value, from any heap that keeps h1 but for the list at a -/
def Turns (prog : Program) (w : World) (A : Around) (s : Shared) (a : Addr) (h1 : Heap) (f : Value) (vs : List Value) (kz : List D) : Prop :=
  ∀ (i : Nat) (v : Value) (k : D), vs[i]? = some v → kz[i]? = some k → ∀ (h : Heap) (tk : Nat), KeepsBut a h1 h → wpAny (model prog w) A (PySem.call f [v]) (KeyPure k { s with heap := h, toks := tk }) (fun _ _ => False) { s with heap := h, toks := tk }
def SAny (prog : Program) (w : World) (A : Around) (s : Shared) (kz : List D) : Prop :=
  ∀ (h : Heap) (tk : Nat) (ks : List Value), EachIs (fun v k => ∃ as, Reads h v k as) ks kz → SortsAt prog w A { s with heap := h, toks := tk } (dataKind h kz) ks
/-- the state while the keys are made: kS the list of keys, i of them made -/
structure Mid (s : Shared) (a kS : Addr) (h1 : Heap) (e1 : Nat) (kz : List D) (i : Nat) (s' : Shared) : Prop where
  ex : ∃ h tk kA e, s' = { s with heap := h, toks := tk } ∧ KeepsBut a h1 h ∧ h.get? kS = some (seqObj "list" kA e) ∧ h.get? a = some (seqObj "list" #[] e1) ∧ EachIs (fun v k => Reads h v k [] ∧ alike k k = true) kA.toList (kz.take i)
theorem keys_made {P : PySem.Fin → Shared → Prop} {f : Value} {a kS : Addr} {h1 : Heap} {e1 : Nat} (kp : KeepsBut a h1 s.heap) (hkS : h1.get? kS = none) (nk : s.heap.get? kS = some (seqObj "list" #[] 0)) (na : s.heap.get? a = some (seqObj "list" #[] e1)) (hka : kS ≠ a)
    (hlen : kz.length = vs.length) (hZ : vs.length ≤ sizeLine) (hal : AllAlike kz) (S : SAny prog w A s kz) (turn : Turns prog w A s a h1 f vs kz)
    (h : ∀ h' tk out c, KeepsBut a h1 h' → h'.get? a = some (seqObj "list" (List.toArray out) c) → KeyedOut false kz vs out → P (.done (.ret .none)) { s with heap := h', toks := tk }) :
    wpAny (model prog w) A (ksk_rest a f false vs.toArray e1 (.ref kS)) P E s := by
  unfold ksk_rest
  refine wpAny_bind (wpAny_rule ?_)
  first
    | rw [List.forIn_toArray]
    | (rw [← Array.forIn_toList]; simp only [List.toList_toArray])
    | rw [← Array.forIn_toList]
  refine wpAny_bind (ksk_fold (Mid s a kS h1 e1 kz) vs 0 s ⟨⟨s.heap, s.toks, #[], 0, rfl, kp, nk, na, by rw [List.take_zero]; exact EachIs.nil⟩⟩ (fun j x s' hx M => ?_) fun s' M => ?_)
  · obtain ⟨h', tk, kA, e, rfl, kp', nk', na', hk⟩ := M.ex
    rw [Nat.zero_add] at hk ⊢
    have hj : j < kz.length := by have := (List.getElem?_eq_some_iff.mp hx).1; omega
    have hkj : kz[j]? = some kz[j] := List.getElem?_eq_getElem hj
    have hsz : kA.size ≤ sizeLine := by
      have l1 := hk.length
      rw [Array.length_toList, List.length_take] at l1
      omega
    refine wpAny_bind (wpAny_attempt (wpAny_mono (turn j x _ hx hkj h' tk kp') (fun v s2 he => ?_) fun _ _ z => z.elim))
    obtain ⟨g, t2, rfl, hg, hr⟩ := he
    dsimp only
    have nk2 := hg _ _ nk'
    have but := Heap.SameBut.update g kS (Obj.mapSeq (·.push v))
    obtain ⟨c2, hc2⟩ : ∃ c2, (g.update kS (Obj.mapSeq (·.push v))).get? kS = some (seqObj "list" (kA.push v) c2) := ⟨_, get?_update_seq nk2 (·.push v)⟩
    refine wpAny_bind (listUpdate_at nk2 rfl ?_ hsz (by rw [Array.size_push]; omega))
    have still : ∀ (u : Value) (d : D), Reads g u d [] ∧ alike d d = true → Reads (g.update kS (Obj.mapSeq (·.push v))) u d [] ∧ alike d d = true := fun u d q =>
      ⟨Reads.keepBut (a := kS) (fun b o hb e => (but.2 b hb).trans e) (fun o e => by rw [nk2] at e; rw [← Option.some.inj e]) d u [] q.2 q.1 (by simp), q.2⟩
    refine wpAny_pure ⟨rfl, ⟨_, _, kA.push v, c2, rfl, (kp'.trans_all hg).same but (.inr hkS), hc2, (but.2 a hka.symm).trans (hg _ _ na'), ?_⟩⟩
    rw [Array.toList_push, List.take_add_one, hkj]
    exact each_snoc (R := fun (u : Value) (d : D) => Reads (g.update kS (Obj.mapSeq (·.push v))) u d [] ∧ alike d d = true) (still v _ ⟨hr, hal _ (List.getElem_mem hj) _ (List.getElem_mem hj)⟩) (hk.mono fun u d q => still u d ⟨PyProof.Rows.Reads.keeps hg q.1, q.2⟩)
  · obtain ⟨h', tk, kA, e, rfl, kp', nk', na', hk⟩ := M.ex
    have all : EachIs (fun v k => ∃ as, Reads h' v k as) kA.toList kz := by
      rw [List.take_of_length_le (by omega)] at hk
      exact hk.mono fun v k q => ⟨[], q.1⟩
    have hsz : kA.size = vs.length := by
      have l1 := all.length
      rw [Array.length_toList] at l1
      omega
    refine wpAny_bind (listItems_at nk' rfl ?_)
    exact keyH_end (κ := dataKind h' kz) (h₁ := h1) kp' hkS nk' na' hka (S h' tk _ all) hsz hZ fun h3 t3 c k3 n3 => h h3 t3 _ c k3 n3 ⟨h', kA.toList, hal, rfl, all⟩
theorem keys_tree {P : PySem.Fin → Shared → Prop} {f : Value} {a : Addr} {n : Nat} (ho : s.heap.get? a = some (seqObj "list" vs.toArray n)) (hlen : kz.length = vs.length) (hZ : vs.length ≤ sizeLine) (hal : AllAlike kz) (S : SAny prog w A s kz) (turn : Turns prog w A s a s.heap f vs kz)
    (h : ∀ h' tk out c, KeepsBut a s.heap h' → h'.get? a = some (seqObj "list" (List.toArray out) c) → KeyedOut false kz vs out → P (.done (.ret .none)) { s with heap := h', toks := tk }) :
    wpAny (model prog w) A (ksk_tree a f false) P E s := by
  have ha := Heap.lt_size ho
  obtain ⟨e1, ho1⟩ : ∃ e1, (s.heap.update a (Obj.mapSeq fun _ => (#[] : Array Value))).get? a = some (seqObj "list" #[] e1) := ⟨_, get?_update_seq ho fun _ => #[]⟩
  unfold ksk_tree
  refine wpAny_bind (listItems_at ho rfl ?_)
  refine wpAny_bind (listUpdate_at ho rfl ?_ (by rw [List.size_toArray]; exact hZ) (Nat.zero_le _))
  refine wpAny_bind (seqEpoch_at ho1 rfl ?_)
  refine wpAny_bind (wpAny_newTuple ?_ (by show vs.length ≤ _; exact hZ))
  refine wpAny_bind (wpAny_newList ?_ (Nat.zero_le _))
  refine wpAny_holding ?_
  have hk : ((s.heap.update a (Obj.mapSeq fun _ => (#[] : Array Value))).push (seqObj "tuple" vs.toArray 0)).objs.size = s.heap.objs.size + 1 := by rw [size_push', Heap.size_update]
  exact keys_made (h1 := s.heap) (s := { s with heap := ((s.heap.update a (Obj.mapSeq fun _ => (#[] : Array Value))).push (seqObj "tuple" vs.toArray 0)).push (seqObj "list" #[] 0) })
    (kS := ((s.heap.update a (Obj.mapSeq fun _ => (#[] : Array Value))).push (seqObj "tuple" vs.toArray 0)).objs.size) (fun b o hb q => sortingHeap_old hb q) (Heap.get?_none_of_le (by rw [hk]; exact Nat.le_succ _)) (Heap.get?_push_size _ rfl)
    (Heap.get?_push_of_some _ (Heap.get?_push_of_some _ ho1)) (by rw [hk]; exact Nat.ne_of_gt (Nat.lt_succ_of_lt ha)) hlen hZ hal S turn h
theorem sorted_keys {β : Type} {R : Value → β → Prop} {bs : List β} {l : Addr} {q : Addr} {Q : Value → Shared → Prop} (k : β → D) (hl : s.heap.IsList l vs.toArray ∨ IsTup s.heap l vs.toArray) (e : EachIs R vs bs) (hal : AllAlike (bs.map k)) (hL : bs.length ≤ sizeLine)
    (S : SAny prog w A.in1.in1 s (bs.map k))
    (turn : ∀ (v : Value) (x : β), R v x → x ∈ bs → ∀ (h : Heap) (tk : Nat), Keep s.heap h → wpAny (model prog w) A.in1.in1 (PySem.call (.ref q) [v]) (KeyPure (k x) { s with heap := h, toks := tk }) (fun _ _ => False) { s with heap := h, toks := tk })
    (h : ∀ out c h' tk, Keep s.heap h' → h'.get? (s.heap.objs.size + 1) = some (seqObj "list" (List.toArray out) c) → EachIs R out (bs.mergeSort (dataLe false k)) → Q (.ref (s.heap.objs.size + 1)) { s with heap := h', toks := tk }) :
    wpAny (model prog w) A (PySem.call (.builtin "sorted") [.ref l] [(Str.ofString "key", .ref q)]) Q E s := by
  have hv : vs.length ≤ sizeLine := by rw [e.length]; exact hL
  have hn : (bs.map k).length = vs.length := by rw [List.length_map]; exact e.length.symm
  have up : ∀ {g : Heap}, KeepsBut (s.heap.objs.size + 1) (copyHeap s.heap vs) g → Keep s.heap g := fun {g} kp b o z => kp b o (Nat.ne_of_lt (Nat.lt_succ_of_lt (Heap.lt_size z))) (copyHeap_old z)
  have body : ∀ E' : Value → Shared → Prop, wpAny (model prog w) A.in1.in1 (Builtin.«list.sort» ⟨[.ref (s.heap.objs.size + 1)], [(Str.ofString "key", .ref q)]⟩) (fun f s' => f = .done (.ret .none) ∧ Q (.ref (s.heap.objs.size + 1)) s') E' { s with heap := copyHeap s.heap vs } := fun E' => by
    rw [ksk_t1]
    refine keys_tree (s := { s with heap := copyHeap s.heap vs }) (copyHeap_at s.heap vs) hn hv hal (fun h tk ks z => S h tk ks z) (fun i v d h1 h2 g tk kp => ?_) fun h' tk out c kp hD ko => ⟨rfl, ?_⟩
    · rw [List.getElem?_map] at h2
      cases z : bs[i]? with
      | none => rw [z] at h2; cases h2
      | some x =>
        rw [z] at h2
        cases h2
        have hz : (v, x) ∈ vs.zip bs := List.mem_of_getElem? (i := i) (by rw [List.getElem?_zip_eq_some]; exact ⟨h1, z⟩)
        exact turn v x (e.zip _ hz) (List.mem_of_getElem? z) g tk (up kp)
    · exact h out c h' tk (up kp) hD (keyedOut_each k ko e)
  rcases hl with hl | hl
  · exact sorted_of_sort hl hv (ksk_s1 _ _) (fun _ => ksk_l1 _ _) body
  · exact sorted_of_sortT hl hv (ksk_s1 _ _) (fun _ => ksk_l1 _ _) body
theorem sAny_of {d : List D} (hal : AllAlike d) (so : Sortable d ∨ ∃ r, d = .tuple [] :: r ∧ ∀ x ∈ r, ∃ xs, x = .tuple xs) (hu : ∀ x ∈ d, A.units + x.depth < cLine) : SAny prog w A s d := fun h tk ks e => by
  rcases so with so | ⟨r, rfl, ht⟩
  · exact SortsAt.data (s := { s with heap := h, toks := tk }) e hal so hu
  · exact sortsAt_nil (s := { s with heap := h, toks := tk }) e hal ht hu
end
/-! ### in the layer -/
def ky (kf : D → Option D) (d : D) : D := (kf d).getD .none
def kLe (kf : D → Option D) (a b : D) : Bool := !W.dataLt (ky kf b) (ky kf a)
structure KeyOk (kf : D → Option D) (ds : List D) : Prop where
  key : ∀ d ∈ ds, ∃ r, kf d = some r
  nl : ∀ d ∈ ds, nol (ky kf d) = true
  al : W.AllAlike (ds.map (ky kf))
  so : W.Sortable (ds.map (ky kf)) ∨ ∃ r, ds.map (ky kf) = .tuple [] :: r ∧ ∀ d ∈ r, ∃ xs, d = .tuple xs
  dp : ∀ d ∈ ds, (ky kf d).depth ≤ 60
  len : ds.length ≤ sizeLine
def kSrt (kf : D → Option D) (ds : List D) : R (List D) := bd (req (KeyOk kf ds)) fun _ => ok (ds.mergeSort (kLe kf))
def sortKR (kf : D → Option D) : D → R (List D)
  | .list xs => kSrt kf xs
  | .tuple xs => kSrt kf xs
  | _ => fail
def srtKs (kf : D → Option D) (vs : List V) (ds : List D) : List V := ((vs.zip ds).mergeSort (W.dataLe false (fun b : V × D => ky kf b.2))).map (·.1)
theorem DqAll.srtK {K : PySem.W.Frag} {G : Hp} {vs : List V} {ds : List D} {kf : D → Option D} (k : DqAll K G vs ds) : DqAll K G (srtKs kf vs ds) (ds.mergeSort (kLe kf)) := by
  obtain ⟨h1, h2⟩ := srt_snd k
  have hperm := List.mergeSort_perm (vs.zip ds) (W.dataLe false (fun b : V × D => ky kf b.2))
  have hmap : ((vs.zip ds).mergeSort (W.dataLe false (fun b : V × D => ky kf b.2))).map (·.2) = ds.mergeSort (kLe kf) := by
    rw [List.map_mergeSort (r := W.dataLe false (fun b : V × D => ky kf b.2)) (s := kLe kf) (f := fun b : V × D => b.2) (fun a _ b _ => rfl), h1]
  have hdq := srt_dq (K := K) (H := G) (bs := (vs.zip ds).mergeSort (W.dataLe false (fun b : V × D => ky kf b.2))) fun b hb => h2 b (hperm.mem_iff.mp hb)
  rw [hmap] at hdq
  exact hdq
section
variable {X : Cx} {a body : Expr} {pos p lp kp : Pos} {params : Arguments} {scope : Scope} {P : Addr}
/-- the body of a lambda tells the key, wherever the program's names stand -/
def LamK (X : Cx) (params : Arguments) (body : Expr) (scope : Scope) (kf : D → Option D) : Prop :=
  ∀ (A : Around) (s : Shared) (f c' : Addr) (pm ctv v : Value) (d r : D) (as : List Addr) (E : Value → Shared → Prop), A.depth < recursionLimit → Keep X.base s.heap → L2.Mod X.K X.mg X.base → s.heap.get? f = some (lamO X params body scope pm c' ctv) → s.heap.CodeRec (.ref c') (X.env.qual ++ "<lambda>") →
    Reads s.heap v d as → kf d = some r → wpAny (model X.prog X.w) A (PySem.call (.ref f) [v]) (fun v' s' => ∃ h' tk, s' = { s with heap := h', toks := tk } ∧ Keep s.heap h' ∧ ∃ as, Reads h' v' r as) E s
def rSortK (X : Cx) (params : Arguments) (body : Expr) (scope : Scope) (kf : D → Option D) : List V → List V → Hp → VK → Prop := fun xs zs H Q => ∃ (p : Addr) (vs : List V) (ds : List D) (f c' : Addr) (pm ctv : Value), xs = [V.ref p] ∧ zs = [V.ref f] ∧
  (H p = some (.lst vs) ∨ SqT X.K H p vs) ∧ DqAll X.K H vs ds ∧ KeyOk kf ds ∧ H f = some (FnO f (lamO X params body scope pm c' ctv)) ∧ H c' = some (LamX.CodeO c' (X.env.qual ++ "<lambda>")) ∧ ∀ n, H n = none → Q (.ref n) (upd H n (.lst (srtKs kf vs ds)))
theorem each_and {α β : Type} {R S : α → β → Prop} : ∀ {as : List α} {bs : List β}, W.EachIs R as bs → W.EachIs S as bs → W.EachIs (fun a b => R a b ∧ S a b) as bs
  | _, _, .nil, .nil => .nil
  | _, _, .cons z t, .cons y u => .cons ⟨z, y⟩ (each_and t u)
theorem call_sortK {kf : D → Option D} (hu : X.A.units + 64 < cLine) (hd : X.A.depth < recursionLimit) (L : LamK X params body scope kf) : CallRK X (.builtin "sorted") ["key"] (rSortK X params body scope kf) := by
  intro pins s σ H xs zs us ws Q I r rz h
  obtain ⟨p, vs, ds, f, c', pm, ctv, rfl, rfl, hq, k, so, hf, hc, q⟩ := h
  cases r with | cons r rr =>
  cases rr; cases r
  cases rz with | cons r rr =>
  cases rr; cases r
  obtain ⟨its, rv, pl, hz⟩ : ∃ its : List Value, Vals vs its ∧ (s.heap.IsList p its.toArray ∨ IsTup s.heap p its.toArray) ∧ vs.length ≤ sizeLine := by
    rcases hq with hq | hq
    · obtain ⟨its, rv, pl, hz⟩ := I.list (.of hq)
      exact ⟨its, rv, .inl pl.isList, hz⟩
    · obtain ⟨its, rv, pl, hz⟩ := I.tuple hq
      exact ⟨its, rv, .inr pl, hz⟩
  obtain ⟨as, ra⟩ := dqAll_reads I k rv
  obtain ⟨h1, h2⟩ := srt_snd k
  have hlen : (vs.zip ds).length = ds.length := by rw [← List.length_map (f := (·.2)), h1]
  have hmap : (vs.zip ds).map (fun b => ky kf b.2) = ds.map (ky kf) := by
    have z : ((vs.zip ds).map (·.2)).map (ky kf) = ds.map (ky kf) := by rw [h1]
    rw [List.map_map] at z
    exact z
  have hmem : ∀ b ∈ vs.zip ds, b.2 ∈ ds := fun b hb => by rw [← h1]; exact List.mem_map_of_mem hb
  have gf : s.heap.get? f = some (lamO X params body scope pm c' ctv) := (I.hok f _ hf).1
  have gc : s.heap.CodeRec (.ref c') (X.env.qual ++ "<lambda>") := by
    obtain ⟨⟨oc, ws, t, e1, e2, e3⟩, _⟩ := I.hok c' _ hc
    exact ⟨c', oc, ws, t, rfl, e1, e2, e3⟩
  have each := each_and (srt_each k rv) (srt_reads h1 ra)
  refine sorted_keys (fun b : V × D => ky kf b.2) pl each (by rw [hmap]; exact so.al) (by rw [hlen]; exact so.len) (by
      rw [hmap]
      refine sAny_of so.al so.so fun x hx => ?_
      obtain ⟨d, hd, rfl⟩ := List.mem_map.mp hx
      have := so.dp d hd
      show X.A.units + 1 + 1 + _ < _
      omega) (fun v b hb hbm g tk kg => ?_) fun out c h' tk kh hD he => ?_
  · obtain ⟨r, hr⟩ := so.key b.2 (hmem b hbm)
    obtain ⟨_, as, rd⟩ := hb
    have er : ky kf b.2 = r := by unfold ky; rw [hr]; rfl
    have nr := so.nl b.2 (hmem b hbm)
    rw [er] at nr ⊢
    refine wpAny_mono (L X.A.in1.in1 { s with heap := g, toks := tk } f c' pm ctv v b.2 r as (fun _ _ => False) hd (fun b o e => kg b o (I.bk b o e)) I.ok.mod (kg _ _ gf) (gc.keeps kg) (PyProof.Rows.Reads.keeps kg rd) hr) (fun v' s' z => ?_) fun _ _ z => z
    obtain ⟨h', t', rfl, k', as', r'⟩ := z
    cases reads_nol r' nr
    exact ⟨h', t', rfl, k', r'⟩
  · have hperm := List.mergeSort_perm (vs.zip ds) (W.dataLe false (fun b : V × D => ky kf b.2))
    refine ⟨.ref _, upd H (s.heap.objs.size + 1) (.lst (srtKs kf vs ds)), I.laid (t' := tk) kh (Nat.le_succ _) ⟨?_, out, c, srt_vals (he.mono fun u b z => z.1), hD⟩, rfl, q _ (I.hok.fresh (Nat.le_succ _))⟩
    show (((vs.zip ds).mergeSort _).map _).length ≤ sizeLine
    rw [List.length_map, hperm.length_eq, hlen]; exact so.len
/-- sorted(e, key=lambda ..) -/
theorem sortKF {kf : D → Option D} {f : List Sl → R D} (hu : X.A.units + 64 < cLine) (hd : X.A.depth < recursionLimit) (L : LamK X params body scope kf) (hm : X.mg "sorted" = none) (hP : (P, X.env.qual ++ "<lambda>") ∈ Tb.T)
    (ha : PE X a (tB X.K f)) (hl : PE X (.Lambda params body scope lp) (tLamE X P params body scope)) (hg : Gl X "sorted" := by rfl)
    (he : starEach [a] X.env = (false, eval a X.env) :: starEach [] X.env := by rfl) (he2 : backTo pos (starEach [a] X.env) = (false, eval a X.env) :: backTo pos (starEach [] X.env) := by rfl) :
    PE X (.Call (.Name "sorted" p) [a] [⟨some "key", .Lambda params body scope lp, kp⟩] pos) (tF X.K (m1 f (sortKR kf))) := by
  refine PE.wk (pe_callBK (ks := ["key"]) (call_sortK hu hd L) hg hm (by decide +kernel) (pa_cons ha pa_nil he) (pk_cons hl pk_nil) (by decide) (by decide) he2 (by first | rfl | (rw [he2]; rfl)) rfl rfl rfl) fun σ H Q ⟨c, G, ρ, post, w, r, hf, q⟩ => ?_
  refine ⟨c, G, ρ, _, w, r, hf, fun d hd v G1 H1 e1 w1 b1 => ?_⟩
  refine ⟨w1.inv.2, fun g c' pm ctv H2 k2 t2 n2 f2 c2 => ?_⟩
  obtain ⟨w2, e2⟩ := w1.lam hP k2 t2
  have b2 := b1.ext e2
  cases d <;> try exact hd.elim
  · obtain ⟨p, us, rfl, h1, h2, _⟩ := b2.lst w2
    exact ⟨p, us, _, g, c', pm, ctv, rfl, rfl, .inl h1, h2.mono w2.sub, hd.1, f2, c2, fun n hn => fin_new (w.step w2 (e1.trans e2)) (e1.trans e2) hn h2.srtK hd.2 q⟩
  · obtain ⟨p, us, rfl, h1, h2⟩ := b2.tup
    exact ⟨p, us, _, g, c', pm, ctv, rfl, rfl, .inr (sqT_mono w2.sub h1), h2.mono w2.sub, hd.1, f2, c2, fun n hn => fin_new (w.step w2 (e1.trans e2)) (e1.trans e2) hn h2.srtK hd.2 q⟩
end
end Pu

namespace Pu
open PySem PySem.Spec PyProof.Rows L2
variable [Tb]
/-! ### the lambdas that serve as keys -/
section
variable {X : Cx} {params : Arguments} {body : Expr} {scope : Scope} {x : Str}
/-- a lambda of one name x: how its scope looks -/
structure LamS (params : Arguments) (scope : Scope) (x : Str) : Prop where
  bind : ∀ (q : Str) (body : Expr) (cl : List (Str × Addr)) (pm cv ctv v : Value), bindArgs (PySem.W.kla_fn "<lambda>" q params body scope cl pm cv ctv) ⟨[v], []⟩ = pure [(x, v)]
  loc : scope.names.lookup x = some .local
  nocell : ∀ y ∈ scope.names, y.2 ≠ .cell
  kind : scope.kind = .function
  co : scope.isCoroutine = false
  gen : scope.isGenerator = false
theorem lamK_mk {kf : D → Option D} (S : LamS params scope x) (hd : (x == ("__debug__" : Str)) = false)
    (hb : ∀ (A : Around) (env : Env) (h0 : Heap) (d r : D), env.scope = scope → env.globals = mainGlobals → env.builtins = builtinsNs → h0.Ns mainGlobals X.mg → (∃ mb, h0.Ns builtinsNs mb ∧ ∀ x : Str, x ≠ "__name__" → mb x = bootBuiltins x) →
      (∀ pos, KEx X.prog X.w A env h0 (.Name x pos) d) → kf d = some r → KEx X.prog X.w A env h0 body r) : LamK X params body scope kf := by
  intro A s f c' pm ctv v d r as E hroom hbase M ho hcd rd hr
  refine lam_call hroom ho hcd (M.nolimit.keeps hbase) (S.bind _ _ _ _ _ _ _) S.loc S.nocell S.kind S.co S.gen fun h0 L k hn => ?_
  obtain ⟨mb, b1, b2⟩ := M.blt
  refine hb _ _ h0 d r rfl rfl rfl (M.glob.keeps (hbase.trans k)) ⟨mb, b1.keeps (hbase.trans k), b2⟩ (fun pos => ?_) hr
  refine kx_var (env := PySem.W.envX (X.env.qual ++ "<lambda>") scope L f (.ref c') (cloFrom X.env.cells scope.names [])) S.kind S.loc hn (v := v) ?_ (PyProof.Rows.Reads.keeps k rd) hd
  simp
def kfLenS (g : Int → Int) : D → Option D
  | .tuple xs => if xs.length ≤ sizeLine then some (.tuple [.int (g xs.length), .tuple xs]) else none
  | _ => none
/-- (-len(x), x) -/
def kfNL : D → Option D := kfLenS fun n => -n
/-- (len(x), x) -/
def kfL : D → Option D := kfLenS fun n => n
/-- x[k] -/
def kfI (k : Nat) : D → Option D
  | .tuple xs => if xs.length ≤ sizeLine then xs[k]? else none
  | _ => none
/-- (-len(x[0]), x[0]) -/
def kfNL0 : D → Option D := fun d => (kfI 0 d).bind kfNL
variable {p1 p2 p3 p4 p5 p6 p7 p8 p9 : Pos} {x1} {j j2 : Nat}
theorem lam_NL (S : LamS params scope x) (hg : scope.names.lookup ("len" : Str) = some .globalImplicit) (hm : X.mg "len" = none) (hd : (x == ("__debug__" : Str)) = false := by decide) :
    LamK X params (.Tuple [.UnaryOp .USub (.Call (.Name "len" p1) [.Name x p2] [] p3) p4, .Name x p5] x1 p6) scope kfNL := lamK_mk S hd fun A env h0 d r e1 e2 e3 G B hx hr => by
  cases d <;> try cases hr
  simp only [kfNL, kfLenS] at hr
  split at hr
  · cases hr
    exact kx_tup2 (kx_neg (kx_len (hx _) (by assumption) (by rw [e1]; exact S.kind) (by show env.scope.names.lookup _ = _; rw [e1]; exact hg) e2 e3 G hm B rfl)) (hx _) rfl rfl
  · cases hr
theorem lam_L (S : LamS params scope x) (hg : scope.names.lookup ("len" : Str) = some .globalImplicit) (hm : X.mg "len" = none) (hd : (x == ("__debug__" : Str)) = false := by decide) :
    LamK X params (.Tuple [.Call (.Name "len" p1) [.Name x p2] [] p3, .Name x p5] x1 p6) scope kfL := lamK_mk S hd fun A env h0 d r e1 e2 e3 G B hx hr => by
  cases d <;> try cases hr
  simp only [kfL, kfLenS] at hr
  split at hr
  · cases hr
    exact kx_tup2 (kx_len (hx _) (by assumption) (by rw [e1]; exact S.kind) (by show env.scope.names.lookup _ = _; rw [e1]; exact hg) e2 e3 G hm B rfl) (hx _) rfl rfl
  · cases hr
theorem kfI_ix {prog : Program} {w : World} {A : Around} {env : Env} {h0 : Heap} {d r : D} {e : Expr} {i : Int} {k : Nat} (hx : KEx prog w A env h0 e d) (hi : i = k) (hr : kfI k d = some r) (hs : PlainIx (.Constant (.int i) j p1)) : KEx prog w A env h0 (.Subscript e (.Constant (.int i) j p1) p2) r := by
  cases d <;> try cases hr
  simp only [kfI] at hr
  split at hr
  · exact kx_ix hx hi hr (by assumption) hs
  · cases hr
theorem lam_I {i : Int} (k : Nat) (S : LamS params scope x) (hi : i = k := by rfl) (hs : PlainIx (.Constant (.int i) j p1) := by intro _ _; with_unfolding_all rfl) (hd : (x == ("__debug__" : Str)) = false := by decide) :
    LamK X params (.Subscript (.Name x p3) (.Constant (.int i) j p1) p2) scope (kfI k) := lamK_mk S hd fun A env h0 d r e1 e2 e3 G B hx hr => kfI_ix (hx _) hi hr hs
theorem lam_NL0 (S : LamS params scope x) (hg : scope.names.lookup ("len" : Str) = some .globalImplicit) (hm : X.mg "len" = none) (hs : PlainIx (.Constant (.int 0) j p1) := by intro _ _; with_unfolding_all rfl) (hs2 : PlainIx (.Constant (.int 0) j2 p7) := by intro _ _; with_unfolding_all rfl)
    (hd : (x == ("__debug__" : Str)) = false := by decide) :
    LamK X params (.Tuple [.UnaryOp .USub (.Call (.Name "len" p8) [.Subscript (.Name x p3) (.Constant (.int 0) j p1) p2] [] p4) p5, .Subscript (.Name x p6) (.Constant (.int 0) j2 p7) p9] x1 pos) scope kfNL0 := lamK_mk S hd fun A env h0 d r e1 e2 e3 G B hx hr => by
  unfold kfNL0 at hr
  cases h1 : kfI 0 d with
  | none => rw [h1] at hr; cases hr
  | some u =>
    rw [h1] at hr
    have hr : kfNL u = some r := hr
    cases u <;> try cases hr
    simp only [kfNL, kfLenS] at hr
    split at hr
    · cases hr
      exact kx_tup2 (kx_neg (kx_len (kfI_ix (k := 0) (hx _) rfl h1 hs) (by assumption) (by rw [e1]; exact S.kind) (by show env.scope.names.lookup _ = _; rw [e1]; exact hg) e2 e3 G hm B rfl)) (kfI_ix (k := 0) (hx _) rfl h1 hs2) rfl rfl
    · cases hr
end
/-! ### defs that make lambdas -/
section
variable {P : Program} {w : World} {K : PySem.W.Frag} {mg : Str → Option Value} {base : Heap}
/-- the def n makes lambdas: its code object, its table -/
def lq (n : Str) : Str := (n ++ ".<locals>.") ++ "<lambda>"
structure MkC (base : Heap) (mg : Str → Option Value) (n : Str) (cd : Value) (c Pt : Addr) : Prop where
  cd : cd = .ref c
  tb : LamX.TabB base mg c Pt
  mem : (Pt, lq n) ∈ Tb.T
  one : ∀ p ∈ Tb.T, p.1 = Pt → p.2 = lq n
def Mk (K : PySem.W.Frag) (mg : Str → Option Value) (base : Heap) (n : Str) : Prop := ∀ (f : Addr) (fd : FuncData) (oc : Value) (od : Option Addr) (sl : Array (Option Value)), mg n = some (.ref f) → K.lookup f = some ⟨oc, od, .func fd, sl⟩ → ∃ c Pt, MkC base mg n fd.code c Pt
theorem fun_code {x qual : Str} {st : Stmt} {f : Addr} {fd : FuncData} {n : Str} (L : Mk K mg base n) (hm : mg n = some (.ref f)) (F : Fun K x qual st f fd) : ∃ c Pt, MkC base mg n fd.code c Pt := by
  obtain ⟨oc, od, kV, doc, pm, an, cdv, ct, osl, rfl, lk, hcd⟩ := F.ex
  exact L _ _ _ _ _ hm lk
theorem Fun.okC {x qual : Str} {st : Stmt} {f : Addr} {fd : FuncData} {N ps : List Str} {k : Nat} {sp : Sp} (F : Fun K x qual st f fd) (S : FnScope N ps (defScope st)) (len : ∀ vs H Q E, sp vs H Q E → vs.length = ps.length)
    (hbody : ∀ (cdv : Value) (A : Around) (outer : List Env) (s : Shared) (H : Hp) (vs : List V) (Q : VK) (E : XK), cdv = fd.code → Room k (A.deeper (envOfC qual (defScope st) s.heap.objs.size f cdv)) → sp vs H Q E →
      ∃ t, PSs (cxOf CX0 P w K mg base N qual (defScope st) f cdv A outer s H E).nox (defBody st) t ∧ t { nx := fun _ H' => Q .non H', rt := Q } (start N vs) H) : FnOk P w K mg base CX0 (k + 1) f fd ps sp := by
  obtain ⟨oc, od, kV, doc, pm, an, cdv, ct, osl, rfl, lk, hcd⟩ := F.ex
  refine fn_of lk hcd S len fun A outer s H vs Q E hr hsp => ?_
  obtain ⟨t, h, q⟩ := hbody cdv A outer s H vs Q E rfl hr hsp
  exact ⟨t, h.nox, q⟩
theorem fn_okC {x qual : Str} {st : Stmt} {f : Addr} {fd : FuncData} {N ps : List Str} {k : Nat} {g : List Sl → R Out} (F : Fun K x qual st f fd) (S : FnScope N ps (defScope st))
    (hb : ∀ (cdv : Value) (A : Around) (outer : List Env) (s : Shared) (H : Hp) (E : XK), cdv = fd.code → Room k (A.deeper (envOfC qual (defScope st) s.heap.objs.size f cdv)) → PSs (cxOf CX0 P w K mg base N qual (defScope st) f cdv A outer s H E).nox (defBody st) (tS K g)) :
    FnOk P w K mg base CX0 (k + 1) f fd ps (spR K ps.length (fnM N.length g)) := by
  refine Fun.okC F S (fun vs H Q E h => ?_) (fun cdv A outer s H vs Q E hc hr h => ?_)
  · obtain ⟨_, _, ds, _, _, hd, hl, _⟩ := h
    rw [hd.length, hl]
  · obtain ⟨Ef, G, ds, post, w0, hd, hl, hm, q⟩ := h
    refine ⟨_, hb cdv A outer s H E hc hr, ⟨Ef, G, H⟩, G, env0 ds N.length, _, ⟨w0, .refl⟩, rs_start N.length hd, hm, fun o ho => ?_⟩
    cases o with
    | nx ρ => exact fun σ G' H' l w' r' => q _ ho .non G' H' w'.e w'.w .non
    | rt d => exact fun v G' H' l w' k => q _ ho v G' H' w'.e w'.w k
    | bk ρ => exact ho.elim
    | ct ρ => exact ho.elim
theorem fn_okXC {x qual : Str} {st : Stmt} {f : Addr} {fd : FuncData} {N ps : List Str} {k j : Nat} {p : Str} {g : List Sl → R Out} (F : Fun K x qual st f fd) (S : FnScope N (p :: ps) (defScope st))
    (hb : ∀ (cdv : Value) (A : Around) (outer : List Env) (s : Shared) (H : Hp) (E : XK), cdv = fd.code → Room k (A.deeper (envOfC qual (defScope st) s.heap.objs.size f cdv)) → PSs (cxOf CX0 P w K mg base N qual (defScope st) f cdv A outer s H E).nox (defBody st) (tS K g)) :
    FnOk P w K mg base CX0 (k + 1) f fd (p :: ps) (spX K j ps.length (fnX j N.length g)) := by
  refine Fun.okC F S (fun vs H Q E h => ?_) (fun cdv A outer s H vs Q E hc hr h => ?_)
  · obtain ⟨_, _, _, _, ds, _, rfl, _, _, hd, hl, _⟩ := h
    rw [List.length_cons, List.length_cons, hd.length, hl]
  · obtain ⟨Ef, G, bv, vs', ds, post, rfl, hbx, w0, hd, hl, hm, q⟩ := h
    have e : L2.start N (bv :: vs') = some bv :: (vs'.map some ++ List.replicate ((N.length - 1) - vs'.length) none) := by
      unfold L2.start
      simp only [List.map_cons, List.length_cons, List.cons_append]
      congr 3; omega
    refine ⟨_, hb cdv A outer s H E hc hr, ⟨Ef, G, H⟩, G, _, _, ⟨w0, .refl⟩, by rw [e]; exact rs_cons (rs_start (N.length - 1) hd) hbx, hm, fun o ho => ?_⟩
    cases o with
    | nx ρ => exact fun σ G' H' l w' r' => q _ ho .non G' H' w'.e w'.w .non
    | rt d => exact fun v G' H' l w' k => q _ ho v G' H' w'.e w'.w k
    | bk ρ => exact ho.elim
    | ct ρ => exact ho.elim
/-! ### the end -/
/-- the def m at the law's entry: its code object and its table, empty -/
def MkAt (mg : Str → Option Value) (h : Heap) (m : Str) : Prop := ∃ f o fd c Pt, mg m = some (.ref f) ∧ h.get? f = some o ∧ o.data = .func fd ∧ fd.code = .ref c ∧ PySem.W.CodeHd h c Pt ∧ h.get? Pt = some { cls := .none, data := .fields #[] }
theorem walk_ofM {l : PySem.W.OpenLaw} {n k : Nat} {q : Program} {loose : List Str} {XP : (Str → Option Value) → Heap → Prop} {YP : World → Heap → Prop} {d : DefRec} {K : Params → PySem.W.Frag} {CX : World → CXT} {x : Str} (NS : List Str)
    (hn : l.most = some n) (hn2 : n ≤ sizeLine) (hdf : d.params.defaults = []) (hr : Room k callerA) (hrec : (NS.all fun m => (recsOf q).any fun e => e.name == m) = true) (hY : ∀ (w : World) (h : Heap), YP w h → (K w.params).In h)
    (F : ∀ (w : World) (mg : Str → Option Value) (fa : Addr) (h : Heap), YP w h → (K w.params).In h → h.Ns mainGlobals mg → mg d.name = some (.ref fa) → (∀ m ∈ NS, MkAt mg h m) → LamX.LawAtS l w (K w.params) (CX w) k n x mg fa h)
    (hCX : ∀ (w : World) (H : Hp) (s : Shared) (e : Value) (s' : Shared), CX w [] H s (fun _ _ _ => False) e s' → False) :
    PySem.W.WalkO q loose XP YP l.row.toRowW d [] (fun f vs => PySem.call f vs) := by
  refine Att.attach_callB hn hdf fun w s₀ s₁ mg mb fa o pm cd doc a vs ns G Y ho hd hcd hmg hobj hints hlen hbits hg => ?_
  have KX := hY w _ Y
  have tabs : ∀ m ∈ NS, MkAt mg s₁.heap m := fun m hm => by
    obtain ⟨dL, h1, h2⟩ := List.any_eq_true.mp (List.all_eq_true.mp hrec m hm)
    have h2 : dL.name = m := beq_iff_eq.mp h2
    obtain ⟨a', o', fd', c', P', e1, e2, e3, e4, e5, e6⟩ := G.T.tab dL h1
    rw [h2] at e1
    exact ⟨a', o', fd', c', P', e1, e2, e3, e4, PySem.W.CodeHd.of e5 e6, e6.2⟩
  obtain ⟨fd, cs, sp, hT, nT, C, hb, hsp, hF⟩ := F w mg fa _ Y KX G.T.g hmg tabs
  exact LamX.law_callTs KX G.T.g G.T.b G.T.builtins G.T.nolimit hg hT nT C G.T.bmain hobj hints (Nat.le_trans hlen hn2) hr hF hb (fun H hH hS => hsp H a ns hlen hbits hH hS) fun H e s' => hCX w H s₁ e s'
/-- what the head knows tells which table it is -/
theorem mkAt_get {h : Heap} {m : Str} {f c Pt : Addr} {oc cc : Value} {od dd : Option Addr} {fd : FuncData} {sl s2 : Array (Option Value)} {vs : Array Value} (X : K.In h) (T : MkAt mg h m) (a : mg m = some (.ref f)) (l : K.lookup f = some ⟨oc, od, .func fd, sl⟩) (e : fd.code = .ref c)
    (g : K.lookup c = some ⟨cc, dd, .fields vs, s2⟩) (v : vs[11]? = some (.ref Pt)) : PySem.W.CodeHd h c Pt ∧ h.get? Pt = some { cls := .none, data := .fields #[] } := by
  obtain ⟨f', o, fd', c', P', e1, e2, e3, e4, e5, e6⟩ := T
  rw [a] at e1; cases e1
  rw [X _ _ l] at e2; cases e2
  cases e3
  rw [e] at e4; cases e4
  have : P' = Pt := by
    obtain ⟨o, us, _, _, _, _, _, _, _, g1, _, g3, g4, _⟩ := e5
    rw [X _ _ g] at g1; cases g1
    cases g3
    rw [v] at g4; cases g4; rfl
  subst this
  exact ⟨e5, e6⟩
theorem mk_of {n : Str} {f c Pt : Addr} {oc : Value} {od : Option Addr} {fd : FuncData} {sl : Array (Option Value)} (a : mg n = some (.ref f)) (l : K.lookup f = some ⟨oc, od, .func fd, sl⟩) (e : fd.code = .ref c) (tb : LamX.TabB base mg c Pt) (mem : (Pt, lq n) ∈ Tb.T) (one : ∀ p ∈ Tb.T, p.1 = Pt → p.2 = lq n) : Mk K mg base n := by
  intro f' fd' oc' od' sl' e1 e2
  rw [a] at e1; cases e1
  rw [l] at e2; cases e2
  exact ⟨c, Pt, e, tb, mem, one⟩
theorem tabs_nil {H : Hp} {cs : List (Addr × Addr)} {T : List (Addr × Str)} (h : ∀ p ∈ T, ∃ c, (c, p.1) ∈ cs) (hH : ∀ p ∈ cs, H p.2 = some (.tbl #[])) : LamX.Tabs T H := fun p hp => let ⟨_, hc⟩ := h p hp; LamX.TabS.nil (hH _ hc)
end
end Pu

namespace K01
open PySem PySem.Spec PyProof.Rows L2 Pu
variable [Tb]

def topS (i : Nat) : Stmt := PySem.Challenge.pw_hangseven_k01_whole_mobiles.main.body.getD i (.Pass ⟨0, 0, 0, 0⟩)
abbrev s_is_number : Stmt := topS 1
abbrev n_is_number : List Str := ["value", "least", "most"]
theorem sc_is_number : FnScope n_is_number ["value", "least", "most"] (defScope s_is_number) := ⟨rfl, rfl, rfl, by decide +kernel, rfl, by decide +kernel, by decide +kernel⟩
abbrev s_is_ascending : Stmt := topS 2
abbrev n_is_ascending : List Str := ["rows", "k"]
theorem sc_is_ascending : FnScope n_is_ascending ["rows"] (defScope s_is_ascending) := ⟨rfl, rfl, rfl, by decide +kernel, rfl, by decide +kernel, by decide +kernel⟩
abbrev s_is_weight : Stmt := topS 9
abbrev n_is_weight : List Str := ["value"]
theorem sc_is_weight : FnScope n_is_weight ["value"] (defScope s_is_weight) := ⟨rfl, rfl, rfl, by decide +kernel, rfl, by decide +kernel, by decide +kernel⟩
abbrev s_is_hook : Stmt := topS 10
abbrev n_is_hook : List Str := ["value"]
theorem sc_is_hook : FnScope n_is_hook ["value"] (defScope s_is_hook) := ⟨rfl, rfl, rfl, by decide +kernel, rfl, by decide +kernel, by decide +kernel⟩
abbrev s_is_bare_rod : Stmt := topS 11
abbrev n_is_bare_rod : List Str := ["value", "place", "_", "hook"]
theorem sc_is_bare_rod : FnScope n_is_bare_rod ["value"] (defScope s_is_bare_rod) := ⟨rfl, rfl, rfl, by decide +kernel, rfl, by decide +kernel, by decide +kernel⟩
abbrev s_is_mobile : Stmt := topS 12
abbrev n_is_mobile : List Str := ["value", "level", "weights", "_", "rods", "part", "rod"]
theorem sc_is_mobile : FnScope n_is_mobile ["value"] (defScope s_is_mobile) := ⟨rfl, rfl, rfl, by decide +kernel, rfl, by decide +kernel, by decide +kernel⟩
abbrev s_is_rod : Stmt := topS 13
abbrev n_is_rod : List Str := ["mobile"]
theorem sc_is_rod : FnScope n_is_rod ["mobile"] (defScope s_is_rod) := ⟨rfl, rfl, rfl, by decide +kernel, rfl, by decide +kernel, by decide +kernel⟩
abbrev s_all_paths : Stmt := topS 14
abbrev n_all_paths : List Str := ["mobile", "found", "level", "rods", "path", "part", "rod", "k", "hook", "_"]
theorem sc_all_paths : FnScope n_all_paths ["mobile"] (defScope s_all_paths) := ⟨rfl, rfl, rfl, by decide +kernel, rfl, by decide +kernel, by decide +kernel⟩
abbrev s_part_at : Stmt := topS 15
abbrev n_part_at : List Str := ["mobile", "path", "k"]
theorem sc_part_at : FnScope n_part_at ["mobile", "path"] (defScope s_part_at) := ⟨rfl, rfl, rfl, by decide +kernel, rfl, by decide +kernel, by decide +kernel⟩
abbrev s_with_part : Stmt := topS 16
abbrev n_with_part : List Str := ["mobile", "path", "part", "rods", "k", "rod"]
theorem sc_with_part : FnScope n_with_part ["mobile", "path", "part"] (defScope s_with_part) := ⟨rfl, rfl, rfl, by decide +kernel, rfl, by decide +kernel, by decide +kernel⟩
abbrev s_rods_of : Stmt := topS 17
abbrev n_rods_of : List Str := ["mobile", "path"]
theorem sc_rods_of : FnScope n_rods_of ["mobile"] (defScope s_rods_of) := ⟨rfl, rfl, rfl, by decide +kernel, rfl, by decide +kernel, by decide +kernel⟩
abbrev s_weights_of : Stmt := topS 18
abbrev n_weights_of : List Str := ["mobile", "rows", "path", "part"]
theorem sc_weights_of : FnScope n_weights_of ["mobile"] (defScope s_weights_of) := ⟨rfl, rfl, rfl, by decide +kernel, rfl, by decide +kernel, by decide +kernel⟩
abbrev s_total : Stmt := topS 19
abbrev n_total : List Str := ["mobile", "_", "weight"]
theorem sc_total : FnScope n_total ["mobile"] (defScope s_total) := ⟨rfl, rfl, rfl, by decide +kernel, rfl, by decide +kernel, by decide +kernel⟩
abbrev s_moment_of : Stmt := topS 20
abbrev n_moment_of : List Str := ["rod", "place", "part"]
theorem sc_moment_of : FnScope n_moment_of ["rod"] (defScope s_moment_of) := ⟨rfl, rfl, rfl, by decide +kernel, rfl, by decide +kernel, by decide +kernel⟩
abbrev s_tilted_rods : Stmt := topS 21
abbrev n_tilted_rods : List Str := ["mobile", "path"]
theorem sc_tilted_rods : FnScope n_tilted_rods ["mobile"] (defScope s_tilted_rods) := ⟨rfl, rfl, rfl, by decide +kernel, rfl, by decide +kernel, by decide +kernel⟩
abbrev s_hangs_level : Stmt := topS 22
abbrev n_hangs_level : List Str := ["mobile"]
theorem sc_hangs_level : FnScope n_hangs_level ["mobile"] (defScope s_hangs_level) := ⟨rfl, rfl, rfl, by decide +kernel, rfl, by decide +kernel, by decide +kernel⟩
abbrev s_height_of : Stmt := topS 23
abbrev n_height_of : List Str := ["mobile", "rods", "path"]
theorem sc_height_of : FnScope n_height_of ["mobile"] (defScope s_height_of) := ⟨rfl, rfl, rfl, by decide +kernel, rfl, by decide +kernel, by decide +kernel⟩
abbrev s_turned_rod : Stmt := topS 24
abbrev n_turned_rod : List Str := ["rod", "place", "part"]
theorem sc_turned_rod : FnScope n_turned_rod ["rod"] (defScope s_turned_rod) := ⟨rfl, rfl, rfl, by decide +kernel, rfl, by decide +kernel, by decide +kernel⟩
abbrev s_turned_at : Stmt := topS 25
abbrev n_turned_at : List Str := ["mobile", "path"]
theorem sc_turned_at : FnScope n_turned_at ["mobile", "path"] (defScope s_turned_at) := ⟨rfl, rfl, rfl, by decide +kernel, rfl, by decide +kernel, by decide +kernel⟩
abbrev s_turned : Stmt := topS 26
abbrev n_turned : List Str := ["mobile", "path"]
theorem sc_turned : FnScope n_turned ["mobile"] (defScope s_turned) := ⟨rfl, rfl, rfl, by decide +kernel, rfl, by decide +kernel, by decide +kernel⟩
abbrev s_law_box : Stmt := topS 28
abbrev n_law_box : List Str := ["script"]
theorem sc_law_box : FnScope n_law_box ["script"] (defScope s_law_box) := ⟨rfl, rfl, rfl, by decide +kernel, rfl, by decide +kernel, by decide +kernel⟩
abbrev s_law_load : Stmt := topS 29
abbrev n_law_load : List Str := ["box", "cells", "first", "second", "cell", "size"]
theorem sc_law_load : FnScope n_law_load ["box"] (defScope s_law_load) := ⟨rfl, rfl, rfl, by decide +kernel, rfl, by decide +kernel, by decide +kernel⟩
abbrev s_law_draw : Stmt := topS 30
abbrev n_law_draw : List Str := ["box", "many", "digit"]
theorem sc_law_draw : FnScope n_law_draw ["box", "many"] (defScope s_law_draw) := ⟨rfl, rfl, rfl, by decide +kernel, rfl, by decide +kernel, by decide +kernel⟩
abbrev s_law_same : Stmt := topS 31
abbrev n_law_same : List Str := ["a", "b", "k"]
theorem sc_law_same : FnScope n_law_same ["a", "b"] (defScope s_law_same) := ⟨rfl, rfl, rfl, by decide +kernel, rfl, by decide +kernel, by decide +kernel⟩
abbrev s_law_mobile : Stmt := topS 32
abbrev n_law_mobile : List Str := ["box", "deep", "places", "place", "k"]
theorem sc_law_mobile : FnScope n_law_mobile ["box", "deep"] (defScope s_law_mobile) := ⟨rfl, rfl, rfl, by decide +kernel, rfl, by decide +kernel, by decide +kernel⟩
abbrev s_law_total : Stmt := topS 34
abbrev n_law_total : List Str := ["mobile", "place", "part"]
theorem sc_law_total : FnScope n_law_total ["mobile"] (defScope s_law_total) := ⟨rfl, rfl, rfl, by decide +kernel, rfl, by decide +kernel, by decide +kernel⟩
abbrev s_law_level : Stmt := topS 33
abbrev n_law_level : List Str := ["box", "deep", "one", "other", "a", "b", "d", "k"]
theorem sc_law_level : FnScope n_law_level ["box", "deep"] (defScope s_law_level) := ⟨rfl, rfl, rfl, by decide +kernel, rfl, by decide +kernel, by decide +kernel⟩
abbrev s_law_moment : Stmt := topS 35
abbrev n_law_moment : List Str := ["rod", "place", "part"]
theorem sc_law_moment : FnScope n_law_moment ["rod"] (defScope s_law_moment) := ⟨rfl, rfl, rfl, by decide +kernel, rfl, by decide +kernel, by decide +kernel⟩
abbrev s_law_parts : Stmt := topS 36
abbrev n_law_parts : List Str := ["mobile", "found", "here", "path", "part", "k"]
theorem sc_law_parts : FnScope n_law_parts ["mobile"] (defScope s_law_parts) := ⟨rfl, rfl, rfl, by decide +kernel, rfl, by decide +kernel, by decide +kernel⟩
abbrev s_law_turned : Stmt := topS 37
abbrev n_law_turned : List Str := ["mobile", "place", "part"]
theorem sc_law_turned : FnScope n_law_turned ["mobile"] (defScope s_law_turned) := ⟨rfl, rfl, rfl, by decide +kernel, rfl, by decide +kernel, by decide +kernel⟩
abbrev s_law_put : Stmt := topS 38
abbrev n_law_put : List Str := ["mobile", "path", "part", "k"]
theorem sc_law_put : FnScope n_law_put ["mobile", "path", "part"] (defScope s_law_put) := ⟨rfl, rfl, rfl, by decide +kernel, rfl, by decide +kernel, by decide +kernel⟩
abbrev s_law : Stmt := topS 39
abbrev n_law : List Str := ["script", "box", "mobile", "parts", "rods", "weights", "tilted", "path", "part", "other", "there", "rod", "told", "due", "round_it", "place", "some"]
theorem sc_law : FnScope n_law ["script"] (defScope s_law) := ⟨rfl, rfl, rfl, by decide +kernel, rfl, by decide +kernel, by decide +kernel⟩
/-- what the top has written -/
structure Facts (K : PySem.W.Frag) (mg : Str → Option Value) : Prop where
  kc : Tb.kc = false
  f_is_number : ∃ f fd, mg "is_number" = some (.ref f) ∧ Fun K "is_number" "is_number" s_is_number f fd ∧ L2.Binds K fd ["value", "least", "most"] []
  f_is_ascending : ∃ f fd, mg "is_ascending" = some (.ref f) ∧ Fun K "is_ascending" "is_ascending" s_is_ascending f fd ∧ L2.Binds K fd ["rows"] []
  f_is_weight : ∃ f fd, mg "is_weight" = some (.ref f) ∧ Fun K "is_weight" "is_weight" s_is_weight f fd ∧ L2.Binds K fd ["value"] []
  f_is_hook : ∃ f fd, mg "is_hook" = some (.ref f) ∧ Fun K "is_hook" "is_hook" s_is_hook f fd ∧ L2.Binds K fd ["value"] []
  f_is_bare_rod : ∃ f fd, mg "is_bare_rod" = some (.ref f) ∧ Fun K "is_bare_rod" "is_bare_rod" s_is_bare_rod f fd ∧ L2.Binds K fd ["value"] []
  f_is_mobile : ∃ f fd, mg "is_mobile" = some (.ref f) ∧ Fun K "is_mobile" "is_mobile" s_is_mobile f fd ∧ L2.Binds K fd ["value"] []
  f_is_rod : ∃ f fd, mg "is_rod" = some (.ref f) ∧ Fun K "is_rod" "is_rod" s_is_rod f fd ∧ L2.Binds K fd ["mobile"] []
  f_all_paths : ∃ f fd, mg "all_paths" = some (.ref f) ∧ Fun K "all_paths" "all_paths" s_all_paths f fd ∧ L2.Binds K fd ["mobile"] []
  f_part_at : ∃ f fd, mg "part_at" = some (.ref f) ∧ Fun K "part_at" "part_at" s_part_at f fd ∧ L2.Binds K fd ["mobile", "path"] []
  f_with_part : ∃ f fd, mg "with_part" = some (.ref f) ∧ Fun K "with_part" "with_part" s_with_part f fd ∧ L2.Binds K fd ["mobile", "path", "part"] []
  f_rods_of : ∃ f fd, mg "rods_of" = some (.ref f) ∧ Fun K "rods_of" "rods_of" s_rods_of f fd ∧ L2.Binds K fd ["mobile"] []
  f_weights_of : ∃ f fd, mg "weights_of" = some (.ref f) ∧ Fun K "weights_of" "weights_of" s_weights_of f fd ∧ L2.Binds K fd ["mobile"] []
  f_total : ∃ f fd, mg "total" = some (.ref f) ∧ Fun K "total" "total" s_total f fd ∧ L2.Binds K fd ["mobile"] []
  f_moment_of : ∃ f fd, mg "moment_of" = some (.ref f) ∧ Fun K "moment_of" "moment_of" s_moment_of f fd ∧ L2.Binds K fd ["rod"] []
  f_tilted_rods : ∃ f fd, mg "tilted_rods" = some (.ref f) ∧ Fun K "tilted_rods" "tilted_rods" s_tilted_rods f fd ∧ L2.Binds K fd ["mobile"] []
  f_hangs_level : ∃ f fd, mg "hangs_level" = some (.ref f) ∧ Fun K "hangs_level" "hangs_level" s_hangs_level f fd ∧ L2.Binds K fd ["mobile"] []
  f_height_of : ∃ f fd, mg "height_of" = some (.ref f) ∧ Fun K "height_of" "height_of" s_height_of f fd ∧ L2.Binds K fd ["mobile"] []
  f_turned_rod : ∃ f fd, mg "turned_rod" = some (.ref f) ∧ Fun K "turned_rod" "turned_rod" s_turned_rod f fd ∧ L2.Binds K fd ["rod"] []
  f_turned_at : ∃ f fd, mg "turned_at" = some (.ref f) ∧ Fun K "turned_at" "turned_at" s_turned_at f fd ∧ L2.Binds K fd ["mobile", "path"] []
  f_turned : ∃ f fd, mg "turned" = some (.ref f) ∧ Fun K "turned" "turned" s_turned f fd ∧ L2.Binds K fd ["mobile"] []
  f_law_box : ∃ f fd, mg "_law_box" = some (.ref f) ∧ Fun K "_law_box" "_law_box" s_law_box f fd ∧ L2.Binds K fd ["script"] []
  f_law_load : ∃ f fd, mg "_law_load" = some (.ref f) ∧ Fun K "_law_load" "_law_load" s_law_load f fd ∧ L2.Binds K fd ["box"] []
  f_law_draw : ∃ f fd, mg "_law_draw" = some (.ref f) ∧ Fun K "_law_draw" "_law_draw" s_law_draw f fd ∧ L2.Binds K fd ["box", "many"] []
  f_law_same : ∃ f fd, mg "_law_same" = some (.ref f) ∧ Fun K "_law_same" "_law_same" s_law_same f fd ∧ L2.Binds K fd ["a", "b"] []
  f_law_mobile : ∃ f fd, mg "_law_mobile" = some (.ref f) ∧ Fun K "_law_mobile" "_law_mobile" s_law_mobile f fd ∧ L2.Binds K fd ["box", "deep"] []
  f_law_total : ∃ f fd, mg "_law_total" = some (.ref f) ∧ Fun K "_law_total" "_law_total" s_law_total f fd ∧ L2.Binds K fd ["mobile"] []
  f_law_level : ∃ f fd, mg "_law_level" = some (.ref f) ∧ Fun K "_law_level" "_law_level" s_law_level f fd ∧ L2.Binds K fd ["box", "deep"] []
  f_law_moment : ∃ f fd, mg "_law_moment" = some (.ref f) ∧ Fun K "_law_moment" "_law_moment" s_law_moment f fd ∧ L2.Binds K fd ["rod"] []
  f_law_parts : ∃ f fd, mg "_law_parts" = some (.ref f) ∧ Fun K "_law_parts" "_law_parts" s_law_parts f fd ∧ L2.Binds K fd ["mobile"] []
  f_law_turned : ∃ f fd, mg "_law_turned" = some (.ref f) ∧ Fun K "_law_turned" "_law_turned" s_law_turned f fd ∧ L2.Binds K fd ["mobile"] []
  f_law_put : ∃ f fd, mg "_law_put" = some (.ref f) ∧ Fun K "_law_put" "_law_put" s_law_put f fd ∧ L2.Binds K fd ["mobile", "path", "part"] []
  f_law : ∃ f fd, mg "law" = some (.ref f) ∧ Fun K "law" "law" s_law f fd ∧ L2.Binds K fd ["script"] []
  b_all : mg "all" = none
  b_bool : mg "bool" = none
  b_enumerate : mg "enumerate" = none
  b_int : mg "int" = none
  b_isinstance : mg "isinstance" = none
  b_len : mg "len" = none
  b_list : mg "list" = none
  b_max : mg "max" = none
  b_range : mg "range" = none
  b_set : mg "set" = none
  b_sorted : mg "sorted" = none
  b_str : mg "str" = none
  b_sum : mg "sum" = none
  b_tuple : mg "tuple" = none
  b_zip : mg "zip" = none
  c_FARTHEST : ∃ t, mg "FARTHEST" = some (.int (50) t)
  c_MOST_DEEP : ∃ t, mg "MOST_DEEP" = some (.int (12) t)
  c_MOST_HOOKS : ∃ t, mg "MOST_HOOKS" = some (.int (6) t)
  c_MOST_WEIGHT : ∃ t, mg "MOST_WEIGHT" = some (.int (1000) t)
  c_MOST_WEIGHTS : ∃ t, mg "MOST_WEIGHTS" = some (.int (60) t)

section
variable {P : Program} {w : World} {K : PySem.W.Frag} {mg : Str → Option Value} {base : Heap}

abbrev m_law_draw := drawM
theorem w_law_load (T : Facts K mg) : Def P w K mg base "_law_load" ["box"] 1 spLoad :=
 let ⟨f, fd, gF, F, b⟩ := T.f_law_load
 ⟨f, fd, gF, F.kp, b, by
  refine F.ok sc_law_load (fun vs H Q E h => ?_) (fun cdv A outer s H vs Q E hr h => ?_)
  · obtain ⟨_, _, _, _, _, rfl, _⟩ := h; rfl
  · obtain ⟨b, c, ns, n, s, rfl, x, q⟩ := h
    refine ⟨_, pss_cons (ps_set (i := 1) sc_law_load.nd rfl (.inl rfl) (pe_ix ix_list (pv 0) pe_int (fun _ _ => rfl)))
      (pss_cons (ps_if (pt_cmpR op_gt (pe_callB call_len_seq (by rfl) T.b_len PySem.boot_len (pa_cons (pv 1) pa_nil)) pe_int (nomark _))
          (pss_cons (ps_set (i := 4) sc_law_load.nd rfl (.inl rfl) (pe_callTy call_int1 (by rfl) T.b_int (by decide +kernel) (pa_cons (pe_bm PySem.F.plainAttrs_list PySem.F.slot_list_pop PySem.F.type_list_pop mt_popAt (pv 1) (pa_cons pe_int pa_nil)) pa_nil)))
          (pss_cons (ps_set (i := 5) sc_law_load.nd rfl (.inl rfl) (pe_ifExp (pt_cmpR op_ge (pv 4) pe_int (nomark _)) (pe_op op_mul pe_int (pv 4)) (pe_op op_sub (pe_op op_mul (pe_un un_neg pe_int) (pv 4)) pe_int)))
          (pss_cons (ps_if (pt_cmpR op_ge (pv 5) pe_int (nomark _)) (pss_one (ps_ret (pv 5))) pss_nil)
          (pss_one (ps_asg (pe_op op_mod (pe_callTy call_int1 (by rfl) T.b_int (by decide +kernel) (pa_cons (pe_op op_add (pe_op op_add (pe_op op_mul (pe_ix ix_list (pv 0) pe_int (fun _ _ => rfl)) pe_int) (pe_op op_mul (pv 5) pe_int)) pe_int) pa_nil)) pe_int) (pg_sub (pv 0) pe_int set_list))))))
          pss_nil)
      (PSs.wk (t' := tLoad2 b c ns.length H 0) (pss_cons (ps_set (i := 2) sc_law_load.nd rfl (.inl rfl) (pe_op op_mod (pe_callTy call_int1 (by rfl) T.b_int (by decide +kernel) (pa_cons (pe_op op_add (pe_op op_mul (pe_ix ix_list (pv 0) pe_int (fun _ _ => rfl)) pe_int) pe_int) pa_nil)) pe_int))
        (pss_cons (ps_set (i := 3) sc_law_load.nd rfl (.inl rfl) (pe_op op_mod (pe_callTy call_int1 (by rfl) T.b_int (by decide +kernel) (pa_cons (pe_op op_add (pe_op op_mul (pv 2) pe_int) pe_int) pa_nil)) pe_int))
        (pss_cons (ps_asg (pe_op op_mod (pe_callTy call_int1 (by rfl) T.b_int (by decide +kernel) (pa_cons (pe_op op_add (pe_op op_mul (pv 3) pe_int) pe_int) pa_nil)) pe_int) (pg_sub (pv 0) pe_int set_list))
        (pss_one (ps_ret (pe_op op_add (pe_op op_add (pe_op op_mul (pv 2) pe_int) (pe_op op_mul (pv 3) pe_int)) (pe_ix ix_list (pv 0) pe_int (fun _ _ => rfl)))))))) (fun D σ H1 h => by
          obtain ⟨ns1, n1, s1, e0, x1, hl1, o1, hlen, q1⟩ := h
          match σ, e0, hlen with
          | [_, y1, y2, y3, y4, y5], e0, _ =>
          cases e0
          refine ⟨_, rfl, b, _, 2, _, rfl, rfl, .of x1.hb, rfl, _, _, rfl, rfl, .inr ⟨by decide, by decide⟩, _, _, rfl, rfl, .inl ⟨_, rfl, _, _, rfl, rfl, (by show (0 : Int) < _; decide), ?_⟩⟩
          refine ⟨_, rfl, _, _, rfl, rfl, .inr ⟨by decide, by decide⟩, _, _, rfl, rfl, .inl ⟨_, rfl, _, _, rfl, rfl, (by show (0 : Int) < _; decide), ?_⟩⟩
          refine ⟨_, rfl, _, _, rfl, rfl, .inr ⟨by decide, by decide⟩, _, _, rfl, rfl, .inl ⟨_, rfl, _, _, rfl, rfl, (by show (0 : Int) < _; decide), ?_⟩⟩
          refine ⟨_, rfl, b, _, 2, 2, rfl, rfl, x1.hb, rfl, ?_⟩
          refine ⟨_, rfl, _, _, rfl, rfl, .inr ⟨by decide, by decide⟩, _, rfl, _, _, rfl, rfl, .inr ⟨by decide, by decide⟩, _, _, rfl, rfl, _, rfl, b, _, 2, _, rfl, rfl, .of upd_same, rfl, _, _, rfl, rfl, ?_⟩
          exact q1 _ _ _ _ _ hl1 x1.setB (o1.trans .upd1)))), ?_⟩
    -- cells = box[0]; if len(cells) > 0
    refine ⟨_, rfl, b, _, 0, _, rfl, rfl, .of x.hb, rfl, _, rfl, c, _, rfl, .inl (.of x.hc), _, _, rfl, rfl, _, rfl, ite2 (fun hpos => ?_) (fun _ => ?_)⟩
    · cases ns with
      | nil => exact absurd hpos (by decide)
      | cons i r =>
        refine ⟨_, rfl, .inl ⟨rfl, _, .of x.hc⟩, c, _, 0, 0, _, rfl, rfl, x.hc, by decide, by decide, (ixN_seq (show ixN (List.map V.int (i :: r)).length 0 = some 0 by simp [ixN])).1, rfl, .inl ⟨_, rfl, ?_⟩⟩
        have x1 : BxAt (upd H c (.lst (r.map V.int))) b c r n s := x.setC
        -- size
        refine ⟨_, rfl, _, _, rfl, rfl, _, rfl, ?_⟩
        refine ite2 (fun _ => ?_) (fun _ => ?_)
        · refine ⟨_, rfl, _, _, rfl, rfl, .inl ⟨by decide, by decide⟩, ?_⟩
          refine ⟨_, rfl, _, _, rfl, rfl, _, rfl, ite2 (fun _ => ?_) (fun _ => ?_)⟩
          · exact ⟨_, rfl, q _ _ _ _ _ (by simp) x1 .upd2⟩
          · refine ⟨_, rfl, b, _, 2, _, rfl, rfl, .of x1.hb, rfl, _, _, rfl, rfl, .inr ⟨by decide, by decide⟩, _, rfl, _, _, rfl, rfl, .inr ⟨by decide, by decide⟩, _, _, rfl, rfl, _, _, rfl, rfl, .inl ⟨_, rfl, _, _, rfl, rfl, (by show (0 : Int) < _; decide), ?_⟩⟩
            refine ⟨_, rfl, b, _, 2, 2, rfl, rfl, x1.hb, rfl, ?_⟩
            exact ⟨r, n, _, rfl, x1.setB, by simp, Only2.trans .upd2 .upd1, rfl, q⟩
        · refine ⟨_, rfl, _, rfl, _, _, rfl, rfl, .inl ⟨by decide, by decide⟩, _, _, rfl, rfl, ?_⟩
          refine ⟨_, rfl, _, _, rfl, rfl, _, rfl, ite2 (fun _ => ?_) (fun _ => ?_)⟩
          · exact ⟨_, rfl, q _ _ _ _ _ (by simp) x1 .upd2⟩
          · refine ⟨_, rfl, b, _, 2, _, rfl, rfl, .of x1.hb, rfl, _, _, rfl, rfl, .inr ⟨by decide, by decide⟩, _, rfl, _, _, rfl, rfl, .inr ⟨by decide, by decide⟩, _, _, rfl, rfl, _, _, rfl, rfl, .inl ⟨_, rfl, _, _, rfl, rfl, (by show (0 : Int) < _; decide), ?_⟩⟩
            refine ⟨_, rfl, b, _, 2, 2, rfl, rfl, x1.hb, rfl, ?_⟩
            exact ⟨r, n, _, rfl, x1.setB, by simp, Only2.trans .upd2 .upd1, rfl, q⟩
    · exact ⟨ns, n, s, rfl, x, Nat.le_refl _, .refl, rfl, q⟩⟩
theorem w_law_draw (T : Facts K mg) (d_law_load : Def P w K mg base "_law_load" ["box"] 1 spLoad) : Def P w K mg base "_law_draw" ["box", "many"] 2 (spX K 2 1 drawM) :=
 let ⟨f, fd, gF, F, b⟩ := T.f_law_draw
 ⟨f, fd, gF, F.kp, b, by
  obtain ⟨fl, fdl, gL, kL, bL, GL⟩ := d_law_load
  refine FnOk.imp (sp := spDraw0) ?_ (fun vs H Q E h => spDraw_of h)
  refine F.ok sc_law_draw (fun vs H Q E h => ?_) (fun cdv A outer s H vs Q E hr h => ?_)
  · obtain ⟨_, _, _, _, _, _, rfl, _⟩ := h; rfl
  · obtain ⟨b, c, ns, n, s, m, rfl, x, h0, h1, q⟩ := h
    refine ⟨_, pss_cons (ps_if (pt_cmpR op_lt (pe_ix ix_list (pv 0) pe_int (fun _ _ => rfl)) (pv 1) (nomark _)) (pss_one (ps_asg (pe_call GL hr (by rfl) gL kL bL .nil pass0 (pa_cons (pv 0) pa_nil)) (pg_sub (pv 0) pe_int set_list))) pss_nil)
      (PSs.wk (t' := fun D σ H1 => ∃ (ns1 : List Int) (n1 s1 : Int), σ = [some (.ref b), some (.int m), none] ∧ BxAt H1 b c ns1 n1 s1 ∧ ns1.length ≤ ns.length ∧ Only2 b c H H1 ∧ ∀ (r : Int) H' ns' n' s', 0 ≤ r → r < m → ns'.length ≤ ns.length → BxAt H' b c ns' n' s' → Only2 b c H H' → D.rt (.int r) H')
        (pss_cons (ps_set (i := 2) sc_law_draw.nd rfl (.inl rfl) (pe_op op_mod (pe_callTy call_int1 (by rfl) T.b_int (by decide +kernel) (pa_cons (pe_ix ix_list (pv 0) pe_int (fun _ _ => rfl)) pa_nil)) (pv 1)))
        (pss_cons (ps_asg (pe_op op_fdiv (pe_ix ix_list (pv 0) pe_int (fun _ _ => rfl)) (pv 1)) (pg_sub (pv 0) pe_int set_list))
        (pss_one (ps_ret (pv 2))))) (fun D σ H1 h => by
          obtain ⟨ns1, n1, s1, rfl, x1, hl1, o1, q1⟩ := h
          refine ⟨_, rfl, b, _, 1, _, rfl, rfl, .of x1.hb, rfl, .inl ⟨_, rfl, _, rfl, _, _, rfl, rfl, h0, ?_⟩⟩
          refine ⟨_, rfl, b, _, 1, _, rfl, rfl, .of x1.hb, rfl, _, rfl, _, _, rfl, rfl, ⟨h0, h1⟩, ?_⟩
          refine ⟨_, rfl, b, _, 1, 1, rfl, rfl, x1.hb, rfl, _, rfl, ?_⟩
          exact q1 _ _ _ _ _ (Int.emod_nonneg _ (by omega)) (Int.emod_lt_of_pos _ h0) hl1 x1.setB (o1.trans .upd1))), ?_⟩
    refine ⟨_, rfl, b, _, 1, _, rfl, rfl, .of x.hb, rfl, _, rfl, _, _, rfl, rfl, _, rfl, ite2 (fun _ => ?_) (fun _ => ?_)⟩
    · refine ⟨_, rfl, b, c, ns, n, s, rfl, x, fun r H' ns' n' s' hl' x' o' => ?_⟩
      refine ⟨_, rfl, b, _, 1, 1, rfl, rfl, x'.hb, rfl, ?_⟩
      exact ⟨ns', r, s', rfl, x'.setB, hl', o'.trans .upd1, q⟩
    · exact ⟨ns, n, s, rfl, x, Nat.le_refl _, .refl, q⟩⟩
theorem w_law_box (T : Facts K mg) : Def P w K mg base "_law_box" ["script"] 1 (spBox K) :=
 let ⟨f, fd, gF, F, b⟩ := T.f_law_box
 ⟨f, fd, gF, F.kp, b, by
  refine F.ok sc_law_box (fun vs H Q E h => ?_) (fun cdv A outer s H vs Q E hr h => ?_)
  · obtain ⟨_, _, rfl, _⟩ := h; rfl
  · obtain ⟨a, ns, rfl, hS, hl, q⟩ := h
    refine ⟨_, pss_one (ps_ret (pe_lst (pa_cons (pe_callTy call_list_of (by rfl) T.b_list (by decide +kernel) (pa_cons (pe_slice sl_list (pv 0) po_none (po_some pe_int)) pa_nil)) (pa_cons pe_int (pa_cons (pe_op op_add pe_int (pe_callB call_len_seq (by rfl) T.b_len PySem.boot_len (pa_cons (pv 0) pa_nil))) pa_nil))))), ?_⟩
    refine ⟨_, rfl, 63, rfl, a, _, rfl, hS, fun p np => ?_⟩
    have s1 : Same H (upd H p (.lst (cutV (ns.map V.int) none (some 63)))) := fun b u e => by rw [upd_ne (ne_of_none e np)]; exact e
    refine ⟨p, _, rfl, .inl (.of upd_same), fun c nc => ?_⟩
    have s2 : Same H (upd (upd H p (.lst (cutV (ns.map V.int) none (some 63)))) c (.lst (cutV (ns.map V.int) none (some 63)))) := s1.trans fun b u e => by rw [upd_ne (ne_of_none e nc)]; exact e
    refine ⟨.ref a, rfl, a, _, rfl, .inl (s2.seq hS), _, _, rfl, rfl, (show 3 ≤ sizeLine by decide), fun bb nb => ?_⟩
    have e1 : cutV (ns.map V.int) none (some 63) = (ns.take 63).map V.int := by
      unfold cutV
      rw [HT.sIx_none, show HT.sIx (ns.map V.int).length (ns.map V.int).length (some 63) = min 63 (ns.map V.int).length from HT.sIx_nat _ _ 63]
      rw [List.length_map, Nat.min_eq_right (by omega)]
      simp
      omega
    have nH : ∀ q : Addr, (upd (upd H p (.lst (cutV (ns.map V.int) none (some 63)))) c (.lst (cutV (ns.map V.int) none (some 63)))) q = none → H q = none := fun q e => by
      cases z : H q with
      | none => rfl
      | some o => rw [s2 q o z] at e; cases e
    have n1 : H c = none := by
      cases z : H c with
      | none => rfl
      | some o => rw [s1 c o z] at nc; cases nc
    have ne : bb ≠ c := fun e => by rw [e, upd_same] at nb; cases nb
    refine q bb c _ (ns.take 63) 0 _ (s2.trans fun b u e => by rw [upd_ne (ne_of_none e nb)]; exact e) (nH bb nb) n1 ⟨ne, upd_same, ?_⟩ (by rw [List.length_take]; omega)
    rw [upd_ne ne.symm, upd_same, e1]⟩

def g_is_number : List Sl → R Out := (retM (andV (m1 (nDR 0) (isiR isInt)) (andV (notV (m1 (nDR 0) (isiR isBoo))) (chain ok leR leR (nDR 1) (nDR 0) (nDR 2)))))
def m_is_number : List D → R D := fnM 3 g_is_number

theorem w_is_number (T : Facts K mg) : Def P w K mg base "is_number" ["value", "least", "most"] 1 (spR K 3 m_is_number) :=
 let ⟨f, fd, gF, F, b⟩ := T.f_is_number
 ⟨f, fd, gF, F.kp, b, fn_ok F sc_is_number fun cdv A outer s H E hr =>
 (sOne (sRet (pb (andP (isiInt T.b_isinstance T.b_int (pb (nD 0))) (andP (notVP (pb (isiBoo T.b_isinstance T.b_bool (pb (nD 0))))) (v1 (cmp2 (qLe hr.units) (qLe hr.units) (pb (nD 1)) (pb (nD 0)) (pb (nD 2)))))))))⟩

def g_is_ascending : List Sl → R Out := (retM (m1 (consR (frz (lcM [1] (m1 (consR (m2 (m1 (consR (nDR 0) nilR) lenR) (kR (.int 1)) subR) nilR) range1R) (gSet 1) yesT (m2 (m2 (nDR 0) (nDR 1) ixR) (m2 (nDR 0) (m2 (nDR 1) (kR (.int 1)) addR) ixR) ltR))) nilR) allR))
def m_is_ascending : List D → R D := fnM 2 g_is_ascending

theorem w_is_ascending (T : Facts K mg) : Def P w K mg base "is_ascending" ["rows"] 1 (spR K 1 m_is_ascending) :=
 let ⟨f, fd, gF, F, b⟩ := T.f_is_ascending
 ⟨f, fd, gF, F.kp, b, fn_ok F sc_is_ascending fun cdv A outer s H E hr =>
 (sOne (sRet (pb (cal (kAll rfl) T.b_all (aC (pb (pf (lc (own := [("k", 1)]) sc_is_ascending.nd (by show blkC n_is_ascending (defScope s_is_ascending) _ _ = true; decide +kernel) (iW (iR1 T.b_range (aC (pb (oSub (pb (cal kLen T.b_len (aC (pb (nD 0)) aN))) (pb cI))) aN))) (fun _ _ _ _ _ => (gN 1 sc_is_ascending.nd)) (fun _ _ _ _ _ => tN) (fun _ _ _ _ _ => (cmp (qLt hr.units) (pb (ix (pb (nD 0)) (pb (nD 1)))) (pb (ix (pb (nD 0)) (pb (oAdd (pb (nD 1)) (pb cI)))))))))) aN)))))⟩

def g_is_weight : List Sl → R Out := (retM (m1 (consR (nDR 0) (consR (kR (.int 1)) (consR (kR (.int 1000)) nilR))) (callR 3 m_is_number)))
def m_is_weight : List D → R D := fnM 1 g_is_weight

theorem w_is_weight (T : Facts K mg) (d_is_number : Def P w K mg base "is_number" ["value", "least", "most"] 1 (spR K 3 m_is_number)) : Def P w K mg base "is_weight" ["value"] 2 (spR K 1 m_is_weight) :=
 let ⟨f, fd, gF, F, b⟩ := T.f_is_weight
 ⟨f, fd, gF, F.kp, b, fn_ok F sc_is_weight fun cdv A outer s H E hr =>
 (sOne (sRet (pb (callD d_is_number (hr.mono (by omega)) (fC (nD 0) (fC cI (fC (gcI T.c_MOST_WEIGHT) fN)))))))⟩

def g_is_hook : List Sl → R Out := (seqM (ifV (orT (notT (m1 (m1 (nDR 0) (isiR isTup)) truR)) (orT (m1 (m2 (m1 (consR (nDR 0) nilR) lenR) (kR (.int 2)) neR) asB) (notT (m1 (m1 (consR (m2 (nDR 0) (kR (.int 0)) ixR) (consR (m1 (kR (.int 50)) negR) (consR (kR (.int 50)) nilR))) (callR 3 m_is_number)) truR)))) (retM (kR (.bool false))) nilM)
 (retM (orV (m1 (m2 (nDR 0) (kR (.int 1)) ixR) (isiR isTup)) (m1 (consR (m2 (nDR 0) (kR (.int 1)) ixR) nilR) (callR 1 m_is_weight)))))
def m_is_hook : List D → R D := fnM 1 g_is_hook

theorem w_is_hook (T : Facts K mg) (d_is_number : Def P w K mg base "is_number" ["value", "least", "most"] 1 (spR K 3 m_is_number)) (d_is_weight : Def P w K mg base "is_weight" ["value"] 2 (spR K 1 m_is_weight)) : Def P w K mg base "is_hook" ["value"] 3 (spR K 1 m_is_hook) :=
 let ⟨f, fd, gF, F, b⟩ := T.f_is_hook
 ⟨f, fd, gF, F.kp, b, fn_ok F sc_is_hook fun cdv A outer s H E hr =>
 (sCons (sIf (PW.pt (orW (notP (tst (pb (isiTup T.b_isinstance T.b_tuple (pb (nD 0)))))) (orW (cmpT (qNe hr.units) (pb (cal kLen T.b_len (aC (pb (nD 0)) aN))) (pb cI)) (or1 (notP (tst (pb (callD d_is_number (hr.mono (by omega)) (fC (ix (pb (nD 0)) (pb cI)) (fC (oNeg (pb (gcI T.c_FARTHEST))) (fC (gcI T.c_FARTHEST) fN))))))))))) (sOne (sRet (pb cT))) sNil)
 (sOne (sRet (pb (orP (isiTup T.b_isinstance T.b_tuple (pb (ix (pb (nD 0)) (pb cI)))) (v1 (callD d_is_weight (hr.mono (by omega)) (fC (ix (pb (nD 0)) (pb cI)) fN))))))))⟩

def g_is_bare_rod : List Sl → R Out := (seqM (ifV (orT (notT (m1 (m1 (nDR 0) (isiR isTup)) truR)) (orT (notT (m1 (chain ok leR leR (kR (.int 1)) (m1 (consR (nDR 0) nilR) lenR) (kR (.int 6))) asB)) (notT (m1 (m1 (consR (frz (lcM [3] (itR (nDR 0)) (gSet 3) yesT (m1 (consR (nDR 3) nilR) (callR 1 m_is_hook)))) nilR) allR) truR)))) (retM (kR (.bool false))) nilM)
 (retM (m1 (consR (frz (lcM [1, 2] (itR (nDR 0)) (gTupR 2 (gConsR (gSet 1) (gConsR (gSet 2) gNilR))) yesT (nDR 1))) nilR) (callR 1 m_is_ascending))))
def m_is_bare_rod : List D → R D := fnM 4 g_is_bare_rod

theorem w_is_bare_rod (T : Facts K mg) (d_is_hook : Def P w K mg base "is_hook" ["value"] 3 (spR K 1 m_is_hook)) (d_is_ascending : Def P w K mg base "is_ascending" ["rows"] 1 (spR K 1 m_is_ascending)) : Def P w K mg base "is_bare_rod" ["value"] 4 (spR K 1 m_is_bare_rod) :=
 let ⟨f, fd, gF, F, b⟩ := T.f_is_bare_rod
 ⟨f, fd, gF, F.kp, b, fn_ok F sc_is_bare_rod fun cdv A outer s H E hr =>
 (sCons (sIf (PW.pt (orW (notP (tst (pb (isiTup T.b_isinstance T.b_tuple (pb (nD 0)))))) (orW (notP (cmp2T (qLe hr.units) (qLe hr.units) (pb cI) (pb (cal kLen T.b_len (aC (pb (nD 0)) aN))) (pb (gcI T.c_MOST_HOOKS)))) (or1 (notP (tst (pb (cal (kAll rfl) T.b_all (aC (pb (pf (lc (own := [("hook", 3)]) sc_is_bare_rod.nd (by show blkC n_is_bare_rod (defScope s_is_bare_rod) _ _ = true; decide +kernel) (iB (pb (nD 0))) (fun _ _ _ _ _ => (gN 3 sc_is_bare_rod.nd)) (fun _ _ _ _ _ => tN) (fun _ _ _ _ _ => (callD d_is_hook (hr.mono (by omega)) (fC (nD 3) fN)))))) aN))))))))) (sOne (sRet (pb cT))) sNil)
 (sOne (sRet (pb (callD d_is_ascending (hr.mono (by omega)) (fC (pf (lc (own := [("place", 1), ("_", 2)]) sc_is_bare_rod.nd (by show blkC n_is_bare_rod (defScope s_is_bare_rod) _ _ = true; decide +kernel) (iB (pb (nD 0))) (fun _ _ _ _ _ => (gT (gsC (gN 1 sc_is_bare_rod.nd) (gsC (gN 2 sc_is_bare_rod.nd) gsN)))) (fun _ _ _ _ _ => tN) (fun _ _ _ _ _ => (nD 1)))) fN))))))⟩

def g_is_mobile : List Sl → R Out := (seqM (setsM [1, 2] (consR (rD (frz (m1 (consR (nDR 0) nilR) lstR))) (consR (rD (kR (.int 0))) nilR)))
 (seqM (forM (m1 (consR (m2 (kR (.int 12)) (kR (.int 1)) addR) nilR) range1R) (gSet 3) (seqM (augM 2 (m1 (consR (frz (lcM [5] (itR (nDR 1)) (gSet 5) (m1 (m1 (consR (nDR 5) nilR) (callR 1 m_is_weight)) truR) (kR (.int 1)))) nilR) lenR) addIR)
 (seqM (setM 4 (frz (lcM [5] (itR (nDR 1)) (gSet 5) (notT (m1 (m1 (consR (nDR 5) nilR) (callR 1 m_is_weight)) truR)) (nDR 5))))
 (seqM (ifV (notT (m1 (m1 (consR (frz (lcM [6] (itR (nDR 4)) (gSet 6) yesT (m1 (consR (nDR 6) nilR) (callR 1 m_is_bare_rod)))) nilR) allR) truR)) (retM (kR (.bool false))) nilM)
 (seqM (setM 1 (frz (lc2M [6, 3, 5] [3, 5] (itR (nDR 4)) (gSet 6) yesT (itR (nDR 6)) (gTupR 2 (gConsR (gSet 3) (gConsR (gSet 5) gNilR))) yesT (nDR 5))))
 (ifV (m1 (m2 (m2 (nDR 2) (m1 (consR (nDR 1) nilR) lenR) addR) (kR (.int 60)) gtR) asB) (retM (kR (.bool false))) nilM))))))
 (retM (m2 (nDR 1) (frz (m1 nilR lstR)) eqR))))
def m_is_mobile : List D → R D := fnM 7 g_is_mobile

theorem w_is_mobile (T : Facts K mg) (d_is_weight : Def P w K mg base "is_weight" ["value"] 2 (spR K 1 m_is_weight)) (d_is_bare_rod : Def P w K mg base "is_bare_rod" ["value"] 4 (spR K 1 m_is_bare_rod)) : Def P w K mg base "is_mobile" ["value"] 5 (spR K 1 m_is_mobile) :=
 let ⟨f, fd, gF, F, b⟩ := T.f_is_mobile
 ⟨f, fd, gF, F.kp, b, fn_ok F sc_is_mobile fun cdv A outer s H E hr =>
 (sCons (sPar2 1 2 sc_is_mobile.nd (mD (pf (lst (fC (nD 0) fN))) (mD cI mN)))
 (sCons (sFor nvr (iR1 T.b_range (aC (pb (oAdd (pb (gcI T.c_MOST_DEEP)) (pb cI))) aN)) (gN 3 sc_is_mobile.nd) (sCons (sAugAdd 2 sc_is_mobile.nd (pb (cal kLen T.b_len (aC (pb (pf (lc (own := [("part", 5)]) sc_is_mobile.nd (by show blkC n_is_mobile (defScope s_is_mobile) _ _ = true; decide +kernel) (iB (pb (nD 1))) (fun _ _ _ _ _ => (gN 5 sc_is_mobile.nd)) (fun _ _ _ _ _ => (tO1 (tst (pb (callD d_is_weight (hr.mono (by omega)) (fC (nD 5) fN)))))) (fun _ _ _ _ _ => cI)))) aN))))
 (sCons (sLcD 4 (own := [("part", 5)]) sc_is_mobile.nd (by show blkC n_is_mobile (defScope s_is_mobile) _ _ = true; decide +kernel) (iB (pb (nD 1))) (fun _ _ _ _ _ => (gN 5 sc_is_mobile.nd)) (fun _ _ _ _ _ => (tO1 (notP (tst (pb (callD d_is_weight (hr.mono (by omega)) (fC (nD 5) fN))))))) (fun _ _ _ _ _ => (nD 5)) (sw_true rfl rfl rfl (by decide +kernel)))
 (sCons (sIf (notP (tst (pb (cal (kAll rfl) T.b_all (aC (pb (pf (lc (own := [("rod", 6)]) sc_is_mobile.nd (by show blkC n_is_mobile (defScope s_is_mobile) _ _ = true; decide +kernel) (iB (pb (nD 4))) (fun _ _ _ _ _ => (gN 6 sc_is_mobile.nd)) (fun _ _ _ _ _ => tN) (fun _ _ _ _ _ => (callD d_is_bare_rod (hr.mono (by omega)) (fC (nD 6) fN)))))) aN))))) (sOne (sRet (pb cT))) sNil)
 (sCons (sLcD2 1 (own := [("rod", 6), ("_", 3), ("part", 5)]) (vs1 := [3, 5]) sc_is_mobile.nd (by show blkC n_is_mobile (defScope s_is_mobile) _ _ = true; decide +kernel) (iB (pb (nD 4))) (fun _ _ _ _ _ => (gN 6 sc_is_mobile.nd)) (fun _ _ _ _ _ => tN) (fun _ _ _ _ _ => (iS (nD 6))) (fun _ _ _ _ _ => (gT (gsC (gN 3 sc_is_mobile.nd) (gsC (gN 5 sc_is_mobile.nd) gsN)))) (fun _ _ _ _ _ => tN) (fun _ _ _ _ _ => (nD 5)) (sw_true rfl rfl rfl (by decide +kernel)))
 (sOne (sIf (cmpT (qGt hr.units) (pb (oAdd (pb (nD 2)) (pb (cal kLen T.b_len (aC (pb (nD 1)) aN))))) (pb (gcI T.c_MOST_WEIGHTS))) (sOne (sRet (pb cT))) sNil)))))))
 (sOne (sRet (pb (cmp (qEq hr.units) (pb (nD 1)) (pb (pf (lst fN)))))))))⟩

def g_is_rod : List Sl → R Out := (retM (m1 (nDR 0) (isiR isTup)))
def m_is_rod : List D → R D := fnM 1 g_is_rod

theorem w_is_rod (T : Facts K mg) : Def P w K mg base "is_rod" ["mobile"] 1 (spR K 1 m_is_rod) :=
 let ⟨f, fd, gF, F, b⟩ := T.f_is_rod
 ⟨f, fd, gF, F.kp, b, fn_ok F sc_is_rod fun cdv A outer s H E hr =>
 (sOne (sRet (pb (isiTup T.b_isinstance T.b_tuple (pb (nD 0))))))⟩

def g_all_paths : List Sl → R Out := (seqM (setsM [1, 2] (consR (rO (m1 nilR lstR)) (consR (rD (frz (m1 (consR (m1 (consR (m1 nilR tupR) (consR (nDR 0) nilR)) tupR) nilR) lstR))) nilR)))
 (seqM (whileM (m1 (nDR 2) truR) (seqM (mutM 1 (consR (frz (lcM [4, 9] (itR (nDR 2)) (gTupR 2 (gConsR (gSet 4) (gConsR (gSet 9) gNilR))) yesT (nDR 4))) nilR) extAR)
 (seqM (setM 3 (frz (lcM [4, 5] (itR (nDR 2)) (gTupR 2 (gConsR (gSet 4) (gConsR (gSet 5) gNilR))) (m1 (m1 (consR (nDR 5) nilR) (callR 1 m_is_rod)) truR) (m1 (consR (nDR 4) (consR (nDR 5) nilR)) tupR))))
 (setM 2 (frz (lc2M [4, 6, 7, 8] [7, 8] (itR (nDR 3)) (gTupR 2 (gConsR (gSet 4) (gConsR (gSet 6) gNilR))) yesT (m1 (consR (nDR 6) nilR) enumAR) (gTupR 2 (gConsR (gSet 7) (gConsR (gSet 8) gNilR))) yesT (m1 (consR (m2 (nDR 4) (m1 (consR (nDR 7) nilR) tupR) addR) (consR (m2 (nDR 8) (kR (.int 1)) ixR) nilR)) tupR)))))))
 (retM (m1 (consR (frz (m1 (consR (nBR 1) nilR) sortedR)) nilR) tupOfR))))
def m_all_paths : List D → R D := fnM 10 g_all_paths

theorem w_all_paths (T : Facts K mg) (d_is_rod : Def P w K mg base "is_rod" ["mobile"] 1 (spR K 1 m_is_rod)) : Def P w K mg base "all_paths" ["mobile"] 2 (spR K 1 m_all_paths) :=
 let ⟨f, fd, gF, F, b⟩ := T.f_all_paths
 ⟨f, fd, gF, F.kp, b, fn_ok F sc_all_paths fun cdv A outer s H E hr =>
 (sCons (sPar2 1 2 sc_all_paths.nd (mO (lst fN) (mD (pf (lst (fC (tup (fC (tup fN) (fC (nD 0) fN))) fN))) mN)))
 (sCons (sWhile nvr (tst (pb (nD 2))) (sCons (sMutB mut_extA (pe_bm PySem.F.plainAttrs_list PySem.F.slot_list_extend PySem.F.type_list_extend mt_extendA (pv 1) (aC (pb (pf (lc (own := [("path", 4), ("_", 9)]) sc_all_paths.nd (by show blkC n_all_paths (defScope s_all_paths) _ _ = true; decide +kernel) (iB (pb (nD 2))) (fun _ _ _ _ _ => (gT (gsC (gN 4 sc_all_paths.nd) (gsC (gN 9 sc_all_paths.nd) gsN)))) (fun _ _ _ _ _ => tN) (fun _ _ _ _ _ => (nD 4))))) aN)))
 (sCons (sLcD 3 (own := [("path", 4), ("part", 5)]) sc_all_paths.nd (by show blkC n_all_paths (defScope s_all_paths) _ _ = true; decide +kernel) (iB (pb (nD 2))) (fun _ _ _ _ _ => (gT (gsC (gN 4 sc_all_paths.nd) (gsC (gN 5 sc_all_paths.nd) gsN)))) (fun _ _ _ _ _ => (tO1 (tst (pb (callD d_is_rod (hr.mono (by omega)) (fC (nD 5) fN)))))) (fun _ _ _ _ _ => (tup (fC (nD 4) (fC (nD 5) fN)))) (sw_true rfl rfl rfl (by decide +kernel)))
 (sOne (sLcD2 2 (own := [("path", 4), ("rod", 6), ("k", 7), ("hook", 8)]) (vs1 := [7, 8]) sc_all_paths.nd (by show blkC n_all_paths (defScope s_all_paths) _ _ = true; decide +kernel) (iB (pb (nD 3))) (fun _ _ _ _ _ => (gT (gsC (gN 4 sc_all_paths.nd) (gsC (gN 6 sc_all_paths.nd) gsN)))) (fun _ _ _ _ _ => tN) (fun _ _ _ _ _ => (iEA T.b_enumerate (fC (nD 6) fN))) (fun _ _ _ _ _ => (gT (gsC (gN 7 sc_all_paths.nd) (gsC (gN 8 sc_all_paths.nd) gsN)))) (fun _ _ _ _ _ => tN) (fun _ _ _ _ _ => (tup (fC (oAdd (pb (nD 4)) (pb (tup (fC (nD 7) fN)))) (fC (ix (pb (nD 8)) (pb cI)) fN)))) (sw_true rfl rfl rfl (by decide +kernel)))))))
 (sOne (sRet (pb (calT kTup T.b_tuple (aC (pb (pf (calF (kSorted hr.units) T.b_sorted (aC (nB 1) aN)))) aN)))))))⟩

def g_part_at : List Sl → R Out := (seqM (forM (itR (nDR 1)) (gSet 2) (setM 0 (m2 (m2 (nDR 0) (nDR 2) ixR) (kR (.int 1)) ixR)))
 (retM (nDR 0)))
def m_part_at : List D → R D := fnM 3 g_part_at

theorem w_part_at (T : Facts K mg) : Def P w K mg base "part_at" ["mobile", "path"] 1 (spR K 2 m_part_at) :=
 let ⟨f, fd, gF, F, b⟩ := T.f_part_at
 ⟨f, fd, gF, F.kp, b, fn_ok F sc_part_at fun cdv A outer s H E hr =>
 (sCons (sFor nvr (iS (nD 1)) (gN 2 sc_part_at.nd) (sOne (sSet 0 sc_part_at.nd (ix (pb (ix (pb (nD 0)) (pb (nD 2)))) (pb cI)))))
 (sOne (sRet (pb (nD 0)))))⟩

def g_with_part : List Sl → R Out := (seqM (setO 3 (m1 (consR (nDR 0) nilR) lstR))
 (seqM (forM (itR (nDR 1)) (gSet 4) (mutM 3 (consR (m2 (m2 (m2 (nBR 3) (m1 (kR (.int 1)) negR) ixR) (nDR 4) ixR) (kR (.int 1)) ixR) nilR) appR))
 (seqM (forM (itR (m1 (frz (m1 (consR (nDR 1) (consR (nBR 3) nilR)) zip2R)) revR)) (gTupR 2 (gConsR (gSet 4) (gConsR (gSet 5) gNilR))) (setM 2 (m2 (m2 (m3 (nDR 5) noR (m1 (nDR 4) asI) slR) (m1 (consR (m1 (consR (m2 (m2 (nDR 5) (nDR 4) ixR) (kR (.int 0)) ixR) (consR (nDR 2) nilR)) tupR) nilR) tupR) addR) (m3 (nDR 5) (m1 (m2 (nDR 4) (kR (.int 1)) addR) asI) noR slR) addR)))
 (retM (nDR 2)))))
def m_with_part : List D → R D := fnM 6 g_with_part

theorem w_with_part (T : Facts K mg) : Def P w K mg base "with_part" ["mobile", "path", "part"] 1 (spR K 3 m_with_part) :=
 let ⟨f, fd, gF, F, b⟩ := T.f_with_part
 ⟨f, fd, gF, F.kp, b, fn_ok F sc_with_part fun cdv A outer s H E hr =>
 (sCons (sSetO 3 sc_with_part.nd (lst (fC (nD 0) fN)))
 (sCons (sFor nvr (iS (nD 1)) (gN 4 sc_with_part.nd) (sOne (sMut mut_app (pe_bm PySem.F.plainAttrs_list PySem.F.slot_list_append PySem.F.type_list_append mt_append (pv 3) (fC (ix (pb (ix (pb (ix (nB 3) (pb (oNeg (pb cI))))) (pb (nD 4)))) (pb cI)) fN)))))
 (sCons (sFor nvr (iS (revP (pb (pf (lstZ2 T.b_list T.b_zip (aC (pb (nD 1)) (aC (nB 3) aN))))))) (gT (gsC (gN 4 sc_with_part.nd) (gsC (gN 5 sc_with_part.nd) gsN))) (sOne (sSet 2 sc_with_part.nd (oAdd (pb (oAdd (pb (sl (pb (nD 5)) sN (sE (pb (nD 4))))) (pb (tup (fC (tup (fC (ix (pb (ix (pb (nD 5)) (pb (nD 4)))) (pb cI)) (fC (nD 2) fN))) fN))))) (pb (sl (pb (nD 5)) (sE (pb (oAdd (pb (nD 4)) (pb cI)))) sN))))))
 (sOne (sRet (pb (nD 2)))))))⟩

def g_rods_of : List Sl → R Out := (retM (m1 (consR (frz (lcM [1] (itR (m1 (consR (nDR 0) nilR) (callR 1 m_all_paths))) (gSet 1) (m1 (m1 (consR (m1 (consR (nDR 0) (consR (nDR 1) nilR)) (callR 2 m_part_at)) nilR) (callR 1 m_is_rod)) truR) (nDR 1))) nilR) tupOfR))
def m_rods_of : List D → R D := fnM 2 g_rods_of

theorem w_rods_of (T : Facts K mg) (d_all_paths : Def P w K mg base "all_paths" ["mobile"] 2 (spR K 1 m_all_paths)) (d_is_rod : Def P w K mg base "is_rod" ["mobile"] 1 (spR K 1 m_is_rod)) (d_part_at : Def P w K mg base "part_at" ["mobile", "path"] 1 (spR K 2 m_part_at)) : Def P w K mg base "rods_of" ["mobile"] 3 (spR K 1 m_rods_of) :=
 let ⟨f, fd, gF, F, b⟩ := T.f_rods_of
 ⟨f, fd, gF, F.kp, b, fn_ok F sc_rods_of fun cdv A outer s H E hr =>
 (sOne (sRet (pb (calT kTup T.b_tuple (aC (pb (pf (lc (own := [("path", 1)]) sc_rods_of.nd (by show blkC n_rods_of (defScope s_rods_of) _ _ = true; decide +kernel) (iB (pb (callD d_all_paths (hr.mono (by omega)) (fC (nD 0) fN)))) (fun _ _ _ _ _ => (gN 1 sc_rods_of.nd)) (fun _ _ _ _ _ => (tO1 (tst (pb (callD d_is_rod (hr.mono (by omega)) (fC (callD d_part_at (hr.mono (by omega)) (fC (nD 0) (fC (nD 1) fN))) fN)))))) (fun _ _ _ _ _ => (nD 1))))) aN)))))⟩

def g_weights_of : List Sl → R Out := (seqM (setM 1 (frz (lcM [2] (itR (m1 (consR (nDR 0) nilR) (callR 1 m_all_paths))) (gSet 2) yesT (m1 (consR (nDR 2) (consR (m1 (consR (nDR 0) (consR (nDR 2) nilR)) (callR 2 m_part_at)) nilR)) tupR))))
 (retM (m1 (consR (frz (lcM [2, 3] (itR (nDR 1)) (gTupR 2 (gConsR (gSet 2) (gConsR (gSet 3) gNilR))) (notT (m1 (m1 (consR (nDR 3) nilR) (callR 1 m_is_rod)) truR)) (m1 (consR (nDR 2) (consR (nDR 3) nilR)) tupR))) nilR) tupOfR)))
def m_weights_of : List D → R D := fnM 4 g_weights_of

theorem w_weights_of (T : Facts K mg) (d_all_paths : Def P w K mg base "all_paths" ["mobile"] 2 (spR K 1 m_all_paths)) (d_part_at : Def P w K mg base "part_at" ["mobile", "path"] 1 (spR K 2 m_part_at)) (d_is_rod : Def P w K mg base "is_rod" ["mobile"] 1 (spR K 1 m_is_rod)) : Def P w K mg base "weights_of" ["mobile"] 3 (spR K 1 m_weights_of) :=
 let ⟨f, fd, gF, F, b⟩ := T.f_weights_of
 ⟨f, fd, gF, F.kp, b, fn_ok F sc_weights_of fun cdv A outer s H E hr =>
 (sCons (sLcD 1 (own := [("path", 2)]) sc_weights_of.nd (by show blkC n_weights_of (defScope s_weights_of) _ _ = true; decide +kernel) (iB (pb (callD d_all_paths (hr.mono (by omega)) (fC (nD 0) fN)))) (fun _ _ _ _ _ => (gN 2 sc_weights_of.nd)) (fun _ _ _ _ _ => tN) (fun _ _ _ _ _ => (tup (fC (nD 2) (fC (callD d_part_at (hr.mono (by omega)) (fC (nD 0) (fC (nD 2) fN))) fN)))) (sw_true rfl rfl rfl (by decide +kernel)))
 (sOne (sRet (pb (calT kTup T.b_tuple (aC (pb (pf (lc (own := [("path", 2), ("part", 3)]) sc_weights_of.nd (by show blkC n_weights_of (defScope s_weights_of) _ _ = true; decide +kernel) (iB (pb (nD 1))) (fun _ _ _ _ _ => (gT (gsC (gN 2 sc_weights_of.nd) (gsC (gN 3 sc_weights_of.nd) gsN)))) (fun _ _ _ _ _ => (tO1 (notP (tst (pb (callD d_is_rod (hr.mono (by omega)) (fC (nD 3) fN))))))) (fun _ _ _ _ _ => (tup (fC (nD 2) (fC (nD 3) fN))))))) aN))))))⟩

def g_total : List Sl → R Out := (retM (m1 (consR (frz (lcM [1, 2] (itR (m1 (consR (nDR 0) nilR) (callR 1 m_weights_of))) (gTupR 2 (gConsR (gSet 1) (gConsR (gSet 2) gNilR))) yesT (nDR 2))) nilR) sumR))
def m_total : List D → R D := fnM 3 g_total

theorem w_total (T : Facts K mg) (d_weights_of : Def P w K mg base "weights_of" ["mobile"] 3 (spR K 1 m_weights_of)) : Def P w K mg base "total" ["mobile"] 4 (spR K 1 m_total) :=
 let ⟨f, fd, gF, F, b⟩ := T.f_total
 ⟨f, fd, gF, F.kp, b, fn_ok F sc_total fun cdv A outer s H E hr =>
 (sOne (sRet (pb (cal (kSum rfl) T.b_sum (aC (pb (pf (lc (own := [("_", 1), ("weight", 2)]) sc_total.nd (by show blkC n_total (defScope s_total) _ _ = true; decide +kernel) (iB (pb (callD d_weights_of (hr.mono (by omega)) (fC (nD 0) fN)))) (fun _ _ _ _ _ => (gT (gsC (gN 1 sc_total.nd) (gsC (gN 2 sc_total.nd) gsN)))) (fun _ _ _ _ _ => tN) (fun _ _ _ _ _ => (nD 2))))) aN)))))⟩

def g_moment_of : List Sl → R Out := (retM (m1 (consR (frz (lcM [1, 2] (itR (nDR 0)) (gTupR 2 (gConsR (gSet 1) (gConsR (gSet 2) gNilR))) yesT (m2 (nDR 1) (m1 (consR (nDR 2) nilR) (callR 1 m_total)) mulR))) nilR) sumR))
def m_moment_of : List D → R D := fnM 3 g_moment_of

theorem w_moment_of (T : Facts K mg) (d_total : Def P w K mg base "total" ["mobile"] 4 (spR K 1 m_total)) : Def P w K mg base "moment_of" ["rod"] 5 (spR K 1 m_moment_of) :=
 let ⟨f, fd, gF, F, b⟩ := T.f_moment_of
 ⟨f, fd, gF, F.kp, b, fn_ok F sc_moment_of fun cdv A outer s H E hr =>
 (sOne (sRet (pb (cal (kSum rfl) T.b_sum (aC (pb (pf (lc (own := [("place", 1), ("part", 2)]) sc_moment_of.nd (by show blkC n_moment_of (defScope s_moment_of) _ _ = true; decide +kernel) (iB (pb (nD 0))) (fun _ _ _ _ _ => (gT (gsC (gN 1 sc_moment_of.nd) (gsC (gN 2 sc_moment_of.nd) gsN)))) (fun _ _ _ _ _ => tN) (fun _ _ _ _ _ => (oMul (pb (nD 1)) (pb (callD d_total (hr.mono (by omega)) (fC (nD 2) fN)))))))) aN)))))⟩

def g_tilted_rods : List Sl → R Out := (retM (m1 (consR (frz (lcM [1] (itR (m1 (consR (nDR 0) nilR) (callR 1 m_rods_of))) (gSet 1) (m1 (m2 (m1 (consR (m1 (consR (nDR 0) (consR (nDR 1) nilR)) (callR 2 m_part_at)) nilR) (callR 1 m_moment_of)) (kR (.int 0)) neR) asB) (nDR 1))) nilR) tupOfR))
def m_tilted_rods : List D → R D := fnM 2 g_tilted_rods

theorem w_tilted_rods (T : Facts K mg) (d_rods_of : Def P w K mg base "rods_of" ["mobile"] 3 (spR K 1 m_rods_of)) (d_moment_of : Def P w K mg base "moment_of" ["rod"] 5 (spR K 1 m_moment_of)) (d_part_at : Def P w K mg base "part_at" ["mobile", "path"] 1 (spR K 2 m_part_at)) : Def P w K mg base "tilted_rods" ["mobile"] 6 (spR K 1 m_tilted_rods) :=
 let ⟨f, fd, gF, F, b⟩ := T.f_tilted_rods
 ⟨f, fd, gF, F.kp, b, fn_ok F sc_tilted_rods fun cdv A outer s H E hr =>
 (sOne (sRet (pb (calT kTup T.b_tuple (aC (pb (pf (lc (own := [("path", 1)]) sc_tilted_rods.nd (by show blkC n_tilted_rods (defScope s_tilted_rods) _ _ = true; decide +kernel) (iB (pb (callD d_rods_of (hr.mono (by omega)) (fC (nD 0) fN)))) (fun _ _ _ _ _ => (gN 1 sc_tilted_rods.nd)) (fun _ _ _ _ _ => (tO1 (cmpT (qNe hr.units) (pb (callD d_moment_of (hr.mono (by omega)) (fC (callD d_part_at (hr.mono (by omega)) (fC (nD 0) (fC (nD 1) fN))) fN))) (pb cI)))) (fun _ _ _ _ _ => (nD 1))))) aN)))))⟩

def g_hangs_level : List Sl → R Out := (retM (m2 (m1 (consR (nDR 0) nilR) (callR 1 m_tilted_rods)) (m1 nilR tupR) eqR))
def m_hangs_level : List D → R D := fnM 1 g_hangs_level

theorem w_hangs_level (T : Facts K mg) (d_tilted_rods : Def P w K mg base "tilted_rods" ["mobile"] 6 (spR K 1 m_tilted_rods)) : Def P w K mg base "hangs_level" ["mobile"] 7 (spR K 1 m_hangs_level) :=
 let ⟨f, fd, gF, F, b⟩ := T.f_hangs_level
 ⟨f, fd, gF, F.kp, b, fn_ok F sc_hangs_level fun cdv A outer s H E hr =>
 (sOne (sRet (pb (cmp (qEq hr.units) (pb (callD d_tilted_rods (hr.mono (by omega)) (fC (nD 0) fN))) (pb (tup fN))))))⟩

def g_height_of : List Sl → R Out := (seqM (setM 1 (m1 (consR (nDR 0) nilR) (callR 1 m_rods_of)))
 (retM (ifV (m1 (nDR 1) truR) (m1 (consR (frz (lcM [2] (itR (nDR 1)) (gSet 2) yesT (m2 (m1 (consR (nDR 2) nilR) lenR) (kR (.int 1)) addR))) nilR) maxR) (kR (.int 0)))))
def m_height_of : List D → R D := fnM 3 g_height_of

theorem w_height_of (T : Facts K mg) (d_rods_of : Def P w K mg base "rods_of" ["mobile"] 3 (spR K 1 m_rods_of)) : Def P w K mg base "height_of" ["mobile"] 4 (spR K 1 m_height_of) :=
 let ⟨f, fd, gF, F, b⟩ := T.f_height_of
 ⟨f, fd, gF, F.kp, b, fn_ok F sc_height_of fun cdv A outer s H E hr =>
 (sCons (sSet 1 sc_height_of.nd (callD d_rods_of (hr.mono (by omega)) (fC (nD 0) fN)))
 (sOne (sRet (pb (ifP (tst (pb (nD 1))) (cal (kMax rfl hr.units) T.b_max (aC (pb (pf (lc (own := [("path", 2)]) sc_height_of.nd (by show blkC n_height_of (defScope s_height_of) _ _ = true; decide +kernel) (iB (pb (nD 1))) (fun _ _ _ _ _ => (gN 2 sc_height_of.nd)) (fun _ _ _ _ _ => tN) (fun _ _ _ _ _ => (oAdd (pb (cal kLen T.b_len (aC (pb (nD 2)) aN))) (pb cI)))))) aN)) cI)))))⟩

def g_turned_rod : List Sl → R Out := (retM (m1 (consR (frz (lcM [1, 2] (itR (m1 (nDR 0) revR)) (gTupR 2 (gConsR (gSet 1) (gConsR (gSet 2) gNilR))) yesT (m1 (consR (m1 (nDR 1) negR) (consR (nDR 2) nilR)) tupR))) nilR) tupOfR))
def m_turned_rod : List D → R D := fnM 3 g_turned_rod

theorem w_turned_rod (T : Facts K mg) : Def P w K mg base "turned_rod" ["rod"] 1 (spR K 1 m_turned_rod) :=
 let ⟨f, fd, gF, F, b⟩ := T.f_turned_rod
 ⟨f, fd, gF, F.kp, b, fn_ok F sc_turned_rod fun cdv A outer s H E hr =>
 (sOne (sRet (pb (calT kTup T.b_tuple (aC (pb (pf (lc (own := [("place", 1), ("part", 2)]) sc_turned_rod.nd (by show blkC n_turned_rod (defScope s_turned_rod) _ _ = true; decide +kernel) (iB (pb (revP (pb (nD 0))))) (fun _ _ _ _ _ => (gT (gsC (gN 1 sc_turned_rod.nd) (gsC (gN 2 sc_turned_rod.nd) gsN)))) (fun _ _ _ _ _ => tN) (fun _ _ _ _ _ => (tup (fC (oNeg (pb (nD 1))) (fC (nD 2) fN))))))) aN)))))⟩

def g_turned_at : List Sl → R Out := (retM (m1 (consR (nDR 0) (consR (nDR 1) (consR (m1 (consR (m1 (consR (nDR 0) (consR (nDR 1) nilR)) (callR 2 m_part_at)) nilR) (callR 1 m_turned_rod)) nilR))) (callR 3 m_with_part)))
def m_turned_at : List D → R D := fnM 2 g_turned_at

theorem w_turned_at (T : Facts K mg) (d_with_part : Def P w K mg base "with_part" ["mobile", "path", "part"] 1 (spR K 3 m_with_part)) (d_turned_rod : Def P w K mg base "turned_rod" ["rod"] 1 (spR K 1 m_turned_rod)) (d_part_at : Def P w K mg base "part_at" ["mobile", "path"] 1 (spR K 2 m_part_at)) : Def P w K mg base "turned_at" ["mobile", "path"] 2 (spR K 2 m_turned_at) :=
 let ⟨f, fd, gF, F, b⟩ := T.f_turned_at
 ⟨f, fd, gF, F.kp, b, fn_ok F sc_turned_at fun cdv A outer s H E hr =>
 (sOne (sRet (pb (callD d_with_part (hr.mono (by omega)) (fC (nD 0) (fC (nD 1) (fC (callD d_turned_rod (hr.mono (by omega)) (fC (callD d_part_at (hr.mono (by omega)) (fC (nD 0) (fC (nD 1) fN))) fN)) fN)))))))⟩

def g_turned : List Sl → R Out := (seqM (forM (itR (frz (m1 (m1 (consR (nDR 0) nilR) (callR 1 m_rods_of)) (sortKR kfNL)))) (gSet 1) (setM 0 (m1 (consR (nDR 0) (consR (nDR 1) nilR)) (callR 2 m_turned_at))))
 (retM (nDR 0)))
def m_turned : List D → R D := fnM 2 g_turned

theorem w_turned (T : Facts K mg) (L_turned : Mk K mg base "turned") (d_rods_of : Def P w K mg base "rods_of" ["mobile"] 3 (spR K 1 m_rods_of)) (d_turned_at : Def P w K mg base "turned_at" ["mobile", "path"] 2 (spR K 2 m_turned_at)) : Def P w K mg base "turned" ["mobile"] 4 (spR K 1 m_turned) :=
 let ⟨f, fd, gF, F, b⟩ := T.f_turned
 let ⟨cM, PM, hM⟩ := fun_code L_turned gF F
 ⟨f, fd, gF, F.kp, b, fn_okC F sc_turned fun cdv A outer s H E hc hr =>
 (sCons (sFor nvr (iS (pf (sortKF hr.units hr.depth (lam_NL (by exact ⟨fun _ _ _ _ _ _ _ => rfl, rfl, by decide, rfl, rfl, rfl⟩) rfl T.b_len) T.b_sorted hM.mem (pb (callD d_rods_of (hr.mono (by omega)) (fC (nD 0) fN))) (pe_lam hM.tb (hc.trans hM.cd) hM.mem hM.one)))) (gN 1 sc_turned.nd) (sOne (sSet 0 sc_turned.nd (callD d_turned_at (hr.mono (by omega)) (fC (nD 0) (fC (nD 1) fN))))))
 (sOne (sRet (pb (nD 0)))))⟩

def g_law_same (self : List D → R D) : List Sl → R Out := (seqM (ifV (orT (andT (m1 (m1 (nDR 0) (isiR isTup)) truR) (m1 (m1 (nDR 1) (isiR isTup)) truR)) (andT (m1 (m1 (nDR 0) (isiR isLst)) truR) (m1 (m1 (nDR 1) (isiR isLst)) truR))) (retM (andV (m2 (m1 (consR (nDR 0) nilR) lenR) (m1 (consR (nDR 1) nilR) lenR) eqR) (m1 (consR (frz (lcM [2] (m1 (consR (m1 (consR (nDR 0) nilR) lenR) nilR) range1R) (gSet 2) yesT (m1 (consR (m2 (nDR 0) (nDR 2) ixR) (consR (m2 (nDR 1) (nDR 2) ixR) nilR)) (callR 2 self)))) nilR) allR))) nilM)
 (seqM (ifV (orT (m1 (m1 (nDR 0) (isiR isBoo)) truR) (m1 (m1 (nDR 1) (isiR isBoo)) truR)) (retM (andV (m1 (nDR 0) (isiR isBoo)) (andV (m1 (nDR 1) (isiR isBoo)) (m2 (nDR 0) (nDR 1) eqR)))) nilM)
 (seqM (ifV (orT (andT (m1 (m1 (nDR 0) (isiR isInt)) truR) (m1 (m1 (nDR 1) (isiR isInt)) truR)) (andT (m1 (m1 (nDR 0) (isiR isStr)) truR) (m1 (m1 (nDR 1) (isiR isStr)) truR))) (retM (m2 (nDR 0) (nDR 1) eqR)) nilM)
 (retM (andV (m2 (nDR 0) (kR .none) isR) (m2 (nDR 1) (kR .none) isR))))))
def m_law_same : Nat → List D → R D
  | 0 => fun _ => fail
  | i + 1 => fnM 3 (g_law_same (m_law_same i))

theorem w_law_same (T : Facts K mg) : ∀ i, Def P w K mg base "_law_same" ["a", "b"] (0 + i) (spR K 2 (m_law_same i)) :=
 let ⟨f, fd, gF, F, b⟩ := T.f_law_same
 fun i => ⟨f, fd, gF, F.kp, b, fn_rec (m := m_law_same) (fun _ _ h => h) rfl (fun i IH => fn_ok F sc_law_same (fun cdv A outer s H E hr => have d_law_same : Def P w K mg base "_law_same" ["a", "b"] (0 + i) (spR K 2 (m_law_same i)) := ⟨f, fd, gF, F.kp, b, IH⟩
 (sCons (sIf (PW.pt (orW (PW.pt (andW (tst (pb (isiTup T.b_isinstance T.b_tuple (pb (nD 0))))) (and1 (tst (pb (isiTup T.b_isinstance T.b_tuple (pb (nD 1)))))))) (or1 (PW.pt (andW (tst (pb (isiLst T.b_isinstance T.b_list (pb (nD 0))))) (and1 (tst (pb (isiLst T.b_isinstance T.b_list (pb (nD 1))))))))))) (sOne (sRet (pb (andP (cmp (qEq hr.units) (pb (cal kLen T.b_len (aC (pb (nD 0)) aN))) (pb (cal kLen T.b_len (aC (pb (nD 1)) aN)))) (v1 (cal (kAll rfl) T.b_all (aC (pb (pf (lc (own := [("k", 2)]) sc_law_same.nd (by show blkC n_law_same (defScope s_law_same) _ _ = true; decide +kernel) (iW (iR1 T.b_range (aC (pb (cal kLen T.b_len (aC (pb (nD 0)) aN))) aN))) (fun _ _ _ _ _ => (gN 2 sc_law_same.nd)) (fun _ _ _ _ _ => tN) (fun _ _ _ _ _ => (callD d_law_same hr (fC (ix (pb (nD 0)) (pb (nD 2))) (fC (ix (pb (nD 1)) (pb (nD 2))) fN))))))) aN))))))) sNil)
 (sCons (sIf (PW.pt (orW (tst (pb (isiBoo T.b_isinstance T.b_bool (pb (nD 0))))) (or1 (tst (pb (isiBoo T.b_isinstance T.b_bool (pb (nD 1)))))))) (sOne (sRet (pb (andP (isiBoo T.b_isinstance T.b_bool (pb (nD 0))) (andP (isiBoo T.b_isinstance T.b_bool (pb (nD 1))) (v1 (cmp (qEq hr.units) (pb (nD 0)) (pb (nD 1))))))))) sNil)
 (sCons (sIf (PW.pt (orW (PW.pt (andW (tst (pb (isiInt T.b_isinstance T.b_int (pb (nD 0))))) (and1 (tst (pb (isiInt T.b_isinstance T.b_int (pb (nD 1)))))))) (or1 (PW.pt (andW (tst (pb (isiStr T.b_isinstance T.b_str (pb (nD 0))))) (and1 (tst (pb (isiStr T.b_isinstance T.b_str (pb (nD 1))))))))))) (sOne (sRet (pb (cmp (qEq hr.units) (pb (nD 0)) (pb (nD 1)))))) sNil)
 (sOne (sRet (pb (andP (cmp (qIs hr.units) (pb (nD 0)) (pb cN)) (v1 (cmp (qIs hr.units) (pb (nD 1)) (pb cN)))))))))))) i⟩

def g_law_mobile (self : List D → R D) : List Sl → R Out := (seqM (ifV (orT (m1 (m2 (nDR 1) (kR (.int 0)) eqR) asB) (m1 (m2 (callX 0 2 1 (consR (kR (.int 3)) nilR) m_law_draw) (kR (.int 0)) eqR) asB)) (retM (m2 (kR (.int 1)) (callX 0 2 1 (consR (kR (.int 9)) nilR) m_law_draw) addR)) nilM)
 (seqM (setM 2 (frz (m1 (frz (lcM [4] (m1 (consR (m2 (kR (.int 1)) (callX 0 2 1 (consR (kR (.int 3)) nilR) m_law_draw) addR) nilR) range1R) (gSet 4) yesT (m2 (callX 0 2 1 (consR (kR (.int 11)) nilR) m_law_draw) (kR (.int 5)) subR))) srtSetR)))
 (retM (m1 (consR (frz (lcM [3] (itR (nDR 2)) (gSet 3) yesT (m1 (consR (nDR 3) (consR (callX 0 2 1 (consR (m2 (nDR 1) (kR (.int 1)) subR) nilR) self) nilR)) tupR))) nilR) tupOfR))))
def m_law_mobile : Nat → List D → R D
  | 0 => fun _ => fail
  | i + 1 => fnX 2 5 (g_law_mobile (m_law_mobile i))

theorem w_law_mobile (T : Facts K mg) (d_law_draw : Def P w K mg base "_law_draw" ["box", "many"] 2 (spX K 2 1 m_law_draw)) : ∀ i, Def P w K mg base "_law_mobile" ["box", "deep"] (2 + i) (spX K 2 1 (m_law_mobile i)) :=
 let ⟨f, fd, gF, F, b⟩ := T.f_law_mobile
 fun i => ⟨f, fd, gF, F.kp, b, fn_recX (m := m_law_mobile) (fun _ _ h => h) rfl (fun i IH => fn_okX F sc_law_mobile (fun cdv A outer s H E hr => have d_law_mobile : Def P w K mg base "_law_mobile" ["box", "deep"] (2 + i) (spX K 2 1 (m_law_mobile i)) := ⟨f, fd, gF, F.kp, b, IH⟩
 (sCons (sIf (PW.pt (orW (cmpT (qEq hr.units) (pb (nD 1)) (pb cI)) (or1 (cmpT (qEq hr.units) (pb (callD_X 0 d_law_draw (hr.mono (by omega)) (fC cI fN))) (pb cI))))) (sOne (sRet (pb (oAdd (pb cI) (pb (callD_X 0 d_law_draw (hr.mono (by omega)) (fC cI fN))))))) sNil)
 (sCons (sSet 2 sc_law_mobile.nd (pf (srtSet rfl T.b_sorted T.b_set (pb (pf (lc (own := [("k", 4)]) sc_law_mobile.nd (by show blkC n_law_mobile (defScope s_law_mobile) _ _ = true; decide +kernel) (iW (iR1 T.b_range (aC (pb (oAdd (pb cI) (pb (callD_X 0 d_law_draw (hr.mono (by omega)) (fC cI fN))))) aN))) (fun _ _ _ _ _ => (gN 4 sc_law_mobile.nd)) (fun _ _ _ _ _ => tN) (fun _ _ _ _ _ => (oSub (pb (callD_X 0 d_law_draw (hr.mono (by omega)) (fC cI fN))) (pb cI)))))))))
 (sOne (sRet (pb (calT kTup T.b_tuple (aC (pb (pf (lc (own := [("place", 3)]) sc_law_mobile.nd (by show blkC n_law_mobile (defScope s_law_mobile) _ _ = true; decide +kernel) (iB (pb (nD 2))) (fun _ _ _ _ _ => (gN 3 sc_law_mobile.nd)) (fun _ _ _ _ _ => tN) (fun _ _ _ _ _ => (tup (fC (nD 3) (fC (callD_X 0 d_law_mobile hr (fC (oSub (pb (nD 1)) (pb cI)) fN)) fN))))))) aN))))))))) i⟩

def g_law_total (self : List D → R D) : List Sl → R Out := (retM (ifV (m1 (m1 (nDR 0) (isiR isTup)) truR) (m1 (consR (frz (lcM [1, 2] (itR (nDR 0)) (gTupR 2 (gConsR (gSet 1) (gConsR (gSet 2) gNilR))) yesT (m1 (consR (nDR 2) nilR) (callR 1 self)))) nilR) sumR) (nDR 0)))
def m_law_total : Nat → List D → R D
  | 0 => fun _ => fail
  | i + 1 => fnM 3 (g_law_total (m_law_total i))

theorem w_law_total (T : Facts K mg) : ∀ i, Def P w K mg base "_law_total" ["mobile"] (0 + i) (spR K 1 (m_law_total i)) :=
 let ⟨f, fd, gF, F, b⟩ := T.f_law_total
 fun i => ⟨f, fd, gF, F.kp, b, fn_rec (m := m_law_total) (fun _ _ h => h) rfl (fun i IH => fn_ok F sc_law_total (fun cdv A outer s H E hr => have d_law_total : Def P w K mg base "_law_total" ["mobile"] (0 + i) (spR K 1 (m_law_total i)) := ⟨f, fd, gF, F.kp, b, IH⟩
 (sOne (sRet (pb (ifP (tst (pb (isiTup T.b_isinstance T.b_tuple (pb (nD 0))))) (cal (kSum rfl) T.b_sum (aC (pb (pf (lc (own := [("place", 1), ("part", 2)]) sc_law_total.nd (by show blkC n_law_total (defScope s_law_total) _ _ = true; decide +kernel) (iB (pb (nD 0))) (fun _ _ _ _ _ => (gT (gsC (gN 1 sc_law_total.nd) (gsC (gN 2 sc_law_total.nd) gsN)))) (fun _ _ _ _ _ => tN) (fun _ _ _ _ _ => (callD d_law_total hr (fC (nD 2) fN)))))) aN)) (nD 0))))))) i⟩

def g_law_level (self : List D → R D) : List Sl → R Out := (seqM (ifV (orT (m1 (m2 (nDR 1) (kR (.int 0)) eqR) asB) (m1 (m2 (callX 0 2 1 (consR (kR (.int 3)) nilR) m_law_draw) (kR (.int 0)) eqR) asB)) (retM (m2 (kR (.int 1)) (callX 0 2 1 (consR (kR (.int 4)) nilR) m_law_draw) addR)) nilM)
 (seqM (setsM [2, 3] (consR (rD (callX 0 2 1 (consR (m2 (nDR 1) (kR (.int 1)) subR) nilR) self)) (consR (rD (callX 0 2 1 (consR (m2 (nDR 1) (kR (.int 1)) subR) nilR) self)) nilR)))
 (seqM (setsM [4, 5] (consR (rD (m1 (consR (nDR 2) nilR) (callR 1 (m_law_total 12)))) (consR (rD (m1 (consR (nDR 3) nilR) (callR 1 (m_law_total 12)))) nilR)))
 (seqM (setM 6 (m1 (consR (frz (lcM [7] (m1 (consR (kR (.int 1)) (consR (m2 (nDR 4) (kR (.int 1)) addR) nilR)) range2R) (gSet 7) (andT (m1 (m2 (m2 (nDR 4) (m2 (m2 (nDR 4) (nDR 7) fdivR) (nDR 7) mulR) subR) (kR (.int 0)) eqR) asB) (m1 (m2 (m2 (nDR 5) (m2 (m2 (nDR 5) (nDR 7) fdivR) (nDR 7) mulR) subR) (kR (.int 0)) eqR) asB)) (nDR 7))) nilR) maxR))
 (seqM (ifV (orT (m1 (m2 (m2 (nDR 4) (nDR 6) fdivR) (kR (.int 50)) gtR) asB) (m1 (m2 (m2 (nDR 5) (nDR 6) fdivR) (kR (.int 50)) gtR) asB)) (retM (kR (.int 5))) nilM)
 (retM (m1 (consR (m1 (consR (m1 (m2 (nDR 5) (nDR 6) fdivR) negR) (consR (nDR 2) nilR)) tupR) (consR (m1 (consR (m2 (nDR 4) (nDR 6) fdivR) (consR (nDR 3) nilR)) tupR) nilR)) tupR)))))))
def m_law_level : Nat → List D → R D
  | 0 => fun _ => fail
  | i + 1 => fnX 2 8 (g_law_level (m_law_level i))

theorem w_law_level (T : Facts K mg) (d_law_draw : Def P w K mg base "_law_draw" ["box", "many"] 2 (spX K 2 1 m_law_draw)) (d_law_total : ∀ i, Def P w K mg base "_law_total" ["mobile"] (0 + i) (spR K 1 (m_law_total i))) : ∀ i, Def P w K mg base "_law_level" ["box", "deep"] (13 + i) (spX K 2 1 (m_law_level i)) :=
 let ⟨f, fd, gF, F, b⟩ := T.f_law_level
 fun i => ⟨f, fd, gF, F.kp, b, fn_recX (m := m_law_level) (fun _ _ h => h) rfl (fun i IH => fn_okX F sc_law_level (fun cdv A outer s H E hr => have d_law_level : Def P w K mg base "_law_level" ["box", "deep"] (13 + i) (spX K 2 1 (m_law_level i)) := ⟨f, fd, gF, F.kp, b, IH⟩
 (sCons (sIf (PW.pt (orW (cmpT (qEq hr.units) (pb (nD 1)) (pb cI)) (or1 (cmpT (qEq hr.units) (pb (callD_X 0 d_law_draw (hr.mono (by omega)) (fC cI fN))) (pb cI))))) (sOne (sRet (pb (oAdd (pb cI) (pb (callD_X 0 d_law_draw (hr.mono (by omega)) (fC cI fN))))))) sNil)
 (sCons (sPar2 2 3 sc_law_level.nd (mD (callD_X 0 d_law_level hr (fC (oSub (pb (nD 1)) (pb cI)) fN)) (mD (callD_X 0 d_law_level hr (fC (oSub (pb (nD 1)) (pb cI)) fN)) mN)))
 (sCons (sTup (mgC 4 sc_law_level.nd (mgC 5 sc_law_level.nd mgN)) (mD (callD (d_law_total 12) (hr.mono (by omega)) (fC (nD 2) fN)) (mD (callD (d_law_total 12) (hr.mono (by omega)) (fC (nD 3) fN)) mN)))
 (sCons (sSet 6 sc_law_level.nd (cal (kMax rfl hr.units) T.b_max (aC (pb (pf (lc (own := [("k", 7)]) sc_law_level.nd (by show blkC n_law_level (defScope s_law_level) _ _ = true; decide +kernel) (iW (iR2 T.b_range (aC (pb cI) (aC (pb (oAdd (pb (nD 4)) (pb cI))) aN)))) (fun _ _ _ _ _ => (gN 7 sc_law_level.nd)) (fun _ _ _ _ _ => (tO1 (PW.pt (andW (cmpT (qEq hr.units) (pb (oSub (pb (nD 4)) (pb (oMul (pb (oFdiv (pb (nD 4)) (pb (nD 7)))) (pb (nD 7)))))) (pb cI)) (and1 (cmpT (qEq hr.units) (pb (oSub (pb (nD 5)) (pb (oMul (pb (oFdiv (pb (nD 5)) (pb (nD 7)))) (pb (nD 7)))))) (pb cI))))))) (fun _ _ _ _ _ => (nD 7))))) aN)))
 (sCons (sIf (PW.pt (orW (cmpT (qGt hr.units) (pb (oFdiv (pb (nD 4)) (pb (nD 6)))) (pb cI)) (or1 (cmpT (qGt hr.units) (pb (oFdiv (pb (nD 5)) (pb (nD 6)))) (pb cI))))) (sOne (sRet (pb cI))) sNil)
 (sOne (sRet (pb (tup (fC (tup (fC (oNeg (pb (oFdiv (pb (nD 5)) (pb (nD 6))))) (fC (nD 2) fN))) (fC (tup (fC (oFdiv (pb (nD 4)) (pb (nD 6))) (fC (nD 3) fN))) fN))))))))))))) i⟩

def g_law_moment : List Sl → R Out := (retM (m1 (consR (frz (lcM [1, 2] (itR (nDR 0)) (gTupR 2 (gConsR (gSet 1) (gConsR (gSet 2) gNilR))) yesT (m2 (nDR 1) (m1 (consR (nDR 2) nilR) (callR 1 (m_law_total 12))) mulR))) nilR) sumR))
def m_law_moment : List D → R D := fnM 3 g_law_moment

theorem w_law_moment (T : Facts K mg) (d_law_total : ∀ i, Def P w K mg base "_law_total" ["mobile"] (0 + i) (spR K 1 (m_law_total i))) : Def P w K mg base "_law_moment" ["rod"] 14 (spR K 1 m_law_moment) :=
 let ⟨f, fd, gF, F, b⟩ := T.f_law_moment
 ⟨f, fd, gF, F.kp, b, fn_ok F sc_law_moment fun cdv A outer s H E hr =>
 (sOne (sRet (pb (cal (kSum rfl) T.b_sum (aC (pb (pf (lc (own := [("place", 1), ("part", 2)]) sc_law_moment.nd (by show blkC n_law_moment (defScope s_law_moment) _ _ = true; decide +kernel) (iB (pb (nD 0))) (fun _ _ _ _ _ => (gT (gsC (gN 1 sc_law_moment.nd) (gsC (gN 2 sc_law_moment.nd) gsN)))) (fun _ _ _ _ _ => tN) (fun _ _ _ _ _ => (oMul (pb (nD 1)) (pb (callD (d_law_total 12) (hr.mono (by omega)) (fC (nD 2) fN)))))))) aN)))))⟩

def g_law_parts : List Sl → R Out := (seqM (setsM [1, 2] (consR (rD (frz (m1 (consR (m1 (consR (m1 nilR tupR) (consR (nDR 0) nilR)) tupR) nilR) lstR))) (consR (rD (kR (.int 0))) nilR)))
 (seqM (whileM (m1 (m2 (nDR 2) (m1 (consR (nDR 1) nilR) lenR) ltR) asB) (seqM (asgM (m2 (nDR 1) (nDR 2) ixR) (gTupR 2 (gConsR (gSet 3) (gConsR (gSet 4) gNilR))))
 (seqM (ifV (m1 (m1 (nDR 4) (isiR isTup)) truR) (setM 1 (m2 (nDR 1) (frz (lcM [5] (m1 (consR (m1 (consR (nDR 4) nilR) lenR) nilR) range1R) (gSet 5) yesT (m1 (consR (m2 (nDR 3) (m1 (consR (nDR 5) nilR) tupR) addR) (consR (m2 (m2 (nDR 4) (nDR 5) ixR) (kR (.int 1)) ixR) nilR)) tupR))) addR)) nilM)
 (setM 2 (m2 (nDR 2) (kR (.int 1)) addR)))))
 (retM (frz (m1 (nDR 1) (sortKR (kfI 0)))))))
def m_law_parts : List D → R D := fnM 6 g_law_parts

theorem w_law_parts (T : Facts K mg) (L_law_parts : Mk K mg base "_law_parts") : Def P w K mg base "_law_parts" ["mobile"] 1 (spR K 1 m_law_parts) :=
 let ⟨f, fd, gF, F, b⟩ := T.f_law_parts
 let ⟨cM, PM, hM⟩ := fun_code L_law_parts gF F
 ⟨f, fd, gF, F.kp, b, fn_okC F sc_law_parts fun cdv A outer s H E hc hr =>
 (sCons (sPar2 1 2 sc_law_parts.nd (mD (pf (lst (fC (tup (fC (tup fN) (fC (nD 0) fN))) fN))) (mD cI mN)))
 (sCons (sWhile nvr (cmpT (qLt hr.units) (pb (nD 2)) (pb (cal kLen T.b_len (aC (pb (nD 1)) aN)))) (sCons (sAsg (ix (pb (nD 1)) (pb (nD 2))) (gT (gsC (gN 3 sc_law_parts.nd) (gsC (gN 4 sc_law_parts.nd) gsN))))
 (sCons (sIf (tst (pb (isiTup T.b_isinstance T.b_tuple (pb (nD 4))))) (sOne (sSet 1 sc_law_parts.nd (oAdd (pb (nD 1)) (pb (pf (lc (own := [("k", 5)]) sc_law_parts.nd (by show blkC n_law_parts (defScope s_law_parts) _ _ = true; decide +kernel) (iW (iR1 T.b_range (aC (pb (cal kLen T.b_len (aC (pb (nD 4)) aN))) aN))) (fun _ _ _ _ _ => (gN 5 sc_law_parts.nd)) (fun _ _ _ _ _ => tN) (fun _ _ _ _ _ => (tup (fC (oAdd (pb (nD 3)) (pb (tup (fC (nD 5) fN)))) (fC (ix (pb (ix (pb (nD 4)) (pb (nD 5)))) (pb cI)) fN)))))))))) sNil)
 (sOne (sSet 2 sc_law_parts.nd (oAdd (pb (nD 2)) (pb cI)))))))
 (sOne (sRet (pb (pf (sortKF hr.units hr.depth (lam_I 0 (by exact ⟨fun _ _ _ _ _ _ _ => rfl, rfl, by decide, rfl, rfl, rfl⟩)) T.b_sorted hM.mem (pb (nD 1)) (pe_lam hM.tb (hc.trans hM.cd) hM.mem hM.one))))))))⟩

def g_law_turned (self : List D → R D) : List Sl → R Out := (retM (ifV (m1 (m1 (nDR 0) (isiR isTup)) truR) (m1 (consR (frz (lcM [1, 2] (itR (m1 (nDR 0) revR)) (gTupR 2 (gConsR (gSet 1) (gConsR (gSet 2) gNilR))) yesT (m1 (consR (m1 (nDR 1) negR) (consR (m1 (consR (nDR 2) nilR) (callR 1 self)) nilR)) tupR))) nilR) tupOfR) (nDR 0)))
def m_law_turned : Nat → List D → R D
  | 0 => fun _ => fail
  | i + 1 => fnM 3 (g_law_turned (m_law_turned i))

theorem w_law_turned (T : Facts K mg) : ∀ i, Def P w K mg base "_law_turned" ["mobile"] (0 + i) (spR K 1 (m_law_turned i)) :=
 let ⟨f, fd, gF, F, b⟩ := T.f_law_turned
 fun i => ⟨f, fd, gF, F.kp, b, fn_rec (m := m_law_turned) (fun _ _ h => h) rfl (fun i IH => fn_ok F sc_law_turned (fun cdv A outer s H E hr => have d_law_turned : Def P w K mg base "_law_turned" ["mobile"] (0 + i) (spR K 1 (m_law_turned i)) := ⟨f, fd, gF, F.kp, b, IH⟩
 (sOne (sRet (pb (ifP (tst (pb (isiTup T.b_isinstance T.b_tuple (pb (nD 0))))) (calT kTup T.b_tuple (aC (pb (pf (lc (own := [("place", 1), ("part", 2)]) sc_law_turned.nd (by show blkC n_law_turned (defScope s_law_turned) _ _ = true; decide +kernel) (iB (pb (revP (pb (nD 0))))) (fun _ _ _ _ _ => (gT (gsC (gN 1 sc_law_turned.nd) (gsC (gN 2 sc_law_turned.nd) gsN)))) (fun _ _ _ _ _ => tN) (fun _ _ _ _ _ => (tup (fC (oNeg (pb (nD 1))) (fC (callD d_law_turned hr (fC (nD 2) fN)) fN))))))) aN)) (nD 0))))))) i⟩

def g_law_put (self : List D → R D) : List Sl → R Out := (seqM (ifV (m1 (m2 (nDR 1) (m1 nilR tupR) eqR) asB) (retM (nDR 2)) nilM)
 (retM (m1 (consR (frz (lcM [3] (m1 (consR (m1 (consR (nDR 0) nilR) lenR) nilR) range1R) (gSet 3) yesT (m1 (consR (m2 (m2 (nDR 0) (nDR 3) ixR) (kR (.int 0)) ixR) (consR (ifV (m1 (m2 (nDR 3) (m2 (nDR 1) (kR (.int 0)) ixR) eqR) asB) (m1 (consR (m2 (m2 (nDR 0) (nDR 3) ixR) (kR (.int 1)) ixR) (consR (m3 (nDR 1) (m1 (kR (.int 1)) asI) noR slR) (consR (nDR 2) nilR))) (callR 3 self)) (m2 (m2 (nDR 0) (nDR 3) ixR) (kR (.int 1)) ixR)) nilR)) tupR))) nilR) tupOfR)))
def m_law_put : Nat → List D → R D
  | 0 => fun _ => fail
  | i + 1 => fnM 4 (g_law_put (m_law_put i))

theorem w_law_put (T : Facts K mg) : ∀ i, Def P w K mg base "_law_put" ["mobile", "path", "part"] (0 + i) (spR K 3 (m_law_put i)) :=
 let ⟨f, fd, gF, F, b⟩ := T.f_law_put
 fun i => ⟨f, fd, gF, F.kp, b, fn_rec (m := m_law_put) (fun _ _ h => h) rfl (fun i IH => fn_ok F sc_law_put (fun cdv A outer s H E hr => have d_law_put : Def P w K mg base "_law_put" ["mobile", "path", "part"] (0 + i) (spR K 3 (m_law_put i)) := ⟨f, fd, gF, F.kp, b, IH⟩
 (sCons (sIf (cmpT (qEq hr.units) (pb (nD 1)) (pb (tup fN))) (sOne (sRet (pb (nD 2)))) sNil)
 (sOne (sRet (pb (calT kTup T.b_tuple (aC (pb (pf (lc (own := [("k", 3)]) sc_law_put.nd (by show blkC n_law_put (defScope s_law_put) _ _ = true; decide +kernel) (iW (iR1 T.b_range (aC (pb (cal kLen T.b_len (aC (pb (nD 0)) aN))) aN))) (fun _ _ _ _ _ => (gN 3 sc_law_put.nd)) (fun _ _ _ _ _ => tN) (fun _ _ _ _ _ => (tup (fC (ix (pb (ix (pb (nD 0)) (pb (nD 3)))) (pb cI)) (fC (ifP (cmpT (qEq hr.units) (pb (nD 3)) (pb (ix (pb (nD 1)) (pb cI)))) (callD d_law_put hr (fC (ix (pb (ix (pb (nD 0)) (pb (nD 3)))) (pb cI)) (fC (sl (pb (nD 1)) (sE (pb cI)) sN) (fC (nD 2) fN)))) (ix (pb (ix (pb (nD 0)) (pb (nD 3)))) (pb cI))) fN))))))) aN)))))))) i⟩

end
end K01

namespace K01
open PySem PySem.Spec PyProof.Rows L2 Pu
variable [Tb]
section
variable {P : Program} {w : World} {K : PySem.W.Frag} {mg : Str → Option Value} {base : Heap}
def g_law : List Sl → R Out := (seqM (setM 2 (ifV (m1 (m2 (callX 1 2 1 (consR (kR (.int 2)) nilR) m_law_draw) (kR (.int 0)) eqR) asB) (callX 1 2 1 (consR (kR (.int 3)) nilR) (m_law_mobile 12)) (callX 1 2 1 (consR (kR (.int 3)) nilR) (m_law_level 12))))
 (seqM (ifV (orT (m1 (m2 (m1 (consR (m1 (consR (m1 (consR (m1 (kR (.int 2)) negR) (consR (kR (.int 3)) nilR)) tupR) (consR (m1 (consR (kR (.int 1)) (consR (kR (.int 6)) nilR)) tupR) nilR)) tupR) nilR) (callR 1 m_hangs_level)) (kR (.bool true)) isNotR) asB) (notT (m1 (m1 (consR (m1 (consR (m1 (consR (m1 (consR (m1 (kR (.int 2)) negR) (consR (kR (.int 3)) nilR)) tupR) (consR (m1 (consR (kR (.int 1)) (consR (kR (.int 5)) nilR)) tupR) nilR)) tupR) nilR) (callR 1 m_tilted_rods)) (consR (m1 (consR (m1 nilR tupR) nilR) tupR) nilR)) (callR 2 (m_law_same 20))) truR))) (retM (kR (.bool false))) nilM)
 (seqM (setM 3 (m1 (consR (nDR 2) nilR) (callR 1 m_law_parts)))
 (seqM (setM 4 (frz (lcM [7, 8] (itR (nDR 3)) (gTupR 2 (gConsR (gSet 7) (gConsR (gSet 8) gNilR))) (m1 (m1 (nDR 8) (isiR isTup)) truR) (m1 (consR (nDR 7) (consR (nDR 8) nilR)) tupR))))
 (seqM (setM 5 (frz (lcM [7, 8] (itR (nDR 3)) (gTupR 2 (gConsR (gSet 7) (gConsR (gSet 8) gNilR))) (notT (m1 (m1 (nDR 8) (isiR isTup)) truR)) (m1 (consR (nDR 7) (consR (nDR 8) nilR)) tupR))))
 (seqM (ifV (orT (notT (m1 (m1 (consR (m1 (consR (nDR 2) nilR) (callR 1 m_all_paths)) (consR (m1 (consR (frz (lcM [7, 8] (itR (nDR 3)) (gTupR 2 (gConsR (gSet 7) (gConsR (gSet 8) gNilR))) yesT (nDR 7))) nilR) tupOfR) nilR)) (callR 2 (m_law_same 20))) truR)) (notT (m1 (m1 (consR (m1 (consR (nDR 2) nilR) (callR 1 m_rods_of)) (consR (m1 (consR (frz (lcM [7, 8] (itR (nDR 4)) (gTupR 2 (gConsR (gSet 7) (gConsR (gSet 8) gNilR))) yesT (nDR 7))) nilR) tupOfR) nilR)) (callR 2 (m_law_same 20))) truR))) (retM (kR (.bool false))) nilM)
 (seqM (ifV (orT (notT (m1 (m1 (consR (m1 (consR (nDR 2) nilR) (callR 1 m_weights_of)) (consR (m1 (consR (nDR 5) nilR) tupOfR) nilR)) (callR 2 (m_law_same 20))) truR)) (notT (m1 (m1 (consR (m1 (consR (nDR 2) nilR) (callR 1 m_total)) (consR (m1 (consR (frz (lcM [7, 8] (itR (nDR 5)) (gTupR 2 (gConsR (gSet 7) (gConsR (gSet 8) gNilR))) yesT (nDR 8))) nilR) sumR) nilR)) (callR 2 (m_law_same 20))) truR))) (retM (kR (.bool false))) nilM)
 (seqM (ifV (orT (notT (m1 (m1 (consR (frz (lcM [7, 8] (itR (nDR 3)) (gTupR 2 (gConsR (gSet 7) (gConsR (gSet 8) gNilR))) yesT (m1 (consR (m1 (consR (nDR 2) (consR (nDR 7) nilR)) (callR 2 m_part_at)) (consR (nDR 8) nilR)) (callR 2 (m_law_same 20))))) nilR) allR) truR)) (notT (m1 (m1 (consR (frz (lcM [7, 8] (itR (nDR 4)) (gTupR 2 (gConsR (gSet 7) (gConsR (gSet 8) gNilR))) yesT (m1 (consR (m1 (consR (nDR 8) nilR) (callR 1 m_moment_of)) (consR (m1 (consR (nDR 8) nilR) (callR 1 m_law_moment)) nilR)) (callR 2 (m_law_same 20))))) nilR) allR) truR))) (retM (kR (.bool false))) nilM)
 (seqM (setM 6 (m1 (consR (frz (lcM [7, 8] (itR (nDR 4)) (gTupR 2 (gConsR (gSet 7) (gConsR (gSet 8) gNilR))) (m1 (m2 (m1 (consR (nDR 8) nilR) (callR 1 m_law_moment)) (kR (.int 0)) neR) asB) (nDR 7))) nilR) tupOfR))
 (seqM (ifV (orT (notT (m1 (m1 (consR (m1 (consR (nDR 2) nilR) (callR 1 m_tilted_rods)) (consR (nDR 6) nilR)) (callR 2 (m_law_same 20))) truR)) (notT (m1 (m1 (consR (m1 (consR (nDR 2) nilR) (callR 1 m_hangs_level)) (consR (m2 (nDR 6) (m1 nilR tupR) eqR) nilR)) (callR 2 (m_law_same 20))) truR))) (retM (kR (.bool false))) nilM)
 (seqM (ifV (orT (notT (m1 (m1 (consR (m1 (consR (nDR 2) nilR) (callR 1 m_height_of)) (consR (m1 (consR (m2 (frz (m1 (consR (kR (.int 0)) nilR) lstR)) (frz (lcM [7, 8] (itR (nDR 4)) (gTupR 2 (gConsR (gSet 7) (gConsR (gSet 8) gNilR))) yesT (m2 (m1 (consR (nDR 7) nilR) lenR) (kR (.int 1)) addR))) addR) nilR) maxR) nilR)) (callR 2 (m_law_same 20))) truR)) (notT (m1 (m1 (consR (m1 (consR (nDR 2) nilR) (callR 1 m_turned)) (consR (m1 (consR (nDR 2) nilR) (callR 1 (m_law_turned 12))) nilR)) (callR 2 (m_law_same 20))) truR))) (retM (kR (.bool false))) nilM)
 (seqM (ifV (orT (notT (m1 (m1 (consR (m1 (consR (m1 (consR (nDR 2) nilR) (callR 1 (m_law_turned 12))) nilR) (callR 1 m_hangs_level)) (consR (m2 (nDR 6) (m1 nilR tupR) eqR) nilR)) (callR 2 (m_law_same 20))) truR)) (m1 (m2 (m1 (consR (m1 (consR (nDR 2) nilR) (callR 1 (m_law_turned 12))) nilR) (callR 1 m_is_mobile)) (kR (.bool true)) isNotR) asB)) (retM (kR (.bool false))) nilM)
 (seqM (asgM (m2 (nDR 3) (callX 1 2 1 (consR (m1 (consR (nDR 3) nilR) lenR) nilR) m_law_draw) ixR) (gTupR 2 (gConsR (gSet 7) (gConsR (gSet 8) gNilR))))
 (seqM (setM 9 (callX 1 2 1 (consR (kR (.int 1)) nilR) (m_law_mobile 12)))
 (seqM (ifV (notT (m1 (m1 (consR (m1 (consR (nDR 2) (consR (nDR 7) (consR (nDR 9) nilR))) (callR 3 m_with_part)) (consR (m1 (consR (nDR 2) (consR (nDR 7) (consR (nDR 9) nilR))) (callR 3 (m_law_put 12))) nilR)) (callR 2 (m_law_same 20))) truR)) (retM (kR (.bool false))) nilM)
 (seqM (forM (itR (nDR 4)) (gTupR 2 (gConsR (gSet 10) (gConsR (gSet 11) gNilR))) (seqM (setM 14 (m1 (consR (frz (lcM [15, 16] (itR (m1 (nDR 11) revR)) (gTupR 2 (gConsR (gSet 15) (gConsR (gSet 16) gNilR))) yesT (m1 (consR (m1 (nDR 15) negR) (consR (nDR 16) nilR)) tupR))) nilR) tupOfR))
 (seqM (ifV (orT (notT (m1 (m1 (consR (m1 (consR (nDR 11) nilR) (callR 1 m_turned_rod)) (consR (nDR 14) nilR)) (callR 2 (m_law_same 20))) truR)) (notT (m1 (m1 (consR (m1 (consR (nDR 2) (consR (nDR 10) nilR)) (callR 2 m_turned_at)) (consR (m1 (consR (nDR 2) (consR (nDR 10) (consR (nDR 14) nilR))) (callR 3 (m_law_put 12))) nilR)) (callR 2 (m_law_same 20))) truR))) (retM (kR (.bool false))) nilM)
 (ifV (m1 (m2 (m2 (nDR 6) (m1 nilR tupR) eqR) (m1 (consR (m1 (consR (nDR 2) (consR (nDR 10) (consR (nDR 14) nilR))) (callR 3 (m_law_put 12))) nilR) (callR 1 m_hangs_level)) neR) asB) (retM (kR (.bool false))) nilM))))
 (seqM (setM 12 (m1 (consR (nDR 8) nilR) (callR 1 (m_law_total 12))))
 (seqM (setM 13 (m1 (consR (frz (lcM [10] (itR (nDR 6)) (gSet 10) (m1 (m2 (m3 (nDR 10) noR (m1 (m1 (consR (nDR 7) nilR) lenR) asI) slR) (nDR 7) neR) asB) (nDR 10))) nilR) tupOfR))
 (retM (ifV (m1 (m2 (nDR 12) (kR (.int 1000)) leR) asB) (m1 (consR (m1 (consR (m1 (consR (nDR 2) (consR (nDR 7) (consR (nDR 12) nilR))) (callR 3 (m_law_put 12))) nilR) (callR 1 m_tilted_rods)) (consR (nDR 13) nilR)) (callR 2 (m_law_same 20))) (kR (.bool true))))))))))))))))))))))
theorem w_law (T : Facts K mg) (d_box : Def P w K mg base "_law_box" ["script"] 1 (spBox K)) (d_law_draw : Def P w K mg base "_law_draw" ["box", "many"] 2 (spX K 2 1 m_law_draw)) (d_law_mobile : ∀ i, Def P w K mg base "_law_mobile" ["box", "deep"] (2 + i) (spX K 2 1 (m_law_mobile i))) (d_law_level : ∀ i, Def P w K mg base "_law_level" ["box", "deep"] (13 + i) (spX K 2 1 (m_law_level i))) (d_hangs_level : Def P w K mg base "hangs_level" ["mobile"] 7 (spR K 1 m_hangs_level)) (d_law_same : ∀ i, Def P w K mg base "_law_same" ["a", "b"] (0 + i) (spR K 2 (m_law_same i))) (d_tilted_rods : Def P w K mg base "tilted_rods" ["mobile"] 6 (spR K 1 m_tilted_rods)) (d_law_parts : Def P w K mg base "_law_parts" ["mobile"] 1 (spR K 1 m_law_parts)) (d_all_paths : Def P w K mg base "all_paths" ["mobile"] 2 (spR K 1 m_all_paths)) (d_rods_of : Def P w K mg base "rods_of" ["mobile"] 3 (spR K 1 m_rods_of)) (d_weights_of : Def P w K mg base "weights_of" ["mobile"] 3 (spR K 1 m_weights_of)) (d_total : Def P w K mg base "total" ["mobile"] 4 (spR K 1 m_total)) (d_part_at : Def P w K mg base "part_at" ["mobile", "path"] 1 (spR K 2 m_part_at)) (d_law_moment : Def P w K mg base "_law_moment" ["rod"] 14 (spR K 1 m_law_moment)) (d_moment_of : Def P w K mg base "moment_of" ["rod"] 5 (spR K 1 m_moment_of)) (d_height_of : Def P w K mg base "height_of" ["mobile"] 4 (spR K 1 m_height_of)) (d_law_turned : ∀ i, Def P w K mg base "_law_turned" ["mobile"] (0 + i) (spR K 1 (m_law_turned i))) (d_turned : Def P w K mg base "turned" ["mobile"] 4 (spR K 1 m_turned)) (d_is_mobile : Def P w K mg base "is_mobile" ["value"] 5 (spR K 1 m_is_mobile)) (d_law_put : ∀ i, Def P w K mg base "_law_put" ["mobile", "path", "part"] (0 + i) (spR K 3 (m_law_put i))) (d_with_part : Def P w K mg base "with_part" ["mobile", "path", "part"] 1 (spR K 3 m_with_part)) (d_turned_rod : Def P w K mg base "turned_rod" ["rod"] 1 (spR K 1 m_turned_rod)) (d_turned_at : Def P w K mg base "turned_at" ["mobile", "path"] 2 (spR K 2 m_turned_at)) (d_law_total : ∀ i, Def P w K mg base "_law_total" ["mobile"] (0 + i) (spR K 1 (m_law_total i))) (hlaw : g_law (.un :: .box 2 :: List.replicate 15 .un) fun o => o = .rt (.bool true))  {f : Addr} {fd : FuncData} (F : Fun K "law" "law" s_law f fd) : FnOk P w K mg base CX0 27 f fd ["script"] (spLaw K) := by
  obtain ⟨fb, fdb, gB, kB, bB, GB⟩ := d_box
  refine F.ok sc_law (fun vs H Q E h => ?_) (fun cdv A outer s H vs Q E hr h => ?_)
  · obtain ⟨_, _, rfl, _⟩ := h; rfl
  · obtain ⟨a, ns, rfl, hS, hl, hT, q⟩ := h
    refine ⟨_, pss_cons (ps_set (i := 1) sc_law.nd rfl (by first | exact Or.inl rfl | exact Or.inr rfl) (pe_call GB (hr.mono (by omega)) (by rfl) gB kB bB .nil pass0 (pa_cons (pv 0) pa_nil))) (t := _) (u := tS K g_law) ((sCons (sSet 2 sc_law.nd (ifP (cmpT (qEq hr.units) (pb (callD_X 1 d_law_draw (hr.mono (by omega)) (fC cI fN))) (pb cI)) (callD_X 1 (d_law_mobile 12) (hr.mono (by omega)) (fC cI fN)) (callD_X 1 (d_law_level 12) (hr.mono (by omega)) (fC cI fN))))
 (sCons (sIf (PW.pt (orW (cmpT (qIsNot hr.units) (pb (callD d_hangs_level (hr.mono (by omega)) (fC (tup (fC (tup (fC (oNeg (pb cI)) (fC cI fN))) (fC (tup (fC cI (fC cI fN))) fN))) fN))) (pb cT)) (or1 (notP (tst (pb (callD (d_law_same 20) (hr.mono (by omega)) (fC (callD d_tilted_rods (hr.mono (by omega)) (fC (tup (fC (tup (fC (oNeg (pb cI)) (fC cI fN))) (fC (tup (fC cI (fC cI fN))) fN))) fN)) (fC (tup (fC (tup fN) fN)) fN))))))))) (sOne (sRet (pb cT))) sNil)
 (sCons (sSet 3 sc_law.nd (callD d_law_parts (hr.mono (by omega)) (fC (nD 2) fN)))
 (sCons (sLcD 4 (own := [("path", 7), ("part", 8)]) sc_law.nd (by show blkC n_law (defScope s_law) _ _ = true; decide +kernel) (iB (pb (nD 3))) (fun _ _ _ _ _ => (gT (gsC (gN 7 sc_law.nd) (gsC (gN 8 sc_law.nd) gsN)))) (fun _ _ _ _ _ => (tO1 (tst (pb (isiTup T.b_isinstance T.b_tuple (pb (nD 8))))))) (fun _ _ _ _ _ => (tup (fC (nD 7) (fC (nD 8) fN)))) (sw_true rfl rfl rfl (by decide +kernel)))
 (sCons (sLcD 5 (own := [("path", 7), ("part", 8)]) sc_law.nd (by show blkC n_law (defScope s_law) _ _ = true; decide +kernel) (iB (pb (nD 3))) (fun _ _ _ _ _ => (gT (gsC (gN 7 sc_law.nd) (gsC (gN 8 sc_law.nd) gsN)))) (fun _ _ _ _ _ => (tO1 (notP (tst (pb (isiTup T.b_isinstance T.b_tuple (pb (nD 8)))))))) (fun _ _ _ _ _ => (tup (fC (nD 7) (fC (nD 8) fN)))) (sw_true rfl rfl rfl (by decide +kernel)))
 (sCons (sIf (PW.pt (orW (notP (tst (pb (callD (d_law_same 20) (hr.mono (by omega)) (fC (callD d_all_paths (hr.mono (by omega)) (fC (nD 2) fN)) (fC (calT kTup T.b_tuple (aC (pb (pf (lc (own := [("path", 7), ("part", 8)]) sc_law.nd (by show blkC n_law (defScope s_law) _ _ = true; decide +kernel) (iB (pb (nD 3))) (fun _ _ _ _ _ => (gT (gsC (gN 7 sc_law.nd) (gsC (gN 8 sc_law.nd) gsN)))) (fun _ _ _ _ _ => tN) (fun _ _ _ _ _ => (nD 7))))) aN)) fN)))))) (or1 (notP (tst (pb (callD (d_law_same 20) (hr.mono (by omega)) (fC (callD d_rods_of (hr.mono (by omega)) (fC (nD 2) fN)) (fC (calT kTup T.b_tuple (aC (pb (pf (lc (own := [("path", 7), ("part", 8)]) sc_law.nd (by show blkC n_law (defScope s_law) _ _ = true; decide +kernel) (iB (pb (nD 4))) (fun _ _ _ _ _ => (gT (gsC (gN 7 sc_law.nd) (gsC (gN 8 sc_law.nd) gsN)))) (fun _ _ _ _ _ => tN) (fun _ _ _ _ _ => (nD 7))))) aN)) fN))))))))) (sOne (sRet (pb cT))) sNil)
 (sCons (sIf (PW.pt (orW (notP (tst (pb (callD (d_law_same 20) (hr.mono (by omega)) (fC (callD d_weights_of (hr.mono (by omega)) (fC (nD 2) fN)) (fC (calT kTup T.b_tuple (aC (pb (nD 5)) aN)) fN)))))) (or1 (notP (tst (pb (callD (d_law_same 20) (hr.mono (by omega)) (fC (callD d_total (hr.mono (by omega)) (fC (nD 2) fN)) (fC (cal (kSum rfl) T.b_sum (aC (pb (pf (lc (own := [("path", 7), ("part", 8)]) sc_law.nd (by show blkC n_law (defScope s_law) _ _ = true; decide +kernel) (iB (pb (nD 5))) (fun _ _ _ _ _ => (gT (gsC (gN 7 sc_law.nd) (gsC (gN 8 sc_law.nd) gsN)))) (fun _ _ _ _ _ => tN) (fun _ _ _ _ _ => (nD 8))))) aN)) fN))))))))) (sOne (sRet (pb cT))) sNil)
 (sCons (sIf (PW.pt (orW (notP (tst (pb (cal (kAll rfl) T.b_all (aC (pb (pf (lc (own := [("path", 7), ("part", 8)]) sc_law.nd (by show blkC n_law (defScope s_law) _ _ = true; decide +kernel) (iB (pb (nD 3))) (fun _ _ _ _ _ => (gT (gsC (gN 7 sc_law.nd) (gsC (gN 8 sc_law.nd) gsN)))) (fun _ _ _ _ _ => tN) (fun _ _ _ _ _ => (callD (d_law_same 20) (hr.mono (by omega)) (fC (callD d_part_at (hr.mono (by omega)) (fC (nD 2) (fC (nD 7) fN))) (fC (nD 8) fN))))))) aN))))) (or1 (notP (tst (pb (cal (kAll rfl) T.b_all (aC (pb (pf (lc (own := [("path", 7), ("part", 8)]) sc_law.nd (by show blkC n_law (defScope s_law) _ _ = true; decide +kernel) (iB (pb (nD 4))) (fun _ _ _ _ _ => (gT (gsC (gN 7 sc_law.nd) (gsC (gN 8 sc_law.nd) gsN)))) (fun _ _ _ _ _ => tN) (fun _ _ _ _ _ => (callD (d_law_same 20) (hr.mono (by omega)) (fC (callD d_moment_of (hr.mono (by omega)) (fC (nD 8) fN)) (fC (callD d_law_moment (hr.mono (by omega)) (fC (nD 8) fN)) fN))))))) aN)))))))) (sOne (sRet (pb cT))) sNil)
 (sCons (sSet 6 sc_law.nd (calT kTup T.b_tuple (aC (pb (pf (lc (own := [("path", 7), ("part", 8)]) sc_law.nd (by show blkC n_law (defScope s_law) _ _ = true; decide +kernel) (iB (pb (nD 4))) (fun _ _ _ _ _ => (gT (gsC (gN 7 sc_law.nd) (gsC (gN 8 sc_law.nd) gsN)))) (fun _ _ _ _ _ => (tO1 (cmpT (qNe hr.units) (pb (callD d_law_moment (hr.mono (by omega)) (fC (nD 8) fN))) (pb cI)))) (fun _ _ _ _ _ => (nD 7))))) aN)))
 (sCons (sIf (PW.pt (orW (notP (tst (pb (callD (d_law_same 20) (hr.mono (by omega)) (fC (callD d_tilted_rods (hr.mono (by omega)) (fC (nD 2) fN)) (fC (nD 6) fN)))))) (or1 (notP (tst (pb (callD (d_law_same 20) (hr.mono (by omega)) (fC (callD d_hangs_level (hr.mono (by omega)) (fC (nD 2) fN)) (fC (cmp (qEq hr.units) (pb (nD 6)) (pb (tup fN))) fN))))))))) (sOne (sRet (pb cT))) sNil)
 (sCons (sIf (PW.pt (orW (notP (tst (pb (callD (d_law_same 20) (hr.mono (by omega)) (fC (callD d_height_of (hr.mono (by omega)) (fC (nD 2) fN)) (fC (cal (kMax rfl hr.units) T.b_max (aC (pb (oAdd (pb (pf (lst (fC cI fN)))) (pb (pf (lc (own := [("path", 7), ("part", 8)]) sc_law.nd (by show blkC n_law (defScope s_law) _ _ = true; decide +kernel) (iB (pb (nD 4))) (fun _ _ _ _ _ => (gT (gsC (gN 7 sc_law.nd) (gsC (gN 8 sc_law.nd) gsN)))) (fun _ _ _ _ _ => tN) (fun _ _ _ _ _ => (oAdd (pb (cal kLen T.b_len (aC (pb (nD 7)) aN))) (pb cI)))))))) aN)) fN)))))) (or1 (notP (tst (pb (callD (d_law_same 20) (hr.mono (by omega)) (fC (callD d_turned (hr.mono (by omega)) (fC (nD 2) fN)) (fC (callD (d_law_turned 12) (hr.mono (by omega)) (fC (nD 2) fN)) fN))))))))) (sOne (sRet (pb cT))) sNil)
 (sCons (sIf (PW.pt (orW (notP (tst (pb (callD (d_law_same 20) (hr.mono (by omega)) (fC (callD d_hangs_level (hr.mono (by omega)) (fC (callD (d_law_turned 12) (hr.mono (by omega)) (fC (nD 2) fN)) fN)) (fC (cmp (qEq hr.units) (pb (nD 6)) (pb (tup fN))) fN)))))) (or1 (cmpT (qIsNot hr.units) (pb (callD d_is_mobile (hr.mono (by omega)) (fC (callD (d_law_turned 12) (hr.mono (by omega)) (fC (nD 2) fN)) fN))) (pb cT))))) (sOne (sRet (pb cT))) sNil)
 (sCons (sAsg (ix (pb (nD 3)) (pb (callD_X 1 d_law_draw (hr.mono (by omega)) (fC (cal kLen T.b_len (aC (pb (nD 3)) aN)) fN)))) (gT (gsC (gN 7 sc_law.nd) (gsC (gN 8 sc_law.nd) gsN))))
 (sCons (sSet 9 sc_law.nd (callD_X 1 (d_law_mobile 12) (hr.mono (by omega)) (fC cI fN)))
 (sCons (sIf (notP (tst (pb (callD (d_law_same 20) (hr.mono (by omega)) (fC (callD d_with_part (hr.mono (by omega)) (fC (nD 2) (fC (nD 7) (fC (nD 9) fN)))) (fC (callD (d_law_put 12) (hr.mono (by omega)) (fC (nD 2) (fC (nD 7) (fC (nD 9) fN)))) fN)))))) (sOne (sRet (pb cT))) sNil)
 (sCons (sFor nvr (iS (nD 4)) (gT (gsC (gN 10 sc_law.nd) (gsC (gN 11 sc_law.nd) gsN))) (sCons (sSet 14 sc_law.nd (calT kTup T.b_tuple (aC (pb (pf (lc (own := [("place", 15), ("some", 16)]) sc_law.nd (by show blkC n_law (defScope s_law) _ _ = true; decide +kernel) (iB (pb (revP (pb (nD 11))))) (fun _ _ _ _ _ => (gT (gsC (gN 15 sc_law.nd) (gsC (gN 16 sc_law.nd) gsN)))) (fun _ _ _ _ _ => tN) (fun _ _ _ _ _ => (tup (fC (oNeg (pb (nD 15))) (fC (nD 16) fN))))))) aN)))
 (sCons (sIf (PW.pt (orW (notP (tst (pb (callD (d_law_same 20) (hr.mono (by omega)) (fC (callD d_turned_rod (hr.mono (by omega)) (fC (nD 11) fN)) (fC (nD 14) fN)))))) (or1 (notP (tst (pb (callD (d_law_same 20) (hr.mono (by omega)) (fC (callD d_turned_at (hr.mono (by omega)) (fC (nD 2) (fC (nD 10) fN))) (fC (callD (d_law_put 12) (hr.mono (by omega)) (fC (nD 2) (fC (nD 10) (fC (nD 14) fN)))) fN))))))))) (sOne (sRet (pb cT))) sNil)
 (sOne (sIf (cmpT (qNe hr.units) (pb (cmp (qEq hr.units) (pb (nD 6)) (pb (tup fN)))) (pb (callD d_hangs_level (hr.mono (by omega)) (fC (callD (d_law_put 12) (hr.mono (by omega)) (fC (nD 2) (fC (nD 10) (fC (nD 14) fN)))) fN)))) (sOne (sRet (pb cT))) sNil)))))
 (sCons (sSet 12 sc_law.nd (callD (d_law_total 12) (hr.mono (by omega)) (fC (nD 8) fN)))
 (sCons (sSet 13 sc_law.nd (calT kTup T.b_tuple (aC (pb (pf (lc (own := [("there", 10)]) sc_law.nd (by show blkC n_law (defScope s_law) _ _ = true; decide +kernel) (iB (pb (nD 6))) (fun _ _ _ _ _ => (gN 10 sc_law.nd)) (fun _ _ _ _ _ => (tO1 (cmpT (qNe hr.units) (pb (sl (pb (nD 10)) sN (sE (pb (cal kLen T.b_len (aC (pb (nD 7)) aN)))))) (pb (nD 7))))) (fun _ _ _ _ _ => (nD 10))))) aN)))
 (sOne (sRet (pb (ifP (cmpT (qLe hr.units) (pb (nD 12)) (pb cI)) (callD (d_law_same 20) (hr.mono (by omega)) (fC (callD d_tilted_rods (hr.mono (by omega)) (fC (callD (d_law_put 12) (hr.mono (by omega)) (fC (nD 2) (fC (nD 7) (fC (nD 12) fN)))) fN)) (fC (nD 13) fN))) cT))))))))))))))))))))))), ?_⟩
    exact ⟨.ref a, rfl, a, ns, rfl, hS, hl, fun b c H' ns' n s sm hb hc x hl' => law_rest hlaw (hT.ext sm) x hl' q rfl⟩
end
end K01

namespace Pu
open PySem PySem.Spec PyProof.Rows L2
variable [Tb]
/-! ### what the words of a mirror come to, as equations -/
def tu {α : Type} (f : α → D) (l : List α) : D := .tuple (l.map f)
def li {α : Type} (f : α → D) (l : List α) : D := .list (l.map f)
section
variable {α β : Type} {f : α → D} {ρ : List Sl}
@[simp] theorem nDR_0 (d : D) (ρ : List Sl) : nDR 0 (.dat d :: ρ) = ok d := (rfl)
@[simp] theorem nDR_s (i : Nat) (s : Sl) (ρ : List Sl) : nDR (i + 1) (s :: ρ) = nDR i ρ := (rfl)
@[simp] theorem nBR_0 (d : D) (ρ : List Sl) : nBR 0 (.dat d :: ρ) = ok d := (rfl)
@[simp] theorem nBR_0o (ds : List D) (ρ : List Sl) : nBR 0 (.own ds :: ρ) = ok (.list ds) := (rfl)
@[simp] theorem nBR_s (i : Nat) (s : Sl) (ρ : List Sl) : nBR (i + 1) (s :: ρ) = nBR i ρ := (rfl)
@[simp] theorem getO_0 (ds : List D) (ρ : List Sl) : getO (.own ds :: ρ) 0 = ok ds := (rfl)
@[simp] theorem getO_s (i : Nat) (s : Sl) (ρ : List Sl) : getO (s :: ρ) (i + 1) = getO ρ i := (rfl)
@[simp] theorem kR_e (d : D) : kR d ρ = ok d := (rfl)
@[simp] theorem m1_e {γ : Type} (g : List Sl → R β) (h : β → R γ) : m1 g h ρ = bd (g ρ) h := (rfl)
@[simp] theorem m2_e {γ δ : Type} (g : List Sl → R β) (k : List Sl → R γ) (h : β → γ → R δ) : m2 g k h ρ = bd (g ρ) fun x => bd (k ρ) fun y => h x y := (rfl)
@[simp] theorem m3_e {γ δ ε : Type} (g : List Sl → R β) (k : List Sl → R γ) (l : List Sl → R δ) (h : β → γ → δ → R ε) : m3 g k l h ρ = bd (g ρ) fun x => bd (k ρ) fun y => bd (l ρ) fun z => h x y z := (rfl)
@[simp] theorem consR_e (g : List Sl → R β) (h : List Sl → R (List β)) : consR g h ρ = bd (g ρ) fun x => bd (h ρ) fun xs => ok (x :: xs) := (rfl)
@[simp] theorem nilR_e : (nilR : List Sl → R (List β)) ρ = ok [] := (rfl)
@[simp] theorem seqM_e (g h : List Sl → R Out) : seqM g h ρ = bd (g ρ) (nxt h) := (rfl)
@[simp] theorem setM_e (i : Nat) (g : List Sl → R D) : setM i g ρ = bd (g ρ) fun d => ok (.nx (ρ.set i (.dat d))) := (rfl)
@[simp] theorem setO_e (i : Nat) (g : List Sl → R (List D)) : setO i g ρ = bd (g ρ) fun d => ok (.nx (ρ.set i (.own d))) := (rfl)
@[simp] theorem retM_e (g : List Sl → R D) : retM g ρ = bd (g ρ) fun d => ok (.rt d) := (rfl)
@[simp] theorem ifV_e (t : List Sl → R Bool) (g h : List Sl → R β) : ifV t g h ρ = bd (t ρ) fun b => if b = true then g ρ else h ρ := (rfl)
@[simp] theorem nilM_e : nilM ρ = ok (.nx ρ) := (rfl)
@[simp] theorem frz_e (g : List Sl → R (List D)) : frz g ρ = bd (g ρ) fun ds => ok (.list ds) := (rfl)
@[simp] theorem noR_e : noR ρ = ok none := (rfl)
@[simp] theorem yesT_e : yesT ρ = ok true := (rfl)
@[simp] theorem andT_e (g h : List Sl → R Bool) : andT g h ρ = bd (g ρ) fun b => if b = true then h ρ else ok false := (rfl)
@[simp] theorem orT_e (g h : List Sl → R Bool) : orT g h ρ = bd (g ρ) fun b => if b = true then ok true else h ρ := (rfl)
@[simp] theorem notT_e (g : List Sl → R Bool) : notT g ρ = bd (g ρ) fun b => ok (!b) := (rfl)
@[simp] theorem andV_e (g h : List Sl → R D) : andV g h ρ = bd (g ρ) fun d => bd (truR d) fun b => if b = true then h ρ else ok d := (rfl)
@[simp] theorem orV_e (g h : List Sl → R D) : orV g h ρ = bd (g ρ) fun d => bd (truR d) fun b => if b = true then ok d else h ρ := (rfl)
@[simp] theorem notV_e (g : List Sl → R D) : notV g ρ = bd (g ρ) fun d => bd (truR d) fun b => ok (.bool (!b)) := (rfl)
@[simp] theorem chain_e {γ : Type} (fin : D → R γ) (h h' : D → D → R D) (a b c : List Sl → R D) : chain fin h h' a b c ρ = bd (a ρ) fun x => bd (b ρ) fun y => bd (h x y) fun z => bd (asB z) fun t => bd (if t = true then bd (c ρ) fun w => h' y w else ok (.bool false)) fin := (rfl)
theorem forM_e (fi : List Sl → R (List D)) (g : D → List Sl → R (List Sl)) (tb : List Sl → R Out) : forM fi g tb ρ = bd (fi ρ) fun ds => forF g tb ds ρ := rfl
theorem lcM_e (vs : List Nat) (fi : List Sl → R (List D)) (g : D → List Sl → R (List Sl)) (tt : List Sl → R Bool) (te : List Sl → R D) : lcM vs fi g tt te ρ = bd (fi ρ) fun ds => lcF g tt te ds (wipeS ρ vs) := rfl
@[simp] theorem mutM_e (i : Nat) (g : List Sl → R (List D)) (h : List D → List D → R (List D)) : mutM i g h ρ = bd (getO ρ i) fun _ => bd (g ρ) fun args => bd (getO ρ i) fun ds => bd (h ds args) fun es => ok (.nx (ρ.set i (.own es))) := (rfl)
@[simp] theorem popM_e (i : Nat) (f : List Sl → R (List D)) (h : List D → List D → R (D × List D)) (g : D → List Sl → R (List Sl)) : popM i f h g ρ = bd (getO ρ i) fun _ => bd (f ρ) fun args => bd (getO ρ i) fun ds => bd (h ds args) fun p => bd (g p.1 (ρ.set i (.own p.2))) fun ρ' => ok (.nx ρ') := (rfl)
theorem fnM_e (n : Nat) (g : List Sl → R Out) (ds : List D) : fnM n g ds = bd (g (env0 ds n)) endM := rfl
theorem fnX_e (j n : Nat) (g : List Sl → R Out) (ds : List D) : fnX j n g ds = bd (g (.box j :: env0 ds (n - 1))) endM := rfl
@[simp] theorem gSet_e (i : Nat) (d : D) : gSet i d ρ = ok (ρ.set i (.dat d)) := (rfl)
theorem ite_ok {b : Bool} {x y : β} : (if b = true then (ok x : R β) else ok y) = ok (if b = true then x else y) := by cases b <;> rfl
/-- truth -/
@[simp] theorem truR_bool (b : Bool) : truR (.bool b) = ok b := (rfl)
@[simp] theorem truR_int (i : Int) : truR (.int i) = ok (i != 0) := (rfl)
@[simp] theorem truR_none : truR .none = ok false := (rfl)
@[simp] theorem truR_tup (l : List α) : truR (tu f l) = ok (!l.isEmpty) := by cases l <;> rfl
@[simp] theorem truR_tuple (l : List D) : truR (.tuple l) = ok (!l.isEmpty) := (rfl)
@[simp] theorem truR_list (l : List D) : truR (.list l) = ok (!l.isEmpty) := (rfl)
/-- numbers -/
@[simp] theorem addR_int (i j : Int) : addR (.int i) (.int j) = ok (.int (i + j)) := (rfl)
@[simp] theorem subR_int (i j : Int) : subR (.int i) (.int j) = ok (.int (i - j)) := (rfl)
@[simp] theorem negR_int (i : Int) : negR (.int i) = ok (.int (-i)) := (rfl)
@[simp] theorem absR_int (i : Int) : absR [.int i] = ok (.int (i.natAbs : Int)) := by
  show ok (PyData.int (if i < 0 then -i else i)) = ok (PyData.int (i.natAbs : Int))
  congr 2; split <;> omega
@[simp] theorem asI_int (i : Int) : asI (.int i) = ok (some i) := (rfl)
theorem mulR_int {i j : Int} (h : mulOk i j) : mulR (.int i) (.int j) = ok (.int (i * j)) := bd_req h _
theorem fdivR_int {i j : Int} (h : divOk j) : fdivR (.int i) (.int j) = ok (.int (i.fdiv j)) := bd_req h _
theorem dpI (i : Int) (d : D) : min (PyData.int i).depth d.depth ≤ 60 := Nat.le_trans (Nat.min_le_left _ _) (by simp [PyData.depth])
theorem dpR (i : Int) (d : D) : min d.depth (PyData.int i).depth ≤ 60 := Nat.le_trans (Nat.min_le_right _ _) (by simp [PyData.depth])
@[simp] theorem eqR_int (i j : Int) : eqR (.int i) (.int j) = ok (.bool (decide (i = j))) := by
  rw [eqR, bd_req (dpI _ _)]; congr 2
@[simp] theorem neR_int (i j : Int) : neR (.int i) (.int j) = ok (.bool (!decide (i = j))) := by
  rw [neR, bd_req (dpI _ _)]; congr 2
theorem ordI (i j : Int) : ordOk (.int i) (.int j) := ⟨by simp [W.alike], by simp, dpI _ _⟩
@[simp] theorem ltR_int (i j : Int) : ltR (.int i) (.int j) = ok (.bool (decide (i < j))) := by
  rw [ltR, bd_req (ordI _ _), W.dataLt_int]
@[simp] theorem gtR_int (i j : Int) : gtR (.int i) (.int j) = ok (.bool (decide (j < i))) := by
  rw [gtR, bd_req (ordI _ _), W.dataLt_int]
@[simp] theorem leR_int (i j : Int) : leR (.int i) (.int j) = ok (.bool (decide (i ≤ j))) := by
  rw [leR, bd_req (ordI _ _), W.dataLt_int]; congr 2; by_cases h : j < i <;> simp [h] <;> omega
@[simp] theorem geR_int (i j : Int) : geR (.int i) (.int j) = ok (.bool (decide (j ≤ i))) := by
  rw [geR, bd_req (ordI _ _), W.dataLt_int]; congr 2; by_cases h : i < j <;> simp [h] <;> omega
/-- rows -/
@[simp] theorem lenR_tup (l : List α) : lenR [tu f l] = ok (.int l.length) := by simp [tu, lenR]
@[simp] theorem lenR_lst (l : List α) : lenR [li f l] = ok (.int l.length) := by simp [li, lenR]
@[simp] theorem lenR_list (l : List D) : lenR [.list l] = ok (.int l.length) := (rfl)
@[simp] theorem lenR_tuple (l : List D) : lenR [.tuple l] = ok (.int l.length) := (rfl)
@[simp] theorem revR_tup (l : List α) : revR (tu f l) = ok (tu f l.reverse) := by simp [tu, revR]
@[simp] theorem tupOfR_list (l : List α) : tupOfR [.list (l.map f)] = ok (tu f l) := (rfl)
@[simp] theorem tupOfR_lst (l : List α) : tupOfR [li f l] = ok (tu f l) := (rfl)
@[simp] theorem tupOfR_tup (l : List α) : tupOfR [tu f l] = ok (tu f l) := (rfl)
@[simp] theorem lstOfR_tup (l : List α) : lstOfR [tu f l] = ok (l.map f) := (rfl)
@[simp] theorem lstOfR_lst (l : List α) : lstOfR [li f l] = ok (l.map f) := (rfl)
theorem cutG_map (l : List α) (lo hi : Option Int) : cutG (l.map f) lo hi = (cutG l lo hi).map f := by simp [cutG, List.map_take, List.map_drop]
@[simp] theorem slR_tup (l : List α) (lo hi : Option Int) : slR (tu f l) lo hi = ok (tu f (cutG l lo hi)) := by
  show ok (PyData.tuple (cutG (l.map f) lo hi)) = _; rw [cutG_map]; rfl
@[simp] theorem slR_lst (l : List α) (lo hi : Option Int) : slR (li f l) lo hi = ok (li f (cutG l lo hi)) := by
  show ok (PyData.list (cutG (l.map f) lo hi)) = _; rw [cutG_map]; rfl
theorem addR_tup {l k : List α} (h : l.length + k.length ≤ sizeLine) : addR (tu f l) (tu f k) = ok (tu f (l ++ k)) := by
  show bd (req _) _ = _
  rw [bd_req (by simpa using h)]; simp [tu]
theorem addR_lst {l k : List α} (h : l.length + k.length ≤ sizeLine) : addR (li f l) (li f k) = ok (li f (l ++ k)) := by
  show bd (req _) _ = _
  rw [bd_req (by simpa using h)]; simp [li]
theorem cut_lo {l : List α} {k : Nat} : cutG l none (some (k : Int)) = l.take k := by
  unfold cutG; rw [HT.sIx_none, HT.sIx_nat]; simp
theorem cut_hi {l : List α} {k : Nat} : cutG l (some (k : Int)) none = l.drop k := by
  unfold cutG; rw [HT.sIx_none, HT.sIx_nat]
  rcases Nat.le_total k l.length with h | h
  · rw [Nat.min_eq_left h]; apply List.take_of_length_le; simp
  · rw [Nat.min_eq_right h, List.drop_of_length_le (Nat.le_refl _), List.drop_of_length_le h]; simp
theorem atI_nat {l : List α} {k : Nat} (h : k < l.length) : L2.atI l (k : Int) = some l[k] := by
  unfold L2.atI L2.ixN
  rw [if_pos (by omega), if_pos (by omega)]
  simp [h]
theorem atI_last (l : List α) : L2.atI l (-1) = l.getLast? := by
  unfold L2.atI L2.ixN
  rw [if_neg (by omega)]
  cases l with
  | nil => simp
  | cons a l =>
    rw [if_pos (by simp; omega)]
    rw [List.getLast?_eq_getElem?]
    show (a :: l)[_]? = _
    congr 1
    simp; omega
theorem atI_map (l : List α) (i : Int) : L2.atI (l.map f) i = (L2.atI l i).map f := by
  unfold L2.atI
  rw [List.length_map]
  cases L2.ixN l.length i <;> simp
theorem ixR_tup {l : List α} {k : Nat} (h : k < l.length) : ixR (tu f l) (.int k) = ok (f l[k]) := by
  show (match L2.atI (l.map f) k with | some x => ok x | none => fail) = _
  rw [atI_map, atI_nat h]; rfl
theorem ixR_lst {l : List α} {k : Nat} (h : k < l.length) : ixR (li f l) (.int k) = ok (f l[k]) := by
  show (match L2.atI (l.map f) k with | some x => ok x | none => fail) = _
  rw [atI_map, atI_nat h]; rfl
theorem ixR_at {l : List D} {i : Int} {d : D} (h : L2.atI l i = some d) : ixR (.tuple l) (.int i) = ok d := by
  show (match L2.atI l i with | some x => ok x | none => fail) = _; rw [h]
theorem ixR_atl {l : List D} {i : Int} {d : D} (h : L2.atI l i = some d) : ixR (.list l) (.int i) = ok d := by
  show (match L2.atI l i with | some x => ok x | none => fail) = _; rw [h]
theorem tupR_e {l : List D} (h : l.length ≤ sizeLine) : tupR l = ok (.tuple l) := bd_req h _
theorem lstR_e {l : List D} (h : l.length ≤ sizeLine) : lstR l = ok l := bd_req h _
@[simp] theorem itR_tup {g : List Sl → R D} {l : List α} (h : g ρ = ok (tu f l)) : itR g ρ = ok (l.map f) := by
  unfold itR; rw [h, bd_ok, show itemsR (tu f l) = ok (l.map f) from rfl, bd_ok, bd_req (.inr (fun z e => by cases e))]
@[simp] theorem itR_lst {g : List Sl → R D} {l : List α} (h : g ρ = ok (li f l)) : itR g ρ = ok (l.map f) := by
  unfold itR; rw [h, bd_ok, show itemsR (li f l) = ok (l.map f) from rfl, bd_ok, bd_req (.inr (fun z e => by cases e))]
theorem itR_tuple {g : List Sl → R D} {l : List D} (h : g ρ = ok (.tuple l)) : itR g ρ = ok l := by
  unfold itR; rw [h, bd_ok, show itemsR (.tuple l) = ok (l) from rfl, bd_ok, bd_req (.inr (fun z e => by cases e))]
theorem itR_list {g : List Sl → R D} {l : List D} (h : g ρ = ok (.list l)) : itR g ρ = ok l := by
  unfold itR; rw [h, bd_ok, show itemsR (.list l) = ok (l) from rfl, bd_ok, bd_req (.inr (fun z e => by cases e))]
def nI (k : Nat) : D := .int (k : Int)
theorem range1_e {n : Int} (h : n ≤ sizeLine) (h' : -1000 ≤ n) : range1R [.int n] = ok ((List.range n.toNat).map nI) := by
  have h2 : (sizeLine : Int) < 2 ^ 62 := by decide
  show bd (req _) _ = _
  rw [bd_req ⟨by omega, by omega, by omega, by omega, by omega⟩]
  show ok (rngD 0 n) = _
  congr 1
  simp [rngD]; intro a _; rfl
/-- a comprehension -/
theorem lcM_set {vs : List Nat} {i : Nat} {fi : List Sl → R (List D)} {tt : List Sl → R Bool} {te : List Sl → R D} {l : List α} {p : α → Bool} {h : α → D} (hi : fi ρ = ok (l.map f))
    (ht : ∀ x ∈ l, tt ((wipeS ρ vs).set i (.dat (f x))) = ok (p x)) (he : ∀ x ∈ l, p x = true → te ((wipeS ρ vs).set i (.dat (f x))) = ok (h x)) : lcM vs fi (gSet i) tt te ρ = ok ((l.filter p).map h) := by
  rw [lcM_e, hi, bd_ok]
  generalize wipeS ρ vs = σ at ht he
  clear hi
  induction l with
  | nil => rfl
  | cons x l ih =>
    have ih := ih (fun y hy => ht y (List.mem_cons_of_mem _ hy)) (fun y hy => he y (List.mem_cons_of_mem _ hy))
    rw [List.map_cons, lcF, gSet_e, bd_ok, ht x List.mem_cons_self, bd_ok]
    cases hp : p x with
    | false => rw [if_neg (by simp), ih, List.filter_cons_of_neg (by simp [hp])]
    | true => rw [if_pos rfl, he x List.mem_cons_self hp, bd_ok, ih, bd_ok, List.filter_cons_of_pos hp]; rfl
theorem lcM_map {vs : List Nat} {i : Nat} {fi : List Sl → R (List D)} {te : List Sl → R D} {l : List α} {h : α → D} (hi : fi ρ = ok (l.map f))
    (he : ∀ x ∈ l, te ((wipeS ρ vs).set i (.dat (f x))) = ok (h x)) : lcM vs fi (gSet i) yesT te ρ = ok (l.map h) := by
  rw [lcM_set (p := fun _ => true) hi (fun x hx => rfl) (fun x hx _ => he x hx), List.filter_eq_self.mpr (fun _ _ => rfl)]
theorem forF_set {i : Nat} {tb : List Sl → R Out} {l : List α} (st : β → List Sl) (step : β → α → β) (h : ∀ b, ∀ x ∈ l, tb ((st b).set i (.dat (f x))) = ok (.nx (st (step b x)))) (b : β) : forF (gSet i) tb (l.map f) (st b) = ok (.nx (st (l.foldl step b))) := by
  induction l generalizing b with
  | nil => rfl
  | cons x l ih =>
    rw [List.map_cons, forF, gSet_e, bd_ok, h b x List.mem_cons_self, bd_ok, lpO_nx, ih fun b y hy => h b y (List.mem_cons_of_mem _ hy)]
    rfl
theorem forF_inv {i : Nat} {tb : List Sl → R Out} (st : β → List Sl) (step : β → α → β) (J : β → List α → Prop) (h : ∀ b x r, J b (x :: r) → tb ((st b).set i (.dat (f x))) = ok (.nx (st (step b x))) ∧ J (step b x) r) : ∀ (l : List α) (b : β), J b l → forF (gSet i) tb (l.map f) (st b) = ok (.nx (st (l.foldl step b)))
  | [], b, _ => rfl
  | x :: l, b, j => by
    obtain ⟨h1, h2⟩ := h b x l j
    rw [List.map_cons, forF, gSet_e, bd_ok, h1, bd_ok, lpO_nx, forF_inv st step J h l _ h2]
    rfl
theorem ixR_last {l : List α} {x : α} (h : l.getLast? = some x) : ixR (.list (l.map f)) (.int (-1)) = ok (f x) := ixR_atl (by rw [atI_map, atI_last, h]; rfl)
theorem whileM_step {t : List Sl → R Bool} {g : List Sl → R Out} {ρ' : List Sl} (ht : t ρ = ok true) (hg : g ρ = ok (.nx ρ')) : whileM t g ρ = whileM t g ρ' := by
  funext post
  apply propext
  constructor
  · rintro ⟨n, h⟩
    cases n with
    | zero => exact h.elim
    | succ n => rw [whileF, ht, bd_ok, if_pos rfl, hg] at h; exact ⟨n, h⟩
  · rintro ⟨n, h⟩
    exact ⟨n + 1, by rw [whileF, ht, bd_ok, if_pos rfl, hg]; exact h⟩
theorem whileM_stop {t : List Sl → R Bool} {g : List Sl → R Out} (ht : t ρ = ok false) : whileM t g ρ = ok (.nx ρ) := by
  funext post
  apply propext
  constructor
  · rintro ⟨n, h⟩
    cases n with
    | zero => exact h.elim
    | succ n => rw [whileF, ht, bd_ok, if_neg (by simp)] at h; exact h
  · intro h
    exact ⟨1, by rw [whileF, ht, bd_ok, if_neg (by simp)]; exact h⟩
theorem allR_bools {l : List α} {p : α → Bool} : allR [.list (l.map fun x => .bool (p x))] = ok (.bool (l.all p)) := by
  show qV (fun ds => ds.all PyData.truthy) (l.map fun x => .bool (p x)) = _
  unfold qV
  rw [bd_req (by simp [List.all_eq_true, smallT])]
  congr 2
  simp only [List.all_map]; rfl
theorem eqvAll_map {f : α → D} (hf : ∀ x y, PyData.eqv (f x) (f y) = true ↔ x = y) : ∀ l k : List α, PyData.eqvAll (l.map f) (k.map f) = true ↔ l = k
  | [], [] => by simp [PyData.eqvAll]
  | [], _ :: _ => by simp [PyData.eqvAll]
  | _ :: _, [] => by simp [PyData.eqvAll]
  | x :: l, y :: k => by
    rw [List.map_cons, List.map_cons, W.eqv_all_cons, Bool.and_eq_true, hf, eqvAll_map hf l k]; simp
theorem eqv_int (i j : Int) : PyData.eqv (.int i) (.int j) = true ↔ i = j := by simp [PyData.eqv]
@[simp] theorem set_0 (s t : Sl) (ρ : List Sl) : (s :: ρ).set 0 t = t :: ρ := (rfl)
@[simp] theorem set_s (s t : Sl) (i : Nat) (ρ : List Sl) : (s :: ρ).set (i + 1) t = s :: ρ.set i t := (rfl)
theorem eqR_tup {l k : List Int} : eqR (tu PyData.int l) (tu PyData.int k) = ok (.bool (decide (l = k))) := by
  have hd : ∀ l : List Int, PyData.depth (tu PyData.int l) ≤ 60 := by
    intro l
    have : ∀ l : List Int, PyData.depthAll (l.map PyData.int) ≤ 1 := by
      intro l
      induction l with
      | nil => simp [PyData.depthAll]
      | cons x l ih => simp [PyData.depthAll, PyData.depth]; omega
    have := this l
    simp only [tu, PyData.depth]; omega
  rw [eqR, bd_req (Nat.le_trans (Nat.min_le_left _ _) (hd _))]
  congr 2
  have : PyData.eqv (tu PyData.int l) (tu PyData.int k) = true ↔ l = k := by
    show PyData.eqv (.tuple (l.map .int)) (.tuple (k.map .int)) = true ↔ _
    simp only [PyData.eqv]
    exact eqvAll_map eqv_int l k
  by_cases h : l = k
  · rw [decide_eq_true h]; exact this.mpr h
  · rw [decide_eq_false h]; exact Bool.eq_false_iff.mpr fun e => h (this.mp e)
theorem neR_of {d e : D} {b : Bool} (h : eqR d e = ok (.bool b)) (hd : min d.depth e.depth ≤ 60) : neR d e = ok (.bool (!b)) := by
  rw [eqR, bd_req hd] at h
  rw [neR, bd_req hd]
  have := congrFun h (fun z => z = .bool b)
  have e2 : PyData.bool (PyData.eqv d e) = .bool b := by
    have : (PyData.bool (PyData.eqv d e) = .bool b) = (PyData.bool b = .bool b) := this
    rw [this]
  injection e2 with e2
  rw [e2]
end
end Pu

namespace Pu
open PySem PySem.Spec PyProof.Rows L2
variable [Tb]
/-! ### draws; loops that may go several ways; short displays -/
theorem eqR_bool (b c : Bool) : eqR (.bool b) (.bool c) = ok (.bool (b == c)) := by
  rw [eqR, bd_req (Nat.le_trans (Nat.min_le_left _ _) (by simp [PyData.depth]))]; congr 2
def dr (n : Int) : R D := fun post => ∀ d : Int, 0 ≤ d → d < n → post (.int d)
theorem bd_dr {α : Type} {n : Int} {k : D → R α} {post : α → Prop} : bd (dr n) k post ↔ ∀ d : Int, 0 ≤ d → d < n → k (.int d) post := Iff.rfl
theorem ok_ap {α : Type} (a : α) (p : α → Prop) : ok a p = p a := (rfl)
theorem getX_0 (j : Nat) (ρ : List Sl) : getX (.box j :: ρ) 0 j = ok () := bd_req rfl ok
theorem getX_s (i j : Nat) (s : Sl) (ρ : List Sl) : getX (s :: ρ) (i + 1) j = getX ρ i j := rfl
theorem draw_e {ρ : List Sl} {i j : Nat} {g : List Sl → R (List D)} {n : Int} (hg : g ρ = ok [.int n]) (h : 0 < n) (h' : n < 1073741824) (hx : getX ρ i j = ok ()) : callX i j 1 g drawM ρ = dr n := by
  show bd (getX ρ i j) (fun _ => bd (g ρ) (callR 1 drawM)) = _
  rw [hx, bd_ok, hg, bd_ok, callR_1]
  show bd (req _) _ = _
  rw [bd_req ⟨h, h'⟩]; rfl
theorem callX_e {ρ : List Sl} {i j n : Nat} {g : List Sl → R (List D)} {m : List D → R D} {ds : List D} (hg : g ρ = ok ds) (hx : getX ρ i j = ok ()) (hn : ds.length = n) : callX i j n g m ρ = m ds := by
  show bd (getX ρ i j) (fun _ => bd (g ρ) (callR n m)) = _
  rw [hx, bd_ok, hg, bd_ok]
  show bd (req _) _ = _
  rw [bd_req hn]
theorem forF_dem {α : Type} {i : Nat} {tb : List Sl → R Out} {f : α → D} (J : List α → List Sl → Prop) (h : ∀ x r ρ (post : Out → Prop), J (x :: r) ρ → (∀ ρ', J r ρ' → post (.nx ρ')) → tb (ρ.set i (.dat (f x))) post) : ∀ (l : List α) (ρ : List Sl) (post : Out → Prop), J l ρ → (∀ ρ', J [] ρ' → post (.nx ρ')) → forF (gSet i) tb (l.map f) ρ post
  | [], ρ, post, j, hp => hp ρ j
  | x :: l, ρ, post, j, hp => by
    rw [List.map_cons, forF, gSet_e, bd_ok]
    exact h x l ρ _ j fun ρ' j' => forF_dem J h l ρ' post j' hp
theorem lcM_dem {ρ : List Sl} {vs : List Nat} {i : Nat} {fi : List Sl → R (List D)} {te : List Sl → R D} {ds : List D} {P : D → Prop} (hi : fi ρ = ok ds)
    (he : ∀ d ∈ ds, ∀ post : D → Prop, (∀ y, P y → post y) → te ((wipeS ρ vs).set i (.dat d)) post) (post : List D → Prop) (hp : ∀ ys, ys.length = ds.length → (∀ y ∈ ys, P y) → post ys) : lcM vs fi (gSet i) yesT te ρ post := by
  rw [lcM_e, hi, bd_ok]
  generalize wipeS ρ vs = σ at he
  clear hi
  induction ds generalizing post with
  | nil => exact hp [] rfl (by simp)
  | cons d ds ih =>
    rw [lcF, gSet_e, bd_ok, yesT_e, bd_ok, if_pos rfl]
    refine he d List.mem_cons_self _ fun y hy => ?_
    refine ih _ (fun ys hl hys => ?_) (fun d hd => he d (List.mem_cons_of_mem _ hd))
    refine hp (y :: ys) (by simp [hl]) fun z hz => ?_
    rcases List.mem_cons.mp hz with rfl | hz
    · exact hy
    · exact hys z hz
theorem lcM_sub {α : Type} {f : α → D} {ρ : List Sl} {vs : List Nat} {i : Nat} {fi : List Sl → R (List D)} {tt : List Sl → R Bool} {te : List Sl → R D} {l : List α} (hi : fi ρ = ok (l.map f))
    (ht : ∀ x ∈ l, ∀ post : Bool → Prop, (∀ b, post b) → tt ((wipeS ρ vs).set i (.dat (f x))) post) (he : ∀ x ∈ l, te ((wipeS ρ vs).set i (.dat (f x))) = ok (f x)) (post : List D → Prop) (hp : ∀ ns : List α, (∀ x ∈ ns, x ∈ l) → post (ns.map f)) : lcM vs fi (gSet i) tt te ρ post := by
  rw [lcM_e, hi, bd_ok]
  generalize wipeS ρ vs = σ at ht he
  clear hi
  induction l generalizing post with
  | nil => exact hp [] (by simp)
  | cons x l ih =>
    rw [List.map_cons, lcF, gSet_e, bd_ok]
    refine ht x List.mem_cons_self _ fun b => ?_
    have ih := fun post hp => ih post hp (fun y hy => ht y (List.mem_cons_of_mem _ hy)) (fun y hy => he y (List.mem_cons_of_mem _ hy))
    cases b with
    | false => exact ih post fun ns hns => hp ns fun y hy => List.mem_cons_of_mem _ (hns y hy)
    | true =>
      show bd (te (σ.set i (.dat (f x)))) _ post
      rw [he x List.mem_cons_self, bd_ok]
      refine ih _ fun ns hns => ?_
      exact hp (x :: ns) fun y hy => by
        rcases List.mem_cons.mp hy with rfl | hy
        · exact List.mem_cons_self
        · exact List.mem_cons_of_mem _ (hns y hy)
theorem forF_cons_ok {i : Nat} {tb : List Sl → R Out} {d : D} {ds : List D} {ρ ρ1 : List Sl} (h : tb (ρ.set i (.dat d)) = ok (.nx ρ1)) : forF (gSet i) tb (d :: ds) ρ = forF (gSet i) tb ds ρ1 := by rw [forF, gSet_e, bd_ok, h, bd_ok, lpO_nx]
theorem forF_nil {g : D → List Sl → R (List Sl)} {tb : List Sl → R Out} {ρ : List Sl} : forF g tb [] ρ = ok (.nx ρ) := by rw [forF]
theorem callX_u {ρ : List Sl} {i j n : Nat} {g : List Sl → R (List D)} {m : List D → R D} (hx : getX ρ i j = ok ()) : callX i j n g m ρ = bd (g ρ) (callR n m) := by
  show bd (getX ρ i j) (fun _ => bd (g ρ) (callR n m)) = _
  rw [hx, bd_ok]
theorem getX_1 (j : Nat) (s : Sl) (ρ : List Sl) : getX (s :: .box j :: ρ) 1 j = ok () := by rw [getX_s, getX_0]
abbrev Sm (i : Int) : Prop := -(2 ^ 64) < i ∧ i < 2 ^ 64
theorem mul_l {i j : Int} (h : Sm i) : mulR (.int i) (.int j) = ok (.int (i * j)) := mulR_int (.inl h)
theorem mul_r {i j : Int} (h : Sm j) : mulR (.int i) (.int j) = ok (.int (i * j)) := mulR_int (.inr (.inl h))
theorem tup0 : tupR ([] : List D) = ok (.tuple []) := tupR_e (show 0 ≤ 2 ^ 24 by omega)
theorem tup1 (a : D) : tupR ([a] : List D) = ok (.tuple [a]) := tupR_e (show 1 ≤ 2 ^ 24 by omega)
theorem tup2 (a b : D) : tupR ([a, b] : List D) = ok (.tuple [a, b]) := tupR_e (show 2 ≤ 2 ^ 24 by omega)
theorem tup3 (a b c : D) : tupR ([a, b, c] : List D) = ok (.tuple [a, b, c]) := tupR_e (show 3 ≤ 2 ^ 24 by omega)
theorem tup4 (a b c d : D) : tupR ([a, b, c, d] : List D) = ok (.tuple [a, b, c, d]) := tupR_e (show 4 ≤ 2 ^ 24 by omega)
theorem tup5 (a b c d e : D) : tupR ([a, b, c, d, e] : List D) = ok (.tuple [a, b, c, d, e]) := tupR_e (show 5 ≤ 2 ^ 24 by omega)
theorem tup6 (a b c d e f : D) : tupR ([a, b, c, d, e, f] : List D) = ok (.tuple [a, b, c, d, e, f]) := tupR_e (show 6 ≤ 2 ^ 24 by omega)
theorem lst0 : lstR ([] : List D) = ok [] := lstR_e (show 0 ≤ 2 ^ 24 by omega)
theorem lst1 (x0 : D) : lstR ([x0] : List D) = ok [x0] := lstR_e (show 1 ≤ 2 ^ 24 by omega)
theorem lst2 (x0 x1 : D) : lstR ([x0, x1] : List D) = ok [x0, x1] := lstR_e (show 2 ≤ 2 ^ 24 by omega)
theorem lst3 (x0 x1 x2 : D) : lstR ([x0, x1, x2] : List D) = ok [x0, x1, x2] := lstR_e (show 3 ≤ 2 ^ 24 by omega)
theorem lst4 (x0 x1 x2 x3 : D) : lstR ([x0, x1, x2, x3] : List D) = ok [x0, x1, x2, x3] := lstR_e (show 4 ≤ 2 ^ 24 by omega)
theorem lst5 (x0 x1 x2 x3 x4 : D) : lstR ([x0, x1, x2, x3, x4] : List D) = ok [x0, x1, x2, x3, x4] := lstR_e (show 5 ≤ 2 ^ 24 by omega)
theorem lst6 (x0 x1 x2 x3 x4 x5 : D) : lstR ([x0, x1, x2, x3, x4, x5] : List D) = ok [x0, x1, x2, x3, x4, x5] := lstR_e (show 6 ≤ 2 ^ 24 by omega)
theorem lst7 (x0 x1 x2 x3 x4 x5 x6 : D) : lstR ([x0, x1, x2, x3, x4, x5, x6] : List D) = ok [x0, x1, x2, x3, x4, x5, x6] := lstR_e (show 7 ≤ 2 ^ 24 by omega)
theorem lst8 (x0 x1 x2 x3 x4 x5 x6 x7 : D) : lstR ([x0, x1, x2, x3, x4, x5, x6, x7] : List D) = ok [x0, x1, x2, x3, x4, x5, x6, x7] := lstR_e (show 8 ≤ 2 ^ 24 by omega)
theorem lst9 (x0 x1 x2 x3 x4 x5 x6 x7 x8 : D) : lstR ([x0, x1, x2, x3, x4, x5, x6, x7, x8] : List D) = ok [x0, x1, x2, x3, x4, x5, x6, x7, x8] := lstR_e (show 9 ≤ 2 ^ 24 by omega)
theorem lst10 (x0 x1 x2 x3 x4 x5 x6 x7 x8 x9 : D) : lstR ([x0, x1, x2, x3, x4, x5, x6, x7, x8, x9] : List D) = ok [x0, x1, x2, x3, x4, x5, x6, x7, x8, x9] := lstR_e (show 10 ≤ 2 ^ 24 by omega)
theorem lst11 (x0 x1 x2 x3 x4 x5 x6 x7 x8 x9 x10 : D) : lstR ([x0, x1, x2, x3, x4, x5, x6, x7, x8, x9, x10] : List D) = ok [x0, x1, x2, x3, x4, x5, x6, x7, x8, x9, x10] := lstR_e (show 11 ≤ 2 ^ 24 by omega)
theorem lst12 (x0 x1 x2 x3 x4 x5 x6 x7 x8 x9 x10 x11 : D) : lstR ([x0, x1, x2, x3, x4, x5, x6, x7, x8, x9, x10, x11] : List D) = ok [x0, x1, x2, x3, x4, x5, x6, x7, x8, x9, x10, x11] := lstR_e (show 12 ≤ 2 ^ 24 by omega)
theorem ix0 (a : D) (l : List D) : ixR (.tuple (a :: l)) (.int 0) = ok a := ixR_at (by rw [show (0 : Int) = ((0 : Nat) : Int) from rfl, Pu.atI_nat (by simp)]; rfl)
theorem ix1 (a b : D) (l : List D) : ixR (.tuple (a :: b :: l)) (.int 1) = ok b := ixR_at (by rw [show (1 : Int) = ((1 : Nat) : Int) from rfl, Pu.atI_nat (by simp)]; rfl)
theorem ix0l (a : D) (l : List D) : ixR (.list (a :: l)) (.int 0) = ok a := ixR_atl (by rw [show (0 : Int) = ((0 : Nat) : Int) from rfl, Pu.atI_nat (by simp)]; rfl)
theorem addR_tuple {x y : List D} (h : x.length + y.length ≤ 2 ^ 24) : addR (.tuple x) (.tuple y) = ok (.tuple (x ++ y)) := bd_req h _
theorem addR_list {x y : List D} (h : x.length + y.length ≤ 2 ^ 24) : addR (.list x) (.list y) = ok (.list (x ++ y)) := bd_req h _
theorem any_loop {i : Nat} {tb : List Sl → R Out} (J : List Sl → Prop) (h : ∀ d ρ, J ρ → ∃ ρ', J ρ' ∧ tb (ρ.set i (.dat d)) = ok (.nx ρ')) : ∀ (ds : List D) (ρ : List Sl), J ρ → ∃ ρ', J ρ' ∧ forF (gSet i) tb ds ρ = ok (.nx ρ')
  | [], ρ, j => ⟨ρ, j, forF_nil⟩
  | d :: ds, ρ, j => by
    obtain ⟨ρ1, j1, e1⟩ := h d ρ j
    obtain ⟨ρ2, j2, e2⟩ := any_loop J h ds ρ1 j1
    exact ⟨ρ2, j2, by rw [forF_cons_ok e1, e2]⟩
theorem seq_s {x t : List Sl → R Out} {ρ ρ' : List Sl} {post : Out → Prop} (h : x ρ = ok (.nx ρ')) (k : t ρ' post) : seqM x t ρ post := by
  rw [seqM_e, h, bd_ok, nxt_nx]; exact k
theorem seq_d {x t : List Sl → R Out} {ρ : List Sl} {post : Out → Prop} (h : x ρ (fun o => nxt t o post)) : seqM x t ρ post := h
theorem bd_ix {α : Type} {l : List D} {d : Int} {k : D → R α} {post : α → Prop} (h0 : 0 ≤ d) (h : d < l.length) (hp : ∀ x, k x post) : bd (ixR (.list l) (.int d)) k post := by
  obtain ⟨n, rfl⟩ := Int.eq_ofNat_of_zero_le h0
  rw [ixR_atl (Pu.atI_nat (by omega)), bd_ok]
  exact hp _
theorem ix_tot {l : List D} {d : Int} {post : D → Prop} (h0 : 0 ≤ d) (h : d < l.length) (hp : ∀ x, post x) : ixR (.list l) (.int d) post := bd_ix (k := ok) h0 h hp
end Pu

namespace Pu
open PySem PySem.Spec PyProof.Rows L2
variable [Tb]
/-! ### least ones, sorted rows -/
theorem lt_trans3 {a b c : D} (h1 : W.dataLt a b = false) (h2 : W.dataLt b c = false) : W.dataLt a c = false := by
  cases h : W.dataLt a c with
  | false => rfl
  | true =>
    exfalso
    unfold W.dataLt at h h1 h2
    by_cases e : PyProof.Rows.lexLt PyProof.Rows.itemOrd (W.keyToks b) (W.keyToks a) = true
    · have := PyProof.Rows.lex_trans (O := PyProof.Rows.itemOrd) _ _ _ e h
      rw [this] at h2; cases h2
    · have := PyProof.Rows.lex_total (O := PyProof.Rows.itemOrd) _ _ h1 (by simpa using e)
      rw [this] at h; rw [h] at h2; cases h2
theorem lt_asymm2 {a b : D} (h : W.dataLt a b = true) : W.dataLt b a = false := by
  cases h2 : W.dataLt b a with
  | false => rfl
  | true =>
    exfalso
    unfold W.dataLt at h h2
    have := PyProof.Rows.lex_trans (O := PyProof.Rows.itemOrd) _ _ _ h h2
    rw [PyProof.Rows.lex_irrefl] at this; cases this
theorem minD_spec : ∀ (xs : List D) (x : D), W.minD x xs ∈ x :: xs ∧ ∀ y ∈ x :: xs, W.dataLt y (W.minD x xs) = false
  | [], x => ⟨by simp [W.minD], fun y hy => by
    simp at hy; subst hy; exact PyProof.Rows.lex_irrefl _⟩
  | z :: xs, x => by
    have e : W.minD x (z :: xs) = W.minD (if W.dataLt z x then z else x) xs := rfl
    rw [e]
    obtain ⟨h1, h2⟩ := minD_spec xs (if W.dataLt z x then z else x)
    cases hz : W.dataLt z x with
    | true =>
      simp only [hz, if_true] at h1 h2 ⊢
      refine ⟨List.mem_cons_of_mem _ h1, fun y hy => ?_⟩
      rcases List.mem_cons.mp hy with rfl | hy
      · exact lt_trans3 (lt_asymm2 hz) (h2 z List.mem_cons_self)
      · exact h2 y hy
    | false =>
      simp only [hz, Bool.false_eq_true, if_false] at h1 h2 ⊢
      refine ⟨?_, fun y hy => ?_⟩
      · rcases List.mem_cons.mp h1 with h1 | h1
        · rw [h1]; exact List.mem_cons_self
        · exact List.mem_cons_of_mem _ (List.mem_cons_of_mem _ h1)
      · rcases List.mem_cons.mp hy with rfl | hy
        · exact h2 y List.mem_cons_self
        · rcases List.mem_cons.mp hy with rfl | hy
          · exact lt_trans3 hz (h2 x List.mem_cons_self)
          · exact h2 y (List.mem_cons_of_mem _ hy)
theorem dLe_trans (a b c : D) (h1 : dLe a b = true) (h2 : dLe b c = true) : dLe a c = true := by
  unfold dLe at *
  simp at *
  exact lt_trans3 h2 h1
theorem dLe_total (a b : D) : (dLe a b || dLe b a) = true := by
  unfold dLe
  cases h : W.dataLt b a with
  | false => rfl
  | true => simp [lt_asymm2 h]
/-- the first of a sorted row is the least -/
theorem sort_head {x : D} {xs : List D} (inj : ∀ a ∈ x :: xs, ∀ b ∈ x :: xs, W.keyToks a = W.keyToks b → a = b) : ∃ r, (x :: xs).mergeSort dLe = W.minD x xs :: r := by
  obtain ⟨h1, h2⟩ := minD_spec xs x
  have hp := List.mergeSort_perm (x :: xs) dLe
  have hs := List.pairwise_mergeSort (le := dLe) dLe_trans dLe_total (x :: xs)
  cases e : (x :: xs).mergeSort dLe with
  | nil => rw [e] at hp; exact absurd hp.length_eq (by simp)
  | cons m r =>
    rw [e] at hp hs
    refine ⟨r, ?_⟩
    have hm : m ∈ x :: xs := hp.mem_iff.mp List.mem_cons_self
    have hd : W.minD x xs ∈ m :: r := hp.mem_iff.mpr h1
    have : m = W.minD x xs := by
      rcases List.mem_cons.mp hd with hd | hd
      · exact hd.symm
      · have h3 := (List.pairwise_cons.mp hs).1 _ hd
        unfold dLe at h3
        simp at h3
        exact inj _ hm _ h1 (PyProof.Rows.lex_total (O := PyProof.Rows.itemOrd) _ _ (h2 m hm) h3)
    rw [this]
theorem toks_nat : ∀ a b : List Nat, W.keyToksAll (a.map nI) = W.keyToksAll (b.map nI) → a = b
  | [], [], _ => rfl
  | [], _ :: _, h => by simp [W.keyToksAll] at h
  | _ :: _, [], h => by simp [W.keyToksAll] at h
  | x :: a, y :: b, h => by
    simp [W.keyToksAll, W.keyToks, nI] at h
    obtain ⟨h1, h2⟩ := h
    have h3 : x = y := by omega
    rw [h3, toks_nat a b h2]
theorem toks_tu (a b : List Nat) (h : W.keyToks (tu nI a) = W.keyToks (tu nI b)) : a = b := toks_nat a b (by simpa [tu, W.keyToks] using h)
theorem alike_nats : ∀ a b : List Nat, W.alikeAll (a.map nI) (b.map nI) = true
  | [], _ => by simp [W.alikeAll]
  | _ :: _, [] => by simp [W.alikeAll]
  | x :: a, y :: b => by
    show W.alikeAll (nI x :: a.map nI) (nI y :: b.map nI) = true
    rw [W.alikeAll, alike_nats a b]
    simp [nI, W.alike]
theorem alike_tu (a b : List Nat) : W.alike (tu nI a) (tu nI b) = true := by
  show W.alike (.tuple (a.map nI)) (.tuple (b.map nI)) = true
  rw [W.alike]; exact alike_nats a b
theorem depth_nats : ∀ a : List Nat, PyData.depthAll (a.map nI) = 0
  | [] => by simp [PyData.depthAll]
  | x :: a => by
    show PyData.depthAll (nI x :: a.map nI) = 0
    rw [PyData.depthAll, depth_nats a]
    simp [nI, PyData.depth]
theorem depth_tu (a : List Nat) : (tu nI a).depth = 1 := by
  show (PyData.tuple (a.map nI)).depth = 1
  simp [PyData.depth, depth_nats]
theorem depth_rows : ∀ ds : List (List Nat), PyData.depthAll (ds.map (tu nI)) ≤ 1
  | [] => by simp [PyData.depthAll]
  | a :: ds => by
    have := depth_rows ds
    simp [PyData.depthAll, depth_tu]; omega
/-- the first of some rows -/
theorem min_rows (a : List Nat) (ds : List (List Nat)) : ∃ m ∈ a :: ds, minR [.list ((a :: ds).map (tu nI))] = ok (tu nI m) ∧ ∃ r, ((a :: ds).map (tu nI)).mergeSort dLe = tu nI m :: r := by
  obtain ⟨h1, _⟩ := minD_spec (ds.map (tu nI)) (tu nI a)
  rw [← List.map_cons] at h1
  obtain ⟨m, hm, e⟩ := List.mem_map.mp h1
  refine ⟨m, hm, ?_, ?_⟩
  · show bestV W.minD (tu nI a :: ds.map (tu nI)) = _
    show bd (req (W.AlikeAll (tu nI a :: ds.map (tu nI)) ∧ PyData.depthAll (tu nI a :: ds.map (tu nI)) ≤ 60)) (fun _ => ok (W.minD (tu nI a) (ds.map (tu nI)))) = _
    rw [bd_req, e]
    refine ⟨⟨fun x hx y hy => ?_, fun x hx => ?_⟩, ?_⟩
    · rw [← List.map_cons] at hx hy
      obtain ⟨x, _, rfl⟩ := List.mem_map.mp hx
      obtain ⟨y, _, rfl⟩ := List.mem_map.mp hy
      exact alike_tu x y
    · rw [← List.map_cons] at hx
      obtain ⟨x, _, rfl⟩ := List.mem_map.mp hx
      intro h; cases h
    · have := depth_rows (a :: ds)
      rw [List.map_cons] at this; omega
  · rw [e, List.map_cons]
    refine sort_head fun x hx y hy h => ?_
    rw [← List.map_cons] at hx hy
    obtain ⟨x, _, rfl⟩ := List.mem_map.mp hx
    obtain ⟨y, _, rfl⟩ := List.mem_map.mp hy
    rw [toks_tu x y h]
theorem sort_rows {ds : List (List Nat)} (hl : ds.length ≤ sizeLine) (hk : (∀ d ∈ ds, d ≠ []) ∨ ds.length ≤ 1) : sortedR [.list (ds.map (tu nI))] = ok ((ds.map (tu nI)).mergeSort dLe) := by
  show srtV (ds.map (tu nI)) = _
  unfold srtV
  rw [bd_req]
  refine ⟨fun x hx y hy => ?_, ?_, fun x hx => ?_, by simpa using hl⟩
  · obtain ⟨x, _, rfl⟩ := List.mem_map.mp hx
    obtain ⟨y, _, rfl⟩ := List.mem_map.mp hy
    exact alike_tu x y
  · rcases hk with hk | hk
    · refine .inl (.inl fun d hd => ?_)
      obtain ⟨x, hx, rfl⟩ := List.mem_map.mp hd
      cases x with
      | nil => exact absurd rfl (hk _ hx)
      | cons y x => exact ⟨_, _, rfl⟩
    · refine .inr (.inl ⟨by simpa using hk, fun d hd => ?_⟩)
      obtain ⟨x, hx, rfl⟩ := List.mem_map.mp hd
      intro h; cases h
  · obtain ⟨x, _, rfl⟩ := List.mem_map.mp hx
    rw [depth_tu]; omega
/-- rows, the empty one first -/
theorem sort_rows0 {ds : List (List Nat)} (hl : ds.length < sizeLine) : sortedR [.list (([] :: ds).map (tu nI))] = ok ((([] :: ds).map (tu nI)).mergeSort dLe) := by
  show srtV (([] :: ds).map (tu nI)) = _
  unfold srtV
  rw [bd_req]
  refine ⟨fun x hx y hy => ?_, .inr (.inr ⟨ds.map (tu nI), rfl, fun d hd => ?_⟩), fun x hx => ?_, by simp; omega⟩
  · obtain ⟨x, _, rfl⟩ := List.mem_map.mp hx
    obtain ⟨y, _, rfl⟩ := List.mem_map.mp hy
    exact alike_tu x y
  · obtain ⟨x, _, rfl⟩ := List.mem_map.mp hd
    exact ⟨_, rfl⟩
  · obtain ⟨x, _, rfl⟩ := List.mem_map.mp hx
    rw [depth_tu]; omega
/-! ### loops and comprehensions with several targets -/
section
variable {α β : Type} {f : α → D} {ρ : List Sl}
theorem forF_invG {g : D → List Sl → R (List Sl)} {tb : List Sl → R Out} (st : β → List Sl) (step : β → α → β) (J : β → List α → Prop) (h : ∀ b x r, J b (x :: r) → (bd (g (f x) (st b)) tb = ok (.nx (st (step b x)))) ∧ J (step b x) r) : ∀ (l : List α) (b : β), J b l → forF g tb (l.map f) (st b) = ok (.nx (st (l.foldl step b)))
  | [], b, _ => rfl
  | x :: l, b, j => by
    obtain ⟨h1, h2⟩ := h b x l j
    rw [List.map_cons, forF, ← bd_bd, h1, bd_ok, lpO_nx, forF_invG st step J h l _ h2]
    rfl
theorem lcM_G {vs : List Nat} {g : D → List Sl → R (List Sl)} {fi : List Sl → R (List D)} {tt : List Sl → R Bool} {te : List Sl → R D} {l : List α} {p : α → Bool} {h : α → D} {σ : α → List Sl} (hi : fi ρ = ok (l.map f)) (hg : ∀ x ∈ l, g (f x) (wipeS ρ vs) = ok (σ x))
    (ht : ∀ x ∈ l, tt (σ x) = ok (p x)) (he : ∀ x ∈ l, p x = true → te (σ x) = ok (h x)) : lcM vs fi g tt te ρ = ok ((l.filter p).map h) := by
  rw [lcM_e, hi, bd_ok]
  generalize wipeS ρ vs = τ at hg
  clear hi
  induction l with
  | nil => rfl
  | cons x l ih =>
    have ih := ih (fun y hy => ht y (List.mem_cons_of_mem _ hy)) (fun y hy => he y (List.mem_cons_of_mem _ hy)) (fun y hy => hg y (List.mem_cons_of_mem _ hy))
    rw [List.map_cons, lcF, hg x List.mem_cons_self, bd_ok, ht x List.mem_cons_self, bd_ok]
    cases hp : p x with
    | false => rw [if_neg (by simp), ih, List.filter_cons_of_neg (by simp [hp])]
    | true => rw [if_pos rfl, he x List.mem_cons_self hp, bd_ok, ih, bd_ok, List.filter_cons_of_pos hp]; rfl
theorem gT2 {g h : D → List Sl → R (List Sl)} {a b : D} : gTupR 2 (gConsR g (gConsR h gNilR)) (.tuple [a, b]) ρ = bd (g a ρ) (h b) := by
  show bd (req ([a, b].length = 2)) _ = _
  rw [bd_req (show [a, b].length = 2 from rfl)]
  show bd (g a ρ) (gConsR h gNilR [b]) = _
  have : gConsR h gNilR [b] = h b := by
    funext ρ'
    show bd (h b ρ') (gNilR []) = _
    exact bd_ret _
  rw [this]
end
end Pu

namespace Rt
def q (a b : Int) : Rat := (a : Rat) / (b : Rat)
theorem q_eq (a b : Int) : q a b = Rat.divInt a b := (Rat.divInt_eq_div a b).symm
theorem gcd_pos {p k : Int} (h : k ≠ 0) : (0 : Int) < (Int.gcd p k : Int) := by
  have := Int.gcd_pos_of_ne_zero_right p h
  omega
theorem num_pos {p k : Int} (h : 0 < k) : p.fdiv (Int.gcd p k) = (q p k).num := by
  rw [q_eq, Rat.num_divInt, Int.sign_eq_one_of_pos h, Int.one_mul, Int.gcd_comm k p, Int.fdiv_eq_ediv_of_nonneg _ (by omega)]
theorem den_pos {p k : Int} (h : 0 < k) : k.fdiv (Int.gcd p k) = ((q p k).den : Int) := by
  rw [q_eq, Rat.den_divInt, if_neg (by omega), Int.gcd_comm k p, Int.fdiv_eq_ediv_of_nonneg _ (by omega)]
  rw [Int.natCast_ediv, Int.natAbs_of_nonneg (by omega)]
theorem num_neg {p k : Int} (h : k < 0) : p.fdiv (-(Int.gcd p k : Int)) = (q p k).num := by
  rw [q_eq, Rat.num_divInt, Int.sign_eq_neg_one_of_neg h, Int.gcd_comm k p]
  obtain ⟨c, hc⟩ := Int.gcd_dvd_left p k
  have hg := gcd_pos (p := p) (k := k) (by omega)
  generalize (Int.gcd p k : Int) = g at *
  rw [hc, show g * c = (-g) * (-c) from (Int.neg_mul_neg g c).symm, Int.mul_fdiv_cancel_left _ (by omega), show -1 * (-g * -c) = g * (-c) by grind, Int.mul_ediv_cancel_left _ (by omega)]
theorem den_neg {p k : Int} (h : k < 0) : k.fdiv (-(Int.gcd p k : Int)) = ((q p k).den : Int) := by
  rw [q_eq, Rat.den_divInt, if_neg (by omega), Int.gcd_comm k p, Int.natCast_ediv]
  obtain ⟨c, hc⟩ := Int.gcd_dvd_right p k
  have hg := gcd_pos (p := p) (k := k) (by omega)
  generalize (Int.gcd p k : Int) = g at *
  have e : ((k.natAbs : Nat) : Int) = -k := by omega
  rw [e, hc, show g * c = (-g) * (-c) from (Int.neg_mul_neg g c).symm, Int.mul_fdiv_cancel_left _ (by omega), show -(-g * -c) = g * (-c) by grind, Int.mul_ediv_cancel_left _ (by omega)]
theorem num_neg2 {p k : Int} (h : k < 0) : 0 - p.fdiv (Int.gcd p k : Int) = (q p k).num := by
  rw [← num_neg h]
  obtain ⟨c, hc⟩ := Int.gcd_dvd_left p k
  have hg := gcd_pos (p := p) (k := k) (by omega)
  generalize (Int.gcd p k : Int) = g at *
  conv => rhs; rw [hc, show g * c = (-g) * (-c) from (Int.neg_mul_neg g c).symm, Int.mul_fdiv_cancel_left _ (by omega)]
  rw [hc, Int.mul_fdiv_cancel_left _ (by omega)]; omega
theorem den_neg2 {p k : Int} (h : k < 0) : 0 - k.fdiv (Int.gcd p k : Int) = ((q p k).den : Int) := by
  rw [← den_neg h]
  obtain ⟨c, hc⟩ := Int.gcd_dvd_right p k
  have hg := gcd_pos (p := p) (k := k) (by omega)
  generalize (Int.gcd p k : Int) = g at *
  conv => rhs; rw [hc, show g * c = (-g) * (-c) from (Int.neg_mul_neg g c).symm, Int.mul_fdiv_cancel_left _ (by omega)]
  rw [hc, Int.mul_fdiv_cancel_left _ (by omega)]; omega
theorem self (x : Rat) : q x.num x.den = x := by
  unfold q
  have := Rat.divInt_eq_div x.num x.den
  rw [← Rat.divInt_eq_div, Rat.divInt_ofNat, Rat.mkRat_self]
theorem den_ne (x : Rat) : ((x.den : Int) : Rat) ≠ 0 := by
  have := x.den_pos
  intro h
  have h2 : ((x.den : Int) : Rat) = ((0 : Int) : Rat) := h
  rw [Rat.intCast_inj] at h2; omega
theorem num_eq (x : Rat) : (x.num : Rat) = x * ((x.den : Int) : Rat) := by
  have h := self x; unfold q at h; have := den_ne x; grind
theorem sum (x y : Rat) : q (x.num * y.den + y.num * x.den) (x.den * y.den) = x + y := by
  unfold q; have hx := num_eq x; have hy := num_eq y; have := den_ne x; have := den_ne y
  simp only [Rat.intCast_add, Rat.intCast_mul]; grind
theorem less (x y : Rat) : q (x.num * y.den - y.num * x.den) (x.den * y.den) = x - y := by
  unfold q; have hx := num_eq x; have hy := num_eq y; have := den_ne x; have := den_ne y
  simp only [Rat.intCast_sub, Rat.intCast_mul]; grind
theorem prod (x y : Rat) : q (x.num * y.num) (x.den * y.den) = x * y := by
  unfold q; have hx := num_eq x; have hy := num_eq y; have := den_ne x; have := den_ne y
  simp only [Rat.intCast_mul]; grind
theorem part (x y : Rat) : q (x.num * y.den) (x.den * y.num) = x / y := by
  unfold q; have hx := num_eq x; have hy := num_eq y; have := den_ne x; have := den_ne y
  by_cases h : y = 0
  · subst h; simp; grind
  · simp only [Rat.intCast_mul]; grind
theorem num_pos_of {x : Rat} (h : 0 < x) : 0 < x.num := by
  have h1 := Rat.num_nonneg.mpr (Rat.le_of_lt h)
  have : x.num ≠ 0 := fun e => by
    have : x = 0 := Rat.num_eq_zero.mp e
    subst this; exact absurd h (Rat.lt_irrefl)
  omega
end Rt
namespace Pu
open PySem PySem.Spec PyProof.Rows L2
variable [Tb]
/-! ### ratios as data -/
def rd (x : Rat) : D := .tuple [.int x.num, .int x.den]
/-- few enough bits -/
def Bt (B : Nat) (i : Int) : Prop := i.natAbs < 2 ^ B
structure Sz (B : Nat) (x : Rat) : Prop where
  n : Bt B x.num
  d : Bt B x.den
theorem Bt.mono {B C : Nat} {i : Int} (h : Bt B i) (hc : B ≤ C) : Bt C i := Nat.lt_of_lt_of_le h (Nat.pow_le_pow_right (by omega) hc)
theorem Bt.mul {B C : Nat} {i j : Int} (h : Bt B i) (k : Bt C j) : Bt (B + C) (i * j) := by
  unfold Bt at *
  rw [Int.natAbs_mul, Nat.pow_add]
  exact Nat.mul_lt_mul'' h k
theorem Bt.add {B : Nat} {i j : Int} (h : Bt B i) (k : Bt B j) : Bt (B + 1) (i + j) := by
  unfold Bt at *
  rw [Nat.pow_succ]; omega
theorem Bt.sub {B : Nat} {i j : Int} (h : Bt B i) (k : Bt B j) : Bt (B + 1) (i - j) := by
  unfold Bt at *
  rw [Nat.pow_succ]; omega
theorem Bt.neg {B : Nat} {i : Int} (h : Bt B i) : Bt B (-i) := by
  unfold Bt at *; rw [Int.natAbs_neg]; exact h
theorem Bt.log {B : Nat} {i : Int} (h : Bt B i) (hB : 0 < B) : i.natAbs.log2 < B := PySem.Flt.log2_lt_of hB h
theorem mul_b {i j : Int} (h : Bt 5000 i) (k : Bt 5000 j) : mulR (.int i) (.int j) = ok (.int (i * j)) := mulR_int (.inr (.inr (by
  have := h.log (by omega); have := k.log (by omega); omega)))
theorem mul_w {i j : Int} (h : Bt 9000 i) (k : Bt 9000 j) : mulR (.int i) (.int j) = ok (.int (i * j)) := mulR_int (.inr (.inr (by
  have := h.log (by omega); have := k.log (by omega); omega)))
theorem div_b {i j : Int} (h : 0 < j) (k : Bt 8999 j) : fdivR (.int i) (.int j) = ok (.int (i.fdiv j)) := fdivR_int ⟨by omega, .inr ⟨h, by have := k.log (by omega); omega⟩⟩
theorem fmodR_int {i j : Int} (h : j ≠ 0) : fmodR (.int i) (.int j) = ok (.int (i.fmod j)) := bd_req h _
theorem ix_rd0 (x : Rat) : ixR (rd x) (.int 0) = ok (.int x.num) := ix0 _ _
theorem ix_rd1 (x : Rat) : ixR (rd x) (.int 1) = ok (.int x.den) := ix1 _ _ _
theorem rd_int (n : Int) : PyData.tuple [.int n, .int 1] = rd n := by
  unfold rd; rw [Rat.num_intCast, Rat.den_intCast]; rfl
theorem rd_inj {x y : Rat} (h : rd x = rd y) : x = y := by
  unfold rd at h
  injection h with h; injection h with h1 h2; injection h2 with h2; injection h1 with h1; injection h2 with h2
  exact Rat.ext h1 (by omega)
theorem eqv_rd (x y : Rat) : PyData.eqv (rd x) (rd y) = true ↔ x = y := by
  unfold rd
  simp only [PyData.eqv, PyData.eqvAll, Bool.and_true, Bool.and_eq_true, decide_eq_true_eq, beq_iff_eq]
  constructor
  · rintro ⟨h1, h2⟩; exact Rat.ext h1 (by omega)
  · rintro rfl; exact ⟨rfl, rfl⟩
theorem dep_rd (x : Rat) : PyData.depth (rd x) ≤ 60 := by
  simp [rd, PyData.depth, PyData.depthAll]
theorem eqR_rd (x y : Rat) : eqR (rd x) (rd y) = ok (.bool (decide (x = y))) := by
  rw [eqR, bd_req (Nat.le_trans (Nat.min_le_left _ _) (dep_rd _))]
  congr 2
  by_cases h : x = y
  · rw [decide_eq_true h]; exact (eqv_rd x y).mpr h
  · rw [decide_eq_false h]; exact Bool.eq_false_iff.mpr fun e => h ((eqv_rd x y).mp e)
theorem neR_rd (x y : Rat) : neR (rd x) (rd y) = ok (.bool (!decide (x = y))) := neR_of (eqR_rd x y) (Nat.le_trans (Nat.min_le_left _ _) (dep_rd _))
/-- the walk of the divisor: a, b = b, a % b -/
theorem fmod_nat (a b : Nat) : (a : Int).fmod (b : Int) = ((a % b : Nat) : Int) := by
  rw [Int.fmod_eq_emod_of_nonneg _ (by omega)]; rfl
theorem gcd_while {ρ0 : List Sl} : ∀ (b a : Nat), whileM (m1 (nDR 1) truR) (setsM [0, 1] (consR (rD (nDR 1)) (consR (rD (m2 (nDR 0) (nDR 1) fmodR)) nilR))) (.dat (nI a) :: .dat (nI b) :: ρ0) = ok (.nx (.dat (nI (Nat.gcd a b)) :: .dat (nI 0) :: ρ0)) := by
  intro b
  induction b using Nat.strongRecOn with
  | _ b ih =>
    intro a
    by_cases h : b = 0
    · subst h
      rw [whileM_stop (by rw [m1_e, nDR_s, nDR_0, bd_ok]; rfl), Nat.gcd_zero_right]
    · have hs : setsM [0, 1] (consR (rD (nDR 1)) (consR (rD (m2 (nDR 0) (nDR 1) fmodR)) nilR)) (.dat (nI a) :: .dat (nI b) :: ρ0) = ok (.nx (.dat (nI b) :: .dat (nI (a % b)) :: ρ0)) := by
        simp only [setsM, consR_e, nilR_e, rD, m2_e, nDR_s, nDR_0, bd_ok]
        unfold nI
        rw [fmodR_int (by omega), bd_ok, bd_ok, bd_ok, fmod_nat]
        rfl
      rw [whileM_step (by rw [m1_e, nDR_s, nDR_0, bd_ok]; unfold nI; rw [truR_int]; congr 1; simp; omega) hs]
      rw [ih (a % b) (Nat.mod_lt _ (by omega)) b]
      rw [Nat.gcd_comm b, ← Nat.gcd_rec b a, Nat.gcd_comm]
/-- .. a, b = b, a - a // b * b -/
theorem gcd_while2 {p q : Sl} : ∀ (b a : Nat), Bt 8999 a → Bt 8999 b → whileM (m1 (m2 (nDR 3) (kR (.int 0)) gtR) asB) (setsM [2, 3] (consR (rD (nDR 3)) (consR (rD (m2 (nDR 2) (m2 (m2 (nDR 2) (nDR 3) fdivR) (nDR 3) mulR) subR)) nilR))) (p :: q :: .dat (nI a) :: .dat (nI b) :: []) = ok (.nx (p :: q :: .dat (nI (Nat.gcd a b)) :: .dat (nI 0) :: [])) := by
  intro b
  induction b using Nat.strongRecOn with
  | _ b ih =>
    intro a ha hb
    by_cases h : b = 0
    · subst h
      rw [whileM_stop (by simp only [m1_e, m2_e, nDR_s, nDR_0, bd_ok, kR_e, nI, gtR_int, asB_bool]; rfl), Nat.gcd_zero_right]
    · have hs : setsM [2, 3] (consR (rD (nDR 3)) (consR (rD (m2 (nDR 2) (m2 (m2 (nDR 2) (nDR 3) fdivR) (nDR 3) mulR) subR)) nilR)) (p :: q :: .dat (nI a) :: .dat (nI b) :: []) = ok (.nx (p :: q :: .dat (nI b) :: .dat (nI (a % b)) :: [])) := by
        simp only [setsM, consR_e, nilR_e, rD, m2_e, nDR_s, nDR_0, bd_ok]
        unfold nI
        rw [div_b (by omega) hb, bd_ok, mul_w (Bt.mono (B := 8999) (by
          unfold Bt at *
          rw [Int.fdiv_eq_ediv_of_nonneg _ (by omega)]
          have := Nat.div_le_self a b
          rw [show (a : Int) / (b : Int) = ((a / b : Nat) : Int) from rfl]
          simp only [Int.natAbs_natCast] at *; omega) (by omega)) (hb.mono (by omega)), bd_ok, subR_int, bd_ok, bd_ok]
        have e : (a : Int) - (a : Int).fdiv b * b = ((a % b : Nat) : Int) := by
          rw [Int.fdiv_eq_ediv_of_nonneg _ (by omega)]
          have := Int.mul_ediv_add_emod (a : Int) b
          have : (a : Int) % (b : Int) = ((a % b : Nat) : Int) := rfl
          grind
        rw [e]
        rfl
      rw [whileM_step (by simp only [m1_e, m2_e, nDR_s, nDR_0, bd_ok, kR_e, nI, gtR_int, asB_bool]; congr 1; simp; omega) hs]
      rw [ih (a % b) (Nat.mod_lt _ (by omega)) b hb (by
        unfold Bt at *
        have := Nat.mod_le a b
        simp only [Int.natAbs_natCast] at *; omega)]
      rw [Nat.gcd_comm b, ← Nat.gcd_rec b a, Nat.gcd_comm]
/-! ### loops over the first numbers, step by step -/
theorem forF_rngA {i : Nat} {tb : List Sl → R Out} (st : Nat → List Sl) (n : Nat) (h : ∀ k, k < n → tb ((st k).set i (.dat (nI k))) = ok (.nx (st (k + 1)))) : ∀ m k, k + m = n → forF (gSet i) tb ((List.range' k m).map nI) (st k) = ok (.nx (st n))
  | 0, k, e => by obtain rfl : k = n := by omega
                  rfl
  | m + 1, k, e => by
    rw [List.range'_succ, List.map_cons, forF_cons_ok (h k (by omega))]
    exact forF_rngA st n h m (k + 1) (by omega)
theorem forF_rng {i : Nat} {tb : List Sl → R Out} (st : Nat → List Sl) (n : Nat) (h : ∀ k, k < n → tb ((st k).set i (.dat (nI k))) = ok (.nx (st (k + 1)))) : forF (gSet i) tb ((List.range n).map nI) (st 0) = ok (.nx (st n)) := by
  rw [List.range_eq_range']; exact forF_rngA st n h n 0 (by omega)
theorem range_e (n : Nat) (h : n ≤ 1000) : range1R [.int n] = ok ((List.range n).map nI) := by
  have := range1_e (n := (n : Int)) (by have : sizeLine = 2 ^ 24 := rfl; omega) (by omega)
  simpa using this
theorem ix_tuR {f : Nat → D} {n k : Nat} (h : k < n) : ixR (tu f (List.range n)) (nI k) = ok (f k) := by
  have := ixR_tup (f := f) (l := List.range n) (k := k) (by simpa using h)
  rw [List.getElem_range] at this; exact this
theorem ix_liR {f : Nat → D} {n k : Nat} (h : k < n) : ixR (li f (List.range n)) (nI k) = ok (f k) := by
  have := ixR_lst (f := f) (l := List.range n) (k := k) (by simpa using h)
  rw [List.getElem_range] at this; exact this
theorem app_e {n : Nat} {f : Nat → D} (h : n ≤ 1000) : appR ((List.range n).map f) [f n] = ok ((List.range (n + 1)).map f) := by
  show bd (req _) _ = _
  rw [bd_req (by rw [List.length_map, List.length_range]; exact Nat.lt_of_le_of_lt h (by decide)), List.range_succ, List.map_append]; rfl
/-! ### whole after times D -/
structure In (D M : Nat) (x : Rat) : Prop where
  ex : ∃ z : Int, x * (D : Rat) = (z : Rat) ∧ z.natAbs ≤ M
theorem natCast_pos {D : Nat} (h : 0 < D) : (0 : Rat) < (D : Rat) := by
  have : ((0 : Int) : Rat) < ((D : Int) : Rat) := Rat.intCast_lt_intCast.mpr (by omega)
  exact this
theorem In.add {D M N : Nat} {x y : Rat} (a : In D M x) (b : In D N y) : In D (M + N) (x + y) := by
  obtain ⟨z, e, h⟩ := a; obtain ⟨z', e', h'⟩ := b
  exact ⟨z + z', by rw [Rat.add_mul, e, e', Rat.intCast_add], by omega⟩
theorem In.sub {D M N : Nat} {x y : Rat} (a : In D M x) (b : In D N y) : In D (M + N) (x - y) := by
  obtain ⟨z, e, h⟩ := a; obtain ⟨z', e', h'⟩ := b
  exact ⟨z - z', by rw [Rat.sub_eq_add_neg, Rat.add_mul, Rat.neg_mul, e, e', Rat.intCast_sub, Rat.sub_eq_add_neg], by omega⟩
theorem In.mono {D M N : Nat} {x : Rat} (a : In D M x) (h : M ≤ N) : In D N x := by
  obtain ⟨z, e, h'⟩ := a; exact ⟨z, e, by omega⟩
theorem In.imul {D M N : Nat} {x : Rat} {i : Int} (a : In D M x) (h : i.natAbs ≤ N) : In D (N * M) ((i : Rat) * x) := by
  obtain ⟨z, e, h'⟩ := a
  exact ⟨i * z, by rw [Rat.mul_assoc, e, Rat.intCast_mul], by rw [Int.natAbs_mul]; exact Nat.mul_le_mul h h'⟩
theorem In.sz {D M B : Nat} {x : Rat} (a : In D M x) (h0 : 0 < D) (hM : M < 2 ^ B) (hD : D < 2 ^ B) : Sz B x := by
  obtain ⟨z, e, h⟩ := a
  have hne : (D : Rat) ≠ 0 := fun h => by have := natCast_pos h0; rw [h] at this; exact absurd this Rat.lt_irrefl
  have hx : x = Rat.divInt z D := by
    rw [Rat.divInt_eq_div]
    have : (((D : Nat) : Int) : Rat) = (D : Rat) := rfl
    rw [this, ← e]; grind
  have hn : x.num = z / (Int.gcd D z : Int) := by rw [hx, Rat.num_divInt, Int.sign_eq_one_of_pos (by omega), Int.one_mul]
  have hd : x.den = D / Int.gcd D z := by rw [hx, Rat.den_divInt, if_neg (by omega), Int.natAbs_natCast]
  constructor
  · unfold Bt
    have : x.num.natAbs ≤ z.natAbs := by
      rw [hn, Int.natAbs_ediv_of_dvd (Int.gcd_dvd_right _ _)]; exact Nat.div_le_self _ _
    omega
  · unfold Bt
    have : x.den ≤ D := by rw [hd]; exact Nat.div_le_self _ _
    rw [Int.natAbs_natCast]; omega
theorem bt_nat {k B : Nat} (h : k < 2 ^ B) : Bt B (k : Int) := by unfold Bt; rw [Int.natAbs_natCast]; exact h
theorem sz_int {i : Int} {B : Nat} (hB : 0 < B) (h : Bt B i) : Sz B (i : Rat) := ⟨by rw [Rat.num_intCast]; exact h, by rw [Rat.den_intCast]; unfold Bt; exact Nat.one_lt_two_pow (by omega)⟩
end Pu

namespace Pu
open PySem PySem.Spec PyProof.Rows L2
variable [Tb]
/-! ### small data: numbers of B bits, rows of L things, n deep -/
def Gd (B L : Nat) : Nat → D → Prop
  | _, .int i => Bt B i
  | _, .none => True
  | _, .bool _ => True
  | _, .str _ => True
  | n + 1, .tuple ds => ds.length ≤ L ∧ ∀ x ∈ ds, Gd B L n x
  | _, _ => False
variable {B L B' L' n m : Nat}
theorem gd_int {i : Int} : Gd B L n (.int i) ↔ Bt B i := by cases n <;> exact Iff.rfl
theorem gd_none : Gd B L n .none := by cases n <;> trivial
theorem gd_bool {b : Bool} : Gd B L n (.bool b) := by cases n <;> trivial
theorem gd_str {s : Str} : Gd B L n (.str s) := by cases n <;> trivial
theorem gd_tup {ds : List D} : Gd B L (n + 1) (.tuple ds) ↔ ds.length ≤ L ∧ ∀ x ∈ ds, Gd B L n x := Iff.rfl
theorem Gd.mono (hB : B ≤ B') (hL : L ≤ L') : ∀ {n m : Nat}, n ≤ m → ∀ {d : D}, Gd B L n d → Gd B' L' m d := by
  intro n
  induction n with
  | zero =>
    intro m hm d h
    cases d with
    | int i => exact gd_int.mpr ((gd_int.mp h).mono hB)
    | none => exact gd_none
    | bool b => exact gd_bool
    | str s => exact gd_str
    | tuple ds => exact h.elim
    | list ds => exact h.elim
    | dict ds => exact h.elim
  | succ n ih =>
    intro m hm d h
    cases d with
    | int i => exact gd_int.mpr ((gd_int.mp h).mono hB)
    | none => exact gd_none
    | bool b => exact gd_bool
    | str s => exact gd_str
    | tuple ds =>
      obtain ⟨m, rfl⟩ : ∃ k, m = k + 1 := ⟨m - 1, by omega⟩
      exact ⟨Nat.le_trans h.1 hL, fun x hx => ih (by omega) (h.2 x hx)⟩
    | list ds => exact h.elim
    | dict ds => exact h.elim
theorem gd_app {xs ys : List D} (h : Gd B L (n + 1) (.tuple xs)) (k : Gd B' L' (m + 1) (.tuple ys)) {B2 L2 n2 : Nat} (hB : B ≤ B2) (hB' : B' ≤ B2) (hn : n ≤ n2) (hm : m ≤ n2) (hL : L ≤ L2) (hL' : L' ≤ L2) (hl : xs.length + ys.length ≤ L2) : Gd B2 L2 (n2 + 1) (.tuple (xs ++ ys)) := by
  refine ⟨by simpa using hl, fun x hx => ?_⟩
  rcases List.mem_append.mp hx with hx | hx
  · exact (h.2 x hx).mono hB hL hn
  · exact (k.2 x hx).mono hB' hL' hm
theorem gd_sub {xs ys : List D} (h : Gd B L (n + 1) (.tuple xs)) (hs : ∀ y ∈ ys, y ∈ xs) (hl : ys.length ≤ L) : Gd B L (n + 1) (.tuple ys) := ⟨hl, fun y hy => h.2 y (hs y hy)⟩
theorem cutG_mem {α : Type} {l : List α} {a b : Option Int} {x : α} (h : x ∈ cutG l a b) : x ∈ l := List.mem_of_mem_drop (List.mem_of_mem_take h)
theorem cutG_len {α : Type} (l : List α) (a b : Option Int) : (cutG l a b).length ≤ l.length := by
  unfold cutG; simp; omega
theorem gd_cut {xs : List D} {a b : Option Int} (h : Gd B L (n + 1) (.tuple xs)) : Gd B L (n + 1) (.tuple (cutG xs a b)) := gd_sub h (fun _ => cutG_mem) (Nat.le_trans (cutG_len _ _ _) h.1)
theorem gd_rev {xs : List D} (h : Gd B L (n + 1) (.tuple xs)) : Gd B L (n + 1) (.tuple xs.reverse) := gd_sub h (fun y hy => by simpa using hy) (by simpa using h.1)
theorem gd_ints {l : List Int} (h : ∀ i ∈ l, Bt B i) (hl : l.length ≤ L) : Gd B L (n + 1) (.tuple (l.map .int)) := ⟨by simpa using hl, fun x hx => by
  obtain ⟨i, hi, rfl⟩ := List.mem_map.mp hx
  exact gd_int.mpr (h i hi)⟩
theorem slR_t (l : List D) (lo hi : Option Int) : slR (.tuple l) lo hi = ok (.tuple (cutG l lo hi)) := rfl
theorem revR_t (l : List D) : revR (.tuple l) = ok (.tuple l.reverse) := rfl
theorem lcM_d {ρ : List Sl} {vs : List Nat} {i : Nat} {fi : List Sl → R (List D)} {te : List Sl → R D} {l : List D} {h : D → D} (hi : fi ρ = ok l) (he : ∀ x ∈ l, te ((wipeS ρ vs).set i (.dat x)) = ok (h x)) : lcM vs fi (gSet i) yesT te ρ = ok (l.map h) :=
  lcM_map (f := fun x => x) (by rw [List.map_id']; exact hi) he
/-- a draw of one of a list's -/
theorem bd_ixm {α : Type} {l : List D} {d : Int} {k : D → R α} {post : α → Prop} (h0 : 0 ≤ d) (h : d < l.length) (hp : ∀ x ∈ l, k x post) : bd (ixR (.list l) (.int d)) k post := by
  obtain ⟨n, rfl⟩ := Int.eq_ofNat_of_zero_le h0
  rw [ixR_atl (Pu.atI_nat (by omega)), bd_ok]
  exact hp _ (List.getElem_mem _)
def ratB (a b : Int) : Bool := decide (0 < b) && decide (Int.gcd a b = 1)
def isRat : D → Bool
  | .tuple [.int a, .int b] => ratB a b
  | _ => false
def inB (lo hi : Int) : D → Bool
  | .int i => decide (lo ≤ i) && decide (i ≤ hi)
  | _ => false
def whB : D → Bool
  | .int _ => true
  | _ => false
theorem ratB_num {a b : Int} (h : 0 < b) : (decide ((Rt.q a b).num = a) && decide (((Rt.q a b).den : Int) = b)) = ratB a b := by
  unfold ratB
  rw [decide_eq_true h, Bool.true_and, ← Rt.num_pos h, ← Rt.den_pos h]
  have hg := Rt.gcd_pos (p := a) (k := b) (by omega)
  by_cases e : Int.gcd a b = 1
  · rw [e]; simp
  · rw [decide_eq_false e, Bool.and_eq_false_iff]
    right
    rw [decide_eq_false_iff_not, Int.fdiv_eq_ediv_of_nonneg _ (by omega)]
    intro h2
    have h3 : (Int.gcd a b : Int) ∣ b := Int.gcd_dvd_right a b
    have h4 := Int.ediv_mul_cancel h3
    rw [h2] at h4
    have : (2 : Int) ≤ (Int.gcd a b : Int) := by omega
    have := Int.mul_le_mul_of_nonneg_left this (Int.le_of_lt h)
    omega
/-- .. numbers and rows alone -/
def Gn (B L : Nat) : Nat → D → Prop
  | _, .int i => Bt B i
  | n + 1, .tuple ds => ds.length ≤ L ∧ ∀ x ∈ ds, Gn B L n x
  | _, _ => False
theorem gn_int {i : Int} : Gn B L n (.int i) ↔ Bt B i := by cases n <;> exact Iff.rfl
theorem Gn.gd : ∀ {n : Nat} {d : D}, Gn B L n d → Gd B L n d := by
  intro n
  induction n with
  | zero =>
    intro d h
    cases d with
    | int i => exact h
    | none => exact h.elim
    | bool b => exact h.elim
    | str s => exact h.elim
    | tuple ds => exact h.elim
    | list ds => exact h.elim
    | dict ds => exact h.elim
  | succ n ih =>
    intro d h
    cases d with
    | int i => exact h
    | none => exact h.elim
    | bool b => exact h.elim
    | str s => exact h.elim
    | tuple ds => exact ⟨h.1, fun x hx => ih (h.2 x hx)⟩
    | list ds => exact h.elim
    | dict ds => exact h.elim
theorem Gn.bool {b : Bool} (h : Gn B L n (.bool b)) : False := by cases n <;> exact h.elim
theorem isRat_ne {l : List D} (h : l.length ≠ 2) : isRat (.tuple l) = false := by
  unfold isRat
  split
  · rename_i e; injection e with e; subst e; exact absurd rfl h
  · rfl
theorem nDR_set {ρ : List Sl} {i : Nat} {d : D} (h : i < ρ.length) : nDR i (ρ.set i (.dat d)) = ok d := by
  induction ρ generalizing i with
  | nil => simp at h
  | cons s ρ ih =>
    cases i with
    | zero => rfl
    | succ i => rw [set_s, nDR_s]; exact ih (by simpa using h)
/-- a loop that looks at each thing and changes nothing -/
theorem forF_chk {i : Nat} {tb : List Sl → R Out} (P : D → Prop) : ∀ (ds : List D) (ρ : List Sl), (∀ d, P d → tb (ρ.set i (.dat d)) = ok (.nx (ρ.set i (.dat d)))) → i < ρ.length → (∀ d ∈ ds, P d) → ∃ v, forF (gSet i) tb ds ρ = ok (.nx (ρ.set i v))
  | [], ρ, _, hi, _ => ⟨ρ[i], by rw [forF_nil]; simp⟩
  | d :: ds, ρ, h, hi, hp => by
    obtain ⟨v, e⟩ := forF_chk (tb := tb) P ds (ρ.set i (.dat d)) (fun d' hd' => by rw [List.set_set]; exact h d' hd') (by simpa using hi) (fun x hx => hp x (List.mem_cons_of_mem _ hx))
    exact ⟨v, by rw [forF_cons_ok (h d (hp d List.mem_cons_self)), e, List.set_set]⟩
end Pu

namespace Pu
open PySem PySem.Spec PyProof.Rows L2
variable [Tb]
/-! ### more words, as equations -/
theorem bd_i {α β : Type} {m : R α} {k : α → R β} {post : β → Prop} (h : m (fun a => k a post)) : bd m k post := h
theorem drwB {α : Type} {i : Nat} {ρ : List Sl} {n : Int} {g : List Sl → R (List D)} {k : D → R α} {post : α → Prop} (hx : getX ρ i 2 = ok ()) (hg : g ρ = ok [.int n]) (h0 : 0 < n) (h' : n < 1073741824) (h : ∀ d : Nat, (d : Int) < n → k (nI d) post) : bd (callX i 2 1 g drawM ρ) k post := by
  rw [draw_e (n := n) hg h0 h' hx]
  refine bd_dr.mpr fun d h1 h2 => ?_
  obtain ⟨d, rfl⟩ := Int.eq_ofNat_of_zero_le h1
  exact h d h2
theorem zip2_t {xs ys : List D} (h : xs.length ≤ 100000) : zip2R [.tuple xs, .tuple ys] = ok (zipD xs ys) := by
  show bd (req (xs.length ≤ sizeLine)) (fun _ => ok (zipD xs ys)) = _
  rw [bd_req (Nat.le_trans h (by decide))]
theorem zip2_tl {xs ys : List D} (h : xs.length ≤ 100000) : zip2R [.tuple xs, .list ys] = ok (zipD xs ys) := by
  show bd (req (xs.length ≤ sizeLine)) (fun _ => ok (zipD xs ys)) = _
  rw [bd_req (Nat.le_trans h (by decide))]
theorem zip2_lt {xs ys : List D} (h : xs.length ≤ 100000) : zip2R [.list xs, .tuple ys] = ok (zipD xs ys) := by
  show bd (req (xs.length ≤ sizeLine)) (fun _ => ok (zipD xs ys)) = _
  rw [bd_req (Nat.le_trans h (by decide))]
theorem zip2_ll {xs ys : List D} (h : xs.length ≤ 100000) : zip2R [.list xs, .list ys] = ok (zipD xs ys) := by
  show bd (req (xs.length ≤ sizeLine)) (fun _ => ok (zipD xs ys)) = _
  rw [bd_req (Nat.le_trans h (by decide))]
theorem enum_t {xs : List D} (h : xs.length ≤ 100000) : enumAR [.tuple xs] = ok (enumD xs) := by
  show bd (req (xs.length ≤ sizeLine)) (fun _ => ok (enumD xs)) = _
  rw [bd_req (Nat.le_trans h (by decide))]
theorem enum_l {xs : List D} (h : xs.length ≤ 100000) : enumAR [.list xs] = ok (enumD xs) := by
  show bd (req (xs.length ≤ sizeLine)) (fun _ => ok (enumD xs)) = _
  rw [bd_req (Nat.le_trans h (by decide))]
theorem lst_n {l : List D} (h : l.length ≤ 1000) : lstR l = ok l := lstR_e (Nat.le_trans h (by decide))
theorem tup_n {l : List D} (h : l.length ≤ 1000) : tupR l = ok (.tuple l) := tupR_e (Nat.le_trans h (by decide))
theorem app_n {ds : List D} {x : D} (h : ds.length ≤ 1000000) : appR ds [x] = ok (ds ++ [x]) := bd_req (Nat.lt_of_le_of_lt h (by decide)) _
theorem addT_n {x y : List D} (h : x.length + y.length ≤ 1000000) : addR (.tuple x) (.tuple y) = ok (.tuple (x ++ y)) := bd_req (Nat.le_trans h (by decide)) _
theorem addL_n {x y : List D} (h : x.length + y.length ≤ 1000000) : addR (.list x) (.list y) = ok (.list (x ++ y)) := bd_req (Nat.le_trans h (by decide)) _
theorem ext_l {ds es : List D} (h : ds.length + es.length ≤ 1000000) : extR ds [.list es] = ok (ds ++ es) := bd_req (Nat.le_trans h (by decide)) _
theorem ixt0 (x : D) (l : List D) : ixR (.tuple (x :: l)) (.int 0) = ok x := ixR_at (Pu.atI_nat (k := 0) (by simp))
theorem ixt1 (x y : D) (l : List D) : ixR (.tuple (x :: y :: l)) (.int 1) = ok y := ixR_at (Pu.atI_nat (k := 1) (by simp))
theorem ixt2 (x y z : D) (l : List D) : ixR (.tuple (x :: y :: z :: l)) (.int 2) = ok z := ixR_at (Pu.atI_nat (k := 2) (by simp))
theorem ixl0 (x : D) (l : List D) : ixR (.list (x :: l)) (.int 0) = ok x := ixR_atl (Pu.atI_nat (k := 0) (by simp))
theorem ixl1 (x y : D) (l : List D) : ixR (.list (x :: y :: l)) (.int 1) = ok y := ixR_atl (Pu.atI_nat (k := 1) (by simp))
theorem ixt_n {l : List D} {k : Nat} (h : k < l.length) : ixR (.tuple l) (nI k) = ok l[k] := ixR_at (Pu.atI_nat h)
theorem ixl_n {l : List D} {k : Nat} (h : k < l.length) : ixR (.list l) (nI k) = ok l[k] := ixR_atl (Pu.atI_nat h)
theorem ne_bools (x y : Bool) : neR (.bool x) (.bool y) = ok (.bool (!(x == y))) := neR_of (eqR_bool x y) (Nat.le_trans (Nat.min_le_left _ _) (by simp [PyData.depth]))
theorem mul_rep {l : List D} {k : Nat} (hl : l.length * k ≤ 100000) (hk : k ≤ 1000) : mulR (.tuple l) (.int (k : Int)) = ok (.tuple (List.replicate k l).flatten) := by
  show bd (req (repOk l (k : Int))) _ = _
  rw [bd_req ⟨by omega, by omega, by
    rw [Int.toNat_natCast]
    exact Nat.le_trans hl (by decide)⟩]
  congr 2
theorem forF_J {α : Type} {f : α → D} {g : D → List Sl → R (List Sl)} {tb : List Sl → R Out} (J : List α → List Sl → Prop) : ∀ (l done : List α) (ρ : List Sl), (∀ d x ρ, (∃ r, d ++ x :: r = done ++ l) → J d ρ → ∃ ρ', bd (g (f x) ρ) tb = ok (.nx ρ') ∧ J (d ++ [x]) ρ') → J done ρ → ∃ ρ', forF g tb (l.map f) ρ = ok (.nx ρ') ∧ J (done ++ l) ρ'
  | [], done, ρ, _, j => ⟨ρ, rfl, by rw [List.append_nil]; exact j⟩
  | x :: l, done, ρ, h, j => by
    obtain ⟨ρ', e, j'⟩ := h done x ρ ⟨l, rfl⟩ j
    obtain ⟨ρ2, e2, j2⟩ := forF_J J l (done ++ [x]) ρ' (fun d y ρ ⟨r, hr⟩ => h d y ρ ⟨r, by rw [hr, List.append_assoc]; rfl⟩) j'
    refine ⟨ρ2, ?_, by rw [List.append_assoc] at j2; exact j2⟩
    rw [List.map_cons, forF, ← bd_bd, e, bd_ok, lpO_nx, e2]
theorem anyR_bools {α : Type} {l : List α} {p : α → Bool} : anyR [.list (l.map fun x => .bool (p x))] = ok (.bool (l.any p)) := by
  show qV (fun ds => ds.any PyData.truthy) (l.map fun x => .bool (p x)) = _
  unfold qV
  rw [bd_req (by simp [smallT])]
  congr 2
  simp only [List.any_map]; rfl
/-- values that stand in drawn things: whole numbers, nothing, rows of such -/
def Vb : Nat → D → Prop
  | _, .int i => i.natAbs < 2 ^ 30
  | _, .none => True
  | n + 1, .tuple ds => ds.length ≤ 500 ∧ ∀ x ∈ ds, Vb n x
  | _, _ => False
/-- values that are looked at: rows are not too long -/
def Wd1 : D → Prop
  | .tuple ds => ds.length ≤ 1002
  | _ => True
theorem Vb.wd {n : Nat} {d : D} (h : Vb n d) : Wd1 d := by
  cases d with
  | tuple ds =>
    cases n with
    | zero => exact h.elim
    | succ n => exact Nat.le_trans h.1 (by decide)
  | _ => trivial
theorem vb_int {n : Nat} {i : Int} (h : i.natAbs < 2 ^ 30) : Vb n (.int i) := by cases n <;> exact h
theorem vb_none {n : Nat} : Vb n .none := by cases n <;> trivial
theorem str_ok {i : Int} (h : i.natAbs < 2 ^ 30) : strR [.int i] = ok (.str (toString i)) := by
  refine bd_req ?_ _
  have : i.natAbs.log2 ≤ 30 := by
    by_cases h0 : i.natAbs = 0
    · rw [h0]; decide
    · exact Nat.le_of_lt ((Nat.log2_lt h0).mpr h)
  omega
theorem bd_ixd {α : Type} {l : List D} {d : Nat} {k : D → R α} {post : α → Prop} (h : (d : Int) < (l.length : Int)) (hp : ∀ x ∈ l, k x post) : bd (ixR (.list l) (nI d)) k post := by
  rw [ixl_n (by omega), bd_ok]
  exact hp _ (List.getElem_mem _)
theorem ix_d {l : List D} {d : Nat} {post : D → Prop} (h : (d : Int) < (l.length : Int)) (hp : ∀ x ∈ l, post x) : ixR (.list l) (nI d) post := bd_ixd (k := ok) h hp
end Pu

namespace Pu
open PySem PySem.Spec PyProof.Rows L2
variable [Tb]
/-! ### comprehensions of two fors -/
section
variable {α β : Type} {f : α → D} {f1 : β → D} {ρ : List Sl}
theorem inF_e {g : D → List Sl → R (List Sl)} {tt : List Sl → R Bool} {te : List Sl → R D} {p : β → Bool} {h : β → D} {σ : β → List Sl} : ∀ (l : List β) (acc : List D), (∀ x ∈ l, g (f1 x) ρ = ok (σ x)) → (∀ x ∈ l, tt (σ x) = ok (p x)) → (∀ x ∈ l, p x = true → te (σ x) = ok (h x)) → acc.length + l.length ≤ sizeLine → inF g tt te (l.map f1) ρ acc = ok (acc ++ (l.filter p).map h)
  | [], acc, _, _, _, _ => by simp [inF]
  | x :: l, acc, hg, ht, he, hl => by
    have hg' := fun y hy => hg y (List.mem_cons_of_mem x hy)
    have ht' := fun y hy => ht y (List.mem_cons_of_mem x hy)
    have he' := fun y hy => he y (List.mem_cons_of_mem x hy)
    rw [List.length_cons] at hl
    rw [List.map_cons, inF, hg x List.mem_cons_self, bd_ok, ht x List.mem_cons_self, bd_ok]
    cases hp : p x with
    | false => rw [if_neg (by simp), inF_e l acc hg' ht' he' (by omega), List.filter_cons_of_neg (by simp [hp])]
    | true => rw [if_pos rfl, he x List.mem_cons_self hp, bd_ok, bd_req (by omega), inF_e l _ hg' ht' he' (by simp; omega), List.filter_cons_of_pos hp]; simp
theorem outF_e {vs1 : List Nat} {g : D → List Sl → R (List Sl)} {fi1 : List Sl → R (List D)} {g1 : D → List Sl → R (List Sl)} {tt1 : List Sl → R Bool} {te : List Sl → R D} {σ : α → List Sl} {es : α → List D} {out : α → List D} :
    ∀ (l : List α) (acc : List D), (∀ x ∈ l, g (f x) ρ = ok (σ x)) → (∀ x ∈ l, ownFree (σ x) = true) → (∀ x ∈ l, fi1 (σ x) = ok (es x)) → (∀ x ∈ l, ∀ acc : List D, acc.length + (out x).length ≤ 1000000 → inF g1 tt1 te (es x) (wipeS (σ x) vs1) acc = ok (acc ++ out x)) → acc.length + (l.flatMap out).length ≤ 1000000 → outF vs1 g yesT fi1 g1 tt1 te (l.map f) ρ acc = ok (acc ++ l.flatMap out)
  | [], acc, _, _, _, _, _ => by simp [outF]
  | x :: l, acc, hg, ho, hi, hn, hl => by
    rw [List.flatMap_cons, List.length_append] at hl
    rw [List.map_cons, outF, hg x List.mem_cons_self, bd_ok, bd_req (ho x List.mem_cons_self)]
    show bd (ok true) _ = _
    rw [bd_ok, if_pos rfl, hi x List.mem_cons_self, bd_ok, hn x List.mem_cons_self acc (by omega), bd_ok]
    rw [outF_e l _ (fun y hy => hg y (List.mem_cons_of_mem x hy)) (fun y hy => ho y (List.mem_cons_of_mem x hy)) (fun y hy => hi y (List.mem_cons_of_mem x hy)) (fun y hy => hn y (List.mem_cons_of_mem x hy)) (by rw [List.length_append]; omega)]
    simp
theorem lc2M_e {vs vs1 : List Nat} {fi : List Sl → R (List D)} {g : D → List Sl → R (List Sl)} {fi1 : List Sl → R (List D)} {g1 : D → List Sl → R (List Sl)} {tt1 : List Sl → R Bool} {te : List Sl → R D} {l : List α} {σ : α → List Sl} {es : α → List D} {out : α → List D}
    (h0 : fi ρ = ok (l.map f)) (hg : ∀ x ∈ l, g (f x) (wipeS (noOwn ρ) vs) = ok (σ x)) (ho : ∀ x ∈ l, ownFree (σ x) = true) (hi : ∀ x ∈ l, fi1 (σ x) = ok (es x)) (hn : ∀ x ∈ l, ∀ acc : List D, acc.length + (out x).length ≤ 1000000 → inF g1 tt1 te (es x) (wipeS (σ x) vs1) acc = ok (acc ++ out x)) (hl : (l.flatMap out).length ≤ 1000000) :
    lc2M vs vs1 fi g yesT fi1 g1 tt1 te ρ = ok (l.flatMap out) := by
  show bd (fi ρ) _ = _
  rw [h0, bd_ok, outF_e l [] hg ho hi hn (by simpa using hl), List.nil_append]
end
/-- sums -/
def sI (f : Nat → Int) (n : Nat) : Int := ((List.range n).map f).sum
theorem sI_succ (f : Nat → Int) (n : Nat) : sI f (n + 1) = sI f n + f n := by
  unfold sI
  rw [List.range_succ, List.map_append, List.sum_append]; simp
theorem sI_congr {f f' : Nat → Int} : ∀ {n : Nat}, (∀ k, k < n → f k = f' k) → sI f n = sI f' n
  | 0, _ => rfl
  | n + 1, h => by rw [sI_succ, sI_succ, sI_congr (fun k hk => h k (by omega)), h n (by omega)]
theorem sI_le {f : Nat → Int} {B : Nat} : ∀ {n : Nat}, (∀ k, k < n → (f k).natAbs ≤ B) → (sI f n).natAbs ≤ n * B
  | 0, _ => by simp [sI]
  | n + 1, h => by
    have h1 := sI_le (n := n) fun k hk => h k (by omega)
    have h2 := h n (by omega)
    rw [sI_succ, Nat.succ_mul]; omega
theorem sumR_li (f : Nat → Int) (n : Nat) : sumR [.list ((List.range n).map fun k => .int (f k))] = ok (.int (sI f n)) := by
  have e : (List.range n).map (fun k => PyData.int (f k)) = ((List.range n).map f).map PyData.int := by rw [List.map_map]; rfl
  show sumV _ = _
  rw [e, sumV_ints]; rfl
end Pu

namespace Pu
open PySem PySem.Spec PyProof.Rows L2
variable [Tb]
/-! ### the words of dicts, as equations -/
section
variable {ρ : List Sl} {x : Sl} {i n : Nat} {ds : List (Key × D)}
theorem getOD_s : getOD (x :: ρ) (n + 1) = getOD ρ n := (rfl)
theorem getOD_0 : getOD (.od ds :: ρ) 0 = ok ds := (rfl)
theorem keyR_int (k : Int) : keyR (.int k) = ok (.inl k) := (rfl)
theorem keyR_str (s : Str) : keyR (.str s) = ok (.inr s) := (rfl)
theorem setOD_e (i : Nat) (f : List Sl → R (List (Key × D))) : setOD i f ρ = bd (f ρ) fun ds => ok (.nx (ρ.set i (.od ds))) := (rfl)
theorem emptyD_e : emptyD ρ = ok [] := (rfl)
theorem disp1_e (fk fv : List Sl → R D) : disp1 fk fv ρ = bd (fk ρ) fun k => bd (keyR k) fun kk => bd (fv ρ) fun v => ok [(kk, v)] := (rfl)
theorem putM_e (i : Nat) (fk fv : List Sl → R D) : putM i fk fv ρ = bd (fv ρ) fun v => bd (getOD ρ i) fun _ => bd (fk ρ) fun k => bd (keyR k) fun kk => bd (getOD ρ i) fun ds => bd (req (ds.length < sizeLine)) fun _ => ok (.nx (ρ.set i (.od (putG ds kk v)))) := (rfl)
theorem getM2_e (i : Nat) (fk fd : List Sl → R D) : getM2 i fk fd ρ = bd (getOD ρ i) fun _ => bd (fk ρ) fun k => bd (fd ρ) fun z => bd (keyR k) fun kk => bd (getOD ρ i) fun ds => ok ((valG ds kk).getD z) := (rfl)
theorem inDM_e (i : Nat) (fk : List Sl → R D) : inDM i fk ρ = bd (fk ρ) fun k => bd (keyR k) fun kk => bd (getOD ρ i) fun ds => ok (.bool (valG ds kk).isSome) := (rfl)
theorem notInDM_e (i : Nat) (fk : List Sl → R D) : notInDM i fk ρ = bd (fk ρ) fun k => bd (keyR k) fun kk => bd (getOD ρ i) fun ds => ok (.bool (!(valG ds kk).isSome)) := (rfl)
theorem ixdM_d {i : Nat} {fk : List Sl → R D} {k : D} {kk : Key} {d : D} (h : getOD ρ i = ok ds) (hk : fk ρ = ok k) (hkk : keyR k = ok kk) (hd : valG ds kk = some d) : ixdM i fk ρ = ok d := by
  show bd (getOD ρ i) (fun _ => bd (fk ρ) fun k => bd (keyR k) fun kk => bd (getOD ρ i) fun ds => match valG ds kk with | some d => ok d | none => fail) = _
  rw [h, bd_ok, hk, bd_ok, hkk, bd_ok, bd_ok, hd]
end
/-! ### dicts from ints to data -/
def iD {α : Type} (f : α → D) (l : List (Int × α)) : List (Key × D) := l.map fun p => (.inl p.1, f p.2)
theorem intK_iD {α : Type} (f : α → D) : ∀ l : List (Int × α), intK (iD f l) = some (l.map (·.1))
  | [] => rfl
  | p :: l => by
    show (intK (iD f l)).map (p.1 :: ·) = _
    rw [intK_iD f l]; rfl
def putI {α : Type} (l : List (Int × α)) (k : Int) (a : α) : List (Int × α) := if (l.any fun p => decide (p.1 = k)) = true then l.map fun p => if p.1 = k then (p.1, a) else p else l ++ [(k, a)]
def valI {α : Type} (l : List (Int × α)) (k : Int) : Option α := (l.find? fun p => decide (p.1 = k)).map (·.2)
theorem any_iD {α : Type} (f : α → D) (k : Int) : ∀ l : List (Int × α), ((iD f l).any fun kv => decide (kv.1 = Sum.inl k)) = l.any fun p => decide (p.1 = k)
  | [] => rfl
  | p :: l => by
    show (decide ((Sum.inl p.1 : Key) = Sum.inl k) || _) = _
    rw [List.any_cons, ← any_iD f k l]
    congr 1
    simp
theorem put_iD {α : Type} (f : α → D) (l : List (Int × α)) (k : Int) (a : α) : putG (iD f l) (.inl k) (f a) = iD f (putI l k a) := by
  unfold putG putI
  rw [any_iD]
  split
  · unfold iD
    rw [List.map_map, List.map_map]
    refine List.map_congr_left fun p _ => ?_
    show (if (Sum.inl p.1 : Key) = Sum.inl k then (Sum.inl p.1, f a) else (Sum.inl p.1, f p.2)) = _
    by_cases h : p.1 = k
    · rw [if_pos (by rw [h])]
      show _ = (fun q : Int × α => ((Sum.inl q.1 : Key), f q.2)) (if p.1 = k then (p.1, a) else p)
      rw [if_pos h]
    · rw [if_neg (by simpa using h)]
      show _ = (fun q : Int × α => ((Sum.inl q.1 : Key), f q.2)) (if p.1 = k then (p.1, a) else p)
      rw [if_neg h]
  · unfold iD
    rw [List.map_append]; rfl
theorem val_iD {α : Type} (f : α → D) (k : Int) : ∀ l : List (Int × α), valG (iD f l) (.inl k) = (valI l k).map f
  | [] => rfl
  | p :: l => by
    have ih := val_iD f k l
    unfold valG valI at *
    show Option.map _ (List.find? _ ((Sum.inl p.1, f p.2) :: iD f l)) = _
    by_cases h : p.1 = k
    · rw [List.find?_cons_of_pos (by simp [h]), List.find?_cons_of_pos (by simp [h])]; rfl
    · rw [List.find?_cons_of_neg (by simp [h]), List.find?_cons_of_neg (by simp [h])]; exact ih
/-! ### the keys, ascending -/
def asc (l : List Int) : List Int := l.mergeSort fun a b => decide (a ≤ b)
theorem asc_perm (l : List Int) : (asc l).Perm l := List.mergeSort_perm _ _
theorem asc_le (l : List Int) : (asc l).Pairwise (· ≤ ·) := by
  have := List.pairwise_mergeSort (le := fun a b : Int => decide (a ≤ b)) (fun a b c h1 h2 => by simp at *; omega) (fun a b => by simp; omega) l
  exact this.imp fun h => by simpa using h
theorem srt_uniq : ∀ {a b : List Int}, a.Perm b → a.Pairwise (· ≤ ·) → b.Pairwise (· ≤ ·) → a = b
  | [], b, p, _, _ => p.nil_eq
  | x :: a, [], p, _, _ => absurd p.length_eq (by simp)
  | x :: a, y :: b, p, h1, h2 => by
    obtain ⟨a1, a2⟩ := List.pairwise_cons.mp h1
    obtain ⟨b1, b2⟩ := List.pairwise_cons.mp h2
    have e : x = y := by
      have hx : x ∈ y :: b := p.mem_iff.mp List.mem_cons_self
      have hy : y ∈ x :: a := p.mem_iff.mpr List.mem_cons_self
      rcases List.mem_cons.mp hx with e | hx
      · exact e
      · rcases List.mem_cons.mp hy with e | hy
        · exact e.symm
        · have := b1 x hx
          have := a1 y hy
          omega
    subst e
    rw [srt_uniq (p.cons_inv) a2 b2]
theorem srtKM_e {ρ : List Sl} {i : Nat} {ds : List (Key × D)} {ks : List Int} (h : getOD ρ i = ok ds) (hk : intK ds = some ks) (hl : ks.length < 64) : srtKM i ρ = ok ((asc ks).map PyData.int) := by
  unfold srtKM
  rw [h, bd_ok, hk]
  funext post
  apply propext
  constructor
  · intro hp
    exact hp.2 _ (asc_perm ks) (asc_le ks)
  · intro hp
    refine ⟨hl, fun ys p q => ?_⟩
    rw [srt_uniq (p.trans (asc_perm ks).symm) q (asc_le ks)]
    exact hp
theorem putI_len {α : Type} (l : List (Int × α)) (k : Int) (a : α) : (putI l k a).length ≤ l.length + 1 := by
  unfold putI
  split <;> simp
theorem valI_mem {α : Type} : ∀ {l : List (Int × α)} {k : Int}, k ∈ l.map (·.1) → ∃ a, valI l k = some a
  | [], _, h => by simp at h
  | p :: l, k, h => by
    by_cases e : p.1 = k
    · exact ⟨p.2, by simp [valI, e]⟩
    · obtain ⟨a, ha⟩ := valI_mem (l := l) (k := k) (by
        rw [List.map_cons] at h
        rcases List.mem_cons.mp h with h | h
        · exact absurd h.symm e
        · exact h)
      refine ⟨a, ?_⟩
      unfold valI at *
      rw [List.find?_cons_of_neg (by simpa using e)]
      exact ha
end Pu

namespace Pu
open PySem PySem.Spec PyProof.Rows L2
variable [Tb]
/-! ### sorted rows, whatever their order was -/
theorem sort_is' {l l' : List D} (inj : ∀ a ∈ l, ∀ b ∈ l, W.keyToks a = W.keyToks b → a = b) (hp : l.Perm l') (hs : l'.Pairwise fun a b => dLe a b = true) : l.mergeSort dLe = l' := by
  have h1 := List.pairwise_mergeSort (le := dLe) dLe_trans dLe_total l
  have h2 := (List.mergeSort_perm l dLe).trans hp
  refine List.Perm.eq_of_pairwise (le := fun a b => dLe a b = true) (fun a b ha hb e1 e2 => ?_) h1 hs h2
  unfold dLe at e1 e2
  simp at e1 e2
  exact inj _ ((List.mergeSort_perm l dLe).mem_iff.mp ha) _ (hp.mem_iff.mpr hb) (PyProof.Rows.lex_total (O := PyProof.Rows.itemOrd) _ _ e2 e1)
theorem sort_perm {l k : List D} (inj : ∀ a ∈ l, ∀ b ∈ l, W.keyToks a = W.keyToks b → a = b) (hp : l.Perm k) : l.mergeSort dLe = k.mergeSort dLe :=
  sort_is' inj (hp.trans (List.mergeSort_perm k dLe).symm) (List.pairwise_mergeSort (le := dLe) dLe_trans dLe_total k)
theorem sort_perm_rows {a b : List (List Nat)} (hp : a.Perm b) : (a.map (tu nI)).mergeSort dLe = (b.map (tu nI)).mergeSort dLe := sort_perm (fun x hx y hy e => by
  obtain ⟨x, _, rfl⟩ := List.mem_map.mp hx
  obtain ⟨y, _, rfl⟩ := List.mem_map.mp hy
  rw [toks_tu x y e]) (hp.map _)
theorem sort_paths {ds : List (List Nat)} (hl : ds.length ≤ 1000000) (hk : (∀ d ∈ ds, d ≠ []) ∨ ∃ r, ds = [] :: r) : sortedR [.list (ds.map (tu nI))] = ok ((ds.map (tu nI)).mergeSort dLe) := by
  rcases hk with hk | ⟨r, rfl⟩
  · exact sort_rows (Nat.le_trans hl (by decide)) (.inl hk)
  · exact sort_rows0 (by rw [List.length_cons] at hl; exact Nat.lt_of_lt_of_le (Nat.lt_of_lt_of_le (Nat.lt_succ_self _) hl) (by decide))
/-- a comprehension whose things are drawn, each told with what it was drawn for -/
theorem lcM_dem3 {α β : Type} {ρ : List Sl} {vs : List Nat} {i : Nat} {fi : List Sl → R (List D)} {te : List Sl → R D} {l : List α} {f : α → D} {g : α × β → D} {Q : α × β → Prop} (hi : fi ρ = ok (l.map f))
    (he : ∀ a ∈ l, ∀ post : D → Prop, (∀ b, Q (a, b) → post (g (a, b))) → te ((wipeS ρ vs).set i (.dat (f a))) post) (post : List D → Prop) (hp : ∀ hs : List (α × β), hs.map (·.1) = l → (∀ p ∈ hs, Q p) → post (hs.map g)) : lcM vs fi (gSet i) yesT te ρ post := by
  rw [lcM_e, hi, bd_ok]
  generalize wipeS ρ vs = σ at he
  clear hi
  induction l generalizing post with
  | nil => exact hp [] rfl (by simp)
  | cons a l ih =>
    rw [List.map_cons, lcF, gSet_e, bd_ok, yesT_e, bd_ok, if_pos rfl]
    refine he a List.mem_cons_self _ fun b hb => ?_
    refine ih _ (fun hs hl hq => ?_) (fun d hd => he d (List.mem_cons_of_mem _ hd))
    refine hp ((a, b) :: hs) (by rw [List.map_cons, hl]) fun p hp => ?_
    rcases List.mem_cons.mp hp with rfl | hp
    · exact hb
    · exact hq p hp
theorem nodup_len {α : Type} [DecidableEq α] : ∀ {a b : List α}, a.Nodup → (∀ x ∈ a, x ∈ b) → a.length ≤ b.length
  | [], b, _, _ => Nat.zero_le _
  | x :: a, b, h, hs => by
    obtain ⟨h1, h2⟩ := List.nodup_cons.mp h
    have hx := hs x List.mem_cons_self
    have := nodup_len (b := b.erase x) h2 fun y hy => (List.mem_erase_of_ne (show y ≠ x from fun e => h1 (by rw [← e]; exact hy))).mpr (hs y (List.mem_cons_of_mem _ hy))
    rw [List.length_erase_of_mem hx] at this
    have hb := List.length_pos_of_mem hx
    rw [List.length_cons]; omega
theorem pw_len {a b : List Int} (h : a.Pairwise (· < ·)) (hs : ∀ x ∈ a, x ∈ b) : a.length ≤ b.length := nodup_len (h.imp fun h e => by omega) hs
end Pu

namespace Mo
open PySem PySem.Spec PyProof.Rows L2 Pu
/-! ### mobiles: a weight, or a rod with hooks (place, part) -/
inductive Mob where
  | w (i : Int)
  | r (hs : List (Int × Mob))
theorem lt_hook {hs : List (Int × Mob)} {p : Int × Mob} (h : p ∈ hs) : sizeOf p.2 < 1 + sizeOf hs := by
  have := List.sizeOf_lt_of_mem h
  cases p
  simp at *
  omega
theorem Mob.ind {P : Mob → Prop} (hw : ∀ i, P (.w i)) (hr : ∀ hs, (∀ p ∈ hs, P p.2) → P (.r hs)) (m : Mob) : P m :=
  match m with
  | .w i => hw i
  | .r hs => hr hs fun p h => Mob.ind hw hr p.2
termination_by m
decreasing_by simp; exact lt_hook h
def enc : Mob → D
  | .w i => .int i
  | .r hs => .tuple (hs.attach.map fun p => .tuple [.int p.1.1, enc p.1.2])
termination_by m => m
decreasing_by simp; exact lt_hook p.2
def hkD (p : Int × Mob) : D := .tuple [.int p.1, enc p.2]
theorem enc_w (i : Int) : enc (.w i) = .int i := by rw [enc]
theorem enc_r (hs : List (Int × Mob)) : enc (.r hs) = .tuple (hs.map hkD) := by
  rw [enc]
  congr 1
  rw [← List.attach_map_subtype_val (l := hs.map hkD)] <;> simp [hkD, List.map_attach_eq_pmap, List.pmap_eq_map]
def rodB : Mob → Bool
  | .w _ => false
  | .r _ => true
def hooks : Mob → List (Int × Mob)
  | .w _ => []
  | .r hs => hs
def dep : Mob → Nat
  | .w _ => 0
  | .r hs => 1 + (hs.attach.map fun p => dep p.1.2).foldr max 0
termination_by m => m
decreasing_by simp; exact lt_hook p.2
theorem mxs_le {l : List Nat} {n : Nat} : l.foldr max 0 ≤ n ↔ ∀ x ∈ l, x ≤ n := by
  induction l with
  | nil => simp
  | cons x l ih => rw [List.foldr_cons, Nat.max_le, ih]; simp
theorem dep_w (i : Int) : dep (.w i) = 0 := by rw [dep]
theorem dep_r {hs : List (Int × Mob)} {n : Nat} : dep (.r hs) ≤ n + 1 ↔ ∀ p ∈ hs, dep p.2 ≤ n := by
  rw [dep, Nat.add_comm, Nat.add_le_add_iff_right, mxs_le]
  simp only [List.mem_map, List.mem_attach, true_and, Subtype.exists, forall_exists_index]
  exact ⟨fun h p hp => h _ p hp rfl, fun h x p hp e => e ▸ h p hp⟩
theorem dep_r0 {hs : List (Int × Mob)} : ¬ dep (.r hs) ≤ 0 := by
  rw [dep]; omega
def tot : Mob → Int
  | .w i => i
  | .r hs => (hs.attach.map fun p => tot p.1.2).sum
termination_by m => m
decreasing_by simp; exact lt_hook p.2
theorem att {α β : Type} (f : α → β) (l : List α) : (l.attach.map fun p => f p.1) = l.map f := by
  simp [List.map_attach_eq_pmap, List.pmap_eq_map]
theorem tot_w (i : Int) : tot (.w i) = i := by rw [tot]
theorem tot_r (hs : List (Int × Mob)) : tot (.r hs) = (hs.map fun p => tot p.2).sum := by
  rw [tot, att (fun p : Int × Mob => tot p.2)]
def mom (hs : List (Int × Mob)) : Int := (hs.map fun p => p.1 * tot p.2).sum
/-! ### paths and parts -/
abbrev Row := List Nat × Mob
def ch (x : Row) : List Row := (hooks x.2).zipIdx.map fun p => (x.1 ++ [p.2], p.1.2)
theorem ch_w (p : List Nat) (i : Int) : ch (p, .w i) = [] := rfl
theorem ch_r (p : List Nat) (hs : List (Int × Mob)) : ch (p, .r hs) = hs.zipIdx.map fun h => (p ++ [h.2], h.1.2) := rfl
theorem ch_lt {x y : Row} (h : y ∈ ch x) : sizeOf y.2 < sizeOf x.2 := by
  obtain ⟨p, m⟩ := x
  obtain ⟨⟨h1, k⟩, hm, rfl⟩ := List.mem_map.mp h
  cases m with
  | w i => cases hm
  | r hs =>
    have this : sizeOf h1.2 < 1 + sizeOf hs := lt_hook (List.fst_mem_of_mem_zipIdx hm)
    simpa using this
def pre (x : Row) : List Row := x :: (ch x).attach.flatMap fun y => pre y.1
termination_by sizeOf x.2
decreasing_by exact ch_lt y.2
theorem pre_eq (x : Row) : pre x = x :: (ch x).flatMap pre := by
  rw [pre]
  congr 1
  rw [List.flatMap, att pre]
  rfl
theorem Row.ind {P : Row → Prop} (h : ∀ x, (∀ y ∈ ch x, P y) → P x) (x : Row) : P x := h x fun y hy => Row.ind h y
termination_by sizeOf x.2
decreasing_by exact ch_lt hy
def at_ : List Nat → Mob → Option Mob
  | [], m => some m
  | k :: q, .r hs => match hs[k]? with
    | some h => at_ q h.2
    | none => none
  | _ :: _, .w _ => none
theorem ch_mem {p q : List Nat} {m t : Mob} : (q, t) ∈ ch (p, m) ↔ ∃ k h, (hooks m)[k]? = some h ∧ q = p ++ [k] ∧ t = h.2 := by
  unfold ch
  rw [List.mem_map]
  constructor
  · rintro ⟨⟨h, k⟩, hm, e⟩
    cases e
    exact ⟨k, h, List.mem_zipIdx_iff_getElem?.mp hm, rfl, rfl⟩
  · rintro ⟨k, h, e, rfl, rfl⟩
    exact ⟨(h, k), List.mem_zipIdx_iff_getElem?.mpr e, rfl⟩
theorem at_cons {k : Nat} {q : List Nat} {m : Mob} : at_ (k :: q) m = (match (hooks m)[k]? with | some h => at_ q h.2 | none => none) := by
  cases m with
  | w i => rfl
  | r hs => rfl
theorem pre_mem : ∀ (x : Row) {q : List Nat} {t : Mob}, (q, t) ∈ pre x ↔ ∃ s, q = x.1 ++ s ∧ at_ s x.2 = some t := by
  intro x
  refine Row.ind (P := fun x => ∀ {q : List Nat} {t : Mob}, (q, t) ∈ pre x ↔ ∃ s, q = x.1 ++ s ∧ at_ s x.2 = some t) (fun x ih q t => ?_) x
  obtain ⟨p, m⟩ := x
  rw [pre_eq, List.mem_cons, List.mem_flatMap]
  constructor
  · rintro (e | ⟨⟨p', m'⟩, h1, h2⟩)
    · cases e; exact ⟨[], by simp, rfl⟩
    · obtain ⟨s, rfl, hs⟩ := (ih _ h1).mp h2
      obtain ⟨k, h, e1, rfl, rfl⟩ := ch_mem.mp h1
      exact ⟨k :: s, by simp, by rw [at_cons]; show (match (hooks m)[k]? with | some h => at_ s h.2 | none => none) = _; rw [e1]; exact hs⟩
  · rintro ⟨s, rfl, hs⟩
    cases s with
    | nil => left; cases hs; simp
    | cons k s =>
      right
      rw [at_cons] at hs
      cases e : (hooks m)[k]? with
      | none => rw [show (match (hooks (p, m).2)[k]? with | some h => at_ s h.2 | none => none) = none from by rw [show (hooks (p, m).2)[k]? = none from e]] at hs; cases hs
      | some h =>
        rw [show (match (hooks (p, m).2)[k]? with | some h => at_ s h.2 | none => none) = at_ s h.2 from by rw [show (hooks (p, m).2)[k]? = some h from e]] at hs
        have hc : (p ++ [k], h.2) ∈ ch (p, m) := ch_mem.mpr ⟨k, h, e, rfl, rfl⟩
        exact ⟨_, hc, (ih _ hc).mpr ⟨s, by simp, hs⟩⟩
/-! ### the order of paths -/
def plt (a b : List Nat) : Bool := W.dataLt (tu nI a) (tu nI b)
theorem plt_eq (a b : List Nat) : plt a b = PyProof.Rows.lexLt PyProof.Rows.itemOrd (W.keyToksAll (a.map nI)) (W.keyToksAll (b.map nI)) := W.dataLt_tuple _ _
theorem ptoks (x : Nat) (a : List Nat) : W.keyToksAll ((x :: a).map nI) = [.inl 1] ++ ([.inl (x : Int)] ++ W.keyToksAll (a.map nI)) := by
  simp [W.keyToksAll, W.keyToks, nI]
theorem plt_same (x : Nat) (a b : List Nat) : plt (x :: a) (x :: b) = plt a b := by
  rw [plt_eq, plt_eq, ptoks, ptoks, W.lex_pre, W.lex_pre]
theorem plt_pre : ∀ p a b : List Nat, plt (p ++ a) (p ++ b) = plt a b
  | [], _, _ => rfl
  | x :: p, a, b => by rw [List.cons_append, List.cons_append, plt_same, plt_pre p]
theorem plt_nil (x : Nat) (a : List Nat) : plt [] (x :: a) = true := by
  rw [plt_eq, ptoks]; simp [W.keyToksAll]; first | rfl | decide | (simp [PyProof.Rows.lexLt])
theorem plt_lt {x y : Nat} (h : x < y) (a b : List Nat) : plt (x :: a) (y :: b) = true := by
  have hne : (Sum.inl (x : Int) : Int ⊕ List Nat) ≠ Sum.inl (y : Int) := fun e => by injection e with e; omega
  rw [plt_eq, ptoks, ptoks, W.lex_pre, List.singleton_append, List.singleton_append, W.lex_atom hne]
  have : ((x : Int) < (y : Int)) := by omega
  simp [PyProof.Rows.lexLt, PyProof.Rows.itemOrd, PyProof.Rows.itemLt, this]
theorem zip_lt {α : Type} : ∀ (l : List α) (n : Nat), (l.zipIdx n).Pairwise fun a b => a.2 < b.2
  | [], _ => .nil
  | x :: l, n => .cons (fun b hb => by
      have := List.le_snd_of_mem_zipIdx hb
      show n < b.2
      omega) (zip_lt l (n + 1))
theorem pre_lt : ∀ x : Row, (pre x).Pairwise fun a b => plt a.1 b.1 = true := by
  intro x
  refine Row.ind (P := fun x => (pre x).Pairwise fun a b => plt a.1 b.1 = true) (fun x ih => ?_) x
  obtain ⟨p, m⟩ := x
  rw [pre_eq]
  refine List.Pairwise.cons (fun b hb => ?_) ?_
  · obtain ⟨y, h1, h2⟩ := List.mem_flatMap.mp hb
    obtain ⟨q, t⟩ := b
    obtain ⟨s, rfl, _⟩ := (pre_mem y).mp h2
    obtain ⟨k, h, _, e, _⟩ := ch_mem.mp (show (y.1, y.2) ∈ ch (p, m) from h1)
    show plt p (y.1 ++ s) = true
    rw [e, List.append_assoc]
    have := plt_pre p [] ([k] ++ s)
    rw [List.append_nil] at this
    rw [this]; exact plt_nil _ _
  · refine List.pairwise_flatMap.mpr ⟨ih, ?_⟩
    unfold ch
    rw [List.pairwise_map]
    refine List.Pairwise.imp_of_mem (R := fun a b => a.2 < b.2) (fun {a b} _ _ hab => ?_) (zip_lt _ _)
    rintro ⟨q1, t1⟩ h1 ⟨q2, t2⟩ h2
    obtain ⟨s1, rfl, _⟩ := (pre_mem _).mp h1
    obtain ⟨s2, rfl, _⟩ := (pre_mem _).mp h2
    show plt (p ++ [a.2] ++ s1) (p ++ [b.2] ++ s2) = true
    rw [List.append_assoc, List.append_assoc, plt_pre]
    exact plt_lt hab _ _
end Mo

namespace Mo
open PySem PySem.Spec PyProof.Rows L2 Pu
/-! ### walks in any order give the same rows -/
def bfs : Nat → List Row → List Row
  | 0, _ => []
  | n + 1, L => L ++ bfs n (L.flatMap ch)
theorem perm_flat {α β : Type} {f g : α → List β} : ∀ {l : List α}, (∀ x ∈ l, (f x).Perm (g x)) → (l.flatMap f).Perm (l.flatMap g)
  | [], _ => .refl _
  | x :: l, h => by
    rw [List.flatMap_cons, List.flatMap_cons]
    exact (h x List.mem_cons_self).append (perm_flat fun y hy => h y (List.mem_cons_of_mem _ hy))
theorem perm_pre : ∀ L : List Row, (L ++ (L.flatMap ch).flatMap pre).Perm (L.flatMap pre)
  | [] => .refl _
  | x :: L => by
    rw [List.flatMap_cons, List.flatMap_append, List.flatMap_cons, pre_eq x, List.cons_append, List.cons_append]
    refine List.Perm.cons x ?_
    refine List.Perm.trans ?_ ((List.Perm.refl _).append (perm_pre L))
    rw [← List.append_assoc, ← List.append_assoc]
    exact List.perm_append_comm.append_right _
theorem dep_ch {n : Nat} {x y : Row} (h : y ∈ ch x) (hd : dep x.2 ≤ n + 1) : dep y.2 ≤ n := by
  obtain ⟨p, m⟩ := x
  obtain ⟨k, g, e, _, e2⟩ := ch_mem.mp (show (y.1, y.2) ∈ ch (p, m) from h)
  rw [e2]
  cases m with
  | w i => cases e
  | r hs => exact dep_r.mp hd _ (List.mem_of_getElem? e)
theorem dep_ch0 {x : Row} (hd : dep x.2 ≤ 0) : ch x = [] := by
  obtain ⟨p, m⟩ := x
  cases m with
  | w i => rfl
  | r hs => exact absurd hd dep_r0
theorem bfs_perm : ∀ (n : Nat) (L : List Row), (∀ x ∈ L, dep x.2 ≤ n) → (bfs (n + 1) L).Perm (L.flatMap pre)
  | 0, L, h => by
    have e : L.flatMap ch = [] := List.flatMap_eq_nil_iff.mpr fun x hx => dep_ch0 (h x hx)
    refine List.Perm.trans ?_ (perm_pre L)
    rw [e]; exact .refl _
  | n + 1, L, h => by
    refine List.Perm.trans ?_ (perm_pre L)
    exact (List.Perm.refl L).append (bfs_perm n (L.flatMap ch) fun y hy => by
      obtain ⟨x, hx, hy⟩ := List.mem_flatMap.mp hy
      exact dep_ch hy (h x hx))
/-! ### sorting is unique -/
theorem pw_or {α : Type} {R : α → α → Prop} : ∀ {l : List α}, l.Pairwise R → ∀ {a b : α}, a ∈ l → b ∈ l → a = b ∨ R a b ∨ R b a
  | x :: l, .cons hx h, a, b, ha, hb => by
    rcases List.mem_cons.mp ha with e | ha
    · rcases List.mem_cons.mp hb with e' | hb
      · exact .inl (e.trans e'.symm)
      · exact .inr (.inl (e ▸ hx _ hb))
    · rcases List.mem_cons.mp hb with e' | hb
      · exact .inr (.inr (e' ▸ hx _ ha))
      · exact pw_or h ha hb
theorem sort_uniq {α : Type} {le : α → α → Bool} (tr : ∀ a b c, le a b = true → le b c = true → le a c = true) (tt : ∀ a b, (le a b || le b a) = true) {l l' : List α} (hp : l'.Perm l) (hs : l.Pairwise fun a b => le b a = false) : l'.mergeSort le = l := by
  have h1 := List.pairwise_mergeSort tr tt l'
  have h2 : (l'.mergeSort le).Perm l := (List.mergeSort_perm l' le).trans hp
  have hs' : l.Pairwise fun a b => le a b = true := hs.imp fun {a b} h => by
    have := tt a b
    rw [h, Bool.or_false] at this; exact this
  refine List.Perm.eq_of_pairwise (le := fun a b => le a b = true) (fun a b ha hb e1 e2 => ?_) h1 hs' h2
  rcases pw_or hs (h2.mem_iff.mp ha) hb with h | h | h
  · exact h
  · rw [e2] at h; cases h
  · rw [e1] at h; cases h
abbrev pD (p : List Nat) : D := tu nI p
variable [Tb]
theorem paths_sorted {x : Row} {l : List (List Nat)} (hp : l.Perm ((pre x).map (·.1))) : (l.map pD).mergeSort dLe = ((pre x).map (·.1)).map pD := by
  refine sort_uniq dLe_trans dLe_total (hp.map pD) ?_
  rw [List.pairwise_map, List.pairwise_map]
  refine (pre_lt x).imp fun {a b} h => ?_
  show (!W.dataLt (tu nI a.1) (tu nI b.1)) = false
  rw [show W.dataLt (tu nI a.1) (tu nI b.1) = true from h]; rfl
def rowD (x : Row) : D := .tuple [pD x.1, enc x.2]
theorem ky_row (x : Row) : ky (kfI 0) (rowD x) = pD x.1 := rfl
theorem kfI_row (x : Row) : kfI 0 (rowD x) = some (pD x.1) := rfl
theorem kLe_trans (kf : D → Option D) (a b c : D) (h1 : kLe kf a b = true) (h2 : kLe kf b c = true) : kLe kf a c = true := dLe_trans _ _ _ h1 h2
theorem kLe_total (kf : D → Option D) (a b : D) : (kLe kf a b || kLe kf b a) = true := dLe_total _ _
theorem rows_sorted {x : Row} {l : List Row} (hp : l.Perm (pre x)) : (l.map rowD).mergeSort (kLe (kfI 0)) = (pre x).map rowD := by
  refine sort_uniq (kLe_trans _) (kLe_total _) (hp.map rowD) ?_
  rw [List.pairwise_map]
  refine (pre_lt x).imp fun {a b} h => ?_
  show (!W.dataLt (ky (kfI 0) (rowD a)) (ky (kfI 0) (rowD b))) = false
  rw [ky_row, ky_row, show W.dataLt (tu nI a.1) (tu nI b.1) = true from h]; rfl
theorem nol_nats : ∀ p : List Nat, nolA (p.map nI) = true
  | [] => rfl
  | x :: p => by
    show (nol (nI x) && nolA (p.map nI)) = true
    rw [nol_nats p]; rfl
theorem nol_p (p : List Nat) : nol (pD p) = true := nol_nats p
/-- rows in the order of a walk from the root -/
theorem keyOk_rows {m : Mob} {r : List Row} (hl : (([], m) :: r).length ≤ sizeLine) : KeyOk (kfI 0) ((([], m) :: r).map rowD) where
  key := fun d hd => by
    obtain ⟨x, _, rfl⟩ := List.mem_map.mp hd
    exact ⟨_, kfI_row x⟩
  nl := fun d hd => by
    obtain ⟨x, _, rfl⟩ := List.mem_map.mp hd
    rw [ky_row]; exact nol_p _
  al := fun d hd d' hd' => by
    rw [List.map_map] at hd hd'
    obtain ⟨x, _, rfl⟩ := List.mem_map.mp hd
    obtain ⟨y, _, rfl⟩ := List.mem_map.mp hd'
    exact alike_tu _ _
  so := .inr ⟨r.map fun x => pD x.1, by rw [List.map_map, List.map_cons]; rfl, fun d hd => by
    obtain ⟨x, _, rfl⟩ := List.mem_map.mp hd
    exact ⟨_, rfl⟩⟩
  dp := fun d hd => by
    obtain ⟨x, _, rfl⟩ := List.mem_map.mp hd
    rw [ky_row, depth_tu]; decide
  len := by rw [List.length_map]; exact hl
theorem sortK_rows {m : Mob} {r : List Row} (hp : (([], m) :: r).Perm (pre ([], m))) (hl : (([], m) :: r).length ≤ 1000000) : sortKR (kfI 0) (.list ((([], m) :: r).map rowD)) = ok ((pre ([], m)).map rowD) := by
  rw [show sortKR (kfI 0) (.list ((([], m) :: r).map rowD)) = kSrt (kfI 0) ((([], m) :: r).map rowD) from rfl, kSrt, bd_req (keyOk_rows (Nat.le_trans hl (by decide))), rows_sorted hp]
/-! ### deep paths first -/
theorem lt_pair {i j : Int} (h : i < j) (x y : D) : W.dataLt (.tuple [.int i, x]) (.tuple [.int j, y]) = true := by
  have hne : (Sum.inl i : Int ⊕ List Nat) ≠ Sum.inl j := fun e => by injection e with e; omega
  rw [W.dataLt_tuple]
  show PyProof.Rows.lexLt PyProof.Rows.itemOrd (W.keyToksAll [.int i, x]) (W.keyToksAll [.int j, y]) = true
  rw [show W.keyToksAll [.int i, x] = [.inl 1] ++ ([.inl i] ++ W.keyToksAll [x]) from by simp [W.keyToksAll, W.keyToks], show W.keyToksAll [.int j, y] = [.inl 1] ++ ([.inl j] ++ W.keyToksAll [y]) from by simp [W.keyToksAll, W.keyToks], W.lex_pre, List.singleton_append, List.singleton_append, W.lex_atom hne]
  simp [PyProof.Rows.lexLt, PyProof.Rows.itemOrd, PyProof.Rows.itemLt, h]
theorem kf_NL {p : List Nat} (h : p.length ≤ sizeLine) : kfNL (pD p) = some (.tuple [.int (-(p.length : Int)), pD p]) := by
  show (if (p.map nI).length ≤ sizeLine then _ else _) = _
  rw [List.length_map, if_pos h]; rfl
theorem deep_sorted {ps : List (List Nat)} (hl : ps.length ≤ 1000000) (hp : ∀ p ∈ ps, p.length ≤ 1000000) (g : List D → D) (hg : ∀ l, sortKR kfNL (g l) = kSrt kfNL l) : ∃ qs : List (List Nat), sortKR kfNL (g (ps.map pD)) = ok (qs.map pD) ∧ qs.Perm ps ∧ qs.Pairwise fun a b => b.length ≤ a.length := by
  have hz : ∀ p ∈ ps, p.length ≤ sizeLine := fun p h => Nat.le_trans (hp p h) (by decide)
  have kyp : ∀ p ∈ ps, ky kfNL (pD p) = .tuple [.int (-(p.length : Int)), pD p] := fun p h => by unfold ky; rw [kf_NL (hz p h)]; rfl
  have ok_ : KeyOk kfNL (ps.map pD) := {
    key := fun d hd => by
      obtain ⟨p, h, rfl⟩ := List.mem_map.mp hd
      exact ⟨_, kf_NL (hz p h)⟩
    nl := fun d hd => by
      obtain ⟨p, h, rfl⟩ := List.mem_map.mp hd
      rw [kyp p h]
      show (true && (nol (pD p) && true)) = true
      rw [nol_p]; rfl
    al := fun d hd d' hd' => by
      rw [List.map_map] at hd hd'
      obtain ⟨p, h, rfl⟩ := List.mem_map.mp hd
      obtain ⟨q, h', rfl⟩ := List.mem_map.mp hd'
      show W.alike (ky kfNL (pD p)) (ky kfNL (pD q)) = true
      rw [kyp p h, kyp q h']
      simp [W.alike, W.alikeAll, alike_tu]
    so := .inl (.inl fun d hd => by
      rw [List.map_map] at hd
      obtain ⟨p, h, rfl⟩ := List.mem_map.mp hd
      exact ⟨_, _, kyp p h⟩)
    dp := fun d hd => by
      obtain ⟨p, h, rfl⟩ := List.mem_map.mp hd
      rw [kyp p h]
      have := depth_tu p
      simp [PyData.depth, PyData.depthAll, this]
    len := by rw [List.length_map]; exact Nat.le_trans hl (by decide) }
  refine ⟨ps.mergeSort fun a b => kLe kfNL (pD a) (pD b), ?_, List.mergeSort_perm _ _, ?_⟩
  · rw [hg]
    show bd (req _) _ = _
    rw [bd_req ok_, List.map_mergeSort (r := fun a b => kLe kfNL (pD a) (pD b)) (s := kLe kfNL) (f := pD) (fun a _ b _ => rfl)]
  · refine (List.pairwise_mergeSort (le := fun a b => kLe kfNL (pD a) (pD b)) (fun a b c => kLe_trans kfNL (pD a) (pD b) (pD c)) (fun a b => kLe_total kfNL (pD a) (pD b)) ps).imp_of_mem fun {a b} ha hb h => ?_
    have ha := (List.mergeSort_perm _ _).mem_iff.mp ha
    have hb := (List.mergeSort_perm _ _).mem_iff.mp hb
    rcases Nat.lt_or_ge a.length b.length with hl | hl
    · have h : (!W.dataLt (ky kfNL (pD b)) (ky kfNL (pD a))) = true := h
      rw [kyp a ha, kyp b hb, lt_pair (by omega)] at h
      cases h
    · exact hl
end Mo

namespace Mo
open PySem PySem.Spec PyProof.Rows L2 Pu
/-! ### turning -/
def rev1 (hs : List (Int × Mob)) : List (Int × Mob) := hs.reverse.map fun h => (-h.1, h.2)
def tn : Mob → Mob
  | .w i => .w i
  | .r hs => .r (rev1 (hs.attach.map fun p => (p.1.1, tn p.1.2)))
termination_by m => m
decreasing_by simp; exact lt_hook p.2
theorem tn_w (i : Int) : tn (.w i) = .w i := by rw [tn]
theorem tn_r (hs : List (Int × Mob)) : tn (.r hs) = .r (rev1 (hs.map fun p => (p.1, tn p.2))) := by rw [tn, att (fun p : Int × Mob => (p.1, tn p.2))]
theorem sum_rev {α : Type} (f : α → Int) (l : List α) : (l.reverse.map f).sum = (l.map f).sum := by
  rw [List.map_reverse, List.sum_reverse]
theorem sum_neg (l : List Int) : (l.map fun x => -x).sum = -l.sum := by
  induction l with
  | nil => rfl
  | cons x l ih => rw [List.map_cons, List.sum_cons, List.sum_cons, ih]; omega
theorem tot_rev1 (hs : List (Int × Mob)) : tot (.r (rev1 hs)) = tot (.r hs) := by
  rw [tot_r, tot_r, rev1, List.map_map]
  exact sum_rev (fun p : Int × Mob => tot p.2) hs
theorem mom_rev1 (hs : List (Int × Mob)) : mom (rev1 hs) = -mom hs := by
  unfold mom rev1
  rw [List.map_map]
  refine (sum_rev (fun h : Int × Mob => (-h.1) * tot h.2) hs).trans ?_
  rw [← sum_neg, List.map_map]
  congr 1
  refine List.map_congr_left fun p _ => ?_
  show (-p.1) * tot p.2 = -(p.1 * tot p.2)
  rw [Int.neg_mul]
theorem tot_tn : ∀ m, tot (tn m) = tot m := by
  intro m
  refine Mob.ind (P := fun m => tot (tn m) = tot m) (fun i => by rw [tn_w]) (fun hs ih => ?_) m
  rw [tn_r, tot_rev1, tot_r, tot_r, List.map_map]
  congr 1
  exact List.map_congr_left fun p hp => ih p hp
theorem mom_tn (hs : List (Int × Mob)) : mom (hs.map fun p => (p.1, tn p.2)) = mom hs := by
  unfold mom
  rw [List.map_map]
  congr 1
  refine List.map_congr_left fun p _ => ?_
  show p.1 * tot (tn p.2) = _
  rw [tot_tn]
/-! ### level -/
def tlt : Mob → Bool
  | .w _ => false
  | .r hs => decide (mom hs ≠ 0)
def lvl (m : Mob) : Prop := ∀ q t, at_ q m = some t → tlt t = false
theorem lvl_w (i : Int) : lvl (.w i) := fun q t h => by
  cases q with
  | nil => cases h; rfl
  | cons k q => cases h
theorem at_some {k : Nat} {q : List Nat} {hs : List (Int × Mob)} {h : Int × Mob} (e : hs[k]? = some h) : at_ (k :: q) (.r hs) = at_ q h.2 := by
  show (match hs[k]? with | some h => at_ q h.2 | none => none) = _
  rw [e]
theorem at_none {k : Nat} {q : List Nat} {hs : List (Int × Mob)} (e : hs[k]? = none) : at_ (k :: q) (.r hs) = none := by
  show (match hs[k]? with | some h => at_ q h.2 | none => none) = _
  rw [e]
theorem at_all {P : Mob → Prop} {hs : List (Int × Mob)} : (∀ q t, at_ q (.r hs) = some t → P t) ↔ P (.r hs) ∧ ∀ p ∈ hs, ∀ q t, at_ q p.2 = some t → P t := by
  constructor
  · intro h
    refine ⟨h [] _ rfl, fun p hp q t e => ?_⟩
    obtain ⟨k, hk⟩ := List.getElem?_of_mem hp
    exact h (k :: q) t (by rw [at_some hk]; exact e)
  · rintro ⟨h1, h2⟩ q t e
    cases q with
    | nil => cases e; exact h1
    | cons k q =>
      cases hk : hs[k]? with
      | none => rw [at_none hk] at e; cases e
      | some h => rw [at_some hk] at e; exact h2 h (List.mem_of_getElem? hk) q t e
theorem at_allw {P : Mob → Prop} {i : Int} : (∀ q t, at_ q (.w i) = some t → P t) ↔ P (.w i) := by
  constructor
  · intro h; exact h [] _ rfl
  · intro h q t e
    cases q with
    | nil => cases e; exact h
    | cons k q => cases e
theorem lvl_r {hs : List (Int × Mob)} : lvl (.r hs) ↔ mom hs = 0 ∧ ∀ p ∈ hs, lvl p.2 := by
  unfold lvl
  rw [at_all (P := fun t => tlt t = false)]
  simp [tlt]
theorem lvl_rev1 {hs : List (Int × Mob)} : lvl (.r (rev1 hs)) ↔ lvl (.r hs) := by
  rw [lvl_r, lvl_r, mom_rev1]
  unfold rev1
  constructor
  · rintro ⟨h1, h2⟩
    refine ⟨by omega, fun p hp => ?_⟩
    exact h2 (-p.1, p.2) (List.mem_map.mpr ⟨p, List.mem_reverse.mpr hp, rfl⟩)
  · rintro ⟨h1, h2⟩
    refine ⟨by omega, fun p hp => ?_⟩
    obtain ⟨r, hr, rfl⟩ := List.mem_map.mp hp
    exact h2 r (List.mem_reverse.mp hr)
theorem lvl_tn : ∀ m, lvl (tn m) ↔ lvl m := by
  intro m
  refine Mob.ind (P := fun m => lvl (tn m) ↔ lvl m) (fun i => by rw [tn_w]) (fun hs ih => ?_) m
  rw [tn_r, lvl_rev1, lvl_r, lvl_r, mom_tn]
  constructor
  · rintro ⟨h1, h2⟩
    exact ⟨h1, fun p hp => (ih p hp).mp (h2 (p.1, tn p.2) (List.mem_map.mpr ⟨p, hp, rfl⟩))⟩
  · rintro ⟨h1, h2⟩
    refine ⟨h1, fun p hp => ?_⟩
    obtain ⟨r, hr, rfl⟩ := List.mem_map.mp hp
    exact (ih r hr).mpr (h2 r hr)
/-- the tilted rods, in order -/
def tls (x : Row) : List (List Nat) := ((pre x).filter fun y => tlt y.2).map (·.1)
theorem tls_nil {m : Mob} : tls ([], m) = [] ↔ lvl m := by
  unfold tls lvl
  rw [List.map_eq_nil_iff, List.filter_eq_nil_iff]
  constructor
  · intro h q t e
    have := h (q, t) ((pre_mem _).mpr ⟨q, rfl, e⟩)
    simpa using this
  · rintro h ⟨q, t⟩ hm
    obtain ⟨s, _, e⟩ := (pre_mem _).mp hm
    rw [h s t e]; simp
theorem tls_eq (p : List Nat) (m : Mob) : tls (p, m) = (if tlt m = true then [p] else []) ++ (ch (p, m)).flatMap tls := by
  unfold tls
  rw [pre_eq, List.filter_cons, List.filter_flatMap]
  show List.map (fun y : Row => y.1) (if tlt m = true then _ else _) = _
  split
  · rw [List.map_cons, List.map_flatMap]; rfl
  · rw [List.map_flatMap]; rfl
/-! ### another part -/
def put : List Nat → Mob → Mob → Mob
  | [], _, t => t
  | k :: q, .r hs, t => .r (match hs[k]? with
    | some h => hs.set k (h.1, put q h.2 t)
    | none => hs)
  | _ :: _, .w i, _ => .w i
theorem put_some {k : Nat} {q : List Nat} {hs : List (Int × Mob)} {h : Int × Mob} {t : Mob} (e : hs[k]? = some h) : put (k :: q) (.r hs) t = .r (hs.set k (h.1, put q h.2 t)) := by
  show Mob.r (match hs[k]? with | some h => _ | none => _) = _
  rw [e]
theorem sum_set {α : Type} (f : α → Int) : ∀ {l : List α} {k : Nat} {x y : α}, l[k]? = some x → f y = f x → ((l.set k y).map f).sum = (l.map f).sum
  | a :: l, 0, x, y, e, h => by
    simp at e; subst e
    rw [List.set_cons_zero, List.map_cons, List.map_cons, h]
  | a :: l, k + 1, x, y, e, h => by
    rw [List.set_cons_succ, List.map_cons, List.map_cons, List.sum_cons, List.sum_cons, sum_set f (by simpa using e) h]
theorem put_tot : ∀ {q : List Nat} {m t t' : Mob}, at_ q m = some t → tot t' = tot t → tot (put q m t') = tot m
  | [], m, t, t', e, h => by cases e; exact h
  | k :: q, .w i, t, t', e, h => by cases e
  | k :: q, .r hs, t, t', e, h => by
    cases hk : hs[k]? with
    | none => rw [at_none hk] at e; cases e
    | some x =>
      rw [at_some hk] at e
      rw [put_some hk, tot_r, tot_r]
      exact sum_set (fun p : Int × Mob => tot p.2) hk (put_tot e h)
theorem put_mom {k : Nat} {q : List Nat} {hs : List (Int × Mob)} {h : Int × Mob} {t t' : Mob} (hk : hs[k]? = some h) (e : at_ q h.2 = some t) (et : tot t' = tot t) : mom (hs.set k (h.1, put q h.2 t')) = mom hs := by
  unfold mom
  refine sum_set (fun p : Int × Mob => p.1 * tot p.2) hk ?_
  show h.1 * tot (put q h.2 t') = _
  rw [put_tot e et]
theorem put_lvl : ∀ {q : List Nat} {m t t' : Mob}, at_ q m = some t → tot t' = tot t → (lvl t' ↔ lvl t) → (lvl (put q m t') ↔ lvl m)
  | [], m, t, t', e, _, h => by cases e; exact h
  | k :: q, .w i, t, t', e, _, h => by cases e
  | k :: q, .r hs, t, t', e, et, h => by
    cases hk : hs[k]? with
    | none => rw [at_none hk] at e; cases e
    | some x =>
      rw [at_some hk] at e
      have ih := put_lvl e et h
      rw [put_some hk, lvl_r, lvl_r, put_mom hk e et]
      refine and_congr_right fun _ => ?_
      have hkl : k < hs.length := (List.getElem?_eq_some_iff.mp hk).1
      constructor
      · intro H p hp
        obtain ⟨j, hj⟩ := List.getElem?_of_mem hp
        by_cases ej : j = k
        · subst ej
          rw [hk] at hj; cases hj
          exact ih.mp (H (x.1, put q x.2 t') (List.mem_of_getElem? (List.getElem?_set_self hkl)))
        · exact H p (List.mem_of_getElem? (i := j) (by rw [List.getElem?_set_ne (Ne.symm ej)]; exact hj))
      · intro H p hp
        obtain ⟨j, hj⟩ := List.getElem?_of_mem hp
        rcases Nat.decEq j k with ej | ej
        · rw [List.getElem?_set_ne (Ne.symm ej)] at hj
          exact H p (List.mem_of_getElem? hj)
        · subst ej
          rw [List.getElem?_set_self hkl] at hj
          cases hj
          exact ih.mpr (H x (List.mem_of_getElem? hk))
theorem flat_set {α β : Type} {f g : α × Nat → List β} : ∀ {l : List α} {k n : Nat} {v : α}, (∀ x, l[k]? = some x → f (v, n + k) = g (x, n + k)) → (∀ i x, l[i]? = some x → i ≠ k → f (x, n + i) = g (x, n + i)) → ((l.set k v).zipIdx n).flatMap f = (l.zipIdx n).flatMap g
  | [], _, _, _, _, _ => rfl
  | a :: l, 0, n, v, h1, h2 => by
    rw [List.set_cons_zero, List.zipIdx_cons, List.zipIdx_cons, List.flatMap_cons, List.flatMap_cons]
    congr 1
    · exact h1 a rfl
    · have := flat_set (f := f) (g := g) (l := l) (k := l.length) (n := n + 1) (v := v) (fun x e => by simp at e) fun i x e _ => by
        have := h2 (i + 1) x (by simpa using e) (by omega)
        rwa [show n + 1 + i = n + (i + 1) by omega]
      rwa [List.set_eq_of_length_le (Nat.le_refl _)] at this
  | a :: l, k + 1, n, v, h1, h2 => by
    rw [List.set_cons_succ, List.zipIdx_cons, List.zipIdx_cons, List.flatMap_cons, List.flatMap_cons]
    congr 1
    · exact h2 0 a rfl (by omega)
    · exact flat_set (fun x e => by
        have := h1 x (by simpa using e)
        rwa [show n + 1 + k = n + (k + 1) by omega]) fun i x e hi => by
        have := h2 (i + 1) x (by simpa using e) (by omega)
        rwa [show n + 1 + i = n + (i + 1) by omega]
theorem tls_pre {x : Row} {r : List Nat} (h : r ∈ tls x) : ∃ s, r = x.1 ++ s := by
  obtain ⟨⟨q, t⟩, hm, rfl⟩ := List.mem_map.mp h
  obtain ⟨s, e, _⟩ := (pre_mem x).mp (List.mem_filter.mp hm).1
  exact ⟨s, e⟩
/-- below the path a weight of the same total: the rods elsewhere stay as they were -/
theorem put_tls (n : Int) : ∀ {q p : List Nat} {m t : Mob}, at_ q m = some t → tot t = n → tls (p, put q m (.w n)) = (tls (p, m)).filter fun r => decide (r.take (p ++ q).length ≠ p ++ q)
  | [], p, m, t, e, h => by
    rw [List.append_nil]
    show tls (p, .w n) = _
    rw [show tls (p, .w n) = [] from by rw [tls_eq]; rfl]
    symm
    rw [List.filter_eq_nil_iff]
    intro r hr
    obtain ⟨s, rfl⟩ := tls_pre hr
    simp
  | k :: q, p, .w i, t, e, h => by cases e
  | k :: q, p, .r hs, t, e, h => by
    cases hk : hs[k]? with
    | none => rw [at_none hk] at e; cases e
    | some x =>
      rw [at_some hk] at e
      have ih := put_tls n (p := p ++ [k]) e h
      rw [put_some hk, tls_eq, tls_eq, List.filter_append, List.filter_flatMap]
      have et : tlt (.r (hs.set k (x.1, put q x.2 (.w n)))) = tlt (.r hs) := by
        show decide (mom _ ≠ 0) = decide (mom _ ≠ 0)
        rw [put_mom hk e (by rw [tot_w, h])]
      congr 1
      · rw [et]
        split
        · symm
          rw [List.filter_eq_self]
          intro r hr
          rw [List.mem_singleton.mp hr]
          refine decide_eq_true fun e => ?_
          have := congrArg List.length e
          simp at this
        · rfl
      · rw [ch_r, ch_r, List.flatMap_map, List.flatMap_map]
        refine flat_set (fun y ey => ?_) fun i y ey hi => ?_
        · rw [hk] at ey; cases ey
          show tls (p ++ [0 + k], put q x.2 (.w n)) = (tls (p ++ [0 + k], x.2)).filter _
          rw [Nat.zero_add, ih, List.append_assoc]; rfl
        · show tls (p ++ [0 + i], y.2) = (tls (p ++ [0 + i], y.2)).filter _
          symm
          rw [List.filter_eq_self]
          intro r hr
          obtain ⟨s, rfl⟩ := tls_pre hr
          refine decide_eq_true fun e => hi ?_
          have e : ((p ++ [0 + i]) ++ s).take (p ++ k :: q).length = p ++ k :: q := e
          rw [List.append_assoc, List.length_append, List.take_append, List.take_of_length_le (by omega)] at e
          have e := List.append_cancel_left e
          simp at e
          exact e.1
end Mo

namespace Mo
open PySem PySem.Spec PyProof.Rows L2 Pu
/-! ### some rods turned: those at the paths of S -/
def flip (b : Bool) (hs : List (Int × Mob)) : List (Int × Mob) := if b = true then rev1 hs else hs
def ts (S : List Nat → Bool) (x : Row) : Mob := match e : x.2 with
  | .w i => .w i
  | .r hs => .r (flip (S x.1) (hs.zipIdx.attach.map fun h => (h.1.1.1, ts S (x.1 ++ [h.1.2], h.1.1.2))))
termination_by sizeOf x.2
decreasing_by
  have := lt_hook (List.fst_mem_of_mem_zipIdx h.2)
  rw [e]; simpa using this
theorem ts_w (S : List Nat → Bool) (p : List Nat) (i : Int) : ts S (p, .w i) = .w i := by rw [ts]
theorem ts_r (S : List Nat → Bool) (p : List Nat) (hs : List (Int × Mob)) : ts S (p, .r hs) = .r (flip (S p) (hs.zipIdx.map fun h => (h.1.1, ts S (p ++ [h.2], h.1.2)))) := by
  rw [ts]
  show Mob.r (flip (S p) _) = _
  rw [att (fun h : (Int × Mob) × Nat => (h.1.1, ts S (p ++ [h.2], h.1.2)))]
theorem map_zip {α β : Type} (g : α → β) : ∀ (l : List α) (n : Nat), (l.zipIdx n).map (fun h => g h.1) = l.map g
  | [], _ => rfl
  | a :: l, n => by rw [List.zipIdx_cons, List.map_cons, List.map_cons, map_zip g l]
theorem zip_in {α : Type} {l : List α} {h : α × Nat} (hm : h ∈ l.zipIdx) : h.1 ∈ l := List.fst_mem_of_mem_zipIdx hm
theorem ts_congr {S T : List Nat → Bool} : ∀ (m : Mob) (p : List Nat), (∀ s, S (p ++ s) = T (p ++ s)) → ts S (p, m) = ts T (p, m) := by
  intro m
  refine Mob.ind (P := fun m => ∀ p : List Nat, (∀ s, S (p ++ s) = T (p ++ s)) → ts S (p, m) = ts T (p, m)) (fun i p _ => by rw [ts_w, ts_w]) (fun hs ih p h => ?_) m
  rw [ts_r, ts_r]
  have e := h []
  rw [List.append_nil] at e
  rw [e]
  congr 2
  refine List.map_congr_left fun a ha => ?_
  rw [ih a.1 (zip_in ha) (p ++ [a.2]) fun s => by rw [List.append_assoc]; exact h _]
theorem ts_none : ∀ (m : Mob) (p : List Nat), ts (fun _ => false) (p, m) = m := by
  intro m
  refine Mob.ind (P := fun m => ∀ p : List Nat, ts (fun _ => false) (p, m) = m) (fun i p => by rw [ts_w]) (fun hs ih p => ?_) m
  rw [ts_r]
  show Mob.r (hs.zipIdx.map _) = _
  congr 1
  refine (List.map_congr_left (g := fun a => (fun h : Int × Mob => h) a.1) (fun a ha => by rw [ih a.1 (zip_in ha)])).trans ?_
  exact (map_zip (fun h : Int × Mob => h) hs 0).trans (by simp)
theorem ts_all {S : List Nat → Bool} : ∀ (m : Mob) (p : List Nat), (∀ s hs, at_ s m = some (.r hs) → S (p ++ s) = true) → ts S (p, m) = tn m := by
  intro m
  refine Mob.ind (P := fun m => ∀ p : List Nat, (∀ s hs, at_ s m = some (.r hs) → S (p ++ s) = true) → ts S (p, m) = tn m) (fun i p _ => by rw [ts_w, tn_w]) (fun hs ih p h => ?_) m
  have e := h [] hs rfl
  rw [List.append_nil] at e
  rw [ts_r, tn_r, e]
  show Mob.r (rev1 _) = _
  congr 2
  refine (List.map_congr_left (g := fun a => (fun h : Int × Mob => (h.1, tn h.2)) a.1) (fun a ha => ?_)).trans (map_zip (fun h : Int × Mob => (h.1, tn h.2)) hs 0)
  show (a.1.1, ts S (p ++ [a.2], a.1.2)) = (a.1.1, tn a.1.2)
  rw [ih a.1 (zip_in ha) (p ++ [a.2]) fun s gs hg => by
    rw [List.append_assoc]
    exact h (a.2 :: s) gs (by rw [at_some (List.mem_zipIdx_iff_getElem?.mp ha)]; exact hg)]
theorem zget {α : Type} {l : List α} {k : Nat} {x : α} (h : l[k]? = some x) : l.zipIdx[k]? = some (x, k) := by
  rw [List.getElem?_zipIdx, h]; simp
theorem at_ts {S : List Nat → Bool} : ∀ {q p : List Nat} {m t : Mob}, at_ q m = some t → (∀ n, n < q.length → S (p ++ q.take n) = false) → at_ q (ts S (p, m)) = some (ts S (p ++ q, t))
  | [], p, m, t, e, _ => by cases e; rw [List.append_nil]; rfl
  | k :: q, p, .w i, t, e, _ => by cases e
  | k :: q, p, .r hs, t, e, h => by
    cases hk : hs[k]? with
    | none => rw [at_none hk] at e; cases e
    | some x =>
      rw [at_some hk] at e
      have e0 := h 0 (by simp)
      rw [List.take_zero, List.append_nil] at e0
      rw [ts_r, e0]
      show at_ (k :: q) (.r (hs.zipIdx.map fun h => (h.1.1, ts S (p ++ [h.2], h.1.2)))) = _
      rw [at_some (h := (x.1, ts S (p ++ [k], x.2))) (by rw [List.getElem?_map, zget hk]; rfl)]
      show at_ q (ts S (p ++ [k], x.2)) = _
      rw [at_ts (p := p ++ [k]) e fun n hn => by
        have := h (n + 1) (by simpa using hn)
        rwa [List.take_succ_cons, ← List.singleton_append, ← List.append_assoc] at this]
      rw [List.append_assoc]; rfl
/-- one rod more is turned, none above it -/
theorem put_ts {S : List Nat → Bool} : ∀ {q p : List Nat} {m : Mob} {hs gs : List (Int × Mob)}, at_ q m = some (.r hs) → (∀ n, n ≤ q.length → S (p ++ q.take n) = false) → ts S (p ++ q, .r hs) = .r gs → put q (ts S (p, m)) (.r (rev1 gs)) = ts (fun r => S r || decide (r = p ++ q)) (p, m)
  | [], p, m, hs, gs, e, h, eg => by
    cases e
    rw [List.append_nil] at eg
    have e0 := h 0 (by simp)
    rw [List.take_zero, List.append_nil] at e0
    show Mob.r (rev1 gs) = _
    rw [List.append_nil, ts_r]
    show _ = Mob.r (flip (S p || decide (p = p)) _)
    rw [decide_eq_true rfl, Bool.or_true]
    show _ = Mob.r (rev1 _)
    rw [ts_r, e0] at eg
    have eg : Mob.r (hs.zipIdx.map fun h => (h.1.1, ts S (p ++ [h.2], h.1.2))) = .r gs := eg
    injection eg with eg
    rw [← eg]
    congr 2
    refine List.map_congr_left fun a ha => ?_
    congr 1
    refine ts_congr a.1.2 (p ++ [a.2]) fun s => ?_
    rw [decide_eq_false (by intro e; have := congrArg List.length e; simp at this), Bool.or_false]
  | k :: q, p, .w i, hs, gs, e, h, eg => by cases e
  | k :: q, p, .r xs, hs, gs, e, h, eg => by
    cases hk : xs[k]? with
    | none => rw [at_none hk] at e; cases e
    | some x =>
      rw [at_some hk] at e
      have e0 := h 0 (by simp)
      rw [List.take_zero, List.append_nil] at e0
      have ap : p ++ k :: q = (p ++ [k]) ++ q := by simp
      have ih := put_ts (S := S) (p := p ++ [k]) e (fun n hn => by
        have := h (n + 1) (by simpa using hn)
        rwa [List.take_succ_cons, ← List.singleton_append, ← List.append_assoc] at this) (by rw [← ap]; exact eg)
      rw [ts_r, e0, ts_r]
      show put (k :: q) (.r (xs.zipIdx.map fun h => (h.1.1, ts S (p ++ [h.2], h.1.2)))) _ = _
      rw [put_some (h := (x.1, ts S (p ++ [k], x.2))) (by rw [List.getElem?_map, zget hk]; rfl)]
      show Mob.r (List.set _ k (x.1, put q (ts S (p ++ [k], x.2)) (.r (rev1 gs)))) = _
      rw [ih]
      have e1 : (S p || decide (p = p ++ k :: q)) = false := by
        rw [e0, decide_eq_false (by intro e; have := congrArg List.length e; simp at this)]; rfl
      rw [e1]
      show Mob.r _ = Mob.r (List.map _ _)
      congr 1
      refine List.ext_getElem? fun j => ?_
      rw [List.getElem?_set]
      have hkl : k < xs.length := (List.getElem?_eq_some_iff.mp hk).1
      split
      · rename_i ej
        subst ej
        rw [if_pos (by simpa using hkl), List.getElem?_map, zget hk]
        show some _ = some _
        rw [ap]
      · rename_i ej
        rw [List.getElem?_map, List.getElem?_map]
        cases hj : xs[j]? with
        | none => rw [List.getElem?_zipIdx, hj]; rfl
        | some y =>
          rw [zget hj]
          show some (y.1, _) = some (y.1, _)
          congr 2
          refine ts_congr y.2 (p ++ [j]) fun s => ?_
          rw [decide_eq_false (by intro e; rw [List.append_assoc] at e; have e := List.append_cancel_left e; simp at e; exact ej e.1.symm), Bool.or_false]
/-- rods turned one by one, deep ones first -/
def turnAll (m : Mob) (f : Mob → List Nat → Mob) (ps : List (List Nat)) : Mob := ps.foldl f m
structure TurnP (m : Mob) (ps : List (List Nat)) : Prop where
  rods : ∀ q, q ∈ ps ↔ ∃ hs, at_ q m = some (.r hs)
  nd : ps.Nodup
  deep : ps.Pairwise fun a b => b.length ≤ a.length
theorem turn_step {m : Mob} {done : List (List Nat)} {q : List Nat} {hs : List (Int × Mob)} (e : at_ q m = some (.r hs)) (hn : q ∉ done) (hd : ∀ r ∈ done, q.length ≤ r.length) :
    ∃ gs, at_ q (ts (fun r => decide (r ∈ done)) ([], m)) = some (.r gs) ∧ put q (ts (fun r => decide (r ∈ done)) ([], m)) (.r (rev1 gs)) = ts (fun r => decide (r ∈ done ++ [q])) ([], m) := by
  have hS : ∀ n, n ≤ q.length → (fun r => decide (r ∈ done)) ([] ++ q.take n) = false := fun n hl => by
    refine decide_eq_false fun hm => ?_
    rw [List.nil_append] at hm
    have h1 := hd _ hm
    rw [List.length_take] at h1
    have : n = q.length := by omega
    rw [this, List.take_length] at hm
    exact hn hm
  obtain ⟨gs, hg⟩ : ∃ gs, ts (fun r => decide (r ∈ done)) ([] ++ q, .r hs) = .r gs := ⟨_, ts_r _ _ _⟩
  refine ⟨gs, ?_, ?_⟩
  · rw [at_ts e fun n hn => hS n (by omega), hg]
  · rw [put_ts e hS hg]
    congr 1
    funext r
    simp
end Mo

namespace Pu
open PySem PySem.Spec PyProof.Rows L2
variable [Tb]
/-! ### reckoning a mirror -/
theorem fold_max : ∀ (l : List Int) (a : Int), (∀ x ∈ l, x ≤ l.foldl max a) ∧ a ≤ l.foldl max a ∧ (l.foldl max a = a ∨ l.foldl max a ∈ l)
  | [], a => ⟨fun _ h => by simp at h, Int.le_refl _, .inl rfl⟩
  | y :: l, a => by
    obtain ⟨h1, h2, h3⟩ := fold_max l (max a y)
    rw [List.foldl_cons]
    refine ⟨fun x hx => ?_, by omega, ?_⟩
    · rcases List.mem_cons.mp hx with rfl | hx
      · omega
      · exact h1 x hx
    · rcases h3 with h | h
      · rw [h]
        rcases Int.le_total a y with q | q
        · rw [Int.max_eq_right q]; exact .inr List.mem_cons_self
        · rw [Int.max_eq_left q]; exact .inl rfl
      · exact .inr (List.mem_cons_of_mem _ h)
theorem depth_is : ∀ l : List Int, PyData.depthAll (l.map PyData.int) = 0
  | [] => rfl
  | x :: l => by rw [List.map_cons, PyData.depthAll, depth_is l]; rfl
theorem max_is {l : List Int} (h : l ≠ []) : ∃ m ∈ l, (∀ x ∈ l, x ≤ m) ∧ maxR [.list (l.map PyData.int)] = ok (.int m) := by
  cases l with
  | nil => exact absurd rfl h
  | cons b bs =>
    obtain ⟨h1, h2, h3⟩ := fold_max bs b
    have hd := depth_is (b :: bs)
    rw [List.map_cons] at hd
    refine ⟨bs.foldl max b, ?_, fun x hx => ?_, ?_⟩
    · rcases h3 with h3 | h3
      · rw [h3]; exact List.mem_cons_self
      · exact List.mem_cons_of_mem _ h3
    · rcases List.mem_cons.mp hx with rfl | hx
      · exact h2
      · exact h1 x hx
    · show bd (req (W.AlikeAll (.int b :: bs.map .int) ∧ PyData.depthAll (.int b :: bs.map .int) ≤ 60)) (fun _ => ok (W.maxD (.int b) (bs.map .int))) = _
      rw [bd_req]
      · rw [W.maxD_ints]
      · refine ⟨⟨fun x hx y hy => ?_, fun x hx => ?_⟩, by omega⟩
        · rw [← List.map_cons] at hx hy
          obtain ⟨x, _, rfl⟩ := List.mem_map.mp hx
          obtain ⟨y, _, rfl⟩ := List.mem_map.mp hy
          simp [W.alike]
        · rw [← List.map_cons] at hx
          obtain ⟨x, _, rfl⟩ := List.mem_map.mp hx
          intro h; cases h
theorem max_cons (b : Int) (bs : List Int) : maxR [.list ((b :: bs).map PyData.int)] = ok (.int (bs.foldl max b)) := by
  have hd := depth_is (b :: bs)
  rw [List.map_cons] at hd
  show bd (req (W.AlikeAll (.int b :: bs.map .int) ∧ PyData.depthAll (.int b :: bs.map .int) ≤ 60)) (fun _ => ok (W.maxD (.int b) (bs.map .int))) = _
  rw [bd_req]
  · rw [W.maxD_ints]
  · refine ⟨⟨fun x hx y hy => ?_, fun x hx => ?_⟩, by omega⟩
    · rw [← List.map_cons] at hx hy
      obtain ⟨x, _, rfl⟩ := List.mem_map.mp hx
      obtain ⟨y, _, rfl⟩ := List.mem_map.mp hy
      simp [W.alike]
    · rw [← List.map_cons] at hx
      obtain ⟨x, _, rfl⟩ := List.mem_map.mp hx
      intro h; cases h

section
variable {α β : Type} {f : α → D} {ρ : List Sl}
@[simp] theorem wipe_nil (ρ : List Sl) : wipeS ρ [] = ρ := (rfl)
@[simp] theorem wipe_cons (ρ : List Sl) (v : Nat) (vs : List Nat) : wipeS ρ (v :: vs) = (wipeS ρ vs).set v .un := (rfl)
@[simp] theorem isiR_e (p : D → Bool) (d : D) : isiR p d = ok (.bool (p d)) := (rfl)
@[simp] theorem isT_t (l : List D) : isTup (.tuple l) = true := (rfl)
@[simp] theorem isT_i (i : Int) : isTup (.int i) = false := (rfl)
@[simp] theorem isI_t (l : List D) : isInt (.tuple l) = false := (rfl)
@[simp] theorem isI_i (i : Int) : isInt (.int i) = true := (rfl)
@[simp] theorem isB_i (i : Int) : isBoo (.int i) = false := (rfl)
@[simp] theorem isB_t (l : List D) : isBoo (.tuple l) = false := (rfl)
@[simp] theorem gT2' {g h : D → List Sl → R (List Sl)} {a b : D} : gTupR 2 (gConsR g (gConsR h gNilR)) (.tuple [a, b]) ρ = bd (g a ρ) (h b) := gT2
@[simp] theorem tupR0 : tupR [] = ok (.tuple []) := tupR_e (by decide)
@[simp] theorem tupR1 (a : D) : tupR [a] = ok (.tuple [a]) := tupR_e (show 1 ≤ sizeLine by decide)
@[simp] theorem tupR2 (a b : D) : tupR [a, b] = ok (.tuple [a, b]) := tupR_e (show 2 ≤ sizeLine by decide)
@[simp] theorem tupR3 (a b c : D) : tupR [a, b, c] = ok (.tuple [a, b, c]) := tupR_e (show 3 ≤ sizeLine by decide)
@[simp] theorem lstR0 : lstR [] = ok [] := lstR_e (by decide)
@[simp] theorem lstR1 (a : D) : lstR [a] = ok [a] := lstR_e (show 1 ≤ sizeLine by decide)
@[simp] theorem lstR2 (a b : D) : lstR [a, b] = ok [a, b] := lstR_e (show 2 ≤ sizeLine by decide)
@[simp] theorem lstR3 (a b c : D) : lstR [a, b, c] = ok [a, b, c] := lstR_e (show 3 ≤ sizeLine by decide)
@[simp] theorem ixt0' (x : D) (l : List D) : ixR (.tuple (x :: l)) (.int 0) = ok x := ixt0 x l
@[simp] theorem ixt1' (x y : D) (l : List D) : ixR (.tuple (x :: y :: l)) (.int 1) = ok y := ixt1 x y l
@[simp] theorem ixl0' (x : D) (l : List D) : ixR (.list (x :: l)) (.int 0) = ok x := ixl0 x l
@[simp] theorem ixl1' (x y : D) (l : List D) : ixR (.list (x :: y :: l)) (.int 1) = ok y := ixl1 x y l
@[simp] theorem tupOfR_l (l : List D) : tupOfR [.list l] = ok (.tuple l) := (rfl)
@[simp] theorem tupOfR_t (l : List D) : tupOfR [.tuple l] = ok (.tuple l) := (rfl)
@[simp] theorem lstOfR_l (l : List D) : lstOfR [.list l] = ok l := (rfl)
@[simp] theorem lstOfR_t (l : List D) : lstOfR [.tuple l] = ok l := (rfl)
@[simp] theorem revR_t' (l : List D) : revR (.tuple l) = ok (.tuple l.reverse) := (rfl)
@[simp] theorem slR_t' (l : List D) (lo hi : Option Int) : slR (.tuple l) lo hi = ok (.tuple (cutG l lo hi)) := (rfl)
@[simp] theorem slR_l' (l : List D) (lo hi : Option Int) : slR (.list l) lo hi = ok (.list (cutG l lo hi)) := (rfl)
theorem ixt_k {l : List D} {k : Nat} {d : D} (h : l[k]? = some d) : ixR (.tuple l) (nI k) = ok d := ixR_at (by
  obtain ⟨hk, e⟩ := List.getElem?_eq_some_iff.mp h
  rw [Pu.atI_nat hk, e])
theorem ixl_k {l : List D} {k : Nat} {d : D} (h : l[k]? = some d) : ixR (.list l) (nI k) = ok d := ixR_atl (by
  obtain ⟨hk, e⟩ := List.getElem?_eq_some_iff.mp h
  rw [Pu.atI_nat hk, e])
/-- comprehensions: a body with its target -/
theorem lcB {vs : List Nat} {fi : List Sl → R (List D)} {g : D → List Sl → R (List Sl)} {te : List Sl → R D} {l : List α} {h : α → D} (hi : fi ρ = ok (l.map f)) (hb : ∀ x ∈ l, bd (g (f x) (wipeS ρ vs)) te = ok (h x)) : lcM vs fi g yesT te ρ = ok (l.map h) := by
  rw [lcM_e, hi, bd_ok]
  generalize wipeS ρ vs = σ at hb
  clear hi
  induction l with
  | nil => rfl
  | cons x l ih =>
    have h1 := hb x List.mem_cons_self
    rw [List.map_cons, lcF]
    show bd (g (f x) σ) (fun ρ' => bd (ok true) fun b => if b = true then bd (te ρ') fun d => bd (lcF g yesT te (l.map f) σ) fun ds => ok (d :: ds) else lcF g yesT te (l.map f) σ) = _
    have e : bd (g (f x) σ) (fun ρ' => bd (ok true) fun b => if b = true then bd (te ρ') fun d => bd (lcF g yesT te (l.map f) σ) fun ds => ok (d :: ds) else lcF g yesT te (l.map f) σ) = bd (bd (g (f x) σ) te) fun d => bd (lcF g yesT te (l.map f) σ) fun ds => ok (d :: ds) := rfl
    rw [e, h1, bd_ok, ih fun y hy => hb y (List.mem_cons_of_mem _ hy), bd_ok]; rfl
theorem lcT {vs : List Nat} {fi : List Sl → R (List D)} {g : D → List Sl → R (List Sl)} {tt : List Sl → R Bool} {te : List Sl → R D} {l : List α} {p : α → Bool} {h : α → D} {σ : α → List Sl} (hi : fi ρ = ok (l.map f)) (hg : ∀ x ∈ l, g (f x) (wipeS ρ vs) = ok (σ x))
    (ht : ∀ x ∈ l, tt (σ x) = ok (p x)) (he : ∀ x ∈ l, p x = true → te (σ x) = ok (h x)) : lcM vs fi g tt te ρ = ok ((l.filter p).map h) := lcM_G hi hg ht he
theorem inYB {g : D → List Sl → R (List Sl)} {te : List Sl → R D} {f1 : β → D} {h1 : β → D} : ∀ (l : List β) (acc : List D), (∀ y ∈ l, bd (g (f1 y) ρ) te = ok (h1 y)) → acc.length + l.length ≤ 1000000 → inF g yesT te (l.map f1) ρ acc = ok (acc ++ l.map h1)
  | [], acc, _, _ => by rw [List.map_nil, List.map_nil, List.append_nil]; rfl
  | y :: l, acc, h, hl => by
    rw [List.length_cons] at hl
    have e : inF g yesT te ((y :: l).map f1) ρ acc = bd (bd (g (f1 y) ρ) te) fun z => bd (req (acc.length < sizeLine)) fun _ => inF g yesT te (l.map f1) ρ (acc ++ [z]) := rfl
    rw [e, h y List.mem_cons_self, bd_ok, bd_req (Nat.lt_of_le_of_lt (show acc.length ≤ 1000000 by omega) (by decide)), inYB l _ (fun z hz => h z (List.mem_cons_of_mem _ hz)) (by rw [List.length_append, List.length_singleton]; omega), List.append_assoc]; rfl
theorem lc2B {vs vs1 : List Nat} {fi : List Sl → R (List D)} {g : D → List Sl → R (List Sl)} {fi1 : List Sl → R (List D)} {g1 : D → List Sl → R (List Sl)} {te : List Sl → R D} {l : List α} {σ : α → List Sl} {l1 : α → List β} {f1 : β → D} {h1 : α → β → D}
    (h0 : fi ρ = ok (l.map f)) (hg : ∀ x ∈ l, g (f x) (wipeS (noOwn ρ) vs) = ok (σ x)) (ho : ∀ x ∈ l, ownFree (σ x) = true) (hi : ∀ x ∈ l, fi1 (σ x) = ok ((l1 x).map f1)) (hb : ∀ x ∈ l, ∀ y ∈ l1 x, bd (g1 (f1 y) (wipeS (σ x) vs1)) te = ok (h1 x y)) (hl : (l.flatMap l1).length ≤ 1000000) :
    lc2M vs vs1 fi g yesT fi1 g1 yesT te ρ = ok (l.flatMap fun x => (l1 x).map (h1 x)) :=
  lc2M_e h0 hg ho hi (fun x hx acc ha => inYB (l1 x) acc (hb x hx) (by rw [List.length_map] at ha; exact ha)) (by
    have : (l.flatMap fun x => (l1 x).map (h1 x)).length = (l.flatMap l1).length := by
      rw [List.length_flatMap, List.length_flatMap]
      congr 1
      exact List.map_congr_left fun x _ => List.length_map _
    rw [this]; exact hl)
@[simp] theorem noOwn_nil : noOwn [] = [] := (rfl)
@[simp] theorem noOwn_d (d : D) (ρ : List Sl) : noOwn (.dat d :: ρ) = .dat d :: noOwn ρ := (rfl)
@[simp] theorem noOwn_o (d : List D) (ρ : List Sl) : noOwn (.own d :: ρ) = .un :: noOwn ρ := (rfl)
@[simp] theorem noOwn_u (ρ : List Sl) : noOwn (.un :: ρ) = .un :: noOwn ρ := (rfl)
@[simp] theorem noOwn_b (k : Nat) (ρ : List Sl) : noOwn (.box k :: ρ) = .box k :: noOwn ρ := (rfl)
def noOwn1 : Sl → Sl
  | .own _ => .un
  | .od _ => .un
  | s => s
theorem noOwn_c (s : Sl) (ρ : List Sl) : noOwn (s :: ρ) = noOwn1 s :: noOwn ρ := by cases s <;> rfl
theorem ownFree_c (s : Sl) (ρ : List Sl) : ownFree (noOwn1 s :: ρ) = ownFree ρ := by cases s <;> rfl
theorem forJ {g : D → List Sl → R (List Sl)} {tb : List Sl → R Out} {l : List α} {st : β → List Sl} {step : β → α → β} (J : β → List α → Prop) (h : ∀ b x r, J b (x :: r) → bd (g (f x) (st b)) tb = ok (.nx (st (step b x))) ∧ J (step b x) r) (b : β) (hb : J b l) : forF g tb (l.map f) (st b) = ok (.nx (st (l.foldl step b))) := forF_invG st step J h l b hb
theorem augM_i {i : Nat} {f : List Sl → R D} {a b : Int} (h : Pu.getD ρ i = ok (.int a)) (hf : f ρ = ok (.int b)) : augM i f addIR ρ = ok (.nx (ρ.set i (.dat (.int (a + b))))) := by
  show bd (Pu.getD ρ i) (fun d => bd (f ρ) fun e => bd (addIR d e) fun z => ok (Out.nx (ρ.set i (.dat z)))) = _
  rw [h, bd_ok, hf, bd_ok]; rfl
theorem eq_nilL (l : List D) : eqR (.list l) (.list []) = ok (.bool (decide (l = []))) := by
  rw [eqR, bd_req (Nat.le_trans (Nat.min_le_right _ _) (by decide))]
  cases l <;> rfl
theorem eq_nilT (l : List D) : eqR (.tuple l) (.tuple []) = ok (.bool (decide (l = []))) := by
  rw [eqR, bd_req (Nat.le_trans (Nat.min_le_right _ _) (by decide))]
  cases l <;> rfl
theorem drwZ {i : Nat} {n : Int} {g : List Sl → R (List D)} {k : D → R α} {post : α → Prop} (hx : getX ρ i 2 = ok ()) (hg : g ρ = ok [.int n]) (h0 : 0 < n) (h' : n < 1073741824) (h : ∀ d : Int, 0 ≤ d → d < n → k (.int d) post) : bd (callX i 2 1 g drawM ρ) k post := by
  rw [draw_e (n := n) hg h0 h' hx]
  exact bd_dr.mpr h
theorem bdc {m : R α} {k : α → R β} {post : β → Prop} (h : m fun a => k a post) : bd m k post := h
@[simp] theorem nI_int (k : Nat) (i : Int) : addR (nI k) (.int i) = ok (.int ((k : Int) + i)) := (rfl)
@[simp] theorem asgM_e (g : List Sl → R D) (h : D → List Sl → R (List Sl)) : asgM g h ρ = bd (g ρ) fun d => bd (h d ρ) fun ρ' => ok (Out.nx ρ') := (rfl)
@[simp] theorem rD_e (g : List Sl → R D) : rD g ρ = bd (g ρ) fun d => ok (.dat d) := (rfl)
@[simp] theorem rO_e (g : List Sl → R (List D)) : rO g ρ = bd (g ρ) fun ds => ok (.own ds) := (rfl)
@[simp] theorem setsM_e (is : List Nat) (g : List Sl → R (List Sl)) : setsM is g ρ = bd (g ρ) fun xs => bd (setsR is xs ρ) fun ρ' => ok (Out.nx ρ') := (rfl)
@[simp] theorem frzM_e (i : Nat) (g : List Sl → R Out) : frzM i g ρ = bd (getO ρ i) fun ds => g (ρ.set i (.dat (.list ds))) := (rfl)
@[simp] theorem setsR2 (i j : Nat) (a b : Sl) : setsR [i, j] [a, b] ρ = ok ((ρ.set i a).set j b) := (rfl)
@[simp] theorem setsR3 (i j k : Nat) (a b c : Sl) : setsR [i, j, k] [a, b, c] ρ = ok (((ρ.set i a).set j b).set k c) := (rfl)
theorem srt_demZ {ns : List Int} {post : List D → Prop} (hl : ns.length < 64) (h : ∀ out : List Int, out.Pairwise (· < ·) → (∀ k, k ∈ out ↔ k ∈ ns) → post (out.map .int)) : srtSetR (.list (ns.map .int)) post := by
  show srtIR (intsD (ns.map .int)) post
  rw [intsD_map]
  exact ⟨⟨by omega, ns, hl, fun k hk => hk⟩, h⟩
theorem lt_nn (a b : Nat) : ltR (nI a) (.int (b : Int)) = ok (.bool (decide (a < b))) := (ltR_int _ _).trans (by
  congr 2
  by_cases h : a < b
  · rw [decide_eq_true h, decide_eq_true (by omega)]
  · rw [decide_eq_false h, decide_eq_false (by omega)])
theorem eq_nn (a b : Nat) : eqR (nI a) (nI b) = ok (.bool (decide (a = b))) := (eqR_int _ _).trans (by
  congr 2
  by_cases h : a = b
  · rw [decide_eq_true h, decide_eq_true (by omega)]
  · rw [decide_eq_false h, decide_eq_false (by omega)])
theorem cut_1 (l : List α) : cutG l (some 1) none = l.drop 1 := cut_hi (k := 1)
/-- a comprehension of drawn things over a drawn row -/
theorem lcD {vs : List Nat} {i : Nat} {fi : List Sl → R (List D)} {te : List Sl → R D} {f : α → D} {g : α × β → D} {P : List α → Prop} {Q : α × β → Prop} {post : List D → Prop} (hi : ∀ p : List D → Prop, (∀ l, P l → p (l.map f)) → fi ρ p)
    (he : ∀ a, ∀ p : D → Prop, (∀ b, Q (a, b) → p (g (a, b))) → te ((wipeS ρ vs).set i (.dat (f a))) p) (hp : ∀ hs : List (α × β), P (hs.map (·.1)) → (∀ p ∈ hs, Q p) → post (hs.map g)) : lcM vs fi (gSet i) yesT te ρ post := by
  rw [lcM_e]
  refine bdc (hi _ fun l hl => ?_)
  have := lcM_dem3 (ρ := ρ) (vs := vs) (i := i) (fi := fun _ => ok (l.map f)) (te := te) (l := l) (f := f) (g := g) (Q := Q) rfl (fun a _ p hq => he a p hq) post (fun hs e hq => hp hs (by rw [e]; exact hl) hq)
  rw [lcM_e, bd_ok] at this
  exact this
/-- .. over a known row -/
theorem lcDr {vs : List Nat} {i : Nat} {fi : List Sl → R (List D)} {te : List Sl → R D} {l : List α} {f : α → D} {g : α × β → D} {Q : α × β → Prop} {post : List D → Prop} (hi : fi ρ = ok (l.map f))
    (he : ∀ a ∈ l, ∀ p : D → Prop, (∀ b, Q (a, b) → p (g (a, b))) → te ((wipeS ρ vs).set i (.dat (f a))) p) (hp : ∀ hs : List (α × β), hs.map (·.1) = l → (∀ p ∈ hs, Q p) → post (hs.map g)) : lcM vs fi (gSet i) yesT te ρ post := lcM_dem3 hi he post hp
theorem rg1 {n : Int} {p : List D → Prop} (h : n ≤ 1000) (h' : -1000 ≤ n) (hp : p ((List.range n.toNat).map nI)) : range1R [.int n] p := by
  rw [range1_e (by have : (1000 : Int) ≤ sizeLine := by decide
                   omega) h']
  exact hp
theorem rg2N (i n : Nat) (h : n ≤ 1000000) (h' : i ≤ 1000000) : range2R [nI i, nI n] = ok ((List.range (n - i)).map fun x => nI (i + x)) := by
  show bd (req (rgOk (i : Int) (n : Int))) _ = _
  rw [bd_req ⟨by omega, by omega, by omega, by omega, by exact (show _ ≤ 2 ^ 24 by omega)⟩]
  show ok (rngD i n) = _
  unfold rngD
  rw [show ((n : Int) - (i : Int)).toNat = n - i by omega]
  rfl
@[simp] theorem isNotR_b (a b : Bool) : isNotR (.bool a) (.bool b) = ok (.bool (!(a == b))) := by
  unfold isNotR isV
  cases a <;> cases b <;> rfl
@[simp] theorem isR_b (a b : Bool) : isR (.bool a) (.bool b) = ok (.bool (a == b)) := by
  unfold isR isV
  cases a <;> cases b <;> rfl
theorem ltT {c : Prop} [Decidable c] (h : c) : decide c = true := decide_eq_true h
/-- a test that does not hold: on -/
theorem if_no {t : List Sl → R Bool} {g : List Sl → R Out} {ρ : List Sl} (h : t ρ = ok false) : ifV t g nilM ρ = ok (.nx ρ) := by rw [ifV_e, h, bd_ok]; rfl
theorem eqv_nI (a b : Nat) : PyData.eqv (nI a) (nI b) = true ↔ a = b := by
  show PyData.eqv (.int (a : Int)) (.int (b : Int)) = true ↔ _
  rw [eqv_int]; omega
theorem eq_tuN (a b : List Nat) : eqR (tu nI a) (tu nI b) = ok (.bool (decide (a = b))) := by
  rw [eqR, bd_req (Nat.le_trans (Nat.min_le_left _ _) (by rw [depth_tu]; decide))]
  congr 2
  have : PyData.eqv (tu nI a) (tu nI b) = true ↔ a = b := by
    show PyData.eqv (.tuple (a.map nI)) (.tuple (b.map nI)) = true ↔ _
    simp only [PyData.eqv]
    exact eqvAll_map eqv_nI a b
  by_cases h : a = b
  · rw [decide_eq_true h]; exact this.mpr h
  · rw [decide_eq_false h]; exact Bool.eq_false_iff.mpr fun e => h (this.mp e)
theorem ne_tuN (a b : List Nat) : neR (tu nI a) (tu nI b) = ok (.bool (!decide (a = b))) := neR_of (eq_tuN a b) (Nat.le_trans (Nat.min_le_left _ _) (by rw [depth_tu]; decide))
@[simp] theorem asB_b (b : Bool) : asB (.bool b) = ok b := (rfl)
theorem sum_e (l : List Int) : sumR [.list (l.map PyData.int)] = ok (.int l.sum) := sumV_ints l
theorem sum_f (g : α → Int) (l : List α) : sumR [.list (l.map fun x => PyData.int (g x))] = ok (.int (l.map g).sum) := by
  rw [← sum_e, List.map_map]; rfl
theorem mulL9 {i j : Int} (h : i.natAbs ≤ 1000000000) : mulR (.int i) (.int j) = ok (.int (i * j)) := mulR_int (.inl ⟨by omega, by omega⟩)
theorem mulR9 {i j : Int} (h : j.natAbs ≤ 1000000000) : mulR (.int i) (.int j) = ok (.int (i * j)) := mulR_int (.inr (.inl ⟨by omega, by omega⟩))
end
theorem mirs : type_of% (And.intro @isNotR_b (And.intro @isR_b (And.intro @asgM_e (And.intro @rD_e (And.intro @rO_e (And.intro @setsM_e (And.intro @setsR2 (And.intro @setsR3 (And.intro @frzM_e (And.intro @noOwn_nil (And.intro @noOwn_d (And.intro @noOwn_o (And.intro @noOwn_u (And.intro @noOwn_b (And.intro @wipe_nil (And.intro @wipe_cons (And.intro @isiR_e (And.intro @isT_t (And.intro @isT_i (And.intro @isI_t (And.intro @isI_i (And.intro @isB_i (And.intro @isB_t (And.intro @gT2' (And.intro @tupR0 (And.intro @tupR1 (And.intro @tupR2 (And.intro @tupR3 (And.intro @lstR0 (And.intro @lstR1 (And.intro @lstR2 (And.intro @lstR3 (And.intro @ixt0' (And.intro @ixt1' (And.intro @ixl0' (And.intro @ixl1' (And.intro @tupOfR_l (And.intro @tupOfR_t (And.intro @lstOfR_l (And.intro @lstOfR_t (And.intro @revR_t' (And.intro @slR_t' (And.intro @slR_l' (And.intro @asB_b (And.intro @bd_ok (And.intro @bd_fail (And.intro @bd_bd (And.intro @bd_ret (And.intro @nDR_0 (And.intro @nDR_s (And.intro @nBR_0 (And.intro @nBR_0o (And.intro @nBR_s (And.intro @getO_0 (And.intro @getO_s (And.intro @kR_e (And.intro @m1_e (And.intro @m2_e (And.intro @m3_e (And.intro @consR_e (And.intro @nilR_e (And.intro @seqM_e (And.intro @setM_e (And.intro @setO_e (And.intro @retM_e (And.intro @ifV_e (And.intro @nilM_e (And.intro @frz_e (And.intro @noR_e (And.intro @yesT_e (And.intro @andT_e (And.intro @orT_e (And.intro @notT_e (And.intro @andV_e (And.intro @orV_e (And.intro @notV_e (And.intro @chain_e (And.intro @mutM_e (And.intro @popM_e (And.intro @gSet_e (And.intro @truR_bool (And.intro @truR_int (And.intro @truR_none (And.intro @truR_tuple (And.intro @truR_list (And.intro @addR_int (And.intro @subR_int (And.intro @negR_int (And.intro @absR_int (And.intro @asI_int (And.intro @eqR_int (And.intro @neR_int (And.intro @ltR_int (And.intro @gtR_int (And.intro @leR_int (And.intro @geR_int (And.intro @lenR_list (And.intro @lenR_tuple (And.intro @set_0 (And.intro @set_s (And.intro @nxt_nx (And.intro @nxt_rt (And.intro @endM_rt (And.intro @endM_nx (And.intro @callR_1 (And.intro @callR_2 (@callR_3))))))))))))))))))))))))))))))))))))))))))))))))))))))))))))))))))))))))))))))))))))))))))))))))))))))))))) :=
  And.intro @isNotR_b (And.intro @isR_b (And.intro @asgM_e (And.intro @rD_e (And.intro @rO_e (And.intro @setsM_e (And.intro @setsR2 (And.intro @setsR3 (And.intro @frzM_e (And.intro @noOwn_nil (And.intro @noOwn_d (And.intro @noOwn_o (And.intro @noOwn_u (And.intro @noOwn_b (And.intro @wipe_nil (And.intro @wipe_cons (And.intro @isiR_e (And.intro @isT_t (And.intro @isT_i (And.intro @isI_t (And.intro @isI_i (And.intro @isB_i (And.intro @isB_t (And.intro @gT2' (And.intro @tupR0 (And.intro @tupR1 (And.intro @tupR2 (And.intro @tupR3 (And.intro @lstR0 (And.intro @lstR1 (And.intro @lstR2 (And.intro @lstR3 (And.intro @ixt0' (And.intro @ixt1' (And.intro @ixl0' (And.intro @ixl1' (And.intro @tupOfR_l (And.intro @tupOfR_t (And.intro @lstOfR_l (And.intro @lstOfR_t (And.intro @revR_t' (And.intro @slR_t' (And.intro @slR_l' (And.intro @asB_b (And.intro @bd_ok (And.intro @bd_fail (And.intro @bd_bd (And.intro @bd_ret (And.intro @nDR_0 (And.intro @nDR_s (And.intro @nBR_0 (And.intro @nBR_0o (And.intro @nBR_s (And.intro @getO_0 (And.intro @getO_s (And.intro @kR_e (And.intro @m1_e (And.intro @m2_e (And.intro @m3_e (And.intro @consR_e (And.intro @nilR_e (And.intro @seqM_e (And.intro @setM_e (And.intro @setO_e (And.intro @retM_e (And.intro @ifV_e (And.intro @nilM_e (And.intro @frz_e (And.intro @noR_e (And.intro @yesT_e (And.intro @andT_e (And.intro @orT_e (And.intro @notT_e (And.intro @andV_e (And.intro @orV_e (And.intro @notV_e (And.intro @chain_e (And.intro @mutM_e (And.intro @popM_e (And.intro @gSet_e (And.intro @truR_bool (And.intro @truR_int (And.intro @truR_none (And.intro @truR_tuple (And.intro @truR_list (And.intro @addR_int (And.intro @subR_int (And.intro @negR_int (And.intro @absR_int (And.intro @asI_int (And.intro @eqR_int (And.intro @neR_int (And.intro @ltR_int (And.intro @gtR_int (And.intro @leR_int (And.intro @geR_int (And.intro @lenR_list (And.intro @lenR_tuple (And.intro @set_0 (And.intro @set_s (And.intro @nxt_nx (And.intro @nxt_rt (And.intro @endM_rt (And.intro @endM_nx (And.intro @callR_1 (And.intro @callR_2 (@callR_3))))))))))))))))))))))))))))))))))))))))))))))))))))))))))))))))))))))))))))))))))))))))))))))))))))))))))
end Pu

namespace Mo
open PySem PySem.Spec PyProof.Rows L2 Pu
/-! ### sizes -/
def sz : Mob → Nat
  | .w _ => 1
  | .r hs => 1 + (hs.attach.map fun p => sz p.1.2).sum
termination_by m => m
decreasing_by simp; exact lt_hook p.2
theorem sz_w (i : Int) : sz (.w i) = 1 := by rw [sz]
theorem sz_r (hs : List (Int × Mob)) : sz (.r hs) = 1 + (hs.map fun p => sz p.2).sum := by rw [sz, att (fun p : Int × Mob => sz p.2)]
theorem sz_pos (m : Mob) : 1 ≤ sz m := by
  cases m with
  | w i => rw [sz_w]; exact Nat.le_refl _
  | r hs => rw [sz_r]; omega
theorem mem_sum {α : Type} (f : α → Nat) : ∀ {l : List α} {x : α}, x ∈ l → f x ≤ (l.map f).sum
  | y :: l, x, h => by
    rw [List.map_cons, List.sum_cons]
    rcases List.mem_cons.mp h with rfl | h
    · omega
    · have := mem_sum f h; omega
theorem len_sum {α : Type} (f : α → Nat) : ∀ {l : List α}, (∀ x ∈ l, 1 ≤ f x) → l.length ≤ (l.map f).sum
  | [], _ => by simp
  | y :: l, h => by
    rw [List.map_cons, List.sum_cons, List.length_cons]
    have := len_sum f (l := l) fun x hx => h x (List.mem_cons_of_mem _ hx)
    have := h y List.mem_cons_self
    omega
theorem hooks_le (hs : List (Int × Mob)) : hs.length < sz (.r hs) := by
  rw [sz_r]
  have := len_sum (fun p : Int × Mob => sz p.2) (l := hs) fun x _ => sz_pos _
  omega
theorem sz_at : ∀ {q : List Nat} {m t : Mob}, at_ q m = some t → sz t + q.length ≤ sz m
  | [], m, t, e => by cases e; exact Nat.le_refl _
  | k :: q, .w i, t, e => by cases e
  | k :: q, .r hs, t, e => by
    cases hk : hs[k]? with
    | none => rw [at_none hk] at e; cases e
    | some x =>
      rw [at_some hk] at e
      have h1 := sz_at e
      have h2 := mem_sum (fun p : Int × Mob => sz p.2) (List.mem_of_getElem? hk)
      rw [sz_r, List.length_cons]
      have h2 : sz x.2 ≤ (hs.map fun p => sz p.2).sum := h2
      omega
theorem ch_sz (x : Row) : 1 + ((ch x).map fun y => sz y.2).sum = sz x.2 := by
  obtain ⟨p, m⟩ := x
  cases m with
  | w i => rw [ch_w, sz_w]; rfl
  | r hs =>
    rw [ch_r, sz_r, List.map_map]
    congr 2
    exact map_zip (fun p : Int × Mob => sz p.2) hs 0
theorem sum_flat {α β : Type} (f : α → Nat) (g : β → List α) : ∀ l : List β, ((l.flatMap g).map f).sum = (l.map fun x => ((g x).map f).sum).sum
  | [] => rfl
  | x :: l => by rw [List.flatMap_cons, List.map_append, List.sum_append, sum_flat f g l, List.map_cons, List.sum_cons]
theorem len_pre (x : Row) : (pre x).length = sz x.2 := by
  refine Row.ind (P := fun x => (pre x).length = sz x.2) (fun x ih => ?_) x
  rw [pre_eq, List.length_cons, List.length_flatMap, ← ch_sz x]
  rw [List.map_congr_left fun y hy => ih y hy]; omega
theorem sum_ch : ∀ L : List Row, L.length + ((L.flatMap ch).map fun y => sz y.2).sum = (L.map fun y => sz y.2).sum
  | [] => rfl
  | x :: L => by
    rw [List.flatMap_cons, List.map_append, List.sum_append, List.map_cons, List.sum_cons, List.length_cons, ← ch_sz x, ← sum_ch L]; omega
theorem dep_sz : ∀ m, dep m ≤ sz m := by
  intro m
  refine Mob.ind (P := fun m => dep m ≤ sz m) (fun i => by rw [dep_w, sz_w]; decide) (fun hs ih => ?_) m
  rw [sz_r, Nat.add_comm, dep_r]
  exact fun p hp => Nat.le_trans (ih p hp) (mem_sum (fun p : Int × Mob => sz p.2) hp)
/-! ### the parts of a walk -/
def paths (m : Mob) : List (List Nat) := (pre ([], m)).map (·.1)
def rods (m : Mob) : List (List Nat) := ((pre ([], m)).filter fun x => rodB x.2).map (·.1)
theorem pre_at {m : Mob} {x : Row} (h : x ∈ pre ([], m)) : at_ x.1 m = some x.2 := by
  obtain ⟨q, t⟩ := x
  obtain ⟨s, e, hs⟩ := (pre_mem _).mp h
  have e : q = s := e
  rw [e]; exact hs
theorem at_pre {m t : Mob} {q : List Nat} (h : at_ q m = some t) : (q, t) ∈ pre ([], m) := (pre_mem _).mpr ⟨q, rfl, h⟩
theorem paths_nodup (m : Mob) : (paths m).Nodup := by
  unfold paths
  rw [List.nodup_iff_pairwise_ne, List.pairwise_map]
  refine (pre_lt ([], m)).imp fun {a b} h e => ?_
  rw [e] at h
  have := plt_pre b.1 [] []
  rw [List.append_nil] at this
  rw [this] at h
  revert h; decide
theorem rods_mem {m : Mob} {q : List Nat} : q ∈ rods m ↔ ∃ hs, at_ q m = some (.r hs) := by
  unfold rods
  rw [List.mem_map]
  constructor
  · rintro ⟨⟨q', t⟩, h, rfl⟩
    obtain ⟨h1, h2⟩ := List.mem_filter.mp h
    cases t with
    | w i => cases h2
    | r hs => exact ⟨hs, pre_at h1⟩
  · rintro ⟨hs, e⟩
    exact ⟨(q, .r hs), List.mem_filter.mpr ⟨at_pre e, rfl⟩, rfl⟩
theorem rods_nodup (m : Mob) : (rods m).Nodup := (paths_nodup m).sublist (List.filter_sublist.map _)
theorem path_len {m : Mob} {x : Row} (h : x ∈ pre ([], m)) : x.1.length < sz m := by
  have h1 := sz_at (pre_at h)
  have := sz_pos x.2
  omega
/-- what all weights come to -/
def wI : Mob → Int
  | .w i => i
  | .r _ => 0
theorem sum_flatI {α β : Type} (f : α → Int) (g : β → List α) : ∀ l : List β, ((l.flatMap g).map f).sum = (l.map fun x => ((g x).map f).sum).sum
  | [] => rfl
  | x :: l => by rw [List.flatMap_cons, List.map_append, List.sum_append, sum_flatI f g l, List.map_cons, List.sum_cons]
theorem tot_pre (x : Row) : (((pre x).filter fun y => !rodB y.2).map fun y => wI y.2).sum = tot x.2 := by
  refine Row.ind (P := fun x => (((pre x).filter fun y => !rodB y.2).map fun y => wI y.2).sum = tot x.2) (fun x ih => ?_) x
  obtain ⟨p, m⟩ := x
  rw [pre_eq, List.filter_cons, List.filter_flatMap]
  cases m with
  | w i =>
    rw [ch_w, tot_w]
    show (List.map _ [_]).sum = i
    simp [wI]
  | r hs =>
    show (List.map _ (List.flatMap _ _)).sum = _
    rw [sum_flatI, List.map_congr_left fun y hy => ih y hy, ch_r, tot_r, List.map_map]
    congr 1
    exact map_zip (fun p : Int × Mob => tot p.2) hs 0
/-- turned rod by rod, deep ones first: all turned -/
theorem turn_all {m : Mob} : ∀ (ps done : List (List Nat)) (cur : Mob), (∀ q, q ∈ done ++ ps ↔ ∃ hs, at_ q m = some (.r hs)) → (done ++ ps).Nodup → (done ++ ps).Pairwise (fun a b => b.length ≤ a.length) → cur = ts (fun r => decide (r ∈ done)) ([], m) →
    ∀ (Q : List (List Nat) → Mob → Mob → Prop), (∀ c, Q [] c c) → (∀ q qs c hs c', at_ q c = some (.r hs) → Q qs (put q c (.r (rev1 hs))) c' → Q (q :: qs) c c') → Q ps cur (tn m)
  | [], done, cur, h1, _, _, e, Q, q0, q1 => by
    have : cur = tn m := by
      rw [e]
      refine ts_all m [] fun s hs hh => ?_
      refine decide_eq_true ?_
      have := (h1 s).mpr ⟨hs, hh⟩
      rwa [List.append_nil] at this
    rw [this]; exact q0 _
  | q :: qs, done, cur, h1, h2, h3, e, Q, q0, q1 => by
    obtain ⟨hs, hh⟩ := (h1 q).mp (by simp)
    have hn : q ∉ done := fun hm => (List.nodup_append.mp h2).2.2 q hm q List.mem_cons_self rfl
    have hd : ∀ r ∈ done, q.length ≤ r.length := fun r hr => (List.pairwise_append.mp h3).2.2 r hr q List.mem_cons_self
    obtain ⟨gs, a1, a2⟩ := turn_step hh hn hd
    rw [← e] at a1 a2
    have ea : done ++ q :: qs = (done ++ [q]) ++ qs := by simp
    rw [ea] at h1 h2 h3
    exact q1 q qs cur gs _ a1 (turn_all qs (done ++ [q]) _ h1 h2 h3 a2 Q q0 q1)
theorem sum_setN {α : Type} (f : α → Nat) : ∀ {l : List α} {k : Nat} {x y : α}, l[k]? = some x → f y = f x → ((l.set k y).map f).sum = (l.map f).sum
  | a :: l, 0, x, y, e, h => by
    simp at e; subst e
    rw [List.set_cons_zero, List.map_cons, List.map_cons, h]
  | a :: l, k + 1, x, y, e, h => by
    rw [List.set_cons_succ, List.map_cons, List.map_cons, List.sum_cons, List.sum_cons, sum_setN f (by simpa using e) h]
theorem put_sz : ∀ {q : List Nat} {m t t' : Mob}, at_ q m = some t → sz t' = sz t → sz (put q m t') = sz m
  | [], m, t, t', e, h => by cases e; exact h
  | k :: q, .w i, t, t', e, h => by cases e
  | k :: q, .r hs, t, t', e, h => by
    cases hk : hs[k]? with
    | none => rw [at_none hk] at e; cases e
    | some x =>
      rw [at_some hk] at e
      rw [put_some hk, sz_r, sz_r]
      congr 1
      exact sum_setN (fun p : Int × Mob => sz p.2) hk (put_sz e h)
theorem sz_rev1 (hs : List (Int × Mob)) : sz (.r (rev1 hs)) = sz (.r hs) := by
  rw [sz_r, sz_r, rev1, List.map_map, List.map_reverse, List.sum_reverse]
  rfl
/-- a mobile as the judge wants it, part by part -/
def GoodN : Mob → Prop
  | .w i => 1 ≤ i ∧ i ≤ 1000
  | .r hs => 1 ≤ hs.length ∧ hs.length ≤ 6 ∧ (hs.map (·.1)).Pairwise (· < ·) ∧ ∀ p ∈ hs, -50 ≤ p.1 ∧ p.1 ≤ 50
def Good (m : Mob) : Prop := ∀ q t, at_ q m = some t → GoodN t
theorem good_r {hs : List (Int × Mob)} : Good (.r hs) ↔ GoodN (.r hs) ∧ ∀ p ∈ hs, Good p.2 := at_all (P := GoodN)
theorem good_w {i : Int} : Good (.w i) ↔ 1 ≤ i ∧ i ≤ 1000 := at_allw (P := GoodN)
theorem good_rev {hs : List (Int × Mob)} (h : GoodN (.r hs)) : GoodN (.r (rev1 hs)) := by
  obtain ⟨h1, h2, h3, h4⟩ := h
  unfold rev1
  refine ⟨by simpa using h1, by simpa using h2, ?_, fun p hp => ?_⟩
  · rw [List.map_map, List.pairwise_map, List.pairwise_reverse]
    rw [List.pairwise_map] at h3
    exact h3.imp fun {a b} h => by show -b.1 < -a.1; omega
  · obtain ⟨r, hr, rfl⟩ := List.mem_map.mp hp
    have := h4 r (List.mem_reverse.mp hr)
    show -50 ≤ -r.1 ∧ -r.1 ≤ 50
    omega
theorem good_same {hs : List (Int × Mob)} {f : Int × Mob → Mob} (h : GoodN (.r hs)) : GoodN (.r (hs.map fun p => (p.1, f p))) := by
  obtain ⟨h1, h2, h3, h4⟩ := h
  refine ⟨by simpa using h1, by simpa using h2, ?_, fun p hp => ?_⟩
  · rw [List.map_map]; exact h3
  · obtain ⟨r, hr, rfl⟩ := List.mem_map.mp hp
    exact h4 r hr
theorem good_tn : ∀ m, Good m → Good (tn m) := by
  intro m
  refine Mob.ind (P := fun m => Good m → Good (tn m)) (fun i h => by rw [tn_w]; exact h) (fun hs ih h => ?_) m
  rw [tn_r]
  obtain ⟨h1, h2⟩ := good_r.mp h
  refine good_r.mpr ⟨good_rev (good_same h1), fun p hp => ?_⟩
  unfold rev1 at hp
  obtain ⟨r, hr, rfl⟩ := List.mem_map.mp hp
  obtain ⟨r', hr', rfl⟩ := List.mem_map.mp (List.mem_reverse.mp hr)
  exact ih r' hr' (h2 r' hr')
theorem good_at {m t : Mob} {q : List Nat} (h : Good m) (e : at_ q m = some t) : GoodN t := h q t e
theorem sz_tn : ∀ m, sz (tn m) = sz m := by
  intro m
  refine Mob.ind (P := fun m => sz (tn m) = sz m) (fun i => by rw [tn_w]) (fun hs ih => ?_) m
  rw [tn_r, sz_rev1, sz_r, sz_r, List.map_map]
  congr 2
  exact List.map_congr_left fun p hp => ih p hp
theorem dep_tn : ∀ (m : Mob) (n : Nat), dep m ≤ n → dep (tn m) ≤ n := by
  intro m
  refine Mob.ind (P := fun m => ∀ n, dep m ≤ n → dep (tn m) ≤ n) (fun i n h => by rw [tn_w]; exact h) (fun hs ih n h => ?_) m
  cases n with
  | zero => exact absurd h dep_r0
  | succ n =>
    rw [tn_r]
    refine dep_r.mpr fun p hp => ?_
    unfold rev1 at hp
    obtain ⟨r, hr, rfl⟩ := List.mem_map.mp hp
    obtain ⟨r', hr', rfl⟩ := List.mem_map.mp (List.mem_reverse.mp hr)
    exact ih r' hr' n (dep_r.mp h r' hr')
theorem good_tot : ∀ m, Good m → 1 ≤ tot m ∧ tot m ≤ 1000 * (sz m : Int) := by
  intro m
  refine Mob.ind (P := fun m => Good m → 1 ≤ tot m ∧ tot m ≤ 1000 * (sz m : Int)) (fun i h => ?_) (fun hs ih h => ?_) m
  · have := good_w.mp h
    rw [tot_w, sz_w]; omega
  · obtain ⟨h1, h2⟩ := good_r.mp h
    rw [tot_r, sz_r]
    have key : ∀ l : List (Int × Mob), (∀ p ∈ l, p ∈ hs) → (l.length : Int) ≤ (l.map fun p => tot p.2).sum ∧ (l.map fun p => tot p.2).sum ≤ 1000 * (((l.map fun p => sz p.2).sum : Nat) : Int) := by
      intro l
      induction l with
      | nil => intro _; simp
      | cons p l ih2 =>
        intro hl
        have a := ih2 fun p hp => hl p (List.mem_cons_of_mem _ hp)
        have b := ih p (hl p List.mem_cons_self) (h2 p (hl p List.mem_cons_self))
        rw [List.map_cons, List.sum_cons, List.map_cons, List.sum_cons, List.length_cons]
        omega
    have k := key hs fun _ h => h
    have hl : 1 ≤ hs.length := h1.1
    omega
theorem at_len : ∀ {q : List Nat} {m t : Mob}, at_ q m = some t → q.length ≤ dep m
  | [], m, t, e => Nat.zero_le _
  | k :: q, .w i, t, e => by cases e
  | k :: q, .r hs, t, e => by
    cases hk : hs[k]? with
    | none => rw [at_none hk] at e; cases e
    | some x =>
      rw [at_some hk] at e
      have h1 := at_len e
      cases hn : dep (.r hs) with
      | zero => exact absurd (Nat.le_of_eq hn) dep_r0
      | succ n =>
        have := dep_r.mp (Nat.le_of_eq hn) x (List.mem_of_getElem? hk)
        rw [List.length_cons]; omega
theorem sum_set_le {α : Type} (f : α → Nat) {y : α} {c : Nat} (hc : f y ≤ c) : ∀ {l : List α} {k : Nat} {x : α}, l[k]? = some x → f y ≤ f x + c → ((l.set k y).map f).sum ≤ (l.map f).sum + c
  | a :: l, 0, x, e, h => by
    simp at e; subst e
    rw [List.set_cons_zero, List.map_cons, List.map_cons, List.sum_cons, List.sum_cons]
    omega
  | a :: l, k + 1, x, e, h => by
    rw [List.set_cons_succ, List.map_cons, List.map_cons, List.sum_cons, List.sum_cons]
    have := sum_set_le f hc (l := l) (k := k) (by simpa using e) h
    omega
theorem sum_set_le2 {α : Type} (f : α → Nat) {y : α} {c : Nat} : ∀ {l : List α} {k : Nat} {x : α}, l[k]? = some x → f y ≤ f x + c → ((l.set k y).map f).sum ≤ (l.map f).sum + c
  | a :: l, 0, x, e, h => by
    simp at e; subst e
    rw [List.set_cons_zero, List.map_cons, List.map_cons, List.sum_cons, List.sum_cons]
    omega
  | a :: l, k + 1, x, e, h => by
    rw [List.set_cons_succ, List.map_cons, List.map_cons, List.sum_cons, List.sum_cons]
    have := sum_set_le2 f (l := l) (k := k) (by simpa using e) h
    omega
theorem put_sz_le : ∀ {q : List Nat} {m t : Mob} (t' : Mob), at_ q m = some t → sz (put q m t') ≤ sz m + sz t'
  | [], m, t, t', e => by show sz t' ≤ _; omega
  | k :: q, .w i, t, t', e => by cases e
  | k :: q, .r hs, t, t', e => by
    cases hk : hs[k]? with
    | none => rw [at_none hk] at e; cases e
    | some x =>
      rw [at_some hk] at e
      rw [put_some hk, sz_r, sz_r]
      have := sum_set_le2 (fun p : Int × Mob => sz p.2) (y := (x.1, put q x.2 t')) (c := sz t') hk (put_sz_le t' e)
      omega
theorem put_dep_le : ∀ {q : List Nat} {m t : Mob} (t' : Mob) (n : Nat), at_ q m = some t → dep m ≤ n → dep t' ≤ n → dep (put q m t') ≤ n + q.length
  | [], m, t, t', n, e, h1, h2 => h2
  | k :: q, .w i, t, t', n, e, h1, h2 => by cases e
  | k :: q, .r hs, t, t', n, e, h1, h2 => by
    cases hk : hs[k]? with
    | none => rw [at_none hk] at e; cases e
    | some x =>
      rw [at_some hk] at e
      rw [put_some hk, List.length_cons, ← Nat.add_assoc]
      refine dep_r.mpr fun p hp => ?_
      obtain ⟨j, hj⟩ := List.getElem?_of_mem hp
      rw [List.getElem?_set] at hj
      cases n with
      | zero => exact absurd h1 dep_r0
      | succ n =>
        split at hj
        · split at hj
          · cases hj
            exact put_dep_le t' (n + 1) e (Nat.le_succ_of_le (dep_r.mp h1 x (List.mem_of_getElem? hk))) h2
          · cases hj
        · have := dep_r.mp h1 p (List.mem_of_getElem? hj)
          omega
theorem set_fst {hs : List (Int × Mob)} {k : Nat} {x : Int × Mob} {t : Mob} (hk : hs[k]? = some x) : (hs.set k (x.1, t)).map (·.1) = hs.map (·.1) := by
  rw [List.map_set]
  refine List.ext_getElem? fun j => ?_
  rw [List.getElem?_set]
  split
  · rename_i h
    subst h
    split
    · rw [List.getElem?_map, hk]; rfl
    · rename_i h
      have := (List.getElem?_eq_some_iff.mp hk).1
      rw [List.length_map] at h
      exact absurd this h
  · rfl
theorem good_put : ∀ {q : List Nat} {m t t' : Mob}, at_ q m = some t → Good m → Good t' → Good (put q m t')
  | [], m, t, t', e, _, h => h
  | k :: q, .w i, t, t', e, _, _ => by cases e
  | k :: q, .r hs, t, t', e, h, h' => by
    cases hk : hs[k]? with
    | none => rw [at_none hk] at e; cases e
    | some x =>
      rw [at_some hk] at e
      obtain ⟨⟨a, b, c, dd⟩, h2⟩ := good_r.mp h
      have ih := good_put e (h2 x (List.mem_of_getElem? hk)) h'
      rw [put_some hk]
      have hm : ∀ p ∈ hs.set k (x.1, put q x.2 t'), p = (x.1, put q x.2 t') ∨ p ∈ hs := fun p hp => by
        rcases List.mem_or_eq_of_mem_set hp with h | h
        · exact .inr h
        · exact .inl h
      refine good_r.mpr ⟨⟨by rw [List.length_set]; exact a, by rw [List.length_set]; exact b, by rw [set_fst hk]; exact c, fun p hp => ?_⟩, fun p hp => ?_⟩
      · rcases hm p hp with rfl | hp
        · exact dd x (List.mem_of_getElem? hk)
        · exact dd p hp
      · rcases hm p hp with rfl | hp
        · exact ih
        · exact h2 p hp
theorem good_sub : ∀ {q : List Nat} {m t : Mob}, at_ q m = some t → Good m → Good t
  | [], m, t, e, h => by cases e; exact h
  | k :: q, .w i, t, e, h => by cases e
  | k :: q, .r hs, t, e, h => by
    cases hk : hs[k]? with
    | none => rw [at_none hk] at e; cases e
    | some x =>
      rw [at_some hk] at e
      exact good_sub e ((good_r.mp h).2 x (List.mem_of_getElem? hk))
end Mo

namespace K01
open PySem PySem.Spec PyProof.Rows L2 Pu Mo
variable [Tb]
/-! ### the words of mobiles, as equations (printed from MobM.tmpl) -/
theorem isT_enc (m : Mob) : Pu.isTup (enc m) = rodB m := by
  cases m with
  | w i => rw [enc_w]; rfl
  | r hs => rw [enc_r]; rfl
theorem q_is_rod (m : Mob) : m_is_rod [enc m] = ok (.bool (rodB m)) := by
  show bd (g_is_rod [.dat (enc m)]) endM = _
  unfold g_is_rod
  simp only [mirs, reduceIte, if_true, if_false, ite_true, ite_false, Bool.not_true, Bool.not_false, Bool.false_eq_true, isT_enc]
/-- for k in path: mobile = mobile[k][1] -/
theorem part_loop {a0 : Sl} : ∀ (q : List Nat) (m t : Mob) (s : Sl), at_ q m = some t → ∃ s', forF (gSet 2) (setM 0 (m2 (m2 (nDR 0) (nDR 2) ixR) (kR (.int 1)) ixR)) (q.map nI) [.dat (enc m), a0, s] = ok (.nx [.dat (enc t), a0, s'])
  | [], m, t, s, e => by cases e; exact ⟨s, rfl⟩
  | k :: q, .w i, t, s, e => by cases e
  | k :: q, .r hs, t, s, e => by
    cases hk : hs[k]? with
    | none => rw [at_none hk] at e; cases e
    | some x =>
      rw [at_some hk] at e
      obtain ⟨s', h⟩ := part_loop q x.2 t (.dat (nI k)) e
      refine ⟨s', ?_⟩
      rw [List.map_cons, forF]
      simp only [mirs, reduceIte, if_true, if_false, ite_true, ite_false, Bool.not_true, Bool.not_false, Bool.false_eq_true, enc_r, ixt_k (show (hs.map hkD)[k]? = some (hkD x) by rw [List.getElem?_map, hk]; rfl), lpO_nx]
      rw [show hkD x = .tuple [.int x.1, enc x.2] from rfl]
      simp only [mirs, reduceIte, if_true, if_false, ite_true, ite_false, Bool.not_true, Bool.not_false, Bool.false_eq_true, lpO_nx]
      exact h
theorem q_part_at {q : List Nat} {m t : Mob} (e : at_ q m = some t) : m_part_at [enc m, pD q] = ok (enc t) := by
  show bd (g_part_at [.dat (enc m), .dat (pD q), .un]) endM = _
  unfold g_part_at
  rw [seqM_e, forM_e, itR_tup (f := nI) (l := q) rfl, bd_ok]
  obtain ⟨s', h⟩ := part_loop (a0 := .dat (pD q)) q m t .un e
  rw [h]
  simp only [mirs, reduceIte, if_true, if_false, ite_true, ite_false, Bool.not_true, Bool.not_false, Bool.false_eq_true]
/-- the levels of all_paths -/
def apT : List Sl → R Bool := m1 (nDR 2) truR
theorem extA_l {ds es : List D} (h : ds.length + es.length ≤ 1000000) : extAR ds [.list es] = ok (ds ++ es) := bd_req (Nat.le_trans h (by decide)) _
theorem appD (p : List Nat) (k : Nat) (h : p.length ≤ 100000) : addR (pD p) (.tuple [nI k]) = ok (pD (p ++ [k])) := by
  show addR (.tuple (p.map nI)) (.tuple ([k].map nI)) = _
  rw [addT_n (by simp; omega), ← List.map_append]; rfl
theorem enum_hooks {hs : List (Int × Mob)} (h : hs.length ≤ 1000) : enumAR [.tuple (hs.map hkD)] = ok (hs.zipIdx.map fun a => .tuple [nI a.2, hkD a.1]) := by
  rw [enum_t (by rw [List.length_map]; omega)]
  congr 1
  unfold enumD
  rw [List.mapIdx_eq_zipIdx_map, List.zipIdx_map, List.map_map]
  rfl
def wA : List Sl → R Out := (seqM (mutM 1 (consR (frz (lcM [4, 9] (itR (nDR 2)) (gTupR 2 (gConsR (gSet 4) (gConsR (gSet 9) gNilR))) yesT (nDR 4))) nilR) extAR)
 (seqM (setM 3 (frz (lcM [4, 5] (itR (nDR 2)) (gTupR 2 (gConsR (gSet 4) (gConsR (gSet 5) gNilR))) (m1 (m1 (consR (nDR 5) nilR) (callR 1 m_is_rod)) truR) (m1 (consR (nDR 4) (consR (nDR 5) nilR)) tupR))))
 (setM 2 (frz (lc2M [4, 6, 7, 8] [7, 8] (itR (nDR 3)) (gTupR 2 (gConsR (gSet 4) (gConsR (gSet 6) gNilR))) yesT (m1 (consR (nDR 6) nilR) enumAR) (gTupR 2 (gConsR (gSet 7) (gConsR (gSet 8) gNilR))) yesT (m1 (consR (m2 (nDR 4) (m1 (consR (nDR 7) nilR) tupR) addR) (consR (m2 (nDR 8) (kR (.int 1)) ixR) nilR)) tupR))))))
theorem ch_filter (L : List Mo.Row) : (L.filter fun x => rodB x.2).flatMap ch = L.flatMap ch := by
  induction L with
  | nil => rfl
  | cons x L ih =>
    obtain ⟨p, m⟩ := x
    cases m with
    | w i => rw [List.filter_cons_of_neg (by simp [rodB]), List.flatMap_cons, ch_w, ih]; rfl
    | r hs => rw [List.filter_cons_of_pos (by simp [rodB]), List.flatMap_cons, List.flatMap_cons, ih]
theorem r_wA {x0 s3 : Sl} {found : List (List Nat)} {L : List Mo.Row} (hl : found.length + L.length ≤ 100000) (hc : (L.flatMap ch).length ≤ 100000) (hp : ∀ x ∈ L, x.1.length ≤ 1000 ∧ (hooks x.2).length ≤ 1000) :
    ∃ s3', wA [x0, .own (found.map pD), .dat (.list (L.map rowD)), s3, .un, .un, .un, .un, .un, .un] = ok (.nx [x0, .own ((found ++ L.map (·.1)).map pD), .dat (.list ((L.flatMap ch).map rowD)), s3', .un, .un, .un, .un, .un, .un]) := by
  refine ⟨.dat (.list ((L.filter fun x => rodB x.2).map rowD)), ?_⟩
  unfold wA
  simp only [mirs, reduceIte, if_true, if_false, ite_true, ite_false, Bool.not_true, Bool.not_false, Bool.false_eq_true]
  rw [lcB (f := rowD) (l := L) (h := fun x => pD x.1) (itR_list rfl) (fun x _ => by unfold rowD; simp only [mirs, reduceIte, if_true, if_false, ite_true, ite_false, Bool.not_true, Bool.not_false, Bool.false_eq_true])]
  simp only [mirs, reduceIte, if_true, if_false, ite_true, ite_false, Bool.not_true, Bool.not_false, Bool.false_eq_true]
  rw [extA_l (by simp; omega)]
  simp only [mirs, reduceIte, if_true, if_false, ite_true, ite_false, Bool.not_true, Bool.not_false, Bool.false_eq_true]
  rw [lcT (f := rowD) (l := L) (p := fun x => rodB x.2) (h := rowD) (σ := fun x => [x0, .own (found.map pD ++ L.map fun x => pD x.1), .dat (.list (L.map rowD)), s3, .dat (pD x.1), .dat (enc x.2), .un, .un, .un, .un]) (itR_list rfl) (fun x _ => by unfold rowD; simp only [mirs, reduceIte, if_true, if_false, ite_true, ite_false, Bool.not_true, Bool.not_false, Bool.false_eq_true]) (fun x _ => by simp only [mirs, reduceIte, if_true, if_false, ite_true, ite_false, Bool.not_true, Bool.not_false, Bool.false_eq_true, q_is_rod]) (fun x _ _ => by simp only [mirs, reduceIte, if_true, if_false, ite_true, ite_false, Bool.not_true, Bool.not_false, Bool.false_eq_true]; rfl)]
  simp only [mirs, reduceIte, if_true, if_false, ite_true, ite_false, Bool.not_true, Bool.not_false, Bool.false_eq_true]
  rw [lc2B (f := rowD) (l := L.filter fun x => rodB x.2) (σ := fun x => [noOwn1 x0, .un, .dat (.list (L.map rowD)), .dat (.list ((L.filter fun x => rodB x.2).map rowD)), .dat (pD x.1), .un, .dat (enc x.2), .un, .un, .un]) (l1 := fun x => (hooks x.2).zipIdx) (f1 := fun a => .tuple [nI a.2, hkD a.1]) (h1 := fun x a => rowD (x.1 ++ [a.2], a.1.2)) (itR_list rfl)
    (fun x _ => by unfold rowD; rw [noOwn_c]; simp only [mirs, reduceIte, if_true, if_false, ite_true, ite_false, Bool.not_true, Bool.not_false, Bool.false_eq_true]) (fun x _ => by rw [ownFree_c]; rfl) (fun x hx => by
      obtain ⟨p, m⟩ := x
      cases m with
      | w i => exact absurd (List.mem_filter.mp hx).2 (by simp [rodB])
      | r hs => simp only [mirs, reduceIte, if_true, if_false, ite_true, ite_false, Bool.not_true, Bool.not_false, Bool.false_eq_true, enc_r, enum_hooks (hs := hs) (hp _ (List.mem_filter.mp hx).1).2]; rfl) (fun x hx a _ => by
      simp only [mirs, reduceIte, if_true, if_false, ite_true, ite_false, Bool.not_true, Bool.not_false, Bool.false_eq_true]
      rw [appD _ _ (by have := (hp _ (List.mem_filter.mp hx).1).1; omega), show hkD a.1 = .tuple [.int a.1.1, enc a.1.2] from rfl]
      simp only [mirs, reduceIte, if_true, if_false, ite_true, ite_false, Bool.not_true, Bool.not_false, Bool.false_eq_true]; rfl) (by
      rw [← ch_filter] at hc
      have e : ((L.filter fun x => rodB x.2).flatMap fun x => (hooks x.2).zipIdx).length = ((L.filter fun x => rodB x.2).flatMap ch).length := by
        rw [List.length_flatMap, List.length_flatMap]
        congr 1
        exact List.map_congr_left fun x _ => by unfold ch; rw [List.length_map]
      omega)]
  have e : ((L.filter fun x => rodB x.2).flatMap fun x => (hooks x.2).zipIdx.map fun a => rowD (x.1 ++ [a.2], a.1.2)) = (L.flatMap ch).map rowD := by
    rw [← ch_filter, List.map_flatMap]
    congr 1
    funext x
    unfold ch
    rw [List.map_map]; rfl
  simp only [mirs, reduceIte, if_true, if_false, ite_true, ite_false, Bool.not_true, Bool.not_false, Bool.false_eq_true, e]
  rw [List.map_append, List.map_map]; rfl
theorem szs_le {L : List Mo.Row} {x : Mo.Row} (h : x ∈ L) : sz x.2 ≤ (L.map fun y => sz y.2).sum := mem_sum (fun y : Mo.Row => sz y.2) h
theorem ap_loop {x0 : Sl} : ∀ (n : Nat) (L : List Mo.Row) (found : List (List Nat)) (s3 : Sl), (∀ x ∈ L, dep x.2 ≤ n) → found.length + (L.map fun y => sz y.2).sum ≤ 1000 → (∀ x ∈ L, x.1.length + sz x.2 ≤ 1000) →
    ∃ s3', whileM (m1 (nDR 2) truR) wA [x0, .own (found.map pD), .dat (.list (L.map rowD)), s3, .un, .un, .un, .un, .un, .un] = ok (.nx [x0, .own ((found ++ (bfs (n + 1) L).map (·.1)).map pD), .dat (.list []), s3', .un, .un, .un, .un, .un, .un]) := by
  intro n
  induction n with
  | zero =>
    intro L found s3 hd hs hp
    have hL : L.length ≤ (L.map fun y => sz y.2).sum := len_sum (fun y : Mo.Row => sz y.2) fun x _ => sz_pos _
    have hc := sum_ch L
    have hcl : (L.flatMap ch).length ≤ ((L.flatMap ch).map fun y => sz y.2).sum := len_sum (fun y : Mo.Row => sz y.2) fun x _ => sz_pos _
    have e : L.flatMap ch = [] := List.flatMap_eq_nil_iff.mpr fun x hx => dep_ch0 (hd x hx)
    cases L with
    | nil =>
      refine ⟨s3, ?_⟩
      rw [whileM_stop (by simp only [mirs, reduceIte, if_true, if_false, ite_true, ite_false, Bool.not_true, Bool.not_false, Bool.false_eq_true]; rfl)]
      show _ = ok (Out.nx [_, .own ((found ++ []).map pD), _, _, _, _, _, _, _, _])
      rw [List.append_nil]; rfl
    | cons y L =>
      obtain ⟨s3', h⟩ := r_wA (x0 := x0) (s3 := s3) (found := found) (L := y :: L) (by omega) (by omega) fun x hx => ⟨by have := hp x hx; omega, by
        cases hm : x.2 with
        | w i => simp [hooks]
        | r hs =>
          have h1 := hooks_le hs
          have h2 := hp x hx
          rw [hm] at h2
          show hs.length ≤ 1000
          omega⟩
      refine ⟨s3', ?_⟩
      rw [whileM_step (by simp only [mirs, reduceIte, if_true, if_false, ite_true, ite_false, Bool.not_true, Bool.not_false, Bool.false_eq_true]; rfl) h, e]
      rw [whileM_stop (by simp only [mirs, reduceIte, if_true, if_false, ite_true, ite_false, Bool.not_true, Bool.not_false, Bool.false_eq_true]; rfl)]
      show _ = ok (Out.nx [_, .own ((found ++ ((y :: L) ++ []).map fun z : Mo.Row => z.1).map pD), _, _, _, _, _, _, _, _])
      rw [List.append_nil]; rfl
  | succ n ih =>
    intro L found s3 hd hs hp
    have hL : L.length ≤ (L.map fun y => sz y.2).sum := len_sum (fun y : Mo.Row => sz y.2) fun x _ => sz_pos _
    have hc := sum_ch L
    have hcl : (L.flatMap ch).length ≤ ((L.flatMap ch).map fun y => sz y.2).sum := len_sum (fun y : Mo.Row => sz y.2) fun x _ => sz_pos _
    cases L with
    | nil =>
      refine ⟨s3, ?_⟩
      rw [whileM_stop (by simp only [mirs, reduceIte, if_true, if_false, ite_true, ite_false, Bool.not_true, Bool.not_false, Bool.false_eq_true]; rfl)]
      have : ∀ n, bfs n [] = [] := fun n => by
        induction n with
        | zero => rfl
        | succ n ih => exact ih
      rw [this]
      show _ = ok (Out.nx [_, .own ((found ++ []).map pD), _, _, _, _, _, _, _, _])
      rw [List.append_nil]; rfl
    | cons y L =>
      obtain ⟨s3', h⟩ := r_wA (x0 := x0) (s3 := s3) (found := found) (L := y :: L) (by omega) (by omega) fun x hx => ⟨by have := hp x hx; omega, by
        cases hm : x.2 with
        | w i => simp [hooks]
        | r hs =>
          have h1 := hooks_le hs
          have h2 := hp x hx
          rw [hm] at h2
          show hs.length ≤ 1000
          omega⟩
      obtain ⟨s4, h4⟩ := ih ((y :: L).flatMap ch) (found ++ (y :: L).map (·.1)) s3' (fun x hx => by
        obtain ⟨z, hz, hx⟩ := List.mem_flatMap.mp hx
        exact dep_ch hx (hd z hz)) (by rw [List.length_append, List.length_map]; omega) (fun x hx => by
        obtain ⟨z, hz, hx⟩ := List.mem_flatMap.mp hx
        have h1 := hp z hz
        have h2 := ch_sz z
        have h3 : sz x.2 ≤ ((ch z).map fun y => sz y.2).sum := szs_le hx
        obtain ⟨k, g, _, e1, _⟩ := ch_mem.mp (show (x.1, x.2) ∈ ch (z.1, z.2) from hx)
        rw [e1, List.length_append, List.length_singleton]
        omega)
      refine ⟨s4, ?_⟩
      rw [whileM_step (by simp only [mirs, reduceIte, if_true, if_false, ite_true, ite_false, Bool.not_true, Bool.not_false, Bool.false_eq_true]; rfl) h, h4]
      show _ = ok (Out.nx [_, .own ((found ++ ((y :: L) ++ bfs (n + 1) ((y :: L).flatMap ch)).map fun z : Mo.Row => z.1).map pD), _, _, _, _, _, _, _, _])
      rw [List.map_append (l₁ := y :: L), List.append_assoc]
theorem q_all_paths {m : Mob} (hs : sz m ≤ 900) : m_all_paths [enc m] = ok (.tuple ((paths m).map pD)) := by
  show bd (g_all_paths [.dat (enc m), .un, .un, .un, .un, .un, .un, .un, .un, .un]) endM = _
  unfold g_all_paths
  obtain ⟨s3, h⟩ := ap_loop (x0 := .dat (enc m)) (dep m) [([], m)] [] .un (fun x hx => by rw [List.mem_singleton.mp hx]; exact Nat.le_refl _) (by simp; omega) (fun x hx => by rw [List.mem_singleton.mp hx]; simp; omega)
  have e0 : setsM [1, 2] (consR (rO (m1 nilR lstR)) (consR (rD (frz (m1 (consR (m1 (consR (m1 nilR tupR) (consR (nDR 0) nilR)) tupR) nilR) lstR))) nilR)) [.dat (enc m), .un, .un, .un, .un, .un, .un, .un, .un, .un] = ok (.nx [.dat (enc m), .own (([] : List (List Nat)).map pD), .dat (.list ([(([] : List Nat), m)].map rowD)), .un, .un, .un, .un, .un, .un, .un]) := by
    unfold setsM rO rD
    simp only [mirs, reduceIte, if_true, if_false, ite_true, ite_false, Bool.not_true, Bool.not_false, Bool.false_eq_true]
    rfl
  rw [seqM_e, e0, bd_ok, nxt_nx, seqM_e]
  show bd (bd (whileM (m1 (nDR 2) truR) wA _) _) endM = _
  rw [h]
  have hp := bfs_perm (dep m) [([], m)] (fun x hx => by rw [List.mem_singleton.mp hx]; exact Nat.le_refl _)
  have e1 : bfs (dep m + 1) [([], m)] = ([], m) :: bfs (dep m) (([([], m)] : List Mo.Row).flatMap ch) := rfl
  have hp2 : ((bfs (dep m + 1) [([], m)]).map (·.1)).Perm ((pre ([], m)).map (·.1)) := by
    refine (hp.trans ?_).map _
    simp
  have hl : (bfs (dep m + 1) [([], m)]).length = sz m := by
    rw [← len_pre ([], m)]
    have := hp2.length_eq
    rwa [List.length_map, List.length_map] at this
  have hsr : sortedR [.list (((bfs (dep m + 1) [([], m)]).map (·.1)).map pD)] = ok ((paths m).map pD) := by
    have := sort_rows0 (ds := (bfs (dep m) (([([], m)] : List Mo.Row).flatMap ch)).map (·.1)) (by
      rw [e1, List.length_cons] at hl
      rw [List.length_map]
      exact Nat.lt_of_le_of_lt (show _ ≤ 1000 by omega) (by decide))
    refine Eq.trans ?_ (this.trans ?_)
    · rfl
    · rw [show ([] :: (bfs (dep m) (([([], m)] : List Mo.Row).flatMap ch)).map (·.1)) = (bfs (dep m + 1) [([], m)]).map (·.1) from rfl, paths_sorted hp2]; rfl
  simp only [mirs, reduceIte, if_true, if_false, ite_true, ite_false, Bool.not_true, Bool.not_false, Bool.false_eq_true]
  rw [List.nil_append, hsr]
  simp only [mirs, reduceIte, if_true, if_false, ite_true, ite_false, Bool.not_true, Bool.not_false, Bool.false_eq_true]
theorem pD_paths (m : Mob) : (paths m).map pD = (pre ([], m)).map fun x => pD x.1 := by unfold paths; rw [List.map_map]; rfl
theorem q_rods_of {m : Mob} (hs : sz m ≤ 900) : m_rods_of [enc m] = ok (.tuple ((rods m).map pD)) := by
  show bd (g_rods_of [.dat (enc m), .un]) endM = _
  unfold g_rods_of
  simp only [mirs, reduceIte, if_true, if_false, ite_true, ite_false, Bool.not_true, Bool.not_false, Bool.false_eq_true]
  rw [lcT (f := fun x : Mo.Row => pD x.1) (l := pre ([], m)) (p := fun x => rodB x.2) (h := fun x => pD x.1) (σ := fun x => [.dat (enc m), .dat (pD x.1)]) (itR_tuple (by simp only [mirs, reduceIte, if_true, if_false, ite_true, ite_false, Bool.not_true, Bool.not_false, Bool.false_eq_true, q_all_paths hs, pD_paths])) (fun x _ => by simp only [mirs, reduceIte, if_true, if_false, ite_true, ite_false, Bool.not_true, Bool.not_false, Bool.false_eq_true]) (fun x hx => by simp only [mirs, reduceIte, if_true, if_false, ite_true, ite_false, Bool.not_true, Bool.not_false, Bool.false_eq_true, q_part_at (pre_at hx), q_is_rod]) (fun x _ _ => by simp only [mirs, reduceIte, if_true, if_false, ite_true, ite_false, Bool.not_true, Bool.not_false, Bool.false_eq_true])]
  simp only [mirs, reduceIte, if_true, if_false, ite_true, ite_false, Bool.not_true, Bool.not_false, Bool.false_eq_true]
  unfold rods
  rw [List.map_map]; rfl
def wts (m : Mob) : List Mo.Row := (pre ([], m)).filter fun x => !rodB x.2
theorem q_weights_of {m : Mob} (hs : sz m ≤ 900) : m_weights_of [enc m] = ok (.tuple ((wts m).map rowD)) := by
  show bd (g_weights_of [.dat (enc m), .un, .un, .un]) endM = _
  unfold g_weights_of
  simp only [mirs, reduceIte, if_true, if_false, ite_true, ite_false, Bool.not_true, Bool.not_false, Bool.false_eq_true]
  rw [lcB (f := fun x : Mo.Row => pD x.1) (l := pre ([], m)) (h := rowD) (itR_tuple (by simp only [mirs, reduceIte, if_true, if_false, ite_true, ite_false, Bool.not_true, Bool.not_false, Bool.false_eq_true, q_all_paths hs, pD_paths])) (fun x hx => by simp only [mirs, reduceIte, if_true, if_false, ite_true, ite_false, Bool.not_true, Bool.not_false, Bool.false_eq_true, q_part_at (pre_at hx)]; rfl)]
  simp only [mirs, reduceIte, if_true, if_false, ite_true, ite_false, Bool.not_true, Bool.not_false, Bool.false_eq_true]
  rw [lcT (f := rowD) (l := pre ([], m)) (p := fun x => !rodB x.2) (h := rowD) (σ := fun x => [.dat (enc m), .dat (.list ((pre ([], m)).map rowD)), .dat (pD x.1), .dat (enc x.2)]) (itR_list (by simp only [mirs, reduceIte, if_true, if_false, ite_true, ite_false, Bool.not_true, Bool.not_false, Bool.false_eq_true])) (fun x _ => by unfold rowD; simp only [mirs, reduceIte, if_true, if_false, ite_true, ite_false, Bool.not_true, Bool.not_false, Bool.false_eq_true]) (fun x hx => by simp only [mirs, reduceIte, if_true, if_false, ite_true, ite_false, Bool.not_true, Bool.not_false, Bool.false_eq_true, q_is_rod]) (fun x _ _ => by simp only [mirs, reduceIte, if_true, if_false, ite_true, ite_false, Bool.not_true, Bool.not_false, Bool.false_eq_true]; rfl)]
  simp only [mirs, reduceIte, if_true, if_false, ite_true, ite_false, Bool.not_true, Bool.not_false, Bool.false_eq_true]
  rfl
theorem wts_w {m : Mob} {x : Mo.Row} (h : x ∈ wts m) : rowD x = .tuple [pD x.1, .int (wI x.2)] := by
  obtain ⟨q, t⟩ := x
  cases t with
  | w i => unfold rowD; rw [enc_w]; rfl
  | r hs => exact absurd (List.mem_filter.mp h).2 (by simp [rodB])
theorem q_total {m : Mob} (hs : sz m ≤ 900) : m_total [enc m] = ok (.int (tot m)) := by
  show bd (g_total [.dat (enc m), .un, .un]) endM = _
  unfold g_total
  simp only [mirs, reduceIte, if_true, if_false, ite_true, ite_false, Bool.not_true, Bool.not_false, Bool.false_eq_true]
  rw [lcB (f := rowD) (l := wts m) (h := fun x => .int (wI x.2)) (itR_tuple (by simp only [mirs, reduceIte, if_true, if_false, ite_true, ite_false, Bool.not_true, Bool.not_false, Bool.false_eq_true, q_weights_of hs])) (fun x hx => by rw [wts_w hx]; simp only [mirs, reduceIte, if_true, if_false, ite_true, ite_false, Bool.not_true, Bool.not_false, Bool.false_eq_true])]
  simp only [mirs, reduceIte, if_true, if_false, ite_true, ite_false, Bool.not_true, Bool.not_false, Bool.false_eq_true, sum_f (fun x : Mo.Row => wI x.2) (wts m)]
  rw [show ((wts m).map fun x => wI x.2).sum = tot m from tot_pre ([], m)]
theorem q_moment {hs : List (Int × Mob)} (hz : sz (.r hs) ≤ 900) (hp : ∀ p ∈ hs, p.1.natAbs ≤ 1000000000) : m_moment_of [enc (.r hs)] = ok (.int (mom hs)) := by
  show bd (g_moment_of [.dat (enc (.r hs)), .un, .un]) endM = _
  unfold g_moment_of
  simp only [mirs, reduceIte, if_true, if_false, ite_true, ite_false, Bool.not_true, Bool.not_false, Bool.false_eq_true]
  rw [lcB (f := hkD) (l := hs) (h := fun p => .int (p.1 * tot p.2)) (itR_tuple (by simp only [mirs, reduceIte, if_true, if_false, ite_true, ite_false, Bool.not_true, Bool.not_false, Bool.false_eq_true, enc_r])) (fun p hpm => by
    have h1 : sz p.2 ≤ (hs.map fun p => sz p.2).sum := mem_sum (fun p : Int × Mob => sz p.2) hpm
    rw [sz_r] at hz
    unfold hkD
    simp only [mirs, reduceIte, if_true, if_false, ite_true, ite_false, Bool.not_true, Bool.not_false, Bool.false_eq_true, q_total (m := p.2) (by omega), mulL9 (hp p hpm)])]
  simp only [mirs, reduceIte, if_true, if_false, ite_true, ite_false, Bool.not_true, Bool.not_false, Bool.false_eq_true, sum_f (fun p : Int × Mob => p.1 * tot p.2) hs]
  rfl
/-- places are not too great -/
def Plc (m : Mob) : Prop := ∀ q t, at_ q m = some t → ∀ p ∈ hooks t, p.1.natAbs ≤ 1000000
theorem Plc.at {m t : Mob} {q : List Nat} (h : Plc m) (e : at_ q m = some t) : ∀ p ∈ hooks t, p.1.natAbs ≤ 1000000000 := fun p hp => Nat.le_trans (h q t e p hp) (by decide)
theorem tls_rods (m : Mob) : tls ([], m) = (((pre ([], m)).filter fun x => rodB x.2).filter fun x => tlt x.2).map (·.1) := by
  unfold tls
  rw [List.filter_filter]
  congr 1
  refine List.filter_congr fun x _ => ?_
  obtain ⟨q, t⟩ := x
  cases t with
  | w i => rfl
  | r hs => show tlt _ = (tlt _ && true); rw [Bool.and_true]
theorem q_tilted {m : Mob} (hs : sz m ≤ 900) (hp : Plc m) : m_tilted_rods [enc m] = ok (.tuple ((tls ([], m)).map pD)) := by
  show bd (g_tilted_rods [.dat (enc m), .un]) endM = _
  unfold g_tilted_rods
  simp only [mirs, reduceIte, if_true, if_false, ite_true, ite_false, Bool.not_true, Bool.not_false, Bool.false_eq_true]
  rw [lcT (f := fun x : Mo.Row => pD x.1) (l := (pre ([], m)).filter fun x => rodB x.2) (p := fun x => tlt x.2) (h := fun x => pD x.1) (σ := fun x => [.dat (enc m), .dat (pD x.1)]) (itR_tuple (by simp only [mirs, reduceIte, if_true, if_false, ite_true, ite_false, Bool.not_true, Bool.not_false, Bool.false_eq_true, q_rods_of hs]; unfold rods; rw [List.map_map]; rfl)) (fun x _ => by simp only [mirs, reduceIte, if_true, if_false, ite_true, ite_false, Bool.not_true, Bool.not_false, Bool.false_eq_true]) (fun x hx => by
    have hx := List.mem_filter.mp hx
    have ha := pre_at hx.1
    obtain ⟨q, t⟩ := x
    cases t with
    | w i => exact absurd hx.2 (by simp [rodB])
    | r gs =>
      have h1 := sz_at ha
      have h1 : sz (.r gs) + q.length ≤ sz m := h1
      simp only [mirs, reduceIte, if_true, if_false, ite_true, ite_false, Bool.not_true, Bool.not_false, Bool.false_eq_true, q_part_at ha, q_moment (hs := gs) (by omega) (hp.at ha)]
      show ok (!decide (mom gs = 0)) = ok (decide (mom gs ≠ 0))
      simp) (fun x _ _ => by simp only [mirs, reduceIte, if_true, if_false, ite_true, ite_false, Bool.not_true, Bool.not_false, Bool.false_eq_true])]
  simp only [mirs, reduceIte, if_true, if_false, ite_true, ite_false, Bool.not_true, Bool.not_false, Bool.false_eq_true]
  rw [tls_rods, List.map_map]; rfl
theorem eq_nil (l : List (List Nat)) : eqR (.tuple (l.map pD)) (.tuple []) = ok (.bool (decide (l = []))) := by
  rw [eqR, bd_req (Nat.le_trans (Nat.min_le_right _ _) (by decide))]
  cases l <;> rfl
theorem q_level {m : Mob} (hs : sz m ≤ 900) (hp : Plc m) : m_hangs_level [enc m] = ok (.bool (decide (tls ([], m) = []))) := by
  show bd (g_hangs_level [.dat (enc m)]) endM = _
  unfold g_hangs_level
  simp only [mirs, reduceIte, if_true, if_false, ite_true, ite_false, Bool.not_true, Bool.not_false, Bool.false_eq_true, q_tilted hs hp, eq_nil]
theorem q_turned_rod (hs : List (Int × Mob)) : m_turned_rod [enc (.r hs)] = ok (enc (.r (rev1 hs))) := by
  show bd (g_turned_rod [.dat (enc (.r hs)), .un, .un]) endM = _
  unfold g_turned_rod
  simp only [mirs, reduceIte, if_true, if_false, ite_true, ite_false, Bool.not_true, Bool.not_false, Bool.false_eq_true]
  rw [lcB (f := hkD) (l := hs.reverse) (h := fun p => hkD (-p.1, p.2)) (itR_tuple (by simp only [mirs, reduceIte, if_true, if_false, ite_true, ite_false, Bool.not_true, Bool.not_false, Bool.false_eq_true, enc_r]; rw [← List.map_reverse])) (fun p _ => by
    unfold hkD
    simp only [mirs, reduceIte, if_true, if_false, ite_true, ite_false, Bool.not_true, Bool.not_false, Bool.false_eq_true])]
  simp only [mirs, reduceIte, if_true, if_false, ite_true, ite_false, Bool.not_true, Bool.not_false, Bool.false_eq_true]
  rw [enc_r, rev1, List.map_map]; rfl
/-! ### with_part -/
/-- the rods on the way, with the places on them -/
def way : List Nat → Mob → List (Nat × Mob)
  | [], _ => []
  | k :: q, m => (k, m) :: way q (match (hooks m)[k]? with
    | some h => h.2
    | none => m)
def wR : List Sl → R Out := (mutM 3 (consR (m2 (m2 (m2 (nBR 3) (m1 (kR (.int 1)) negR) ixR) (nDR 4) ixR) (kR (.int 1)) ixR) nilR) appR)
theorem way_loop {x0 x1 x2 : Sl} : ∀ (q : List Nat) (acc : List Mob) (m t : Mob) (s : Sl), at_ q m = some t → acc.length + q.length ≤ 1000 → ∃ s', forF (gSet 4) wR (q.map nI) [x0, x1, x2, .own ((acc ++ [m]).map enc), s, .un] = ok (.nx [x0, x1, x2, .own ((acc ++ (way q m).map (·.2) ++ [t]).map enc), s', .un])
  | [], acc, m, t, s, e, _ => by cases e; exact ⟨s, by rw [way]; simp only [List.map_nil, List.append_nil]; rfl⟩
  | k :: q, acc, .w i, t, s, e, _ => by cases e
  | k :: q, acc, .r hs, t, s, e, hl => by
    cases hk : hs[k]? with
    | none => rw [at_none hk] at e; cases e
    | some x =>
      rw [at_some hk] at e
      rw [List.length_cons] at hl
      obtain ⟨s', h⟩ := way_loop q (acc ++ [.r hs]) x.2 t (.dat (nI k)) e (by rw [List.length_append, List.length_singleton]; omega)
      refine ⟨s', ?_⟩
      rw [List.map_cons, forF, way, show (match (hooks (.r hs))[k]? with | some h => h.2 | none => Mob.r hs) = x.2 from by rw [show (hooks (.r hs))[k]? = some x from hk]]
      unfold wR
      simp only [mirs, reduceIte, if_true, if_false, ite_true, ite_false, Bool.not_true, Bool.not_false, Bool.false_eq_true, ixR_last (f := enc) (l := acc ++ [Mob.r hs]) (x := Mob.r hs) (by simp), enc_r, ixt_k (show (hs.map hkD)[k]? = some (hkD x) by rw [List.getElem?_map, hk]; rfl)]
      rw [show hkD x = .tuple [.int x.1, enc x.2] from rfl]
      simp only [mirs, reduceIte, if_true, if_false, ite_true, ite_false, Bool.not_true, Bool.not_false, Bool.false_eq_true, app_n (ds := (acc ++ [Mob.r hs]).map enc) (x := enc x.2) (by simp; omega), lpO_nx]
      rw [show ((acc ++ [Mob.r hs]).map enc ++ [enc x.2]) = ((acc ++ [Mob.r hs]) ++ [x.2]).map enc by rw [List.map_append (l₁ := acc ++ [Mob.r hs])]; rfl]
      unfold wR at h
      rw [h]
      simp
def putD (k : Nat) (m : Mob) (t : Mob) : Mob := match m with
  | .w i => .w i
  | .r hs => .r (match hs[k]? with
    | some h => hs.set k (h.1, t)
    | none => hs)
theorem put_way : ∀ (q : List Nat) (m t t' : Mob), at_ q m = some t' → put q m t = (way q m).foldr (fun a t => putD a.1 a.2 t) t
  | [], _, _, _, _ => rfl
  | k :: q, .w i, t, t', e => by cases e
  | k :: q, .r hs, t, t', e => by
    cases hk : hs[k]? with
    | none => rw [at_none hk] at e; cases e
    | some x =>
      rw [at_some hk] at e
      rw [put_some hk, way, List.foldr_cons, show (match (hooks (.r hs))[k]? with | some h => h.2 | none => Mob.r hs) = x.2 from by rw [show (hooks (.r hs))[k]? = some x from hk], ← put_way q x.2 t t' e]
      show _ = Mob.r (match hs[k]? with | some h => _ | none => _)
      rw [hk]
theorem way_rod : ∀ {q : List Nat} {m t : Mob}, at_ q m = some t → ∀ a ∈ way q m, ∃ hs, a.2 = .r hs ∧ a.1 < hs.length ∧ sz a.2 ≤ sz m
  | [], m, t, e, a, ha => by cases ha
  | k :: q, .w i, t, e, a, ha => by cases e
  | k :: q, .r hs, t, e, a, ha => by
    cases hk : hs[k]? with
    | none => rw [at_none hk] at e; cases e
    | some x =>
      rw [at_some hk] at e
      rw [way, show (match (hooks (.r hs))[k]? with | some h => h.2 | none => Mob.r hs) = x.2 from by rw [show (hooks (.r hs))[k]? = some x from hk]] at ha
      rcases List.mem_cons.mp ha with rfl | ha
      · exact ⟨hs, rfl, (List.getElem?_eq_some_iff.mp hk).1, Nat.le_refl _⟩
      · obtain ⟨gs, h1, h2, h3⟩ := way_rod e a ha
        have := mem_sum (fun p : Int × Mob => sz p.2) (List.mem_of_getElem? hk)
        exact ⟨gs, h1, h2, by rw [sz_r]; exact Nat.le_trans h3 (Nat.le_trans this (by omega))⟩
theorem way_len : ∀ (q : List Nat) (m : Mob), (way q m).length = q.length
  | [], _ => rfl
  | k :: q, m => by rw [way, List.length_cons, List.length_cons, way_len q]
theorem way_fst : ∀ (q : List Nat) (m : Mob), (way q m).map (·.1) = q
  | [], _ => rfl
  | k :: q, m => by rw [way, List.map_cons, way_fst q]
def wP : List Sl → R Out := (setM 2 (m2 (m2 (m3 (nDR 5) noR (m1 (nDR 4) asI) slR) (m1 (consR (m1 (consR (m2 (m2 (nDR 5) (nDR 4) ixR) (kR (.int 0)) ixR) (consR (nDR 2) nilR)) tupR) nilR) tupR) addR) (m3 (nDR 5) (m1 (m2 (nDR 4) (kR (.int 1)) addR) asI) noR slR) addR))
theorem set_cut {α : Type} : ∀ {l : List α} {k : Nat} {y : α}, k < l.length → l.set k y = l.take k ++ [y] ++ l.drop (k + 1)
  | a :: l, 0, y, _ => by simp
  | a :: l, k + 1, y, h => by
    rw [List.set_cons_succ, List.take_succ_cons, List.drop_succ_cons, set_cut (by simpa using h)]; rfl
theorem nI_asI (k : Nat) : asI (nI k) = ok (some (k : Int)) := rfl
theorem nI_add (k : Nat) : addR (nI k) (.int 1) = ok (nI (k + 1)) := rfl
theorem r_wP {x0 x1 x3 s4 s5 : Sl} {k : Nat} {hs : List (Int × Mob)} {t : Mob} (hk : k < hs.length) (hl : hs.length ≤ 1000) : bd (gTupR 2 (gConsR (gSet 4) (gConsR (gSet 5) gNilR)) (.tuple [nI k, enc (.r hs)]) [x0, x1, .dat (enc t), x3, s4, s5]) wP = ok (.nx [x0, x1, .dat (enc (putD k (.r hs) t)), x3, .dat (nI k), .dat (enc (.r hs))]) := by
  have hx : hs[k]? = some hs[k] := List.getElem?_eq_getElem hk
  unfold wP
  simp only [mirs, reduceIte, if_true, if_false, ite_true, ite_false, Bool.not_true, Bool.not_false, Bool.false_eq_true, nI_asI, nI_add, enc_r, ixt_k (show (hs.map hkD)[k]? = some (hkD hs[k]) by rw [List.getElem?_map, hx]; rfl)]
  rw [show hkD hs[k] = .tuple [.int hs[k].1, enc hs[k].2] from rfl, cut_lo, cut_hi]
  simp only [mirs, reduceIte, if_true, if_false, ite_true, ite_false, Bool.not_true, Bool.not_false, Bool.false_eq_true, addT_n (x := (hs.map hkD).take k) (y := [.tuple [.int hs[k].1, enc t]]) (by simp; omega), addT_n (x := (hs.map hkD).take k ++ [.tuple [.int hs[k].1, enc t]]) (y := (hs.map hkD).drop (k + 1)) (by simp; omega)]
  have : putD k (.r hs) t = .r (hs.set k (hs[k].1, t)) := by
    unfold putD
    simp only [hx]
  rw [this, enc_r, List.map_set, set_cut (by simpa using hk)]
  rfl
theorem q_with_part {q : List Nat} {m t t' : Mob} (e : at_ q m = some t') (hs : sz m ≤ 900) : m_with_part [enc m, pD q, enc t] = ok (enc (put q m t)) := by
  show bd (g_with_part [.dat (enc m), .dat (pD q), .dat (enc t), .un, .un, .un]) endM = _
  unfold g_with_part
  have hz := sz_at e
  have hz2 := sz_pos t'
  rw [seqM_e, setO_e]
  simp only [mirs, reduceIte, if_true, if_false, ite_true, ite_false, Bool.not_true, Bool.not_false, Bool.false_eq_true]
  obtain ⟨s', h⟩ := way_loop (x0 := .dat (enc m)) (x1 := .dat (pD q)) (x2 := .dat (enc t)) q [] m t' .un e (by simp; omega)
  rw [forM_e, itR_tup (f := nI) (l := q) (by simp only [mirs, reduceIte, if_true, if_false, ite_true, ite_false, Bool.not_true, Bool.not_false, Bool.false_eq_true]), bd_ok]
  have h : forF (gSet 4) (mutM 3 (consR (m2 (m2 (m2 (nBR 3) (m1 (kR (.int 1)) negR) ixR) (nDR 4) ixR) (kR (.int 1)) ixR) nilR) appR) (q.map nI) [.dat (enc m), .dat (pD q), .dat (enc t), .own [enc m], .un, .un] = ok (.nx [.dat (enc m), .dat (pD q), .dat (enc t), .own (((way q m).map (·.2) ++ [t']).map enc), s', .un]) := by
    rw [List.nil_append, List.nil_append] at h
    exact h
  rw [h, bd_ok, nxt_nx, seqM_e, forM_e]
  have hzip : zip2R [pD q, .list (((way q m).map (·.2) ++ [t']).map enc)] = ok ((way q m).map fun a => .tuple [nI a.1, enc a.2]) := by
    show zip2R [.tuple (q.map nI), _] = _
    rw [zip2_tl (by simp; omega)]
    congr 1
    unfold zipD
    have e1 : q = (way q m).map (·.1) := (way_fst q m).symm
    conv => lhs; arg 2; rw [e1]
    generalize way q m = w
    induction w with
    | nil => rfl
    | cons a w ih => simp only [List.map_cons, List.cons_append, List.zipWith_cons_cons]; rw [← ih]
  rw [itR_list (l := ((way q m).reverse.map fun a => .tuple [nI a.1, enc a.2])) (by simp only [mirs, reduceIte, if_true, if_false, ite_true, ite_false, Bool.not_true, Bool.not_false, Bool.false_eq_true, hzip]; rw [List.map_reverse]; rfl), bd_ok]
  have hl : ∀ (w : List (Nat × Mob)) (cur : Mob) (s4 s5 : Sl), (∀ a ∈ w, ∃ gs, a.2 = .r gs ∧ a.1 < gs.length ∧ sz a.2 ≤ 900) → ∃ s4' s5', forF (gTupR 2 (gConsR (gSet 4) (gConsR (gSet 5) gNilR))) wP (w.map fun a => .tuple [nI a.1, enc a.2]) [.dat (enc m), .dat (pD q), .dat (enc cur), .own (((way q m).map (·.2) ++ [t']).map enc), s4, s5] = ok (.nx [.dat (enc m), .dat (pD q), .dat (enc (w.foldl (fun t a => putD a.1 a.2 t) cur)), .own (((way q m).map (·.2) ++ [t']).map enc), s4', s5']) := by
    intro w
    induction w with
    | nil => intro cur s4 s5 _; exact ⟨s4, s5, rfl⟩
    | cons a w ih =>
      intro cur s4 s5 hw
      obtain ⟨gs, h1, h2, h3⟩ := hw a List.mem_cons_self
      obtain ⟨k, b⟩ := a
      have h1 : b = .r gs := h1
      subst h1
      have h4 := hooks_le gs
      have h3 : sz (.r gs) ≤ 900 := h3
      obtain ⟨s4', s5', ihh⟩ := ih (putD k (.r gs) cur) (.dat (nI k)) (.dat (enc (.r gs))) fun a ha => hw a (List.mem_cons_of_mem _ ha)
      refine ⟨s4', s5', ?_⟩
      rw [List.map_cons, forF, ← bd_bd]
      show bd (bd (gTupR 2 (gConsR (gSet 4) (gConsR (gSet 5) gNilR)) (.tuple [nI k, enc (.r gs)]) _) wP) _ = _
      rw [r_wP h2 (by omega), bd_ok, lpO_nx, ihh]
      rfl
  obtain ⟨s4', s5', hh⟩ := hl (way q m).reverse t s' .un (fun a ha => by
    obtain ⟨gs, h1, h2, h3⟩ := way_rod e a (List.mem_reverse.mp ha)
    exact ⟨gs, h1, h2, by omega⟩)
  have hh2 : ∀ (g : List Sl → R Out), bd (forF (gTupR 2 (gConsR (gSet 4) (gConsR (gSet 5) gNilR))) wP ((way q m).reverse.map fun a => .tuple [nI a.1, enc a.2]) [.dat (enc m), .dat (pD q), .dat (enc t), .own (((way q m).map (·.2) ++ [t']).map enc), s', .un]) (nxt g) = g [.dat (enc m), .dat (pD q), .dat (enc (put q m t)), .own (((way q m).map (·.2) ++ [t']).map enc), s4', s5'] := fun g => by
    rw [hh, bd_ok, nxt_nx, List.foldl_reverse, ← put_way q m t t' e]
  show bd (bd (forF _ wP _ _) _) endM = _
  rw [hh2]
  simp only [mirs, reduceIte, if_true, if_false, ite_true, ite_false, Bool.not_true, Bool.not_false, Bool.false_eq_true]
theorem q_turned_at {q : List Nat} {m : Mob} {hs : List (Int × Mob)} (e : at_ q m = some (.r hs)) (hz : sz m ≤ 900) : m_turned_at [enc m, pD q] = ok (enc (put q m (.r (rev1 hs)))) := by
  show bd (g_turned_at [.dat (enc m), .dat (pD q)]) endM = _
  unfold g_turned_at
  simp only [mirs, reduceIte, if_true, if_false, ite_true, ite_false, Bool.not_true, Bool.not_false, Bool.false_eq_true, q_part_at e, q_turned_rod hs, q_with_part (t := .r (rev1 hs)) e hz]
theorem q_turned {m : Mob} (hz : sz m ≤ 900) : m_turned [enc m] = ok (enc (tn m)) := by
  show bd (g_turned [.dat (enc m), .un]) endM = _
  unfold g_turned
  have hlr : (rods m).length ≤ 900 := by
    have h1 : (rods m).length ≤ (pre ([], m)).length := by
      unfold rods
      rw [List.length_map]
      exact List.length_filter_le _ _
    have h2 := len_pre ([], m)
    have h2 : (pre ([], m)).length = sz m := h2
    omega
  obtain ⟨qs, h1, h2, h3⟩ := deep_sorted (ps := rods m) (by omega) (fun p hp => by
    obtain ⟨hs, e⟩ := rods_mem.mp hp
    have := sz_at e
    omega) .tuple fun l => rfl
  rw [seqM_e, forM_e, itR_list (l := qs.map pD) (by simp only [mirs, reduceIte, if_true, if_false, ite_true, ite_false, Bool.not_true, Bool.not_false, Bool.false_eq_true, q_rods_of hz, h1]), bd_ok]
  have key := turn_all (m := m) qs [] m (fun q => by rw [List.nil_append, h2.mem_iff]; exact rods_mem) (by rw [List.nil_append]; exact h2.nodup_iff.mpr (rods_nodup m)) (by rw [List.nil_append]; exact h3) (by
      show m = ts (fun r => decide (r ∈ ([] : List (List Nat)))) ([], m)
      rw [show (fun r : List Nat => decide (r ∈ ([] : List (List Nat)))) = fun _ => false from by funext r; simp, ts_none])
    (fun qs c c' => ∀ s, sz c ≤ 900 → ∃ s', forF (gSet 1) (setM 0 (m1 (consR (nDR 0) (consR (nDR 1) nilR)) (callR 2 m_turned_at))) (qs.map pD) [.dat (enc c), s] = ok (.nx [.dat (enc c'), s'])) (fun c s _ => ⟨s, rfl⟩) fun q qs c hs c' e ih s hz => by
      obtain ⟨s', h⟩ := ih (.dat (pD q)) (by rw [put_sz e (sz_rev1 hs)]; exact hz)
      refine ⟨s', ?_⟩
      rw [List.map_cons, forF]
      simp only [mirs, reduceIte, if_true, if_false, ite_true, ite_false, Bool.not_true, Bool.not_false, Bool.false_eq_true, q_turned_at e hz, lpO_nx]
      exact h
  obtain ⟨s', h⟩ := key .un hz
  rw [h]
  simp only [mirs, reduceIte, if_true, if_false, ite_true, ite_false, Bool.not_true, Bool.not_false, Bool.false_eq_true]
def hgt (m : Mob) : Int := ((rods m).map fun p => (p.length : Int) + 1).foldl max 0
theorem foldl_max0 (b : Int) (bs : List Int) (h : 0 ≤ b) : (b :: bs).foldl max 0 = bs.foldl max b := by
  rw [List.foldl_cons, Int.max_eq_right h]
theorem q_height {m : Mob} (hz : sz m ≤ 900) : m_height_of [enc m] = ok (.int (hgt m)) := by
  show bd (g_height_of [.dat (enc m), .un, .un]) endM = _
  unfold g_height_of hgt
  simp only [mirs, reduceIte, if_true, if_false, ite_true, ite_false, Bool.not_true, Bool.not_false, Bool.false_eq_true, q_rods_of hz]
  cases e : rods m with
  | nil => rfl
  | cons p ps =>
    rw [if_pos (by rfl), lcB (f := pD) (l := p :: ps) (h := fun p => .int ((p.length : Int) + 1)) (itR_tuple (by simp only [mirs, reduceIte, if_true, if_false, ite_true, ite_false, Bool.not_true, Bool.not_false, Bool.false_eq_true])) (fun p _ => by simp only [mirs, reduceIte, if_true, if_false, ite_true, ite_false, Bool.not_true, Bool.not_false, Bool.false_eq_true, lenR_tup])]
    simp only [mirs, reduceIte, if_true, if_false, ite_true, ite_false, Bool.not_true, Bool.not_false, Bool.false_eq_true]
    have := max_cons ((p.length : Int) + 1) (ps.map fun p => (p.length : Int) + 1)
    rw [← List.map_cons (f := fun p : List Nat => (p.length : Int) + 1), List.map_map] at this
    rw [show (List.map (fun p : List Nat => PyData.int ((p.length : Int) + 1)) (p :: ps)) = List.map (PyData.int ∘ fun p : List Nat => (p.length : Int) + 1) (p :: ps) from rfl, this, List.map_cons, foldl_max0 _ _ (by omega)]
/-! ### the judges -/
theorem q_number_i (i a b : Int) : m_is_number [.int i, .int a, .int b] = ok (.bool (decide (a ≤ i) && decide (i ≤ b))) := by
  show bd (g_is_number [.dat (.int i), .dat (.int a), .dat (.int b)]) endM = _
  unfold g_is_number
  simp only [mirs, reduceIte, if_true, if_false, ite_true, ite_false, Bool.not_true, Bool.not_false, Bool.false_eq_true]
  by_cases h : a ≤ i
  · simp [h]
  · simp [h]
theorem q_number_t (l : List D) (a b : Int) : m_is_number [.tuple l, .int a, .int b] = ok (.bool false) := by
  show bd (g_is_number [.dat (.tuple l), .dat (.int a), .dat (.int b)]) endM = _
  unfold g_is_number
  simp only [mirs, reduceIte, if_true, if_false, ite_true, ite_false, Bool.not_true, Bool.not_false, Bool.false_eq_true]
def wOk : Mob → Bool
  | .w i => decide (1 ≤ i) && decide (i ≤ 1000)
  | .r _ => false
theorem q_is_weight (m : Mob) : m_is_weight [enc m] = ok (.bool (wOk m)) := by
  show bd (g_is_weight [.dat (enc m)]) endM = _
  unfold g_is_weight
  cases m with
  | w i => simp only [mirs, reduceIte, if_true, if_false, ite_true, ite_false, Bool.not_true, Bool.not_false, Bool.false_eq_true, enc_w, q_number_i]; rfl
  | r hs => simp only [mirs, reduceIte, if_true, if_false, ite_true, ite_false, Bool.not_true, Bool.not_false, Bool.false_eq_true, enc_r, q_number_t]; rfl
theorem wOk_good {m : Mob} (h : GoodN m) : wOk m = !rodB m := by
  cases m with
  | w i => show (decide (1 ≤ i) && decide (i ≤ 1000)) = true; rw [decide_eq_true h.1, decide_eq_true h.2]; rfl
  | r hs => rfl
theorem q_is_hook {p : Int × Mob} (h1 : -50 ≤ p.1 ∧ p.1 ≤ 50) (h2 : GoodN p.2) : m_is_hook [hkD p] = ok (.bool true) := by
  obtain ⟨i, m⟩ := p
  show bd (g_is_hook [.dat (.tuple [.int i, enc m])]) endM = _
  unfold g_is_hook
  have e1 : decide ((-50 : Int) ≤ i) = true := decide_eq_true h1.1
  have e2 : decide (i ≤ 50) = true := decide_eq_true h1.2
  simp only [mirs, reduceIte, if_true, if_false, ite_true, ite_false, Bool.not_true, Bool.not_false, Bool.false_eq_true, q_number_i, e1, e2, Bool.and_true, isT_enc, show decide ((([.int i, enc m] : List D).length : Int) = 2) = true from by simp, q_is_weight, wOk_good h2]
  cases m <;> rfl
theorem q_ascending {l : List Int} (h : l.Pairwise (· < ·)) (hl : l.length ≤ 1000) : m_is_ascending [.list (l.map PyData.int)] = ok (.bool true) := by
  show bd (g_is_ascending [.dat (.list (l.map PyData.int)), .un]) endM = _
  unfold g_is_ascending
  simp only [mirs, reduceIte, if_true, if_false, ite_true, ite_false, Bool.not_true, Bool.not_false, Bool.false_eq_true]
  rw [lcB (f := nI) (l := List.range (l.length - 1)) (h := fun _ => .bool true) (by
    simp only [mirs, reduceIte, if_true, if_false, ite_true, ite_false, Bool.not_true, Bool.not_false, Bool.false_eq_true]
    rw [range1_e (by rw [List.length_map]; have : (1000 : Int) ≤ sizeLine := by decide
                     omega) (by omega)]
    congr 3
    rw [List.length_map]; omega) (fun k hk => by
    have hk : k + 1 < l.length := by have := List.mem_range.mp hk; omega
    simp only [mirs, reduceIte, if_true, if_false, ite_true, ite_false, Bool.not_true, Bool.not_false, Bool.false_eq_true, nI_add, ixl_k (show (l.map PyData.int)[k]? = some (.int l[k]) by rw [List.getElem?_map, List.getElem?_eq_getElem (by omega)]; rfl), ixl_k (show (l.map PyData.int)[k + 1]? = some (.int l[k + 1]) by rw [List.getElem?_map, List.getElem?_eq_getElem (by omega)]; rfl)]
    rw [decide_eq_true (List.pairwise_iff_getElem.mp h k (k + 1) (by omega) (by omega) (by omega))])]
  simp only [mirs, reduceIte, if_true, if_false, ite_true, ite_false, Bool.not_true, Bool.not_false, Bool.false_eq_true, allR_bools (l := List.range (l.length - 1)) (p := fun _ => true), show ((List.range (l.length - 1)).all fun _ => true) = true from by simp]
theorem q_bare {hs : List (Int × Mob)} (h : GoodN (.r hs)) (hg : ∀ p ∈ hs, GoodN p.2) : m_is_bare_rod [enc (.r hs)] = ok (.bool true) := by
  obtain ⟨h1, h2, h3, h4⟩ := h
  show bd (g_is_bare_rod [.dat (enc (.r hs)), .un, .un, .un]) endM = _
  unfold g_is_bare_rod
  have e1 : decide ((1 : Int) ≤ ((hs.map hkD).length : Int)) = true := decide_eq_true (by rw [List.length_map]; omega)
  have e2 : decide ((((hs.map hkD).length : Int)) ≤ 6) = true := decide_eq_true (by rw [List.length_map]; omega)
  rw [enc_r]
  simp only [mirs, reduceIte, if_true, if_false, ite_true, ite_false, Bool.not_true, Bool.not_false, Bool.false_eq_true, e1, e2]
  rw [lcB (f := hkD) (l := hs) (h := fun _ => .bool true) (itR_tuple (by simp only [mirs, reduceIte, if_true, if_false, ite_true, ite_false, Bool.not_true, Bool.not_false, Bool.false_eq_true])) (fun p hp => by simp only [mirs, reduceIte, if_true, if_false, ite_true, ite_false, Bool.not_true, Bool.not_false, Bool.false_eq_true, q_is_hook (h4 p hp) (hg p hp)])]
  simp only [mirs, reduceIte, if_true, if_false, ite_true, ite_false, Bool.not_true, Bool.not_false, Bool.false_eq_true, allR_bools (l := hs) (p := fun _ => true), show (hs.all fun _ => true) = true from by simp]
  rw [lcB (f := hkD) (l := hs) (h := fun p => .int p.1) (itR_tuple (by simp only [mirs, reduceIte, if_true, if_false, ite_true, ite_false, Bool.not_true, Bool.not_false, Bool.false_eq_true])) (fun p hp => by unfold hkD; simp only [mirs, reduceIte, if_true, if_false, ite_true, ite_false, Bool.not_true, Bool.not_false, Bool.false_eq_true])]
  simp only [mirs, reduceIte, if_true, if_false, ite_true, ite_false, Bool.not_true, Bool.not_false, Bool.false_eq_true]
  have := q_ascending h3 (by rw [List.length_map]; omega)
  rw [List.map_map] at this
  rw [show (hs.map fun p => PyData.int p.1) = hs.map (PyData.int ∘ fun x => x.1) from rfl, this]
def wM : List Sl → R Out := (seqM (augM 2 (m1 (consR (frz (lcM [5] (itR (nDR 1)) (gSet 5) (m1 (m1 (consR (nDR 5) nilR) (callR 1 m_is_weight)) truR) (kR (.int 1)))) nilR) lenR) addIR)
 (seqM (setM 4 (frz (lcM [5] (itR (nDR 1)) (gSet 5) (notT (m1 (m1 (consR (nDR 5) nilR) (callR 1 m_is_weight)) truR)) (nDR 5))))
 (seqM (ifV (notT (m1 (m1 (consR (frz (lcM [6] (itR (nDR 4)) (gSet 6) yesT (m1 (consR (nDR 6) nilR) (callR 1 m_is_bare_rod)))) nilR) allR) truR)) (retM (kR (.bool false))) nilM)
 (seqM (setM 1 (frz (lc2M [6, 3, 5] [3, 5] (itR (nDR 4)) (gSet 6) yesT (itR (nDR 6)) (gTupR 2 (gConsR (gSet 3) (gConsR (gSet 5) gNilR))) yesT (nDR 5))))
 (ifV (m1 (m2 (m2 (nDR 2) (m1 (consR (nDR 1) nilR) lenR) addR) (kR (.int 60)) gtR) asB) (retM (kR (.bool false))) nilM)))))
def kids (L : List Mob) : List Mob := L.flatMap fun m => (hooks m).map (·.2)
theorem sum_kids : ∀ L : List Mob, L.length + ((kids L).map sz).sum = (L.map sz).sum
  | [] => rfl
  | m :: L => by
    have ih := sum_kids L
    unfold kids at *
    rw [List.flatMap_cons, List.map_append, List.sum_append, List.map_cons, List.sum_cons, List.length_cons]
    have : 1 + (((hooks m).map (·.2)).map sz).sum = sz m := by
      cases m with
      | w i => rw [sz_w]; rfl
      | r hs => rw [sz_r, List.map_map]; rfl
    omega
theorem kids_rods (L : List Mob) : kids (L.filter rodB) = kids L := by
  induction L with
  | nil => rfl
  | cons m L ih =>
    unfold kids at *
    cases m with
    | w i => rw [List.filter_cons_of_neg (by simp [rodB]), List.flatMap_cons, ih]; rfl
    | r hs => rw [List.filter_cons_of_pos (by simp [rodB]), List.flatMap_cons, List.flatMap_cons, ih]
theorem r_wM {x0 s3 s4 : Sl} {L : List Mob} {n : Nat} (hg : ∀ m ∈ L, Good m) (hb : n + (L.map sz).sum ≤ 60) : ∃ s4' n', wM [x0, .dat (.list (L.map enc)), .dat (.int n), s3, s4, .un, .un] = ok (.nx [x0, .dat (.list ((kids L).map enc)), .dat (.int ((n' : Nat) : Int)), s3, s4', .un, .un]) ∧ n' + ((kids L).map sz).sum ≤ 60 := by
  have hk := sum_kids L
  have hgn : ∀ m ∈ L, GoodN m := fun m hm => hg m hm [] m rfl
  have hfl : (L.filter fun m => !rodB m).length ≤ L.length := List.length_filter_le _ _
  have hkl : (kids L).length ≤ ((kids L).map sz).sum := len_sum sz fun x _ => sz_pos _
  refine ⟨.dat (.list ((L.filter rodB).map enc)), n + (L.filter fun m => !rodB m).length, ?_, by omega⟩
  unfold wM
  rw [seqM_e, augM_i (a := (n : Int)) (b := ((L.filter fun m => !rodB m).length : Int)) rfl (by
    simp only [mirs, reduceIte, if_true, if_false, ite_true, ite_false, Bool.not_true, Bool.not_false, Bool.false_eq_true]
    rw [lcT (f := enc) (l := L) (p := fun m => !rodB m) (h := fun _ => .int 1) (σ := fun m => [x0, .dat (.list (L.map enc)), .dat (.int n), s3, s4, .dat (enc m), .un]) (itR_list (by simp only [mirs, reduceIte, if_true, if_false, ite_true, ite_false, Bool.not_true, Bool.not_false, Bool.false_eq_true])) (fun m _ => by simp only [mirs, reduceIte, if_true, if_false, ite_true, ite_false, Bool.not_true, Bool.not_false, Bool.false_eq_true]) (fun m hm => by simp only [mirs, reduceIte, if_true, if_false, ite_true, ite_false, Bool.not_true, Bool.not_false, Bool.false_eq_true, q_is_weight, wOk_good (hgn m hm)]) (fun m _ _ => by simp only [mirs, reduceIte, if_true, if_false, ite_true, ite_false, Bool.not_true, Bool.not_false, Bool.false_eq_true])]
    simp only [mirs, reduceIte, if_true, if_false, ite_true, ite_false, Bool.not_true, Bool.not_false, Bool.false_eq_true, List.length_map])]
  simp only [mirs, reduceIte, if_true, if_false, ite_true, ite_false, Bool.not_true, Bool.not_false, Bool.false_eq_true]
  rw [lcT (f := enc) (l := L) (p := rodB) (h := enc) (σ := fun m => [x0, .dat (.list (L.map enc)), .dat (.int ((n : Int) + ((L.filter fun m => !rodB m).length : Int))), s3, s4, .dat (enc m), .un]) (itR_list (by simp only [mirs, reduceIte, if_true, if_false, ite_true, ite_false, Bool.not_true, Bool.not_false, Bool.false_eq_true])) (fun m _ => by simp only [mirs, reduceIte, if_true, if_false, ite_true, ite_false, Bool.not_true, Bool.not_false, Bool.false_eq_true]) (fun m hm => by simp only [mirs, reduceIte, if_true, if_false, ite_true, ite_false, Bool.not_true, Bool.not_false, Bool.false_eq_true, q_is_weight, wOk_good (hgn m hm), Bool.not_not]) (fun m _ _ => by simp only [mirs, reduceIte, if_true, if_false, ite_true, ite_false, Bool.not_true, Bool.not_false, Bool.false_eq_true])]
  simp only [mirs, reduceIte, if_true, if_false, ite_true, ite_false, Bool.not_true, Bool.not_false, Bool.false_eq_true]
  rw [lcB (f := enc) (l := L.filter rodB) (h := fun _ => .bool true) (itR_list (by simp only [mirs, reduceIte, if_true, if_false, ite_true, ite_false, Bool.not_true, Bool.not_false, Bool.false_eq_true])) (fun m hm => by
    obtain ⟨h1, h2⟩ := List.mem_filter.mp hm
    cases m with
    | w i => exact absurd h2 (by simp [rodB])
    | r hs => simp only [mirs, reduceIte, if_true, if_false, ite_true, ite_false, Bool.not_true, Bool.not_false, Bool.false_eq_true, q_bare (hgn _ h1) fun p hp => (good_r.mp (hg _ h1)).2 p hp [] _ rfl])]
  simp only [mirs, reduceIte, if_true, if_false, ite_true, ite_false, Bool.not_true, Bool.not_false, Bool.false_eq_true, allR_bools (l := L.filter rodB) (p := fun _ => true), show ((L.filter rodB).all fun _ => true) = true from by simp]
  rw [lc2B (f := enc) (l := L.filter rodB) (σ := fun m => [noOwn1 x0, .dat (.list (L.map enc)), .dat (.int ((n : Int) + ((L.filter fun m => !rodB m).length : Int))), .un, .dat (.list ((L.filter rodB).map enc)), .un, .dat (enc m)]) (l1 := hooks) (f1 := hkD) (h1 := fun _ p => enc p.2) (itR_list (by simp only [mirs, reduceIte, if_true, if_false, ite_true, ite_false, Bool.not_true, Bool.not_false, Bool.false_eq_true])) (fun m _ => by rw [noOwn_c, noOwn_d, noOwn_d, noOwn_c]; simp only [mirs, reduceIte, if_true, if_false, ite_true, ite_false, Bool.not_true, Bool.not_false, Bool.false_eq_true]) (fun m _ => by rw [ownFree_c]; rfl) (fun m hm => by
    obtain ⟨h1, h2⟩ := List.mem_filter.mp hm
    cases m with
    | w i => exact absurd h2 (by simp [rodB])
    | r hs => rw [itR_tuple (l := hs.map hkD) (by simp only [mirs, reduceIte, if_true, if_false, ite_true, ite_false, Bool.not_true, Bool.not_false, Bool.false_eq_true, enc_r])]; rfl) (fun m _ p _ => by unfold hkD; simp only [mirs, reduceIte, if_true, if_false, ite_true, ite_false, Bool.not_true, Bool.not_false, Bool.false_eq_true]) (by
    have e : ((L.filter rodB).flatMap hooks).length = (kids (L.filter rodB)).length := by
      unfold kids
      rw [List.length_flatMap, List.length_flatMap]
      congr 1
      exact List.map_congr_left fun m _ => (List.length_map _).symm
    rw [e, kids_rods]; omega)]
  have e : ((L.filter rodB).flatMap fun m => (hooks m).map fun p => enc p.2) = (kids L).map enc := by
    rw [← kids_rods, kids, List.map_flatMap]
    congr 1
    funext m
    rw [List.map_map]; rfl
  simp only [mirs, reduceIte, if_true, if_false, ite_true, ite_false, Bool.not_true, Bool.not_false, Bool.false_eq_true, e, List.length_map]
  rw [if_neg (by simp; omega)]
  rfl
theorem is_loop {x0 : Sl} : ∀ (r : List Nat) (L : List Mob) (n : Nat) (s3 s4 : Sl), (∀ m ∈ L, Good m) → n + (L.map sz).sum ≤ 60 → (∀ m ∈ L, dep m < r.length) → ∃ s2 s3' s4', forF (gSet 3) wM (r.map nI) [x0, .dat (.list (L.map enc)), .dat (.int n), s3, s4, .un, .un] = ok (.nx [x0, .dat (.list []), s2, s3', s4', .un, .un])
  | [], L, n, s3, s4, _, _, hd => by
    cases L with
    | nil => exact ⟨_, _, _, rfl⟩
    | cons m L => exact absurd (hd m List.mem_cons_self) (by simp)
  | k :: r, L, n, s3, s4, hg, hb, hd => by
    obtain ⟨s4', n', h1, h2⟩ := r_wM (x0 := x0) (s3 := .dat (nI k)) (s4 := s4) hg hb
    obtain ⟨a, b, c, h3⟩ := is_loop r (kids L) n' (.dat (nI k)) s4' (fun m hm => by
      obtain ⟨y, hy, hm⟩ := List.mem_flatMap.mp hm
      obtain ⟨p, hp, rfl⟩ := List.mem_map.mp hm
      cases y with
      | w i => cases hp
      | r hs => exact (good_r.mp (hg _ hy)).2 p hp) h2 (fun m hm => by
      obtain ⟨y, hy, hm⟩ := List.mem_flatMap.mp hm
      obtain ⟨p, hp, rfl⟩ := List.mem_map.mp hm
      have := hd y hy
      rw [List.length_cons] at this
      cases y with
      | w i => cases hp
      | r hs =>
        cases hr : r.length with
        | zero => rw [hr] at this; exact absurd (show dep (.r hs) ≤ 0 by omega) dep_r0
        | succ j =>
          rw [hr] at this
          have := dep_r.mp (show dep (.r hs) ≤ j + 1 by omega) p hp
          omega)
    refine ⟨a, b, c, ?_⟩
    rw [List.map_cons, forF, gSet_e, bd_ok]
    simp only [mirs, reduceIte, if_true, if_false, ite_true, ite_false, Bool.not_true, Bool.not_false, Bool.false_eq_true]
    rw [h1, bd_ok, lpO_nx, h3]
theorem q_is_mobile {m : Mob} (hg : Good m) (hs : sz m ≤ 60) (hd : dep m ≤ 12) : m_is_mobile [enc m] = ok (.bool true) := by
  show bd (g_is_mobile [.dat (enc m), .un, .un, .un, .un, .un, .un]) endM = _
  unfold g_is_mobile
  have e0 : setsM [1, 2] (consR (rD (frz (m1 (consR (nDR 0) nilR) lstR))) (consR (rD (kR (.int 0))) nilR)) [.dat (enc m), .un, .un, .un, .un, .un, .un] = ok (.nx [.dat (enc m), .dat (.list ([m].map enc)), .dat (.int ((0 : Nat) : Int)), .un, .un, .un, .un]) := by
    unfold setsM rD
    simp only [mirs, reduceIte, if_true, if_false, ite_true, ite_false, Bool.not_true, Bool.not_false, Bool.false_eq_true]
    rfl
  rw [seqM_e, e0, bd_ok, nxt_nx, seqM_e, forM_e]
  have e1 : m1 (consR (m2 (kR (.int 12)) (kR (.int 1)) addR) nilR) range1R [.dat (enc m), .dat (.list ([m].map enc)), .dat (.int ((0 : Nat) : Int)), .un, .un, .un, .un] = ok ((List.range 13).map nI) := by
    simp only [mirs, reduceIte, if_true, if_false, ite_true, ite_false, Bool.not_true, Bool.not_false, Bool.false_eq_true]
    exact range_e 13 (by decide)
  rw [e1, bd_ok]
  obtain ⟨a, b, c, h⟩ := is_loop (x0 := .dat (enc m)) (List.range 13) [m] 0 .un .un (fun x hx => by rw [List.mem_singleton.mp hx]; exact hg) (by simp; omega) (fun x hx => by rw [List.mem_singleton.mp hx]; simp; omega)
  show bd (bd (forF (gSet 3) wM _ _) _) endM = _
  rw [h]
  simp only [mirs, reduceIte, if_true, if_false, ite_true, ite_false, Bool.not_true, Bool.not_false, Bool.false_eq_true, eq_nilL]
  rfl
end K01

namespace K01
open PySem PySem.Spec PyProof.Rows L2 Pu
variable [Tb]
/-! ### one thing is the same as itself (printed from SQ.tmpl) -/
def Sme : Nat → D → Prop
  | _, .none => True
  | _, .bool _ => True
  | _, .int _ => True
  | _, .str _ => True
  | n + 1, .tuple ds => ds.length ≤ 100000 ∧ ∀ x ∈ ds, Sme n x
  | n + 1, .list ds => ds.length ≤ 100000 ∧ ∀ x ∈ ds, Sme n x
  | _, _ => False
theorem eqR_strS (a b : Str) : eqR (.str a) (.str b) = ok (.bool (PyData.eqv (.str a) (.str b))) := by
  rw [eqR, bd_req (Nat.le_trans (Nat.min_le_left _ _) (by simp [PyData.depth]))]
theorem sm_rows {n : Nat} {ds : List D} {d : D} (hr : d = .tuple ds ∨ d = .list ds) (hl : ds.length ≤ 100000) (ih : ∀ x ∈ ds, m_law_same (n + 1) [x, x] = ok (.bool true)) : m_law_same (n + 2) [d, d] = ok (.bool true) := by
  show bd (g_law_same (m_law_same (n + 1)) [.dat d, .dat d, .un]) endM = _
  have hlen : lenR [d] = ok (.int ds.length) := by rcases hr with rfl | rfl <;> rfl
  have hix : ∀ k, (h : k < ds.length) → ixR d (nI k) = ok ds[k] := fun k h => by
    rcases hr with rfl | rfl
    · exact ixR_at (Pu.atI_nat h)
    · exact ixR_atl (Pu.atI_nat h)
  have hz : (100000 : Int) ≤ sizeLine := by decide
  have hc : lcM [2] (m1 (consR (m1 (consR (nDR 0) nilR) lenR) nilR) range1R) (gSet 2) yesT (m1 (consR (m2 (nDR 0) (nDR 2) ixR) (consR (m2 (nDR 1) (nDR 2) ixR) nilR)) (callR 2 (m_law_same (n + 1)))) [.dat d, .dat d, .un] = ok ((List.range ds.length).map fun _ => .bool true) := by
    refine lcB (f := nI) (by
      simp only [mirs, reduceIte, if_true, if_false, ite_true, ite_false, Bool.not_true, Bool.not_false, Bool.false_eq_true, hlen]
      rw [range1_e (by omega) (by omega)]
      simp) fun k hk => ?_
    have hk' : k < ds.length := List.mem_range.mp hk
    simp only [mirs, reduceIte, if_true, if_false, ite_true, ite_false, Bool.not_true, Bool.not_false, Bool.false_eq_true, hix k hk', ih _ (List.getElem_mem hk')]
  have ha : allR [.list ((List.range ds.length).map fun _ => .bool true)] = ok (.bool ((List.range ds.length).all fun _ => true)) := allR_bools (p := fun _ => true)
  rw [show ((List.range ds.length).all fun _ => true) = true from by simp] at ha
  rcases hr with rfl | rfl
  · simp only [g_law_same, seqM_e, ifV_e, orT_e, andT_e, retM_e, andV_e, m1_e, m2_e, consR_e, nilR_e, nDR_s, nDR_0, bd_ok, isiR, Pu.isTup, truR_bool, if_true, lenR_tuple, eqR_int, decide_true, frz_e, hc, ha, nxt_rt, endM_rt]
  · simp only [g_law_same, seqM_e, ifV_e, orT_e, andT_e, retM_e, andV_e, m1_e, m2_e, consR_e, nilR_e, nDR_s, nDR_0, bd_ok, isiR, Pu.isTup, Pu.isLst, truR_bool, if_true, lenR_list, eqR_int, decide_true, frz_e, hc, ha, nxt_rt, endM_rt, Bool.false_eq_true, if_false]
theorem q_same : ∀ (n : Nat) (d : D), Sme n d → m_law_same (n + 1) [d, d] = ok (.bool true) := by
  intro n
  induction n with
  | zero =>
    intro d h
    show bd (g_law_same (m_law_same 0) [.dat d, .dat d, .un]) endM = _
    cases d with
    | none => simp [g_law_same, isiR, Pu.isTup, Pu.isLst, Pu.isBoo, Pu.isInt, Pu.isStr, isR, isV, Pu.isNon]
    | bool b => simp [g_law_same, isiR, Pu.isTup, Pu.isLst, Pu.isBoo, Pu.isInt, Pu.isStr, eqR_bool]
    | int i => simp [g_law_same, isiR, Pu.isTup, Pu.isLst, Pu.isBoo, Pu.isInt, Pu.isStr]
    | str s => simp [g_law_same, isiR, Pu.isTup, Pu.isLst, Pu.isBoo, Pu.isInt, Pu.isStr, eqR_strS, PyData.eqv]
    | list xs => exact h.elim
    | dict xs => exact h.elim
    | tuple ds => exact h.elim
  | succ n ih =>
    intro d h
    cases d with
    | none =>
      show bd (g_law_same (m_law_same (n + 1)) [.dat .none, .dat .none, .un]) endM = _
      simp [g_law_same, isiR, Pu.isTup, Pu.isLst, Pu.isBoo, Pu.isInt, Pu.isStr, isR, isV, Pu.isNon]
    | bool b =>
      show bd (g_law_same (m_law_same (n + 1)) [.dat (.bool b), .dat (.bool b), .un]) endM = _
      simp [g_law_same, isiR, Pu.isTup, Pu.isLst, Pu.isBoo, Pu.isInt, Pu.isStr, eqR_bool]
    | int i =>
      show bd (g_law_same (m_law_same (n + 1)) [.dat (.int i), .dat (.int i), .un]) endM = _
      simp [g_law_same, isiR, Pu.isTup, Pu.isLst, Pu.isBoo, Pu.isInt, Pu.isStr]
    | str s =>
      show bd (g_law_same (m_law_same (n + 1)) [.dat (.str s), .dat (.str s), .un]) endM = _
      simp [g_law_same, isiR, Pu.isTup, Pu.isLst, Pu.isBoo, Pu.isInt, Pu.isStr, eqR_strS, PyData.eqv]
    | list ds => exact sm_rows (.inr rfl) h.1 fun x hx => ih _ (h.2 x hx)
    | dict xs => exact h.elim
    | tuple ds => exact sm_rows (.inl rfl) h.1 fun x hx => ih _ (h.2 x hx)
theorem sm_int (n : Nat) (i : Int) : Sme n (.int i) := by cases n <;> trivial
theorem sm_str (n : Nat) (i : Str) : Sme n (.str i) := by cases n <;> trivial
theorem sm_none (n : Nat) : Sme n .none := by cases n <;> trivial
theorem sm_bool (n : Nat) (b : Bool) : Sme n (.bool b) := by cases n <;> trivial
theorem sm_tup {n : Nat} {l : List D} (h : l.length ≤ 100000) (hx : ∀ x ∈ l, Sme n x) : Sme (n + 1) (.tuple l) := ⟨h, hx⟩
theorem sm_lst {n : Nat} {l : List D} (h : l.length ≤ 100000) (hx : ∀ x ∈ l, Sme n x) : Sme (n + 1) (.list l) := ⟨h, hx⟩
theorem sm_map {n : Nat} {α : Type} {f : α → D} {l : List α} (h : l.length ≤ 100000) (hx : ∀ x ∈ l, Sme n (f x)) : Sme (n + 1) (.tuple (l.map f)) := sm_tup (by simpa using h) fun x hx' => by
  obtain ⟨y, hy, rfl⟩ := List.mem_map.mp hx'
  exact hx y hy
theorem sm_mono {n m : Nat} (hm : n ≤ m) : ∀ {d : D}, Sme n d → Sme m d := by
  induction n generalizing m with
  | zero =>
    intro d h
    cases d with
    | none => exact sm_none _
    | bool b => exact sm_bool _ _
    | int i => exact sm_int _ _
    | str s => exact sm_str _ _
    | _ => exact h.elim
  | succ n ih =>
    intro d h
    obtain ⟨k, rfl⟩ : ∃ k, m = k + 1 := ⟨m - 1, by omega⟩
    cases d with
    | none => exact sm_none _
    | bool b => exact sm_bool _ _
    | int i => exact sm_int _ _
    | str s => exact sm_str _ _
    | dict _ => exact h.elim
    | list ds => exact ⟨h.1, fun x hx => ih (by omega) (h.2 x hx)⟩
    | tuple ds => exact ⟨h.1, fun x hx => ih (by omega) (h.2 x hx)⟩
theorem same_ok {d : D} (h : Sme 19 d) : m_law_same 20 [d, d] = ok (.bool true) := q_same 19 d h
end K01

namespace K01
open PySem PySem.Spec PyProof.Rows L2 Pu Mo
variable [Tb]
/-! ### the law's own words (printed from MobL.tmpl) -/
theorem q_law_total : ∀ (f : Nat) (m : Mob), dep m < f → m_law_total f [enc m] = ok (.int (tot m))
  | 0, m, h => absurd h (Nat.not_lt_zero _)
  | f + 1, m, h => by
    show bd (g_law_total (m_law_total f) [.dat (enc m), .un, .un]) endM = _
    unfold g_law_total
    cases m with
    | w i => simp only [mirs, reduceIte, if_true, if_false, ite_true, ite_false, Bool.not_true, Bool.not_false, Bool.false_eq_true, enc_w]; rw [tot_w]
    | r hs =>
      cases f with
      | zero => exact absurd (show dep (.r hs) ≤ 0 by omega) dep_r0
      | succ f =>
        simp only [mirs, reduceIte, if_true, if_false, ite_true, ite_false, Bool.not_true, Bool.not_false, Bool.false_eq_true, enc_r]
        rw [lcB (f := hkD) (l := hs) (h := fun p => .int (tot p.2)) (itR_tuple (by simp only [mirs, reduceIte, if_true, if_false, ite_true, ite_false, Bool.not_true, Bool.not_false, Bool.false_eq_true])) (fun p hp => by
          unfold hkD
          simp only [mirs, reduceIte, if_true, if_false, ite_true, ite_false, Bool.not_true, Bool.not_false, Bool.false_eq_true, q_law_total (f + 1) p.2 (by have := dep_r.mp (show dep (.r hs) ≤ f + 1 by omega) p hp; omega)])]
        simp only [mirs, reduceIte, if_true, if_false, ite_true, ite_false, Bool.not_true, Bool.not_false, Bool.false_eq_true, sum_f (fun p : Int × Mob => tot p.2) hs]
        rw [tot_r]
theorem q_law_moment {hs : List (Int × Mob)} (hd : dep (.r hs) < 12) (hp : ∀ p ∈ hs, p.1.natAbs ≤ 1000000000) : m_law_moment [enc (.r hs)] = ok (.int (mom hs)) := by
  show bd (g_law_moment [.dat (enc (.r hs)), .un, .un]) endM = _
  unfold g_law_moment
  simp only [mirs, reduceIte, if_true, if_false, ite_true, ite_false, Bool.not_true, Bool.not_false, Bool.false_eq_true]
  rw [lcB (f := hkD) (l := hs) (h := fun p => .int (p.1 * tot p.2)) (itR_tuple (by simp only [mirs, reduceIte, if_true, if_false, ite_true, ite_false, Bool.not_true, Bool.not_false, Bool.false_eq_true, enc_r])) (fun p hpm => by
    unfold hkD
    simp only [mirs, reduceIte, if_true, if_false, ite_true, ite_false, Bool.not_true, Bool.not_false, Bool.false_eq_true, q_law_total 12 p.2 (by have := dep_r.mp (show dep (.r hs) ≤ 10 + 1 by omega) p hpm; omega), mulL9 (hp p hpm)])]
  simp only [mirs, reduceIte, if_true, if_false, ite_true, ite_false, Bool.not_true, Bool.not_false, Bool.false_eq_true, sum_f (fun p : Int × Mob => p.1 * tot p.2) hs]
  rfl
/-! _law_parts: a queue -/
def qb : Nat → List Mo.Row → List Mo.Row
  | 0, _ => []
  | _ + 1, [] => []
  | n + 1, x :: r => x :: qb n (r ++ ch x)
theorem qb_perm : ∀ (n : Nat) (L : List Mo.Row), (L.map fun y => sz y.2).sum ≤ n → (qb n L).Perm (L.flatMap pre)
  | 0, [], _ => .refl _
  | 0, x :: L, h => by have := sz_pos x.2; rw [List.map_cons, List.sum_cons] at h; omega
  | n + 1, [], _ => .refl _
  | n + 1, x :: L, h => by
    rw [List.map_cons, List.sum_cons, ← ch_sz x] at h
    rw [qb, List.flatMap_cons, pre_eq x, List.cons_append]
    refine List.Perm.cons x ((qb_perm n (L ++ ch x) (by rw [List.map_append, List.sum_append]; omega)).trans ?_)
    rw [List.flatMap_append]
    exact List.perm_append_comm
def wQ : List Sl → R Out := (seqM (asgM (m2 (nDR 1) (nDR 2) ixR) (gTupR 2 (gConsR (gSet 3) (gConsR (gSet 4) gNilR))))
 (seqM (ifV (m1 (m1 (nDR 4) (isiR isTup)) truR) (setM 1 (m2 (nDR 1) (frz (lcM [5] (m1 (consR (m1 (consR (nDR 4) nilR) lenR) nilR) range1R) (gSet 5) yesT (m1 (consR (m2 (nDR 3) (m1 (consR (nDR 5) nilR) tupR) addR) (consR (m2 (m2 (nDR 4) (nDR 5) ixR) (kR (.int 1)) ixR) nilR)) tupR))) addR)) nilM)
 (setM 2 (m2 (nDR 2) (kR (.int 1)) addR))))
theorem r_wQ {x0 s3 s4 : Sl} {done L : List Mo.Row} {x : Mo.Row} (hl : done.length + (x :: L).length + (hooks x.2).length ≤ 100000) (hp : x.1.length ≤ 1000) (hk : (hooks x.2).length ≤ 1000) :
    wQ [x0, .dat (.list ((done ++ x :: L).map rowD)), .dat (nI done.length), s3, s4, .un] = ok (.nx [x0, .dat (.list (((done ++ [x]) ++ (L ++ ch x)).map rowD)), .dat (nI (done ++ [x]).length), .dat (pD x.1), .dat (enc x.2), .un]) := by
  unfold wQ
  rw [seqM_e, asgM_e, m2_e]
  simp only [mirs, reduceIte, if_true, if_false, ite_true, ite_false, Bool.not_true, Bool.not_false, Bool.false_eq_true, ixl_k (show ((done ++ x :: L).map rowD)[done.length]? = some (rowD x) by rw [List.getElem?_map, List.getElem?_append_right (Nat.le_refl _), Nat.sub_self]; rfl)]
  rw [show rowD x = .tuple [pD x.1, enc x.2] from rfl]
  simp only [mirs, reduceIte, if_true, if_false, ite_true, ite_false, Bool.not_true, Bool.not_false, Bool.false_eq_true]
  obtain ⟨p, m⟩ := x
  have hn : addR (nI done.length) (.int 1) = ok (nI (done ++ [(p, m)]).length) := by
    rw [nI_int, List.length_append]; rfl
  cases m with
  | w i =>
    simp only [mirs, reduceIte, if_true, if_false, ite_true, ite_false, Bool.not_true, Bool.not_false, Bool.false_eq_true, enc_w, nI_add]
    rw [ch_w, List.append_nil, List.length_append, List.append_assoc]; rfl
  | r hs =>
    have hz : (1000 : Int) ≤ sizeLine := by decide
    have hk : hs.length ≤ 1000 := hk
    simp only [mirs, reduceIte, if_true, if_false, ite_true, ite_false, Bool.not_true, Bool.not_false, Bool.false_eq_true, enc_r]
    rw [lcB (f := nI) (l := List.range hs.length) (h := fun k => rowD (p ++ [k], (hs.getD k (0, .w 0)).2)) (by
      simp only [mirs, reduceIte, if_true, if_false, ite_true, ite_false, Bool.not_true, Bool.not_false, Bool.false_eq_true]
      rw [List.length_map, range1_e (by omega) (by omega)]
      simp) (fun k hkr => by
      have hkr := List.mem_range.mp hkr
      have e : (hs.map hkD)[k]? = some (hkD (hs.getD k (0, .w 0))) := by
        rw [List.getElem?_map, List.getD_eq_getElem?_getD, List.getElem?_eq_getElem hkr]; rfl
      have hp : p.length ≤ 1000 := hp
      simp only [mirs, reduceIte, if_true, if_false, ite_true, ite_false, Bool.not_true, Bool.not_false, Bool.false_eq_true, appD p k (by omega), ixt_k e]
      rw [show hkD (hs.getD k (0, .w 0)) = .tuple [.int (hs.getD k (0, .w 0)).1, enc (hs.getD k (0, .w 0)).2] from rfl]
      simp only [mirs, reduceIte, if_true, if_false, ite_true, ite_false, Bool.not_true, Bool.not_false, Bool.false_eq_true]
      rfl)]
    have ec : ((List.range hs.length).map fun k => rowD (p ++ [k], (hs.getD k (0, .w 0)).2)) = (ch (p, .r hs)).map rowD := by
      rw [ch_r, List.map_map]
      refine List.ext_getElem? fun k => ?_
      by_cases h : k < hs.length
      · rw [List.getElem?_map, List.getElem?_map, List.getElem?_range h, zget (List.getElem?_eq_getElem h)]
        show some (rowD (p ++ [k], (hs.getD k (0, .w 0)).2)) = some _
        rw [List.getD_eq_getElem?_getD, List.getElem?_eq_getElem h]; rfl
      · rw [List.getElem?_eq_none (by simp; omega), List.getElem?_eq_none (by simp; omega)]
    simp only [mirs, reduceIte, if_true, if_false, ite_true, ite_false, Bool.not_true, Bool.not_false, Bool.false_eq_true, ec, addL_n (x := (done ++ (p, Mob.r hs) :: L).map rowD) (y := (ch (p, .r hs)).map rowD) (by rw [ch_r]; simp at hl ⊢; simp [hooks] at hl; omega), hn]
    rw [← List.map_append, List.append_assoc (as := done), List.append_assoc (as := done)]; rfl
theorem parts_loop {x0 : Sl} : ∀ (n : Nat) (done L : List Mo.Row) (s3 s4 : Sl), (L.map fun y => sz y.2).sum ≤ n → done.length + (L.map fun y => sz y.2).sum ≤ 900 → (∀ x ∈ L, x.1.length + sz x.2 ≤ 1000) →
    ∃ a b c, whileM (m1 (m2 (nDR 2) (m1 (consR (nDR 1) nilR) lenR) ltR) asB) wQ [x0, .dat (.list ((done ++ L).map rowD)), .dat (nI done.length), s3, s4, .un] = ok (.nx [x0, .dat (.list ((done ++ qb n L).map rowD)), a, b, c, .un])
  | n, done, [], s3, s4, _, _, _ => by
    refine ⟨.dat (nI done.length), s3, s4, ?_⟩
    · rw [whileM_stop (by simp only [mirs, reduceIte, if_true, if_false, ite_true, ite_false, Bool.not_true, Bool.not_false, Bool.false_eq_true, lt_nn, List.length_map, List.append_nil, Nat.lt_irrefl, decide_false])]
      cases n <;> rfl
  | 0, done, x :: L, s3, s4, h, _, _ => by have := sz_pos x.2; rw [List.map_cons, List.sum_cons] at h; omega
  | n + 1, done, x :: L, s3, s4, h, hd, hp => by
    have hp1 := hp x List.mem_cons_self
    have hL : L.length ≤ (L.map fun y => sz y.2).sum := len_sum (fun y : Mo.Row => sz y.2) fun y _ => sz_pos _
    have hkx : (hooks x.2).length ≤ sz x.2 := by
      cases hm : x.2 with
      | w i => simp [hooks]
      | r hs => exact Nat.le_of_lt (hooks_le hs)
    rw [List.map_cons, List.sum_cons] at h hd
    have hcs := ch_sz x
    obtain ⟨a, b, c, ih⟩ := parts_loop n (done ++ [x]) (L ++ ch x) (.dat (pD x.1)) (.dat (enc x.2)) (by rw [List.map_append, List.sum_append]; omega) (by rw [List.map_append, List.sum_append, List.length_append, List.length_singleton]; omega) (fun y hy => by
      rcases List.mem_append.mp hy with hy | hy
      · exact hp y (List.mem_cons_of_mem _ hy)
      · have h3 : sz y.2 ≤ ((ch x).map fun y => sz y.2).sum := mem_sum (fun y : Mo.Row => sz y.2) hy
        obtain ⟨k, g, _, e1, _⟩ := ch_mem.mp (show (y.1, y.2) ∈ ch (x.1, x.2) from hy)
        rw [e1, List.length_append, List.length_singleton]
        omega)
    have hlt : decide (done.length < ((done ++ x :: L).map rowD).length) = true := decide_eq_true (by rw [List.length_map, List.length_append, List.length_cons]; omega)
    refine ⟨a, b, c, ?_⟩
    rw [whileM_step (by simp only [mirs, reduceIte, if_true, if_false, ite_true, ite_false, Bool.not_true, Bool.not_false, Bool.false_eq_true, lt_nn, hlt]) (r_wQ (by rw [List.length_cons]; omega) (by omega) (by omega)), ih, List.append_assoc]
    rfl
theorem q_law_parts {m : Mob} (hz : sz m ≤ 900) : m_law_parts [enc m] = ok (.list ((pre ([], m)).map rowD)) := by
  show bd (g_law_parts [.dat (enc m), .un, .un, .un, .un, .un]) endM = _
  unfold g_law_parts
  obtain ⟨a, b, c, h⟩ := parts_loop (x0 := .dat (enc m)) (sz m) [] [([], m)] .un .un (by simp) (by simp; omega) (fun x hx => by rw [List.mem_singleton.mp hx]; simp; omega)
  have e0 : setsM [1, 2] (consR (rD (frz (m1 (consR (m1 (consR (m1 nilR tupR) (consR (nDR 0) nilR)) tupR) nilR) lstR))) (consR (rD (kR (.int 0))) nilR)) [.dat (enc m), .un, .un, .un, .un, .un] = ok (.nx [.dat (enc m), .dat (.list (([] ++ [(([] : List Nat), m)]).map rowD)), .dat (nI ([] : List Mo.Row).length), .un, .un, .un]) := by
    simp only [mirs, reduceIte, if_true, if_false, ite_true, ite_false, Bool.not_true, Bool.not_false, Bool.false_eq_true]
    rfl
  rw [seqM_e, e0, bd_ok, nxt_nx, seqM_e]
  show bd (bd (whileM _ wQ _) _) endM = _
  rw [h]
  have hp := qb_perm (sz m) [([], m)] (by simp)
  have e1 : ∃ r, qb (sz m) [([], m)] = ([], m) :: r := by
    have := sz_pos m
    obtain ⟨k, e⟩ : ∃ k, sz m = k + 1 := ⟨sz m - 1, by omega⟩
    rw [e]; exact ⟨_, rfl⟩
  obtain ⟨r, e1⟩ := e1
  rw [e1] at hp
  have hp2 : (([], m) :: r).Perm (pre ([], m)) := hp.trans (by simp)
  have hl : (([], m) :: r).length ≤ 1000000 := by
    rw [hp2.length_eq, len_pre]
    show sz m ≤ _
    omega
  simp only [mirs, reduceIte, if_true, if_false, ite_true, ite_false, Bool.not_true, Bool.not_false, Bool.false_eq_true, List.nil_append, e1, sortK_rows hp2 hl]
end K01

namespace K01
open PySem PySem.Spec PyProof.Rows L2 Pu Mo
variable [Tb]
theorem q_law_turned : ∀ (f : Nat) (m : Mob), dep m < f → m_law_turned f [enc m] = ok (enc (tn m))
  | 0, m, h => absurd h (Nat.not_lt_zero _)
  | f + 1, m, h => by
    show bd (g_law_turned (m_law_turned f) [.dat (enc m), .un, .un]) endM = _
    unfold g_law_turned
    cases m with
    | w i => simp only [mirs, reduceIte, if_true, if_false, ite_true, ite_false, Bool.not_true, Bool.not_false, Bool.false_eq_true, enc_w, tn_w]
    | r hs =>
      cases f with
      | zero => exact absurd (show dep (.r hs) ≤ 0 by omega) dep_r0
      | succ f =>
        simp only [mirs, reduceIte, if_true, if_false, ite_true, ite_false, Bool.not_true, Bool.not_false, Bool.false_eq_true, enc_r]
        rw [lcB (f := hkD) (l := hs.reverse) (h := fun p => hkD (-p.1, tn p.2)) (itR_tuple (by simp only [mirs, reduceIte, if_true, if_false, ite_true, ite_false, Bool.not_true, Bool.not_false, Bool.false_eq_true]; rw [← List.map_reverse])) (fun p hp => by
          unfold hkD
          simp only [mirs, reduceIte, if_true, if_false, ite_true, ite_false, Bool.not_true, Bool.not_false, Bool.false_eq_true, q_law_turned (f + 1) p.2 (by have := dep_r.mp (show dep (.r hs) ≤ f + 1 by omega) p (List.mem_reverse.mp hp); omega)])]
        simp only [mirs, reduceIte, if_true, if_false, ite_true, ite_false, Bool.not_true, Bool.not_false, Bool.false_eq_true]
        rw [tn_r, enc_r, rev1, List.map_map, ← List.map_reverse, List.map_map]
        rfl
theorem q_law_put : ∀ (f : Nat) (q : List Nat) (m t t' : Mob), q.length < f → at_ q m = some t' → sz m ≤ 900 → m_law_put f [enc m, pD q, enc t] = ok (enc (put q m t))
  | 0, q, m, t, t', h, _, _ => absurd h (Nat.not_lt_zero _)
  | f + 1, [], m, t, t', h, e, _ => by
    show bd (g_law_put (m_law_put f) [.dat (enc m), .dat (pD []), .dat (enc t), .un]) endM = _
    unfold g_law_put
    simp only [mirs, reduceIte, if_true, if_false, ite_true, ite_false, Bool.not_true, Bool.not_false, Bool.false_eq_true, show eqR (pD []) (.tuple []) = ok (.bool true) from eq_nilT []]
    rfl
  | f + 1, k :: q, .w i, t, t', h, e, _ => by cases e
  | f + 1, k :: q, .r hs, t, t', h, e, hz => by
    show bd (g_law_put (m_law_put f) [.dat (enc (.r hs)), .dat (pD (k :: q)), .dat (enc t), .un]) endM = _
    unfold g_law_put
    cases hk : hs[k]? with
    | none => rw [at_none hk] at e; cases e
    | some x =>
      rw [at_some hk] at e
      have hl := hooks_le hs
      have hz1 : (1000 : Int) ≤ sizeLine := by decide
      have hsx : sz x.2 ≤ (hs.map fun p => sz p.2).sum := mem_sum (fun p : Int × Mob => sz p.2) (List.mem_of_getElem? hk)
      have hz2 := hz
      rw [sz_r] at hz2
      have ih := q_law_put f q x.2 t t' (by simpa using h) e (by omega)
      have hkl : k < hs.length := (List.getElem?_eq_some_iff.mp hk).1
      simp only [mirs, reduceIte, if_true, if_false, ite_true, ite_false, Bool.not_true, Bool.not_false, Bool.false_eq_true, show eqR (pD (k :: q)) (.tuple []) = ok (.bool false) from eq_nilT _, enc_r]
      rw [lcB (f := nI) (l := List.range hs.length) (h := fun j => hkD ((hs.set k (x.1, put q x.2 t)).getD j (0, .w 0))) (by
        simp only [mirs, reduceIte, if_true, if_false, ite_true, ite_false, Bool.not_true, Bool.not_false, Bool.false_eq_true]
        rw [List.length_map, range1_e (by omega) (by omega)]
        simp) (fun j hj => by
        have hj := List.mem_range.mp hj
        have ej : (hs.map hkD)[j]? = some (hkD hs[j]) := by rw [List.getElem?_map, List.getElem?_eq_getElem hj]; rfl
        simp only [mirs, reduceIte, if_true, if_false, ite_true, ite_false, Bool.not_true, Bool.not_false, Bool.false_eq_true, ixt_k ej, show ixR (pD (k :: q)) (.int 0) = ok (nI k) from ixt0 _ _, eq_nn, show slR (pD (k :: q)) (some 1) none = ok (pD q) from by rw [show slR (pD (k :: q)) (some 1) none = ok (.tuple (cutG ((k :: q).map nI) (some 1) none)) from rfl, cut_1]; rfl]
        rw [show hkD hs[j] = .tuple [.int hs[j].1, enc hs[j].2] from rfl]
        simp only [mirs, reduceIte, if_true, if_false, ite_true, ite_false, Bool.not_true, Bool.not_false, Bool.false_eq_true]
        rw [List.getD_eq_getElem?_getD, List.getElem?_set]
        by_cases hjk : j = k
        · subst hjk
          have ex : hs[j] = x := Option.some.inj ((List.getElem?_eq_getElem hj).symm.trans hk)
          rw [if_pos (decide_eq_true rfl), if_pos rfl, if_pos hj, ex, ih]
          rfl
        · rw [if_neg (by simpa using hjk), if_neg (Ne.symm hjk), List.getElem?_eq_getElem hj]
          rfl)]
      simp only [mirs, reduceIte, if_true, if_false, ite_true, ite_false, Bool.not_true, Bool.not_false, Bool.false_eq_true]
      rw [put_some hk, enc_r]
      congr 2
      refine List.ext_getElem? fun j => ?_
      by_cases hj : j < hs.length
      · rw [List.getElem?_map, List.getElem?_range hj, List.getElem?_map, List.getElem?_eq_getElem (by simpa using hj)]
        show some (hkD _) = some _
        rw [List.getD_eq_getElem?_getD, List.getElem?_eq_getElem (by simpa using hj)]
        rfl
      · rw [List.getElem?_eq_none (by simp; omega), List.getElem?_eq_none (by simp; omega)]
end K01

namespace K01
open PySem PySem.Spec PyProof.Rows L2 Pu Mo
variable [Tb]
/-! ### drawn mobiles (printed from MobD.tmpl) -/
def Szs : Nat → Nat
  | 0 => 1
  | n + 1 => 1 + 3 * Szs n
structure Drawn (n : Nat) (m : Mob) : Prop where
  dep : dep m ≤ n
  sz : sz m ≤ Szs n
  good : Good m
theorem q_law_mobile : ∀ (n f : Nat) (post : D → Prop), n < f → (∀ m, Drawn n m → post (enc m)) → m_law_mobile f [.int (n : Int)] post
  | n, 0, post, h, _ => absurd h (Nat.not_lt_zero _)
  | n, f + 1, post, h, hp => by
    show bd (g_law_mobile (m_law_mobile f) [.box 2, .dat (.int n), .un, .un, .un]) endM post
    unfold g_law_mobile
    simp only [mirs, reduceIte, if_true, if_false, ite_true, ite_false, Bool.not_true, Bool.not_false, Bool.false_eq_true]
    have hw : ∀ (N : Int) (k : Out → R D), 0 < N → N ≤ 9 → (∀ d, k (.rt d) = ok d) → bd (bd (callX 0 2 1 (consR (kR (.int N)) nilR) m_law_draw [.box 2, .dat (.int (n : Int)), .un, .un, .un]) fun a => bd (addR (.int 1) a) fun d => ok (Out.rt d)) k post := fun N k h0 h9 hk => by
      simp only [mirs, reduceIte, if_true, if_false, ite_true, ite_false, Bool.not_true, Bool.not_false, Bool.false_eq_true]
      refine drwZ (getX_0 _ _) (by first | (simp only [mirs, reduceIte, if_true, if_false, ite_true, ite_false, Bool.not_true, Bool.not_false, Bool.false_eq_true]; rfl) | simp only [mirs, reduceIte, if_true, if_false, ite_true, ite_false, Bool.not_true, Bool.not_false, Bool.false_eq_true]) h0 (by omega) fun d d1 d2 => ?_
      simp only [mirs, reduceIte, if_true, if_false, ite_true, ite_false, Bool.not_true, Bool.not_false, Bool.false_eq_true, hk]
      have := hp (.w (1 + d)) ⟨by rw [dep_w]; omega, by rw [sz_w]; cases n <;> simp [Szs] <;> omega, good_w.mpr (by omega)⟩
      rw [enc_w] at this
      exact this
    cases n with
    | zero =>
      rw [if_pos (by simp)]
      simp only [mirs, reduceIte, if_true, if_false, ite_true, ite_false, Bool.not_true, Bool.not_false, Bool.false_eq_true]
      have := hw 9 endM (by decide) (by decide) fun d => rfl
      rwa [bd_bd] at this
    | succ n =>
      rw [if_neg (by simp; omega)]
      simp only [mirs, reduceIte, if_true, if_false, ite_true, ite_false, Bool.not_true, Bool.not_false, Bool.false_eq_true]
      refine drwZ (getX_0 _ _) (by first | (simp only [mirs, reduceIte, if_true, if_false, ite_true, ite_false, Bool.not_true, Bool.not_false, Bool.false_eq_true]; rfl) | simp only [mirs, reduceIte, if_true, if_false, ite_true, ite_false, Bool.not_true, Bool.not_false, Bool.false_eq_true]) (by decide) (by decide) fun z z1 z2 => ?_
      simp only [mirs, reduceIte, if_true, if_false, ite_true, ite_false, Bool.not_true, Bool.not_false, Bool.false_eq_true]
      by_cases hz : z = 0
      · rw [if_pos (by simp [hz])]
        simp only [mirs, reduceIte, if_true, if_false, ite_true, ite_false, Bool.not_true, Bool.not_false, Bool.false_eq_true]
        have := hw 9 endM (by decide) (by decide) fun d => rfl
        rwa [bd_bd] at this
      · rw [if_neg (by simp [hz])]
        simp only [mirs, reduceIte, if_true, if_false, ite_true, ite_false, Bool.not_true, Bool.not_false, Bool.false_eq_true]
        refine bdc (lcD (f := nI) (g := fun p : Nat × Int => .int p.2) (P := fun l => 1 ≤ l.length ∧ l.length ≤ 3) (Q := fun p => -5 ≤ p.2 ∧ p.2 ≤ 5) (fun p hq => ?_) (fun a p hq => ?_) fun hs h1 h2 => ?_)
        · simp only [mirs, reduceIte, if_true, if_false, ite_true, ite_false, Bool.not_true, Bool.not_false, Bool.false_eq_true]
          refine drwZ (getX_0 _ _) (by first | (simp only [mirs, reduceIte, if_true, if_false, ite_true, ite_false, Bool.not_true, Bool.not_false, Bool.false_eq_true]; rfl) | simp only [mirs, reduceIte, if_true, if_false, ite_true, ite_false, Bool.not_true, Bool.not_false, Bool.false_eq_true]) (by decide) (by decide) fun d d1 d2 => ?_
          simp only [mirs, reduceIte, if_true, if_false, ite_true, ite_false, Bool.not_true, Bool.not_false, Bool.false_eq_true]
          exact rg1 (by omega) (by omega) (hq _ (by simp; omega))
        · simp only [mirs, reduceIte, if_true, if_false, ite_true, ite_false, Bool.not_true, Bool.not_false, Bool.false_eq_true]
          refine drwZ (getX_0 _ _) (by first | (simp only [mirs, reduceIte, if_true, if_false, ite_true, ite_false, Bool.not_true, Bool.not_false, Bool.false_eq_true]; rfl) | simp only [mirs, reduceIte, if_true, if_false, ite_true, ite_false, Bool.not_true, Bool.not_false, Bool.false_eq_true]) (by decide) (by decide) fun d d1 d2 => ?_
          simp only [mirs, reduceIte, if_true, if_false, ite_true, ite_false, Bool.not_true, Bool.not_false, Bool.false_eq_true]
          exact hq (d - 5) (by omega)
        · rw [List.length_map] at h1
          rw [show hs.map (fun p : Nat × Int => PyData.int p.2) = (hs.map (·.2)).map PyData.int from by rw [List.map_map]; rfl]
          refine bdc (srt_demZ (by rw [List.length_map]; omega) fun out o1 o2 => ?_)
          have ob : ∀ k ∈ out, -5 ≤ k ∧ k ≤ 5 := fun k hk => by
            obtain ⟨p, hp, rfl⟩ := List.mem_map.mp ((o2 k).mp hk)
            exact h2 p hp
          have ol : out.length ≤ 3 := by
            have := pw_len o1 fun k hk => (o2 k).mp hk
            rw [List.length_map] at this
            omega
          have ol1 : 1 ≤ out.length := by
            cases hs with
            | nil => simp at h1
            | cons p hs => exact List.length_pos_of_mem ((o2 p.2).mpr (by simp))
          refine bdc (lcDr (l := out) (f := PyData.int) (g := fun p : Int × Mob => hkD p) (Q := fun p => Drawn n p.2) (itR_list (by simp only [mirs, reduceIte, if_true, if_false, ite_true, ite_false, Bool.not_true, Bool.not_false, Bool.false_eq_true])) (fun a ha p hq => ?_) fun hs2 hl2 hq2 => ?_)
          · simp only [mirs, reduceIte, if_true, if_false, ite_true, ite_false, Bool.not_true, Bool.not_false, Bool.false_eq_true]
            rw [callX_e (j := 2) (n := 1) (ds := [.int (n : Int)]) (by simp only [mirs, reduceIte, if_true, if_false, ite_true, ite_false, Bool.not_true, Bool.not_false, Bool.false_eq_true]; congr 3; omega) (getX_0 _ _) rfl]
            refine bdc (q_law_mobile n f _ (by omega) fun m hm => ?_)
            try simp only [mirs, reduceIte, if_true, if_false, ite_true, ite_false, Bool.not_true, Bool.not_false, Bool.false_eq_true]
            exact hq m hm
          · have hl3 : hs2.length = out.length := by rw [← hl2, List.length_map]
            have := hp (.r hs2) ⟨dep_r.mpr fun p h => (hq2 p h).dep, by
              rw [sz_r]
              have : (hs2.map fun p => sz p.2).sum ≤ hs2.length * Szs n := by
                clear hl2 hl3
                induction hs2 with
                | nil => simp
                | cons p hs2 ih =>
                  rw [List.map_cons, List.sum_cons, List.length_cons, Nat.succ_mul]
                  have h1 := ih fun p h => hq2 p (List.mem_cons_of_mem _ h)
                  have h2 := (hq2 p List.mem_cons_self).sz
                  omega
              have h4 : hs2.length * Szs n ≤ 3 * Szs n := Nat.mul_le_mul_right _ (by omega)
              show _ ≤ 1 + 3 * Szs n
              omega, good_r.mpr ⟨⟨by omega, by omega, by rw [hl2]; exact o1, fun p h => by
                have := ob p.1 (by rw [← hl2]; exact List.mem_map_of_mem h)
                omega⟩, fun p h => (hq2 p h).good⟩⟩
            rw [enc_r] at this
            exact this
/-- two parts whose arms make them level -/
def two (i j : Int) (a b : Mob) : Mob := .r [(i, a), (j, b)]
theorem drawn_tot {n : Nat} {m : Mob} (hn : n ≤ 3) (h : Drawn n m) : 1 ≤ tot m ∧ tot m ≤ 40000 := by
  have h1 := good_tot m h.good
  have h2 := h.sz
  have h3 : Szs n ≤ 40 := by
    have : n = 0 ∨ n = 1 ∨ n = 2 ∨ n = 3 := by omega
    rcases this with rfl | rfl | rfl | rfl <;> decide
  omega
theorem mul_div {a k : Int} (h : 0 < k) (e : a - a.fdiv k * k = 0) : k ∣ a := ⟨a.fdiv k, by rw [Int.mul_comm]; omega⟩
theorem q_law_level : ∀ (n f : Nat) (post : D → Prop), n < f → n ≤ 3 → (∀ m, Drawn n m → lvl m → post (enc m)) → m_law_level f [.int (n : Int)] post
  | n, 0, post, h, _, _ => absurd h (Nat.not_lt_zero _)
  | n, f + 1, post, h, hn, hp => by
    show bd (g_law_level (m_law_level f) [.box 2, .dat (.int n), .un, .un, .un, .un, .un, .un]) endM post
    unfold g_law_level
    simp only [mirs, reduceIte, if_true, if_false, ite_true, ite_false, Bool.not_true, Bool.not_false, Bool.false_eq_true]
    have hw : ∀ (k : Out → R D), (∀ d, k (.rt d) = ok d) → bd (bd (callX 0 2 1 (consR (kR (.int 4)) nilR) m_law_draw [.box 2, .dat (.int (n : Int)), .un, .un, .un, .un, .un, .un]) fun a => bd (addR (.int 1) a) fun d => ok (Out.rt d)) k post := fun k hk => by
      simp only [mirs, reduceIte, if_true, if_false, ite_true, ite_false, Bool.not_true, Bool.not_false, Bool.false_eq_true]
      refine drwZ (getX_0 _ _) (by first | (simp only [mirs, reduceIte, if_true, if_false, ite_true, ite_false, Bool.not_true, Bool.not_false, Bool.false_eq_true]; rfl) | simp only [mirs, reduceIte, if_true, if_false, ite_true, ite_false, Bool.not_true, Bool.not_false, Bool.false_eq_true]) (by decide) (by omega) fun d d1 d2 => ?_
      simp only [mirs, reduceIte, if_true, if_false, ite_true, ite_false, Bool.not_true, Bool.not_false, Bool.false_eq_true, hk]
      have := hp (.w (1 + d)) ⟨by rw [dep_w]; omega, by rw [sz_w]; cases n <;> simp [Szs] <;> omega, good_w.mpr (by omega)⟩ (lvl_w _)
      rw [enc_w] at this
      exact this
    cases n with
    | zero =>
      rw [if_pos (by simp)]
      simp only [mirs, reduceIte, if_true, if_false, ite_true, ite_false, Bool.not_true, Bool.not_false, Bool.false_eq_true]
      have := hw endM fun d => rfl
      rwa [bd_bd] at this
    | succ n =>
      rw [if_neg (by simp; omega)]
      simp only [mirs, reduceIte, if_true, if_false, ite_true, ite_false, Bool.not_true, Bool.not_false, Bool.false_eq_true]
      refine drwZ (getX_0 _ _) (by first | (simp only [mirs, reduceIte, if_true, if_false, ite_true, ite_false, Bool.not_true, Bool.not_false, Bool.false_eq_true]; rfl) | simp only [mirs, reduceIte, if_true, if_false, ite_true, ite_false, Bool.not_true, Bool.not_false, Bool.false_eq_true]) (by decide) (by decide) fun z z1 z2 => ?_
      simp only [mirs, reduceIte, if_true, if_false, ite_true, ite_false, Bool.not_true, Bool.not_false, Bool.false_eq_true]
      by_cases hz : z = 0
      · rw [if_pos (by simp [hz])]
        simp only [mirs, reduceIte, if_true, if_false, ite_true, ite_false, Bool.not_true, Bool.not_false, Bool.false_eq_true]
        have := hw endM fun d => rfl
        rwa [bd_bd] at this
      · rw [if_neg (by simp [hz])]
        simp only [mirs, reduceIte, if_true, if_false, ite_true, ite_false, Bool.not_true, Bool.not_false, Bool.false_eq_true]
        rw [callX_e (j := 2) (n := 1) (ds := [.int (n : Int)]) (by simp only [mirs, reduceIte, if_true, if_false, ite_true, ite_false, Bool.not_true, Bool.not_false, Bool.false_eq_true]; congr 3; omega) (getX_0 _ _) rfl]
        refine bdc (q_law_level n f _ (by omega) (by omega) fun one h1 l1 => ?_)
        refine bdc (q_law_level n f _ (by omega) (by omega) fun other h2 l2 => ?_)
        have t1 := drawn_tot (by omega) h1
        have t2 := drawn_tot (by omega) h2
        simp only [mirs, reduceIte, if_true, if_false, ite_true, ite_false, Bool.not_true, Bool.not_false, Bool.false_eq_true, q_law_total 12 one (by have := h1.dep; omega), q_law_total 12 other (by have := h2.dep; omega)]
        obtain ⟨A, eA⟩ : ∃ A : Nat, tot one = (A : Int) := ⟨(tot one).toNat, by omega⟩
        obtain ⟨B, eB⟩ : ∃ B : Nat, tot other = (B : Int) := ⟨(tot other).toNat, by omega⟩
        rw [eA] at t1
        rw [eB] at t2
        rw [eA, eB]
        rw [lcT (f := fun x : Nat => nI (1 + x)) (l := List.range A) (p := fun x => decide ((A : Int) - (A : Int).fdiv ((1 + x : Nat) : Int) * ((1 + x : Nat) : Int) = 0) && decide ((B : Int) - (B : Int).fdiv ((1 + x : Nat) : Int) * ((1 + x : Nat) : Int) = 0)) (h := fun x => nI (1 + x))
          (σ := fun x => [.box 2, .dat (.int ((n + 1 : Nat) : Int)), .dat (enc one), .dat (enc other), .dat (.int (A : Int)), .dat (.int (B : Int)), .un, .dat (nI (1 + x))]) (by
            simp only [mirs, reduceIte, if_true, if_false, ite_true, ite_false, Bool.not_true, Bool.not_false, Bool.false_eq_true]
            have := rg2N 1 (A + 1) (by omega) (by omega)
            rw [Nat.add_sub_cancel] at this
            exact this) (fun x _ => by simp only [mirs, reduceIte, if_true, if_false, ite_true, ite_false, Bool.not_true, Bool.not_false, Bool.false_eq_true]) (fun x hx => by
            have hx := List.mem_range.mp hx
            simp only [mirs, reduceIte, if_true, if_false, ite_true, ite_false, Bool.not_true, Bool.not_false, Bool.false_eq_true, show nI (1 + x) = .int ((1 + x : Nat) : Int) from rfl, fdivR_int (i := (A : Int)) (j := ((1 + x : Nat) : Int)) ⟨by omega, .inl (by omega)⟩, fdivR_int (i := (B : Int)) (j := ((1 + x : Nat) : Int)) ⟨by omega, .inl (by omega)⟩, mulR9 (i := (A : Int).fdiv ((1 + x : Nat) : Int)) (j := ((1 + x : Nat) : Int)) (by omega), mulR9 (i := (B : Int).fdiv ((1 + x : Nat) : Int)) (j := ((1 + x : Nat) : Int)) (by omega)]
            cases decide ((A : Int) - (A : Int).fdiv ((1 + x : Nat) : Int) * ((1 + x : Nat) : Int) = 0) <;> rfl) (fun x _ _ => by simp only [mirs, reduceIte, if_true, if_false, ite_true, ite_false, Bool.not_true, Bool.not_false, Bool.false_eq_true])]
        obtain ⟨dd, hd1, hd2, hd3⟩ := max_is (l := ((List.range A).filter fun x => decide ((A : Int) - (A : Int).fdiv ((1 + x : Nat) : Int) * ((1 + x : Nat) : Int) = 0) && decide ((B : Int) - (B : Int).fdiv ((1 + x : Nat) : Int) * ((1 + x : Nat) : Int) = 0)).map fun x => ((1 + x : Nat) : Int)) (fun e => by
          have e := List.map_eq_nil_iff.mp e
          have := List.filter_eq_nil_iff.mp e 0 (List.mem_range.mpr (by omega))
          apply this
          simp)
        rw [List.map_map] at hd3
        simp only [mirs, reduceIte, if_true, if_false, ite_true, ite_false, Bool.not_true, Bool.not_false, Bool.false_eq_true, show (List.map (fun x => nI (1 + x)) ((List.range A).filter fun x => decide ((A : Int) - (A : Int).fdiv ((1 + x : Nat) : Int) * ((1 + x : Nat) : Int) = 0) && decide ((B : Int) - (B : Int).fdiv ((1 + x : Nat) : Int) * ((1 + x : Nat) : Int) = 0))) = List.map (PyData.int ∘ fun x : Nat => ((1 + x : Nat) : Int)) ((List.range A).filter fun x => decide ((A : Int) - (A : Int).fdiv ((1 + x : Nat) : Int) * ((1 + x : Nat) : Int) = 0) && decide ((B : Int) - (B : Int).fdiv ((1 + x : Nat) : Int) * ((1 + x : Nat) : Int) = 0)) from rfl, hd3]
        obtain ⟨x, hx, rfl⟩ := List.mem_map.mp hd1
        obtain ⟨hx1, hx2⟩ := List.mem_filter.mp hx
        have hx1 := List.mem_range.mp hx1
        rw [Bool.and_eq_true, decide_eq_true_eq, decide_eq_true_eq] at hx2
        generalize ek : ((1 + x : Nat) : Int) = k at *
        have hk0 : 0 < k := by omega
        obtain ⟨u, eu⟩ := mul_div hk0 hx2.1
        obtain ⟨v, ev⟩ := mul_div hk0 hx2.2
        have fu : (A : Int).fdiv k = u := by rw [eu, Int.mul_fdiv_cancel_left _ (by omega)]
        have fv : (B : Int).fdiv k = v := by rw [ev, Int.mul_fdiv_cancel_left _ (by omega)]
        have pu : 0 < u := by
          rcases Int.lt_or_le 0 u with h | h
          · exact h
          · have := Int.mul_nonpos_of_nonneg_of_nonpos (Int.le_of_lt hk0) h; omega
        have pv : 0 < v := by
          rcases Int.lt_or_le 0 v with h | h
          · exact h
          · have := Int.mul_nonpos_of_nonneg_of_nonpos (Int.le_of_lt hk0) h; omega
        have hA : fdivR (.int (A : Int)) (.int k) = ok (.int u) := by rw [fdivR_int ⟨by omega, .inl (by omega)⟩, fu]
        have hB : fdivR (.int (B : Int)) (.int k) = ok (.int v) := by rw [fdivR_int ⟨by omega, .inl (by omega)⟩, fv]
        simp only [mirs, reduceIte, if_true, if_false, ite_true, ite_false, Bool.not_true, Bool.not_false, Bool.false_eq_true, hA, hB]
        by_cases c1 : u ≤ 50 ∧ v ≤ 50
        · rw [if_neg (by simp; omega)]
          simp only [mirs, reduceIte, if_true, if_false, ite_true, ite_false, Bool.not_true, Bool.not_false, Bool.false_eq_true]
          rw [if_neg (by simp; omega)]
          simp only [mirs, reduceIte, if_true, if_false, ite_true, ite_false, Bool.not_true, Bool.not_false, Bool.false_eq_true, hA, hB]
          have := hp (two (-v) u one other) ⟨dep_r.mpr fun p hpm => by
              simp at hpm
              rcases hpm with rfl | rfl
              · exact h1.dep
              · exact h2.dep, by
              rw [two, sz_r]
              simp
              have := h1.sz
              have := h2.sz
              show _ ≤ 1 + 3 * Szs n
              omega, good_r.mpr ⟨⟨by simp, by simp, by simp; omega, fun p hpm => by
              simp at hpm
              rcases hpm with rfl | rfl
              · show _ ≤ -v ∧ -v ≤ _; omega
              · show _ ≤ u ∧ u ≤ _; omega⟩, fun p hpm => by
              simp at hpm
              rcases hpm with rfl | rfl
              · exact h1.good
              · exact h2.good⟩⟩ (lvl_r.mpr ⟨by
              unfold mom
              simp
              rw [eA, eB, eu, ev]
              rw [Int.neg_mul, Int.mul_comm v (k * u), Int.mul_assoc, Int.mul_left_comm u k v]
              omega, fun p hpm => by
              simp at hpm
              rcases hpm with rfl | rfl
              · exact l1
              · exact l2⟩)
          rw [two, enc_r] at this
          exact this
        · have h5 : post (.int 5) := by
            have := hp (.w 5) ⟨by rw [dep_w]; omega, by rw [sz_w]; show 1 ≤ 1 + 3 * Szs n; omega, good_w.mpr (by omega)⟩ (lvl_w _)
            rwa [enc_w] at this
          by_cases c2 : 50 < u
          · rw [if_pos (by simpa using c2)]
            simp only [mirs, reduceIte, if_true, if_false, ite_true, ite_false, Bool.not_true, Bool.not_false, Bool.false_eq_true]
            exact h5
          · rw [if_neg (by simpa using c2)]
            simp only [mirs, reduceIte, if_true, if_false, ite_true, ite_false, Bool.not_true, Bool.not_false, Bool.false_eq_true]
            rw [if_pos (by simp; omega)]
            simp only [mirs, reduceIte, if_true, if_false, ite_true, ite_false, Bool.not_true, Bool.not_false, Bool.false_eq_true]
            exact h5
end K01

namespace K01
open PySem PySem.Spec PyProof.Rows L2 Pu Mo
variable [Tb]
theorem sm_enc : ∀ (n : Nat) (m : Mob), dep m ≤ n → sz m ≤ 1000 → Sme (2 * n) (enc m)
  | n, .w i, _, _ => by rw [enc_w]; exact sm_int _ _
  | 0, .r hs, h, _ => absurd h dep_r0
  | n + 1, .r hs, h, hz => by
    rw [enc_r]
    have hl := hooks_le hs
    refine sm_map (n := 2 * n + 1) (by omega) fun p hp => ?_
    refine sm_tup (by simp) fun x hx => ?_
    simp at hx
    rcases hx with rfl | rfl
    · exact sm_int _ _
    · have := mem_sum (fun p : Int × Mob => sz p.2) hp
      rw [sz_r] at hz
      have this : sz p.2 ≤ (hs.map fun p => sz p.2).sum := this
      exact sm_enc n p.2 (dep_r.mp h p hp) (by omega)
theorem sm_pD {n : Nat} {p : List Nat} (h : p.length ≤ 1000) : Sme (n + 1) (pD p) := sm_map (by omega) fun x _ => sm_int _ _
theorem same_enc {m : Mob} (h : dep m ≤ 9) (hz : sz m ≤ 1000) : m_law_same 20 [enc m, enc m] = ok (.bool true) := same_ok (sm_mono (by omega) (sm_enc 9 m h hz))
theorem same_paths {ps : List (List Nat)} (h : ps.length ≤ 1000) (hp : ∀ p ∈ ps, p.length ≤ 1000) : m_law_same 20 [.tuple (ps.map pD), .tuple (ps.map pD)] = ok (.bool true) :=
  same_ok (sm_map (by omega) fun p h => sm_pD (hp p h))
theorem same_int (i : Int) : m_law_same 20 [.int i, .int i] = ok (.bool true) := same_ok (sm_int _ _)
theorem same_bool (b : Bool) : m_law_same 20 [.bool b, .bool b] = ok (.bool true) := same_ok (sm_bool _ _)
theorem same_rows {L : List Mo.Row} (h : L.length ≤ 1000) (hp : ∀ x ∈ L, x.1.length ≤ 1000 ∧ dep x.2 ≤ 8 ∧ sz x.2 ≤ 1000) : m_law_same 20 [.tuple (L.map rowD), .tuple (L.map rowD)] = ok (.bool true) :=
  same_ok (sm_map (by omega) fun x hx => sm_tup (by simp) fun y hy => by
    simp at hy
    rcases hy with rfl | rfl
    · exact sm_pD (hp x hx).1
    · exact sm_mono (by omega) (sm_enc 8 x.2 (hp x hx).2.1 (hp x hx).2.2))
theorem good_plc {m : Mob} (h : Good m) : Plc m := fun q t e p hp => by
  have := h q t e
  cases t with
  | w i => cases hp
  | r hs => have := this.2.2.2 p hp; omega
/-! the two mobiles that are written -/
theorem lvl_ww {i j a b : Int} : lvl (two i j (.w a) (.w b)) ↔ i * a + j * b = 0 := by
  unfold two
  rw [lvl_r]
  simp [mom, tot_w, lvl_w]
theorem enc_ww (i j a b : Int) : enc (two i j (.w a) (.w b)) = .tuple [.tuple [.int i, .int a], .tuple [.int j, .int b]] := by
  unfold two
  rw [enc_r]
  simp [hkD, enc_w]
theorem sz_ww (i j a b : Int) : sz (two i j (.w a) (.w b)) = 3 := by
  unfold two
  rw [sz_r]
  simp [sz_w]
theorem plc_ww {i j a b : Int} (hi : i.natAbs ≤ 1000) (hj : j.natAbs ≤ 1000) : Plc (two i j (.w a) (.w b)) := by
  unfold two
  intro q t e p hp
  have := (at_all (P := fun t => ∀ p ∈ hooks t, p.1.natAbs ≤ 1000000) (hs := [(i, .w a), (j, .w b)])).mpr ⟨fun p hp => by
    simp [hooks] at hp
    rcases hp with rfl | rfl
    · show i.natAbs ≤ _; omega
    · show j.natAbs ≤ _; omega, fun p hp => by
    simp at hp
    rcases hp with rfl | rfl
    · exact at_allw.mpr (by simp [hooks])
    · exact at_allw.mpr (by simp [hooks])⟩
  exact this q t e p hp
theorem level_w1 : m_hangs_level [.tuple [.tuple [.int (-2), .int 3], .tuple [.int 1, .int 6]]] = ok (.bool true) := by
  rw [← enc_ww, q_level (by rw [sz_ww]; decide) (plc_ww (by decide) (by decide)), decide_eq_true (tls_nil.mpr (lvl_ww.mpr (by decide)))]
theorem tilt_w2 : m_tilted_rods [.tuple [.tuple [.int (-2), .int 3], .tuple [.int 1, .int 5]]] = ok (.tuple [.tuple []]) := by
  rw [← enc_ww, q_tilted (by rw [sz_ww]; decide) (plc_ww (by decide) (by decide))]
  rw [tls_eq]
  have e1 : tlt (two (-2) 1 (.w 3) (.w 5)) = true := by
    show decide (mom _ ≠ 0) = true
    simp [mom, tot_w]
  rw [if_pos e1]
  have e2 : (ch ([], two (-2) 1 (.w 3) (.w 5))).flatMap tls = [] := by
    unfold two
    rw [ch_r]
    simp [tls_eq, tlt, ch_w]
  rw [e2]; rfl
theorem same_w2 : m_law_same 20 [.tuple [.tuple []], .tuple [.tuple []]] = ok (.bool true) := same_paths (ps := [[]]) (by simp) (by simp)
theorem spread {α : Type} {l : List α} (p : α → Bool) (h : ∀ x ∈ l, p x = true) : l.all p = true := List.all_eq_true.mpr h
end K01

namespace K01
open PySem PySem.Spec PyProof.Rows L2 Pu
def y0 : List Sl → R Out := (setM 2 (ifV (m1 (m2 (callX 1 2 1 (consR (kR (.int 2)) nilR) m_law_draw) (kR (.int 0)) eqR) asB) (callX 1 2 1 (consR (kR (.int 3)) nilR) (m_law_mobile 12)) (callX 1 2 1 (consR (kR (.int 3)) nilR) (m_law_level 12))))
def y1 : List Sl → R Out := (ifV (orT (m1 (m2 (m1 (consR (m1 (consR (m1 (consR (m1 (kR (.int 2)) negR) (consR (kR (.int 3)) nilR)) tupR) (consR (m1 (consR (kR (.int 1)) (consR (kR (.int 6)) nilR)) tupR) nilR)) tupR) nilR) (callR 1 m_hangs_level)) (kR (.bool true)) isNotR) asB) (notT (m1 (m1 (consR (m1 (consR (m1 (consR (m1 (consR (m1 (kR (.int 2)) negR) (consR (kR (.int 3)) nilR)) tupR) (consR (m1 (consR (kR (.int 1)) (consR (kR (.int 5)) nilR)) tupR) nilR)) tupR) nilR) (callR 1 m_tilted_rods)) (consR (m1 (consR (m1 nilR tupR) nilR) tupR) nilR)) (callR 2 (m_law_same 20))) truR))) (retM (kR (.bool false))) nilM)
def y2 : List Sl → R Out := (setM 3 (m1 (consR (nDR 2) nilR) (callR 1 m_law_parts)))
def y3 : List Sl → R Out := (setM 4 (frz (lcM [7, 8] (itR (nDR 3)) (gTupR 2 (gConsR (gSet 7) (gConsR (gSet 8) gNilR))) (m1 (m1 (nDR 8) (isiR isTup)) truR) (m1 (consR (nDR 7) (consR (nDR 8) nilR)) tupR))))
def y4 : List Sl → R Out := (setM 5 (frz (lcM [7, 8] (itR (nDR 3)) (gTupR 2 (gConsR (gSet 7) (gConsR (gSet 8) gNilR))) (notT (m1 (m1 (nDR 8) (isiR isTup)) truR)) (m1 (consR (nDR 7) (consR (nDR 8) nilR)) tupR))))
def y5 : List Sl → R Out := (ifV (orT (notT (m1 (m1 (consR (m1 (consR (nDR 2) nilR) (callR 1 m_all_paths)) (consR (m1 (consR (frz (lcM [7, 8] (itR (nDR 3)) (gTupR 2 (gConsR (gSet 7) (gConsR (gSet 8) gNilR))) yesT (nDR 7))) nilR) tupOfR) nilR)) (callR 2 (m_law_same 20))) truR)) (notT (m1 (m1 (consR (m1 (consR (nDR 2) nilR) (callR 1 m_rods_of)) (consR (m1 (consR (frz (lcM [7, 8] (itR (nDR 4)) (gTupR 2 (gConsR (gSet 7) (gConsR (gSet 8) gNilR))) yesT (nDR 7))) nilR) tupOfR) nilR)) (callR 2 (m_law_same 20))) truR))) (retM (kR (.bool false))) nilM)
def y6 : List Sl → R Out := (ifV (orT (notT (m1 (m1 (consR (m1 (consR (nDR 2) nilR) (callR 1 m_weights_of)) (consR (m1 (consR (nDR 5) nilR) tupOfR) nilR)) (callR 2 (m_law_same 20))) truR)) (notT (m1 (m1 (consR (m1 (consR (nDR 2) nilR) (callR 1 m_total)) (consR (m1 (consR (frz (lcM [7, 8] (itR (nDR 5)) (gTupR 2 (gConsR (gSet 7) (gConsR (gSet 8) gNilR))) yesT (nDR 8))) nilR) sumR) nilR)) (callR 2 (m_law_same 20))) truR))) (retM (kR (.bool false))) nilM)
def y7 : List Sl → R Out := (ifV (orT (notT (m1 (m1 (consR (frz (lcM [7, 8] (itR (nDR 3)) (gTupR 2 (gConsR (gSet 7) (gConsR (gSet 8) gNilR))) yesT (m1 (consR (m1 (consR (nDR 2) (consR (nDR 7) nilR)) (callR 2 m_part_at)) (consR (nDR 8) nilR)) (callR 2 (m_law_same 20))))) nilR) allR) truR)) (notT (m1 (m1 (consR (frz (lcM [7, 8] (itR (nDR 4)) (gTupR 2 (gConsR (gSet 7) (gConsR (gSet 8) gNilR))) yesT (m1 (consR (m1 (consR (nDR 8) nilR) (callR 1 m_moment_of)) (consR (m1 (consR (nDR 8) nilR) (callR 1 m_law_moment)) nilR)) (callR 2 (m_law_same 20))))) nilR) allR) truR))) (retM (kR (.bool false))) nilM)
def y8 : List Sl → R Out := (setM 6 (m1 (consR (frz (lcM [7, 8] (itR (nDR 4)) (gTupR 2 (gConsR (gSet 7) (gConsR (gSet 8) gNilR))) (m1 (m2 (m1 (consR (nDR 8) nilR) (callR 1 m_law_moment)) (kR (.int 0)) neR) asB) (nDR 7))) nilR) tupOfR))
def y9 : List Sl → R Out := (ifV (orT (notT (m1 (m1 (consR (m1 (consR (nDR 2) nilR) (callR 1 m_tilted_rods)) (consR (nDR 6) nilR)) (callR 2 (m_law_same 20))) truR)) (notT (m1 (m1 (consR (m1 (consR (nDR 2) nilR) (callR 1 m_hangs_level)) (consR (m2 (nDR 6) (m1 nilR tupR) eqR) nilR)) (callR 2 (m_law_same 20))) truR))) (retM (kR (.bool false))) nilM)
def y10 : List Sl → R Out := (ifV (orT (notT (m1 (m1 (consR (m1 (consR (nDR 2) nilR) (callR 1 m_height_of)) (consR (m1 (consR (m2 (frz (m1 (consR (kR (.int 0)) nilR) lstR)) (frz (lcM [7, 8] (itR (nDR 4)) (gTupR 2 (gConsR (gSet 7) (gConsR (gSet 8) gNilR))) yesT (m2 (m1 (consR (nDR 7) nilR) lenR) (kR (.int 1)) addR))) addR) nilR) maxR) nilR)) (callR 2 (m_law_same 20))) truR)) (notT (m1 (m1 (consR (m1 (consR (nDR 2) nilR) (callR 1 m_turned)) (consR (m1 (consR (nDR 2) nilR) (callR 1 (m_law_turned 12))) nilR)) (callR 2 (m_law_same 20))) truR))) (retM (kR (.bool false))) nilM)
def y11 : List Sl → R Out := (ifV (orT (notT (m1 (m1 (consR (m1 (consR (m1 (consR (nDR 2) nilR) (callR 1 (m_law_turned 12))) nilR) (callR 1 m_hangs_level)) (consR (m2 (nDR 6) (m1 nilR tupR) eqR) nilR)) (callR 2 (m_law_same 20))) truR)) (m1 (m2 (m1 (consR (m1 (consR (nDR 2) nilR) (callR 1 (m_law_turned 12))) nilR) (callR 1 m_is_mobile)) (kR (.bool true)) isNotR) asB)) (retM (kR (.bool false))) nilM)
def y12 : List Sl → R Out := (asgM (m2 (nDR 3) (callX 1 2 1 (consR (m1 (consR (nDR 3) nilR) lenR) nilR) m_law_draw) ixR) (gTupR 2 (gConsR (gSet 7) (gConsR (gSet 8) gNilR))))
def y13 : List Sl → R Out := (setM 9 (callX 1 2 1 (consR (kR (.int 1)) nilR) (m_law_mobile 12)))
def y14 : List Sl → R Out := (ifV (notT (m1 (m1 (consR (m1 (consR (nDR 2) (consR (nDR 7) (consR (nDR 9) nilR))) (callR 3 m_with_part)) (consR (m1 (consR (nDR 2) (consR (nDR 7) (consR (nDR 9) nilR))) (callR 3 (m_law_put 12))) nilR)) (callR 2 (m_law_same 20))) truR)) (retM (kR (.bool false))) nilM)
def x0 : List Sl → R Out := (setM 14 (m1 (consR (frz (lcM [15, 16] (itR (m1 (nDR 11) revR)) (gTupR 2 (gConsR (gSet 15) (gConsR (gSet 16) gNilR))) yesT (m1 (consR (m1 (nDR 15) negR) (consR (nDR 16) nilR)) tupR))) nilR) tupOfR))
def x1 : List Sl → R Out := (ifV (orT (notT (m1 (m1 (consR (m1 (consR (nDR 11) nilR) (callR 1 m_turned_rod)) (consR (nDR 14) nilR)) (callR 2 (m_law_same 20))) truR)) (notT (m1 (m1 (consR (m1 (consR (nDR 2) (consR (nDR 10) nilR)) (callR 2 m_turned_at)) (consR (m1 (consR (nDR 2) (consR (nDR 10) (consR (nDR 14) nilR))) (callR 3 (m_law_put 12))) nilR)) (callR 2 (m_law_same 20))) truR))) (retM (kR (.bool false))) nilM)
def x2 : List Sl → R Out := (ifV (m1 (m2 (m2 (nDR 6) (m1 nilR tupR) eqR) (m1 (consR (m1 (consR (nDR 2) (consR (nDR 10) (consR (nDR 14) nilR))) (callR 3 (m_law_put 12))) nilR) (callR 1 m_hangs_level)) neR) asB) (retM (kR (.bool false))) nilM)
def body_ : List Sl → R Out := (seqM x0 (seqM x1 x2))
def y15 : List Sl → R Out := (forM (itR (nDR 4)) (gTupR 2 (gConsR (gSet 10) (gConsR (gSet 11) gNilR))) body_)
def y16 : List Sl → R Out := (setM 12 (m1 (consR (nDR 8) nilR) (callR 1 (m_law_total 12))))
def y17 : List Sl → R Out := (setM 13 (m1 (consR (frz (lcM [10] (itR (nDR 6)) (gSet 10) (m1 (m2 (m3 (nDR 10) noR (m1 (m1 (consR (nDR 7) nilR) lenR) asI) slR) (nDR 7) neR) asB) (nDR 10))) nilR) tupOfR))
def y18 : List Sl → R Out := (retM (ifV (m1 (m2 (nDR 12) (kR (.int 1000)) leR) asB) (m1 (consR (m1 (consR (m1 (consR (nDR 2) (consR (nDR 7) (consR (nDR 12) nilR))) (callR 3 (m_law_put 12))) nilR) (callR 1 m_tilted_rods)) (consR (nDR 13) nilR)) (callR 2 (m_law_same 20))) (kR (.bool true))))
theorem g_law_cut : g_law = (seqM y0 (seqM y1 (seqM y2 (seqM y3 (seqM y4 (seqM y5 (seqM y6 (seqM y7 (seqM y8 (seqM y9 (seqM y10 (seqM y11 (seqM y12 (seqM y13 (seqM y14 (seqM y15 (seqM y16 (seqM y17 y18)))))))))))))))))) := rfl
end K01

namespace K01
open PySem PySem.Spec PyProof.Rows L2 Pu Mo
variable [Tb]
/-! ### the law's body -/
structure Dm (m : Mob) : Prop where
  sz : sz m ≤ 40
  dep : dep m ≤ 3
  good : Good m
theorem Dm.of {m : Mob} (h : Drawn 3 m) : Dm m := ⟨h.sz, h.dep, h.good⟩
section
variable {m : Mob}
def PD (m : Mob) : D := .list ((pre ([], m)).map rowD)
def rr (m : Mob) : List Mo.Row := (pre ([], m)).filter fun x => rodB x.2
def RD (m : Mob) : D := .list ((rr m).map rowD)
def WD (m : Mob) : D := .list ((wts m).map rowD)
def TD (m : Mob) : D := .tuple ((tls ([], m)).map pD)
theorem r_y0 {ρ : List Sl} {post : Out → Prop} (h : ∀ m, Dm m → post (.nx (.un :: .box 2 :: .dat (enc m) :: ρ))) (x : Sl) : y0 (.un :: .box 2 :: x :: ρ) post := by
  unfold y0
  simp only [mirs, reduceIte, if_true, if_false, ite_true, ite_false, Bool.not_true, Bool.not_false, Bool.false_eq_true]
  refine drwZ (getX_1 _ _ _) (by first | (simp only [mirs, reduceIte, if_true, if_false, ite_true, ite_false, Bool.not_true, Bool.not_false, Bool.false_eq_true]; rfl) | simp only [mirs, reduceIte, if_true, if_false, ite_true, ite_false, Bool.not_true, Bool.not_false, Bool.false_eq_true]) (by decide) (by decide) fun d d1 d2 => ?_
  simp only [mirs, reduceIte, if_true, if_false, ite_true, ite_false, Bool.not_true, Bool.not_false, Bool.false_eq_true]
  by_cases hd : d = 0
  · rw [if_pos (by simp [hd]), callX_e (j := 2) (n := 1) (ds := [.int ((3 : Nat) : Int)]) (by simp only [mirs, reduceIte, if_true, if_false, ite_true, ite_false, Bool.not_true, Bool.not_false, Bool.false_eq_true]; rfl) (getX_1 _ _ _) rfl]
    refine bdc (q_law_mobile 3 12 _ (by decide) fun m hm => ?_)
    exact h m (.of hm)
  · rw [if_neg (by simp [hd]), callX_e (j := 2) (n := 1) (ds := [.int ((3 : Nat) : Int)]) (by simp only [mirs, reduceIte, if_true, if_false, ite_true, ite_false, Bool.not_true, Bool.not_false, Bool.false_eq_true]; rfl) (getX_1 _ _ _) rfl]
    refine bdc (q_law_level 3 12 _ (by decide) (by decide) fun m hm _ => ?_)
    exact h m (.of hm)
variable (d : Dm m) {s3 s4 s5 s6 : Sl}
include d
theorem Dm.z : Mo.sz m ≤ 900 := Nat.le_trans d.sz (by decide)
theorem Dm.lenP : (pre ([], m)).length ≤ 40 := by
  rw [len_pre]; exact d.sz
theorem Dm.row {x : Mo.Row} (h : x ∈ pre ([], m)) : x.1.length ≤ 40 ∧ Mo.dep x.2 ≤ 8 ∧ Mo.sz x.2 ≤ 40 := by
  have h1 := sz_at (pre_at h)
  have h2 := path_len h
  have := d.sz
  refine ⟨by omega, ?_, by omega⟩
  have : ∀ (q : List Nat) (m t : Mob), at_ q m = some t → Mo.dep m ≤ 8 → Mo.dep t ≤ 8 := by
    intro q
    induction q with
    | nil => intro m t e h; cases e; exact h
    | cons k q ih =>
      intro m t e h
      cases m with
      | w i => cases e
      | r hs =>
        cases hk : hs[k]? with
        | none => rw [at_none hk] at e; cases e
        | some x =>
          rw [at_some hk] at e
          exact ih _ _ e (Nat.le_succ_of_le (dep_r.mp h _ (List.mem_of_getElem? hk)))
  exact this _ _ _ (pre_at h) (Nat.le_trans d.dep (by decide))
theorem Dm.atz {q : List Nat} {t : Mob} (e : at_ q m = some t) : Mo.sz t ≤ 40 ∧ Mo.dep t ≤ 8 ∧ q.length ≤ 40 := by
  have := d.row (at_pre e)
  exact ⟨this.2.2, this.2.1, this.1⟩
theorem r_y1 (ρ : List Sl) : y1 (.un :: .box 2 :: .dat (enc m) :: ρ) = ok (.nx (.un :: .box 2 :: .dat (enc m) :: ρ)) := by
  unfold y1
  exact if_no (by simp only [mirs, reduceIte, if_true, if_false, ite_true, ite_false, Bool.not_true, Bool.not_false, Bool.false_eq_true, level_w1, tilt_w2, same_w2, beq_self_eq_true])
theorem r_y2 : y2 [.un, .box 2, .dat (enc m), .un, .un, .un, .un, .un, .un, .un, .un, .un, .un, .un, .un, .un, .un] = ok (.nx [.un, .box 2, .dat (enc m), .dat (PD m), .un, .un, .un, .un, .un, .un, .un, .un, .un, .un, .un, .un, .un]) := by
  unfold y2
  simp only [mirs, reduceIte, if_true, if_false, ite_true, ite_false, Bool.not_true, Bool.not_false, Bool.false_eq_true, q_law_parts d.z]
  rfl
theorem r_y3 : y3 [.un, .box 2, .dat (enc m), .dat (PD m), .un, .un, .un, .un, .un, .un, .un, .un, .un, .un, .un, .un, .un] = ok (.nx [.un, .box 2, .dat (enc m), .dat (PD m), .dat (RD m), .un, .un, .un, .un, .un, .un, .un, .un, .un, .un, .un, .un]) := by
  unfold y3
  simp only [mirs, reduceIte, if_true, if_false, ite_true, ite_false, Bool.not_true, Bool.not_false, Bool.false_eq_true]
  rw [lcT (f := rowD) (l := pre ([], m)) (p := fun x => rodB x.2) (h := rowD) (σ := fun x => [.un, .box 2, .dat (enc m), .dat (PD m), .un, .un, .un, .dat (pD x.1), .dat (enc x.2), .un, .un, .un, .un, .un, .un, .un, .un]) (itR_list (by first | (simp only [mirs, reduceIte, if_true, if_false, ite_true, ite_false, Bool.not_true, Bool.not_false, Bool.false_eq_true]; rfl) | simp only [mirs, reduceIte, if_true, if_false, ite_true, ite_false, Bool.not_true, Bool.not_false, Bool.false_eq_true])) (fun x _ => by unfold rowD; simp only [mirs, reduceIte, if_true, if_false, ite_true, ite_false, Bool.not_true, Bool.not_false, Bool.false_eq_true]) (fun x _ => by simp only [mirs, reduceIte, if_true, if_false, ite_true, ite_false, Bool.not_true, Bool.not_false, Bool.false_eq_true, isT_enc]) (fun x _ _ => by simp only [mirs, reduceIte, if_true, if_false, ite_true, ite_false, Bool.not_true, Bool.not_false, Bool.false_eq_true]; rfl)]
  simp only [mirs, reduceIte, if_true, if_false, ite_true, ite_false, Bool.not_true, Bool.not_false, Bool.false_eq_true]
  rfl
theorem r_y4 : y4 [.un, .box 2, .dat (enc m), .dat (PD m), .dat (RD m), .un, .un, .un, .un, .un, .un, .un, .un, .un, .un, .un, .un] = ok (.nx [.un, .box 2, .dat (enc m), .dat (PD m), .dat (RD m), .dat (WD m), .un, .un, .un, .un, .un, .un, .un, .un, .un, .un, .un]) := by
  unfold y4
  simp only [mirs, reduceIte, if_true, if_false, ite_true, ite_false, Bool.not_true, Bool.not_false, Bool.false_eq_true]
  rw [lcT (f := rowD) (l := pre ([], m)) (p := fun x => !rodB x.2) (h := rowD) (σ := fun x => [.un, .box 2, .dat (enc m), .dat (PD m), .dat (RD m), .un, .un, .dat (pD x.1), .dat (enc x.2), .un, .un, .un, .un, .un, .un, .un, .un]) (itR_list (by first | (simp only [mirs, reduceIte, if_true, if_false, ite_true, ite_false, Bool.not_true, Bool.not_false, Bool.false_eq_true]; rfl) | simp only [mirs, reduceIte, if_true, if_false, ite_true, ite_false, Bool.not_true, Bool.not_false, Bool.false_eq_true])) (fun x _ => by unfold rowD; simp only [mirs, reduceIte, if_true, if_false, ite_true, ite_false, Bool.not_true, Bool.not_false, Bool.false_eq_true]) (fun x _ => by simp only [mirs, reduceIte, if_true, if_false, ite_true, ite_false, Bool.not_true, Bool.not_false, Bool.false_eq_true, isT_enc]) (fun x _ _ => by simp only [mirs, reduceIte, if_true, if_false, ite_true, ite_false, Bool.not_true, Bool.not_false, Bool.false_eq_true]; rfl)]
  simp only [mirs, reduceIte, if_true, if_false, ite_true, ite_false, Bool.not_true, Bool.not_false, Bool.false_eq_true]
  rfl
theorem paths_le : (paths m).length ≤ 40 ∧ ∀ p ∈ paths m, p.length ≤ 1000 := by
  unfold paths
  refine ⟨by rw [List.length_map]; exact d.lenP, fun p hp => ?_⟩
  obtain ⟨x, hx, rfl⟩ := List.mem_map.mp hp
  have := (d.row hx).1
  omega
theorem rods_le : (rods m).length ≤ 40 ∧ ∀ p ∈ rods m, p.length ≤ 1000 := by
  unfold rods
  refine ⟨by rw [List.length_map]; exact Nat.le_trans (List.length_filter_le _ _) d.lenP, fun p hp => ?_⟩
  obtain ⟨x, hx, rfl⟩ := List.mem_map.mp hp
  have := (d.row (List.mem_filter.mp hx).1).1
  omega
theorem tls_le : (tls ([], m)).length ≤ 40 ∧ ∀ p ∈ tls ([], m), p.length ≤ 1000 := by
  unfold tls
  refine ⟨by rw [List.length_map]; exact Nat.le_trans (List.length_filter_le _ _) d.lenP, fun p hp => ?_⟩
  obtain ⟨x, hx, rfl⟩ := List.mem_map.mp hp
  have := (d.row (List.mem_filter.mp hx).1).1
  omega
theorem r_y5 : y5 [.un, .box 2, .dat (enc m), .dat (PD m), .dat (RD m), .dat (WD m), .un, .un, .un, .un, .un, .un, .un, .un, .un, .un, .un] = ok (.nx [.un, .box 2, .dat (enc m), .dat (PD m), .dat (RD m), .dat (WD m), .un, .un, .un, .un, .un, .un, .un, .un, .un, .un, .un]) := by
  unfold y5
  refine if_no ?_
  simp only [mirs, reduceIte, if_true, if_false, ite_true, ite_false, Bool.not_true, Bool.not_false, Bool.false_eq_true, q_all_paths d.z, q_rods_of d.z]
  rw [lcB (f := rowD) (l := pre ([], m)) (h := fun x => pD x.1) (itR_list (by first | (simp only [mirs, reduceIte, if_true, if_false, ite_true, ite_false, Bool.not_true, Bool.not_false, Bool.false_eq_true]; rfl) | simp only [mirs, reduceIte, if_true, if_false, ite_true, ite_false, Bool.not_true, Bool.not_false, Bool.false_eq_true])) (fun x _ => by unfold rowD; simp only [mirs, reduceIte, if_true, if_false, ite_true, ite_false, Bool.not_true, Bool.not_false, Bool.false_eq_true])]
  simp only [mirs, reduceIte, if_true, if_false, ite_true, ite_false, Bool.not_true, Bool.not_false, Bool.false_eq_true]
  rw [← pD_paths, same_paths (by have := (paths_le d).1; omega) (paths_le d).2]
  simp only [mirs, reduceIte, if_true, if_false, ite_true, ite_false, Bool.not_true, Bool.not_false, Bool.false_eq_true]
  rw [lcB (f := rowD) (l := rr m) (h := fun x => pD x.1) (itR_list (by first | (simp only [mirs, reduceIte, if_true, if_false, ite_true, ite_false, Bool.not_true, Bool.not_false, Bool.false_eq_true]; rfl) | simp only [mirs, reduceIte, if_true, if_false, ite_true, ite_false, Bool.not_true, Bool.not_false, Bool.false_eq_true])) (fun x _ => by unfold rowD; simp only [mirs, reduceIte, if_true, if_false, ite_true, ite_false, Bool.not_true, Bool.not_false, Bool.false_eq_true])]
  simp only [mirs, reduceIte, if_true, if_false, ite_true, ite_false, Bool.not_true, Bool.not_false, Bool.false_eq_true]
  rw [show ((rr m).map fun x => pD x.1) = (rods m).map pD from by unfold rods rr; rw [List.map_map]; rfl, same_paths (by have := (rods_le d).1; omega) (rods_le d).2]
  simp only [mirs, reduceIte, if_true, if_false, ite_true, ite_false, Bool.not_true, Bool.not_false, Bool.false_eq_true]
theorem wts_sum : ((wts m).map fun x => wI x.2).sum = tot m := tot_pre ([], m)
theorem r_y6 : y6 [.un, .box 2, .dat (enc m), .dat (PD m), .dat (RD m), .dat (WD m), .un, .un, .un, .un, .un, .un, .un, .un, .un, .un, .un] = ok (.nx [.un, .box 2, .dat (enc m), .dat (PD m), .dat (RD m), .dat (WD m), .un, .un, .un, .un, .un, .un, .un, .un, .un, .un, .un]) := by
  unfold y6
  refine if_no ?_
  have e : tupOfR [WD m] = ok (.tuple ((wts m).map rowD)) := rfl
  simp only [mirs, reduceIte, if_true, if_false, ite_true, ite_false, Bool.not_true, Bool.not_false, Bool.false_eq_true, q_weights_of d.z, e, q_total d.z]
  rw [same_rows (L := wts m) (Nat.le_trans (List.length_filter_le _ _) (Nat.le_trans d.lenP (by decide))) (fun x hx => by
    have := d.row (List.mem_filter.mp hx).1
    exact ⟨by omega, this.2.1, by omega⟩)]
  simp only [mirs, reduceIte, if_true, if_false, ite_true, ite_false, Bool.not_true, Bool.not_false, Bool.false_eq_true]
  rw [lcB (f := rowD) (l := wts m) (h := fun x => .int (wI x.2)) (itR_list (by first | (simp only [mirs, reduceIte, if_true, if_false, ite_true, ite_false, Bool.not_true, Bool.not_false, Bool.false_eq_true]; rfl) | simp only [mirs, reduceIte, if_true, if_false, ite_true, ite_false, Bool.not_true, Bool.not_false, Bool.false_eq_true])) (fun x hx => by rw [wts_w hx]; simp only [mirs, reduceIte, if_true, if_false, ite_true, ite_false, Bool.not_true, Bool.not_false, Bool.false_eq_true])]
  simp only [mirs, reduceIte, if_true, if_false, ite_true, ite_false, Bool.not_true, Bool.not_false, Bool.false_eq_true, sum_f (fun x : Mo.Row => wI x.2) (wts m)]
  rw [show ((wts m).map fun x => wI x.2).sum = tot m from tot_pre ([], m), same_int]
  simp only [mirs, reduceIte, if_true, if_false, ite_true, ite_false, Bool.not_true, Bool.not_false, Bool.false_eq_true]
theorem Dm.rod {x : Mo.Row} (h : x ∈ rr m) : ∃ hs, x.2 = .r hs ∧ at_ x.1 m = some (.r hs) ∧ Mo.sz (.r hs) ≤ 40 ∧ Mo.dep (.r hs) ≤ 8 ∧ (∀ p ∈ hs, p.1.natAbs ≤ 1000000000) := by
  obtain ⟨h1, h2⟩ := List.mem_filter.mp h
  have h3 := pre_at h1
  have h4 := d.row h1
  obtain ⟨q, t⟩ := x
  cases t with
  | w i => exact absurd h2 (by simp [rodB])
  | r hs => exact ⟨hs, rfl, h3, h4.2.2, h4.2.1, (good_plc d.good).at h3⟩
theorem r_y7 : y7 [.un, .box 2, .dat (enc m), .dat (PD m), .dat (RD m), .dat (WD m), .un, .un, .un, .un, .un, .un, .un, .un, .un, .un, .un] = ok (.nx [.un, .box 2, .dat (enc m), .dat (PD m), .dat (RD m), .dat (WD m), .un, .un, .un, .un, .un, .un, .un, .un, .un, .un, .un]) := by
  unfold y7
  refine if_no ?_
  simp only [mirs, reduceIte, if_true, if_false, ite_true, ite_false, Bool.not_true, Bool.not_false, Bool.false_eq_true]
  rw [lcB (f := rowD) (l := pre ([], m)) (h := fun _ => .bool true) (itR_list (by first | (simp only [mirs, reduceIte, if_true, if_false, ite_true, ite_false, Bool.not_true, Bool.not_false, Bool.false_eq_true]; rfl) | simp only [mirs, reduceIte, if_true, if_false, ite_true, ite_false, Bool.not_true, Bool.not_false, Bool.false_eq_true])) (fun x hx => by
    have h1 := d.row hx
    unfold rowD
    simp only [mirs, reduceIte, if_true, if_false, ite_true, ite_false, Bool.not_true, Bool.not_false, Bool.false_eq_true, q_part_at (pre_at hx), same_enc (m := x.2) (by omega) (by omega)])]
  simp only [mirs, reduceIte, if_true, if_false, ite_true, ite_false, Bool.not_true, Bool.not_false, Bool.false_eq_true, allR_bools (l := pre ([], m)) (p := fun _ => true), spread (l := pre ([], m)) (fun _ => true) fun _ _ => rfl]
  rw [lcB (f := rowD) (l := rr m) (h := fun _ => .bool true) (itR_list (by first | (simp only [mirs, reduceIte, if_true, if_false, ite_true, ite_false, Bool.not_true, Bool.not_false, Bool.false_eq_true]; rfl) | simp only [mirs, reduceIte, if_true, if_false, ite_true, ite_false, Bool.not_true, Bool.not_false, Bool.false_eq_true])) (fun x hx => by
    obtain ⟨hs, e, h1, h2, h3, h4⟩ := d.rod hx
    unfold rowD
    rw [e]
    simp only [mirs, reduceIte, if_true, if_false, ite_true, ite_false, Bool.not_true, Bool.not_false, Bool.false_eq_true, q_moment (hs := hs) (by omega) h4, q_law_moment (hs := hs) (by omega) h4, same_int])]
  simp only [mirs, reduceIte, if_true, if_false, ite_true, ite_false, Bool.not_true, Bool.not_false, Bool.false_eq_true, allR_bools (l := rr m) (p := fun _ => true), spread (l := rr m) (fun _ => true) fun _ _ => rfl]
theorem r_y8 : y8 [.un, .box 2, .dat (enc m), .dat (PD m), .dat (RD m), .dat (WD m), .un, .un, .un, .un, .un, .un, .un, .un, .un, .un, .un] = ok (.nx [.un, .box 2, .dat (enc m), .dat (PD m), .dat (RD m), .dat (WD m), .dat (TD m), .un, .un, .un, .un, .un, .un, .un, .un, .un, .un]) := by
  unfold y8
  simp only [mirs, reduceIte, if_true, if_false, ite_true, ite_false, Bool.not_true, Bool.not_false, Bool.false_eq_true]
  rw [lcT (f := rowD) (l := rr m) (p := fun x => tlt x.2) (h := fun x => pD x.1) (σ := fun x => [.un, .box 2, .dat (enc m), .dat (PD m), .dat (RD m), .dat (WD m), .un, .dat (pD x.1), .dat (enc x.2), .un, .un, .un, .un, .un, .un, .un, .un]) (itR_list (by first | (simp only [mirs, reduceIte, if_true, if_false, ite_true, ite_false, Bool.not_true, Bool.not_false, Bool.false_eq_true]; rfl) | simp only [mirs, reduceIte, if_true, if_false, ite_true, ite_false, Bool.not_true, Bool.not_false, Bool.false_eq_true])) (fun x _ => by unfold rowD; simp only [mirs, reduceIte, if_true, if_false, ite_true, ite_false, Bool.not_true, Bool.not_false, Bool.false_eq_true]) (fun x hx => by
    obtain ⟨hs, e, h1, h2, h3, h4⟩ := d.rod hx
    rw [e]
    simp only [mirs, reduceIte, if_true, if_false, ite_true, ite_false, Bool.not_true, Bool.not_false, Bool.false_eq_true, q_law_moment (hs := hs) (by omega) h4]
    show ok (!decide (mom hs = 0)) = ok (decide (mom hs ≠ 0))
    simp) (fun x _ _ => by simp only [mirs, reduceIte, if_true, if_false, ite_true, ite_false, Bool.not_true, Bool.not_false, Bool.false_eq_true])]
  simp only [mirs, reduceIte, if_true, if_false, ite_true, ite_false, Bool.not_true, Bool.not_false, Bool.false_eq_true]
  unfold TD
  rw [tls_rods, List.map_map]
  rfl
end
end K01

namespace K01
open PySem PySem.Spec PyProof.Rows L2 Pu Mo
variable [Tb]
section
variable {m : Mob} (d : Dm m) {s3 s4 s5 s6 : Sl}
include d
abbrev st0 (m : Mob) (r : List Sl) : List Sl := .un :: .box 2 :: .dat (enc m) :: .dat (PD m) :: .dat (RD m) :: .dat (WD m) :: .dat (TD m) :: r
def tb (m : Mob) : Bool := decide (tls ([], m) = [])
omit d in
theorem eq_TD : eqR (TD m) (.tuple []) = ok (.bool (tb m)) := eq_nil _
theorem r_y9 (r : List Sl) : y9 (st0 m r) = ok (.nx (st0 m r)) := by
  unfold y9
  refine if_no ?_
  simp only [mirs, reduceIte, if_true, if_false, ite_true, ite_false, Bool.not_true, Bool.not_false, Bool.false_eq_true, q_tilted d.z (good_plc d.good), q_level d.z (good_plc d.good), eq_TD, show m_law_same 20 [.tuple ((tls ([], m)).map pD), TD m] = ok (.bool true) from same_paths (by have := (tls_le d).1; omega) (tls_le d).2]
  rw [show m_law_same 20 [.bool (decide (tls ([], m) = [])), .bool (tb m)] = ok (.bool true) from same_bool _]
  simp only [mirs, reduceIte, if_true, if_false, ite_true, ite_false, Bool.not_true, Bool.not_false, Bool.false_eq_true]
theorem hgt_e : maxR [.list ((0 :: (rods m).map fun p => (p.length : Int) + 1).map PyData.int)] = ok (.int (hgt m)) := max_cons 0 _
theorem r_y10 : y10 (st0 m [.un, .un, .un, .un, .un, .un, .un, .un, .un, .un]) = ok (.nx (st0 m [.un, .un, .un, .un, .un, .un, .un, .un, .un, .un])) := by
  unfold y10
  refine if_no ?_
  simp only [mirs, reduceIte, if_true, if_false, ite_true, ite_false, Bool.not_true, Bool.not_false, Bool.false_eq_true, q_height d.z]
  rw [lcB (f := rowD) (l := rr m) (h := fun x => .int ((x.1.length : Int) + 1)) (itR_list (by first | (simp only [mirs, reduceIte, if_true, if_false, ite_true, ite_false, Bool.not_true, Bool.not_false, Bool.false_eq_true]; rfl) | simp only [mirs, reduceIte, if_true, if_false, ite_true, ite_false, Bool.not_true, Bool.not_false, Bool.false_eq_true])) (fun x _ => by unfold rowD; simp only [mirs, reduceIte, if_true, if_false, ite_true, ite_false, Bool.not_true, Bool.not_false, Bool.false_eq_true, lenR_tup])]
  have e : ((rr m).map fun x => PyData.int ((x.1.length : Int) + 1)) = ((rods m).map fun p => (p.length : Int) + 1).map PyData.int := by
    unfold rods rr
    rw [List.map_map, List.map_map]; rfl
  rw [bd_ok, e, addL_n (by have := (rods_le d).1; simp; omega)]
  have e2 := hgt_e d
  rw [List.map_cons] at e2
  simp only [mirs, reduceIte, if_true, if_false, ite_true, ite_false, Bool.not_true, Bool.not_false, Bool.false_eq_true, List.singleton_append, e2, same_int, q_turned d.z, q_law_turned 12 m (by have := d.dep; omega)]
  rw [same_enc (dep_tn m 9 (Nat.le_trans d.dep (by decide))) (by rw [sz_tn]; exact Nat.le_trans d.sz (by decide))]
  simp only [mirs, reduceIte, if_true, if_false, ite_true, ite_false, Bool.not_true, Bool.not_false, Bool.false_eq_true]
theorem r_y11 (r : List Sl) : y11 (st0 m r) = ok (.nx (st0 m r)) := by
  unfold y11
  refine if_no ?_
  have hz : Mo.sz (tn m) ≤ 40 := by rw [sz_tn]; exact d.sz
  have e : decide (tls ([], tn m) = []) = tb m := by
    unfold tb
    by_cases h : lvl m
    · rw [decide_eq_true (tls_nil.mpr h), decide_eq_true (tls_nil.mpr ((lvl_tn m).mpr h))]
    · rw [decide_eq_false fun e => h (tls_nil.mp e), decide_eq_false fun e => h ((lvl_tn m).mp (tls_nil.mp e))]
  simp only [mirs, reduceIte, if_true, if_false, ite_true, ite_false, Bool.not_true, Bool.not_false, Bool.false_eq_true, q_law_turned 12 m (by have := d.dep; omega), q_level (m := tn m) (by omega) (good_plc (good_tn m d.good)), e, eq_TD, same_bool, q_is_mobile (good_tn m d.good) (by omega) (dep_tn m 12 (Nat.le_trans d.dep (by decide))), beq_self_eq_true]
theorem r_y12 {post : Out → Prop} {a7 a8 : Sl} {r : List Sl} (h : ∀ q t, at_ q m = some t → post (.nx (st0 m (.dat (pD q) :: .dat (enc t) :: r)))) : y12 (st0 m (a7 :: a8 :: r)) post := by
  unfold y12
  have hl := d.lenP
  have hl1 : 1 ≤ (pre ([], m)).length := by rw [len_pre]; exact sz_pos m
  simp only [mirs, reduceIte, if_true, if_false, ite_true, ite_false, Bool.not_true, Bool.not_false, Bool.false_eq_true]
  refine drwZ (n := ((pre ([], m)).length : Int)) (getX_1 _ _ _) (by unfold st0 PD; simp only [mirs, reduceIte, if_true, if_false, ite_true, ite_false, Bool.not_true, Bool.not_false, Bool.false_eq_true, List.length_map]) (by omega) (by omega) fun k k1 k2 => ?_
  obtain ⟨k, rfl⟩ := Int.eq_ofNat_of_zero_le k1
  obtain ⟨x, hx⟩ : ∃ x, (pre ([], m))[k]? = some x := ⟨_, List.getElem?_eq_getElem (by omega)⟩
  have e : ixR (PD m) (.int (k : Int)) = ok (rowD x) := ixl_k (show ((pre ([], m)).map rowD)[k]? = some (rowD x) by rw [List.getElem?_map, hx]; rfl)
  simp only [mirs, reduceIte, if_true, if_false, ite_true, ite_false, Bool.not_true, Bool.not_false, Bool.false_eq_true, e]
  unfold rowD
  simp only [mirs, reduceIte, if_true, if_false, ite_true, ite_false, Bool.not_true, Bool.not_false, Bool.false_eq_true]
  exact h _ _ (pre_at (List.mem_of_getElem? hx))
omit d in
theorem r_y13 {post : Out → Prop} {a7 a8 a9 : Sl} {r : List Sl} (h : ∀ o, Drawn 1 o → post (.nx (st0 m (a7 :: a8 :: .dat (enc o) :: r)))) : y13 (st0 m (a7 :: a8 :: a9 :: r)) post := by
  unfold y13
  simp only [mirs, reduceIte, if_true, if_false, ite_true, ite_false, Bool.not_true, Bool.not_false, Bool.false_eq_true]
  rw [callX_e (j := 2) (n := 1) (ds := [.int ((1 : Nat) : Int)]) (by simp only [mirs, reduceIte, if_true, if_false, ite_true, ite_false, Bool.not_true, Bool.not_false, Bool.false_eq_true]; rfl) (getX_1 _ _ _) rfl]
  refine bdc (q_law_mobile 1 12 _ (by decide) fun o ho => ?_)
  exact h o ho
theorem put_small {q : List Nat} {t t' : Mob} (e : at_ q m = some t) (hs : Mo.sz t' ≤ 40) (hd : Mo.dep t' ≤ 3) : Mo.sz (put q m t') ≤ 1000 ∧ Mo.dep (put q m t') ≤ 9 ∧ q.length < 12 := by
  have h1 := put_sz_le t' e
  have h2 := put_dep_le t' 3 e d.dep hd
  have h3 := at_len e
  have := d.sz
  have := d.dep
  exact ⟨by omega, by omega, by omega⟩
theorem r_y14 {q : List Nat} {t o : Mob} (e : at_ q m = some t) (ho : Drawn 1 o) (r : List Sl) : y14 (st0 m (.dat (pD q) :: .dat (enc t) :: .dat (enc o) :: r)) = ok (.nx (st0 m (.dat (pD q) :: .dat (enc t) :: .dat (enc o) :: r))) := by
  unfold y14
  refine if_no ?_
  have hs := put_small d e (t' := o) (Nat.le_trans ho.sz (by decide)) (Nat.le_trans ho.dep (by decide))
  simp only [mirs, reduceIte, if_true, if_false, ite_true, ite_false, Bool.not_true, Bool.not_false, Bool.false_eq_true, q_with_part (t := o) e d.z, q_law_put 12 q m o t hs.2.2 e d.z, same_enc hs.2.1 hs.1]
end
end K01

namespace K01
open PySem PySem.Spec PyProof.Rows L2 Pu Mo
variable [Tb]
section
variable {m : Mob} (d : Dm m)
include d
theorem r_body {x : Mo.Row} (hx : x ∈ rr m) (a7 a8 a9 s10 s11 s14 : Sl) : ∃ s14', bd (gTupR 2 (gConsR (gSet 10) (gConsR (gSet 11) gNilR)) (rowD x) (st0 m [a7, a8, a9, s10, s11, .un, .un, s14, .un, .un])) body_ = ok (.nx (st0 m [a7, a8, a9, .dat (pD x.1), .dat (enc x.2), .un, .un, s14', .un, .un])) := by
  obtain ⟨hs, e, h1, h2, h3, h4⟩ := d.rod hx
  obtain ⟨q, t⟩ := x
  cases e
  refine ⟨.dat (enc (.r (rev1 hs))), ?_⟩
  have hg : Good (.r hs) := good_sub h1 d.good
  have hgr : Good (.r (rev1 hs)) := good_r.mpr ⟨good_rev (good_r.mp hg).1, fun p hp => by
    unfold rev1 at hp
    obtain ⟨r, hr, rfl⟩ := List.mem_map.mp hp
    exact (good_r.mp hg).2 r (List.mem_reverse.mp hr)⟩
  have hz : Mo.sz (.r (rev1 hs)) ≤ 40 := by rw [sz_rev1]; exact h2
  have hdq : Mo.dep (.r (rev1 hs)) ≤ 3 := by
    have h5 : ∀ (q : List Nat) (m t : Mob), at_ q m = some t → Mo.dep m ≤ 3 → Mo.dep t ≤ 3 := by
      intro q
      induction q with
      | nil => intro m t e h; cases e; exact h
      | cons k q ih =>
        intro m t e h
        cases m with
        | w i => cases e
        | r gs =>
          cases hk : gs[k]? with
          | none => rw [at_none hk] at e; cases e
          | some y =>
            rw [at_some hk] at e
            exact ih _ _ e (Nat.le_succ_of_le (dep_r.mp h _ (List.mem_of_getElem? hk)))
    have h6 := h5 q m _ h1 d.dep
    refine dep_r.mpr fun p hp => ?_
    unfold rev1 at hp
    obtain ⟨r, hr, rfl⟩ := List.mem_map.mp hp
    exact dep_r.mp h6 r (List.mem_reverse.mp hr)
  have hp := put_small d h1 hz hdq
  have hl : decide (tls ([], put q m (.r (rev1 hs))) = []) = tb m := by
    have := put_lvl h1 (tot_rev1 hs) lvl_rev1
    unfold tb
    by_cases h : lvl m
    · rw [decide_eq_true (tls_nil.mpr h), decide_eq_true (tls_nil.mpr (this.mpr h))]
    · rw [decide_eq_false fun e => h (tls_nil.mp e), decide_eq_false fun e => h (this.mp (tls_nil.mp e))]
  have hs9 : Mo.sz (put q m (.r (rev1 hs))) ≤ 900 := by
    rw [put_sz h1 (sz_rev1 hs)]; exact d.z
  unfold rowD
  simp only [mirs, reduceIte, if_true, if_false, ite_true, ite_false, Bool.not_true, Bool.not_false, Bool.false_eq_true]
  unfold body_ x0
  simp only [mirs, reduceIte, if_true, if_false, ite_true, ite_false, Bool.not_true, Bool.not_false, Bool.false_eq_true]
  rw [lcB (f := hkD) (l := hs.reverse) (h := fun p => hkD (-p.1, p.2)) (itR_tuple (by simp only [mirs, reduceIte, if_true, if_false, ite_true, ite_false, Bool.not_true, Bool.not_false, Bool.false_eq_true, enc_r]; rw [← List.map_reverse])) (fun p _ => by
    unfold hkD
    simp only [mirs, reduceIte, if_true, if_false, ite_true, ite_false, Bool.not_true, Bool.not_false, Bool.false_eq_true])]
  have er : PyData.tuple (hs.reverse.map fun p => hkD (-p.1, p.2)) = enc (.r (rev1 hs)) := by
    rw [enc_r, rev1, List.map_map]; rfl
  simp only [mirs, reduceIte, if_true, if_false, ite_true, ite_false, Bool.not_true, Bool.not_false, Bool.false_eq_true, er]
  rw [show x1 = x1 from rfl]
  unfold x1
  rw [if_no (by simp only [mirs, reduceIte, if_true, if_false, ite_true, ite_false, Bool.not_true, Bool.not_false, Bool.false_eq_true, q_turned_rod hs, same_enc (m := .r (rev1 hs)) (by omega) (by omega), q_turned_at h1 d.z, q_law_put 12 q m (.r (rev1 hs)) _ hp.2.2 h1 d.z, same_enc hp.2.1 hp.1])]
  rw [bd_ok, nxt_nx]
  unfold x2
  rw [if_no (by simp only [mirs, reduceIte, if_true, if_false, ite_true, ite_false, Bool.not_true, Bool.not_false, Bool.false_eq_true, eq_TD, q_law_put 12 q m (.r (rev1 hs)) _ hp.2.2 h1 d.z, q_level hs9 (good_plc (good_put h1 d.good hgr)), hl, ne_bools, beq_self_eq_true])]
theorem r_loop (a7 a8 a9 : Sl) : ∀ (L : List Mo.Row) (s10 s11 s14 : Sl), (∀ x ∈ L, x ∈ rr m) → ∃ t10 t11 t14, forF (gTupR 2 (gConsR (gSet 10) (gConsR (gSet 11) gNilR))) body_ (L.map rowD) (st0 m [a7, a8, a9, s10, s11, .un, .un, s14, .un, .un]) = ok (.nx (st0 m [a7, a8, a9, t10, t11, .un, .un, t14, .un, .un]))
  | [], s10, s11, s14, _ => ⟨s10, s11, s14, rfl⟩
  | x :: L, s10, s11, s14, h => by
    obtain ⟨s14', h1⟩ := r_body d (h x List.mem_cons_self) a7 a8 a9 s10 s11 s14
    obtain ⟨a, b, c, h2⟩ := r_loop a7 a8 a9 L (.dat (pD x.1)) (.dat (enc x.2)) s14' fun y hy => h y (List.mem_cons_of_mem _ hy)
    refine ⟨a, b, c, ?_⟩
    rw [List.map_cons, forF, ← bd_bd, h1, bd_ok, lpO_nx, h2]
theorem r_y15 (a7 a8 a9 : Sl) : ∃ t10 t11 t14, y15 (st0 m [a7, a8, a9, .un, .un, .un, .un, .un, .un, .un]) = ok (.nx (st0 m [a7, a8, a9, t10, t11, .un, .un, t14, .un, .un])) := by
  obtain ⟨a, b, c, h⟩ := r_loop d a7 a8 a9 (rr m) .un .un .un fun x hx => hx
  refine ⟨a, b, c, ?_⟩
  unfold y15
  rw [forM_e, itR_list (l := (rr m).map rowD) (by first | (simp only [mirs, reduceIte, if_true, if_false, ite_true, ite_false, Bool.not_true, Bool.not_false, Bool.false_eq_true]; rfl) | simp only [mirs, reduceIte, if_true, if_false, ite_true, ite_false, Bool.not_true, Bool.not_false, Bool.false_eq_true]), bd_ok, h]
theorem r_y16 {q : List Nat} {t : Mob} (e : at_ q m = some t) (a9 t10 t11 t14 : Sl) : y16 (st0 m [.dat (pD q), .dat (enc t), a9, t10, t11, .un, .un, t14, .un, .un]) = ok (.nx (st0 m [.dat (pD q), .dat (enc t), a9, t10, t11, .dat (.int (tot t)), .un, t14, .un, .un])) := by
  unfold y16
  simp only [mirs, reduceIte, if_true, if_false, ite_true, ite_false, Bool.not_true, Bool.not_false, Bool.false_eq_true, q_law_total 12 t (by have := (d.atz e).2.1; omega)]
theorem r_y17 {q : List Nat} {t : Mob} (a9 t10 t11 t14 : Sl) : y17 (st0 m [.dat (pD q), .dat (enc t), a9, t10, t11, .dat (.int (tot t)), .un, t14, .un, .un]) = ok (.nx (st0 m [.dat (pD q), .dat (enc t), a9, t10, t11, .dat (.int (tot t)), .dat (.tuple (((tls ([], m)).filter fun r => decide (r.take q.length ≠ q)).map pD)), t14, .un, .un])) := by
  unfold y17
  simp only [mirs, reduceIte, if_true, if_false, ite_true, ite_false, Bool.not_true, Bool.not_false, Bool.false_eq_true]
  rw [lcT (f := pD) (l := tls ([], m)) (p := fun r => decide (r.take q.length ≠ q)) (h := pD) (σ := fun r => st0 m [.dat (pD q), .dat (enc t), a9, .dat (pD r), t11, .dat (.int (tot t)), .un, t14, .un, .un]) (itR_tuple (by first | (simp only [mirs, reduceIte, if_true, if_false, ite_true, ite_false, Bool.not_true, Bool.not_false, Bool.false_eq_true]; rfl) | simp only [mirs, reduceIte, if_true, if_false, ite_true, ite_false, Bool.not_true, Bool.not_false, Bool.false_eq_true])) (fun r _ => by simp only [mirs, reduceIte, if_true, if_false, ite_true, ite_false, Bool.not_true, Bool.not_false, Bool.false_eq_true]) (fun r _ => by
    simp only [mirs, reduceIte, if_true, if_false, ite_true, ite_false, Bool.not_true, Bool.not_false, Bool.false_eq_true, lenR_tup]
    rw [show slR (pD r) none (some (q.length : Int)) = ok (pD (r.take q.length)) from by rw [slR_tup, cut_lo]]
    simp only [mirs, reduceIte, if_true, if_false, ite_true, ite_false, Bool.not_true, Bool.not_false, Bool.false_eq_true, ne_tuN]
    simp) (fun r _ _ => by simp only [mirs, reduceIte, if_true, if_false, ite_true, ite_false, Bool.not_true, Bool.not_false, Bool.false_eq_true])]
  simp only [mirs, reduceIte, if_true, if_false, ite_true, ite_false, Bool.not_true, Bool.not_false, Bool.false_eq_true]
theorem r_y18 {q : List Nat} {t : Mob} (e : at_ q m = some t) (a9 t10 t11 t14 : Sl) : y18 (st0 m [.dat (pD q), .dat (enc t), a9, t10, t11, .dat (.int (tot t)), .dat (.tuple (((tls ([], m)).filter fun r => decide (r.take q.length ≠ q)).map pD)), t14, .un, .un]) = ok (.rt (.bool true)) := by
  unfold y18
  simp only [mirs, reduceIte, if_true, if_false, ite_true, ite_false, Bool.not_true, Bool.not_false, Bool.false_eq_true]
  by_cases h : tot t ≤ 1000
  · rw [if_pos (by simpa using h)]
    have ht := good_tot t (good_sub e d.good)
    have hp := put_small d e (t' := .w (tot t)) (by rw [sz_w]; decide) (by rw [dep_w]; decide)
    have hz := put_sz_le (.w (tot t)) e
    rw [sz_w] at hz
    have e1 := q_law_put 12 q m (.w (tot t)) t hp.2.2 e d.z
    rw [enc_w] at e1
    have e2 := put_tls (tot t) (p := []) e rfl
    rw [List.nil_append] at e2
    have hl : (((tls ([], m)).filter fun r => decide (r.take q.length ≠ q))).length ≤ 40 := Nat.le_trans (List.length_filter_le _ _) (tls_le d).1
    simp only [mirs, reduceIte, if_true, if_false, ite_true, ite_false, Bool.not_true, Bool.not_false, Bool.false_eq_true, e1, q_tilted (m := put q m (.w (tot t))) (by have := d.sz; omega) (good_plc (good_put e d.good (good_w.mpr ⟨ht.1, h⟩)))]
    rw [e2, same_paths (by omega) fun p hp => (tls_le d).2 p (List.mem_filter.mp hp).1]
    simp only [mirs, reduceIte, if_true, if_false, ite_true, ite_false, Bool.not_true, Bool.not_false, Bool.false_eq_true]
  · rw [if_neg (by simpa using h)]
    simp only [mirs, reduceIte, if_true, if_false, ite_true, ite_false, Bool.not_true, Bool.not_false, Bool.false_eq_true]
end
theorem law_true : g_law (.un :: .box 2 :: List.replicate 15 .un) fun o => o = .rt (.bool true) := by
  rw [g_law_cut, seqM_e]
  show bd (y0 (.un :: .box 2 :: .un :: List.replicate 14 .un)) _ _
  refine bdc (r_y0 (fun m d => ?_) _)
  rw [nxt_nx]
  show (seqM y1 _) (.un :: .box 2 :: .dat (enc m) :: [.un, .un, .un, .un, .un, .un, .un, .un, .un, .un, .un, .un, .un, .un]) _
  rw [seqM_e, r_y1 d, bd_ok, nxt_nx, seqM_e, r_y2 d, bd_ok, nxt_nx, seqM_e, r_y3 d, bd_ok, nxt_nx, seqM_e, r_y4 d, bd_ok, nxt_nx, seqM_e, r_y5 d, bd_ok, nxt_nx, seqM_e, r_y6 d, bd_ok, nxt_nx, seqM_e, r_y7 d, bd_ok, nxt_nx, seqM_e, r_y8 d, bd_ok, nxt_nx]
  show (seqM y9 _) (st0 m [.un, .un, .un, .un, .un, .un, .un, .un, .un, .un]) _
  rw [seqM_e, r_y9 d, bd_ok, nxt_nx, seqM_e, r_y10 d, bd_ok, nxt_nx, seqM_e, r_y11 d, bd_ok, nxt_nx, seqM_e]
  refine bdc (r_y12 d fun q t e => ?_)
  rw [nxt_nx, seqM_e]
  refine bdc (r_y13 fun o ho => ?_)
  obtain ⟨a, b, c, h15⟩ := r_y15 d (.dat (pD q)) (.dat (enc t)) (.dat (enc o))
  rw [nxt_nx, seqM_e, r_y14 d e ho, bd_ok, nxt_nx, seqM_e, h15, bd_ok, nxt_nx, seqM_e, r_y16 d e, bd_ok, nxt_nx, seqM_e, r_y17 d, bd_ok, nxt_nx, r_y18 d e]
  rfl
end K01

namespace K01
open PySem PySem.Spec PyProof.Rows L2 Pu
variable [Tb]
theorem facts_mk {K : PySem.W.Frag} {h : Heap} {mg : Str → Option Value} (X : K.In h) (G : h.Ns mainGlobals mg) (kc : Tb.kc = false)
  {f0 : Addr} {oc0 kV0 dc0 pm0 cd0 ct0 : Value} {od0 an0 : Option Addr} {sl0 : Array (Option Value)} {f1 : Addr} {oc1 kV1 dc1 pm1 cd1 ct1 : Value} {od1 an1 : Option Addr} {sl1 : Array (Option Value)} {f2 : Addr} {oc2 kV2 dc2 pm2 cd2 ct2 : Value} {od2 an2 : Option Addr} {sl2 : Array (Option Value)} {f3 : Addr} {oc3 kV3 dc3 pm3 cd3 ct3 : Value} {od3 an3 : Option Addr} {sl3 : Array (Option Value)} {f4 : Addr} {oc4 kV4 dc4 pm4 cd4 ct4 : Value} {od4 an4 : Option Addr} {sl4 : Array (Option Value)} {f5 : Addr} {oc5 kV5 dc5 pm5 cd5 ct5 : Value} {od5 an5 : Option Addr} {sl5 : Array (Option Value)} {f6 : Addr} {oc6 kV6 dc6 pm6 cd6 ct6 : Value} {od6 an6 : Option Addr} {sl6 : Array (Option Value)} {f7 : Addr} {oc7 kV7 dc7 pm7 cd7 ct7 : Value} {od7 an7 : Option Addr} {sl7 : Array (Option Value)} {f8 : Addr} {oc8 kV8 dc8 pm8 cd8 ct8 : Value} {od8 an8 : Option Addr} {sl8 : Array (Option Value)} {f9 : Addr} {oc9 kV9 dc9 pm9 cd9 ct9 : Value} {od9 an9 : Option Addr} {sl9 : Array (Option Value)} {f10 : Addr} {oc10 kV10 dc10 pm10 cd10 ct10 : Value} {od10 an10 : Option Addr} {sl10 : Array (Option Value)} {f11 : Addr} {oc11 kV11 dc11 pm11 cd11 ct11 : Value} {od11 an11 : Option Addr} {sl11 : Array (Option Value)} {f12 : Addr} {oc12 kV12 dc12 pm12 cd12 ct12 : Value} {od12 an12 : Option Addr} {sl12 : Array (Option Value)} {f13 : Addr} {oc13 kV13 dc13 pm13 cd13 ct13 : Value} {od13 an13 : Option Addr} {sl13 : Array (Option Value)} {f14 : Addr} {oc14 kV14 dc14 pm14 cd14 ct14 : Value} {od14 an14 : Option Addr} {sl14 : Array (Option Value)} {f15 : Addr} {oc15 kV15 dc15 pm15 cd15 ct15 : Value} {od15 an15 : Option Addr} {sl15 : Array (Option Value)} {f16 : Addr} {oc16 kV16 dc16 pm16 cd16 ct16 : Value} {od16 an16 : Option Addr} {sl16 : Array (Option Value)} {f17 : Addr} {oc17 kV17 dc17 pm17 cd17 ct17 : Value} {od17 an17 : Option Addr} {sl17 : Array (Option Value)} {f18 : Addr} {oc18 kV18 dc18 pm18 cd18 ct18 : Value} {od18 an18 : Option Addr} {sl18 : Array (Option Value)} {f19 : Addr} {oc19 kV19 dc19 pm19 cd19 ct19 : Value} {od19 an19 : Option Addr} {sl19 : Array (Option Value)} {f20 : Addr} {oc20 kV20 dc20 pm20 cd20 ct20 : Value} {od20 an20 : Option Addr} {sl20 : Array (Option Value)} {f21 : Addr} {oc21 kV21 dc21 pm21 cd21 ct21 : Value} {od21 an21 : Option Addr} {sl21 : Array (Option Value)} {f22 : Addr} {oc22 kV22 dc22 pm22 cd22 ct22 : Value} {od22 an22 : Option Addr} {sl22 : Array (Option Value)} {f23 : Addr} {oc23 kV23 dc23 pm23 cd23 ct23 : Value} {od23 an23 : Option Addr} {sl23 : Array (Option Value)} {f24 : Addr} {oc24 kV24 dc24 pm24 cd24 ct24 : Value} {od24 an24 : Option Addr} {sl24 : Array (Option Value)} {f25 : Addr} {oc25 kV25 dc25 pm25 cd25 ct25 : Value} {od25 an25 : Option Addr} {sl25 : Array (Option Value)} {f26 : Addr} {oc26 kV26 dc26 pm26 cd26 ct26 : Value} {od26 an26 : Option Addr} {sl26 : Array (Option Value)} {f27 : Addr} {oc27 kV27 dc27 pm27 cd27 ct27 : Value} {od27 an27 : Option Addr} {sl27 : Array (Option Value)} {f28 : Addr} {oc28 kV28 dc28 pm28 cd28 ct28 : Value} {od28 an28 : Option Addr} {sl28 : Array (Option Value)} {f29 : Addr} {oc29 kV29 dc29 pm29 cd29 ct29 : Value} {od29 an29 : Option Addr} {sl29 : Array (Option Value)} {f30 : Addr} {oc30 kV30 dc30 pm30 cd30 ct30 : Value} {od30 an30 : Option Addr} {sl30 : Array (Option Value)} {f31 : Addr} {oc31 kV31 dc31 pm31 cd31 ct31 : Value} {od31 an31 : Option Addr} {sl31 : Array (Option Value)} {t0 : Tok} {t1 : Tok} {t2 : Tok} {t3 : Tok} {t4 : Tok}
  (a0 : PySem.W.nsIn K mainGlobals "is_number" = some (some (.ref f0))) (l0 : K.lookup f0 = some ⟨oc0, od0, .func (PySem.W.fnOf "is_number" "is_number" (defArgs s_is_number) (defBody s_is_number) (defScope s_is_number) .none kV0 dc0 pm0 an0 cd0 ct0), sl0⟩) (c0 : PySem.W.codeIn K cd0 "is_number" = true) (k0 : PySem.W.keepIn K (.ref f0) = true)
  (a1 : PySem.W.nsIn K mainGlobals "is_ascending" = some (some (.ref f1))) (l1 : K.lookup f1 = some ⟨oc1, od1, .func (PySem.W.fnOf "is_ascending" "is_ascending" (defArgs s_is_ascending) (defBody s_is_ascending) (defScope s_is_ascending) .none kV1 dc1 pm1 an1 cd1 ct1), sl1⟩) (c1 : PySem.W.codeIn K cd1 "is_ascending" = true) (k1 : PySem.W.keepIn K (.ref f1) = true)
  (a2 : PySem.W.nsIn K mainGlobals "is_weight" = some (some (.ref f2))) (l2 : K.lookup f2 = some ⟨oc2, od2, .func (PySem.W.fnOf "is_weight" "is_weight" (defArgs s_is_weight) (defBody s_is_weight) (defScope s_is_weight) .none kV2 dc2 pm2 an2 cd2 ct2), sl2⟩) (c2 : PySem.W.codeIn K cd2 "is_weight" = true) (k2 : PySem.W.keepIn K (.ref f2) = true)
  (a3 : PySem.W.nsIn K mainGlobals "is_hook" = some (some (.ref f3))) (l3 : K.lookup f3 = some ⟨oc3, od3, .func (PySem.W.fnOf "is_hook" "is_hook" (defArgs s_is_hook) (defBody s_is_hook) (defScope s_is_hook) .none kV3 dc3 pm3 an3 cd3 ct3), sl3⟩) (c3 : PySem.W.codeIn K cd3 "is_hook" = true) (k3 : PySem.W.keepIn K (.ref f3) = true)
  (a4 : PySem.W.nsIn K mainGlobals "is_bare_rod" = some (some (.ref f4))) (l4 : K.lookup f4 = some ⟨oc4, od4, .func (PySem.W.fnOf "is_bare_rod" "is_bare_rod" (defArgs s_is_bare_rod) (defBody s_is_bare_rod) (defScope s_is_bare_rod) .none kV4 dc4 pm4 an4 cd4 ct4), sl4⟩) (c4 : PySem.W.codeIn K cd4 "is_bare_rod" = true) (k4 : PySem.W.keepIn K (.ref f4) = true)
  (a5 : PySem.W.nsIn K mainGlobals "is_mobile" = some (some (.ref f5))) (l5 : K.lookup f5 = some ⟨oc5, od5, .func (PySem.W.fnOf "is_mobile" "is_mobile" (defArgs s_is_mobile) (defBody s_is_mobile) (defScope s_is_mobile) .none kV5 dc5 pm5 an5 cd5 ct5), sl5⟩) (c5 : PySem.W.codeIn K cd5 "is_mobile" = true) (k5 : PySem.W.keepIn K (.ref f5) = true)
  (a6 : PySem.W.nsIn K mainGlobals "is_rod" = some (some (.ref f6))) (l6 : K.lookup f6 = some ⟨oc6, od6, .func (PySem.W.fnOf "is_rod" "is_rod" (defArgs s_is_rod) (defBody s_is_rod) (defScope s_is_rod) .none kV6 dc6 pm6 an6 cd6 ct6), sl6⟩) (c6 : PySem.W.codeIn K cd6 "is_rod" = true) (k6 : PySem.W.keepIn K (.ref f6) = true)
  (a7 : PySem.W.nsIn K mainGlobals "all_paths" = some (some (.ref f7))) (l7 : K.lookup f7 = some ⟨oc7, od7, .func (PySem.W.fnOf "all_paths" "all_paths" (defArgs s_all_paths) (defBody s_all_paths) (defScope s_all_paths) .none kV7 dc7 pm7 an7 cd7 ct7), sl7⟩) (c7 : PySem.W.codeIn K cd7 "all_paths" = true) (k7 : PySem.W.keepIn K (.ref f7) = true)
  (a8 : PySem.W.nsIn K mainGlobals "part_at" = some (some (.ref f8))) (l8 : K.lookup f8 = some ⟨oc8, od8, .func (PySem.W.fnOf "part_at" "part_at" (defArgs s_part_at) (defBody s_part_at) (defScope s_part_at) .none kV8 dc8 pm8 an8 cd8 ct8), sl8⟩) (c8 : PySem.W.codeIn K cd8 "part_at" = true) (k8 : PySem.W.keepIn K (.ref f8) = true)
  (a9 : PySem.W.nsIn K mainGlobals "with_part" = some (some (.ref f9))) (l9 : K.lookup f9 = some ⟨oc9, od9, .func (PySem.W.fnOf "with_part" "with_part" (defArgs s_with_part) (defBody s_with_part) (defScope s_with_part) .none kV9 dc9 pm9 an9 cd9 ct9), sl9⟩) (c9 : PySem.W.codeIn K cd9 "with_part" = true) (k9 : PySem.W.keepIn K (.ref f9) = true)
  (a10 : PySem.W.nsIn K mainGlobals "rods_of" = some (some (.ref f10))) (l10 : K.lookup f10 = some ⟨oc10, od10, .func (PySem.W.fnOf "rods_of" "rods_of" (defArgs s_rods_of) (defBody s_rods_of) (defScope s_rods_of) .none kV10 dc10 pm10 an10 cd10 ct10), sl10⟩) (c10 : PySem.W.codeIn K cd10 "rods_of" = true) (k10 : PySem.W.keepIn K (.ref f10) = true)
  (a11 : PySem.W.nsIn K mainGlobals "weights_of" = some (some (.ref f11))) (l11 : K.lookup f11 = some ⟨oc11, od11, .func (PySem.W.fnOf "weights_of" "weights_of" (defArgs s_weights_of) (defBody s_weights_of) (defScope s_weights_of) .none kV11 dc11 pm11 an11 cd11 ct11), sl11⟩) (c11 : PySem.W.codeIn K cd11 "weights_of" = true) (k11 : PySem.W.keepIn K (.ref f11) = true)
  (a12 : PySem.W.nsIn K mainGlobals "total" = some (some (.ref f12))) (l12 : K.lookup f12 = some ⟨oc12, od12, .func (PySem.W.fnOf "total" "total" (defArgs s_total) (defBody s_total) (defScope s_total) .none kV12 dc12 pm12 an12 cd12 ct12), sl12⟩) (c12 : PySem.W.codeIn K cd12 "total" = true) (k12 : PySem.W.keepIn K (.ref f12) = true)
  (a13 : PySem.W.nsIn K mainGlobals "moment_of" = some (some (.ref f13))) (l13 : K.lookup f13 = some ⟨oc13, od13, .func (PySem.W.fnOf "moment_of" "moment_of" (defArgs s_moment_of) (defBody s_moment_of) (defScope s_moment_of) .none kV13 dc13 pm13 an13 cd13 ct13), sl13⟩) (c13 : PySem.W.codeIn K cd13 "moment_of" = true) (k13 : PySem.W.keepIn K (.ref f13) = true)
  (a14 : PySem.W.nsIn K mainGlobals "tilted_rods" = some (some (.ref f14))) (l14 : K.lookup f14 = some ⟨oc14, od14, .func (PySem.W.fnOf "tilted_rods" "tilted_rods" (defArgs s_tilted_rods) (defBody s_tilted_rods) (defScope s_tilted_rods) .none kV14 dc14 pm14 an14 cd14 ct14), sl14⟩) (c14 : PySem.W.codeIn K cd14 "tilted_rods" = true) (k14 : PySem.W.keepIn K (.ref f14) = true)
  (a15 : PySem.W.nsIn K mainGlobals "hangs_level" = some (some (.ref f15))) (l15 : K.lookup f15 = some ⟨oc15, od15, .func (PySem.W.fnOf "hangs_level" "hangs_level" (defArgs s_hangs_level) (defBody s_hangs_level) (defScope s_hangs_level) .none kV15 dc15 pm15 an15 cd15 ct15), sl15⟩) (c15 : PySem.W.codeIn K cd15 "hangs_level" = true) (k15 : PySem.W.keepIn K (.ref f15) = true)
  (a16 : PySem.W.nsIn K mainGlobals "height_of" = some (some (.ref f16))) (l16 : K.lookup f16 = some ⟨oc16, od16, .func (PySem.W.fnOf "height_of" "height_of" (defArgs s_height_of) (defBody s_height_of) (defScope s_height_of) .none kV16 dc16 pm16 an16 cd16 ct16), sl16⟩) (c16 : PySem.W.codeIn K cd16 "height_of" = true) (k16 : PySem.W.keepIn K (.ref f16) = true)
  (a17 : PySem.W.nsIn K mainGlobals "turned_rod" = some (some (.ref f17))) (l17 : K.lookup f17 = some ⟨oc17, od17, .func (PySem.W.fnOf "turned_rod" "turned_rod" (defArgs s_turned_rod) (defBody s_turned_rod) (defScope s_turned_rod) .none kV17 dc17 pm17 an17 cd17 ct17), sl17⟩) (c17 : PySem.W.codeIn K cd17 "turned_rod" = true) (k17 : PySem.W.keepIn K (.ref f17) = true)
  (a18 : PySem.W.nsIn K mainGlobals "turned_at" = some (some (.ref f18))) (l18 : K.lookup f18 = some ⟨oc18, od18, .func (PySem.W.fnOf "turned_at" "turned_at" (defArgs s_turned_at) (defBody s_turned_at) (defScope s_turned_at) .none kV18 dc18 pm18 an18 cd18 ct18), sl18⟩) (c18 : PySem.W.codeIn K cd18 "turned_at" = true) (k18 : PySem.W.keepIn K (.ref f18) = true)
  (a19 : PySem.W.nsIn K mainGlobals "turned" = some (some (.ref f19))) (l19 : K.lookup f19 = some ⟨oc19, od19, .func (PySem.W.fnOf "turned" "turned" (defArgs s_turned) (defBody s_turned) (defScope s_turned) .none kV19 dc19 pm19 an19 cd19 ct19), sl19⟩) (c19 : PySem.W.codeIn K cd19 "turned" = true) (k19 : PySem.W.keepIn K (.ref f19) = true)
  (a20 : PySem.W.nsIn K mainGlobals "_law_box" = some (some (.ref f20))) (l20 : K.lookup f20 = some ⟨oc20, od20, .func (PySem.W.fnOf "_law_box" "_law_box" (defArgs s_law_box) (defBody s_law_box) (defScope s_law_box) .none kV20 dc20 pm20 an20 cd20 ct20), sl20⟩) (c20 : PySem.W.codeIn K cd20 "_law_box" = true) (k20 : PySem.W.keepIn K (.ref f20) = true)
  (a21 : PySem.W.nsIn K mainGlobals "_law_load" = some (some (.ref f21))) (l21 : K.lookup f21 = some ⟨oc21, od21, .func (PySem.W.fnOf "_law_load" "_law_load" (defArgs s_law_load) (defBody s_law_load) (defScope s_law_load) .none kV21 dc21 pm21 an21 cd21 ct21), sl21⟩) (c21 : PySem.W.codeIn K cd21 "_law_load" = true) (k21 : PySem.W.keepIn K (.ref f21) = true)
  (a22 : PySem.W.nsIn K mainGlobals "_law_draw" = some (some (.ref f22))) (l22 : K.lookup f22 = some ⟨oc22, od22, .func (PySem.W.fnOf "_law_draw" "_law_draw" (defArgs s_law_draw) (defBody s_law_draw) (defScope s_law_draw) .none kV22 dc22 pm22 an22 cd22 ct22), sl22⟩) (c22 : PySem.W.codeIn K cd22 "_law_draw" = true) (k22 : PySem.W.keepIn K (.ref f22) = true)
  (a23 : PySem.W.nsIn K mainGlobals "_law_same" = some (some (.ref f23))) (l23 : K.lookup f23 = some ⟨oc23, od23, .func (PySem.W.fnOf "_law_same" "_law_same" (defArgs s_law_same) (defBody s_law_same) (defScope s_law_same) .none kV23 dc23 pm23 an23 cd23 ct23), sl23⟩) (c23 : PySem.W.codeIn K cd23 "_law_same" = true) (k23 : PySem.W.keepIn K (.ref f23) = true)
  (a24 : PySem.W.nsIn K mainGlobals "_law_mobile" = some (some (.ref f24))) (l24 : K.lookup f24 = some ⟨oc24, od24, .func (PySem.W.fnOf "_law_mobile" "_law_mobile" (defArgs s_law_mobile) (defBody s_law_mobile) (defScope s_law_mobile) .none kV24 dc24 pm24 an24 cd24 ct24), sl24⟩) (c24 : PySem.W.codeIn K cd24 "_law_mobile" = true) (k24 : PySem.W.keepIn K (.ref f24) = true)
  (a25 : PySem.W.nsIn K mainGlobals "_law_total" = some (some (.ref f25))) (l25 : K.lookup f25 = some ⟨oc25, od25, .func (PySem.W.fnOf "_law_total" "_law_total" (defArgs s_law_total) (defBody s_law_total) (defScope s_law_total) .none kV25 dc25 pm25 an25 cd25 ct25), sl25⟩) (c25 : PySem.W.codeIn K cd25 "_law_total" = true) (k25 : PySem.W.keepIn K (.ref f25) = true)
  (a26 : PySem.W.nsIn K mainGlobals "_law_level" = some (some (.ref f26))) (l26 : K.lookup f26 = some ⟨oc26, od26, .func (PySem.W.fnOf "_law_level" "_law_level" (defArgs s_law_level) (defBody s_law_level) (defScope s_law_level) .none kV26 dc26 pm26 an26 cd26 ct26), sl26⟩) (c26 : PySem.W.codeIn K cd26 "_law_level" = true) (k26 : PySem.W.keepIn K (.ref f26) = true)
  (a27 : PySem.W.nsIn K mainGlobals "_law_moment" = some (some (.ref f27))) (l27 : K.lookup f27 = some ⟨oc27, od27, .func (PySem.W.fnOf "_law_moment" "_law_moment" (defArgs s_law_moment) (defBody s_law_moment) (defScope s_law_moment) .none kV27 dc27 pm27 an27 cd27 ct27), sl27⟩) (c27 : PySem.W.codeIn K cd27 "_law_moment" = true) (k27 : PySem.W.keepIn K (.ref f27) = true)
  (a28 : PySem.W.nsIn K mainGlobals "_law_parts" = some (some (.ref f28))) (l28 : K.lookup f28 = some ⟨oc28, od28, .func (PySem.W.fnOf "_law_parts" "_law_parts" (defArgs s_law_parts) (defBody s_law_parts) (defScope s_law_parts) .none kV28 dc28 pm28 an28 cd28 ct28), sl28⟩) (c28 : PySem.W.codeIn K cd28 "_law_parts" = true) (k28 : PySem.W.keepIn K (.ref f28) = true)
  (a29 : PySem.W.nsIn K mainGlobals "_law_turned" = some (some (.ref f29))) (l29 : K.lookup f29 = some ⟨oc29, od29, .func (PySem.W.fnOf "_law_turned" "_law_turned" (defArgs s_law_turned) (defBody s_law_turned) (defScope s_law_turned) .none kV29 dc29 pm29 an29 cd29 ct29), sl29⟩) (c29 : PySem.W.codeIn K cd29 "_law_turned" = true) (k29 : PySem.W.keepIn K (.ref f29) = true)
  (a30 : PySem.W.nsIn K mainGlobals "_law_put" = some (some (.ref f30))) (l30 : K.lookup f30 = some ⟨oc30, od30, .func (PySem.W.fnOf "_law_put" "_law_put" (defArgs s_law_put) (defBody s_law_put) (defScope s_law_put) .none kV30 dc30 pm30 an30 cd30 ct30), sl30⟩) (c30 : PySem.W.codeIn K cd30 "_law_put" = true) (k30 : PySem.W.keepIn K (.ref f30) = true)
  (a31 : PySem.W.nsIn K mainGlobals "law" = some (some (.ref f31))) (l31 : K.lookup f31 = some ⟨oc31, od31, .func (PySem.W.fnOf "law" "law" (defArgs s_law) (defBody s_law) (defScope s_law) .none kV31 dc31 pm31 an31 cd31 ct31), sl31⟩) (c31 : PySem.W.codeIn K cd31 "law" = true) (k31 : PySem.W.keepIn K (.ref f31) = true)
  (z0 : PySem.W.nsIn K mainGlobals "all" = some none)
  (z1 : PySem.W.nsIn K mainGlobals "bool" = some none)
  (z2 : PySem.W.nsIn K mainGlobals "enumerate" = some none)
  (z3 : PySem.W.nsIn K mainGlobals "int" = some none)
  (z4 : PySem.W.nsIn K mainGlobals "isinstance" = some none)
  (z5 : PySem.W.nsIn K mainGlobals "len" = some none)
  (z6 : PySem.W.nsIn K mainGlobals "list" = some none)
  (z7 : PySem.W.nsIn K mainGlobals "max" = some none)
  (z8 : PySem.W.nsIn K mainGlobals "range" = some none)
  (z9 : PySem.W.nsIn K mainGlobals "set" = some none)
  (z10 : PySem.W.nsIn K mainGlobals "sorted" = some none)
  (z11 : PySem.W.nsIn K mainGlobals "str" = some none)
  (z12 : PySem.W.nsIn K mainGlobals "sum" = some none)
  (z13 : PySem.W.nsIn K mainGlobals "tuple" = some none)
  (z14 : PySem.W.nsIn K mainGlobals "zip" = some none)
  (y0 : PySem.W.nsIn K mainGlobals "FARTHEST" = some (some (.int (50) t0)))
  (y1 : PySem.W.nsIn K mainGlobals "MOST_DEEP" = some (some (.int (12) t1)))
  (y2 : PySem.W.nsIn K mainGlobals "MOST_HOOKS" = some (some (.int (6) t2)))
  (y3 : PySem.W.nsIn K mainGlobals "MOST_WEIGHT" = some (some (.int (1000) t3)))
  (y4 : PySem.W.nsIn K mainGlobals "MOST_WEIGHTS" = some (some (.int (60) t4))) : Facts K mg where
  kc := kc
  f_is_number := ⟨f0, _, PySem.W.mg_of X G a0, fun_mk (st := s_is_number) l0 c0 k0, (fun_mk (st := s_is_number) l0 c0 k0).binds (ps := ["value", "least", "most"]) fun _ _ _ _ _ _ us hl => match us, hl with | [_, _, _], _ => rfl⟩
  f_is_ascending := ⟨f1, _, PySem.W.mg_of X G a1, fun_mk (st := s_is_ascending) l1 c1 k1, (fun_mk (st := s_is_ascending) l1 c1 k1).binds (ps := ["rows"]) fun _ _ _ _ _ _ us hl => match us, hl with | [_], _ => rfl⟩
  f_is_weight := ⟨f2, _, PySem.W.mg_of X G a2, fun_mk (st := s_is_weight) l2 c2 k2, (fun_mk (st := s_is_weight) l2 c2 k2).binds (ps := ["value"]) fun _ _ _ _ _ _ us hl => match us, hl with | [_], _ => rfl⟩
  f_is_hook := ⟨f3, _, PySem.W.mg_of X G a3, fun_mk (st := s_is_hook) l3 c3 k3, (fun_mk (st := s_is_hook) l3 c3 k3).binds (ps := ["value"]) fun _ _ _ _ _ _ us hl => match us, hl with | [_], _ => rfl⟩
  f_is_bare_rod := ⟨f4, _, PySem.W.mg_of X G a4, fun_mk (st := s_is_bare_rod) l4 c4 k4, (fun_mk (st := s_is_bare_rod) l4 c4 k4).binds (ps := ["value"]) fun _ _ _ _ _ _ us hl => match us, hl with | [_], _ => rfl⟩
  f_is_mobile := ⟨f5, _, PySem.W.mg_of X G a5, fun_mk (st := s_is_mobile) l5 c5 k5, (fun_mk (st := s_is_mobile) l5 c5 k5).binds (ps := ["value"]) fun _ _ _ _ _ _ us hl => match us, hl with | [_], _ => rfl⟩
  f_is_rod := ⟨f6, _, PySem.W.mg_of X G a6, fun_mk (st := s_is_rod) l6 c6 k6, (fun_mk (st := s_is_rod) l6 c6 k6).binds (ps := ["mobile"]) fun _ _ _ _ _ _ us hl => match us, hl with | [_], _ => rfl⟩
  f_all_paths := ⟨f7, _, PySem.W.mg_of X G a7, fun_mk (st := s_all_paths) l7 c7 k7, (fun_mk (st := s_all_paths) l7 c7 k7).binds (ps := ["mobile"]) fun _ _ _ _ _ _ us hl => match us, hl with | [_], _ => rfl⟩
  f_part_at := ⟨f8, _, PySem.W.mg_of X G a8, fun_mk (st := s_part_at) l8 c8 k8, (fun_mk (st := s_part_at) l8 c8 k8).binds (ps := ["mobile", "path"]) fun _ _ _ _ _ _ us hl => match us, hl with | [_, _], _ => rfl⟩
  f_with_part := ⟨f9, _, PySem.W.mg_of X G a9, fun_mk (st := s_with_part) l9 c9 k9, (fun_mk (st := s_with_part) l9 c9 k9).binds (ps := ["mobile", "path", "part"]) fun _ _ _ _ _ _ us hl => match us, hl with | [_, _, _], _ => rfl⟩
  f_rods_of := ⟨f10, _, PySem.W.mg_of X G a10, fun_mk (st := s_rods_of) l10 c10 k10, (fun_mk (st := s_rods_of) l10 c10 k10).binds (ps := ["mobile"]) fun _ _ _ _ _ _ us hl => match us, hl with | [_], _ => rfl⟩
  f_weights_of := ⟨f11, _, PySem.W.mg_of X G a11, fun_mk (st := s_weights_of) l11 c11 k11, (fun_mk (st := s_weights_of) l11 c11 k11).binds (ps := ["mobile"]) fun _ _ _ _ _ _ us hl => match us, hl with | [_], _ => rfl⟩
  f_total := ⟨f12, _, PySem.W.mg_of X G a12, fun_mk (st := s_total) l12 c12 k12, (fun_mk (st := s_total) l12 c12 k12).binds (ps := ["mobile"]) fun _ _ _ _ _ _ us hl => match us, hl with | [_], _ => rfl⟩
  f_moment_of := ⟨f13, _, PySem.W.mg_of X G a13, fun_mk (st := s_moment_of) l13 c13 k13, (fun_mk (st := s_moment_of) l13 c13 k13).binds (ps := ["rod"]) fun _ _ _ _ _ _ us hl => match us, hl with | [_], _ => rfl⟩
  f_tilted_rods := ⟨f14, _, PySem.W.mg_of X G a14, fun_mk (st := s_tilted_rods) l14 c14 k14, (fun_mk (st := s_tilted_rods) l14 c14 k14).binds (ps := ["mobile"]) fun _ _ _ _ _ _ us hl => match us, hl with | [_], _ => rfl⟩
  f_hangs_level := ⟨f15, _, PySem.W.mg_of X G a15, fun_mk (st := s_hangs_level) l15 c15 k15, (fun_mk (st := s_hangs_level) l15 c15 k15).binds (ps := ["mobile"]) fun _ _ _ _ _ _ us hl => match us, hl with | [_], _ => rfl⟩
  f_height_of := ⟨f16, _, PySem.W.mg_of X G a16, fun_mk (st := s_height_of) l16 c16 k16, (fun_mk (st := s_height_of) l16 c16 k16).binds (ps := ["mobile"]) fun _ _ _ _ _ _ us hl => match us, hl with | [_], _ => rfl⟩
  f_turned_rod := ⟨f17, _, PySem.W.mg_of X G a17, fun_mk (st := s_turned_rod) l17 c17 k17, (fun_mk (st := s_turned_rod) l17 c17 k17).binds (ps := ["rod"]) fun _ _ _ _ _ _ us hl => match us, hl with | [_], _ => rfl⟩
  f_turned_at := ⟨f18, _, PySem.W.mg_of X G a18, fun_mk (st := s_turned_at) l18 c18 k18, (fun_mk (st := s_turned_at) l18 c18 k18).binds (ps := ["mobile", "path"]) fun _ _ _ _ _ _ us hl => match us, hl with | [_, _], _ => rfl⟩
  f_turned := ⟨f19, _, PySem.W.mg_of X G a19, fun_mk (st := s_turned) l19 c19 k19, (fun_mk (st := s_turned) l19 c19 k19).binds (ps := ["mobile"]) fun _ _ _ _ _ _ us hl => match us, hl with | [_], _ => rfl⟩
  f_law_box := ⟨f20, _, PySem.W.mg_of X G a20, fun_mk (st := s_law_box) l20 c20 k20, (fun_mk (st := s_law_box) l20 c20 k20).binds (ps := ["script"]) fun _ _ _ _ _ _ us hl => match us, hl with | [_], _ => rfl⟩
  f_law_load := ⟨f21, _, PySem.W.mg_of X G a21, fun_mk (st := s_law_load) l21 c21 k21, (fun_mk (st := s_law_load) l21 c21 k21).binds (ps := ["box"]) fun _ _ _ _ _ _ us hl => match us, hl with | [_], _ => rfl⟩
  f_law_draw := ⟨f22, _, PySem.W.mg_of X G a22, fun_mk (st := s_law_draw) l22 c22 k22, (fun_mk (st := s_law_draw) l22 c22 k22).binds (ps := ["box", "many"]) fun _ _ _ _ _ _ us hl => match us, hl with | [_, _], _ => rfl⟩
  f_law_same := ⟨f23, _, PySem.W.mg_of X G a23, fun_mk (st := s_law_same) l23 c23 k23, (fun_mk (st := s_law_same) l23 c23 k23).binds (ps := ["a", "b"]) fun _ _ _ _ _ _ us hl => match us, hl with | [_, _], _ => rfl⟩
  f_law_mobile := ⟨f24, _, PySem.W.mg_of X G a24, fun_mk (st := s_law_mobile) l24 c24 k24, (fun_mk (st := s_law_mobile) l24 c24 k24).binds (ps := ["box", "deep"]) fun _ _ _ _ _ _ us hl => match us, hl with | [_, _], _ => rfl⟩
  f_law_total := ⟨f25, _, PySem.W.mg_of X G a25, fun_mk (st := s_law_total) l25 c25 k25, (fun_mk (st := s_law_total) l25 c25 k25).binds (ps := ["mobile"]) fun _ _ _ _ _ _ us hl => match us, hl with | [_], _ => rfl⟩
  f_law_level := ⟨f26, _, PySem.W.mg_of X G a26, fun_mk (st := s_law_level) l26 c26 k26, (fun_mk (st := s_law_level) l26 c26 k26).binds (ps := ["box", "deep"]) fun _ _ _ _ _ _ us hl => match us, hl with | [_, _], _ => rfl⟩
  f_law_moment := ⟨f27, _, PySem.W.mg_of X G a27, fun_mk (st := s_law_moment) l27 c27 k27, (fun_mk (st := s_law_moment) l27 c27 k27).binds (ps := ["rod"]) fun _ _ _ _ _ _ us hl => match us, hl with | [_], _ => rfl⟩
  f_law_parts := ⟨f28, _, PySem.W.mg_of X G a28, fun_mk (st := s_law_parts) l28 c28 k28, (fun_mk (st := s_law_parts) l28 c28 k28).binds (ps := ["mobile"]) fun _ _ _ _ _ _ us hl => match us, hl with | [_], _ => rfl⟩
  f_law_turned := ⟨f29, _, PySem.W.mg_of X G a29, fun_mk (st := s_law_turned) l29 c29 k29, (fun_mk (st := s_law_turned) l29 c29 k29).binds (ps := ["mobile"]) fun _ _ _ _ _ _ us hl => match us, hl with | [_], _ => rfl⟩
  f_law_put := ⟨f30, _, PySem.W.mg_of X G a30, fun_mk (st := s_law_put) l30 c30 k30, (fun_mk (st := s_law_put) l30 c30 k30).binds (ps := ["mobile", "path", "part"]) fun _ _ _ _ _ _ us hl => match us, hl with | [_, _, _], _ => rfl⟩
  f_law := ⟨f31, _, PySem.W.mg_of X G a31, fun_mk (st := s_law) l31 c31 k31, (fun_mk (st := s_law) l31 c31 k31).binds (ps := ["script"]) fun _ _ _ _ _ _ us hl => match us, hl with | [_], _ => rfl⟩
  b_all := PySem.W.mg_none_of X G z0
  b_bool := PySem.W.mg_none_of X G z1
  b_enumerate := PySem.W.mg_none_of X G z2
  b_int := PySem.W.mg_none_of X G z3
  b_isinstance := PySem.W.mg_none_of X G z4
  b_len := PySem.W.mg_none_of X G z5
  b_list := PySem.W.mg_none_of X G z6
  b_max := PySem.W.mg_none_of X G z7
  b_range := PySem.W.mg_none_of X G z8
  b_set := PySem.W.mg_none_of X G z9
  b_sorted := PySem.W.mg_none_of X G z10
  b_str := PySem.W.mg_none_of X G z11
  b_sum := PySem.W.mg_none_of X G z12
  b_tuple := PySem.W.mg_none_of X G z13
  b_zip := PySem.W.mg_none_of X G z14
  c_FARTHEST := ⟨t0, PySem.W.mg_of X G y0⟩
  c_MOST_DEEP := ⟨t1, PySem.W.mg_of X G y1⟩
  c_MOST_HOOKS := ⟨t2, PySem.W.mg_of X G y2⟩
  c_MOST_WEIGHT := ⟨t3, PySem.W.mg_of X G y3⟩
  c_MOST_WEIGHTS := ⟨t4, PySem.W.mg_of X G y4⟩

section
variable {P : Program} {w : World} {K : PySem.W.Frag} {mg : Str → Option Value} {base : Heap}
theorem all_walks (T : Facts K mg) (L_turned : Mk K mg base "turned") (L_law_parts : Mk K mg base "_law_parts") (hlaw : g_law (.un :: .box 2 :: List.replicate 15 .un) fun o => o = .rt (.bool true)) {f : Addr} {fd : FuncData} (F : Fun K "law" "law" s_law f fd) : FnOk P w K mg base CX0 27 f fd ["script"] (spLaw K) :=
  have d_is_number : Def P w K mg base "is_number" ["value", "least", "most"] 1 (spR K 3 m_is_number) := w_is_number T
  have d_is_ascending : Def P w K mg base "is_ascending" ["rows"] 1 (spR K 1 m_is_ascending) := w_is_ascending T
  have d_is_weight : Def P w K mg base "is_weight" ["value"] 2 (spR K 1 m_is_weight) := w_is_weight T d_is_number
  have d_is_hook : Def P w K mg base "is_hook" ["value"] 3 (spR K 1 m_is_hook) := w_is_hook T d_is_number d_is_weight
  have d_is_bare_rod : Def P w K mg base "is_bare_rod" ["value"] 4 (spR K 1 m_is_bare_rod) := w_is_bare_rod T d_is_hook d_is_ascending
  have d_is_mobile : Def P w K mg base "is_mobile" ["value"] 5 (spR K 1 m_is_mobile) := w_is_mobile T d_is_weight d_is_bare_rod
  have d_is_rod : Def P w K mg base "is_rod" ["mobile"] 1 (spR K 1 m_is_rod) := w_is_rod T
  have d_all_paths : Def P w K mg base "all_paths" ["mobile"] 2 (spR K 1 m_all_paths) := w_all_paths T d_is_rod
  have d_part_at : Def P w K mg base "part_at" ["mobile", "path"] 1 (spR K 2 m_part_at) := w_part_at T
  have d_with_part : Def P w K mg base "with_part" ["mobile", "path", "part"] 1 (spR K 3 m_with_part) := w_with_part T
  have d_rods_of : Def P w K mg base "rods_of" ["mobile"] 3 (spR K 1 m_rods_of) := w_rods_of T d_all_paths d_is_rod d_part_at
  have d_weights_of : Def P w K mg base "weights_of" ["mobile"] 3 (spR K 1 m_weights_of) := w_weights_of T d_all_paths d_part_at d_is_rod
  have d_total : Def P w K mg base "total" ["mobile"] 4 (spR K 1 m_total) := w_total T d_weights_of
  have d_moment_of : Def P w K mg base "moment_of" ["rod"] 5 (spR K 1 m_moment_of) := w_moment_of T d_total
  have d_tilted_rods : Def P w K mg base "tilted_rods" ["mobile"] 6 (spR K 1 m_tilted_rods) := w_tilted_rods T d_rods_of d_moment_of d_part_at
  have d_hangs_level : Def P w K mg base "hangs_level" ["mobile"] 7 (spR K 1 m_hangs_level) := w_hangs_level T d_tilted_rods
  have d_height_of : Def P w K mg base "height_of" ["mobile"] 4 (spR K 1 m_height_of) := w_height_of T d_rods_of
  have d_turned_rod : Def P w K mg base "turned_rod" ["rod"] 1 (spR K 1 m_turned_rod) := w_turned_rod T
  have d_turned_at : Def P w K mg base "turned_at" ["mobile", "path"] 2 (spR K 2 m_turned_at) := w_turned_at T d_with_part d_turned_rod d_part_at
  have d_turned : Def P w K mg base "turned" ["mobile"] 4 (spR K 1 m_turned) := w_turned T L_turned d_rods_of d_turned_at
  have d_law_box : Def P w K mg base "_law_box" ["script"] 1 (spBox K) := w_law_box T
  have d_law_load : Def P w K mg base "_law_load" ["box"] 1 spLoad := w_law_load T
  have d_law_draw : Def P w K mg base "_law_draw" ["box", "many"] 2 (spX K 2 1 drawM) := w_law_draw T d_law_load
  have d_law_same : ∀ i, Def P w K mg base "_law_same" ["a", "b"] (0 + i) (spR K 2 (m_law_same i)) := w_law_same T
  have d_law_mobile : ∀ i, Def P w K mg base "_law_mobile" ["box", "deep"] (2 + i) (spX K 2 1 (m_law_mobile i)) := w_law_mobile T d_law_draw
  have d_law_total : ∀ i, Def P w K mg base "_law_total" ["mobile"] (0 + i) (spR K 1 (m_law_total i)) := w_law_total T
  have d_law_level : ∀ i, Def P w K mg base "_law_level" ["box", "deep"] (13 + i) (spX K 2 1 (m_law_level i)) := w_law_level T d_law_draw d_law_total
  have d_law_moment : Def P w K mg base "_law_moment" ["rod"] 14 (spR K 1 m_law_moment) := w_law_moment T d_law_total
  have d_law_parts : Def P w K mg base "_law_parts" ["mobile"] 1 (spR K 1 m_law_parts) := w_law_parts T L_law_parts
  have d_law_turned : ∀ i, Def P w K mg base "_law_turned" ["mobile"] (0 + i) (spR K 1 (m_law_turned i)) := w_law_turned T
  have d_law_put : ∀ i, Def P w K mg base "_law_put" ["mobile", "path", "part"] (0 + i) (spR K 3 (m_law_put i)) := w_law_put T
  w_law T d_law_box d_law_draw d_law_mobile d_law_level d_hangs_level d_law_same d_tilted_rods d_law_parts d_all_paths d_rods_of d_weights_of d_total d_part_at d_law_moment d_moment_of d_height_of d_law_turned d_turned d_is_mobile d_law_put d_with_part d_turned_rod d_turned_at d_law_total hlaw F
end
theorem fin_mk {l : PySem.W.OpenLaw} {w : World} {K : PySem.W.Frag} {h : Heap} {mg : Str → Option Value} {fa : Addr} (X : K.In h) (G : h.Ns mainGlobals mg) (hmg : mg "law" = some (.ref fa)) (tabs : ∀ m ∈ (["turned", "_law_parts"] : List Str), MkAt mg h m) (hl : l.prog = l.prog)
  {f0 : Addr} {oc0 kV0 dc0 pm0 cd0 ct0 : Value} {od0 an0 : Option Addr} {sl0 : Array (Option Value)} {f1 : Addr} {oc1 kV1 dc1 pm1 cd1 ct1 : Value} {od1 an1 : Option Addr} {sl1 : Array (Option Value)} {f2 : Addr} {oc2 kV2 dc2 pm2 cd2 ct2 : Value} {od2 an2 : Option Addr} {sl2 : Array (Option Value)} {f3 : Addr} {oc3 kV3 dc3 pm3 cd3 ct3 : Value} {od3 an3 : Option Addr} {sl3 : Array (Option Value)} {f4 : Addr} {oc4 kV4 dc4 pm4 cd4 ct4 : Value} {od4 an4 : Option Addr} {sl4 : Array (Option Value)} {f5 : Addr} {oc5 kV5 dc5 pm5 cd5 ct5 : Value} {od5 an5 : Option Addr} {sl5 : Array (Option Value)} {f6 : Addr} {oc6 kV6 dc6 pm6 cd6 ct6 : Value} {od6 an6 : Option Addr} {sl6 : Array (Option Value)} {f7 : Addr} {oc7 kV7 dc7 pm7 cd7 ct7 : Value} {od7 an7 : Option Addr} {sl7 : Array (Option Value)} {f8 : Addr} {oc8 kV8 dc8 pm8 cd8 ct8 : Value} {od8 an8 : Option Addr} {sl8 : Array (Option Value)} {f9 : Addr} {oc9 kV9 dc9 pm9 cd9 ct9 : Value} {od9 an9 : Option Addr} {sl9 : Array (Option Value)} {f10 : Addr} {oc10 kV10 dc10 pm10 cd10 ct10 : Value} {od10 an10 : Option Addr} {sl10 : Array (Option Value)} {f11 : Addr} {oc11 kV11 dc11 pm11 cd11 ct11 : Value} {od11 an11 : Option Addr} {sl11 : Array (Option Value)} {f12 : Addr} {oc12 kV12 dc12 pm12 cd12 ct12 : Value} {od12 an12 : Option Addr} {sl12 : Array (Option Value)} {f13 : Addr} {oc13 kV13 dc13 pm13 cd13 ct13 : Value} {od13 an13 : Option Addr} {sl13 : Array (Option Value)} {f14 : Addr} {oc14 kV14 dc14 pm14 cd14 ct14 : Value} {od14 an14 : Option Addr} {sl14 : Array (Option Value)} {f15 : Addr} {oc15 kV15 dc15 pm15 cd15 ct15 : Value} {od15 an15 : Option Addr} {sl15 : Array (Option Value)} {f16 : Addr} {oc16 kV16 dc16 pm16 cd16 ct16 : Value} {od16 an16 : Option Addr} {sl16 : Array (Option Value)} {f17 : Addr} {oc17 kV17 dc17 pm17 cd17 ct17 : Value} {od17 an17 : Option Addr} {sl17 : Array (Option Value)} {f18 : Addr} {oc18 kV18 dc18 pm18 cd18 ct18 : Value} {od18 an18 : Option Addr} {sl18 : Array (Option Value)} {f19 : Addr} {oc19 kV19 dc19 pm19 cd19 ct19 : Value} {od19 an19 : Option Addr} {sl19 : Array (Option Value)} {f20 : Addr} {oc20 kV20 dc20 pm20 cd20 ct20 : Value} {od20 an20 : Option Addr} {sl20 : Array (Option Value)} {f21 : Addr} {oc21 kV21 dc21 pm21 cd21 ct21 : Value} {od21 an21 : Option Addr} {sl21 : Array (Option Value)} {f22 : Addr} {oc22 kV22 dc22 pm22 cd22 ct22 : Value} {od22 an22 : Option Addr} {sl22 : Array (Option Value)} {f23 : Addr} {oc23 kV23 dc23 pm23 cd23 ct23 : Value} {od23 an23 : Option Addr} {sl23 : Array (Option Value)} {f24 : Addr} {oc24 kV24 dc24 pm24 cd24 ct24 : Value} {od24 an24 : Option Addr} {sl24 : Array (Option Value)} {f25 : Addr} {oc25 kV25 dc25 pm25 cd25 ct25 : Value} {od25 an25 : Option Addr} {sl25 : Array (Option Value)} {f26 : Addr} {oc26 kV26 dc26 pm26 cd26 ct26 : Value} {od26 an26 : Option Addr} {sl26 : Array (Option Value)} {f27 : Addr} {oc27 kV27 dc27 pm27 cd27 ct27 : Value} {od27 an27 : Option Addr} {sl27 : Array (Option Value)} {f28 : Addr} {oc28 kV28 dc28 pm28 cd28 ct28 : Value} {od28 an28 : Option Addr} {sl28 : Array (Option Value)} {f29 : Addr} {oc29 kV29 dc29 pm29 cd29 ct29 : Value} {od29 an29 : Option Addr} {sl29 : Array (Option Value)} {f30 : Addr} {oc30 kV30 dc30 pm30 cd30 ct30 : Value} {od30 an30 : Option Addr} {sl30 : Array (Option Value)} {f31 : Addr} {oc31 kV31 dc31 pm31 cd31 ct31 : Value} {od31 an31 : Option Addr} {sl31 : Array (Option Value)} {t0 : Tok} {t1 : Tok} {t2 : Tok} {t3 : Tok} {t4 : Tok} {ca19 Pt19 : Addr} {cc19 : Value} {dm19 : Option Addr} {vs19 : Array Value} {s219 : Array (Option Value)} {ca28 Pt28 : Addr} {cc28 : Value} {dm28 : Option Addr} {vs28 : Array Value} {s228 : Array (Option Value)}
  (a0 : PySem.W.nsIn K mainGlobals "is_number" = some (some (.ref f0))) (l0 : K.lookup f0 = some ⟨oc0, od0, .func (PySem.W.fnOf "is_number" "is_number" (defArgs s_is_number) (defBody s_is_number) (defScope s_is_number) .none kV0 dc0 pm0 an0 cd0 ct0), sl0⟩) (c0 : PySem.W.codeIn K cd0 "is_number" = true) (k0 : PySem.W.keepIn K (.ref f0) = true)
  (a1 : PySem.W.nsIn K mainGlobals "is_ascending" = some (some (.ref f1))) (l1 : K.lookup f1 = some ⟨oc1, od1, .func (PySem.W.fnOf "is_ascending" "is_ascending" (defArgs s_is_ascending) (defBody s_is_ascending) (defScope s_is_ascending) .none kV1 dc1 pm1 an1 cd1 ct1), sl1⟩) (c1 : PySem.W.codeIn K cd1 "is_ascending" = true) (k1 : PySem.W.keepIn K (.ref f1) = true)
  (a2 : PySem.W.nsIn K mainGlobals "is_weight" = some (some (.ref f2))) (l2 : K.lookup f2 = some ⟨oc2, od2, .func (PySem.W.fnOf "is_weight" "is_weight" (defArgs s_is_weight) (defBody s_is_weight) (defScope s_is_weight) .none kV2 dc2 pm2 an2 cd2 ct2), sl2⟩) (c2 : PySem.W.codeIn K cd2 "is_weight" = true) (k2 : PySem.W.keepIn K (.ref f2) = true)
  (a3 : PySem.W.nsIn K mainGlobals "is_hook" = some (some (.ref f3))) (l3 : K.lookup f3 = some ⟨oc3, od3, .func (PySem.W.fnOf "is_hook" "is_hook" (defArgs s_is_hook) (defBody s_is_hook) (defScope s_is_hook) .none kV3 dc3 pm3 an3 cd3 ct3), sl3⟩) (c3 : PySem.W.codeIn K cd3 "is_hook" = true) (k3 : PySem.W.keepIn K (.ref f3) = true)
  (a4 : PySem.W.nsIn K mainGlobals "is_bare_rod" = some (some (.ref f4))) (l4 : K.lookup f4 = some ⟨oc4, od4, .func (PySem.W.fnOf "is_bare_rod" "is_bare_rod" (defArgs s_is_bare_rod) (defBody s_is_bare_rod) (defScope s_is_bare_rod) .none kV4 dc4 pm4 an4 cd4 ct4), sl4⟩) (c4 : PySem.W.codeIn K cd4 "is_bare_rod" = true) (k4 : PySem.W.keepIn K (.ref f4) = true)
  (a5 : PySem.W.nsIn K mainGlobals "is_mobile" = some (some (.ref f5))) (l5 : K.lookup f5 = some ⟨oc5, od5, .func (PySem.W.fnOf "is_mobile" "is_mobile" (defArgs s_is_mobile) (defBody s_is_mobile) (defScope s_is_mobile) .none kV5 dc5 pm5 an5 cd5 ct5), sl5⟩) (c5 : PySem.W.codeIn K cd5 "is_mobile" = true) (k5 : PySem.W.keepIn K (.ref f5) = true)
  (a6 : PySem.W.nsIn K mainGlobals "is_rod" = some (some (.ref f6))) (l6 : K.lookup f6 = some ⟨oc6, od6, .func (PySem.W.fnOf "is_rod" "is_rod" (defArgs s_is_rod) (defBody s_is_rod) (defScope s_is_rod) .none kV6 dc6 pm6 an6 cd6 ct6), sl6⟩) (c6 : PySem.W.codeIn K cd6 "is_rod" = true) (k6 : PySem.W.keepIn K (.ref f6) = true)
  (a7 : PySem.W.nsIn K mainGlobals "all_paths" = some (some (.ref f7))) (l7 : K.lookup f7 = some ⟨oc7, od7, .func (PySem.W.fnOf "all_paths" "all_paths" (defArgs s_all_paths) (defBody s_all_paths) (defScope s_all_paths) .none kV7 dc7 pm7 an7 cd7 ct7), sl7⟩) (c7 : PySem.W.codeIn K cd7 "all_paths" = true) (k7 : PySem.W.keepIn K (.ref f7) = true)
  (a8 : PySem.W.nsIn K mainGlobals "part_at" = some (some (.ref f8))) (l8 : K.lookup f8 = some ⟨oc8, od8, .func (PySem.W.fnOf "part_at" "part_at" (defArgs s_part_at) (defBody s_part_at) (defScope s_part_at) .none kV8 dc8 pm8 an8 cd8 ct8), sl8⟩) (c8 : PySem.W.codeIn K cd8 "part_at" = true) (k8 : PySem.W.keepIn K (.ref f8) = true)
  (a9 : PySem.W.nsIn K mainGlobals "with_part" = some (some (.ref f9))) (l9 : K.lookup f9 = some ⟨oc9, od9, .func (PySem.W.fnOf "with_part" "with_part" (defArgs s_with_part) (defBody s_with_part) (defScope s_with_part) .none kV9 dc9 pm9 an9 cd9 ct9), sl9⟩) (c9 : PySem.W.codeIn K cd9 "with_part" = true) (k9 : PySem.W.keepIn K (.ref f9) = true)
  (a10 : PySem.W.nsIn K mainGlobals "rods_of" = some (some (.ref f10))) (l10 : K.lookup f10 = some ⟨oc10, od10, .func (PySem.W.fnOf "rods_of" "rods_of" (defArgs s_rods_of) (defBody s_rods_of) (defScope s_rods_of) .none kV10 dc10 pm10 an10 cd10 ct10), sl10⟩) (c10 : PySem.W.codeIn K cd10 "rods_of" = true) (k10 : PySem.W.keepIn K (.ref f10) = true)
  (a11 : PySem.W.nsIn K mainGlobals "weights_of" = some (some (.ref f11))) (l11 : K.lookup f11 = some ⟨oc11, od11, .func (PySem.W.fnOf "weights_of" "weights_of" (defArgs s_weights_of) (defBody s_weights_of) (defScope s_weights_of) .none kV11 dc11 pm11 an11 cd11 ct11), sl11⟩) (c11 : PySem.W.codeIn K cd11 "weights_of" = true) (k11 : PySem.W.keepIn K (.ref f11) = true)
  (a12 : PySem.W.nsIn K mainGlobals "total" = some (some (.ref f12))) (l12 : K.lookup f12 = some ⟨oc12, od12, .func (PySem.W.fnOf "total" "total" (defArgs s_total) (defBody s_total) (defScope s_total) .none kV12 dc12 pm12 an12 cd12 ct12), sl12⟩) (c12 : PySem.W.codeIn K cd12 "total" = true) (k12 : PySem.W.keepIn K (.ref f12) = true)
  (a13 : PySem.W.nsIn K mainGlobals "moment_of" = some (some (.ref f13))) (l13 : K.lookup f13 = some ⟨oc13, od13, .func (PySem.W.fnOf "moment_of" "moment_of" (defArgs s_moment_of) (defBody s_moment_of) (defScope s_moment_of) .none kV13 dc13 pm13 an13 cd13 ct13), sl13⟩) (c13 : PySem.W.codeIn K cd13 "moment_of" = true) (k13 : PySem.W.keepIn K (.ref f13) = true)
  (a14 : PySem.W.nsIn K mainGlobals "tilted_rods" = some (some (.ref f14))) (l14 : K.lookup f14 = some ⟨oc14, od14, .func (PySem.W.fnOf "tilted_rods" "tilted_rods" (defArgs s_tilted_rods) (defBody s_tilted_rods) (defScope s_tilted_rods) .none kV14 dc14 pm14 an14 cd14 ct14), sl14⟩) (c14 : PySem.W.codeIn K cd14 "tilted_rods" = true) (k14 : PySem.W.keepIn K (.ref f14) = true)
  (a15 : PySem.W.nsIn K mainGlobals "hangs_level" = some (some (.ref f15))) (l15 : K.lookup f15 = some ⟨oc15, od15, .func (PySem.W.fnOf "hangs_level" "hangs_level" (defArgs s_hangs_level) (defBody s_hangs_level) (defScope s_hangs_level) .none kV15 dc15 pm15 an15 cd15 ct15), sl15⟩) (c15 : PySem.W.codeIn K cd15 "hangs_level" = true) (k15 : PySem.W.keepIn K (.ref f15) = true)
  (a16 : PySem.W.nsIn K mainGlobals "height_of" = some (some (.ref f16))) (l16 : K.lookup f16 = some ⟨oc16, od16, .func (PySem.W.fnOf "height_of" "height_of" (defArgs s_height_of) (defBody s_height_of) (defScope s_height_of) .none kV16 dc16 pm16 an16 cd16 ct16), sl16⟩) (c16 : PySem.W.codeIn K cd16 "height_of" = true) (k16 : PySem.W.keepIn K (.ref f16) = true)
  (a17 : PySem.W.nsIn K mainGlobals "turned_rod" = some (some (.ref f17))) (l17 : K.lookup f17 = some ⟨oc17, od17, .func (PySem.W.fnOf "turned_rod" "turned_rod" (defArgs s_turned_rod) (defBody s_turned_rod) (defScope s_turned_rod) .none kV17 dc17 pm17 an17 cd17 ct17), sl17⟩) (c17 : PySem.W.codeIn K cd17 "turned_rod" = true) (k17 : PySem.W.keepIn K (.ref f17) = true)
  (a18 : PySem.W.nsIn K mainGlobals "turned_at" = some (some (.ref f18))) (l18 : K.lookup f18 = some ⟨oc18, od18, .func (PySem.W.fnOf "turned_at" "turned_at" (defArgs s_turned_at) (defBody s_turned_at) (defScope s_turned_at) .none kV18 dc18 pm18 an18 cd18 ct18), sl18⟩) (c18 : PySem.W.codeIn K cd18 "turned_at" = true) (k18 : PySem.W.keepIn K (.ref f18) = true)
  (a19 : PySem.W.nsIn K mainGlobals "turned" = some (some (.ref f19))) (l19 : K.lookup f19 = some ⟨oc19, od19, .func (PySem.W.fnOf "turned" "turned" (defArgs s_turned) (defBody s_turned) (defScope s_turned) .none kV19 dc19 pm19 an19 cd19 ct19), sl19⟩) (c19 : PySem.W.codeIn K cd19 "turned" = true) (k19 : PySem.W.keepIn K (.ref f19) = true)
  (a20 : PySem.W.nsIn K mainGlobals "_law_box" = some (some (.ref f20))) (l20 : K.lookup f20 = some ⟨oc20, od20, .func (PySem.W.fnOf "_law_box" "_law_box" (defArgs s_law_box) (defBody s_law_box) (defScope s_law_box) .none kV20 dc20 pm20 an20 cd20 ct20), sl20⟩) (c20 : PySem.W.codeIn K cd20 "_law_box" = true) (k20 : PySem.W.keepIn K (.ref f20) = true)
  (a21 : PySem.W.nsIn K mainGlobals "_law_load" = some (some (.ref f21))) (l21 : K.lookup f21 = some ⟨oc21, od21, .func (PySem.W.fnOf "_law_load" "_law_load" (defArgs s_law_load) (defBody s_law_load) (defScope s_law_load) .none kV21 dc21 pm21 an21 cd21 ct21), sl21⟩) (c21 : PySem.W.codeIn K cd21 "_law_load" = true) (k21 : PySem.W.keepIn K (.ref f21) = true)
  (a22 : PySem.W.nsIn K mainGlobals "_law_draw" = some (some (.ref f22))) (l22 : K.lookup f22 = some ⟨oc22, od22, .func (PySem.W.fnOf "_law_draw" "_law_draw" (defArgs s_law_draw) (defBody s_law_draw) (defScope s_law_draw) .none kV22 dc22 pm22 an22 cd22 ct22), sl22⟩) (c22 : PySem.W.codeIn K cd22 "_law_draw" = true) (k22 : PySem.W.keepIn K (.ref f22) = true)
  (a23 : PySem.W.nsIn K mainGlobals "_law_same" = some (some (.ref f23))) (l23 : K.lookup f23 = some ⟨oc23, od23, .func (PySem.W.fnOf "_law_same" "_law_same" (defArgs s_law_same) (defBody s_law_same) (defScope s_law_same) .none kV23 dc23 pm23 an23 cd23 ct23), sl23⟩) (c23 : PySem.W.codeIn K cd23 "_law_same" = true) (k23 : PySem.W.keepIn K (.ref f23) = true)
  (a24 : PySem.W.nsIn K mainGlobals "_law_mobile" = some (some (.ref f24))) (l24 : K.lookup f24 = some ⟨oc24, od24, .func (PySem.W.fnOf "_law_mobile" "_law_mobile" (defArgs s_law_mobile) (defBody s_law_mobile) (defScope s_law_mobile) .none kV24 dc24 pm24 an24 cd24 ct24), sl24⟩) (c24 : PySem.W.codeIn K cd24 "_law_mobile" = true) (k24 : PySem.W.keepIn K (.ref f24) = true)
  (a25 : PySem.W.nsIn K mainGlobals "_law_total" = some (some (.ref f25))) (l25 : K.lookup f25 = some ⟨oc25, od25, .func (PySem.W.fnOf "_law_total" "_law_total" (defArgs s_law_total) (defBody s_law_total) (defScope s_law_total) .none kV25 dc25 pm25 an25 cd25 ct25), sl25⟩) (c25 : PySem.W.codeIn K cd25 "_law_total" = true) (k25 : PySem.W.keepIn K (.ref f25) = true)
  (a26 : PySem.W.nsIn K mainGlobals "_law_level" = some (some (.ref f26))) (l26 : K.lookup f26 = some ⟨oc26, od26, .func (PySem.W.fnOf "_law_level" "_law_level" (defArgs s_law_level) (defBody s_law_level) (defScope s_law_level) .none kV26 dc26 pm26 an26 cd26 ct26), sl26⟩) (c26 : PySem.W.codeIn K cd26 "_law_level" = true) (k26 : PySem.W.keepIn K (.ref f26) = true)
  (a27 : PySem.W.nsIn K mainGlobals "_law_moment" = some (some (.ref f27))) (l27 : K.lookup f27 = some ⟨oc27, od27, .func (PySem.W.fnOf "_law_moment" "_law_moment" (defArgs s_law_moment) (defBody s_law_moment) (defScope s_law_moment) .none kV27 dc27 pm27 an27 cd27 ct27), sl27⟩) (c27 : PySem.W.codeIn K cd27 "_law_moment" = true) (k27 : PySem.W.keepIn K (.ref f27) = true)
  (a28 : PySem.W.nsIn K mainGlobals "_law_parts" = some (some (.ref f28))) (l28 : K.lookup f28 = some ⟨oc28, od28, .func (PySem.W.fnOf "_law_parts" "_law_parts" (defArgs s_law_parts) (defBody s_law_parts) (defScope s_law_parts) .none kV28 dc28 pm28 an28 cd28 ct28), sl28⟩) (c28 : PySem.W.codeIn K cd28 "_law_parts" = true) (k28 : PySem.W.keepIn K (.ref f28) = true)
  (a29 : PySem.W.nsIn K mainGlobals "_law_turned" = some (some (.ref f29))) (l29 : K.lookup f29 = some ⟨oc29, od29, .func (PySem.W.fnOf "_law_turned" "_law_turned" (defArgs s_law_turned) (defBody s_law_turned) (defScope s_law_turned) .none kV29 dc29 pm29 an29 cd29 ct29), sl29⟩) (c29 : PySem.W.codeIn K cd29 "_law_turned" = true) (k29 : PySem.W.keepIn K (.ref f29) = true)
  (a30 : PySem.W.nsIn K mainGlobals "_law_put" = some (some (.ref f30))) (l30 : K.lookup f30 = some ⟨oc30, od30, .func (PySem.W.fnOf "_law_put" "_law_put" (defArgs s_law_put) (defBody s_law_put) (defScope s_law_put) .none kV30 dc30 pm30 an30 cd30 ct30), sl30⟩) (c30 : PySem.W.codeIn K cd30 "_law_put" = true) (k30 : PySem.W.keepIn K (.ref f30) = true)
  (a31 : PySem.W.nsIn K mainGlobals "law" = some (some (.ref f31))) (l31 : K.lookup f31 = some ⟨oc31, od31, .func (PySem.W.fnOf "law" "law" (defArgs s_law) (defBody s_law) (defScope s_law) .none kV31 dc31 pm31 an31 cd31 ct31), sl31⟩) (c31 : PySem.W.codeIn K cd31 "law" = true) (k31 : PySem.W.keepIn K (.ref f31) = true)
  (z0 : PySem.W.nsIn K mainGlobals "all" = some none)
  (z1 : PySem.W.nsIn K mainGlobals "bool" = some none)
  (z2 : PySem.W.nsIn K mainGlobals "enumerate" = some none)
  (z3 : PySem.W.nsIn K mainGlobals "int" = some none)
  (z4 : PySem.W.nsIn K mainGlobals "isinstance" = some none)
  (z5 : PySem.W.nsIn K mainGlobals "len" = some none)
  (z6 : PySem.W.nsIn K mainGlobals "list" = some none)
  (z7 : PySem.W.nsIn K mainGlobals "max" = some none)
  (z8 : PySem.W.nsIn K mainGlobals "range" = some none)
  (z9 : PySem.W.nsIn K mainGlobals "set" = some none)
  (z10 : PySem.W.nsIn K mainGlobals "sorted" = some none)
  (z11 : PySem.W.nsIn K mainGlobals "str" = some none)
  (z12 : PySem.W.nsIn K mainGlobals "sum" = some none)
  (z13 : PySem.W.nsIn K mainGlobals "tuple" = some none)
  (z14 : PySem.W.nsIn K mainGlobals "zip" = some none)
  (y0 : PySem.W.nsIn K mainGlobals "FARTHEST" = some (some (.int (50) t0)))
  (y1 : PySem.W.nsIn K mainGlobals "MOST_DEEP" = some (some (.int (12) t1)))
  (y2 : PySem.W.nsIn K mainGlobals "MOST_HOOKS" = some (some (.int (6) t2)))
  (y3 : PySem.W.nsIn K mainGlobals "MOST_WEIGHT" = some (some (.int (1000) t3)))
  (y4 : PySem.W.nsIn K mainGlobals "MOST_WEIGHTS" = some (some (.int (60) t4)))
  (eM19 : cd19 = .ref ca19) (gM19 : K.lookup ca19 = some ⟨cc19, dm19, .fields vs19, s219⟩) (vM19 : vs19[11]? = some (.ref Pt19)) (nM19 : K.lookup Pt19 = none)
  (eM28 : cd28 = .ref ca28) (gM28 : K.lookup ca28 = some ⟨cc28, dm28, .fields vs28, s228⟩) (vM28 : vs28[11]? = some (.ref Pt28)) (nM28 : K.lookup Pt28 = none)
  (wM19_28 : Pt19 ≠ Pt28) :
  LamX.LawAtS l w K CX0 27 63 "script" mg fa h := by
  have tM19 := mkAt_get X (tabs _ (List.mem_cons_self)) (PySem.W.mg_of X G a19) l19 eM19 gM19 vM19
  have tM28 := mkAt_get X (tabs _ (List.mem_cons_of_mem _ (List.mem_cons_self))) (PySem.W.mg_of X G a28) l28 eM28 gM28 vM28
  letI : Tb := ⟨[(Pt19, lq "turned"), (Pt28, lq "_law_parts")], false⟩
  have T : Facts K mg := facts_mk X G rfl a0 l0 c0 k0 a1 l1 c1 k1 a2 l2 c2 k2 a3 l3 c3 k3 a4 l4 c4 k4 a5 l5 c5 k5 a6 l6 c6 k6 a7 l7 c7 k7 a8 l8 c8 k8 a9 l9 c9 k9 a10 l10 c10 k10 a11 l11 c11 k11 a12 l12 c12 k12 a13 l13 c13 k13 a14 l14 c14 k14 a15 l15 c15 k15 a16 l16 c16 k16 a17 l17 c17 k17 a18 l18 c18 k18 a19 l19 c19 k19 a20 l20 c20 k20 a21 l21 c21 k21 a22 l22 c22 k22 a23 l23 c23 k23 a24 l24 c24 k24 a25 l25 c25 k25 a26 l26 c26 k26 a27 l27 c27 k27 a28 l28 c28 k28 a29 l29 c29 k29 a30 l30 c30 k30 a31 l31 c31 k31 z0 z1 z2 z3 z4 z5 z6 z7 z8 z9 z10 z11 z12 z13 z14 y0 y1 y2 y3 y4
  obtain ⟨f, fd, gf, FF, bf⟩ := T.f_law
  have e : f = fa := Value.ref.inj (Option.some.inj (gf.symm.trans hmg))
  subst e
  refine ⟨fd, [(ca19, Pt19), (ca28, Pt28)], spLaw K, List.forall_mem_cons.mpr ⟨tM19.2, List.forall_mem_cons.mpr ⟨tM28.2, fun _ h => nomatch h⟩⟩, List.forall_mem_cons.mpr ⟨nM19, List.forall_mem_cons.mpr ⟨nM28, fun _ h => nomatch h⟩⟩, List.forall_mem_cons.mpr ⟨tM19.1, List.forall_mem_cons.mpr ⟨tM28.1, fun _ h => nomatch h⟩⟩, fun s v => ?_, fun H a ns hl _ hH hS => ⟨a, ns, rfl, hS, hl, tabs_nil (cs := [(ca19, Pt19), (ca28, Pt28)]) (List.forall_mem_cons.mpr ⟨⟨_, List.mem_cons_self⟩, List.forall_mem_cons.mpr ⟨⟨_, List.mem_cons_of_mem _ (List.mem_cons_self)⟩, fun _ h => nomatch h⟩⟩) hH, fun _ => rfl⟩, fun base _ _ TB => all_walks T (mk_of (PySem.W.mg_of X G a19) l19 eM19 (TB _ (List.mem_cons_self)) (List.mem_cons_self) (List.forall_mem_cons.mpr ⟨fun _ => rfl, List.forall_mem_cons.mpr ⟨fun e => absurd e.symm wM19_28, fun _ h => nomatch h⟩⟩)) (mk_of (PySem.W.mg_of X G a28) l28 eM28 (TB _ (List.mem_cons_of_mem _ (List.mem_cons_self))) (List.mem_cons_of_mem _ (List.mem_cons_self)) (List.forall_mem_cons.mpr ⟨fun e => absurd e wM19_28, List.forall_mem_cons.mpr ⟨fun _ => rfl, fun _ h => nomatch h⟩⟩)) law_true FF⟩
  obtain ⟨oc, od, kV, doc, pm, an, cdv, ct, osl, rfl, _⟩ := FF.ex
  exact .of_eq rfl

end K01
open PySem PySem.W PyProof.Rows
set_option maxHeartbeats 0 in
theorem PySem.Challenge.cw_hangseven_k01_whole_mobiles_holds : PySem.Challenge.rw_hangseven_k01_whole_mobiles.Holds := by
  w_on; o_law; k_head; (case hw => w_witness2)
  k_fill
  letI : Pu.Tb := ⟨[], false⟩
  refine Pu.walk_ofM (l := PySem.Challenge.rw_hangseven_k01_whole_mobiles) (n := 63) (k := 27) (x := "script") (CX := fun _ => L2.CX0) ["turned", "_law_parts"] rfl (by decide) rfl ⟨rfl, by decide, by decide⟩ (by first | decide +kernel | rfl) (fun w h Y => by first | exact PySem.W.kIn_of Y | exact PySem.W.km_in_of Y) ?F (fun _ _ _ _ _ h => h)
  case F =>
    intro w mg fa h KX X G hmg tabs
    refine' K01.fin_mk X G hmg tabs rfl ?a0 ?l0 ?c0 ?k0 ?a1 ?l1 ?c1 ?k1 ?a2 ?l2 ?c2 ?k2 ?a3 ?l3 ?c3 ?k3 ?a4 ?l4 ?c4 ?k4 ?a5 ?l5 ?c5 ?k5 ?a6 ?l6 ?c6 ?k6 ?a7 ?l7 ?c7 ?k7 ?a8 ?l8 ?c8 ?k8 ?a9 ?l9 ?c9 ?k9 ?a10 ?l10 ?c10 ?k10 ?a11 ?l11 ?c11 ?k11 ?a12 ?l12 ?c12 ?k12 ?a13 ?l13 ?c13 ?k13 ?a14 ?l14 ?c14 ?k14 ?a15 ?l15 ?c15 ?k15 ?a16 ?l16 ?c16 ?k16 ?a17 ?l17 ?c17 ?k17 ?a18 ?l18 ?c18 ?k18 ?a19 ?l19 ?c19 ?k19 ?a20 ?l20 ?c20 ?k20 ?a21 ?l21 ?c21 ?k21 ?a22 ?l22 ?c22 ?k22 ?a23 ?l23 ?c23 ?k23 ?a24 ?l24 ?c24 ?k24 ?a25 ?l25 ?c25 ?k25 ?a26 ?l26 ?c26 ?k26 ?a27 ?l27 ?c27 ?k27 ?a28 ?l28 ?c28 ?k28 ?a29 ?l29 ?c29 ?k29 ?a30 ?l30 ?c30 ?k30 ?a31 ?l31 ?c31 ?k31 ?z0 ?z1 ?z2 ?z3 ?z4 ?z5 ?z6 ?z7 ?z8 ?z9 ?z10 ?z11 ?z12 ?z13 ?z14 ?y0 ?y1 ?y2 ?y3 ?y4 ?eM19 ?gM19 ?vM19 ?nM19 ?eM28 ?gM28 ?vM28 ?nM28 ?wM19_28
    (case a0 => k_is); (case l0 => k_is); (case c0 => k_is); (case k0 => k_is); (case a1 => k_is); (case l1 => k_is); (case c1 => k_is); (case k1 => k_is); (case a2 => k_is); (case l2 => k_is); (case c2 => k_is); (case k2 => k_is); (case a3 => k_is); (case l3 => k_is); (case c3 => k_is); (case k3 => k_is); (case a4 => k_is); (case l4 => k_is); (case c4 => k_is); (case k4 => k_is); (case a5 => k_is); (case l5 => k_is); (case c5 => k_is); (case k5 => k_is); (case a6 => k_is); (case l6 => k_is); (case c6 => k_is); (case k6 => k_is); (case a7 => k_is); (case l7 => k_is); (case c7 => k_is); (case k7 => k_is); (case a8 => k_is); (case l8 => k_is); (case c8 => k_is); (case k8 => k_is); (case a9 => k_is); (case l9 => k_is); (case c9 => k_is); (case k9 => k_is); (case a10 => k_is); (case l10 => k_is); (case c10 => k_is); (case k10 => k_is); (case a11 => k_is); (case l11 => k_is); (case c11 => k_is); (case k11 => k_is); (case a12 => k_is); (case l12 => k_is); (case c12 => k_is); (case k12 => k_is); (case a13 => k_is); (case l13 => k_is); (case c13 => k_is); (case k13 => k_is); (case a14 => k_is); (case l14 => k_is); (case c14 => k_is); (case k14 => k_is); (case a15 => k_is); (case l15 => k_is); (case c15 => k_is); (case k15 => k_is); (case a16 => k_is); (case l16 => k_is); (case c16 => k_is); (case k16 => k_is); (case a17 => k_is); (case l17 => k_is); (case c17 => k_is); (case k17 => k_is); (case a18 => k_is); (case l18 => k_is); (case c18 => k_is); (case k18 => k_is); (case a19 => k_is); (case l19 => k_is); (case c19 => k_is); (case k19 => k_is); (case a20 => k_is); (case l20 => k_is); (case c20 => k_is); (case k20 => k_is); (case a21 => k_is); (case l21 => k_is); (case c21 => k_is); (case k21 => k_is); (case a22 => k_is); (case l22 => k_is); (case c22 => k_is); (case k22 => k_is); (case a23 => k_is); (case l23 => k_is); (case c23 => k_is); (case k23 => k_is); (case a24 => k_is); (case l24 => k_is); (case c24 => k_is); (case k24 => k_is); (case a25 => k_is); (case l25 => k_is); (case c25 => k_is); (case k25 => k_is); (case a26 => k_is); (case l26 => k_is); (case c26 => k_is); (case k26 => k_is); (case a27 => k_is); (case l27 => k_is); (case c27 => k_is); (case k27 => k_is); (case a28 => k_is); (case l28 => k_is); (case c28 => k_is); (case k28 => k_is); (case a29 => k_is); (case l29 => k_is); (case c29 => k_is); (case k29 => k_is); (case a30 => k_is); (case l30 => k_is); (case c30 => k_is); (case k30 => k_is); (case a31 => k_is); (case l31 => k_is); (case c31 => k_is); (case k31 => k_is); (case z0 => k_is); (case z1 => k_is); (case z2 => k_is); (case z3 => k_is); (case z4 => k_is); (case z5 => k_is); (case z6 => k_is); (case z7 => k_is); (case z8 => k_is); (case z9 => k_is); (case z10 => k_is); (case z11 => k_is); (case z12 => k_is); (case z13 => k_is); (case z14 => k_is); (case y0 => k_is); (case y1 => k_is); (case y2 => k_is); (case y3 => k_is); (case y4 => k_is); (case eM19 => rfl); (case gM19 => k_is); (case vM19 => rfl); (case nM19 => first | kernel_rfl | rfl); (case eM28 => rfl); (case gM28 => k_is); (case vM28 => rfl); (case nM28 => first | kernel_rfl | rfl); (case wM19_28 => decide)
