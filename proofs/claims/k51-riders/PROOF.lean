import PyProof.Rows.All
import Wide.All
import OpenK.AllK
import Wide.FinOn
import HandS.ForMost
import HandS.Wide
import HandS.Style
import HandS.Flow
import KE.DataEq
import KE.DataCmp
import KE.DataMinMax
import KE.DataMinKey
import KE.DataFind
import KE.SortCalls
import KE.SortKeyed
import HandS.TupAny
import HandS.IsInst
import HandS.Text
import KE.DataAny
import KE.KTupSum
import HandS.TupMul
import KE.SortData
import HandS.Zip
import HandS.Conv
import KE.GoesNew
import KE.GoesMore
import KE.KDictZip
import KE.KDictItemsList
import HandS.SetFor
import HandS.Strs
import HandS.List
import KE.KUnpack
import HandS.ListItems
import HandS.DictTup
import HandS.DictComp
import HandS.WordsDict
import PySem.Challenge.RW_hangseven_k51_whole_riders_on_yards
set_option Elab.async false
set_option linter.all false
set_option maxRecDepth 100000
set_option maxHeartbeats 4000000
/-! A layer of pure data over the hand layer: what a def computes is a function of data (PyData) into wishes. -/
namespace Pu
open PySem PySem.Spec PyProof.Rows L2

abbrev D := PyData
/-- a computation: from what is wanted of its value to what must hold -/
abbrev R (α : Type) := (α → Prop) → Prop
def ok {α : Type} (a : α) : R α := fun p => p a
def fail {α : Type} : R α := fun _ => False
def bd {α β : Type} (m : R α) (k : α → R β) : R β := fun p => m (fun a => k a p)
def req (c : Prop) : R Unit := fun p => c ∧ p ()
@[simp] theorem bd_ok {α β : Type} (a : α) (k : α → R β) : bd (ok a) k = k a := (rfl)
@[simp] theorem bd_fail {α β : Type} (k : α → R β) : bd fail k = fail := (rfl)
@[simp] theorem bd_bd {α β γ : Type} (m : R α) (k : α → R β) (l : β → R γ) : bd (bd m k) l = bd m (fun a => bd (k a) l) := (rfl)
@[simp] theorem bd_ret {α : Type} (m : R α) : bd m ok = m := (rfl)
theorem bd_req {c : Prop} {β : Type} (h : c) (k : Unit → R β) : bd (req c) k = k () := by
  funext p; exact propext ⟨fun q => q.2, fun q => ⟨h, q⟩⟩
@[simp] theorem bd_req_true {β : Type} (k : Unit → R β) : bd (req True) k = k () := bd_req trivial k

/-- the one thing that is changed by the law's draws: a list at b of a list at c and k numbers -/
inductive Ef where
  | no
  | bx (k : Nat) (b c : Addr)
def Ef.vol : Ef → Addr → Prop
  | .no, _ => False
  | .bx _ b c, a => a = b ∨ a = c
def BxInts : List Int → Prop
  | [i, _, _] => 0 ≤ i
  | _ => True
def Ef.inv : Ef → Hp → Prop
  | .no, _ => True
  | .bx k b c, H => b ≠ c ∧ ∃ (ns is : List Int), is.length = k ∧ BxInts is ∧ ns.length ≤ 1000 ∧ H b = some (.lst (.ref c :: is.map V.int)) ∧ H c = some (.lst (ns.map V.int))
def Ef.box : Ef → Nat → V → Prop
  | .no, _, _ => False
  | .bx k b _, j, v => k = j ∧ v = .ref b
theorem Ef.there : ∀ {E : Ef} {H : Hp} {a : Addr}, E.inv H → E.vol a → ∃ o, H a = some o
  | .bx k b c, H, a, h, v => by
    obtain ⟨_, ns, is, _, _, _, e1, e2⟩ := h
    rcases v with rfl | rfl
    · exact ⟨_, e1⟩
    · exact ⟨_, e2⟩
theorem Ef.loc : ∀ {E : Ef} {H H' : Hp}, E.inv H → (∀ a, E.vol a → H' a = H a) → E.inv H'
  | .no, _, _, _, _ => trivial
  | .bx k b c, H, H', h, q => by
    obtain ⟨n, ns, is, h1, h2, h3, e1, e2⟩ := h
    exact ⟨n, ns, is, h1, h2, h3, (q b (.inl rfl)).trans e1, (q c (.inr rfl)).trans e2⟩

structure Ext (E : Ef) (G H G' H' : Hp) : Prop where
  g : ∀ a o, G a = some o → G' a = some o
  h : ∀ a o, H a = some o → ¬ E.vol a → H' a = some o
  n : ∀ a o, H a = some o → ¬ E.vol a → G a = none → G' a = none
theorem Ext.refl {E : Ef} {G H : Hp} : Ext E G H G H := ⟨fun _ _ h => h, fun _ _ h _ => h, fun _ _ _ _ h => h⟩
theorem Ext.trans {E : Ef} {G H G1 H1 G2 H2 : Hp} (a : Ext E G H G1 H1) (b : Ext E G1 H1 G2 H2) : Ext E G H G2 H2 :=
  ⟨fun p o h => b.g p o (a.g p o h), fun p o h v => b.h p o (a.h p o h v) v, fun p o h v g => b.n p o (a.h p o h v) v (a.n p o h v g)⟩

/-- the frozen part G lies in the heap H, apart from the box -/
structure W0 (E : Ef) (G H : Hp) : Prop where
  sub : ∀ a o, G a = some o → H a = some o
  vol : ∀ a, E.vol a → G a = none
  inv : E.inv H
theorem W0.fresh {E : Ef} {G H : Hp} (w : W0 E G H) {p : Addr} (h : H p = none) : G p = none ∧ ¬ E.vol p := by
  refine ⟨?_, fun v => ?_⟩
  · cases e : G p with
    | none => rfl
    | some o => rw [w.sub p o e] at h; cases h
  · obtain ⟨o, e⟩ := Ef.there w.inv v
    rw [e] at h; cases h
/-- a new object, not frozen -/
theorem W0.new {E : Ef} {G H : Hp} (w : W0 E G H) {p : Addr} (h : H p = none) (o : HO) : W0 E G (upd H p o) ∧ Ext E G H G (upd H p o) := by
  obtain ⟨g, v⟩ := w.fresh h
  have k : ∀ a u, H a = some u → (upd H p o) a = some u := fun a u e => by rw [upd_ne (ne_of_none e h)]; exact e
  refine ⟨⟨fun a u e => k a u (w.sub a u e), w.vol, Ef.loc w.inv fun a va => ?_⟩, ⟨fun _ _ e => e, fun a u e _ => k a u e, fun _ _ _ _ e => e⟩⟩
  rw [upd_ne]
  rintro rfl; exact v va
/-- a new object, frozen -/
theorem W0.newF {E : Ef} {G H : Hp} (w : W0 E G H) {p : Addr} (h : H p = none) (o : HO) : W0 E (upd G p o) (upd H p o) ∧ Ext E G H (upd G p o) (upd H p o) := by
  obtain ⟨g, v⟩ := w.fresh h
  obtain ⟨w1, e1⟩ := w.new h o
  refine ⟨⟨fun a u e => ?_, fun a va => ?_, w1.inv⟩, ⟨fun a u e => ?_, e1.h, fun a u e _ q => ?_⟩⟩
  · by_cases ha : a = p
    · subst ha; rw [upd_same] at e; rw [upd_same]; exact e
    · rw [upd_ne ha] at e; exact w1.sub a u e
  · rw [upd_ne (by rintro rfl; exact v va)]; exact w.vol a va
  · rw [upd_ne (ne_of_none e g)]; exact e
  · rw [upd_ne (ne_of_none e h)]; exact q
/-- an object that stands unfrozen is frozen -/
theorem W0.freeze {E : Ef} {G H : Hp} (w : W0 E G H) {p : Addr} {o : HO} (h : H p = some o) (g : G p = none) (v : ¬ E.vol p) : W0 E (upd G p o) H := by
  refine ⟨fun a u e => ?_, fun a va => ?_, w.inv⟩
  · by_cases ha : a = p
    · subst ha; rw [upd_same] at e; cases e; exact h
    · rw [upd_ne ha] at e; exact w.sub a u e
  · rw [upd_ne (by rintro rfl; exact v va)]; exact w.vol a va

/-! ### data in the heap -/
abbrev Le (G G' : Hp) : Prop := ∀ a o, G a = some o → G' a = some o
theorem rd_mono {G G' : Hp} (h : Le G G') {a : Addr} {u : HO} : Rd G a u → Rd G' a u
  | .inl e => .inl (h a _ e)
  | .inr ⟨o, e⟩ => .inr ⟨o, h a _ e⟩
theorem sqL_mono {K : PySem.W.Frag} {G G' : Hp} (h : Le G G') {a : Addr} {xs : List V} : SqL K G a xs → SqL K G' a xs
  | .inl e => .inl (rd_mono h e)
  | .inr e => .inr e
theorem sqT_mono {K : PySem.W.Frag} {G G' : Hp} (h : Le G G') {a : Addr} {xs : List V} : SqT K G a xs → SqT K G' a xs
  | .inl e => .inl (rd_mono h e)
  | .inr e => .inr e
mutual
/-- a value stands for data: lists are tracked ones -/
inductive Dq (K : PySem.W.Frag) (H : Hp) : V → PyData → Prop
  | non : Dq K H .non .none
  | bl (b : Bool) : Dq K H (.bl b) (.bool b)
  | int (i : Int) : Dq K H (.int i) (.int i)
  | str (x : Str) : Dq K H (.str x) (.str x)
  | lst {a : Addr} {xs : List V} {ds : List PyData} : H a = some (.lst xs) → DqAll K H xs ds → Dq K H (.ref a) (.list ds)
  | tup {a : Addr} {xs : List V} {ds : List PyData} : SqT K H a xs → DqAll K H xs ds → Dq K H (.ref a) (.tuple ds)
inductive DqAll (K : PySem.W.Frag) (H : Hp) : List V → List PyData → Prop
  | nil : DqAll K H [] []
  | cons {v : V} {vs : List V} {d : PyData} {ds : List PyData} : Dq K H v d → DqAll K H vs ds → DqAll K H (v :: vs) (d :: ds)
end
mutual
theorem Dq.mono {K : PySem.W.Frag} {G G' : Hp} (h : Le G G') : ∀ {v : V} {d : D}, Dq K G v d → Dq K G' v d
  | _, _, .non => .non
  | _, _, .bl b => .bl b
  | _, _, .int i => .int i
  | _, _, .str x => .str x
  | _, _, .lst e q => .lst (h _ _ e) (DqAll.mono h q)
  | _, _, .tup e q => .tup (sqT_mono h e) (DqAll.mono h q)
theorem DqAll.mono {K : PySem.W.Frag} {G G' : Hp} (h : Le G G') : ∀ {vs : List V} {ds : List D}, DqAll K G vs ds → DqAll K G' vs ds
  | _, _, .nil => .nil
  | _, _, .cons e q => .cons (Dq.mono h e) (DqAll.mono h q)
end
mutual
theorem Dq.dp {K : PySem.W.Frag} {G : Hp} : ∀ {v : V} {d : D}, Dq K G v d → Dp K G v d
  | _, _, .non => .non
  | _, _, .bl b => .bl b
  | _, _, .int i => .int i
  | _, _, .str x => .str x
  | _, _, .lst e q => .lst (.of e) (DqAll.dp q)
  | _, _, .tup e q => .tup e (DqAll.dp q)
theorem DqAll.dp {K : PySem.W.Frag} {G : Hp} : ∀ {vs : List V} {ds : List D}, DqAll K G vs ds → DpAll K G vs ds
  | _, _, .nil => .nil
  | _, _, .cons e q => .cons (Dq.dp e) (DqAll.dp q)
end
theorem DqAll.length {K : PySem.W.Frag} {G : Hp} : ∀ {vs : List V} {ds : List D}, DqAll K G vs ds → vs.length = ds.length
  | _, _, .nil => rfl
  | _, _, .cons _ q => by rw [List.length_cons, List.length_cons, DqAll.length q]
theorem DqAll.get {K : PySem.W.Frag} {G : Hp} : ∀ {vs : List V} {ds : List D}, DqAll K G vs ds → ∀ {i : Nat} {d : D}, ds[i]? = some d → ∃ v, vs[i]? = some v ∧ Dq K G v d
  | _, _, .nil, _, _, e => by simp at e
  | _, _, .cons r _, 0, _, e => by simp at e; subst e; exact ⟨_, rfl, r⟩
  | _, _, .cons _ q, i + 1, _, e => by
    obtain ⟨v, h1, h2⟩ := DqAll.get q (i := i) (by simpa using e)
    exact ⟨v, by simpa using h1, h2⟩
theorem DqAll.append {K : PySem.W.Frag} {G : Hp} : ∀ {vs ws : List V} {ds es : List D}, DqAll K G vs ds → DqAll K G ws es → DqAll K G (vs ++ ws) (ds ++ es)
  | _, _, _, _, .nil, s => s
  | _, _, _, _, .cons r t, s => .cons r (DqAll.append t s)
theorem DqAll.take {K : PySem.W.Frag} {G : Hp} : ∀ {vs : List V} {ds : List D} (n : Nat), DqAll K G vs ds → DqAll K G (vs.take n) (ds.take n)
  | _, _, 0, _ => .nil
  | _, _, _ + 1, .nil => .nil
  | _, _, n + 1, .cons r t => .cons r (DqAll.take n t)
theorem DqAll.drop {K : PySem.W.Frag} {G : Hp} : ∀ {vs : List V} {ds : List D} (n : Nat), DqAll K G vs ds → DqAll K G (vs.drop n) (ds.drop n)
  | _, _, 0, r => r
  | _, _, _ + 1, .nil => .nil
  | _, _, n + 1, .cons _ t => DqAll.drop n t
theorem DqAll.set {K : PySem.W.Frag} {G : Hp} {x : V} {d : D} (r : Dq K G x d) : ∀ {vs : List V} {ds : List D} (i : Nat), DqAll K G vs ds → DqAll K G (vs.set i x) (ds.set i d)
  | _, _, _, .nil => .nil
  | _, _, 0, .cons _ t => .cons r t
  | _, _, i + 1, .cons q t => .cons q (DqAll.set r i t)
theorem DqAll.reverse {K : PySem.W.Frag} {G : Hp} : ∀ {vs : List V} {ds : List D}, DqAll K G vs ds → DqAll K G vs.reverse ds.reverse
  | _, _, .nil => .nil
  | _, _, .cons r t => by
    rw [List.reverse_cons, List.reverse_cons]
    exact DqAll.append (DqAll.reverse t) (.cons r .nil)
theorem DqAll.ints {K : PySem.W.Frag} {G : Hp} : ∀ {vs : List V} {ns : List Int}, DqAll K G vs (ns.map .int) → vs = ns.map V.int
  | _, [], .nil => rfl
  | _, _ :: _, .cons (.int _) q => by rw [List.map_cons, DqAll.ints q]
theorem DqAll.bools {K : PySem.W.Frag} {G : Hp} : ∀ {vs : List V} {ns : List Bool}, DqAll K G vs (ns.map .bool) → vs = ns.map V.bl
  | _, [], .nil => rfl
  | _, _ :: _, .cons (.bl _) q => by rw [List.map_cons, DqAll.bools q]
theorem DqAll.ofInts {K : PySem.W.Frag} {G : Hp} : ∀ (ns : List Int), DqAll K G (ns.map V.int) (ns.map .int)
  | [] => .nil
  | n :: r => .cons (.int n) (DqAll.ofInts r)
mutual
theorem Dq.plain {K : PySem.W.Frag} {G : Hp} : ∀ {v : V} {d : D}, Dq K G v d → d.plain = true
  | _, _, .non => rfl
  | _, _, .bl b => rfl
  | _, _, .int i => rfl
  | _, _, .str x => rfl
  | _, _, .lst e q => DqAll.plain q
  | _, _, .tup e q => DqAll.plain q
theorem DqAll.plain {K : PySem.W.Frag} {G : Hp} : ∀ {vs : List V} {ds : List D}, DqAll K G vs ds → PyData.plainAll ds = true
  | _, _, .nil => rfl
  | _, _, .cons e q => by
    show (PyData.plain _ && PyData.plainAll _) = true
    rw [Dq.plain e, DqAll.plain q]; rfl
end

/-- the rows of a dict: keys are ints and texts -/
inductive DqK (K : PySem.W.Frag) (H : Hp) : List (Key × V) → List (Key × D) → Prop
  | nil : DqK K H [] []
  | cons {k : Key} {v : V} {d : D} {r : List (Key × V)} {s : List (Key × D)} : Dq K H v d → DqK K H r s → DqK K H ((k, v) :: r) ((k, d) :: s)
theorem DqK.mono {K : PySem.W.Frag} {G G' : Hp} (h : Le G G') : ∀ {vs : List (Key × V)} {ds : List (Key × D)}, DqK K G vs ds → DqK K G' vs ds
  | _, _, .nil => .nil
  | _, _, .cons e q => .cons (Dq.mono h e) (DqK.mono h q)
theorem DqK.length {K : PySem.W.Frag} {G : Hp} : ∀ {vs : List (Key × V)} {ds : List (Key × D)}, DqK K G vs ds → vs.length = ds.length
  | _, _, .nil => rfl
  | _, _, .cons _ q => by rw [List.length_cons, List.length_cons, DqK.length q]
/-! ### slots -/
inductive Sl where
  | un
  | dat (d : D)
  | own (ds : List D)
  | box (k : Nat)
  | od (kvs : List (Key × D))
def Sl.isOwn : Sl → Bool
  | .own _ => true
  | .od _ => true
  | _ => false
/-- where a def was entered: the box, the frozen part and the heap then -/
structure Ct where
  E : Ef
  G0 : Hp
  H0 : Hp
structure Wd (c : Ct) (G H : Hp) : Prop where
  w : W0 c.E G H
  e : Ext c.E c.G0 c.H0 G H
theorem Wd.step {c : Ct} {G H G' H' : Hp} (w : Wd c G H) (w' : W0 c.E G' H') (e : Ext c.E G H G' H') : Wd c G' H' := ⟨w', w.e.trans e⟩
/-- an unfrozen list of its own -/
structure Own (K : PySem.W.Frag) (c : Ct) (G H : Hp) (a : Addr) (ds : List D) : Prop where
  at_ : ∃ vs, H a = some (.lst vs) ∧ DqAll K G vs ds
  g : G a = none
  h0 : c.H0 a = none
  v : ¬ c.E.vol a
/-- an unfrozen dict of its own -/
structure OwnD (K : PySem.W.Frag) (c : Ct) (G H : Hp) (a : Addr) (ds : List (Key × D)) : Prop where
  at_ : ∃ vs, H a = some (.dK vs) ∧ DqK K G vs ds
  g : G a = none
  h0 : c.H0 a = none
  v : ¬ c.E.vol a
def SlOk (K : PySem.W.Frag) (c : Ct) (G H : Hp) : Sl → V → Prop
  | .un, _ => True
  | .dat d, v => Dq K G v d
  | .own ds, v => ∃ a, v = .ref a ∧ Own K c G H a ds
  | .box k, v => c.E.box k v
  | .od ds, v => ∃ a, v = .ref a ∧ OwnD K c G H a ds
structure RS (K : PySem.W.Frag) (c : Ct) (G H : Hp) (σ : L2.St) (ρ : List Sl) : Prop where
  len : σ.length = ρ.length
  at_ : ∀ (i : Nat) (x : Sl), ρ[i]? = some x → x = .un ∨ ∃ v, σ[i]? = some (some v) ∧ SlOk K c G H x v
  dd : ∀ (i j : Nat) (x y : Sl) (v : V), ρ[i]? = some x → ρ[j]? = some y → x.isOwn = true → y.isOwn = true → σ[i]? = some (some v) → σ[j]? = some (some v) → i = j
theorem RS.dis {K : PySem.W.Frag} {c : Ct} {G H : Hp} {σ : L2.St} {ρ : List Sl} (r : RS K c G H σ ρ) (i j : Nat) (ds es : List D) (v : V) (h1 : ρ[i]? = some (.own ds)) (h2 : ρ[j]? = some (.own es)) (h3 : σ[i]? = some (some v)) (h4 : σ[j]? = some (some v)) : i = j := r.dd i j _ _ v h1 h2 rfl rfl h3 h4
theorem Own.ext {K : PySem.W.Frag} {c : Ct} {G H G' H' : Hp} {a : Addr} {ds : List D} (o : Own K c G H a ds) (e : Ext c.E G H G' H') : Own K c G' H' a ds := by
  obtain ⟨vs, h, q⟩ := o.at_
  exact ⟨⟨vs, e.h a _ h o.v, DqAll.mono e.g q⟩, e.n a _ h o.v o.g, o.h0, o.v⟩
theorem OwnD.ext {K : PySem.W.Frag} {c : Ct} {G H G' H' : Hp} {a : Addr} {ds : List (Key × D)} (o : OwnD K c G H a ds) (e : Ext c.E G H G' H') : OwnD K c G' H' a ds := by
  obtain ⟨vs, h, q⟩ := o.at_
  exact ⟨⟨vs, e.h a _ h o.v, DqK.mono e.g q⟩, e.n a _ h o.v o.g, o.h0, o.v⟩
theorem SlOk.ext {K : PySem.W.Frag} {c : Ct} {G H G' H' : Hp} (e : Ext c.E G H G' H') : ∀ {x : Sl} {v : V}, SlOk K c G H x v → SlOk K c G' H' x v
  | .un, _, _ => trivial
  | .dat _, _, h => Dq.mono e.g h
  | .own _, _, ⟨a, h, o⟩ => ⟨a, h, o.ext e⟩
  | .box _, _, h => h
  | .od _, _, ⟨a, h, o⟩ => ⟨a, h, o.ext e⟩
theorem RS.ext {K : PySem.W.Frag} {c : Ct} {G H G' H' : Hp} {σ : L2.St} {ρ : List Sl} (r : RS K c G H σ ρ) (e : Ext c.E G H G' H') : RS K c G' H' σ ρ :=
  ⟨r.len, fun i x h => (r.at_ i x h).imp id fun ⟨v, q, s⟩ => ⟨v, q, s.ext e⟩, r.dd⟩
theorem set_get {α : Type} {l : List α} {i j : Nat} {x y : α} (h : (l.set i x)[j]? = some y) : (j = i ∧ y = x) ∨ (j ≠ i ∧ l[j]? = some y) := by
  by_cases e : j = i
  · subst e
    have hl : j < l.length := by
      have := (List.getElem?_eq_some_iff.mp h).1
      simpa using this
    rw [List.getElem?_set_self hl] at h
    exact .inl ⟨rfl, (Option.some.inj h).symm⟩
  · rw [List.getElem?_set_ne (Ne.symm e)] at h
    exact .inr ⟨e, h⟩
/-- a slot is set to data -/
theorem RS.setD {K : PySem.W.Frag} {c : Ct} {G H : Hp} {σ : L2.St} {ρ : List Sl} (r : RS K c G H σ ρ) {i : Nat} {v : V} {d : D} (q : Dq K G v d) : RS K c G H (σ.set i (some v)) (ρ.set i (.dat d)) := by
  refine ⟨by simp [r.len], fun j x h => ?_, fun j l ds es u h1 h2 k1 k2 h3 h4 => ?_⟩
  · rcases set_get h with ⟨rfl, rfl⟩ | ⟨hj, h⟩
    · have hl : j < σ.length := by
        rw [r.len]; have := (List.getElem?_eq_some_iff.mp h).1; simpa using this
      exact .inr ⟨v, List.getElem?_set_self hl, q⟩
    · rcases r.at_ j x h with e | ⟨u, e, s⟩
      · exact .inl e
      · exact .inr ⟨u, by rw [List.getElem?_set_ne (Ne.symm hj)]; exact e, s⟩
  · rcases set_get h1 with ⟨_, e⟩ | ⟨n1, e1⟩
    · rw [e] at k1; cases k1
    · rcases set_get h2 with ⟨_, e⟩ | ⟨n2, e2⟩
      · rw [e] at k2; cases k2
      · rw [List.getElem?_set_ne (Ne.symm n1)] at h3
        rw [List.getElem?_set_ne (Ne.symm n2)] at h4
        exact r.dd j l ds es u e1 e2 k1 k2 h3 h4
/-- a slot is wiped -/
theorem RS.wipe1 {K : PySem.W.Frag} {c : Ct} {G H : Hp} {σ : L2.St} {ρ : List Sl} (r : RS K c G H σ ρ) (i : Nat) (o : Option V) : RS K c G H (σ.set i o) (ρ.set i .un) := by
  refine ⟨by simp [r.len], fun j x h => ?_, fun j l ds es u h1 h2 k1 k2 h3 h4 => ?_⟩
  · rcases set_get h with ⟨rfl, rfl⟩ | ⟨hj, h⟩
    · exact .inl rfl
    · rcases r.at_ j x h with e | ⟨u, e, s⟩
      · exact .inl e
      · exact .inr ⟨u, by rw [List.getElem?_set_ne (Ne.symm hj)]; exact e, s⟩
  · rcases set_get h1 with ⟨_, e⟩ | ⟨n1, e1⟩
    · rw [e] at k1; cases k1
    · rcases set_get h2 with ⟨_, e⟩ | ⟨n2, e2⟩
      · rw [e] at k2; cases k2
      · rw [List.getElem?_set_ne (Ne.symm n1)] at h3
        rw [List.getElem?_set_ne (Ne.symm n2)] at h4
        exact r.dd j l ds es u e1 e2 k1 k2 h3 h4
def wipeS (ρ : List Sl) : List Nat → List Sl
  | [] => ρ
  | v :: vs => (wipeS ρ vs).set v .un
theorem RS.wipe {K : PySem.W.Frag} {c : Ct} {G H : Hp} {σ : L2.St} {ρ : List Sl} (r : RS K c G H σ ρ) : ∀ vs : List Nat, RS K c G H (L2.wipe σ vs) (wipeS ρ vs)
  | [] => r
  | v :: vs => (RS.wipe r vs).wipe1 v none
/-- two things of their own at one place are of one kind -/
theorem own_od {K : PySem.W.Frag} {c : Ct} {G H : Hp} {a b : Addr} {ds : List D} {es : List (Key × D)} (o : Own K c G H a ds) (p : OwnD K c G H b es) : b ≠ a := fun z => by
  subst z
  obtain ⟨vs, h, _⟩ := o.at_
  obtain ⟨ws, k, _⟩ := p.at_
  rw [h] at k; cases k
/-- a slot is set to a new thing of its own -/
theorem RS.setN {K : PySem.W.Frag} {c : Ct} {G H : Hp} {σ : L2.St} {ρ : List Sl} (r : RS K c G H σ ρ) {i : Nat} {a : Addr} {x : Sl} (q : SlOk K c G H x (.ref a))
    (new : ∀ (j : Nat) (y : Sl), ρ[j]? = some y → y.isOwn = true → σ[j]? ≠ some (some (.ref a))) : RS K c G H (σ.set i (some (.ref a))) (ρ.set i x) := by
  refine ⟨by simp [r.len], fun j x h => ?_, fun j l ds es u h1 h2 k1 k2 h3 h4 => ?_⟩
  · rcases set_get h with ⟨rfl, rfl⟩ | ⟨hj, h⟩
    · have hl : j < σ.length := by
        rw [r.len]; have := (List.getElem?_eq_some_iff.mp h).1; simpa using this
      exact .inr ⟨.ref a, List.getElem?_set_self hl, q⟩
    · rcases r.at_ j x h with e | ⟨u, e, s⟩
      · exact .inl e
      · exact .inr ⟨u, by rw [List.getElem?_set_ne (Ne.symm hj)]; exact e, s⟩
  · rcases set_get h1 with ⟨rfl, e⟩ | ⟨n1, e1⟩
    · rcases set_get h2 with ⟨rfl, e⟩ | ⟨n2, e2⟩
      · rfl
      · rw [List.getElem?_set_ne (Ne.symm n2)] at h4
        rcases set_get h3 with ⟨_, e3⟩ | ⟨n3, _⟩
        · cases e3; exact absurd h4 (new l es e2 k2)
        · exact absurd rfl n3
    · rcases set_get h2 with ⟨rfl, e⟩ | ⟨n2, e2⟩
      · rw [List.getElem?_set_ne (Ne.symm n1)] at h3
        rcases set_get h4 with ⟨_, e3⟩ | ⟨n3, _⟩
        · cases e3; exact absurd h3 (new j ds e1 k1)
        · exact absurd rfl n3
      · rw [List.getElem?_set_ne (Ne.symm n1)] at h3
        rw [List.getElem?_set_ne (Ne.symm n2)] at h4
        exact r.dd j l ds es u e1 e2 k1 k2 h3 h4
/-- a slot is set to a new list of its own -/
theorem RS.setO {K : PySem.W.Frag} {c : Ct} {G H : Hp} {σ : L2.St} {ρ : List Sl} (r : RS K c G H σ ρ) {i : Nat} {a : Addr} {ds : List D} (q : Own K c G H a ds)
    (new : ∀ (j : Nat) (es : List D), ρ[j]? = some (.own es) → σ[j]? ≠ some (some (.ref a))) : RS K c G H (σ.set i (some (.ref a))) (ρ.set i (.own ds)) :=
  r.setN ⟨a, rfl, q⟩ fun j y h k e => by
    cases y with
    | own es => exact new j es h e
    | od es =>
      rcases r.at_ j _ h with z | ⟨u, e2, b, hb, p⟩
      · cases z
      · rw [e] at e2
        cases e2; cases hb
        exact own_od q p rfl
    | _ => cases k
/-- a slot is set to a new dict of its own -/
theorem RS.setOD {K : PySem.W.Frag} {c : Ct} {G H : Hp} {σ : L2.St} {ρ : List Sl} (r : RS K c G H σ ρ) {i : Nat} {a : Addr} {ds : List (Key × D)} (q : OwnD K c G H a ds)
    (new : ∀ (j : Nat) (es : List (Key × D)), ρ[j]? = some (.od es) → σ[j]? ≠ some (some (.ref a))) : RS K c G H (σ.set i (some (.ref a))) (ρ.set i (.od ds)) :=
  r.setN ⟨a, rfl, q⟩ fun j y h k e => by
    cases y with
    | od es => exact new j es h e
    | own es =>
      rcases r.at_ j _ h with z | ⟨u, e2, b, hb, p⟩
      · cases z
      · rw [e] at e2
        cases e2; cases hb
        exact own_od p q rfl
    | _ => cases k
/-- the own list in a slot is changed -/
theorem Wd.mut {K : PySem.W.Frag} {c : Ct} {G H : Hp} {a : Addr} {ds es : List D} (w : Wd c G H) (o : Own K c G H a ds) {ws : List V} (q : DqAll K G ws es) : Wd c G (upd H a (.lst ws)) ∧ Own K c G (upd H a (.lst ws)) a es := by
  have h0 : ∀ p u, c.H0 p = some u → p ≠ a := fun p u e z => by subst z; rw [o.h0] at e; cases e
  refine ⟨⟨⟨fun p u e => ?_, w.w.vol, Ef.loc w.w.inv fun p vp => ?_⟩, ⟨w.e.g, fun p u e v => ?_, w.e.n⟩⟩, ⟨⟨ws, upd_same, q⟩, o.g, o.h0, o.v⟩⟩
  · rw [upd_ne (by rintro rfl; rw [o.g] at e; cases e)]; exact w.w.sub p u e
  · rw [upd_ne (by rintro rfl; exact o.v vp)]
  · rw [upd_ne (h0 p u e)]; exact w.e.h p u e v
theorem RS.mut {K : PySem.W.Frag} {c : Ct} {G H : Hp} {σ : L2.St} {ρ : List Sl} (r : RS K c G H σ ρ) {i : Nat} {a : Addr} {ds es : List D} (hi : ρ[i]? = some (.own ds)) (hs : σ[i]? = some (some (.ref a)))
    (o : Own K c G H a ds) {ws : List V} (q : DqAll K G ws es) : RS K c G (upd H a (.lst ws)) σ (ρ.set i (.own es)) := by
  refine ⟨by simp [r.len], fun j x h => ?_, fun j l ds' es' u h1 h2 k1 k2 h3 h4 => ?_⟩
  · rcases set_get h with ⟨rfl, rfl⟩ | ⟨hj, h⟩
    · exact .inr ⟨_, hs, a, rfl, ⟨⟨ws, upd_same, q⟩, o.g, o.h0, o.v⟩⟩
    · rcases r.at_ j x h with e | ⟨u, e, s⟩
      · exact .inl e
      · refine .inr ⟨u, e, ?_⟩
        cases x with
        | un => trivial
        | dat d => exact s
        | box k => exact s
        | own fs =>
          obtain ⟨b, rfl, ob⟩ := s
          have hb : b ≠ a := fun z => by subst z; exact hj (r.dis j i fs ds _ h hi e hs)
          obtain ⟨vs, e1, e2⟩ := ob.at_
          exact ⟨b, rfl, ⟨vs, by rw [upd_ne hb]; exact e1, e2⟩, ob.g, ob.h0, ob.v⟩
        | od fs =>
          obtain ⟨b, rfl, ob⟩ := s
          have hb : b ≠ a := own_od o ob
          obtain ⟨vs, e1, e2⟩ := ob.at_
          exact ⟨b, rfl, ⟨vs, by rw [upd_ne hb]; exact e1, e2⟩, ob.g, ob.h0, ob.v⟩
  · have f : ∀ (j : Nat) (x : Sl), (ρ.set i (.own es))[j]? = some x → x.isOwn = true → ∃ y : Sl, ρ[j]? = some y ∧ y.isOwn = true := fun j x h k => by
      rcases set_get h with ⟨rfl, _⟩ | ⟨_, h⟩
      · exact ⟨_, hi, rfl⟩
      · exact ⟨_, h, k⟩
    obtain ⟨_, g1, m1⟩ := f j ds' h1 k1
    obtain ⟨_, g2, m2⟩ := f l es' h2 k2
    exact r.dd j l _ _ u g1 g2 m1 m2 h3 h4
/-- the own list in a slot is frozen -/
theorem Wd.freeze {K : PySem.W.Frag} {c : Ct} {G H : Hp} {a : Addr} {ds : List D} (w : Wd c G H) (o : Own K c G H a ds) : ∃ G', Wd c G' H ∧ Le G G' ∧ Dq K G' (.ref a) (.list ds) ∧ (∀ p, p ≠ a → G' p = G p) := by
  obtain ⟨vs, h, q⟩ := o.at_
  have le : Le G (upd G a (.lst vs)) := fun p u e => by rw [upd_ne (ne_of_none e o.g)]; exact e
  refine ⟨upd G a (.lst vs), ⟨w.w.freeze h o.g o.v, ⟨fun p u e => le p u (w.e.g p u e), w.e.h, fun p u e v g => ?_⟩⟩, le, .lst upd_same (DqAll.mono le q), fun p hp => upd_ne hp⟩
  rw [upd_ne (by rintro rfl; rw [o.h0] at e; cases e)]
  exact w.e.n p u e v g
theorem RS.freeze {K : PySem.W.Frag} {c : Ct} {G G' H : Hp} {σ : L2.St} {ρ : List Sl} (r : RS K c G H σ ρ) {i : Nat} {a : Addr} {ds : List D} (hi : ρ[i]? = some (.own ds)) (hs : σ[i]? = some (some (.ref a)))
    (le : Le G G') (hd : Dq K G' (.ref a) (.list ds)) (ne : ∀ p, p ≠ a → G' p = G p) : RS K c G' H σ (ρ.set i (.dat (.list ds))) := by
  refine ⟨by simp [r.len], fun j x h => ?_, fun j l ds' es' u h1 h2 k1 k2 h3 h4 => ?_⟩
  · rcases set_get h with ⟨rfl, rfl⟩ | ⟨hj, h⟩
    · exact .inr ⟨_, hs, hd⟩
    · rcases r.at_ j x h with e | ⟨u, e, s⟩
      · exact .inl e
      · refine .inr ⟨u, e, ?_⟩
        cases x with
        | un => trivial
        | dat d => exact Dq.mono le s
        | box k => exact s
        | own fs =>
          obtain ⟨b, rfl, ob⟩ := s
          have hb : b ≠ a := fun z => by subst z; exact hj (r.dis j i fs ds _ h hi e hs)
          obtain ⟨vs, e1, e2⟩ := ob.at_
          exact ⟨b, rfl, ⟨vs, e1, DqAll.mono le e2⟩, by rw [ne b hb]; exact ob.g, ob.h0, ob.v⟩
        | od fs =>
          obtain ⟨b, rfl, ob⟩ := s
          have hb : b ≠ a := by
            rcases r.at_ i _ hi with z | ⟨u2, e2, b2, hb2, o2⟩
            · cases z
            · rw [hs] at e2
              cases e2; cases hb2
              exact own_od o2 ob
          obtain ⟨vs, e1, e2⟩ := ob.at_
          exact ⟨b, rfl, ⟨vs, e1, DqK.mono le e2⟩, by rw [ne b hb]; exact ob.g, ob.h0, ob.v⟩
  · rcases set_get h1 with ⟨_, e⟩ | ⟨n1, e1⟩
    · rw [e] at k1; cases k1
    · rcases set_get h2 with ⟨_, e⟩ | ⟨n2, e2⟩
      · rw [e] at k2; cases k2
      · exact r.dd j l ds' es' u e1 e2 k1 k2 h3 h4
end Pu

namespace Pu
open PySem PySem.Spec PyProof.Rows L2
/-! ### values that are only looked at -/
def Bv (K : PySem.W.Frag) (c : Ct) (G H : Hp) (v : V) (d : D) : Prop := Dq K G v d ∨ ∃ a ds, v = .ref a ∧ d = .list ds ∧ Own K c G H a ds
inductive BvAll (K : PySem.W.Frag) (c : Ct) (G H : Hp) : List V → List D → Prop
  | nil : BvAll K c G H [] []
  | cons {v : V} {vs : List V} {d : D} {ds : List D} : Bv K c G H v d → BvAll K c G H vs ds → BvAll K c G H (v :: vs) (d :: ds)
section
variable {K : PySem.W.Frag} {c : Ct} {G H G' H' : Hp} {v : V} {d : D}
theorem Bv.ext (b : Bv K c G H v d) (e : Ext c.E G H G' H') : Bv K c G' H' v d := by
  rcases b with b | ⟨a, ds, rfl, rfl, o⟩
  · exact .inl (b.mono e.g)
  · exact .inr ⟨a, ds, rfl, rfl, o.ext e⟩
theorem BvAll.ext : ∀ {vs : List V} {ds : List D}, BvAll K c G H vs ds → Ext c.E G H G' H' → BvAll K c G' H' vs ds
  | _, _, .nil, _ => .nil
  | _, _, .cons b q, e => .cons (b.ext e) (q.ext e)
theorem Bv.dq (w : W0 c.E G H) (b : Bv K c G H v d) : Dq K H v d := by
  rcases b with b | ⟨a, ds, rfl, rfl, o⟩
  · exact b.mono w.sub
  · obtain ⟨vs, h, q⟩ := o.at_
    exact .lst h (q.mono w.sub)
theorem Bv.int {i : Int} (b : Bv K c G H v (.int i)) : v = .int i := by
  rcases b with b | ⟨a, ds, rfl, e, o⟩
  · cases b; rfl
  · cases e
theorem Bv.bool {i : Bool} (b : Bv K c G H v (.bool i)) : v = .bl i := by
  rcases b with b | ⟨a, ds, rfl, e, o⟩
  · cases b; rfl
  · cases e
theorem Bv.str {i : Str} (b : Bv K c G H v (.str i)) : v = .str i := by
  rcases b with b | ⟨a, ds, rfl, e, o⟩
  · cases b; rfl
  · cases e
theorem Bv.none (b : Bv K c G H v .none) : v = .non := by
  rcases b with b | ⟨a, ds, rfl, e, o⟩
  · cases b; rfl
  · cases e
theorem Bv.tup {ds : List D} (b : Bv K c G H v (.tuple ds)) : ∃ a vs, v = .ref a ∧ SqT K G a vs ∧ DqAll K G vs ds := by
  rcases b with b | ⟨a, ds, rfl, e, o⟩
  · cases b with | tup e q => exact ⟨_, _, rfl, e, q⟩
  · cases e
theorem Bv.lst {ds : List D} (w : W0 c.E G H) (b : Bv K c G H v (.list ds)) : ∃ a vs, v = .ref a ∧ H a = some (.lst vs) ∧ DqAll K G vs ds ∧ ¬ c.E.vol a := by
  rcases b with b | ⟨a, ds, rfl, e, o⟩
  · cases b with | lst e q =>
    refine ⟨_, _, rfl, w.sub _ _ e, q, fun z => ?_⟩
    rw [w.vol _ z] at e; cases e
  · cases e
    obtain ⟨vs, h, q⟩ := o.at_
    exact ⟨a, vs, rfl, h, q, o.v⟩
end

/-! ### the readings -/
section
variable (K : PySem.W.Frag)
/-- .. gives frozen data -/
def tP (f : List Sl → R D) : TE := fun σ H Q => ∃ (c : Ct) (G : Hp) (ρ : List Sl) (post : D → Prop), Wd c G H ∧ RS K c G H σ ρ ∧ f ρ post ∧
  ∀ r, post r → ∀ v G' H', Ext c.E G H G' H' → W0 c.E G' H' → Dq K G' v r → Q v H'
/-- .. gives data that may be the own list of a slot -/
def tB (f : List Sl → R D) : TE := fun σ H Q => ∃ (c : Ct) (G : Hp) (ρ : List Sl) (post : D → Prop), Wd c G H ∧ RS K c G H σ ρ ∧ f ρ post ∧
  ∀ r, post r → ∀ v G' H', Ext c.E G H G' H' → W0 c.E G' H' → Bv K c G' H' v r → Q v H'
/-- .. gives a new list, not frozen -/
def tF (f : List Sl → R (List D)) : TE := fun σ H Q => ∃ (c : Ct) (G : Hp) (ρ : List Sl) (post : List D → Prop), Wd c G H ∧ RS K c G H σ ρ ∧ f ρ post ∧
  ∀ r, post r → ∀ a G' H', H a = none → Ext c.E G H G' H' → W0 c.E G' H' → Own K c G' H' a r → Q (.ref a) H'
def tT (f : List Sl → R Bool) : TT := fun σ H Q => ∃ (c : Ct) (G : Hp) (ρ : List Sl) (post : Bool → Prop), Wd c G H ∧ RS K c G H σ ρ ∧ f ρ post ∧
  ∀ r, post r → ∀ G' H', Ext c.E G H G' H' → W0 c.E G' H' → Q r H'
def tAB (f : List Sl → R (List D)) : TA := fun σ H Q => ∃ (c : Ct) (G : Hp) (ρ : List Sl) (post : List D → Prop), Wd c G H ∧ RS K c G H σ ρ ∧ f ρ post ∧
  ∀ r, post r → ∀ vs G' H', Ext c.E G H G' H' → W0 c.E G' H' → BvAll K c G' H' vs r → Q vs H'
def tAF (f : List Sl → R (List D)) : TA := fun σ H Q => ∃ (c : Ct) (G : Hp) (ρ : List Sl) (post : List D → Prop), Wd c G H ∧ RS K c G H σ ρ ∧ f ρ post ∧
  ∀ r, post r → ∀ vs G' H', Ext c.E G H G' H' → W0 c.E G' H' → DqAll K G' vs r → Q vs H'
end
section
variable {X : Cx} {e a b : Expr} {es : List Expr} {pos : Pos}
theorem PE.wk {t t' : TE} (h : PE X e t) (w : ∀ σ H Q, t' σ H Q → t σ H Q) : PE X e t' := ⟨fun pins s σ H Q I q => h.run pins s σ H Q I (w σ H Q q)⟩
theorem PT.wk {t t' : TT} (h : PT X e t) (w : ∀ σ H Q, t' σ H Q → t σ H Q) : PT X e t' := ⟨fun pins s σ H Q I q => h.run pins s σ H Q I (w σ H Q q)⟩
theorem PW.wk {t t' : TT} (h : PW X e t) (w : ∀ σ H Q, t' σ H Q → t σ H Q) : PW X e t' := ⟨fun wh pins s σ H Q I q => h.run wh pins s σ H Q I (w σ H Q q)⟩
theorem PA.wk {t t' : TA} (h : PA X es t) (w : ∀ σ H Q, t' σ H Q → t σ H Q) : PA X es t' := ⟨fun pos pins s σ H Q I q => h.run pos pins s σ H Q I (w σ H Q q)⟩
/-- frozen data may be looked at -/
theorem pb {f : List Sl → R D} (h : PE X e (tP X.K f)) : PE X e (tB X.K f) := PE.wk h fun σ H Q ⟨c, G, ρ, post, w, r, hf, q⟩ =>
  ⟨c, G, ρ, post, w, r, hf, fun d hd v G' H' e' w' k => q d hd v G' H' e' w' (.inl k)⟩
/-- a new list is frozen -/
theorem pf {f : List Sl → R (List D)} (h : PE X e (tF X.K f)) : PE X e (tP X.K fun ρ => bd (f ρ) fun ds => ok (.list ds)) := PE.wk h fun σ H Q ⟨c, G, ρ, post, w, r, hf, q⟩ =>
  ⟨c, G, ρ, fun ds => post (.list ds), w, r, hf, fun d hd a G' H' na e' w' o => by
    obtain ⟨vs, h, k⟩ := o.at_
    have le : Le G' (upd G' a (.lst vs)) := fun p u e => by rw [upd_ne (ne_of_none e o.g)]; exact e
    refine q (.list d) hd (.ref a) (upd G' a (.lst vs)) H' ⟨fun p u e => le p u (e'.g p u e), e'.h, fun p u e v g => ?_⟩ (w'.freeze h o.g o.v) (.lst upd_same (k.mono le))
    rw [upd_ne (ne_of_none e na)]; exact e'.n p u e v g⟩
theorem pbf {f : List Sl → R (List D)} (h : PE X e (tF X.K f)) : PE X e (tB X.K fun ρ => bd (f ρ) fun ds => ok (.list ds)) := pb (pf h)

/-! ### names, constants -/
def getD (ρ : List Sl) (i : Nat) : R D := match ρ[i]? with
  | some (.dat d) => ok d
  | _ => fail
def getB (ρ : List Sl) (i : Nat) : R D := match ρ[i]? with
  | some (.dat d) => ok d
  | some (.own ds) => ok (.list ds)
  | _ => fail
theorem getD_inv {ρ : List Sl} {i : Nat} {post : D → Prop} (h : getD ρ i post) : ∃ d, ρ[i]? = some (.dat d) ∧ post d := by
  unfold getD at h
  cases e : ρ[i]? with
  | none => rw [e] at h; exact h.elim
  | some x =>
    rw [e] at h
    cases x with
    | dat d => exact ⟨d, rfl, h⟩
    | _ => exact h.elim
theorem getB_inv {ρ : List Sl} {i : Nat} {post : D → Prop} (h : getB ρ i post) : (∃ d, ρ[i]? = some (.dat d) ∧ post d) ∨ ∃ ds, ρ[i]? = some (.own ds) ∧ post (.list ds) := by
  unfold getB at h
  cases e : ρ[i]? with
  | none => rw [e] at h; exact h.elim
  | some x =>
    rw [e] at h
    cases x with
    | dat d => exact .inl ⟨d, rfl, h⟩
    | own ds => exact .inr ⟨ds, rfl, h⟩
    | _ => exact h.elim
theorem nD (i : Nat) {x : Str} (hN : X.N[i]? = some x := by rfl) (hv : Vis X.env.scope x := by first | exact Or.inl rfl | exact Or.inr (Or.inl rfl) | exact Or.inr (Or.inr rfl)) (hd : (x == ("__debug__" : Str)) = false := by decide)
    (hcd : (x == ("__classdict__" : Str)) = false := by decide) : PE X (.Name x pos) (tP X.K fun ρ => getD ρ i) := PE.wk (pe_var hN hv hd hcd) fun σ H Q ⟨c, G, ρ, post, w, r, hf, q⟩ => by
  obtain ⟨d, e, hp⟩ := getD_inv hf
  rcases r.at_ i _ e with z | ⟨v, e1, s⟩
  · cases z
  · exact ⟨v, e1, q d hp v G H .refl w.w s⟩
theorem nB (i : Nat) {x : Str} (hN : X.N[i]? = some x := by rfl) (hv : Vis X.env.scope x := by first | exact Or.inl rfl | exact Or.inr (Or.inl rfl) | exact Or.inr (Or.inr rfl)) (hd : (x == ("__debug__" : Str)) = false := by decide)
    (hcd : (x == ("__classdict__" : Str)) = false := by decide) : PE X (.Name x pos) (tB X.K fun ρ => getB ρ i) := PE.wk (pe_var hN hv hd hcd) fun σ H Q ⟨c, G, ρ, post, w, r, hf, q⟩ => by
  rcases getB_inv hf with ⟨d, e, hp⟩ | ⟨ds, e, hp⟩
  · rcases r.at_ i _ e with z | ⟨v, e1, s⟩
    · cases z
    · exact ⟨v, e1, q d hp v G H .refl w.w (.inl s)⟩
  · rcases r.at_ i _ e with z | ⟨v, e1, a, rfl, s⟩
    · cases z
    · exact ⟨_, e1, q _ hp _ G H .refl w.w (.inr ⟨a, ds, rfl, rfl, s⟩)⟩
theorem pcst {v : V} {d : D} (h : PE X e (tC v)) (k : ∀ G : Hp, Dq X.K G v d) : PE X e (tP X.K fun _ => ok d) := PE.wk h fun σ H Q ⟨c, G, ρ, post, w, r, hf, q⟩ => q d hf v G H .refl w.w (k G)
theorem cI {i j} : PE X (.Constant (.int i) j pos) (tP X.K fun _ => ok (.int i)) := pcst pe_int fun _ => .int i
theorem cT {b j} : PE X (.Constant (.bool b) j pos) (tP X.K fun _ => ok (.bool b)) := pcst pe_bl fun _ => .bl b
theorem cN {j} : PE X (.Constant .none j pos) (tP X.K fun _ => ok .none) := pcst pe_non fun _ => .non
theorem cS {x j} : PE X (.Constant (.str x) j pos) (tP X.K fun _ => ok (.str x)) := pcst pe_str fun _ => .str x
/-- a module's constant -/
theorem gC {x : Str} {v : V} {u : Value} {d : D} (k : ∀ G : Hp, Dq X.K G v d) (hm : X.mg x = some u) (r : RelV v u) (hg : Gl X x := by rfl) (hd : (x == ("__debug__" : Str)) = false := by decide) : PE X (.Name x pos) (tP X.K fun _ => ok d) :=
  pcst (pe_glob hg hm r hd) k

/-! ### two operands -/
def Bop (K : PySem.W.Frag) (r : R2) (h : D → D → R D) : Prop := ∀ (c : Ct) (G H : Hp) (x y : V) (d e : D) (post : D → Prop) (Q : VK), W0 c.E G H → Bv K c G H x d → Bv K c G H y e → h d e post →
  (∀ z, post z → ∀ v G' H', Ext c.E G H G' H' → W0 c.E G' H' → Dq K G' v z → Q v H') → r x y H Q
def m2 {α β γ : Type} (f : List Sl → R α) (g : List Sl → R β) (h : α → β → R γ) : List Sl → R γ := fun ρ => bd (f ρ) fun x => bd (g ρ) fun y => h x y
def m1 {α γ : Type} (f : List Sl → R α) (h : α → R γ) : List Sl → R γ := fun ρ => bd (f ρ) fun x => h x
theorem bop2 {K : PySem.W.Frag} {r : R2} {h : D → D → R D} (hr : Bop K r h) {f g : List Sl → R D} {σ : L2.St} {H : Hp} {Q : VK} (q : tP K (m2 f g h) σ H Q) : tOp r (tB K f) (tB K g) σ H Q := by
  obtain ⟨c, G, ρ, post, w, r, hf, q⟩ := q
  refine ⟨c, G, ρ, fun x => bd (g ρ) (fun y => h x y) post, w, r, hf, fun x hx v G1 H1 e1 w1 b1 => ?_⟩
  refine ⟨c, G1, ρ, fun y => h x y post, w.step w1 e1, r.ext e1, hx, fun y hy u G2 H2 e2 w2 b2 => ?_⟩
  exact hr c G2 H2 v u x y post Q w2 (b1.ext e2) b2 hy fun z hz v' G' H' e3 w3 d3 => q z hz v' G' H' ((e1.trans e2).trans e3) w3 d3
theorem pOp {op : Operator} {r : R2} {h : D → D → R D} (ho : OpR X (binaryOp op) r) (hr : Bop X.K r h) {f g : List Sl → R D} (ha : PE X a (tB X.K f)) (hb : PE X b (tB X.K g)) : PE X (.BinOp a op b pos) (tP X.K (m2 f g h)) :=
  PE.wk (pe_op ho ha hb) fun _ _ _ q => bop2 hr q
theorem pCmp {op : CmpOp} {r : R2} {h : D → D → R D} (ho : OpR X (compareOp op) r) (hr : Bop X.K r h) {f g : List Sl → R D} (ha : PE X a (tB X.K f)) (hb : PE X b (tB X.K g)) (hm : behindInMarks op b = false) : PE X (.Compare a [op] [b] pos) (tP X.K (m2 f g h)) :=
  PE.wk (pe_cmpR ho ha hb hm) fun _ _ _ q => bop2 hr q
theorem Bop.or1 {K : PySem.W.Frag} {r r' : R2} {h : D → D → R D} (k : Bop K r h) : Bop K (fun x y H Q => r x y H Q ∨ r' x y H Q) h := fun c G H x y d e post Q w b1 b2 hp q => .inl (k c G H x y d e post Q w b1 b2 hp q)
/-- the answer is a bool: as a test -/
def asB : D → R Bool
  | .bool b => ok b
  | _ => fail
@[simp] theorem asB_bool (b : Bool) : asB (.bool b) = ok b := (rfl)
theorem asB_inv {d : D} {post : Bool → Prop} (h : asB d post) : ∃ b, d = .bool b ∧ post b := by
  cases d <;> first | exact h.elim | exact ⟨_, rfl, h⟩
theorem tTest_of {K : PySem.W.Frag} {t : TE} {f : List Sl → R D} (ht : ∀ σ H Q, tP K f σ H Q → t σ H Q) {σ : L2.St} {H : Hp} {Q : Bool → Hp → Prop} (q : tT K (m1 f asB) σ H Q) : tTest t σ H Q := by
  obtain ⟨c, G, ρ, post, w, r, hf, q⟩ := q
  refine ht σ H _ ⟨c, G, ρ, fun d => asB d post, w, r, hf, fun d hd v G' H' e' w' k => ?_⟩
  obtain ⟨b, rfl, hb⟩ := asB_inv hd
  cases k
  exact ⟨b, rfl, q b hb G' H' e' w'⟩
theorem pCmpT {op : CmpOp} {r : R2} {h : D → D → R D} (ho : OpR X (compareOp op) r) (hr : Bop X.K r h) {f g : List Sl → R D} (ha : PE X a (tB X.K f)) (hb : PE X b (tB X.K g)) (hm : behindInMarks op b = false) : PT X (.Compare a [op] [b] pos) (tT X.K (m1 (m2 f g h) asB)) :=
  PT.wk (pt_cmpR ho ha hb hm) fun _ _ _ q => tTest_of (fun _ _ _ z => bop2 hr z) q

/-! ### numbers, texts, tuples -/
def addR : D → D → R D
  | .int i, .int j => ok (.int (i + j))
  | .str x, .str y => bd (req (x.length + y.length ≤ sizeLine)) fun _ => ok (.str (x ++ y))
  | .tuple x, .tuple y => bd (req (x.length + y.length ≤ sizeLine)) fun _ => ok (.tuple (x ++ y))
  | .list x, .list y => bd (req (x.length + y.length ≤ sizeLine)) fun _ => ok (.list (x ++ y))
  | _, _ => fail
def subR : D → D → R D
  | .int i, .int j => ok (.int (i - j))
  | _, _ => fail
def mulOk (i j : Int) : Prop := (-(2 ^ 64) < i ∧ i < 2 ^ 64) ∨ (-(2 ^ 64) < j ∧ j < 2 ^ 64) ∨ i.natAbs.log2 + j.natAbs.log2 < 1000000
def mulZ : D → D → R D
  | .int i, .int j => bd (req (mulOk i j)) fun _ => ok (.int (i * j))
  | _, _ => fail
def divOk (j : Int) : Prop := j ≠ 0 ∧ (j.natAbs < 1073741824 ∨ (0 < j ∧ j.natAbs.log2 < 9000))
def fdivR : D → D → R D
  | .int i, .int j => bd (req (divOk j)) fun _ => ok (.int (i.fdiv j))
  | _, _ => fail
def fmodR : D → D → R D
  | .int i, .int j => bd (req (j ≠ 0)) fun _ => ok (.int (i.fmod j))
  | _, _ => fail
def powR : D → D → R D
  | .int i, .int j => bd (req (0 ≤ j ∧ j ≤ 1000000 ∧ i.natAbs < 2 ^ 64)) fun _ => ok (.int (i ^ j.toNat))
  | _, _ => fail
theorem bop_add : Bop X.K (fun x y H Q => ((∃ i j, x = V.int i ∧ y = V.int j ∧ Q (.int (i + j)) H) ∨ (∃ i j, x = V.str i ∧ y = V.str j ∧ i.length + j.length ≤ sizeLine ∧ Q (.str (i ++ j)) H)) ∨ (rCatA X.K x y H Q ∨ rCat x y H Q)) addR := by
  intro c G H x y d e post Q w b1 b2 hp q
  cases d <;> cases e <;> try exact hp.elim
  · exact .inl (.inl ⟨_, _, b1.int, b2.int, q _ hp _ G H .refl w (.int _)⟩)
  · exact .inl (.inr ⟨_, _, b1.str, b2.str, hp.1, q _ hp.2 _ G H .refl w (.str _)⟩)
  · obtain ⟨t1, xs, rfl, s1, k1, _⟩ := b1.lst w
    obtain ⟨t2, ys, rfl, s2, k2, _⟩ := b2.lst w
    obtain ⟨hs, hp⟩ := hp
    refine .inr (.inr ⟨t1, t2, xs, ys, rfl, rfl, s1, s2, by rw [k1.length, k2.length]; exact hs, fun p np => ?_⟩)
    obtain ⟨w1, e1⟩ := w.newF np (.lst (xs ++ ys))
    exact q _ hp _ _ _ e1 w1 (.lst upd_same ((k1.mono e1.g).append (k2.mono e1.g)))
  · obtain ⟨t1, xs, rfl, s1, k1⟩ := b1.tup
    obtain ⟨t2, ys, rfl, s2, k2⟩ := b2.tup
    obtain ⟨hs, hp⟩ := hp
    rename_i ds es
    refine .inr (.inl ⟨t1, t2, xs, ys, rfl, rfl, sqT_mono w.sub s1, sqT_mono w.sub s2, by rw [k1.length, k2.length]; exact hs, fun h => ?_, fun _ h => ?_, fun _ _ p np => ?_⟩)
    · subst h; cases k1
      exact q _ hp _ G H .refl w (.tup s2 k2)
    · subst h; cases k2
      have hp' : post (.tuple ds) := by rw [List.append_nil] at hp; exact hp
      exact q _ hp' _ G H .refl w (.tup s1 k1)
    · obtain ⟨w1, e1⟩ := w.newF np (.tup (xs ++ ys))
      exact q _ hp _ _ _ e1 w1 (.tup (.of upd_same) ((k1.mono e1.g).append (k2.mono e1.g)))
theorem oAdd {f g : List Sl → R D} (ha : PE X a (tB X.K f)) (hb : PE X b (tB X.K g)) : PE X (.BinOp a .Add b pos) (tP X.K (m2 f g addR)) := pOp ((op_add.or op_add_str).or (op_catA.or op_cat)) bop_add ha hb
theorem bop_sub : Bop X.K (rI0 fun i j => .int (i - j)) subR := by
  intro c G H x y d e post Q w b1 b2 hp q
  cases d <;> cases e <;> try exact hp.elim
  exact ⟨_, _, b1.int, b2.int, q _ hp _ G H .refl w (.int _)⟩
theorem oSub {f g : List Sl → R D} (ha : PE X a (tB X.K f)) (hb : PE X b (tB X.K g)) : PE X (.BinOp a .Sub b pos) (tP X.K (m2 f g subR)) := pOp op_sub bop_sub ha hb
theorem bop_mul : Bop X.K (fun x y H Q => rI CMul (fun i j => .int (i * j)) x y H Q ∨ rI CMulW (fun i j => .int (i * j)) x y H Q) mulZ := by
  intro c G H x y d e post Q w b1 b2 hp q
  cases d <;> cases e <;> try exact hp.elim
  obtain ⟨h, hp⟩ := hp
  have fin := q _ hp _ G H .refl w (.int _)
  rcases h with h | h | h
  · exact .inl ⟨_, _, b1.int, b2.int, .inl h, fin⟩
  · exact .inl ⟨_, _, b1.int, b2.int, .inr h, fin⟩
  · exact .inr ⟨_, _, b1.int, b2.int, h, fin⟩
theorem oMulZ {f g : List Sl → R D} (ha : PE X a (tB X.K f)) (hb : PE X b (tB X.K g)) : PE X (.BinOp a .Mult b pos) (tP X.K (m2 f g mulZ)) := pOp (op_mul.or op_mulW) bop_mul ha hb
theorem bop_fdiv : Bop X.K (fun x y H Q => rI CDivN (fun i j => .int (i.fdiv j)) x y H Q ∨ rI CDivW (fun i j => .int (i / j)) x y H Q) fdivR := by
  intro c G H x y d e post Q w b1 b2 hp q
  cases d <;> cases e <;> try exact hp.elim
  obtain ⟨⟨h0, h⟩, hp⟩ := hp
  have fin := q _ hp _ G H .refl w (.int _)
  rcases h with h | h
  · exact .inl ⟨_, _, b1.int, b2.int, ⟨h0, h⟩, fin⟩
  · refine .inr ⟨_, _, b1.int, b2.int, h, ?_⟩
    show Q (.int (_ / _)) H
    rw [← Int.fdiv_eq_ediv_of_nonneg _ (Int.le_of_lt h.1)]
    exact fin
theorem oFdiv {f g : List Sl → R D} (ha : PE X a (tB X.K f)) (hb : PE X b (tB X.K g)) : PE X (.BinOp a .FloorDiv b pos) (tP X.K (m2 f g fdivR)) := pOp (op_fdivN.or op_fdivW) bop_fdiv ha hb
theorem bop_fmod : Bop X.K (rI (fun _ j => j ≠ 0) fun i j => .int (i.fmod j)) fmodR := by
  intro c G H x y d e post Q w b1 b2 hp q
  cases d <;> cases e <;> try exact hp.elim
  exact ⟨_, _, b1.int, b2.int, hp.1, q _ hp.2 _ G H .refl w (.int _)⟩
theorem oMod {f g : List Sl → R D} (ha : PE X a (tB X.K f)) (hb : PE X b (tB X.K g)) : PE X (.BinOp a .Mod b pos) (tP X.K (m2 f g fmodR)) := pOp op_modN bop_fmod ha hb
theorem bop_pow : Bop X.K (rI CPow fun i j => .int (i ^ j.toNat)) powR := by
  intro c G H x y d e post Q w b1 b2 hp q
  cases d <;> cases e <;> try exact hp.elim
  exact ⟨_, _, b1.int, b2.int, hp.1, q _ hp.2 _ G H .refl w (.int _)⟩
theorem oPow {f g : List Sl → R D} (ha : PE X a (tB X.K f)) (hb : PE X b (tB X.K g)) : PE X (.BinOp a .Pow b pos) (tP X.K (m2 f g powR)) := pOp op_pow bop_pow ha hb
def negR : D → R D
  | .int i => ok (.int (-i))
  | _ => fail
theorem oNeg {f : List Sl → R D} (ha : PE X a (tB X.K f)) : PE X (.UnaryOp .USub a pos) (tP X.K (m1 f negR)) := PE.wk (pe_un un_neg ha) fun σ H Q ⟨c, G, ρ, post, w, r, hf, q⟩ => by
  refine ⟨c, G, ρ, fun d => negR d post, w, r, hf, fun d hd v G1 H1 e1 w1 b1 => ?_⟩
  cases d <;> try exact hd.elim
  exact ⟨_, b1.int, q _ hd _ G1 H1 e1 w1 (.int _)⟩

/-! ### comparisons -/
def eqR (d e : D) : R D := bd (req (min d.depth e.depth ≤ 60)) fun _ => ok (.bool (PyData.eqv d e))
def neR (d e : D) : R D := bd (req (min d.depth e.depth ≤ 60)) fun _ => ok (.bool (!PyData.eqv d e))
def ordOk (d e : D) : Prop := W.alike d e = true ∧ d ≠ .none ∧ min d.depth e.depth ≤ 60
def ltR (d e : D) : R D := bd (req (ordOk d e)) fun _ => ok (.bool (W.dataLt d e))
def gtR (d e : D) : R D := bd (req (ordOk d e)) fun _ => ok (.bool (W.dataLt e d))
def leR (d e : D) : R D := bd (req (ordOk d e)) fun _ => ok (.bool (!W.dataLt e d))
def geR (d e : D) : R D := bd (req (ordOk d e)) fun _ => ok (.bool (!W.dataLt d e))
def rDat (K : PySem.W.Frag) (C : D → D → Prop) (g : D → D → Bool) : R2 := fun x y H Q => ∃ d e, Dq K H x d ∧ Dq K H y e ∧ C d e ∧ Q (.bl (g d e)) H
theorem op_dat {op : CmpOp} {C : D → D → Prop} {g : D → D → Bool}
    (rule : ∀ {A : Around} {E : Value → Shared → Prop} {s : Shared} {a b : Value} {da db : PyData} {as bs : List Addr} {Q : Value → Shared → Prop}, Reads s.heap a da as → Reads s.heap b db bs → da.plain = true → db.plain = true → A.units + 64 < cLine → C da db →
      Q (.bool (g da db)) s → wpAny (model X.prog X.w) A (compareOp op a b) Q E s) (hu : X.A.units + 64 < cLine) : OpR X (compareOp op) (rDat X.K C g) := by
  intro pins s σ H x y v u Q I rx ry h
  obtain ⟨d, e, hd, he, hc, q⟩ := h
  obtain ⟨as, r1⟩ := Dp.reads I d x v hd.dp rx
  obtain ⟨bs, r2⟩ := Dp.reads I e y u he.dp ry
  exact rule r1 r2 hd.plain he.plain hu hc ⟨.bl _, H, I, rfl, q⟩
theorem bop_dat {C : D → D → Prop} {g : D → D → Bool} {h : D → D → R D} (hh : ∀ d e, h d e = bd (req (C d e)) fun _ => ok (.bool (g d e))) : Bop X.K (rDat X.K C g) h := by
  intro c G H x y d e post Q w b1 b2 hp q
  rw [hh] at hp
  exact ⟨d, e, b1.dq w, b2.dq w, hp.1, q _ hp.2 _ G H .refl w (.bl _)⟩
abbrev dpOk (d e : D) : Prop := min d.depth e.depth ≤ 60
theorem op_eqQ (hu : X.A.units + 64 < cLine) : OpR X (compareOp .Eq) (rDat X.K dpOk PyData.eqv) := op_dat (fun r1 r2 p1 p2 hu hc q => SeqAt.eq_plain r1 r2 p1 p2 (by unfold dpOk at hc; omega) q) hu
theorem op_neQ (hu : X.A.units + 64 < cLine) : OpR X (compareOp .NotEq) (rDat X.K dpOk fun d e => !PyData.eqv d e) := op_dat (fun r1 r2 p1 p2 hu hc q => SeqAt.ne_plain r1 r2 p1 p2 (by unfold dpOk at hc; omega) q) hu
theorem op_ltQ (hu : X.A.units + 64 < cLine) : OpR X (compareOp .Lt) (rDat X.K ordOk W.dataLt) := op_dat (fun r1 r2 p1 p2 hu hc q => W.lt_data r1 r2 hc.1 hc.2.1 (by have := hc.2.2; omega) q) hu
theorem op_gtQ (hu : X.A.units + 64 < cLine) : OpR X (compareOp .Gt) (rDat X.K ordOk fun d e => W.dataLt e d) := op_dat (fun r1 r2 p1 p2 hu hc q => W.gt_data r1 r2 hc.1 hc.2.1 (by have := hc.2.2; omega) q) hu
theorem op_leQ (hu : X.A.units + 64 < cLine) : OpR X (compareOp .LtE) (rDat X.K ordOk fun d e => !W.dataLt e d) := op_dat (fun r1 r2 p1 p2 hu hc q => W.le_data r1 r2 hc.1 hc.2.1 (by have := hc.2.2; omega) q) hu
theorem op_geQ (hu : X.A.units + 64 < cLine) : OpR X (compareOp .GtE) (rDat X.K ordOk fun d e => !W.dataLt d e) := op_dat (fun r1 r2 p1 p2 hu hc q => W.ge_data r1 r2 hc.1 hc.2.1 (by have := hc.2.2; omega) q) hu
theorem bop_eq : Bop X.K (rDat X.K dpOk PyData.eqv) eqR := bop_dat fun _ _ => rfl
theorem bop_ne : Bop X.K (rDat X.K dpOk fun d e => !PyData.eqv d e) neR := bop_dat fun _ _ => rfl
theorem bop_lt : Bop X.K (rDat X.K ordOk W.dataLt) ltR := bop_dat fun _ _ => rfl
theorem bop_gt : Bop X.K (rDat X.K ordOk fun d e => W.dataLt e d) gtR := bop_dat fun _ _ => rfl
theorem bop_le : Bop X.K (rDat X.K ordOk fun d e => !W.dataLt e d) leR := bop_dat fun _ _ => rfl
theorem bop_ge : Bop X.K (rDat X.K ordOk fun d e => !W.dataLt d e) geR := bop_dat fun _ _ => rfl
/-- is None, is True, is False -/
def isNon : D → Bool
  | .none => true
  | _ => false
def isV (d e : D) : Option Bool := match e with
  | .none => some (isNon d)
  | .bool b => (match d with | .bool a => some (decide (a = b)) | _ => none)
  | _ => none
def isR (d e : D) : R D := match isV d e with | some b => ok (.bool b) | none => fail
def isNotR (d e : D) : R D := match isV d e with | some b => ok (.bool (!b)) | none => fail
theorem non_iff {K : PySem.W.Frag} {H : Hp} {v : V} {d : D} (h : Dq K H v d) : decide (v = .non) = isNon d := by cases h <;> rfl
theorem isV_inv {K : PySem.W.Frag} {c : Ct} {G H : Hp} {x y : V} {d e : D} {b : Bool} (w : W0 c.E G H) (b1 : Bv K c G H x d) (b2 : Bv K c G H y e) (h : isV d e = some b) : (y = .non ∧ decide (x = .non) = b) ∨ ∃ p q : Bool, x = .bl p ∧ y = .bl q ∧ decide (p = q) = b := by
  cases e with
  | none =>
    refine .inl ⟨b2.none, ?_⟩
    rw [non_iff (b1.dq w)]; exact Option.some.inj h
  | bool q =>
    cases d with
    | bool p => exact .inr ⟨_, _, b1.bool, b2.bool, Option.some.inj h⟩
    | _ => cases h
  | _ => cases h
theorem bop_is : Bop X.K (fun x y H Q => (y = V.non ∧ Q (.bl (decide (x = .non))) H) ∨ rIsB x y H Q) isR := by
  intro c G H x y d e post Q w b1 b2 hp q
  unfold isR at hp
  cases hb : isV d e with
  | none => rw [hb] at hp; exact hp.elim
  | some b =>
    rw [hb] at hp
    have fin := q _ hp _ G H .refl w (.bl _)
    rcases isV_inv w b1 b2 hb with ⟨h1, h2⟩ | ⟨p, r, h1, h2, h3⟩
    · exact .inl ⟨h1, by rw [h2]; exact fin⟩
    · exact .inr ⟨p, r, h1, h2, by rw [h3]; exact fin⟩
theorem bop_isnot : Bop X.K (fun x y H Q => (y = V.non ∧ Q (.bl (!decide (x = .non))) H) ∨ rNotB x y H Q) isNotR := by
  intro c G H x y d e post Q w b1 b2 hp q
  unfold isNotR at hp
  cases hb : isV d e with
  | none => rw [hb] at hp; exact hp.elim
  | some b =>
    rw [hb] at hp
    have fin := q _ hp _ G H .refl w (.bl _)
    rcases isV_inv w b1 b2 hb with ⟨h1, h2⟩ | ⟨p, r, h1, h2, h3⟩
    · exact .inl ⟨h1, by rw [h2]; exact fin⟩
    · exact .inr ⟨p, r, h1, h2, by rw [h3]; exact fin⟩
theorem op_isQ : OpR X (compareOp .Is) (fun x y H Q => (y = V.non ∧ Q (.bl (decide (x = .non))) H) ∨ rIsB x y H Q) := op_isN.or op_isBl
theorem op_isnotQ : OpR X (compareOp .IsNot) (fun x y H Q => (y = V.non ∧ Q (.bl (!decide (x = .non))) H) ∨ rNotB x y H Q) := op_notN.or op_notBl
/-- x in c -/
def strIn (x z : Str) : Bool := !(Builtin.Str.occurrences z x 0 z.length 1).isEmpty
def inV (d e : D) : Option Bool := match e with
  | .list xs => if min (PyData.depthAll xs) d.depth ≤ 60 then some (xs.any fun y => PyData.eqv y d) else none
  | .tuple xs => if min (PyData.depthAll xs) d.depth ≤ 60 then some (xs.any fun y => PyData.eqv y d) else none
  | .str z => (match d with | .str x => some (strIn x z) | _ => none)
  | _ => none
def inR (d e : D) : R D := match inV d e with | some b => ok (.bool b) | none => fail
def notInR (d e : D) : R D := match inV d e with | some b => ok (.bool (!b)) | none => fail
def rInQ (K : PySem.W.Frag) (neg : Bool) : R2 := fun x y H Q => ∃ d e b, Dq K H x d ∧ Dq K H y e ∧ inV d e = some b ∧ Q (.bl (if neg then !b else b)) H
theorem op_inQ (hu : X.A.units + 64 < cLine) : OpR X (compareOp .In) (rInQ X.K false) := by
  intro pins s σ H x y v u Q I rx ry h
  obtain ⟨d, e, b, hd, he, hc, q⟩ := h
  obtain ⟨as, r1⟩ := Dp.reads I d x v hd.dp rx
  obtain ⟨bs, r2⟩ := Dp.reads I e y u he.dp ry
  unfold inV at hc
  split at hc
  · split at hc
    · cases hc
      have hp := he.plain
      exact SeqAt.in_list_data r2 r1 hp hd.plain (by omega) ⟨.bl _, H, I, rfl, q⟩
    · cases hc
  · split at hc
    · cases hc
      have hp := he.plain
      exact SeqAt.in_tuple_data r2 r1 hp hd.plain (by omega) ⟨.bl _, H, I, rfl, q⟩
    · cases hc
  · split at hc
    · cases hc
      cases hd; cases he
      exact op_in_str pins s σ H _ _ v u Q I rx ry ⟨_, _, rfl, rfl, q⟩
    · cases hc
  · cases hc
theorem op_notInQ (hu : X.A.units + 64 < cLine) : OpR X (compareOp .NotIn) (rInQ X.K true) := by
  intro pins s σ H x y v u Q I rx ry h
  obtain ⟨d, e, b, hd, he, hc, q⟩ := h
  obtain ⟨as, r1⟩ := Dp.reads I d x v hd.dp rx
  obtain ⟨bs, r2⟩ := Dp.reads I e y u he.dp ry
  unfold inV at hc
  split at hc
  · split at hc
    · cases hc
      have hp := he.plain
      exact SeqAt.notIn_list_data r2 r1 hp hd.plain (by omega) ⟨.bl _, H, I, rfl, q⟩
    · cases hc
  · split at hc
    · cases hc
      have hp := he.plain
      exact SeqAt.notIn_tuple_data r2 r1 hp hd.plain (by omega) ⟨.bl _, H, I, rfl, q⟩
    · cases hc
  · split at hc
    · cases hc
      cases hd; cases he
      exact op_notIn_str pins s σ H _ _ v u Q I rx ry ⟨_, _, rfl, rfl, q⟩
    · cases hc
  · cases hc
theorem bop_in : Bop X.K (rInQ X.K false) inR := by
  intro c G H x y d e post Q w b1 b2 hp q
  unfold inR at hp
  cases hb : inV d e with
  | none => rw [hb] at hp; exact hp.elim
  | some b =>
    rw [hb] at hp
    exact ⟨d, e, b, b1.dq w, b2.dq w, hb, q _ hp _ G H .refl w (.bl _)⟩
theorem bop_notIn : Bop X.K (rInQ X.K true) notInR := by
  intro c G H x y d e post Q w b1 b2 hp q
  unfold notInR at hp
  cases hb : inV d e with
  | none => rw [hb] at hp; exact hp.elim
  | some b =>
    rw [hb] at hp
    exact ⟨d, e, b, b1.dq w, b2.dq w, hb, q _ hp _ G H .refl w (.bl _)⟩
/-- a comparison's rule, packed: which operator, what it asks of the stack -/
structure CmpQ (X : Cx) (op : CmpOp) (h : D → D → R D) : Prop where
  ex : ∃ r : R2, OpR X (compareOp op) r ∧ Bop X.K r h
theorem qEq (hu : X.A.units + 64 < cLine) : CmpQ X .Eq eqR := ⟨_, op_eqQ hu, bop_eq⟩
theorem qNe (hu : X.A.units + 64 < cLine) : CmpQ X .NotEq neR := ⟨_, op_neQ hu, bop_ne⟩
theorem qLt (hu : X.A.units + 64 < cLine) : CmpQ X .Lt ltR := ⟨_, op_ltQ hu, bop_lt⟩
theorem qGt (hu : X.A.units + 64 < cLine) : CmpQ X .Gt gtR := ⟨_, op_gtQ hu, bop_gt⟩
theorem qLe (hu : X.A.units + 64 < cLine) : CmpQ X .LtE leR := ⟨_, op_leQ hu, bop_le⟩
theorem qGe (hu : X.A.units + 64 < cLine) : CmpQ X .GtE geR := ⟨_, op_geQ hu, bop_ge⟩
theorem qIs (hu : X.A.units + 64 < cLine) : CmpQ X .Is isR := ⟨_, op_isQ, bop_is⟩
theorem qIsNot (hu : X.A.units + 64 < cLine) : CmpQ X .IsNot isNotR := ⟨_, op_isnotQ, bop_isnot⟩
theorem qIn (hu : X.A.units + 64 < cLine) : CmpQ X .In inR := ⟨_, op_inQ hu, bop_in⟩
theorem qNotIn (hu : X.A.units + 64 < cLine) : CmpQ X .NotIn notInR := ⟨_, op_notInQ hu, bop_notIn⟩
theorem cmp {op : CmpOp} {h : D → D → R D} (k : CmpQ X op h) {f g : List Sl → R D} (ha : PE X a (tB X.K f)) (hb : PE X b (tB X.K g)) (hm : behindInMarks op b = false := by first | exact nomark _ | rfl) : PE X (.Compare a [op] [b] pos) (tP X.K (m2 f g h)) := let ⟨_, o, q⟩ := k.ex; pCmp o q ha hb hm
theorem cmpT {op : CmpOp} {h : D → D → R D} (k : CmpQ X op h) {f g : List Sl → R D} (ha : PE X a (tB X.K f)) (hb : PE X b (tB X.K g)) (hm : behindInMarks op b = false := by first | exact nomark _ | rfl) : PT X (.Compare a [op] [b] pos) (tT X.K (m1 (m2 f g h) asB)) := let ⟨_, o, q⟩ := k.ex; pCmpT o q ha hb hm
/-- a chain of two -/
def chain {α : Type} (fin : D → R α) (h h' : D → D → R D) (f g k : List Sl → R D) : List Sl → R α := fun ρ => bd (f ρ) fun x => bd (g ρ) fun y => bd (h x y) fun z => bd (asB z) fun t => bd (if t = true then bd (k ρ) fun w => h' y w else ok (.bool false)) fin
theorem chain_of {K : PySem.W.Frag} {r r' : R2} {h h' : D → D → R D} (hr : Bop K r h) (hr' : Bop K r' h') {f g k : List Sl → R D} {σ : L2.St} {H : Hp} {Q : VK} (q : tP K (chain ok h h' f g k) σ H Q) : tChain r r' (tB K f) (tB K g) (tB K k) σ H Q := by
  obtain ⟨c, G, ρ, post, w, rs, hf, q⟩ := q
  refine ⟨c, G, ρ, _, w, rs, hf, fun x hx v G1 H1 e1 w1 b1 => ?_⟩
  refine ⟨c, G1, ρ, _, w.step w1 e1, rs.ext e1, hx, fun y hy u G2 H2 e2 w2 b2 => ?_⟩
  refine hr c G2 H2 v u x y _ _ w2 (b1.ext e2) b2 hy fun z hz v' G3 H3 e3 w3 d3 => ?_
  obtain ⟨t, rfl, ht⟩ := asB_inv hz
  cases d3
  refine ⟨t, rfl, ?_⟩
  cases t with
  | false => exact q _ ht _ G3 H3 ((e1.trans e2).trans e3) w3 (.bl _)
  | true =>
    rw [if_pos rfl]
    have w3' : Wd c G3 H3 := ((w.step w1 e1).step w2 e2).step w3 e3
    refine ⟨c, G3, ρ, fun w => h' y w post, w3', ((rs.ext e1).ext e2).ext e3, ht, fun z hz v' G4 H4 e4 w4 b4 => ?_⟩
    exact hr' c G4 H4 u v' y z post Q w4 ((b2.ext e3).ext e4) b4 hz fun z hz v' G' H' e5 w5 d5 => q z hz v' G' H' ((((e1.trans e2).trans e3).trans e4).trans e5) w5 d5
theorem cmp2 {op op' : CmpOp} {h h' : D → D → R D} {d : Expr} (k : CmpQ X op h) (k' : CmpQ X op' h') {f g l : List Sl → R D} (ha : PE X a (tB X.K f)) (hb : PE X b (tB X.K g)) (hc : PE X d (tB X.K l)) (hm : lastMarks [op, op'] [b, d] = false := by with_unfolding_all rfl) :
    PE X (.Compare a [op, op'] [b, d] pos) (tP X.K (chain ok h h' f g l)) := let ⟨_, o, z⟩ := k.ex; let ⟨_, o', z'⟩ := k'.ex; PE.wk (pe_chain o o' ha hb hc hm) fun _ _ _ q => chain_of z z' q
theorem cmp2T {op op' : CmpOp} {h h' : D → D → R D} {d : Expr} (k : CmpQ X op h) (k' : CmpQ X op' h') {f g l : List Sl → R D} (ha : PE X a (tB X.K f)) (hb : PE X b (tB X.K g)) (hc : PE X d (tB X.K l)) (hm : lastMarks [op, op'] [b, d] = false := by with_unfolding_all rfl) :
    PT X (.Compare a [op, op'] [b, d] pos) (tT X.K (m1 (chain ok h h' f g l) asB)) := let ⟨_, o, z⟩ := k.ex; let ⟨_, o', z'⟩ := k'.ex; PT.wk (pt_chain o o' ha hb hc hm) fun _ _ _ q => tTest_of (fun _ _ _ y => chain_of z z' y) q
end
end Pu

namespace Pu
open PySem PySem.Spec PyProof.Rows L2
section
variable {X : Cx} {e a b : Expr} {es : List Expr} {pos : Pos}
/-! ### truth, and, or, not -/
def truR : D → R Bool
  | .none => ok false
  | .bool b => ok b
  | .int i => ok (i != 0)
  | .str s => bd (req (s.length ≤ sizeLine)) fun _ => ok ((s.length : Int) != 0)
  | .list xs => ok (!xs.isEmpty)
  | .tuple xs => ok (!xs.isEmpty)
  | .dict _ => fail
theorem isEmpty_all {K : PySem.W.Frag} {G : Hp} {vs : List V} {ds : List D} (h : DqAll K G vs ds) : vs.isEmpty = ds.isEmpty := by cases h <;> rfl
theorem truR_inv {K : PySem.W.Frag} {c : Ct} {G H : Hp} {v : V} {d : D} {post : Bool → Prop} (w : W0 c.E G H) (b : Bv K c G H v d) (h : truR d post) : ∃ k, TruV K v H k ∧ post k := by
  cases d with
  | none => rw [b.none]; exact ⟨_, rfl, h⟩
  | bool k => rw [b.bool]; exact ⟨_, rfl, h⟩
  | int i => rw [b.int]; exact ⟨_, rfl, h⟩
  | str s => rw [b.str]; exact ⟨_, ⟨h.1, rfl⟩, h.2⟩
  | list xs =>
    obtain ⟨a, vs, rfl, h1, h2, _⟩ := b.lst w
    exact ⟨_, .inl ⟨vs, .of h1, rfl⟩, by rw [isEmpty_all h2]; exact h⟩
  | tuple xs =>
    obtain ⟨a, vs, rfl, h1, h2⟩ := b.tup
    exact ⟨_, .inr (.inl ⟨vs, sqT_mono w.sub h1, rfl⟩), by rw [isEmpty_all h2]; exact h⟩
  | dict _ => exact h.elim
theorem tst {f : List Sl → R D} (ha : PE X a (tB X.K f)) (he : ∀ whole, isTrue a X.env whole = (do let v ← whole; standAt a.pos; holding [v] (truthy v)) := by intro _; rfl) : PT X a (tT X.K (m1 f truR)) :=
  PT.wk (pt_truth ha he) fun σ H Q ⟨c, G, ρ, post, w, r, hf, q⟩ => ⟨c, G, ρ, fun d => truR d post, w, r, hf, fun d hd v G' H' e' w' bv => by
    obtain ⟨k, hk, hp⟩ := truR_inv w' bv hd
    exact ⟨k, hk, q k hp G' H' e' w'⟩⟩
def andT (f g : List Sl → R Bool) : List Sl → R Bool := fun ρ => bd (f ρ) fun b => if b = true then g ρ else ok false
def orT (f g : List Sl → R Bool) : List Sl → R Bool := fun ρ => bd (f ρ) fun b => if b = true then ok true else g ρ
def notT (f : List Sl → R Bool) : List Sl → R Bool := fun ρ => bd (f ρ) fun b => ok (!b)
theorem and1 {f : List Sl → R Bool} (ha : PT X a (tT X.K f)) : PW X (.BoolOp .And [a] pos) (tT X.K f) := pw_and1 ha
theorem or1 {f : List Sl → R Bool} (ha : PT X a (tT X.K f)) : PW X (.BoolOp .Or [a] pos) (tT X.K f) := pw_or1 ha
theorem andW {f g : List Sl → R Bool} {rest : List Expr} (ha : PT X a (tT X.K f)) (hb : PW X (.BoolOp .And (b :: rest) pos) (tT X.K g)) : PW X (.BoolOp .And (a :: b :: rest) pos) (tT X.K (andT f g)) :=
  PW.wk (pw_and ha hb) fun σ H Q ⟨c, G, ρ, post, w, r, hf, q⟩ => ⟨c, G, ρ, fun k => (if k = true then g ρ else ok false) post, w, r, hf, fun k hk G' H' e' w' => by
    cases k with
    | true => exact ⟨c, G', ρ, post, w.step w' e', r.ext e', hk, fun k hk G2 H2 e2 w2 => q k hk G2 H2 (e'.trans e2) w2⟩
    | false => exact q false hk G' H' e' w'⟩
theorem orW {f g : List Sl → R Bool} {rest : List Expr} (ha : PT X a (tT X.K f)) (hb : PW X (.BoolOp .Or (b :: rest) pos) (tT X.K g)) : PW X (.BoolOp .Or (a :: b :: rest) pos) (tT X.K (orT f g)) :=
  PW.wk (pw_or ha hb) fun σ H Q ⟨c, G, ρ, post, w, r, hf, q⟩ => ⟨c, G, ρ, fun k => (if k = true then ok true else g ρ) post, w, r, hf, fun k hk G' H' e' w' => by
    cases k with
    | false => exact ⟨c, G', ρ, post, w.step w' e', r.ext e', hk, fun k hk G2 H2 e2 w2 => q k hk G2 H2 (e'.trans e2) w2⟩
    | true => exact q true hk G' H' e' w'⟩
theorem notP {f : List Sl → R Bool} (ha : PT X a (tT X.K f)) : PT X (.UnaryOp .Not a pos) (tT X.K (notT f)) :=
  PT.wk (pt_not ha) fun σ H Q ⟨c, G, ρ, post, w, r, hf, q⟩ => ⟨c, G, ρ, fun k => post (!k), w, r, hf, fun k hk G' H' e' w' => q _ hk G' H' e' w'⟩
/-- .. as values -/
def andV (f g : List Sl → R D) : List Sl → R D := fun ρ => bd (f ρ) fun d => bd (truR d) fun b => if b = true then g ρ else ok d
def orV (f g : List Sl → R D) : List Sl → R D := fun ρ => bd (f ρ) fun d => bd (truR d) fun b => if b = true then ok d else g ρ
def notV (f : List Sl → R D) : List Sl → R D := fun ρ => bd (f ρ) fun d => bd (truR d) fun b => ok (.bool (!b))
theorem v1 {op} {f : List Sl → R D} (ha : PE X a (tP X.K f)) : PE X (.BoolOp op [a] pos) (tP X.K f) := pe_one ha
theorem andP {f g : List Sl → R D} {rest : List Expr} (ha : PE X a (tP X.K f)) (hb : PE X (.BoolOp .And (b :: rest) pos) (tP X.K g)) : PE X (.BoolOp .And (a :: b :: rest) pos) (tP X.K (andV f g)) :=
  PE.wk (pe_andT ha hb) fun σ H Q ⟨c, G, ρ, post, w, r, hf, q⟩ => ⟨c, G, ρ, fun d => bd (truR d) (fun b => if b = true then g ρ else ok d) post, w, r, hf, fun d hd v G' H' e' w' k => by
    obtain ⟨t, ht, hp⟩ := truR_inv w' (.inl k : Bv X.K c G' H' v d) hd
    refine ⟨t, ht, ?_⟩
    cases t with
    | true => rw [if_pos rfl]; exact ⟨c, G', ρ, post, w.step w' e', r.ext e', hp, fun k hk v G2 H2 e2 w2 => q k hk v G2 H2 (e'.trans e2) w2⟩
    | false => exact q d hp v G' H' e' w' k⟩
theorem orP {f g : List Sl → R D} {rest : List Expr} (ha : PE X a (tP X.K f)) (hb : PE X (.BoolOp .Or (b :: rest) pos) (tP X.K g)) : PE X (.BoolOp .Or (a :: b :: rest) pos) (tP X.K (orV f g)) :=
  PE.wk (pe_orT ha hb) fun σ H Q ⟨c, G, ρ, post, w, r, hf, q⟩ => ⟨c, G, ρ, fun d => bd (truR d) (fun b => if b = true then ok d else g ρ) post, w, r, hf, fun d hd v G' H' e' w' k => by
    obtain ⟨t, ht, hp⟩ := truR_inv w' (.inl k : Bv X.K c G' H' v d) hd
    refine ⟨t, ht, ?_⟩
    cases t with
    | false => exact ⟨c, G', ρ, post, w.step w' e', r.ext e', hp, fun k hk v G2 H2 e2 w2 => q k hk v G2 H2 (e'.trans e2) w2⟩
    | true => rw [if_pos rfl]; exact q d hp v G' H' e' w' k⟩
theorem notVP {f : List Sl → R D} (ha : PE X a (tB X.K f)) : PE X (.UnaryOp .Not a pos) (tP X.K (notV f)) :=
  PE.wk (pe_notT ha) fun σ H Q ⟨c, G, ρ, post, w, r, hf, q⟩ => ⟨c, G, ρ, _, w, r, hf, fun d hd v G' H' e' w' k => by
    obtain ⟨t, ht, hp⟩ := truR_inv w' k hd
    exact ⟨t, ht, q _ hp _ G' H' e' w' (.bl _)⟩⟩
def ifV {α : Type} (t : List Sl → R Bool) (f g : List Sl → R α) : List Sl → R α := fun ρ => bd (t ρ) fun b => if b = true then f ρ else g ρ
theorem ifP {t : List Sl → R Bool} {f g : List Sl → R D} {cnd : Expr} (hc : PT X cnd (tT X.K t)) (ha : PE X a (tP X.K f)) (hb : PE X b (tP X.K g)) : PE X (.IfExp cnd a b pos) (tP X.K (ifV t f g)) :=
  PE.wk (pe_ifExp hc ha hb) fun σ H Q ⟨c, G, ρ, post, w, r, hf, q⟩ => ⟨c, G, ρ, fun k => (if k = true then f ρ else g ρ) post, w, r, hf, fun k hk G' H' e' w' => by
    cases k with
    | true => rw [if_pos rfl]; exact ⟨c, G', ρ, post, w.step w' e', r.ext e', hk, fun k hk v G2 H2 e2 w2 => q k hk v G2 H2 (e'.trans e2) w2⟩
    | false => exact ⟨c, G', ρ, post, w.step w' e', r.ext e', hk, fun k hk v G2 H2 e2 w2 => q k hk v G2 H2 (e'.trans e2) w2⟩⟩
theorem ifF {t : List Sl → R Bool} {f g : List Sl → R (List D)} {cnd : Expr} (hc : PT X cnd (tT X.K t)) (ha : PE X a (tF X.K f)) (hb : PE X b (tF X.K g)) : PE X (.IfExp cnd a b pos) (tF X.K (ifV t f g)) :=
  PE.wk (pe_ifExp hc ha hb) fun σ H Q ⟨c, G, ρ, post, w, r, hf, q⟩ => ⟨c, G, ρ, fun k => (if k = true then f ρ else g ρ) post, w, r, hf, fun k hk G' H' e' w' => by
    have ne : ∀ p, H' p = none → ¬ c.E.vol p → H p = none := fun p e v => by
      cases q : H p with
      | none => rfl
      | some o => rw [e'.h p o q v] at e; cases e
    cases k with
    | true =>
      exact ⟨c, G', ρ, post, w.step w' e', r.ext e', hk, fun k hk p G2 H2 n e2 w2 o => q k hk p G2 H2 (ne p n o.v) (e'.trans e2) w2 o⟩
    | false =>
      exact ⟨c, G', ρ, post, w.step w' e', r.ext e', hk, fun k hk p G2 H2 n e2 w2 o => q k hk p G2 H2 (ne p n o.v) (e'.trans e2) w2 o⟩⟩

/-! ### subscripts, slices -/
theorem DqAll.atI {K : PySem.W.Frag} {G : Hp} {vs : List V} {ds : List D} (h : DqAll K G vs ds) {i : Int} {d : D} (e : L2.atI ds i = some d) : ∃ v, L2.atI vs i = some v ∧ Dq K G v d := by
  unfold L2.atI at e ⊢
  rw [h.length]
  cases q : L2.ixN ds.length i with
  | none => rw [q] at e; cases e
  | some j =>
    rw [q] at e
    obtain ⟨v, h1, h2⟩ := h.get (i := j) (d := d) e
    exact ⟨v, h1, h2⟩
def ixR : D → D → R D
  | .list xs, .int i => (match L2.atI xs i with | some x => ok x | none => fail)
  | .tuple xs, .int i => (match L2.atI xs i with | some x => ok x | none => fail)
  | .str z, .int i => (match L2.atI z.cps.toList i with | some x => bd (req (z.length ≤ sizeLine)) fun _ => ok (.str ⟨#[x]⟩) | none => fail)
  | _, _ => fail
theorem bop_ix : Bop X.K (rIx X.K) ixR := by
  intro c G H x y d e post Q w b1 b2 hp q
  cases d <;> cases e <;> try exact hp.elim
  · rename_i s i
    simp only [ixR] at hp
    cases hx : L2.atI s.cps.toList i with
    | none => rw [hx] at hp; exact hp.elim
    | some z =>
      rw [hx] at hp
      exact .inr (.inr ⟨s, i, z, b1.str, b2.int, hp.1, hx, q _ hp.2 _ G H .refl w (.str _)⟩)
  · rename_i xs i
    simp only [ixR] at hp
    cases hx : L2.atI xs i with
    | none => rw [hx] at hp; exact hp.elim
    | some z =>
      rw [hx] at hp
      obtain ⟨p, vs, rfl, h1, h2, _⟩ := b1.lst w
      obtain ⟨v, h3, h4⟩ := h2.atI hx
      exact .inl ⟨p, vs, i, v, rfl, b2.int, .of h1, h3, q _ hp _ G H .refl w h4⟩
  · rename_i xs i
    simp only [ixR] at hp
    cases hx : L2.atI xs i with
    | none => rw [hx] at hp; exact hp.elim
    | some z =>
      rw [hx] at hp
      obtain ⟨p, vs, rfl, h1, h2⟩ := b1.tup
      obtain ⟨v, h3, h4⟩ := h2.atI hx
      exact .inr (.inl ⟨p, vs, i, v, rfl, b2.int, sqT_mono w.sub h1, h3, q _ hp _ G H .refl w h4⟩)
theorem ix {f g : List Sl → R D} (ha : PE X a (tB X.K f)) (hb : PE X b (tB X.K g)) (hs : PlainIx b := by exact fun _ _ => rfl) : PE X (.Subscript a b pos) (tP X.K (m2 f g ixR)) := PE.wk (pe_ix ix_seq ha hb hs) fun _ _ _ q => bop2 bop_ix q
/-- the parts of a slice -/
def tO (K : PySem.W.Frag) (f : List Sl → R (Option Int)) : TO := fun σ H Q => ∃ (c : Ct) (G : Hp) (ρ : List Sl) (post : Option Int → Prop), Wd c G H ∧ RS K c G H σ ρ ∧ f ρ post ∧
  ∀ r, post r → ∀ G' H', Ext c.E G H G' H' → W0 c.E G' H' → Q r H'
def asI : D → R (Option Int)
  | .int i => ok (some i)
  | _ => fail
theorem PO.wk {o : Option Expr} {t t' : TO} (h : PO X o t) (w : ∀ σ H Q, t' σ H Q → t σ H Q) : PO X o t' := ⟨fun pins s σ H Q I q => h.run pins s σ H Q I (w σ H Q q)⟩
theorem sN : PO X none (tO X.K fun _ => ok none) := PO.wk po_none fun σ H Q ⟨c, G, ρ, post, w, r, hf, q⟩ => q none hf G H .refl w.w
theorem sE {f : List Sl → R D} (ha : PE X a (tB X.K f)) : PO X (some a) (tO X.K (m1 f asI)) := PO.wk (po_some ha) fun σ H Q ⟨c, G, ρ, post, w, r, hf, q⟩ =>
  ⟨c, G, ρ, fun d => asI d post, w, r, hf, fun d hd v G' H' e' w' k => by
    cases d <;> try exact hd.elim
    exact ⟨_, k.int, q _ hd G' H' e' w'⟩⟩
def cutG {α : Type} (xs : List α) (lo hi : Option Int) : List α := (xs.drop (HT.sIx xs.length 0 lo)).take (HT.sIx xs.length xs.length hi - HT.sIx xs.length 0 lo)
theorem DqAll.cut {K : PySem.W.Frag} {G : Hp} {vs : List V} {ds : List D} (h : DqAll K G vs ds) (lo hi : Option Int) : DqAll K G (cutV vs lo hi) (cutG ds lo hi) := by
  unfold cutV cutG
  rw [h.length]
  exact (h.drop _).take _
theorem cut_all {α : Type} {xs : List α} {lo hi : Option Int} (h : HT.sIx xs.length 0 lo = 0 ∧ HT.sIx xs.length xs.length hi = xs.length) : cutG xs lo hi = xs := by
  unfold cutG; rw [h.1, h.2]; simp
def slR (d : D) (lo hi : Option Int) : R D := match d with
  | .list xs => ok (.list (cutG xs lo hi))
  | .tuple xs => ok (.tuple (cutG xs lo hi))
  | .str z => bd (req (z.length ≤ sizeLine)) fun _ => ok (.str (cutS z lo hi))
  | _ => fail
def slF (d : D) (lo hi : Option Int) : R (List D) := match d with
  | .list xs => ok (cutG xs lo hi)
  | _ => fail
def m3 {α β γ δ : Type} (f : List Sl → R α) (g : List Sl → R β) (l : List Sl → R γ) (h : α → β → γ → R δ) : List Sl → R δ := fun ρ => bd (f ρ) fun x => bd (g ρ) fun y => bd (l ρ) fun z => h x y z
theorem sl {f : List Sl → R D} {g l : List Sl → R (Option Int)} {lo hi : Option Expr} {p2 : Pos} (ha : PE X a (tB X.K f)) (hl : PO X lo (tO X.K g)) (hu : PO X hi (tO X.K l)) : PE X (.Subscript a (.Slice lo hi none p2) pos) (tP X.K (m3 f g l slR)) :=
  PE.wk (pe_slice ((sl_list.or sl_tupA).or sl_str) ha hl hu) fun σ H Q ⟨c, G, ρ, post, w, r, hf, q⟩ => by
    refine ⟨c, G, ρ, _, w, r, hf, fun d hd v G1 H1 e1 w1 b1 => ?_⟩
    refine ⟨c, G1, ρ, _, w.step w1 e1, r.ext e1, hd, fun lo hlo G2 H2 e2 w2 => ?_⟩
    refine ⟨c, G2, ρ, _, (w.step w1 e1).step w2 e2, (r.ext e1).ext e2, hlo, fun hi hhi G3 H3 e3 w3 => ?_⟩
    have e13 := (e1.trans e2).trans e3
    have b3 := (b1.ext e2).ext e3
    cases d <;> try exact hhi.elim
    · exact .inr ⟨_, b3.str, hhi.1, q _ hhi.2 _ G3 H3 e13 w3 (.str _)⟩
    · obtain ⟨p, vs, rfl, h1, h2, _⟩ := b3.lst w3
      refine .inl (.inl ⟨p, vs, rfl, .of h1, fun n hn => ?_⟩)
      obtain ⟨w4, e4⟩ := w3.newF hn (.lst (cutV vs lo hi))
      exact q _ hhi _ _ _ (e13.trans e4) w4 (.lst upd_same ((h2.cut lo hi).mono e4.g))
    · obtain ⟨p, vs, rfl, h1, h2⟩ := b3.tup
      refine .inl (.inr ⟨p, vs, rfl, sqT_mono w3.sub h1, fun hw => ?_, fun hw n hn => ?_⟩)
      · have hp := hhi
        unfold slR at hp
        rw [h2.length] at hw
        simp only [cut_all hw] at hp
        exact q _ hp _ G3 H3 e13 w3 (.tup h1 h2)
      · obtain ⟨w4, e4⟩ := w3.newF hn (.tup (cutV vs lo hi))
        exact q _ hhi _ _ _ (e13.trans e4) w4 (.tup (.of upd_same) ((h2.cut lo hi).mono e4.g))
theorem Wd.newO {K : PySem.W.Frag} {c : Ct} {G0 H0 G H : Hp} {p : Addr} (w : Wd c G H) (n : H p = none) {vs : List V} {ds : List D} (q : DqAll K G vs ds) : W0 c.E G (upd H p (.lst vs)) ∧ Ext c.E G H G (upd H p (.lst vs)) ∧ Own K c G (upd H p (.lst vs)) p ds := by
  obtain ⟨g, v⟩ := w.w.fresh n
  obtain ⟨w1, e1⟩ := w.w.new n (.lst vs)
  refine ⟨w1, e1, ⟨vs, upd_same, q⟩, g, ?_, v⟩
  cases e : c.H0 p with
  | none => rfl
  | some o => rw [w.e.h p o e v] at n; cases n
theorem Ext.none {E : Ef} {G H G' H' : Hp} (e : Ext E G H G' H') {p : Addr} (n : H' p = none) (v : ¬ E.vol p) : H p = none := by
  cases q : H p with
  | none => rfl
  | some o => rw [e.h p o q v] at n; cases n
/-- a new list at a new place -/
theorem fin_new {K : PySem.W.Frag} {c : Ct} {G H G1 H1 : Hp} {p : Addr} {vs : List V} {ds : List D} {post : List D → Prop} {Q : VK} (w : Wd c G1 H1) (e : Ext c.E G H G1 H1) (n : H1 p = none) (k : DqAll K G1 vs ds) (hp : post ds)
    (q : ∀ r, post r → ∀ a G' H', H a = none → Ext c.E G H G' H' → W0 c.E G' H' → Own K c G' H' a r → Q (.ref a) H') : Q (.ref p) (upd H1 p (.lst vs)) := by
  obtain ⟨w1, e1, o⟩ := w.newO (G0 := G) (H0 := H) n k
  exact q ds hp p G1 _ (e.none n (w.w.fresh n).2) (e.trans e1) w1 o
theorem slL {f : List Sl → R D} {g l : List Sl → R (Option Int)} {lo hi : Option Expr} {p2 : Pos} (ha : PE X a (tB X.K f)) (hl : PO X lo (tO X.K g)) (hu : PO X hi (tO X.K l)) : PE X (.Subscript a (.Slice lo hi none p2) pos) (tF X.K (m3 f g l slF)) :=
  PE.wk (pe_slice sl_list ha hl hu) fun σ H Q ⟨c, G, ρ, post, w, r, hf, q⟩ => by
    refine ⟨c, G, ρ, _, w, r, hf, fun d hd v G1 H1 e1 w1 b1 => ?_⟩
    refine ⟨c, G1, ρ, _, w.step w1 e1, r.ext e1, hd, fun lo hlo G2 H2 e2 w2 => ?_⟩
    refine ⟨c, G2, ρ, _, (w.step w1 e1).step w2 e2, (r.ext e1).ext e2, hlo, fun hi hhi G3 H3 e3 w3 => ?_⟩
    have e13 := (e1.trans e2).trans e3
    have b3 := (b1.ext e2).ext e3
    cases d <;> try exact hhi.elim
    obtain ⟨p, vs, rfl, h1, h2, _⟩ := b3.lst w3
    exact ⟨p, vs, rfl, .of h1, fun n hn => fin_new (w.step w3 e13) e13 hn (h2.cut lo hi) hhi q⟩
/-- xs[::-1] of a list -/
def revF : D → R (List D)
  | .list xs => ok xs.reverse
  | _ => fail
theorem revL {f : List Sl → R D} {k : Nat} {p1 p2 p3 : Pos} (ha : PE X a (tB X.K f)) : PE X (.Subscript a (.Slice none none (some (.UnaryOp .USub (.Constant (.int 1) k p1) p2)) p3) pos) (tF X.K (m1 f revF)) :=
  PE.wk (pe_revL ha) fun σ H Q ⟨c, G, ρ, post, w, r, hf, q⟩ => ⟨c, G, ρ, _, w, r, hf, fun d hd v G1 H1 e1 w1 b1 => by
    cases d <;> try exact hd.elim
    obtain ⟨p, vs, rfl, h1, h2, _⟩ := b1.lst w1
    exact ⟨p, vs, rfl, .of h1, fun n hn => fin_new (w.step w1 e1) e1 hn h2.reverse hd q⟩⟩

/-! ### arguments, displays -/
def consR {α : Type} (f : List Sl → R α) (g : List Sl → R (List α)) : List Sl → R (List α) := fun ρ => bd (f ρ) fun x => bd (g ρ) fun xs => ok (x :: xs)
def nilR {α : Type} : List Sl → R (List α) := fun _ => ok []
theorem aN : PA X [] (tAB X.K nilR) := PA.wk pa_nil fun σ H Q ⟨c, G, ρ, post, w, r, hf, q⟩ => q [] hf [] G H .refl w.w .nil
theorem aC {f : List Sl → R D} {g : List Sl → R (List D)} (ha : PE X a (tB X.K f)) (hr : PA X es (tAB X.K g)) (hs : starEach (a :: es) X.env = (false, eval a X.env) :: starEach es X.env := by rfl) : PA X (a :: es) (tAB X.K (consR f g)) :=
  PA.wk (pa_cons ha hr hs) fun σ H Q ⟨c, G, ρ, post, w, r, hf, q⟩ => by
    refine ⟨c, G, ρ, _, w, r, hf, fun d hd v G1 H1 e1 w1 b1 => ?_⟩
    exact ⟨c, G1, ρ, _, w.step w1 e1, r.ext e1, hd, fun ds hds vs G2 H2 e2 w2 b2 => q (d :: ds) hds _ G2 H2 (e1.trans e2) w2 (.cons (b1.ext e2) b2)⟩
theorem fN : PA X [] (tAF X.K nilR) := PA.wk pa_nil fun σ H Q ⟨c, G, ρ, post, w, r, hf, q⟩ => q [] hf [] G H .refl w.w .nil
theorem fC {f : List Sl → R D} {g : List Sl → R (List D)} (ha : PE X a (tP X.K f)) (hr : PA X es (tAF X.K g)) (hs : starEach (a :: es) X.env = (false, eval a X.env) :: starEach es X.env := by rfl) : PA X (a :: es) (tAF X.K (consR f g)) :=
  PA.wk (pa_cons ha hr hs) fun σ H Q ⟨c, G, ρ, post, w, r, hf, q⟩ => by
    refine ⟨c, G, ρ, _, w, r, hf, fun d hd v G1 H1 e1 w1 b1 => ?_⟩
    exact ⟨c, G1, ρ, _, w.step w1 e1, r.ext e1, hd, fun ds hds vs G2 H2 e2 w2 b2 => q (d :: ds) hds _ G2 H2 (e1.trans e2) w2 (.cons (b1.mono e2.g) b2)⟩
def tupR (ds : List D) : R D := bd (req (ds.length ≤ sizeLine)) fun _ => ok (.tuple ds)
def lstR (ds : List D) : R (List D) := bd (req (ds.length ≤ sizeLine)) fun _ => ok ds
theorem tup {f : List Sl → R (List D)} {k} (h : PA X es (tAF X.K f)) : PE X (.Tuple es k pos) (tP X.K (m1 f tupR)) := PE.wk (pe_tup h) fun σ H Q ⟨c, G, ρ, post, w, r, hf, q⟩ =>
  ⟨c, G, ρ, _, w, r, hf, fun ds hd vs G1 H1 e1 w1 b1 => ⟨by rw [b1.length]; exact hd.1, fun n hn => by
    obtain ⟨w4, e4⟩ := w1.newF hn (.tup vs)
    exact q _ hd.2 _ _ _ (e1.trans e4) w4 (.tup (.of upd_same) (b1.mono e4.g))⟩⟩
theorem lst {f : List Sl → R (List D)} (h : PA X es (tAF X.K f)) : PE X (.List es pos) (tF X.K (m1 f lstR)) := PE.wk (pe_lst h) fun σ H Q ⟨c, G, ρ, post, w, r, hf, q⟩ =>
  ⟨c, G, ρ, _, w, r, hf, fun ds hd vs G1 H1 e1 w1 b1 => ⟨by rw [b1.length]; exact hd.1, fun n hn => fin_new (w.step w1 e1) e1 hn b1 hd.2 q⟩⟩
/-- xs + ys, lists -/
def catF : D → D → R (List D)
  | .list x, .list y => bd (req (x.length + y.length ≤ sizeLine)) fun _ => ok (x ++ y)
  | _, _ => fail
theorem catL {f g : List Sl → R D} (ha : PE X a (tB X.K f)) (hb : PE X b (tB X.K g)) : PE X (.BinOp a .Add b pos) (tF X.K (m2 f g catF)) := PE.wk (pe_op op_cat ha hb) fun σ H Q ⟨c, G, ρ, post, w, r, hf, q⟩ => by
  refine ⟨c, G, ρ, _, w, r, hf, fun d hd v G1 H1 e1 w1 b1 => ?_⟩
  refine ⟨c, G1, ρ, _, w.step w1 e1, r.ext e1, hd, fun y hy u G2 H2 e2 w2 b2 => ?_⟩
  cases d <;> cases y <;> try exact hy.elim
  obtain ⟨p, vs, rfl, h1, h2, _⟩ := (b1.ext e2).lst w2
  obtain ⟨p', us, rfl, h1', h2', _⟩ := b2.lst w2
  have e12 := e1.trans e2
  exact ⟨p, p', vs, us, rfl, rfl, h1, h1', by rw [h2.length, h2'.length]; exact hy.1, fun n hn => fin_new (w.step w2 e12) e12 hn (h2.append h2') hy.2 q⟩

/-! ### built-ins by name -/
def Bcl (K : PySem.W.Frag) (r : List V → Hp → VK → Prop) (h : List D → R D) : Prop := ∀ (c : Ct) (G H : Hp) (vs : List V) (ds : List D) (post : D → Prop) (Q : VK), W0 c.E G H → BvAll K c G H vs ds → h ds post →
  (∀ z, post z → ∀ v G' H', Ext c.E G H G' H' → W0 c.E G' H' → Dq K G' v z → Q v H') → r vs H Q
def BclF (K : PySem.W.Frag) (r : List V → Hp → VK → Prop) (h : List D → R (List D)) : Prop := ∀ (c : Ct) (G H : Hp) (vs : List V) (ds : List D) (post : List D → Prop) (Q : VK), Wd c G H → BvAll K c G H vs ds → h ds post →
  (∀ r, post r → ∀ a G' H', H a = none → Ext c.E G H G' H' → W0 c.E G' H' → Own K c G' H' a r → Q (.ref a) H') → r vs H Q
structure CalQ (X : Cx) (u : Value) (h : List D → R D) : Prop where
  ex : ∃ r, CallR X u r ∧ Bcl X.K r h
structure CalF (X : Cx) (u : Value) (h : List D → R (List D)) : Prop where
  ex : ∃ r, CallR X u r ∧ BclF X.K r h
section
variable {x : Str} {p : Pos} {id T : String}
theorem cal {f : List Sl → R (List D)} {h : List D → R D} (k : CalQ X (.builtin id) h) (hm : X.mg x = none) (ha : PA X (e :: es) (tAB X.K f)) (hg : Gl X x := by rfl) (hv : bootBuiltins x = some (.builtin id) := by decide +kernel) (hn : x ≠ "__name__" := by decide) (hdb : (x == ("__debug__" : Str)) = false := by decide)
    (he : starEach (e :: es) X.env = (false, eval e X.env) :: starEach es X.env := by rfl) (hpl : (backTo pos (starEach es X.env)).any (·.1) = false := by rfl) : PE X (.Call (.Name x p) (e :: es) [] pos) (tP X.K (m1 f h)) :=
  let ⟨_, k1, k2⟩ := k.ex
  PE.wk (pe_callB k1 hg hm hv ha hn hdb he hpl) fun σ H Q ⟨c, G, ρ, post, w, r, hf, q⟩ => ⟨c, G, ρ, _, w, r, hf, fun ds hd vs G1 H1 e1 w1 b1 => k2 c G1 H1 vs ds post Q w1 b1 hd fun z hz v G' H' e2 w2 d2 => q z hz v G' H' (e1.trans e2) w2 d2⟩
theorem calT {f : List Sl → R (List D)} {h : List D → R D} (k : CalQ X (.type T) h) (hm : X.mg x = none) (ha : PA X (e :: es) (tAB X.K f)) (hg : Gl X x := by rfl) (hv : bootBuiltins x = some (.type T) := by decide +kernel) (hn : x ≠ "__name__" := by decide) (hdb : (x == ("__debug__" : Str)) = false := by decide)
    (he : starEach (e :: es) X.env = (false, eval e X.env) :: starEach es X.env := by rfl) (hpl : (backTo pos (starEach es X.env)).any (·.1) = false := by rfl) : PE X (.Call (.Name x p) (e :: es) [] pos) (tP X.K (m1 f h)) :=
  let ⟨_, k1, k2⟩ := k.ex
  PE.wk (pe_callTy k1 hg hm hv ha hn hdb he hpl) fun σ H Q ⟨c, G, ρ, post, w, r, hf, q⟩ => ⟨c, G, ρ, _, w, r, hf, fun ds hd vs G1 H1 e1 w1 b1 => k2 c G1 H1 vs ds post Q w1 b1 hd fun z hz v G' H' e2 w2 d2 => q z hz v G' H' (e1.trans e2) w2 d2⟩
theorem calF {f : List Sl → R (List D)} {h : List D → R (List D)} (k : CalF X (.builtin id) h) (hm : X.mg x = none) (ha : PA X (e :: es) (tAB X.K f)) (hg : Gl X x := by rfl) (hv : bootBuiltins x = some (.builtin id) := by decide +kernel) (hn : x ≠ "__name__" := by decide) (hdb : (x == ("__debug__" : Str)) = false := by decide)
    (he : starEach (e :: es) X.env = (false, eval e X.env) :: starEach es X.env := by rfl) (hpl : (backTo pos (starEach es X.env)).any (·.1) = false := by rfl) : PE X (.Call (.Name x p) (e :: es) [] pos) (tF X.K (m1 f h)) :=
  let ⟨_, k1, k2⟩ := k.ex
  PE.wk (pe_callB k1 hg hm hv ha hn hdb he hpl) fun σ H Q ⟨c, G, ρ, post, w, r, hf, q⟩ => ⟨c, G, ρ, _, w, r, hf, fun ds hd vs G1 H1 e1 w1 b1 => k2 c G1 H1 vs ds post Q (w.step w1 e1) b1 hd fun z hz a G' H' n e2 w2 d2 => q z hz a G' H' (e1.none n d2.v) (e1.trans e2) w2 d2⟩
theorem calTF {f : List Sl → R (List D)} {h : List D → R (List D)} (k : CalF X (.type T) h) (hm : X.mg x = none) (ha : PA X (e :: es) (tAB X.K f)) (hg : Gl X x := by rfl) (hv : bootBuiltins x = some (.type T) := by decide +kernel) (hn : x ≠ "__name__" := by decide) (hdb : (x == ("__debug__" : Str)) = false := by decide)
    (he : starEach (e :: es) X.env = (false, eval e X.env) :: starEach es X.env := by rfl) (hpl : (backTo pos (starEach es X.env)).any (·.1) = false := by rfl) : PE X (.Call (.Name x p) (e :: es) [] pos) (tF X.K (m1 f h)) :=
  let ⟨_, k1, k2⟩ := k.ex
  PE.wk (pe_callTy k1 hg hm hv ha hn hdb he hpl) fun σ H Q ⟨c, G, ρ, post, w, r, hf, q⟩ => ⟨c, G, ρ, _, w, r, hf, fun ds hd vs G1 H1 e1 w1 b1 => k2 c G1 H1 vs ds post Q (w.step w1 e1) b1 hd fun z hz a G' H' n e2 w2 d2 => q z hz a G' H' (e1.none n d2.v) (e1.trans e2) w2 d2⟩
end
theorem BvAll.one {K : PySem.W.Frag} {c : Ct} {G H : Hp} {vs : List V} {d : D} (h : BvAll K c G H vs [d]) : ∃ v, vs = [v] ∧ Bv K c G H v d := by
  cases h with | cons b t => cases t; exact ⟨_, rfl, b⟩
theorem BvAll.two {K : PySem.W.Frag} {c : Ct} {G H : Hp} {vs : List V} {d e : D} (h : BvAll K c G H vs [d, e]) : ∃ v u, vs = [v, u] ∧ Bv K c G H v d ∧ Bv K c G H u e := by
  cases h with | cons b t => cases t with | cons b' t' => cases t'; exact ⟨_, _, rfl, b, b'⟩
def lenR : List D → R D
  | [.list xs] => ok (.int xs.length)
  | [.tuple xs] => ok (.int xs.length)
  | [.str s] => bd (req (s.length ≤ sizeLine)) fun _ => ok (.int s.length)
  | _ => fail
theorem kLen : CalQ X (.builtin "len") lenR := ⟨_, call_len, by
  intro c G H vs ds post Q w bs hp q
  match ds, bs, hp with
  | [.list xs], bs, hp =>
    obtain ⟨v, rfl, b⟩ := bs.one
    obtain ⟨p, us, rfl, h1, h2, _⟩ := b.lst w
    exact ⟨_, _, rfl, .inl ⟨us, .of h1, rfl⟩, by rw [h2.length]; exact q _ hp _ G H .refl w (.int _)⟩
  | [.tuple xs], bs, hp =>
    obtain ⟨v, rfl, b⟩ := bs.one
    obtain ⟨p, us, rfl, h1, h2⟩ := b.tup
    exact ⟨_, _, rfl, .inr ⟨us, sqT_mono w.sub h1, rfl⟩, by rw [h2.length]; exact q _ hp _ G H .refl w (.int _)⟩
  | [.str s], bs, hp =>
    obtain ⟨v, rfl, b⟩ := bs.one
    rw [b.str]
    exact ⟨_, _, rfl, ⟨hp.1, rfl⟩, q _ hp.2 _ G H .refl w (.int _)⟩⟩
def absR : List D → R D
  | [.int i] => ok (.int (if i < 0 then -i else i))
  | _ => fail
theorem kAbs : CalQ X (.builtin "abs") absR := ⟨_, call_abs, by
  intro c G H vs ds post Q w bs hp q
  match ds, bs, hp with
  | [.int i], bs, hp =>
    obtain ⟨v, rfl, b⟩ := bs.one
    rw [b.int]
    exact ⟨_, rfl, q _ hp _ G H .refl w (.int _)⟩⟩
def intR : List D → R D
  | [.int i] => ok (.int i)
  | [.bool b] => ok (.int (if b then 1 else 0))
  | _ => fail
theorem kInt : CalQ X (.type "int") intR := ⟨_, call_int1, by
  intro c G H vs ds post Q w bs hp q
  match ds, bs, hp with
  | [.int i], bs, hp =>
    obtain ⟨v, rfl, b⟩ := bs.one
    rw [b.int]
    exact .inl ⟨_, rfl, q _ hp _ G H .refl w (.int _)⟩
  | [.bool i], bs, hp =>
    obtain ⟨v, rfl, b⟩ := bs.one
    rw [b.bool]
    exact .inr ⟨_, rfl, q _ hp _ G H .refl w (.int _)⟩⟩
def tupOfR : List D → R D
  | [.list xs] => ok (.tuple xs)
  | [.tuple xs] => ok (.tuple xs)
  | _ => fail
theorem kTup : CalQ X (.type "tuple") tupOfR := ⟨_, call_tuple_of, by
  intro c G H vs ds post Q w bs hp q
  match ds, bs, hp with
  | [.list xs], bs, hp =>
    obtain ⟨v, rfl, b⟩ := bs.one
    obtain ⟨p, us, rfl, h1, h2, _⟩ := b.lst w
    refine ⟨_, _, rfl, .inl ⟨.of h1, fun n hn => ?_⟩⟩
    obtain ⟨w4, e4⟩ := w.newF hn (.tup us)
    exact q _ hp _ _ _ e4 w4 (.tup (.of upd_same) (h2.mono e4.g))
  | [.tuple xs], bs, hp =>
    obtain ⟨v, rfl, b⟩ := bs.one
    obtain ⟨p, us, rfl, h1, h2⟩ := b.tup
    exact ⟨_, _, rfl, .inr ⟨sqT_mono w.sub h1, q _ hp _ G H .refl w (.tup h1 h2)⟩⟩⟩
def lstOfR : List D → R (List D)
  | [.list xs] => ok xs
  | [.tuple xs] => ok xs
  | _ => fail
theorem kLst : CalF X (.type "list") lstOfR := ⟨_, call_list_of, by
  intro c G H vs ds post Q w bs hp q
  match ds, bs, hp with
  | [.list xs], bs, hp =>
    obtain ⟨v, rfl, b⟩ := bs.one
    obtain ⟨p, us, rfl, h1, h2, _⟩ := b.lst w.w
    exact ⟨_, _, rfl, .inl (.of h1), fun n hn => fin_new w .refl hn h2 hp q⟩
  | [.tuple xs], bs, hp =>
    obtain ⟨v, rfl, b⟩ := bs.one
    obtain ⟨p, us, rfl, h1, h2⟩ := b.tup
    exact ⟨_, _, rfl, .inr (sqT_mono w.w.sub h1), fun n hn => fin_new w .refl hn h2 hp q⟩⟩
end
end Pu

namespace Pu
open PySem PySem.Spec PyProof.Rows L2
/-! ### statements -/
inductive Out where
  | nx (ρ : List Sl)
  | rt (d : D)
  | bk (ρ : List Sl)
  | ct (ρ : List Sl)
def EndsOk (K : PySem.W.Frag) (c : Ct) (G : Hp) (D : Ends) : Out → Prop
  | .nx ρ => ∀ σ G' H', Le G G' → Wd c G' H' → RS K c G' H' σ ρ → D.nx σ H'
  | .rt d => ∀ v G' H', Le G G' → Wd c G' H' → Dq K G' v d → D.rt v H'
  | .bk ρ => ∀ σ G' H', Le G G' → Wd c G' H' → RS K c G' H' σ ρ → D.bk σ H'
  | .ct ρ => ∀ σ G' H', Le G G' → Wd c G' H' → RS K c G' H' σ ρ → D.ct σ H'
theorem EndsOk.le {K : PySem.W.Frag} {c : Ct} {G G1 : Hp} {D : Ends} (h : Le G G1) : ∀ {o : Out}, EndsOk K c G D o → EndsOk K c G1 D o
  | .nx _, k => fun σ G' H' l => k σ G' H' fun a o e => l a o (h a o e)
  | .rt _, k => fun σ G' H' l => k σ G' H' fun a o e => l a o (h a o e)
  | .bk _, k => fun σ G' H' l => k σ G' H' fun a o e => l a o (h a o e)
  | .ct _, k => fun σ G' H' l => k σ G' H' fun a o e => l a o (h a o e)
def tS (K : PySem.W.Frag) (g : List Sl → R Out) : TS := fun D σ H => ∃ (c : Ct) (G : Hp) (ρ : List Sl) (post : Out → Prop), Wd c G H ∧ RS K c G H σ ρ ∧ g ρ post ∧ ∀ o, post o → EndsOk K c G D o
def nxt (k : List Sl → R Out) : Out → R Out
  | .nx ρ => k ρ
  | o => ok o
@[simp] theorem nxt_nx (k : List Sl → R Out) (ρ : List Sl) : nxt k (.nx ρ) = k ρ := (rfl)
@[simp] theorem nxt_rt (k : List Sl → R Out) (d : D) : nxt k (.rt d) = ok (.rt d) := (rfl)
@[simp] theorem nxt_bk (k : List Sl → R Out) (ρ : List Sl) : nxt k (.bk ρ) = ok (.bk ρ) := (rfl)
@[simp] theorem nxt_ct (k : List Sl → R Out) (ρ : List Sl) : nxt k (.ct ρ) = ok (.ct ρ) := (rfl)
def seqM (g h : List Sl → R Out) : List Sl → R Out := fun ρ => bd (g ρ) (nxt h)
def nilM : List Sl → R Out := fun ρ => ok (.nx ρ)
section
variable {X : Cx} {e a b : Expr} {es : List Expr} {pos : Pos} {st : Stmt} {rest sts : List Stmt}
theorem PS.wk {t t' : TS} (h : PS X st t) (w : ∀ D σ H, t' D σ H → t D σ H) : PS X st t' := ⟨fun pins s σ H D I q => h.run pins s σ H D I (w D σ H q)⟩
theorem PSs.wk {t t' : TS} (h : PSs X sts t) (w : ∀ D σ H, t' D σ H → t D σ H) : PSs X sts t' := ⟨fun pins s σ H D I q => h.run pins s σ H D I (w D σ H q)⟩
theorem sNil : PSs X [] (tS X.K nilM) := PSs.wk pss_nil fun D σ H ⟨c, G, ρ, post, w, r, hg, q⟩ => q _ hg σ G H (fun _ _ e => e) w r
theorem sCons {g h : List Sl → R Out} (h1 : PS X st (tS X.K g)) (h2 : PSs X rest (tS X.K h)) : PSs X (st :: rest) (tS X.K (seqM g h)) := PSs.wk (pss_cons h1 h2) fun D σ H ⟨c, G, ρ, post, w, r, hg, q⟩ =>
  ⟨c, G, ρ, _, w, r, hg, fun o ho => by
    cases o with
    | nx ρ' => exact fun σ' G' H' l w' r' => ⟨c, G', ρ', post, w', r', ho, fun o ho => (q o ho).le l⟩
    | rt d => exact q _ ho
    | bk ρ' => exact q _ ho
    | ct ρ' => exact q _ ho⟩
theorem sOne {g : List Sl → R Out} (h1 : PS X st (tS X.K g)) : PSs X [st] (tS X.K g) := pss_one h1
def retM (f : List Sl → R D) : List Sl → R Out := fun ρ => bd (f ρ) fun d => ok (.rt d)
theorem sRet {f : List Sl → R D} (h : PE X e (tB X.K f)) : PS X (.Return (some e) pos) (tS X.K (retM f)) := PS.wk (ps_ret h) fun D σ H ⟨c, G, ρ, post, w, r, hg, q⟩ =>
  ⟨c, G, ρ, _, w, r, hg, fun d hd v G' H' e' w' b => by
    rcases b with b | ⟨a, ds, rfl, rfl, o⟩
    · exact q _ hd v G' H' e'.g (w.step w' e') b
    · obtain ⟨G2, w2, l2, d2, _⟩ := (w.step w' e').freeze o
      exact q _ hd _ G2 H' (fun a o e => l2 a o (e'.g a o e)) w2 d2⟩
theorem sRetN : PS X (.Return none pos) (tS X.K fun _ => ok (.rt .none)) := PS.wk ps_retN fun D σ H ⟨c, G, ρ, post, w, r, hg, q⟩ => q _ hg .non G H (fun _ _ e => e) w .non
theorem sPass : PS X (.Pass pos) (tS X.K nilM) := PS.wk ps_pass fun D σ H ⟨c, G, ρ, post, w, r, hg, q⟩ => q _ hg σ G H (fun _ _ e => e) w r
theorem sBrk : PS X (.Break pos) (tS X.K fun ρ => ok (.bk ρ)) := PS.wk ps_break fun D σ H ⟨c, G, ρ, post, w, r, hg, q⟩ => q _ hg σ G H (fun _ _ e => e) w r
theorem sCnt : PS X (.Continue pos) (tS X.K fun ρ => ok (.ct ρ)) := PS.wk ps_continue fun D σ H ⟨c, G, ρ, post, w, r, hg, q⟩ => q _ hg σ G H (fun _ _ e => e) w r
theorem sIf {t : List Sl → R Bool} {g h : List Sl → R Out} {cnd : Expr} {sa sb : List Stmt} (hc : PT X cnd (tT X.K t)) (ha : PSs X sa (tS X.K g)) (hb : PSs X sb (tS X.K h)) : PS X (.If cnd sa sb pos) (tS X.K (ifV t g h)) :=
  PS.wk (ps_if hc ha hb) fun D σ H ⟨c, G, ρ, post, w, r, hg, q⟩ => ⟨c, G, ρ, _, w, r, hg, fun k hk G' H' e' w' => by
    cases k with
    | true => exact ⟨c, G', ρ, post, w.step w' e', r.ext e', hk, fun o ho => (q o ho).le e'.g⟩
    | false => exact ⟨c, G', ρ, post, w.step w' e', r.ext e', hk, fun o ho => (q o ho).le e'.g⟩⟩
/-! ### targets -/
/-- but for the slots at is, nothing is touched -/
def Tch (js : List Nat) (σ σ' : L2.St) : Prop := σ'.length = σ.length ∧ ∀ j, j ∉ js → σ'[j]? = σ[j]?
theorem Tch.refl {js : List Nat} {σ : L2.St} : Tch js σ σ := ⟨rfl, fun _ _ => rfl⟩
def tG (K : PySem.W.Frag) (js : List Nat) (g : D → List Sl → R (List Sl)) : TG := fun v σ H Q => ∃ (c : Ct) (G : Hp) (ρ : List Sl) (d : D) (post : List Sl → Prop), Wd c G H ∧ RS K c G H σ ρ ∧ Dq K G v d ∧ g d ρ post ∧ ∀ ρ', post ρ' → ∀ σ', RS K c G H σ' ρ' → Tch js σ σ' → Q σ' H
def tGs (K : PySem.W.Frag) (js : List Nat) (g : List D → List Sl → R (List Sl)) : TGs := fun vs σ H Q => ∃ (c : Ct) (G : Hp) (ρ : List Sl) (ds : List D) (post : List Sl → Prop), Wd c G H ∧ RS K c G H σ ρ ∧ DqAll K G vs ds ∧ g ds ρ post ∧ ∀ ρ', post ρ' → ∀ σ', RS K c G H σ' ρ' → Tch js σ σ' → Q σ' H
theorem PG.wk {tg : Expr} {t t' : TG} (h : PG X tg t) (w : ∀ v σ H Q, t' v σ H Q → t v σ H Q) : PG X tg t' := ⟨fun pins s σ H v u Q I r q => h.run pins s σ H v u Q I r (w v σ H Q q)⟩
theorem PGs.wk {tg : List Expr} {t t' : TGs} (h : PGs X tg t) (w : ∀ v σ H Q, t' v σ H Q → t v σ H Q) : PGs X tg t' := ⟨fun pins s σ H v u Q I r q => h.run pins s σ H v u Q I r (w v σ H Q q)⟩
def gSet (i : Nat) : D → List Sl → R (List Sl) := fun d ρ => ok (ρ.set i (.dat d))
theorem gN (i : Nat) {x : Str} (hN : X.N.Nodup) (hi : X.N[i]? = some x := by rfl) (hx : Loc X.env.scope x := by first | exact Or.inl rfl | exact Or.inr rfl) (hf : X.fn x = true ∨ X.env.scope.names.lookup x = some .local := by first | exact .inl rfl | exact .inr rfl) : PG X (.Name x pos) (tG X.K [i] (gSet i)) :=
  PG.wk (pg_name hN hi hx hf) fun v σ H Q ⟨c, G, ρ, d, post, w, r, k, hg, q⟩ => q _ hg _ (r.setD k) ⟨by simp, fun j hj => by rw [List.getElem?_set_ne (fun z => hj (by simp [z]))]⟩
def gNilR : List D → List Sl → R (List Sl)
  | [], ρ => ok ρ
  | _, _ => fail
def gConsR (g : D → List Sl → R (List Sl)) (h : List D → List Sl → R (List Sl)) : List D → List Sl → R (List Sl)
  | d :: ds, ρ => bd (g d ρ) (h ds)
  | _, _ => fail
theorem gsN : PGs X [] (tGs X.K [] gNilR) := PGs.wk pgs_nil fun v σ H Q ⟨c, G, ρ, ds, post, w, r, k, hg, q⟩ => by
  cases k with
  | nil => exact ⟨rfl, q _ hg σ r .refl⟩
  | cons => exact hg.elim
theorem gsC {is js : List Nat} {g : D → List Sl → R (List Sl)} {h : List D → List Sl → R (List Sl)} (h1 : PG X e (tG X.K is g)) (h2 : PGs X es (tGs X.K js h)) (hs : (assignEach (e :: es) X.env).map (·.2) = assign e X.env :: (assignEach es X.env).map (·.2) := by rfl) : PGs X (e :: es) (tGs X.K (is ++ js) (gConsR g h)) :=
  PGs.wk (pgs_cons h1 h2 hs) fun v σ H Q ⟨c, G, ρ, ds, post, w, r, k, hg, q⟩ => by
    cases k with
    | nil => exact hg.elim
    | cons k1 k2 => exact ⟨_, _, rfl, c, G, ρ, _, _, w, r, k1, hg, fun ρ' hρ σ' r' t1 => ⟨c, G, ρ', _, post, w, r', k2, hρ, fun ρ2 h2 σ2 r2 t2 => q ρ2 h2 σ2 r2 ⟨t2.1.trans t1.1, fun j hj => (t2.2 j fun z => hj (List.mem_append_right _ z)).trans (t1.2 j fun z => hj (List.mem_append_left _ z))⟩⟩⟩
def gTupR (n : Nat) (g : List D → List Sl → R (List Sl)) : D → List Sl → R (List Sl)
  | .tuple ds, ρ => bd (req (ds.length = n)) fun _ => g ds ρ
  | _, _ => fail
theorem gT {k n : Nat} {js : List Nat} {g : List D → List Sl → R (List Sl)} (h : PGs X es (tGs X.K js g)) (hc : X.calm = true := by rfl) (hn : (assignEach es X.env).length = n := by rfl) (hst : (assignEach es X.env).findIdx? (·.1) = none := by rfl) : PG X (.Tuple es k pos) (tG X.K js (gTupR n g)) :=
  PG.wk (pg_tup hc h hn hst) fun v σ H Q ⟨c, G, ρ, d, post, w, r, k, hg, q⟩ => by
    cases k with
    | tup e1 e2 => exact ⟨_, _, rfl, sqT_mono w.w.sub e1, by rw [e2.length]; exact hg.1, c, G, ρ, _, post, w, r, e2, hg.2, q⟩
    | _ => exact hg.elim
/-! ### assignments -/
def asgM (f : List Sl → R D) (g : D → List Sl → R (List Sl)) : List Sl → R Out := fun ρ => bd (f ρ) fun d => bd (g d ρ) fun ρ' => ok (.nx ρ')
theorem sAsg {tg : Expr} {f : List Sl → R D} {js : List Nat} {g : D → List Sl → R (List Sl)} (he : PE X e (tP X.K f)) (hg : PG X tg (tG X.K js g)) (hs : swapsWithSole [tg] e pos.line X.env = pure false := by rfl) (hw : swappedStores [tg] e X.env = pure none := by rfl)
    (h1 : (assignEach [tg] X.env).map (·.2) = [assign tg X.env] := by rfl) : PS X (.Assign [tg] e pos) (tS X.K (asgM f g)) :=
  PS.wk (ps_asg he hg hs hw h1) fun D σ H ⟨c, G, ρ, post, w, r, hg, q⟩ => ⟨c, G, ρ, _, w, r, hg, fun d hd v G' H' e' w' k =>
    ⟨c, G', ρ, d, _, w.step w' e', r.ext e', k, hd, fun ρ' hρ σ' r' _ => q _ hρ σ' G' H' e'.g (w.step w' e') r'⟩⟩
def setM (i : Nat) (f : List Sl → R D) : List Sl → R Out := fun ρ => bd (f ρ) fun d => ok (.nx (ρ.set i (.dat d)))
theorem sSet (i : Nat) {x : Str} {pos' : Pos} {f : List Sl → R D} (hN : X.N.Nodup) (he : PE X e (tP X.K f)) (hi : X.N[i]? = some x := by rfl) (hx : Loc X.env.scope x := by first | exact Or.inl rfl | exact Or.inr rfl) (hs : swapsWith e (some (.Name x pos')) pos.line X.env = pure false := by rfl)
    (hf : X.fn x = true ∨ X.env.scope.names.lookup x = some .local := by first | exact .inl rfl | exact .inr rfl) : PS X (.Assign [.Name x pos'] e pos) (tS X.K (setM i f)) :=
  PS.wk (ps_set hN hi hx he hs hf) fun D σ H ⟨c, G, ρ, post, w, r, hg, q⟩ => ⟨c, G, ρ, _, w, r, hg, fun d hd v G' H' e' w' k => q _ hd _ G' H' e'.g (w.step w' e') ((r.ext e').setD k)⟩
def setO (i : Nat) (f : List Sl → R (List D)) : List Sl → R Out := fun ρ => bd (f ρ) fun ds => ok (.nx (ρ.set i (.own ds)))
/-- what is said of a new address: no slot holds it -/
theorem RS.new {K : PySem.W.Frag} {c : Ct} {G H : Hp} {σ : L2.St} {ρ : List Sl} (r : RS K c G H σ ρ) {a : Addr} (n : H a = none) (j : Nat) (es : List D) (hj : ρ[j]? = some (.own es)) : σ[j]? ≠ some (some (.ref a)) := by
  intro z
  rcases r.at_ j _ hj with q | ⟨v, e1, b, rfl, o⟩
  · cases q
  · rw [z] at e1; cases e1
    obtain ⟨vs, h, _⟩ := o.at_
    rw [n] at h; cases h
theorem sSetO (i : Nat) {x : Str} {pos' : Pos} {f : List Sl → R (List D)} (hN : X.N.Nodup) (he : PE X e (tF X.K f)) (hi : X.N[i]? = some x := by rfl) (hx : Loc X.env.scope x := by first | exact Or.inl rfl | exact Or.inr rfl) (hs : swapsWith e (some (.Name x pos')) pos.line X.env = pure false := by rfl)
    (hf : X.fn x = true ∨ X.env.scope.names.lookup x = some .local := by first | exact .inl rfl | exact .inr rfl) : PS X (.Assign [.Name x pos'] e pos) (tS X.K (setO i f)) :=
  PS.wk (ps_set hN hi hx he hs hf) fun D σ H ⟨c, G, ρ, post, w, r, hg, q⟩ => ⟨c, G, ρ, _, w, r, hg, fun d hd a G' H' n e' w' o => q _ hd _ G' H' e'.g (w.step w' e') ((r.ext e').setO o (r.new n))⟩
/-- the own list in a slot -/
def getO (ρ : List Sl) (i : Nat) : R (List D) := match ρ[i]? with
  | some (.own ds) => ok ds
  | _ => fail
theorem getO_inv {ρ : List Sl} {i : Nat} {post : List D → Prop} (h : getO ρ i post) : ∃ ds, ρ[i]? = some (.own ds) ∧ post ds := by
  unfold getO at h
  cases e : ρ[i]? with
  | none => rw [e] at h; exact h.elim
  | some x =>
    rw [e] at h
    cases x with
    | own ds => exact ⟨ds, rfl, h⟩
    | _ => exact h.elim
/-- .. is frozen (where it is from then on only read) -/
def frzM (i : Nat) (g : List Sl → R Out) : List Sl → R Out := fun ρ => bd (getO ρ i) fun ds => g (ρ.set i (.dat (.list ds)))
theorem sFrz (i : Nat) {g : List Sl → R Out} (h : PS X st (tS X.K g)) : PS X st (tS X.K (frzM i g)) := PS.wk h fun D σ H ⟨c, G, ρ, post, w, r, hg, q⟩ => by
  obtain ⟨ds, e, hg⟩ := getO_inv hg
  rcases r.at_ i _ e with z | ⟨v, e1, a, rfl, o⟩
  · cases z
  · obtain ⟨G', w', l, d, ne⟩ := w.freeze o
    exact ⟨c, G', _, post, w', r.freeze e e1 l d ne, hg, fun o ho => (q o ho).le l⟩
/-- a change of the own list in slot i by a method with arguments, as a statement -/
def mutM (i : Nat) (f : List Sl → R (List D)) (h : List D → List D → R (List D)) : List Sl → R Out := fun ρ => bd (getO ρ i) fun _ => bd (f ρ) fun args => bd (getO ρ i) fun ds => bd (h ds args) fun es => ok (.nx (ρ.set i (.own es)))
def Mut1 (K : PySem.W.Frag) (r : V → List V → Hp → VK → Prop) (h : List D → List D → R (List D)) : Prop := ∀ (c : Ct) (G H : Hp) (a : Addr) (ds : List D) (vs xs : List V) (args : List D) (post : List D → Prop) (Q : VK), W0 c.E G H → H a = some (.lst vs) → DqAll K G vs ds → DqAll K G xs args → h ds args post →
  (∀ es, post es → ∀ u ws, DqAll K G ws es → Q u (upd H a (.lst ws))) → r (.ref a) xs H Q
def appR : List D → List D → R (List D)
  | ds, [d] => bd (req (ds.length < sizeLine)) fun _ => ok (ds ++ [d])
  | _, _ => fail
theorem mut_app {K : PySem.W.Frag} : Mut1 K rAppend appR := by
  intro c G H a ds vs xs args post Q w h k ka hp q
  match args, ka, hp with
  | [d], .cons k1 .nil, hp => exact ⟨a, vs, _, rfl, rfl, h, by rw [k.length]; exact hp.1, q _ hp.2 _ _ (k.append (.cons k1 .nil))⟩
/-- x.append(d) and its like: the arguments are frozen data -/
theorem sMut {r0 : V → List V → Hp → VK → Prop} {h : List D → List D → R (List D)} {i : Nat} {f : List Sl → R (List D)} (k : Mut1 X.K r0 h) (hc : PE X e (tBM X.K "list" r0 (tVar i) (tAF X.K f))) (hs : swapsWith e none pos.line X.env = pure false := by rfl) :
    PS X (.Expr e pos) (tS X.K (mutM i f h)) := PS.wk (ps_expr hc hs) fun D σ H ⟨c, G, ρ, post, w, r, hg, q⟩ => by
  obtain ⟨ds, e0, hg⟩ := getO_inv hg
  rcases r.at_ i _ e0 with z | ⟨v, e1, a, rfl, o⟩
  · cases z
  · obtain ⟨vs0, h0, _⟩ := o.at_
    refine ⟨_, e1, .inl ⟨rfl, _, .of h0⟩, c, G, ρ, _, w, r, hg, fun args hargs xs G' H' e' w' ka => ?_⟩
    obtain ⟨ds', e0', hargs⟩ := getO_inv hargs
    rw [e0] at e0'; cases e0'
    have o' := o.ext e'
    obtain ⟨vs, hv, kv⟩ := o'.at_
    refine k c G' H' a ds vs xs args _ _ w' hv kv ka hargs fun es hes u ws kw => ?_
    exact q _ hes _ G' _ e'.g (Wd.mut (w.step w' e') o' kw).1 ((r.ext e').mut e0 e1 o' kw)
/-- .. the argument is looked at (extend) -/
def MutB (K : PySem.W.Frag) (r : V → List V → Hp → VK → Prop) (h : List D → List D → R (List D)) : Prop := ∀ (c : Ct) (G H : Hp) (a : Addr) (ds : List D) (vs xs : List V) (args : List D) (post : List D → Prop) (Q : VK), W0 c.E G H → H a = some (.lst vs) → DqAll K G vs ds → BvAll K c G H xs args → h ds args post →
  (∀ es, post es → ∀ u ws, DqAll K G ws es → Q u (upd H a (.lst ws))) → r (.ref a) xs H Q
theorem sMutB {r0 : V → List V → Hp → VK → Prop} {h : List D → List D → R (List D)} {i : Nat} {f : List Sl → R (List D)} (k : MutB X.K r0 h) (hc : PE X e (tBM X.K "list" r0 (tVar i) (tAB X.K f))) (hs : swapsWith e none pos.line X.env = pure false := by rfl) :
    PS X (.Expr e pos) (tS X.K (mutM i f h)) := PS.wk (ps_expr hc hs) fun D σ H ⟨c, G, ρ, post, w, r, hg, q⟩ => by
  obtain ⟨ds, e0, hg⟩ := getO_inv hg
  rcases r.at_ i _ e0 with z | ⟨v, e1, a, rfl, o⟩
  · cases z
  · obtain ⟨vs0, h0, _⟩ := o.at_
    refine ⟨_, e1, .inl ⟨rfl, _, .of h0⟩, c, G, ρ, _, w, r, hg, fun args hargs xs G' H' e' w' ka => ?_⟩
    obtain ⟨ds', e0', hargs⟩ := getO_inv hargs
    rw [e0] at e0'; cases e0'
    have o' := o.ext e'
    obtain ⟨vs, hv, kv⟩ := o'.at_
    refine k c G' H' a ds vs xs args _ _ w' hv kv ka hargs fun es hes u ws kw => ?_
    exact q _ hes _ G' _ e'.g (Wd.mut (w.step w' e') o' kw).1 ((r.ext e').mut e0 e1 o' kw)
def extR : List D → List D → R (List D)
  | ds, [.list es] => bd (req (ds.length + es.length ≤ sizeLine)) fun _ => ok (ds ++ es)
  | _, _ => fail
theorem mut_ext {K : PySem.W.Frag} : MutB K rExtend extR := by
  intro c G H a ds vs xs args post Q w h k ka hp q
  match args, ka, hp with
  | [.list es], ka, hp =>
    obtain ⟨v, rfl, b⟩ := ka.one
    obtain ⟨p, us, rfl, h1, h2, _⟩ := b.lst w
    exact ⟨a, p, vs, us, rfl, rfl, h, h1, by rw [k.length, h2.length]; exact hp.1, q _ hp.2 _ _ (k.append h2)⟩
/-- tg = x.pop(..): what is taken out, what is left -/
def popM (i : Nat) (f : List Sl → R (List D)) (h : List D → List D → R (D × List D)) (g : D → List Sl → R (List Sl)) : List Sl → R Out := fun ρ => bd (getO ρ i) fun _ => bd (f ρ) fun args => bd (getO ρ i) fun ds => bd (h ds args) fun p => bd (g p.1 (ρ.set i (.own p.2))) fun ρ' => ok (.nx ρ')
def Pop1 (K : PySem.W.Frag) (r : V → List V → Hp → VK → Prop) (h : List D → List D → R (D × List D)) : Prop := ∀ (c : Ct) (G H : Hp) (a : Addr) (ds : List D) (vs xs : List V) (args : List D) (post : D × List D → Prop) (Q : VK), W0 c.E G H → H a = some (.lst vs) → DqAll K G vs ds → DqAll K G xs args → h ds args post →
  (∀ p, post p → ∀ u ws, Dq K G u p.1 → DqAll K G ws p.2 → Q u (upd H a (.lst ws))) → r (.ref a) xs H Q
theorem sPop {tg : Expr} {r0 : V → List V → Hp → VK → Prop} {h : List D → List D → R (D × List D)} {i : Nat} {f : List Sl → R (List D)} {js : List Nat} {g : D → List Sl → R (List Sl)} (k : Pop1 X.K r0 h) (hc : PE X e (tBM X.K "list" r0 (tVar i) (tAF X.K f))) (hg : PG X tg (tG X.K js g))
    (hs : swapsWithSole [tg] e pos.line X.env = pure false := by rfl) (hw : swappedStores [tg] e X.env = pure none := by rfl) (h1 : (assignEach [tg] X.env).map (·.2) = [assign tg X.env] := by rfl) :
    PS X (.Assign [tg] e pos) (tS X.K (popM i f h g)) := PS.wk (ps_asg hc hg hs hw h1) fun D σ H ⟨c, G, ρ, post, w, r, hg, q⟩ => by
  obtain ⟨ds, e0, hg⟩ := getO_inv hg
  rcases r.at_ i _ e0 with z | ⟨v, e1, a, rfl, o⟩
  · cases z
  · obtain ⟨vs0, h0, _⟩ := o.at_
    refine ⟨_, e1, .inl ⟨rfl, _, .of h0⟩, c, G, ρ, _, w, r, hg, fun args hargs xs G' H' e' w' ka => ?_⟩
    obtain ⟨ds', e0', hargs⟩ := getO_inv hargs
    rw [e0] at e0'; cases e0'
    have o' := o.ext e'
    obtain ⟨vs, hv, kv⟩ := o'.at_
    refine k c G' H' a ds vs xs args _ _ w' hv kv ka hargs fun p hp u ws ku kw => ?_
    obtain ⟨w2, _⟩ := Wd.mut (w.step w' e') o' kw
    exact ⟨c, G', _, _, _, w2, (r.ext e').mut e0 e1 o' kw, ku, hp, fun ρ' hρ σ' r' _ => q _ hρ σ' G' _ e'.g w2 r'⟩
theorem sPop0 {tg : Expr} {r0 : V → List V → Hp → VK → Prop} {h : List D → List D → R (D × List D)} {i : Nat} {js : List Nat} {g : D → List Sl → R (List Sl)} (k : Pop1 X.K r0 h) (hc : PE X e (tBM0 X.K "list" r0 (tVar i))) (hg : PG X tg (tG X.K js g))
    (hs : swapsWithSole [tg] e pos.line X.env = pure false := by rfl) (hw : swappedStores [tg] e X.env = pure none := by rfl) (h1 : (assignEach [tg] X.env).map (·.2) = [assign tg X.env] := by rfl) :
    PS X (.Assign [tg] e pos) (tS X.K (popM i nilR h g)) := PS.wk (ps_asg hc hg hs hw h1) fun D σ H ⟨c, G, ρ, post, w, r, hg, q⟩ => by
  obtain ⟨ds, e0, hg⟩ := getO_inv hg
  rcases r.at_ i _ e0 with z | ⟨v, e1, a, rfl, o⟩
  · cases z
  · obtain ⟨vs, hv, kv⟩ := o.at_
    obtain ⟨ds', e0', hargs⟩ := getO_inv hg
    rw [e0] at e0'; cases e0'
    refine ⟨_, e1, .inl ⟨rfl, _, .of hv⟩, ?_⟩
    refine k c G H a ds vs [] [] _ _ w.w hv kv .nil hargs fun p hp u ws ku kw => ?_
    obtain ⟨w2, _⟩ := Wd.mut w o kw
    exact ⟨c, G, _, _, _, w2, r.mut e0 e1 o kw, ku, hp, fun ρ' hρ σ' r' _ => q _ hρ σ' G _ (fun _ _ e => e) w2 r'⟩
/-- x.pop() as a statement -/
theorem sPopE {r0 : V → List V → Hp → VK → Prop} {h : List D → List D → R (D × List D)} {i : Nat} (k : Pop1 X.K r0 h) (hc : PE X e (tBM0 X.K "list" r0 (tVar i))) (hs : swapsWith e none pos.line X.env = pure false := by rfl) :
    PS X (.Expr e pos) (tS X.K (popM i nilR h fun _ ρ => ok ρ)) := PS.wk (ps_expr hc hs) fun D σ H ⟨c, G, ρ, post, w, r, hg, q⟩ => by
  obtain ⟨ds, e0, hg⟩ := getO_inv hg
  rcases r.at_ i _ e0 with z | ⟨v, e1, a, rfl, o⟩
  · cases z
  · obtain ⟨vs, hv, kv⟩ := o.at_
    obtain ⟨ds', e0', hargs⟩ := getO_inv hg
    rw [e0] at e0'; cases e0'
    refine ⟨_, e1, .inl ⟨rfl, _, .of hv⟩, ?_⟩
    refine k c G H a ds vs [] [] _ _ w.w hv kv .nil hargs fun p hp u ws ku kw => ?_
    obtain ⟨w2, _⟩ := Wd.mut w o kw
    exact q _ hp _ G _ (fun _ _ e => e) w2 (r.mut e0 e1 o kw)
def popR : List D → List D → R (D × List D)
  | ds, [] => (match ds.getLast? with | some d => ok (d, ds.dropLast) | none => fail)
  | _, _ => fail
def popAtR : List D → List D → R (D × List D)
  | ds, [.int i] => (match L2.ixN ds.length i with | some k => (match ds[k]? with | some d => bd (req (-(2 ^ 63) ≤ i ∧ i < 2 ^ 63)) fun _ => ok (d, ds.eraseIdx k) | none => fail) | none => fail)
  | _, _ => fail
theorem DqAll.dropLast {K : PySem.W.Frag} {G : Hp} {vs : List V} {ds : List D} (h : DqAll K G vs ds) : DqAll K G vs.dropLast ds.dropLast := by
  rw [List.dropLast_eq_take, List.dropLast_eq_take, h.length]
  exact h.take _
theorem DqAll.eraseIdx {K : PySem.W.Frag} {G : Hp} : ∀ {vs : List V} {ds : List D} (i : Nat), DqAll K G vs ds → DqAll K G (vs.eraseIdx i) (ds.eraseIdx i)
  | _, _, _, .nil => .nil
  | _, _, 0, .cons _ t => t
  | _, _, i + 1, .cons q t => .cons q (DqAll.eraseIdx i t)
theorem pop_last {K : PySem.W.Frag} : Pop1 K rPop popR := by
  intro c G H a ds vs xs args post Q w h k ka hp q
  match args, ka, hp with
  | [], .nil, hp =>
    simp only [popR] at hp
    cases e : ds.getLast? with
    | none => rw [e] at hp; exact hp.elim
    | some d =>
      rw [e] at hp
      rw [List.getLast?_eq_getElem?] at e
      obtain ⟨v, h1, h2⟩ := k.get e
      rw [← k.length] at h1
      exact ⟨a, vs, v, rfl, rfl, h, h1, q _ hp _ _ h2 k.dropLast⟩
theorem pop_at {K : PySem.W.Frag} : Pop1 K rPopAt popAtR := by
  intro c G H a ds vs xs args post Q w h k ka hp q
  match args, ka, hp with
  | [.int i], .cons (.int _) .nil, hp =>
    simp only [popAtR] at hp
    cases e : L2.ixN ds.length i with
    | none => rw [e] at hp; exact hp.elim
    | some j =>
      rw [e] at hp
      simp only at hp
      cases e2 : ds[j]? with
      | none => rw [e2] at hp; exact hp.elim
      | some d =>
        rw [e2] at hp
        obtain ⟨v, h1, h2⟩ := k.get e2
        exact ⟨a, vs, i, j, v, rfl, rfl, h, hp.1.1, hp.1.2, by rw [k.length]; exact (ixN_seq e).1, h1, q _ hp.2 _ _ h2 (k.eraseIdx j)⟩
/-! ### x[i] = v, x op= v -/
def setIxM (i : Nat) (f g : List Sl → R D) (h : List D → D → D → R (List D)) : List Sl → R Out := fun ρ => bd (f ρ) fun v => bd (getO ρ i) fun _ => bd (g ρ) fun k => bd (getO ρ i) fun ds => bd (h ds k v) fun es => ok (.nx (ρ.set i (.own es)))
def setR : List D → D → D → R (List D)
  | ds, .int k, v => (match L2.ixN ds.length k with | some j => ok (ds.set j v) | none => fail)
  | _, _, _ => fail
theorem sSetIx {i : Nat} {x : Str} {f g : List Sl → R D} {npos spos : Pos} {ix : Expr} (he : PE X e (tP X.K f)) (hv : PE X (.Name x npos) (tVar i)) (hi : PE X ix (tB X.K g))
    (ha : ∀ v, assign (.Subscript (.Name x npos) ix spos) X.env v = (do
      let ov ← holding [v] (eval (.Name x npos) X.env)
      let iv ← holding [v, ov] (eval ix X.env)
      standAt spos
      holding [v, ov, iv] (setItem ov iv v)
      release [v, ov, iv] []) := by intro _; rfl)
    (hs : swapsWithSole [.Subscript (.Name x npos) ix spos] e pos.line X.env = pure false := by rfl) (hw : swappedStores [.Subscript (.Name x npos) ix spos] e X.env = pure none := by rfl)
    (h1 : (assignEach [.Subscript (.Name x npos) ix spos] X.env).map (·.2) = [assign (.Subscript (.Name x npos) ix spos) X.env] := by rfl) :
    PS X (.Assign [.Subscript (.Name x npos) ix spos] e pos) (tS X.K (setIxM i f g setR)) :=
  PS.wk (ps_asg he (pg_sub hv hi set_list ha) hs hw h1) fun D σ H ⟨c, G, ρ, post, w, r, hg, q⟩ => ⟨c, G, ρ, _, w, r, hg, fun d hd v G1 H1 e1 w1 k1 => by
    obtain ⟨ds, e0, hd⟩ := getO_inv hd
    rcases r.at_ i _ e0 with z | ⟨u, es, a, rfl, o⟩
    · cases z
    · refine ⟨_, es, c, G1, ρ, _, w.step w1 e1, r.ext e1, hd, fun k hk kv G2 H2 e2 w2 k2 => ?_⟩
      obtain ⟨ds', e0', hk⟩ := getO_inv hk
      rw [e0] at e0'; cases e0'
      have e12 := e1.trans e2
      have o' := o.ext e12
      obtain ⟨vs, hv, kv⟩ := o'.at_
      cases k with
      | int ki =>
        simp only [setR] at hk
        cases ej : L2.ixN ds.length ki with
        | none => rw [ej] at hk; exact hk.elim
        | some j =>
          rw [ej] at hk
          have kw : DqAll X.K G2 (vs.set j v) (ds.set j d) := DqAll.set (k1.mono e2.g) j kv
          exact ⟨a, vs, ki, j, rfl, k2.int, hv, by rw [kv.length]; exact ej, q _ hk σ G2 _ e12.g (Wd.mut (w.step w2 e12) o' kw).1 ((r.ext e12).mut e0 es o' kw)⟩
      | _ => exact hk.elim⟩
def augM (i : Nat) (f : List Sl → R D) (h : D → D → R D) : List Sl → R Out := fun ρ => bd (getD ρ i) fun d => bd (f ρ) fun e => bd (h d e) fun z => ok (.nx (ρ.set i (.dat z)))
theorem sAug (i : Nat) {x : Str} {op : Operator} {pos' : Pos} {f : List Sl → R D} {r0 : R2} {h : D → D → R D} (ho : OpR X (inplaceOp op) r0) (hb : Bop X.K r0 h) (hN : X.N.Nodup) (he : PE X e (tB X.K f)) (hi : X.N[i]? = some x := by rfl) (hx : Loc X.env.scope x := by first | exact Or.inl rfl | exact Or.inr rfl)
    (hf : X.fn x = true ∨ X.env.scope.names.lookup x = some .local := by first | exact .inl rfl | exact .inr rfl) : PS X (.AugAssign (.Name x pos') op e pos) (tS X.K (augM i f h)) :=
  PS.wk (ps_aug hN hi hx he (fun pins s σ H x y v u Q I rx ry q => ho pins s σ H x y v u Q I rx ry q) hf) fun D σ H ⟨c, G, ρ, post, w, r, hg, q⟩ => by
    obtain ⟨d, e0, hg⟩ := getD_inv hg
    rcases r.at_ i _ e0 with z | ⟨u, es, k⟩
    · cases z
    · refine ⟨u, es, c, G, ρ, _, w, r, hg, fun y hy v G1 H1 e1 w1 b1 => ?_⟩
      refine hb c G1 H1 u v d y _ _ w1 (.inl (k.mono e1.g)) b1 hy fun z hz z' G2 H2 e2 w2 k2 => ?_
      have e12 := e1.trans e2
      exact q _ hz _ G2 H2 e12.g (w.step w2 e12) ((r.ext e12).setD k2)
theorem bop_mulI : Bop X.K (rI CMul fun i j => .int (i * j)) (fun d e => match d, e with | .int i, .int j => bd (req (CMul i j)) fun _ => ok (.int (i * j)) | _, _ => fail) := by
  intro c G H x y d e post Q w b1 b2 hp q
  cases d <;> cases e <;> try exact hp.elim
  exact ⟨_, _, b1.int, b2.int, hp.1, q _ hp.2 _ G H .refl w (.int _)⟩
def addIR : D → D → R D
  | .int i, .int j => ok (.int (i + j))
  | _, _ => fail
theorem bop_addI : Bop X.K (rI0 fun i j => .int (i + j)) addIR := by
  intro c G H x y d e post Q w b1 b2 hp q
  cases d <;> cases e <;> try exact hp.elim
  exact ⟨_, _, b1.int, b2.int, q _ hp _ G H .refl w (.int _)⟩
/-! ### while -/
def lpO (k : List Sl → R Out) : Out → R Out
  | .nx ρ => k ρ
  | .ct ρ => k ρ
  | .bk ρ => ok (.nx ρ)
  | .rt d => ok (.rt d)
@[simp] theorem lpO_nx (k : List Sl → R Out) (ρ : List Sl) : lpO k (.nx ρ) = k ρ := (rfl)
@[simp] theorem lpO_ct (k : List Sl → R Out) (ρ : List Sl) : lpO k (.ct ρ) = k ρ := (rfl)
@[simp] theorem lpO_bk (k : List Sl → R Out) (ρ : List Sl) : lpO k (.bk ρ) = ok (.nx ρ) := (rfl)
@[simp] theorem lpO_rt (k : List Sl → R Out) (d : D) : lpO k (.rt d) = ok (.rt d) := (rfl)
def whileF (t : List Sl → R Bool) (g : List Sl → R Out) : Nat → List Sl → R Out
  | 0, _ => fail
  | n + 1, ρ => bd (t ρ) fun b => if b = true then bd (g ρ) (lpO (whileF t g n)) else ok (.nx ρ)
def whileM (t : List Sl → R Bool) (g : List Sl → R Out) : List Sl → R Out := fun ρ post => ∃ n, whileF t g n ρ post
theorem sWhile {t : List Sl → R Bool} {g : List Sl → R Out} {cnd : Expr} {body : List Stmt} (hp : PassesOwn (model X.prog X.w) X.A X.env X.xe) (hc : PT X cnd (tT X.K t)) (hb : PSs X body (tS X.K g)) : PS X (.While cnd body [] pos) (tS X.K (whileM t g)) :=
  PS.wk (ps_while hp hc hb) fun D σ H ⟨c, G, ρ, post, w, r, ⟨n, hg⟩, q⟩ => by
    refine ⟨fun m σ H => ∃ G' ρ', Le G G' ∧ Wd c G' H ∧ RS X.K c G' H σ ρ' ∧ whileF t g m ρ' post, ⟨n, G, ρ, fun _ _ e => e, w, r, hg⟩, fun m σ H ⟨G1, ρ1, l1, w1, r1, h1⟩ => ?_⟩
    cases m with
    | zero => exact h1.elim
    | succ m =>
      refine ⟨c, G1, ρ1, _, w1, r1, h1, fun b hb G2 H2 e2 w2 => ?_⟩
      have l2 : Le G G2 := fun a o e => e2.g a o (l1 a o e)
      cases b with
      | false => exact q _ hb σ G2 H2 l2 (w1.step w2 e2) (r1.ext e2)
      | true =>
        refine ⟨fun σ' H' => ∃ G' ρ', Le G G' ∧ Wd c G' H' ∧ RS X.K c G' H' σ' ρ' ∧ whileF t g m ρ' post, fun σ' H' h => ⟨m, Nat.lt_succ_self m, h⟩, c, G2, ρ1, _, w1.step w2 e2, r1.ext e2, hb, fun o ho => ?_⟩
        cases o with
        | nx ρ' => exact fun σ' G' H' l w' r' => ⟨G', ρ', fun a o e => l a o (l2 a o e), w', r', ho⟩
        | ct ρ' => exact fun σ' G' H' l w' r' => ⟨G', ρ', fun a o e => l a o (l2 a o e), w', r', ho⟩
        | bk ρ' => exact fun σ' G' H' l w' r' => q _ ho σ' G' H' (fun a o e => l a o (l2 a o e)) w' r'
        | rt d => exact fun v G' H' l w' k => q _ ho v G' H' (fun a o e => l a o (l2 a o e)) w' k
/-! ### what is walked -/
/-- the iterator's items are data, as long as the state is related to that where it began -/
def Wks (K : PySem.W.Frag) (c : Ct) (J : It) (Rel : Hp → Hp → Prop) (ds : List D) : Prop := ∀ i G H, Rel G H → W0 c.E G H →
  (∀ d, ds[i]? = some d → J.go i H ∧ ∀ x H1, J.yld i H x H1 → ∃ G1, Ext c.E G H G1 H1 ∧ W0 c.E G1 H1 ∧ Dq K G1 x d) ∧ (ds.length ≤ i → J.stop i H)
/-- .. for a statement's loop: the frozen part grows -/
def tIs (K : PySem.W.Frag) (f : List Sl → R (List D)) : TI := fun σ H R' => ∃ (c : Ct) (G : Hp) (ρ : List Sl) (post : List D → Prop), Wd c G H ∧ RS K c G H σ ρ ∧ f ρ post ∧
  ∀ ds, post ds → ds.length ≤ sizeLine → ∀ J G' H', Ext c.E G H G' H' → W0 c.E G' H' → Wks K c J (fun G2 _ => Le G' G2) ds → R' J H'
/-- .. for a comprehension's -/
def tIw (K : PySem.W.Frag) (f : List Sl → R (List D)) : TI := fun σ H R' => ∃ (c : Ct) (G : Hp) (ρ : List Sl) (post : List D → Prop), Wd c G H ∧ RS K c G H σ ρ ∧ f ρ post ∧
  ∀ ds, post ds → ds.length ≤ sizeLine → ∀ J G' H', Ext c.E G H G' H' → W0 c.E G' H' → Wks K c J (fun G2 H2 => Ext c.E G' H' G2 H2) ds → R' J H'
theorem PI.wk {tg iter : Expr} {t t' : TI} (h : PI X tg iter t) (w : ∀ σ H R, t' σ H R → t σ H R) : PI X tg iter t' := ⟨fun pins s σ H R I q => h.run pins s σ H R I (w σ H R q)⟩
theorem iW {tg iter : Expr} {f : List Sl → R (List D)} (h : PI X tg iter (tIs X.K f)) : PI X tg iter (tIw X.K f) := PI.wk h fun σ H R' ⟨c, G, ρ, post, w, r, hf, q⟩ =>
  ⟨c, G, ρ, post, w, r, hf, fun ds hds hl J G' H' e' w' k => q ds hds hl J G' H' e' w' fun i G2 H2 l w2 => k i G2 H2 l.g w2⟩
/-! ### for -/
def forF (g : D → List Sl → R (List Sl)) (tb : List Sl → R Out) : List D → List Sl → R Out
  | [], ρ => ok (.nx ρ)
  | d :: ds, ρ => bd (g d ρ) fun ρ1 => bd (tb ρ1) (lpO (forF g tb ds))
def forM (fi : List Sl → R (List D)) (g : D → List Sl → R (List Sl)) (tb : List Sl → R Out) : List Sl → R Out := fun ρ => bd (fi ρ) fun ds => forF g tb ds ρ
theorem sFor {js : List Nat} {tg iter : Expr} {body : List Stmt} {fi : List Sl → R (List D)} {g : D → List Sl → R (List Sl)} {tb : List Sl → R Out} (hp : PassesOwn (model X.prog X.w) X.A X.env X.xe) (hi : PI X tg iter (tIs X.K fi)) (hg : PG X tg (tG X.K js g)) (hb : PSs X body (tS X.K tb)) (hc : X.calm = true := by rfl)
    (hs : ∀ x, foldedSetIterable iter X.env x = pure x := by intro _; rfl) : PS X (.For tg iter body [] pos) (tS X.K (forM fi g tb)) :=
  PS.wk (ps_for hp hc hi hg hb hs) fun D σ H ⟨c, G, ρ, post, w, r, hf, q⟩ => ⟨c, G, ρ, _, w, r, hf, fun ds hds hl J G1 H1 e1 w1 wk => by
    refine ⟨fun i m σ H => i + m = ds.length ∧ ∃ G' ρ', Le G1 G' ∧ Wd c G' H ∧ RS X.K c G' H σ ρ' ∧ forF g tb (ds.drop i) ρ' post, ⟨ds.length, by omega, G1, ρ, fun _ _ e => e, w.step w1 e1, r.ext e1, hds⟩, fun i m σ H ⟨him, G2, ρ2, l2, w2, r2, h2⟩ => ?_⟩
    obtain ⟨go, stop⟩ := wk i G2 H l2 w2.w
    have l02 : Le G G2 := fun a o e => l2 a o (e1.g a o e)
    cases hd : ds[i]? with
    | none =>
      have hle : ds.length ≤ i := List.getElem?_eq_none_iff.mp hd
      rw [List.drop_eq_nil_of_le hle] at h2
      exact .inl ⟨stop hle, q _ h2 σ G2 H l02 w2 r2⟩
    | some d =>
      obtain ⟨hlt, hget⟩ := List.getElem?_eq_some_iff.mp hd
      obtain ⟨g1, y1⟩ := go d hd
      rw [List.drop_eq_getElem_cons hlt, hget] at h2
      refine .inr ⟨g1, fun σ' H' => ∃ G' ρ', Le G1 G' ∧ Wd c G' H' ∧ RS X.K c G' H' σ' ρ' ∧ forF g tb (ds.drop (i + 1)) ρ' post, fun σ' H' h => ⟨m - 1, by omega, by omega, h⟩, fun x H3 hy => ?_⟩
      obtain ⟨G3, e3, w3, k3⟩ := y1 x H3 hy
      have l03 : Le G G3 := fun a o e => e3.g a o (l02 a o e)
      have l13 : Le G1 G3 := fun a o e => e3.g a o (l2 a o e)
      refine ⟨c, G3, ρ2, d, _, w2.step w3 e3, r2.ext e3, k3, h2, fun ρ4 h4 σ4 r4 _ => ?_⟩
      refine ⟨c, G3, ρ4, _, w2.step w3 e3, r4, h4, fun o ho => ?_⟩
      cases o with
      | nx ρ' => exact fun σ' G' H' l w' r' => ⟨G', ρ', fun a o e => l a o (l13 a o e), w', r', ho⟩
      | ct ρ' => exact fun σ' G' H' l w' r' => ⟨G', ρ', fun a o e => l a o (l13 a o e), w', r', ho⟩
      | bk ρ' => exact fun σ' G' H' l w' r' => q _ ho σ' G' H' (fun a o e => l a o (l03 a o e)) w' r'
      | rt d => exact fun v G' H' l w' k => q _ ho v G' H' (fun a o e => l a o (l03 a o e)) w' k⟩
end
end Pu

namespace Pu
open PySem PySem.Spec PyProof.Rows L2
section
variable {X : Cx} {e a b : Expr} {es : List Expr} {pos : Pos} {st : Stmt} {rest sts : List Stmt} {tg iter elt : Expr}
/-! ### lists, tuples, texts walked -/
def itemsR : D → R (List D)
  | .list xs => ok xs
  | .tuple xs => ok xs
  | .str z => ok (z.cps.toList.map fun c => .str ⟨#[c]⟩)
  | _ => fail
/-- the three ways to begin a walk -/
theorem iter_any {pins : List (Addr × Obj)} {s1 : Shared} {σ : L2.St} {H1 : Hp} {R' : It → Hp → Prop} {v : Value} {x : V} (I1 : Inv X pins σ H1 s1) (r1 : RelV x v)
    (q : (∃ a xs, x = .ref a ∧ SqL X.K H1 a xs ∧ (xs.length ≤ sizeLine → R' (Itl X.K a) H1)) ∨ (∃ a xs, x = .ref a ∧ SqT X.K H1 a xs ∧ (xs.length ≤ sizeLine → R' (Itt X.K a) H1)) ∨ ∃ z, x = .str z ∧ R' (Its z) H1) :
    wpAny (model X.prog X.w) X.A (pyIter v) (PIE X pins σ tg R') X.xe s1 := by
  rcases q with ⟨a, xs, rfl, hq, q⟩ | ⟨a, xs, rfl, hq, q⟩ | ⟨z, rfl, q⟩
  · cases r1
    obtain ⟨its, rv, p, hz⟩ := I1.list hq
    refine wpAny_pyIter_list p.isList ?_
    refine ⟨s1.heap.objs.size, [s1.heap.objs.size], _, _, H1, rfl, I1.kept (t' := s1.toks) fun b o e => Heap.get?_push_of_some _ e, turn_list a _, ⟨_, Heap.get?_push_size _ rfl, rfl, rfl⟩, fun b hb => ?_, q hz⟩
    have e : b = s1.heap.objs.size := by simpa using hb
    subst e
    exact I1.fpOk (Nat.le_refl _) (I1.hok.fresh (Nat.le_refl _))
  · cases r1
    obtain ⟨its, rv, p, hz⟩ := I1.tuple hq
    refine wpAny_pyIter_tuple (show s1.heap.IsTuple a its.toArray from p) ?_
    refine ⟨s1.heap.objs.size, [s1.heap.objs.size], _, _, H1, rfl, I1.kept (t' := s1.toks) fun b o e => Heap.get?_push_of_some _ e, turn_tuple a _, ⟨_, Heap.get?_push_size _ rfl, rfl, rfl⟩, fun b hb => ?_, q hz⟩
    have e : b = s1.heap.objs.size := by simpa using hb
    subst e
    exact I1.fpOk (Nat.le_refl _) (I1.hok.fresh (Nat.le_refl _))
  · obtain ⟨t, rfl⟩ := r1
    cases ha : z.cps.all (· < 128)
    · exact wpAny_pyIter_wide ha (pi_one (tk := s1.toks) I1 _ (turn_str _ z t "str_iterator" (.inr rfl)) ⟨_, Heap.get?_push_size _ rfl, rfl, rfl⟩ q)
    · exact wpAny_pyIter_ascii ha (pi_one (tk := s1.toks) I1 _ (turn_str _ z t "str_ascii_iterator" (.inl rfl)) ⟨_, Heap.get?_push_size _ rfl, rfl, rfl⟩ q)
theorem itl_get {K : PySem.W.Frag} {H : Hp} {a : Addr} {vs : List V} {i : Nat} {v x : V} {H1 : Hp} (h : SqL K H a vs) (e : vs[i]? = some v) (y : (Itl K a).yld i H x H1) : H1 = H ∧ x = v := by
  obtain ⟨rfl, f⟩ := y
  exact ⟨rfl, Option.some.inj ((f _ h).symm.trans e)⟩
theorem itt_get {K : PySem.W.Frag} {H : Hp} {a : Addr} {vs : List V} {i : Nat} {v x : V} {H1 : Hp} (h : SqT K H a vs) (e : vs[i]? = some v) (y : (Itt K a).yld i H x H1) : H1 = H ∧ x = v := by
  obtain ⟨rfl, f⟩ := y
  exact ⟨rfl, Option.some.inj ((f _ h).symm.trans e)⟩
theorem wks_list {K : PySem.W.Frag} {c : Ct} {a : Addr} {vs : List V} {ds : List D} {Rel : Hp → Hp → Prop} (h : ∀ G H, Rel G H → W0 c.E G H → H a = some (.lst vs) ∧ DqAll K G vs ds) : Wks K c (Itl K a) Rel ds := by
  intro i G H r w
  obtain ⟨h1, k⟩ := h G H r w
  refine ⟨fun d hd => ?_, fun hl => ⟨vs, .of h1, by rw [k.length]; exact hl⟩⟩
  obtain ⟨v, e, kv⟩ := k.get hd
  refine ⟨⟨vs, v, .of h1, e⟩, fun x H1 y => ?_⟩
  obtain ⟨rfl, rfl⟩ := itl_get (.of h1) e y
  exact ⟨G, .refl, w, kv⟩
theorem wks_tup {K : PySem.W.Frag} {c : Ct} {a : Addr} {vs : List V} {ds : List D} {Rel : Hp → Hp → Prop} (h : ∀ G H, Rel G H → W0 c.E G H → SqT K H a vs ∧ DqAll K G vs ds) : Wks K c (Itt K a) Rel ds := by
  intro i G H r w
  obtain ⟨h1, k⟩ := h G H r w
  refine ⟨fun d hd => ?_, fun hl => ⟨vs, h1, by rw [k.length]; exact hl⟩⟩
  obtain ⟨v, e, kv⟩ := k.get hd
  refine ⟨⟨vs, v, h1, e⟩, fun x H1 y => ?_⟩
  obtain ⟨rfl, rfl⟩ := itt_get h1 e y
  exact ⟨G, .refl, w, kv⟩
theorem wks_str {K : PySem.W.Frag} {c : Ct} {z : Str} {Rel : Hp → Hp → Prop} : Wks K c (Its z) Rel (z.cps.toList.map fun c => .str ⟨#[c]⟩) := by
  intro i G H r w
  refine ⟨fun d hd => ?_, fun hl => by show z.cps.size ≤ i; simpa using hl⟩
  rw [List.getElem?_map] at hd
  cases e : z.cps.toList[i]? with
  | none => rw [e] at hd; cases hd
  | some cc =>
    rw [e] at hd; cases hd
    have e' : z.cps[i]? = some cc := by simpa using e
    have hlt : i < z.cps.size := (Array.getElem?_eq_some_iff.mp e').1
    refine ⟨hlt, fun x H1 y => ?_⟩
    obtain ⟨rfl, c2, h2, rfl⟩ := y
    rw [e'] at h2; cases h2
    exact ⟨G, .refl, w, .str _⟩
/-- the length of a text that is walked: no list is made of it -/
theorem iS {f : List Sl → R D} (h : PE X iter (tP X.K f)) : PI X tg iter (tIs X.K fun ρ => bd (f ρ) fun d => bd (itemsR d) fun ds => bd (req (ds.length ≤ sizeLine ∨ ∀ z, d ≠ .str z)) fun _ => ok ds) := by
  refine ⟨fun pins s σ H R' I ⟨c, G, ρ, post, w, r, hf, q⟩ => ?_⟩
  refine thn (h.run pins s σ H (fun v H' => ∃ d G', (bd (itemsR d) fun ds => bd (req (ds.length ≤ sizeLine ∨ ∀ z, d ≠ .str z)) fun _ => ok ds) post ∧ Ext c.E G H G' H' ∧ W0 c.E G' H' ∧ Dq X.K G' v d) I ⟨c, G, ρ, _, w, r, hf, fun d hd v G' H' e' w' k => ⟨d, G', hd, e', w', k⟩⟩) fun v s1 ⟨x, H1, I1, r1, d, G1, hd, e1, w1, k⟩ => ?_
  refine iter_any I1 r1 ?_
  cases k with
  | @lst a vs ds e kv =>
    have hd' : post ds := hd.2
    exact .inl ⟨a, vs, rfl, .of (w1.sub _ _ e), fun hz => q ds hd' (by rw [← kv.length]; exact hz) _ G1 H1 e1 w1 (wks_list fun G2 H2 l w2 => ⟨w2.sub _ _ (l _ _ e), kv.mono l⟩)⟩
  | @tup a vs ds e kv =>
    have hd' : post ds := hd.2
    exact .inr (.inl ⟨a, vs, rfl, sqT_mono w1.sub e, fun hz => q ds hd' (by rw [← kv.length]; exact hz) _ G1 H1 e1 w1 (wks_tup fun G2 H2 l w2 => ⟨sqT_mono w2.sub (sqT_mono l e), kv.mono l⟩)⟩)
  | str z =>
    obtain ⟨hz, hp⟩ := hd
    rcases hz with hz | hz
    · exact .inr (.inr ⟨z, rfl, q _ hp hz _ G1 H1 e1 w1 wks_str⟩)
    · exact absurd rfl (hz z)
  | _ => exact hd.elim
/-- .. looked at only, for a comprehension -/
theorem iB {f : List Sl → R D} (h : PE X iter (tB X.K f)) : PI X tg iter (tIw X.K fun ρ => bd (f ρ) fun d => bd (itemsR d) fun ds => bd (req (ds.length ≤ sizeLine ∨ ∀ z, d ≠ .str z)) fun _ => ok ds) := by
  refine ⟨fun pins s σ H R' I ⟨c, G, ρ, post, w, r, hf, q⟩ => ?_⟩
  refine thn (h.run pins s σ H (fun v H' => ∃ d G', (bd (itemsR d) fun ds => bd (req (ds.length ≤ sizeLine ∨ ∀ z, d ≠ .str z)) fun _ => ok ds) post ∧ Ext c.E G H G' H' ∧ W0 c.E G' H' ∧ Bv X.K c G' H' v d) I ⟨c, G, ρ, _, w, r, hf, fun d hd v G' H' e' w' k => ⟨d, G', hd, e', w', k⟩⟩) fun v s1 ⟨x, H1, I1, r1, d, G1, hd, e1, w1, k⟩ => ?_
  refine iter_any I1 r1 ?_
  cases d with
  | list ds =>
    obtain ⟨a, vs, rfl, h1, kv, nv⟩ := k.lst w1
    exact .inl ⟨a, vs, rfl, .of h1, fun hz => q ds hd.2 (by rw [← kv.length]; exact hz) _ G1 H1 e1 w1 (wks_list fun G2 H2 l w2 => ⟨l.h _ _ h1 nv, kv.mono l.g⟩)⟩
  | tuple ds =>
    obtain ⟨a, vs, rfl, h1, kv⟩ := k.tup
    exact .inr (.inl ⟨a, vs, rfl, sqT_mono w1.sub h1, fun hz => q ds hd.2 (by rw [← kv.length]; exact hz) _ G1 H1 e1 w1 (wks_tup fun G2 H2 l w2 => ⟨sqT_mono w2.sub (sqT_mono l.g h1), kv.mono l.g⟩)⟩)
  | str z =>
    obtain ⟨hz, hp⟩ := hd
    rcases hz with hz | hz
    · exact .inr (.inr ⟨z, k.str, q _ hp hz _ G1 H1 e1 w1 wks_str⟩)
    · exact absurd rfl (hz z)
  | _ => exact hd.elim
/-! ### ranges -/
def rngD (lo hi : Int) : List D := (List.range (hi - lo).toNat).map fun (i : Nat) => .int (lo + (i : Int))
theorem rngD_length (lo hi : Int) : (rngD lo hi).length = (hi - lo).toNat := by simp [rngD]
def rgOk (lo hi : Int) : Prop := -(2 ^ 62) ≤ lo ∧ lo < 2 ^ 62 ∧ -(2 ^ 62) ≤ hi ∧ hi < 2 ^ 62 ∧ (hi - lo).toNat ≤ sizeLine
def range1R : List D → R (List D)
  | [.int j] => bd (req (rgOk 0 j)) fun _ => ok (rngD 0 j)
  | _ => fail
def range2R : List D → R (List D)
  | [.int i, .int j] => bd (req (rgOk i j)) fun _ => ok (rngD i j)
  | _ => fail
theorem wks_rng {K : PySem.W.Frag} {c : Ct} {lo hi : Int} {Rel : Hp → Hp → Prop} : Wks K c (Itr lo (hi - lo).toNat) Rel (rngD lo hi) := by
  intro i G H r w
  refine ⟨fun d hd => ?_, fun hl => by rw [rngD_length] at hl; exact hl⟩
  have hlt : i < (hi - lo).toNat := by rw [← rngD_length lo hi]; exact (List.getElem?_eq_some_iff.mp hd).1
  have ed : d = .int (lo + (i : Int)) := by
    unfold rngD at hd
    rw [List.getElem?_map, List.getElem?_range hlt] at hd
    exact (Option.some.inj hd).symm
  subst ed
  refine ⟨hlt, fun x H1 ⟨h1, h2⟩ => ?_⟩
  subst h1 h2
  exact ⟨G, .refl, w, .int _⟩
theorem iR1 {p : Pos} {f : List Sl → R (List D)} (hm : X.mg "range" = none) (ha : PA X [a] (tAB X.K f)) (hg : Gl X "range" := by rfl) (hs : starEach [a] X.env = [(false, eval a X.env)] := by rfl) : PI X tg (.Call (.Name "range" p) [a] [] pos) (tIs X.K (m1 f range1R)) :=
  PI.wk (pi_range1 hg hm ha hs) fun σ H R' ⟨c, G, ρ, post, w, r, hf, q⟩ => ⟨c, G, ρ, _, w, r, hf, fun ds hds vs G1 H1 e1 w1 b1 => by
    match ds, b1, hds with
    | [.int j], b1, hds =>
      obtain ⟨v, rfl, b⟩ := b1.one
      rw [b.int]
      obtain ⟨h, hp⟩ := hds
      refine ⟨j, rfl, h.2.2.1, h.2.2.2.1, ?_⟩
      have e0 : j.toNat = (j - 0).toNat := by omega
      rw [e0]
      exact q _ hp (by rw [rngD_length]; exact h.2.2.2.2) _ G1 H1 e1 w1 wks_rng⟩
theorem iR2 {p : Pos} {f : List Sl → R (List D)} (hm : X.mg "range" = none) (ha : PA X [a, b] (tAB X.K f)) (hg : Gl X "range" := by rfl) (hs : starEach [a, b] X.env = [(false, eval a X.env), (false, eval b X.env)] := by rfl) (hs2 : starEach [b] X.env = [(false, eval b X.env)] := by rfl) : PI X tg (.Call (.Name "range" p) [a, b] [] pos) (tIs X.K (m1 f range2R)) :=
  PI.wk (pi_range2 hg hm ha hs hs2) fun σ H R' ⟨c, G, ρ, post, w, r, hf, q⟩ => ⟨c, G, ρ, _, w, r, hf, fun ds hds vs G1 H1 e1 w1 b1 => by
    match ds, b1, hds with
    | [.int i, .int j], b1, hds =>
      obtain ⟨v, u, rfl, b, b'⟩ := b1.two
      rw [b.int, b'.int]
      obtain ⟨h, hp⟩ := hds
      exact ⟨i, j, rfl, ⟨h.1, h.2.1, h.2.2.1, h.2.2.2.1⟩, q _ hp (by rw [rngD_length]; exact h.2.2.2.2) _ G1 H1 e1 w1 wks_rng⟩⟩
/-! ### comprehensions -/
theorem wipe_eq {σ σ' : L2.St} {vs : List Nat} (hl : σ'.length = σ.length) (h : ∀ j, j ∉ vs → σ'[j]? = σ[j]?) : L2.wipe σ' vs = L2.wipe σ vs := by
  have key : ∀ (τ : L2.St) (vs : List Nat) (j : Nat), (L2.wipe τ vs)[j]? = if j ∈ vs then (if j < τ.length then some none else none) else τ[j]? := by
    intro τ vs
    induction vs with
    | nil => intro j; simp [L2.wipe]
    | cons v r ih =>
      intro j
      show ((L2.wipe τ r).set v none)[j]? = _
      by_cases hj : j = v
      · subst hj
        by_cases hlt : j < τ.length
        · rw [List.getElem?_set_self (by rw [wipe_length]; exact hlt)]; simp [hlt]
        · have : ((L2.wipe τ r).set j none)[j]? = none := List.getElem?_eq_none_iff.mpr (by simp [wipe_length]; omega)
          rw [this]; simp [hlt]
      · rw [List.getElem?_set_ne (Ne.symm hj), ih j]; simp [hj]
  apply List.ext_getElem?
  intro j
  rw [key, key]
  by_cases hj : j ∈ vs
  · simp [hj, hl]
  · simp [hj, h j hj]
theorem wipe_wipe (σ : L2.St) (vs : List Nat) : L2.wipe (L2.wipe σ vs) vs = L2.wipe σ vs := wipe_eq (wipe_length _ _) fun j hj => wipe_out hj
def lcF (g : D → List Sl → R (List Sl)) (tt : List Sl → R Bool) (te : List Sl → R D) : List D → List Sl → R (List D)
  | [], _ => ok []
  | d :: ds, ρ => bd (g d ρ) fun ρ1 => bd (tt ρ1) fun b => if b = true then bd (te ρ1) fun y => bd (lcF g tt te ds ρ) fun ys => ok (y :: ys) else lcF g tt te ds ρ
def lcM (vs : List Nat) (fi : List Sl → R (List D)) (g : D → List Sl → R (List Sl)) (tt : List Sl → R Bool) (te : List Sl → R D) : List Sl → R (List D) := fun ρ => bd (fi ρ) fun ds => lcF g tt te ds (wipeS ρ vs)
def yesT : List Sl → R Bool := fun _ => ok true
theorem PTs.wk {ifs : List Expr} {t t' : TT} (h : PTs X ifs t) (w : ∀ σ H Q, t' σ H Q → t σ H Q) : PTs X ifs t' := ⟨fun pins s σ H Q I q => h.run pins s σ H Q I (w σ H Q q)⟩
theorem tN : PTs X [] (tT X.K yesT) := PTs.wk pts_nil fun σ H Q ⟨c, G, ρ, post, w, r, hf, q⟩ => q true hf G H .refl w.w
theorem tO1 {f : List Sl → R Bool} (h : PT X a (tT X.K f)) : PTs X [a] (tT X.K f) := pts_one h
theorem lc_of {K : PySem.W.Frag} {vs js : List Nat} {fi : List Sl → R (List D)} {g : D → List Sl → R (List Sl)} {tt : List Sl → R Bool} {te : List Sl → R D} (hjs : ∀ j ∈ js, j ∈ vs) {σ : L2.St} {H : Hp} {Q : VK}
    (q : tF K (lcM vs fi g tt te) σ H Q) : tLc (tIw K fi) (tG K js g) (tT K tt) (tP K te) vs σ H Q := by
  obtain ⟨c, G, ρ, post, w, r, hf, q⟩ := q
  refine ⟨c, G, ρ, _, w, r, hf, fun ds hds hl J G1 H1 e1 w1 wk D0 hD => ?_⟩
  have wd1 := w.step w1 e1
  obtain ⟨wn, en, on⟩ := wd1.newO (K := K) (G0 := G) (H0 := H) (p := D0) hD (vs := []) (ds := []) .nil
  have nv : ¬ c.E.vol D0 := (w1.fresh hD).2
  have nD : H D0 = none := e1.none hD nv
  refine ⟨fun i m H' => i + m = ds.length ∧ ∃ G' accd acc, Ext c.E G1 (upd H1 D0 (.lst [])) G' (upd H' D0 (.lst [])) ∧ W0 c.E G' H' ∧ H' D0 = some (.lst acc) ∧ G' D0 = none ∧ DqAll K G' acc accd ∧ accd.length ≤ i ∧ lcF g tt te (ds.drop i) (wipeS ρ vs) (fun ys => post (accd ++ ys)),
    ⟨ds.length, by omega, G1, [], [], by rw [upd_upd]; exact .refl, wn, upd_same, (w1.fresh hD).1, .nil, Nat.le_refl _, by simpa using hds⟩, fun i m H' ⟨him, G', accd, acc, ex, w', hacc, gD, kacc, hlen, hlc⟩ => ?_⟩
  -- the state now, seen from the beginning
  have ext1 : Ext c.E G1 H1 G' H' := by
    refine ⟨ex.g, fun p o hp v => ?_, fun p o hp v g0 => ?_⟩
    · have hne : p ≠ D0 := ne_of_none hp hD
      have := ex.h p o (by rw [upd_ne hne]; exact hp) v
      rw [upd_ne hne] at this; exact this
    · have hne : p ≠ D0 := ne_of_none hp hD
      exact ex.n p o (by rw [upd_ne hne]; exact hp) v g0
  have extO : Ext c.E G H G' H' := e1.trans ext1
  have wd' : Wd c G' H' := w.step w' extO
  obtain ⟨go, stop⟩ := wk i G' H' ext1 w'
  cases hd : ds[i]? with
  | none =>
    have hle : ds.length ≤ i := List.getElem?_eq_none_iff.mp hd
    rw [List.drop_eq_nil_of_le hle] at hlc
    have hp : post accd := by have : post (accd ++ []) := hlc; rwa [List.append_nil] at this
    refine .inl ⟨stop hle, q accd hp D0 G' H' nD extO w' ⟨⟨acc, hacc, kacc⟩, gD, ?_, nv⟩⟩
    exact on.h0
  | some d =>
    obtain ⟨hlt, hget⟩ := List.getElem?_eq_some_iff.mp hd
    obtain ⟨g1, y1⟩ := go d hd
    rw [List.drop_eq_getElem_cons hlt, hget] at hlc
    refine .inr ⟨g1, fun H'' => ∃ G'' accd' acc', Ext c.E G1 (upd H1 D0 (.lst [])) G'' (upd H'' D0 (.lst [])) ∧ W0 c.E G'' H'' ∧ H'' D0 = some (.lst acc') ∧ G'' D0 = none ∧ DqAll K G'' acc' accd' ∧ accd'.length ≤ i + 1 ∧ lcF g tt te (ds.drop (i + 1)) (wipeS ρ vs) (fun ys => post (accd' ++ ys)),
      fun H'' h => ⟨m - 1, by omega, by omega, h⟩, fun x H3 hy => ?_⟩
    obtain ⟨G3, e3, w3, k3⟩ := y1 x H3 hy
    have wd3 := wd'.step w3 e3
    have rw3 : RS K c G3 H3 (L2.wipe σ vs) (wipeS ρ vs) := ((r.ext extO).ext e3).wipe vs
    refine ⟨c, G3, wipeS ρ vs, d, _, wd3, rw3, k3, hlc, fun ρ4 h4 σ4 r4 t4 => ?_⟩
    have hwipe : L2.wipe σ4 vs = L2.wipe σ vs := by
      rw [← wipe_wipe σ vs]
      exact wipe_eq t4.1 fun j hj => t4.2 j fun z => hj (hjs j z)
    refine ⟨hwipe, c, G3, ρ4, _, wd3, r4, h4, fun b hb G5 H5 e5 w5 => ?_⟩
    -- what the accumulator is behind some steps
    have later : ∀ G6 H6, Ext c.E G' H' G6 H6 → W0 c.E G6 H6 → H6 D0 = some (.lst acc) ∧ G6 D0 = none ∧ DqAll K G6 acc accd ∧ Ext c.E G1 (upd H1 D0 (.lst [])) G6 (upd H6 D0 (.lst [])) := fun G6 H6 e6 w6 => by
      refine ⟨e6.h _ _ hacc nv, e6.n _ _ hacc nv gD, kacc.mono e6.g, ex.trans ⟨e6.g, fun p o hp v => ?_, fun p o hp v g0 => ?_⟩⟩
      · by_cases hpD : p = D0
        · subst hpD; rw [upd_same] at hp ⊢; exact hp
        · rw [upd_ne hpD] at hp ⊢; exact e6.h p o hp v
      · by_cases hpD : p = D0
        · subst hpD; exact e6.n _ _ hacc nv gD
        · rw [upd_ne hpD] at hp; exact e6.n p o hp v g0
    cases b with
    | false =>
      obtain ⟨a1, a2, a3, a4⟩ := later G5 H5 (e3.trans e5) w5
      exact ⟨G5, accd, acc, a4, w5, a1, a2, a3, by omega, hb⟩
    | true =>
      refine ⟨c, G5, ρ4, _, wd3.step w5 e5, r4.ext e5, hb, fun y hy v G6 H6 e6 w6 k6 => ?_⟩
      obtain ⟨a1, a2, a3, a4⟩ := later G6 H6 ((e3.trans e5).trans e6) w6
      refine ⟨acc, a1, by rw [kacc.length]; omega, G6, accd ++ [y], acc ++ [v], by rw [upd_upd]; exact a4, ⟨fun p o hp => ?_, w6.vol, Ef.loc w6.inv fun p vp => ?_⟩, upd_same, a2, a3.append (.cons k6 .nil), by simp; omega, ?_⟩
      · rw [upd_ne (by rintro rfl; rw [a2] at hp; cases hp)]; exact w6.sub p o hp
      · rw [upd_ne (by rintro rfl; exact nv vp)]
      · have : lcF g tt te (ds.drop (i + 1)) (wipeS ρ vs) (fun ys => post (accd ++ (y :: ys))) := hy
        simpa [List.append_assoc] using this
theorem lc {scope : Scope} {own : List (Str × Nat)} {ifs : List Expr} {js : List Nat} {fi : List Sl → R (List D)} {g : D → List Sl → R (List Sl)} {tt : List Sl → R Bool} {te : List Sl → R D} (hN : X.N.Nodup) (okb : blkC X.N X.env.scope scope own = true) (hi : PI X tg iter (tIw X.K fi))
    (hg : ∀ (s : Shared) (H : Hp) (C : Addr) (cl : List (Str × Addr)) (fp : List Addr), PG (X.blk s H scope (compEnvC scope cl C X.env) fp) tg (tG X.K js g)) (ht : ∀ (s : Shared) (H : Hp) (C : Addr) (cl : List (Str × Addr)) (fp : List Addr), PTs (X.blk s H scope (compEnvC scope cl C X.env) fp) ifs (tT X.K tt))
    (he : ∀ (s : Shared) (H : Hp) (C : Addr) (cl : List (Str × Addr)) (fp : List Addr), PE (X.blk s H scope (compEnvC scope cl C X.env) fp) elt (tP X.K te)) (hjs : ∀ j ∈ js, j ∈ own.map (·.2) := by decide) (hc : X.calm = true := by rfl) (hs : ∀ x, foldedSetIterable iter X.env x = pure x := by intro _; rfl) :
    PE X (.ListComp elt [⟨tg, iter, ifs, 0⟩] scope pos) (tF X.K (lcM (own.map (·.2)) fi g tt te)) := PE.wk (pe_lc hc hN hi (blkOk_by okb) hg ht he hs) fun _ _ _ q => lc_of hjs q
/-- y = [..] -/
theorem sLc (i : Nat) {y : Str} {py spos : Pos} {scope : Scope} {own : List (Str × Nat)} {ifs : List Expr} {js : List Nat} {fi : List Sl → R (List D)} {g : D → List Sl → R (List Sl)} {tt : List Sl → R Bool} {te : List Sl → R D} (hN : X.N.Nodup) (okb : blkC X.N X.env.scope scope own = true) (hi : PI X tg iter (tIw X.K fi))
    (hg : ∀ (s : Shared) (H : Hp) (C : Addr) (cl : List (Str × Addr)) (fp : List Addr), PG (X.blk s H scope (compEnvC scope cl C X.env) fp) tg (tG X.K js g)) (ht : ∀ (s : Shared) (H : Hp) (C : Addr) (cl : List (Str × Addr)) (fp : List Addr), PTs (X.blk s H scope (compEnvC scope cl C X.env) fp) ifs (tT X.K tt))
    (he : ∀ (s : Shared) (H : Hp) (C : Addr) (cl : List (Str × Addr)) (fp : List Addr), PE (X.blk s H scope (compEnvC scope cl C X.env) fp) elt (tP X.K te)) (hsw : swapsWith (.ListComp elt [⟨tg, iter, ifs, 0⟩] scope pos) (some (.Name y py)) spos.line X.env = pure true)
    (hy : X.N[i]? = some y := by rfl) (hyl : X.env.scope.names.lookup y = some .local := by rfl) (hjs : ∀ j ∈ js, j ∈ own.map (·.2) := by decide) (hc : X.calm = true := by rfl) (hs : ∀ x, foldedSetIterable iter X.env x = pure x := by intro _; rfl) :
    PS X (.Assign [.Name y py] (.ListComp elt [⟨tg, iter, ifs, 0⟩] scope pos) spos) (tS X.K (setO i (lcM (own.map (·.2)) fi g tt te))) :=
  PS.wk (ps_setLc hc hN hy hyl hsw hi (blkOk_by okb) hg ht he hs) fun D σ H ⟨c, G, ρ, post, w, r, hf, q⟩ => lc_of hjs ⟨c, G, ρ, _, w, r, hf, fun d hd a G' H' n e' w' o => q _ hd _ G' H' e'.g (w.step w' e') ((r.ext e').setO o (r.new n))⟩
/-- .. and frozen at once -/
theorem sLcD (i : Nat) {y : Str} {py spos : Pos} {scope : Scope} {own : List (Str × Nat)} {ifs : List Expr} {js : List Nat} {fi : List Sl → R (List D)} {g : D → List Sl → R (List Sl)} {tt : List Sl → R Bool} {te : List Sl → R D} (hN : X.N.Nodup) (okb : blkC X.N X.env.scope scope own = true) (hi : PI X tg iter (tIw X.K fi))
    (hg : ∀ (s : Shared) (H : Hp) (C : Addr) (cl : List (Str × Addr)) (fp : List Addr), PG (X.blk s H scope (compEnvC scope cl C X.env) fp) tg (tG X.K js g)) (ht : ∀ (s : Shared) (H : Hp) (C : Addr) (cl : List (Str × Addr)) (fp : List Addr), PTs (X.blk s H scope (compEnvC scope cl C X.env) fp) ifs (tT X.K tt))
    (he : ∀ (s : Shared) (H : Hp) (C : Addr) (cl : List (Str × Addr)) (fp : List Addr), PE (X.blk s H scope (compEnvC scope cl C X.env) fp) elt (tP X.K te)) (hsw : swapsWith (.ListComp elt [⟨tg, iter, ifs, 0⟩] scope pos) (some (.Name y py)) spos.line X.env = pure true)
    (hy : X.N[i]? = some y := by rfl) (hyl : X.env.scope.names.lookup y = some .local := by rfl) (hjs : ∀ j ∈ js, j ∈ own.map (·.2) := by decide) (hc : X.calm = true := by rfl) (hs : ∀ x, foldedSetIterable iter X.env x = pure x := by intro _; rfl) :
    PS X (.Assign [.Name y py] (.ListComp elt [⟨tg, iter, ifs, 0⟩] scope pos) spos) (tS X.K (setM i fun ρ => bd (lcM (own.map (·.2)) fi g tt te ρ) fun ds => ok (.list ds))) :=
  PS.wk (ps_setLc hc hN hy hyl hsw hi (blkOk_by okb) hg ht he hs) fun D σ H ⟨c, G, ρ, post, w, r, hf, q⟩ => lc_of hjs ⟨c, G, ρ, _, w, r, hf, fun d hd a G' H' n e' w' o => by
    obtain ⟨G2, w2, l2, k2, ne⟩ := (w.step w' e').freeze o
    refine q _ hd _ G2 H' (fun p u e => l2 p u (e'.g p u e)) w2 (RS.setD ?_ k2)
    have r' := r.ext e'
    refine ⟨r'.len, fun j x h => ?_, r'.dd⟩
    rcases r'.at_ j x h with z | ⟨v, e1, s1⟩
    · exact .inl z
    · refine .inr ⟨v, e1, ?_⟩
      cases x with
      | un => trivial
      | dat d => exact Dq.mono l2 s1
      | box k => exact s1
      | own fs =>
        obtain ⟨b, rfl, ob⟩ := s1
        have hb : b ≠ a := fun z => r.new n j fs h (by rw [← z]; exact e1)
        obtain ⟨vs1, e2, k3⟩ := ob.at_
        exact ⟨b, rfl, ⟨vs1, e2, k3.mono l2⟩, by rw [ne b hb]; exact ob.g, ob.h0, ob.v⟩
      | od fs =>
        obtain ⟨b, rfl, ob⟩ := s1
        have hb : b ≠ a := own_od o ob
        obtain ⟨vs1, e2, k3⟩ := ob.at_
        exact ⟨b, rfl, ⟨vs1, e2, k3.mono l2⟩, by rw [ne b hb]; exact ob.g, ob.h0, ob.v⟩⟩
end
end Pu

namespace Pu
open PySem PySem.Spec PyProof.Rows L2
/-! ### defs: what they compute of data -/
def spR (K : PySem.W.Frag) (n : Nat) (m : List D → R D) : Sp := fun vs H Q _ => ∃ (E : Ef) (G : Hp) (ds : List D) (post : D → Prop), W0 E G H ∧ DqAll K G vs ds ∧ ds.length = n ∧ m ds post ∧
  ∀ r, post r → ∀ v G' H', Ext E G H G' H' → W0 E G' H' → Dq K G' v r → Q v H'
/-- .. of the box, the first argument, and data -/
def spX (K : PySem.W.Frag) (j n : Nat) (m : List D → R D) : Sp := fun vs H Q _ => ∃ (E : Ef) (G : Hp) (bv : V) (vs' : List V) (ds : List D) (post : D → Prop), vs = bv :: vs' ∧ E.box j bv ∧ W0 E G H ∧ DqAll K G vs' ds ∧ ds.length = n ∧ m ds post ∧
  ∀ r, post r → ∀ v G' H', Ext E G H G' H' → W0 E G' H' → Dq K G' v r → Q v H'
def env0 (ds : List D) (n : Nat) : List Sl := ds.map .dat ++ List.replicate (n - ds.length) .un
def endM : Out → R D
  | .rt d => ok d
  | .nx _ => ok .none
  | _ => fail
@[simp] theorem endM_rt (d : D) : endM (.rt d) = ok d := (rfl)
@[simp] theorem endM_nx (ρ : List Sl) : endM (.nx ρ) = ok .none := (rfl)
def fnM (n : Nat) (g : List Sl → R Out) : List D → R D := fun ds => bd (g (env0 ds n)) endM
def fnX (j n : Nat) (g : List Sl → R Out) : List D → R D := fun ds => bd (g (.box j :: env0 ds (n - 1))) endM
theorem rs_start {K : PySem.W.Frag} {c : Ct} {G H : Hp} : ∀ {vs : List V} {ds : List D} (N : Nat), DqAll K G vs ds → RS K c G H (vs.map some ++ List.replicate (N - vs.length) none) (env0 ds N) := by
  intro vs ds N h
  have hl := h.length
  refine ⟨by simp [env0, hl], fun i x hx => ?_, fun i j es fs v h1 h2 k1 => ?_⟩
  · unfold env0 at hx
    by_cases hi : i < ds.length
    · rw [List.getElem?_append_left (by simpa using hi), List.getElem?_map] at hx
      cases e : ds[i]? with
      | none => rw [e] at hx; cases hx
      | some d =>
        rw [e] at hx; cases hx
        obtain ⟨v, e1, k⟩ := h.get e
        refine .inr ⟨v, ?_, k⟩
        rw [List.getElem?_append_left (by simpa [hl] using hi), List.getElem?_map, e1]; rfl
    · rw [List.getElem?_append_right (by simpa using hi)] at hx
      rw [List.getElem?_replicate] at hx
      split at hx
      · cases hx; exact .inl rfl
      · cases hx
  · unfold env0 at h1
    by_cases hi : i < ds.length
    · rw [List.getElem?_append_left (by simpa using hi), List.getElem?_map] at h1
      cases e : ds[i]? with
      | none => rw [e] at h1; cases h1
      | some d => rw [e] at h1; cases h1; cases k1
    · rw [List.getElem?_append_right (by simpa using hi), List.getElem?_replicate] at h1
      split at h1
      · cases h1; cases k1
      · cases h1
theorem rs_cons {K : PySem.W.Frag} {c : Ct} {G H : Hp} {σ : L2.St} {ρ : List Sl} {v : V} {j : Nat} (r : RS K c G H σ ρ) (b : c.E.box j v) : RS K c G H (some v :: σ) (.box j :: ρ) := by
  refine ⟨by simp [r.len], fun i x h => ?_, fun i l ds es u h1 h2 k1 k2 h3 h4 => ?_⟩
  · cases i with
    | zero => cases h; exact .inr ⟨v, rfl, b⟩
    | succ i => exact r.at_ i x h
  · cases i with
    | zero => cases h1; cases k1
    | succ i =>
      cases l with
      | zero => cases h2; cases k2
      | succ l => rw [r.dd i l ds es u h1 h2 k1 k2 h3 h4]
section
variable {P : Program} {w : World} {K : PySem.W.Frag} {mg : Str → Option Value} {base : Heap}
theorem fn_ok {x qual : Str} {st : Stmt} {f : Addr} {fd : FuncData} {N ps : List Str} {k : Nat} {g : List Sl → R Out} (F : Fun K x qual st f fd) (S : FnScope N ps (defScope st))
    (hb : ∀ (cdv : Value) (A : Around) (outer : List Env) (s : Shared) (H : Hp) (E : XK), Room k (A.deeper (envOfC qual (defScope st) s.heap.objs.size f cdv)) → PSs (cxOf CX0 P w K mg base N qual (defScope st) f cdv A outer s H E).nox (defBody st) (tS K g)) :
    FnOk P w K mg base CX0 (k + 1) f fd ps (spR K ps.length (fnM N.length g)) := by
  refine F.ok S (fun vs H Q E h => ?_) (fun cdv A outer s H vs Q E hr h => ?_)
  · obtain ⟨_, _, ds, _, _, hd, hl, _⟩ := h
    rw [hd.length, hl]
  · obtain ⟨Ef, G, ds, post, w0, hd, hl, hm, q⟩ := h
    refine ⟨_, hb cdv A outer s H E hr, ⟨Ef, G, H⟩, G, env0 ds N.length, _, ⟨w0, .refl⟩, rs_start N.length hd, hm, fun o ho => ?_⟩
    cases o with
    | nx ρ => exact fun σ G' H' l w' r' => q _ ho .non G' H' w'.e w'.w .non
    | rt d => exact fun v G' H' l w' k => q _ ho v G' H' w'.e w'.w k
    | bk ρ => exact ho.elim
    | ct ρ => exact ho.elim
theorem fn_okX {x qual : Str} {st : Stmt} {f : Addr} {fd : FuncData} {N ps : List Str} {k j : Nat} {p : Str} {g : List Sl → R Out} (F : Fun K x qual st f fd) (S : FnScope N (p :: ps) (defScope st))
    (hb : ∀ (cdv : Value) (A : Around) (outer : List Env) (s : Shared) (H : Hp) (E : XK), Room k (A.deeper (envOfC qual (defScope st) s.heap.objs.size f cdv)) → PSs (cxOf CX0 P w K mg base N qual (defScope st) f cdv A outer s H E).nox (defBody st) (tS K g)) :
    FnOk P w K mg base CX0 (k + 1) f fd (p :: ps) (spX K j ps.length (fnX j N.length g)) := by
  refine F.ok S (fun vs H Q E h => ?_) (fun cdv A outer s H vs Q E hr h => ?_)
  · obtain ⟨_, _, _, _, ds, _, rfl, _, _, hd, hl, _⟩ := h
    rw [List.length_cons, List.length_cons, hd.length, hl]
  · obtain ⟨Ef, G, bv, vs', ds, post, rfl, hbx, w0, hd, hl, hm, q⟩ := h
    have e : L2.start N (bv :: vs') = some bv :: (vs'.map some ++ List.replicate ((N.length - 1) - vs'.length) none) := by
      unfold L2.start
      simp only [List.map_cons, List.length_cons, List.cons_append]
      congr 3; omega
    refine ⟨_, hb cdv A outer s H E hr, ⟨Ef, G, H⟩, G, _, _, ⟨w0, .refl⟩, by rw [e]; exact rs_cons (rs_start (N.length - 1) hd) hbx, hm, fun o ho => ?_⟩
    cases o with
    | nx ρ => exact fun σ G' H' l w' r' => q _ ho .non G' H' w'.e w'.w .non
    | rt d => exact fun v G' H' l w' k => q _ ho v G' H' w'.e w'.w k
    | bk ρ => exact ho.elim
    | ct ρ => exact ho.elim
/-- a def that calls itself: by the depth -/
theorem fn_rec {f : Addr} {fd : FuncData} {ps : List Str} {n k : Nat} {m : Nat → List D → R D} (h0 : ∀ ds post, ¬ m 0 ds post) (hn : n = ps.length) (step : ∀ i, FnOk P w K mg base CX0 (k + i) f fd ps (spR K n (m i)) → FnOk P w K mg base CX0 (k + i + 1) f fd ps (spR K n (m (i + 1)))) :
    ∀ i, FnOk P w K mg base CX0 (k + i) f fd ps (spR K n (m i))
  | 0 => ⟨fun vs H Q E h => by obtain ⟨_, _, ds, _, _, hd, hl, _⟩ := h; rw [hd.length, hl, hn], fun A outer s H args us vs Q E hr e0 hb r h => by obtain ⟨_, _, ds, _, _, _, _, hm, _⟩ := h; exact (h0 _ _ hm).elim⟩
  | i + 1 => step i (fn_rec h0 hn step i)
theorem fn_recX {f : Addr} {fd : FuncData} {ps : List Str} {p : Str} {n k j : Nat} {m : Nat → List D → R D} (h0 : ∀ ds post, ¬ m 0 ds post) (hn : n = ps.length) (step : ∀ i, FnOk P w K mg base CX0 (k + i) f fd (p :: ps) (spX K j n (m i)) → FnOk P w K mg base CX0 (k + i + 1) f fd (p :: ps) (spX K j n (m (i + 1)))) :
    ∀ i, FnOk P w K mg base CX0 (k + i) f fd (p :: ps) (spX K j n (m i))
  | 0 => ⟨fun vs H Q E h => by obtain ⟨_, _, _, _, ds, _, rfl, _, _, hd, hl, _⟩ := h; rw [List.length_cons, List.length_cons, hd.length, hl, hn], fun A outer s H args us vs Q E hr e0 hb r h => by obtain ⟨_, _, _, _, ds, _, _, _, _, _, _, hm, _⟩ := h; exact (h0 _ _ hm).elim⟩
  | i + 1 => step i (fn_recX h0 hn step i)
end
section
variable {X : Cx} {k n j : Nat} {f : Addr} {fd : FuncData} {ps : List Str} {m : List D → R D} {x : Str} {p pos : Pos} {e : Expr} {es : List Expr}
/-- a call asks for as many arguments as there are parameters -/
def callR (n : Nat) (m : List D → R D) : List D → R D := fun ds => bd (req (ds.length = n)) fun _ => m ds
@[simp] theorem callR_0 (m : List D → R D) : callR 0 m [] = m [] := bd_req rfl _
@[simp] theorem callR_1 (m : List D → R D) (a : D) : callR 1 m [a] = m [a] := bd_req rfl _
@[simp] theorem callR_2 (m : List D → R D) (a b : D) : callR 2 m [a, b] = m [a, b] := bd_req rfl _
@[simp] theorem callR_3 (m : List D → R D) (a b c : D) : callR 3 m [a, b, c] = m [a, b, c] := bd_req rfl _
@[simp] theorem callR_4 (m : List D → R D) (a b c d : D) : callR 4 m [a, b, c, d] = m [a, b, c, d] := bd_req rfl _
@[simp] theorem callR_5 (m : List D → R D) (a b c d e : D) : callR 5 m [a, b, c, d, e] = m [a, b, c, d, e] := bd_req rfl _
theorem call {g : List Sl → R (List D)} (F : FnOk X.prog X.w X.K X.mg X.base CX0 k f fd ps (spR X.K n m)) (hr : Room k X.A) (hm : X.mg x = some (.ref f)) (hk : PySem.W.keepIn X.K (.ref f) = true) (hb : Binds X.K fd ps []) (ha : PA X (e :: es) (tAF X.K g))
    (hg : Gl X x := by rfl) (hdb : (x == ("__debug__" : Str)) = false := by decide) (he : starEach (e :: es) X.env = (false, eval e X.env) :: starEach es X.env := by rfl) (hpl : (backTo pos (starEach es X.env)).any (·.1) = false := by rfl) : PE X (.Call (.Name x p) (e :: es) [] pos) (tP X.K (m1 g (callR n m))) :=
  PE.wk (pe_call F hr hg hm hk hb .nil pass0 ha hdb he hpl) fun σ H Q ⟨c, G, ρ, post, w, r, hf, q⟩ => ⟨c, G, ρ, _, w, r, hf, fun ds hds vs G1 H1 e1 w1 b1 => by
    show spR X.K n m (vs ++ []) H1 Q E0
    rw [List.append_nil]
    exact ⟨c.E, G1, ds, post, w1, b1, hds.1, hds.2, fun r hr v G' H' e2 w2 k2 => q r hr v G' H' (e1.trans e2) w2 k2⟩⟩
theorem call0 (F : FnOk X.prog X.w X.K X.mg X.base CX0 k f fd ps (spR X.K 0 m)) (hr : Room k X.A) (hm : X.mg x = some (.ref f)) (hk : PySem.W.keepIn X.K (.ref f) = true) (hb : Binds X.K fd ps [])
    (hg : Gl X x := by rfl) (hdb : (x == ("__debug__" : Str)) = false := by decide) : PE X (.Call (.Name x p) [] [] pos) (tP X.K (m1 nilR (callR 0 m))) :=
  PE.wk (pe_call0 F hr hg hm hk hb .nil pass0 hdb) fun σ H Q ⟨c, G, ρ, post, w, r, hf, q⟩ => ⟨c.E, G, [], post, w.w, .nil, rfl, hf.2, fun r hr v G' H' e2 w2 k2 => q r hr v G' H' e2 w2 k2⟩
/-- a call with the box as first argument -/
def getX (ρ : List Sl) (i j : Nat) : R Unit := match ρ[i]? with
  | some (.box k) => bd (req (k = j)) ok
  | _ => fail
theorem getX_inv {ρ : List Sl} {i j : Nat} {post : Unit → Prop} (h : getX ρ i j post) : ρ[i]? = some (.box j) ∧ post () := by
  unfold getX at h
  cases e : ρ[i]? with
  | none => rw [e] at h; exact h.elim
  | some x =>
    rw [e] at h
    cases x with
    | box k => obtain ⟨rfl, h⟩ := h; exact ⟨rfl, h⟩
    | _ => exact h.elim
def callX (i j n : Nat) (g : List Sl → R (List D)) (m : List D → R D) : List Sl → R D := fun ρ => bd (getX ρ i j) fun _ => bd (g ρ) (callR n m)
theorem callBx (i : Nat) {y : Str} {q1 : Pos} {g : List Sl → R (List D)} {pp : Str} (F : FnOk X.prog X.w X.K X.mg X.base CX0 k f fd (pp :: ps) (spX X.K j n m)) (hr : Room k X.A) (hm : X.mg x = some (.ref f)) (hk : PySem.W.keepIn X.K (.ref f) = true) (hb : Binds X.K fd (pp :: ps) []) (ha : PA X es (tAF X.K g))
    (hN : X.N[i]? = some y := by rfl) (hv : Vis X.env.scope y := by first | exact Or.inl rfl | exact Or.inr (Or.inl rfl) | exact Or.inr (Or.inr rfl)) (hd : (y == ("__debug__" : Str)) = false := by decide) (hcd : (y == ("__classdict__" : Str)) = false := by decide)
    (hg : Gl X x := by rfl) (hdb : (x == ("__debug__" : Str)) = false := by decide) (hs : starEach (.Name y q1 :: es) X.env = (false, eval (.Name y q1) X.env) :: starEach es X.env := by rfl) (hpl : (backTo pos (starEach es X.env)).any (·.1) = false := by rfl) : PE X (.Call (.Name x p) (.Name y q1 :: es) [] pos) (tP X.K (callX i j n g m)) :=
  PE.wk (pe_call F hr hg hm hk hb .nil pass0 (pa_cons (pe_var hN hv hd hcd) ha hs) hdb hs hpl) fun σ H Q ⟨c, G, ρ, post, w, r, hf, q⟩ => by
    obtain ⟨e0, hf⟩ := getX_inv hf
    rcases r.at_ i _ e0 with z | ⟨v, e1, b⟩
    · cases z
    · refine ⟨v, e1, c, G, ρ, _, w, r, hf, fun ds hds vs G1 H1 x1 w1 b1 => ?_⟩
      show spX X.K j n m ((v :: vs) ++ []) H1 Q E0
      rw [List.append_nil]
      exact ⟨c.E, G1, v, vs, ds, post, rfl, b, w1, b1, hds.1, hds.2, fun r hr v G' H' e2 w2 k2 => q r hr v G' H' (x1.trans e2) w2 k2⟩
end
/-- what a body's walk needs of its context: exceptions are none of ours -/
theorem nvr {M : Model} {A : Around} {env : Env} : PassesOwn M A env (fun _ _ => False) := PassesOwn.never
end Pu

namespace Pu
open PySem PySem.Spec PyProof.Rows L2
section
variable {X : Cx} {e a b : Expr} {es : List Expr} {pos : Pos}
/-! ### isinstance -/
def tyName : D → String
  | .none => "NoneType"
  | .bool _ => "bool"
  | .int _ => "int"
  | .str _ => "str"
  | .list _ => "list"
  | .tuple _ => "tuple"
  | .dict _ => "dict"
def isInt : D → Bool | .int _ => true | .bool _ => true | _ => false
def isBoo : D → Bool | .bool _ => true | _ => false
def isStr : D → Bool | .str _ => true | _ => false
def isTup : D → Bool | .tuple _ => true | _ => false
def isLst : D → Bool | .list _ => true | _ => false
theorem Dq.ty {K : PySem.W.Frag} {H : Hp} {v : V} {d : D} (h : Dq K H v d) : TyX K H v (.type (tyName d)) := by
  cases h with
  | non => exact .base .non
  | bl b => exact .base (.bl b)
  | int i => exact .base (.int i)
  | str x => exact .base (.str x)
  | lst e q => exact .base (.lst e)
  | tup e q =>
    rcases e with (e | ⟨o, e⟩) | ⟨o, its, n, e, c, _⟩
    · exact .base (.tup e)
    · exact .fTuple e
    · exact .kTuple e c
def isiR (t : D → Bool) (d : D) : R D := ok (.bool (t d))
theorem isi_of {T : String} {t : D → Bool} (ht : ∀ (K : PySem.W.Frag) (H : Hp) (v : V) (d : D), Dq K H v d → kitB (tyName d) T = some (t d)) {y : Str} {p q : Pos} {f : List Sl → R D} (hm : X.mg "isinstance" = none) (hmT : X.mg y = none) (ha : PE X a (tB X.K f)) (hT : bootBuiltins y = some (.type T))
    (hn : y ≠ "__name__") (hdb : (y == ("__debug__" : Str)) = false) (hg : Gl X "isinstance") (hgT : Gl X y) (hs : starEach [a, .Name y q] X.env = (false, eval a X.env) :: starEach [.Name y q] X.env) (hs2 : starEach [.Name y q] X.env = (false, eval (.Name y q) X.env) :: starEach [] X.env)
    (hpl : (backTo pos (starEach [.Name y q] X.env)).any (·.1) = false) : PE X (.Call (.Name "isinstance" p) [a, .Name y q] [] pos) (tP X.K (m1 f (isiR t))) :=
  PE.wk (pe_callB call_isi hg hm (by decide +kernel) (pa_cons ha (pa_cons (pe_bltn hgT hmT hT (show RelV (.ty T) (.type T) from rfl) hn hdb) pa_nil hs2) hs) (by decide) (by decide) hs hpl) fun σ H Q ⟨c, G, ρ, post, w, r, hf, q⟩ =>
    ⟨c, G, ρ, _, w, r, hf, fun d hd v G1 H1 e1 w1 b1 => ⟨v, .ty T, _, _, t d, rfl, .ty T, (b1.dq w1).ty, kit_ty (ht _ _ _ _ (b1.dq w1)), q _ hd _ G1 H1 e1 w1 (.bl _)⟩⟩
theorem ki_int (K : PySem.W.Frag) (H : Hp) (v : V) (d : D) (h : Dq K H v d) : kitB (tyName d) "int" = some (isInt d) := by cases h <;> (simp only [tyName, isInt]; decide +kernel)
theorem ki_boo (K : PySem.W.Frag) (H : Hp) (v : V) (d : D) (h : Dq K H v d) : kitB (tyName d) "bool" = some (isBoo d) := by cases h <;> (simp only [tyName, isBoo]; decide +kernel)
theorem ki_str (K : PySem.W.Frag) (H : Hp) (v : V) (d : D) (h : Dq K H v d) : kitB (tyName d) "str" = some (isStr d) := by cases h <;> (simp only [tyName, isStr]; decide +kernel)
theorem ki_tup (K : PySem.W.Frag) (H : Hp) (v : V) (d : D) (h : Dq K H v d) : kitB (tyName d) "tuple" = some (isTup d) := by cases h <;> (simp only [tyName, isTup]; decide +kernel)
theorem ki_lst (K : PySem.W.Frag) (H : Hp) (v : V) (d : D) (h : Dq K H v d) : kitB (tyName d) "list" = some (isLst d) := by cases h <;> (simp only [tyName, isLst]; decide +kernel)
section
variable {p q : Pos} {f : List Sl → R D}
theorem isiInt (hm : X.mg "isinstance" = none) (hT : X.mg "int" = none) (ha : PE X a (tB X.K f)) (hg : Gl X "isinstance" := by rfl) (hgT : Gl X "int" := by rfl) (hs : starEach [a, .Name "int" q] X.env = (false, eval a X.env) :: starEach [.Name "int" q] X.env := by rfl) (hs2 : starEach [.Name "int" q] X.env = (false, eval (.Name "int" q) X.env) :: starEach [] X.env := by rfl)
    (hpl : (backTo pos (starEach [.Name "int" q] X.env)).any (·.1) = false := by rfl) : PE X (.Call (.Name "isinstance" p) [a, .Name "int" q] [] pos) (tP X.K (m1 f (isiR isInt))) := isi_of ki_int hm hT ha (by decide +kernel) (by decide) (by decide) hg hgT hs hs2 hpl
theorem isiBoo (hm : X.mg "isinstance" = none) (hT : X.mg "bool" = none) (ha : PE X a (tB X.K f)) (hg : Gl X "isinstance" := by rfl) (hgT : Gl X "bool" := by rfl) (hs : starEach [a, .Name "bool" q] X.env = (false, eval a X.env) :: starEach [.Name "bool" q] X.env := by rfl) (hs2 : starEach [.Name "bool" q] X.env = (false, eval (.Name "bool" q) X.env) :: starEach [] X.env := by rfl)
    (hpl : (backTo pos (starEach [.Name "bool" q] X.env)).any (·.1) = false := by rfl) : PE X (.Call (.Name "isinstance" p) [a, .Name "bool" q] [] pos) (tP X.K (m1 f (isiR isBoo))) := isi_of ki_boo hm hT ha (by decide +kernel) (by decide) (by decide) hg hgT hs hs2 hpl
theorem isiStr (hm : X.mg "isinstance" = none) (hT : X.mg "str" = none) (ha : PE X a (tB X.K f)) (hg : Gl X "isinstance" := by rfl) (hgT : Gl X "str" := by rfl) (hs : starEach [a, .Name "str" q] X.env = (false, eval a X.env) :: starEach [.Name "str" q] X.env := by rfl) (hs2 : starEach [.Name "str" q] X.env = (false, eval (.Name "str" q) X.env) :: starEach [] X.env := by rfl)
    (hpl : (backTo pos (starEach [.Name "str" q] X.env)).any (·.1) = false := by rfl) : PE X (.Call (.Name "isinstance" p) [a, .Name "str" q] [] pos) (tP X.K (m1 f (isiR isStr))) := isi_of ki_str hm hT ha (by decide +kernel) (by decide) (by decide) hg hgT hs hs2 hpl
theorem isiTup (hm : X.mg "isinstance" = none) (hT : X.mg "tuple" = none) (ha : PE X a (tB X.K f)) (hg : Gl X "isinstance" := by rfl) (hgT : Gl X "tuple" := by rfl) (hs : starEach [a, .Name "tuple" q] X.env = (false, eval a X.env) :: starEach [.Name "tuple" q] X.env := by rfl) (hs2 : starEach [.Name "tuple" q] X.env = (false, eval (.Name "tuple" q) X.env) :: starEach [] X.env := by rfl)
    (hpl : (backTo pos (starEach [.Name "tuple" q] X.env)).any (·.1) = false := by rfl) : PE X (.Call (.Name "isinstance" p) [a, .Name "tuple" q] [] pos) (tP X.K (m1 f (isiR isTup))) := isi_of ki_tup hm hT ha (by decide +kernel) (by decide) (by decide) hg hgT hs hs2 hpl
theorem isiLst (hm : X.mg "isinstance" = none) (hT : X.mg "list" = none) (ha : PE X a (tB X.K f)) (hg : Gl X "isinstance" := by rfl) (hgT : Gl X "list" := by rfl) (hs : starEach [a, .Name "list" q] X.env = (false, eval a X.env) :: starEach [.Name "list" q] X.env := by rfl) (hs2 : starEach [.Name "list" q] X.env = (false, eval (.Name "list" q) X.env) :: starEach [] X.env := by rfl)
    (hpl : (backTo pos (starEach [.Name "list" q] X.env)).any (·.1) = false := by rfl) : PE X (.Call (.Name "isinstance" p) [a, .Name "list" q] [] pos) (tP X.K (m1 f (isiR isLst))) := isi_of ki_lst hm hT ha (by decide +kernel) (by decide) (by decide) hg hgT hs hs2 hpl
end
/-! ### sum, any, all, min, max -/
theorem dqAll_reads {pins : List (Addr × Obj)} {σ : L2.St} {H : Hp} {s : Shared} (I : Inv X pins σ H s) {vs : List V} {ds : List D} (h : DqAll X.K H vs ds) {us : List Value} (r : Vals vs us) : ∃ as, ReadsAll s.heap us ds as := Dp.readsAll I ds vs us h.dp r
theorem DqAll.intsOf {K : PySem.W.Frag} {G : Hp} : ∀ {vs : List V} {ds : List D} {ns : List Int}, DqAll K G vs ds → ds = ns.map .int → vs = ns.map V.int
  | _, _, _, h, rfl => h.ints
/-- the ints of a list of data, if they are all ints -/
def intL : List D → Option (List Int)
  | [] => some []
  | .int i :: r => (intL r).map (i :: ·)
  | _ => none
theorem intL_eq : ∀ {ds : List D} {ns : List Int}, intL ds = some ns → ds = ns.map .int
  | [], ns, h => by cases h; rfl
  | .int i :: r, ns, h => by
    unfold intL at h
    cases e : intL r with
    | none => rw [e] at h; cases h
    | some ms => rw [e] at h; cases h; rw [List.map_cons, ← intL_eq e]
  | .none :: _, _, h => by cases h
  | .bool _ :: _, _, h => by cases h
  | .str _ :: _, _, h => by cases h
  | .list _ :: _, _, h => by cases h
  | .tuple _ :: _, _, h => by cases h
  | .dict _ :: _, _, h => by cases h
@[simp] theorem intL_map : ∀ ns : List Int, intL (ns.map .int) = some ns
  | [] => rfl
  | n :: r => by rw [List.map_cons]; unfold intL; rw [intL_map r]; rfl
def sumV (xs : List D) : R D := match intL xs with | some ns => ok (.int ns.sum) | none => fail
@[simp] theorem sumV_ints (ns : List Int) : sumV (ns.map .int) = ok (.int ns.sum) := by unfold sumV; rw [intL_map]
def sumR : List D → R D
  | [.list xs] => sumV xs
  | [.tuple xs] => sumV xs
  | _ => fail
theorem call_sumT (hh : X.calm = true) : CallR X (.builtin "sum") (fun xs H Q => ∃ (a : Addr) (ns : List Int), xs = [V.ref a] ∧ SqT X.K H a (ns.map V.int) ∧ Q (.int ns.sum) H) := by
  intro pins s σ H xs us Q I r h
  obtain ⟨a, ns, rfl, hq, q⟩ := h
  cases r with | cons r rr =>
  cases rr; cases r
  obtain ⟨its, rv, p, hz⟩ := I.tuple hq
  have hi : IntsAre its ns := rv.ints
  have hl : s.heap.IsTuple a its.toArray := p
  obtain ⟨xs, hx⟩ := hi.allInts.items
  have hn : numsOf its.toArray.toList = ns := by rw [show its.toArray.toList = its from rfl, hi.numsOf]
  rw [hx] at hl hn
  rw [nums_intItems] at hn
  refine PySem.W.ktm_sumG (I.ok.hd hh) hl fun h' tk t' hk => ?_
  rw [preSum_eq, List.take_of_length_le (by simp), hn]
  exact ⟨.int _, H, I.kept hk, ⟨_, rfl⟩, q⟩
theorem kSum (hh : X.calm = true) : CalQ X (.builtin "sum") sumR := ⟨_, (cr_sum hh).or (call_sumT hh), by
  intro c G H vs ds post Q w bs hp q
  have key : ∀ {xs : List D}, sumV xs post → ∃ ns : List Int, xs = ns.map .int ∧ post (.int ns.sum) := fun {xs} h => by
    unfold sumV at h
    cases e : intL xs with
    | none => rw [e] at h; exact h.elim
    | some ns => rw [e] at h; exact ⟨ns, intL_eq e, h⟩
  match ds, bs, hp with
  | [.list xs], bs, hp =>
    obtain ⟨v, rfl, b⟩ := bs.one
    obtain ⟨p, us, rfl, h1, h2, _⟩ := b.lst w
    obtain ⟨ns, e, hp⟩ := key hp
    have eu := h2.intsOf e
    exact .inl ⟨p, ns, rfl, by rw [← eu]; exact .of h1, q _ hp _ G H .refl w (.int _)⟩
  | [.tuple xs], bs, hp =>
    obtain ⟨v, rfl, b⟩ := bs.one
    obtain ⟨p, us, rfl, h1, h2⟩ := b.tup
    obtain ⟨ns, e, hp⟩ := key hp
    have eu := h2.intsOf e
    exact .inr ⟨p, ns, rfl, by rw [← eu]; exact sqT_mono w.sub h1, q _ hp _ G H .refl w (.int _)⟩⟩
/-- any, all: truth values, numbers, None -/
def smallT : D → Bool
  | .none => true
  | .bool _ => true
  | .int _ => true
  | _ => false
theorem fits_of {xs : List D} (h : xs.all smallT = true) : ∀ x ∈ xs, PyData.fits63 x := fun x hx => by
  have := List.all_eq_true.mp h x hx
  cases x <;> first | trivial | cases this
def rSeqP (K : PySem.W.Frag) (g : List D → Bool) : List V → Hp → VK → Prop := fun xs H Q => ∃ (p : Addr) (vs : List V) (ds : List D), xs = [V.ref p] ∧ (H p = some (.lst vs) ∨ SqT K H p vs) ∧ DqAll K H vs ds ∧ ds.all smallT = true ∧ Q (.bl (g ds)) H
theorem call_anyQ (hh : X.calm = true) : CallR X (.builtin "any") (rSeqP X.K fun ds => ds.any PyData.truthy) := by
  intro pins s σ H xs us Q I r h
  obtain ⟨p, vs, ds, rfl, hq, k, hf, q⟩ := h
  cases r with | cons r rr =>
  cases rr; cases r
  rcases hq with hq | hq
  · obtain ⟨its, rv, pl, hz⟩ := I.list (.of hq)
    obtain ⟨as, ra⟩ := dqAll_reads I k rv
    exact PySem.W.any_list_data (I.ok.hd hh) pl.isList ra k.plain (fits_of hf) fun h' tk hk => ⟨.bl _, H, I.kept hk, rfl, q⟩
  · obtain ⟨its, rv, pl, hz⟩ := I.tuple hq
    obtain ⟨as, ra⟩ := dqAll_reads I k rv
    exact PySem.W.any_tuple_data (I.ok.hd hh) pl ra k.plain (fits_of hf) fun h' tk hk => ⟨.bl _, H, I.kept hk, rfl, q⟩
theorem call_allQ (hh : X.calm = true) : CallR X (.builtin "all") (rSeqP X.K fun ds => ds.all PyData.truthy) := by
  intro pins s σ H xs us Q I r h
  obtain ⟨p, vs, ds, rfl, hq, k, hf, q⟩ := h
  cases r with | cons r rr =>
  cases rr; cases r
  rcases hq with hq | hq
  · obtain ⟨its, rv, pl, hz⟩ := I.list (.of hq)
    obtain ⟨as, ra⟩ := dqAll_reads I k rv
    exact PySem.W.all_list_data (I.ok.hd hh) pl.isList ra k.plain (fits_of hf) fun h' tk hk => ⟨.bl _, H, I.kept hk, rfl, q⟩
  · obtain ⟨its, rv, pl, hz⟩ := I.tuple hq
    obtain ⟨as, ra⟩ := dqAll_reads I k rv
    exact PySem.W.all_tuple_data (I.ok.hd hh) pl ra k.plain (fits_of hf) fun h' tk hk => ⟨.bl _, H, I.kept hk, rfl, q⟩
def qV (g : List D → Bool) (xs : List D) : R D := bd (req (xs.all smallT = true)) fun _ => ok (.bool (g xs))
def anyR : List D → R D
  | [.list xs] => qV (fun ds => ds.any PyData.truthy) xs
  | [.tuple xs] => qV (fun ds => ds.any PyData.truthy) xs
  | _ => fail
def allR : List D → R D
  | [.list xs] => qV (fun ds => ds.all PyData.truthy) xs
  | [.tuple xs] => qV (fun ds => ds.all PyData.truthy) xs
  | _ => fail
theorem bcl_seq {g : List D → Bool} {h : List D → R D} (h1 : ∀ xs, h [.list xs] = qV g xs) (h2 : ∀ xs, h [.tuple xs] = qV g xs) (h3 : ∀ ds post, h ds post → (∃ xs, ds = [.list xs]) ∨ ∃ xs, ds = [.tuple xs]) : Bcl X.K (rSeqP X.K g) h := by
  intro c G H vs ds post Q w bs hp q
  rcases h3 _ _ hp with ⟨xs, rfl⟩ | ⟨xs, rfl⟩
  · rw [h1] at hp
    obtain ⟨v, rfl, b⟩ := bs.one
    obtain ⟨p, us, rfl, e1, e2, _⟩ := b.lst w
    exact ⟨p, us, xs, rfl, .inl e1, e2.mono w.sub, hp.1, q _ hp.2 _ G H .refl w (.bl _)⟩
  · rw [h2] at hp
    obtain ⟨v, rfl, b⟩ := bs.one
    obtain ⟨p, us, rfl, e1, e2⟩ := b.tup
    exact ⟨p, us, xs, rfl, .inr (sqT_mono w.sub e1), e2.mono w.sub, hp.1, q _ hp.2 _ G H .refl w (.bl _)⟩
theorem kAny (hh : X.calm = true) : CalQ X (.builtin "any") anyR := ⟨_, call_anyQ hh, bcl_seq (fun _ => rfl) (fun _ => rfl) fun ds post h => by
  match ds, h with
  | [.list xs], _ => exact .inl ⟨_, rfl⟩
  | [.tuple xs], _ => exact .inr ⟨_, rfl⟩⟩
theorem kAll (hh : X.calm = true) : CalQ X (.builtin "all") allR := ⟨_, call_allQ hh, bcl_seq (fun _ => rfl) (fun _ => rfl) fun ds post h => by
  match ds, h with
  | [.list xs], _ => exact .inl ⟨_, rfl⟩
  | [.tuple xs], _ => exact .inr ⟨_, rfl⟩⟩
/-! ### min, max -/
def rBest (K : PySem.W.Frag) (g : D → List D → D) : List V → Hp → VK → Prop := fun xs H Q => ∃ (p : Addr) (vs : List V) (x : D) (ds : List D), xs = [V.ref p] ∧ (H p = some (.lst vs) ∨ SqT K H p vs) ∧ DqAll K H vs (x :: ds) ∧ PySem.W.AlikeAll (x :: ds) ∧ PyData.depthAll (x :: ds) ≤ 60 ∧
  ∀ (i : Nat) v, vs[i]? = some v → (x :: ds)[i]? = some (g x ds) → Q v H
theorem vals_back {vs : List V} {us : List Value} (r : Vals vs us) {i : Nat} {u : Value} (h : us[i]? = some u) : ∃ v, vs[i]? = some v ∧ RelV v u := by
  have hl : i < vs.length := by rw [r.length]; exact (List.getElem?_eq_some_iff.mp h).1
  obtain ⟨u', h1, h2⟩ := r.get (List.getElem?_eq_getElem hl)
  rw [h] at h1; cases h1
  exact ⟨_, List.getElem?_eq_getElem hl, h2⟩
theorem reads_same {h h' : Heap} {us : List Value} {ds : List D} {as bs : List Addr} {i : Nat} {u : Value} {d : D} (ra : ReadsAll h us ds as) (hp : PyData.plainAll ds = true) (hu : us[i]? = some u) (r : Reads h' u d bs) (hk : ∀ b o, h.get? b = some o → h'.get? b = some o) : ds[i]? = some d := by
  obtain ⟨bs2, r2, hlt, _, _⟩ := PySem.W.readsAll_at ra i u hu
  have e : ds[i]? = some (ds.getD i .none) := by rw [List.getD_eq_getElem?_getD, List.getElem?_eq_getElem hlt]; rfl
  have pl : (ds.getD i .none).plain = true := PySem.W.plain_mem hp (by rw [List.getD_eq_getElem?_getD, List.getElem?_eq_getElem hlt]; exact List.getElem_mem hlt)
  have r3 := PyProof.Rows.Reads.keeps hk r2
  rw [e, SeqAt.plain_unique _ _ _ _ _ pl r3 r]
theorem call_minQ (hh : X.calm = true) (hu : X.A.units + 64 < cLine) : CallR X (.builtin "min") (rBest X.K PySem.W.minD) := by
  intro pins s σ H xs us Q I r h
  obtain ⟨p, vs, x, ds, rfl, hq, k, ha, hd, q⟩ := h
  cases r with | cons r rr =>
  cases rr; cases r
  rcases hq with hq | hq
  · obtain ⟨its, rv, pl, hz⟩ := I.list (.of hq)
    obtain ⟨as, ra⟩ := dqAll_reads I k rv
    refine PySem.W.min_list_data (I.ok.hd hh) pl.isList ra ha (by omega) fun i v h' tk bs hv hr hk => ?_
    obtain ⟨y, e1, e2⟩ := vals_back rv (by simpa using hv)
    exact ⟨y, H, I.kept hk, e2, q i y e1 (reads_same ra k.plain (by simpa using hv) hr hk)⟩
  · obtain ⟨its, rv, pl, hz⟩ := I.tuple hq
    obtain ⟨as, ra⟩ := dqAll_reads I k rv
    refine PySem.W.min_tuple_data (I.ok.hd hh) pl ra ha (by omega) fun i v h' tk bs hv hr hk => ?_
    obtain ⟨y, e1, e2⟩ := vals_back rv (by simpa using hv)
    exact ⟨y, H, I.kept hk, e2, q i y e1 (reads_same ra k.plain (by simpa using hv) hr hk)⟩
theorem call_maxQ (hh : X.calm = true) (hu : X.A.units + 64 < cLine) : CallR X (.builtin "max") (rBest X.K PySem.W.maxD) := by
  intro pins s σ H xs us Q I r h
  obtain ⟨p, vs, x, ds, rfl, hq, k, ha, hd, q⟩ := h
  cases r with | cons r rr =>
  cases rr; cases r
  rcases hq with hq | hq
  · obtain ⟨its, rv, pl, hz⟩ := I.list (.of hq)
    obtain ⟨as, ra⟩ := dqAll_reads I k rv
    refine PySem.W.max_list_data (I.ok.hd hh) pl.isList ra ha (by omega) fun i v h' tk bs hv hr hk => ?_
    obtain ⟨y, e1, e2⟩ := vals_back rv (by simpa using hv)
    exact ⟨y, H, I.kept hk, e2, q i y e1 (reads_same ra k.plain (by simpa using hv) hr hk)⟩
  · obtain ⟨its, rv, pl, hz⟩ := I.tuple hq
    obtain ⟨as, ra⟩ := dqAll_reads I k rv
    refine PySem.W.max_tuple_data (I.ok.hd hh) pl ra ha (by omega) fun i v h' tk bs hv hr hk => ?_
    obtain ⟨y, e1, e2⟩ := vals_back rv (by simpa using hv)
    exact ⟨y, H, I.kept hk, e2, q i y e1 (reads_same ra k.plain (by simpa using hv) hr hk)⟩
/-- the least, the greatest of some data -/
def bestV (g : D → List D → D) : List D → R D
  | [] => fail
  | x :: ds => bd (req (PySem.W.AlikeAll (x :: ds) ∧ PyData.depthAll (x :: ds) ≤ 60)) fun _ => ok (g x ds)
def minR : List D → R D
  | [.list xs] => bestV PySem.W.minD xs
  | [.tuple xs] => bestV PySem.W.minD xs
  | [.int i, .int j] => ok (.int (if j < i then j else i))
  | _ => fail
def maxR : List D → R D
  | [.list xs] => bestV PySem.W.maxD xs
  | [.tuple xs] => bestV PySem.W.maxD xs
  | [.int i, .int j] => ok (.int (if j > i then j else i))
  | _ => fail
theorem bestV_inv {g : D → List D → D} {xs : List D} {post : D → Prop} (h : bestV g xs post) : ∃ x ds, xs = x :: ds ∧ PySem.W.AlikeAll (x :: ds) ∧ PyData.depthAll (x :: ds) ≤ 60 ∧ post (g x ds) := by
  cases xs with
  | nil => exact h.elim
  | cons x ds => exact ⟨x, ds, rfl, h.1.1, h.1.2, h.2⟩
theorem best_fin {K : PySem.W.Frag} {g : D → List D → D} {c : Ct} {G H : Hp} {vs : List V} {x : D} {ds : List D} {post : D → Prop} {Q : VK} (w : W0 c.E G H) (k : DqAll K G vs (x :: ds)) (hp : post (g x ds)) (q : ∀ z, post z → ∀ v G' H', Ext c.E G H G' H' → W0 c.E G' H' → Dq K G' v z → Q v H') : ∀ (i : Nat) v, vs[i]? = some v → (x :: ds)[i]? = some (g x ds) → Q v H := fun i v h1 h2 => by
  obtain ⟨v', e1, e2⟩ := k.get h2
  rw [h1] at e1; cases e1
  exact q _ hp v G H .refl w e2
theorem kMin (hh : X.calm = true) (hu : X.A.units + 64 < cLine) : CalQ X (.builtin "min") minR := ⟨_, (call_minQ hh hu).or (call_min2 hh), by
  intro c G H vs ds post Q w bs hp q
  match ds, bs, hp with
  | [.list xs], bs, hp =>
    obtain ⟨v, rfl, b⟩ := bs.one
    obtain ⟨p, us, rfl, e1, e2, _⟩ := b.lst w
    obtain ⟨x, ds, rfl, a1, a2, a3⟩ := bestV_inv hp
    exact .inl ⟨p, us, x, ds, rfl, .inl e1, e2.mono w.sub, a1, a2, best_fin w e2 a3 q⟩
  | [.tuple xs], bs, hp =>
    obtain ⟨v, rfl, b⟩ := bs.one
    obtain ⟨p, us, rfl, e1, e2⟩ := b.tup
    obtain ⟨x, ds, rfl, a1, a2, a3⟩ := bestV_inv hp
    exact .inl ⟨p, us, x, ds, rfl, .inr (sqT_mono w.sub e1), e2.mono w.sub, a1, a2, best_fin w e2 a3 q⟩
  | [.int i, .int j], bs, hp =>
    obtain ⟨v, u, rfl, b, b'⟩ := bs.two
    rw [b.int, b'.int]
    exact .inr ⟨i, j, rfl, q _ hp _ G H .refl w (.int _)⟩⟩
theorem kMax (hh : X.calm = true) (hu : X.A.units + 64 < cLine) : CalQ X (.builtin "max") maxR := ⟨_, (call_maxQ hh hu).or (call_max2 hh), by
  intro c G H vs ds post Q w bs hp q
  match ds, bs, hp with
  | [.list xs], bs, hp =>
    obtain ⟨v, rfl, b⟩ := bs.one
    obtain ⟨p, us, rfl, e1, e2, _⟩ := b.lst w
    obtain ⟨x, ds, rfl, a1, a2, a3⟩ := bestV_inv hp
    exact .inl ⟨p, us, x, ds, rfl, .inl e1, e2.mono w.sub, a1, a2, best_fin w e2 a3 q⟩
  | [.tuple xs], bs, hp =>
    obtain ⟨v, rfl, b⟩ := bs.one
    obtain ⟨p, us, rfl, e1, e2⟩ := b.tup
    obtain ⟨x, ds, rfl, a1, a2, a3⟩ := bestV_inv hp
    exact .inl ⟨p, us, x, ds, rfl, .inr (sqT_mono w.sub e1), e2.mono w.sub, a1, a2, best_fin w e2 a3 q⟩
  | [.int i, .int j], bs, hp =>
    obtain ⟨v, u, rfl, b, b'⟩ := bs.two
    rw [b.int, b'.int]
    exact .inr ⟨i, j, rfl, q _ hp _ G H .refl w (.int _)⟩⟩
end
end Pu

namespace Pu
open PySem PySem.Spec PyProof.Rows L2 HT
/-! ### t[::-1] -/
section
variable {prog : Program} {w : World} {A : Around} {E : Value → Shared → Prop} {s : Shared}
theorem sliceApplied_rev {sl : Addr} {vl vu vs : Value} {n : Nat} {Q : Int × Int × Nat → Shared → Prop} (hs : s.heap.IsSliceOf sl vl vu vs) (pl : IsPart vl none) (pu : IsPart vu none) (ps : IsPart vs (some (-1)))
    (h : Q ((n : Int) - 1, -1, n) s) : wpAny (model prog w) A (Builtin.Slice.sliceApplied (.ref sl) (pure (n : Int))) Q E s := by
  obtain ⟨os, hos, hcs, hds⟩ := id hs
  unfold Builtin.Slice.sliceApplied Builtin.Slice.sliceFields
  refine wpAny_bind (wpAny_bind (wpAny_field hos hds (x := vl) rfl (wpAny_bind (wpAny_field hos hds (x := vu) rfl (wpAny_bind (wpAny_field hos hds (x := vs) rfl (wpAny_pure ?_)))))))
  refine wpAny_bind (slicePart_ ps ?_)
  show wpAny _ _ (if ((-1 : Int) == 0) = true then _ else _) _ _ s
  rw [if_neg (by decide)]
  refine wpAny_bind (slicePart_ pl (wpAny_bind (slicePart_ pu (wpAny_bind (wpAny_pure ?_)))))
  have e : Builtin.Slice.sliceAdjust none none (-1) (n : Int) = ((n : Int) - 1, -1) := by
    unfold Builtin.Slice.sliceAdjust
    simp
  show wpAny _ _ (match Builtin.Slice.sliceAdjust none none (-1) (n : Int) with | (lo, hi) => pure (lo, (-1 : Int), Builtin.Slice.slicePlaces lo hi (-1))) _ _ s
  rw [e]
  have e2 : Builtin.Slice.slicePlaces ((n : Int) - 1) (-1) (-1) = n := by
    unfold Builtin.Slice.slicePlaces
    cases n with
    | zero => simp
    | succ n => simp; omega
  show wpAny _ _ (pure ((n : Int) - 1, (-1 : Int), Builtin.Slice.slicePlaces ((n : Int) - 1) (-1) (-1))) _ _ s
  rw [e2]
  exact wpAny_pure h
theorem rev_pick (xs : Array Value) : ((List.range xs.size).filterMap fun (m : Nat) => xs[(((xs.size : Int) - 1) + (m : Int) * (-1)).toNat]?).toArray = xs.toList.reverse.toArray := by
  have h : ((List.range xs.size).filterMap fun (m : Nat) => xs[(((xs.size : Int) - 1) + (m : Int) * (-1)).toNat]?) = ((List.range xs.size).map fun k => xs.size - 1 - k).filterMap (xs[·]?) := by
    rw [List.filterMap_map]
    congr 1
    funext m
    show xs[(((xs.size : Int) - 1) + (m : Int) * (-1)).toNat]? = xs[xs.size - 1 - m]?
    have e : (((xs.size : Int) - 1) + (m : Int) * (-1)).toNat = xs.size - 1 - m := by omega
    rw [e]
  rw [h, PySem.W.krv_range, List.filterMap_reverse, PySem.W.krv_all]
theorem getItem_tuple_rev {t sl : Addr} {items : Array Value} {vl vu vs : Value} {Q : Value → Shared → Prop} (ht : IsTup s.heap t items) (hs : s.heap.IsSliceOf sl vl vu vs) (pl : IsPart vl none) (pu : IsPart vu none) (ps : IsPart vs (some (-1)))
    (h : Q (.ref s.heap.objs.size) { s with heap := s.heap.push { cls := .type "tuple", data := .seq items.toList.reverse.toArray } })
    (hsz : items.size ≤ sizeLine) : wpAny (model prog w) A (getItem (.ref t) (.ref sl)) Q E s := by
  have htake : sizeOk (.seq items.toList.reverse.toArray) := by
    show items.toList.reverse.toArray.size ≤ sizeLine
    rw [List.size_toArray, List.length_reverse, Array.length_toList]
    omega
  obtain ⟨os, hos, hcs, hds⟩ := id hs
  have hTs : s.TypeIs (.ref sl) "slice" := ⟨os, hos, hcs⟩
  unfold getItem
  try with_reducible refine wpAny_holding ?_
  first | refine wpAny_bind (wpAny_pure ?_) | skip
  refine wpAny_bind (wpAny_sequenceKey ht.typeIs (by decide) ?_)
  refine wpAny_bind (wpAny_callSpecial?_slot (name := Str.ofString "__getitem__") ht.typeIs PyProof.Rows.slot_tuple_getitem
    (wpAny_call_entry PyProof.Rows.slot_tuple_getitem ht.typeIs entry_tuple_getitem ?_ (args_tuple_getitem _ _)))
  show wpAny _ _ (Builtin.Tuple.tupleItemsOf (.ref t) >>= _) _ _ s
  refine wpAny_bind (tupleItemsOf_ ht ?_)
  refine wpAny_bind (wpAny_typeOf hTs ?_)
  rw [if_pos (by decide)]
  refine wpAny_bind (sliceApplied_rev hs pl pu ps ?_)
  have hno : ¬ ((((items.size : Int) - 1) == 0 && (-1 : Int) == 1 && items.size == items.size) = true) := by
    intro q
    rw [Bool.and_eq_true, Bool.and_eq_true] at q
    exact absurd (eq_of_beq q.1.2) (by decide)
  show wpAny _ _ (if (((items.size : Int) - 1) == 0 && (-1 : Int) == 1 && items.size == items.size) = true then _ else _) _ _ s
  rw [if_neg hno, rev_pick]
  first
    | exact wpAny_bind (m := Builtin.Tuple.tupleExact _) (wpAny_newObj_type (wpAny_pure ⟨_, rfl, wpAny_pure h⟩) htake)
    | exact wpAny_bind (m := Builtin.Tuple.tupleExact _) (wpAny_newObj_type (wpAny_bind (wpAny_pure (wpAny_pure ⟨_, rfl, wpAny_pure h⟩))) htake)
    | exact wpAny_bind (wpAny_bind (m := Builtin.Tuple.tupleExact _) (wpAny_newObj_type (wpAny_pure (wpAny_pure ⟨_, rfl, wpAny_pure h⟩)) htake))
    | exact wpAny_bind (wpAny_bind (m := Builtin.Tuple.tupleExact _) (wpAny_newObj_type (wpAny_pure ⟨_, rfl, wpAny_pure h⟩) htake))
end
/-- what x[::-1] gives: of a list a new list, of a tuple a new tuple -/
def tRevA (K : PySem.W.Frag) (te : TE) : TE := fun σ H Q => te σ H fun x H1 => (∃ a xs, x = .ref a ∧ SqL K H1 a xs ∧ ∀ p, H1 p = none → Q (.ref p) (upd H1 p (.lst xs.reverse))) ∨ (∃ a xs, x = .ref a ∧ SqT K H1 a xs ∧ ∀ p, H1 p = none → Q (.ref p) (upd H1 p (.tup xs.reverse)))
section
variable {X : Cx}
theorem pe_revA {e : Expr} {te : TE} {k : Nat} {p1 p2 p3 pos : Pos} (he : PE X e te) : PE X (.Subscript e (.Slice none none (some (.UnaryOp .USub (.Constant (.int 1) k p1) p2)) p3) pos) (tRevA X.K te) := by
  refine ⟨fun pins s σ H Q I h => ?_⟩
  refine Subscript_ (thn (he.run pins s σ H _ I h) fun v s1 ⟨x, H1, I1, r1, q1⟩ => ?_)
  have hst : PO X (some (.UnaryOp .USub (.Constant (.int 1) k p1) p2)) (tPart (tUn (rU fun i => .int (-i)) (tC (.int 1)))) := po_some (pe_un un_neg pe_int)
  refine wpAny_Slice (thn (po_none.run pins s1 σ H1 (fun o H2 => o = none ∧ H2 = H1) I1 ⟨rfl, rfl⟩) fun vl s2 ⟨l, H2, I2, pl, el, e2⟩ => ?_)
  subst el e2
  refine thn (po_none.run pins s2 σ H2 (fun o H3 => o = none ∧ H3 = H2) I2 ⟨rfl, rfl⟩) fun vu s3 ⟨u, H3, I3, pu, eu, e3⟩ => ?_
  subst eu e3
  refine thn (hst.run pins s3 σ H3 (fun o H4 => o = some (-1) ∧ H4 = H3) I3 ⟨1, rfl, -1, rfl, rfl, rfl⟩) fun vs s4 ⟨o, H4, I4, ps, eo, e4⟩ => ?_
  subst eo e4
  have I5 : Inv X pins σ H4 { s4 with heap := s4.heap.push { cls := .type "slice", data := .fields #[vl, vu, vs] } } := I4.kept (t' := s4.toks) fun b ob q => Heap.get?_push_of_some _ q
  rcases q1 with ⟨a, xs, ex, hx, q⟩ | ⟨a, xs, ex, hx, q⟩
  · subst ex
    cases r1
    obtain ⟨its, r, ht, hz⟩ := I5.list hx
    have hlen := r.length
    show wpAny (model X.prog X.w) X.A (subscriptTail e (.Slice none none (some (.UnaryOp .USub (.Constant (.int 1) k p1) p2)) p3) (.ref a) (.ref s4.heap.objs.size)) (EP X pins σ Q) X.xe { s4 with heap := s4.heap.push { cls := .type "slice", data := .fields #[vl, vu, vs] } }
    refine tail_any (ops := [.ref a, .ref s4.heap.objs.size]) ht.isList.typeIs (PySem.slot_list_getitem.lookup) ?_ (by with_unfolding_all rfl)
    refine wpAny_getItem_list_slice ht.isList (Heap.IsSliceOf.new _ vl vu vs) pl pu ps (by decide) ?_ (by rw [List.size_toArray]; omega)
    rw [PySem.W.krv_pick]
    refine ⟨.ref _, _, I5.laid (t' := s4.toks) (o := .lst xs.reverse) (fun b ob q => Heap.get?_push_of_some _ q) (Nat.le_refl _) ?_, rfl, q _ (I5.hok.fresh (Nat.le_refl _))⟩
    exact ⟨by rw [List.length_reverse]; exact hz, _, 0, r.reverse, Heap.get?_push_size _ rfl⟩
  · subst ex
    cases r1
    obtain ⟨its, r, ht, hz⟩ := I5.tuple hx
    have hlen := r.length
    show wpAny (model X.prog X.w) X.A (subscriptTail e (.Slice none none (some (.UnaryOp .USub (.Constant (.int 1) k p1) p2)) p3) (.ref a) (.ref s4.heap.objs.size)) (EP X pins σ Q) X.xe { s4 with heap := s4.heap.push { cls := .type "slice", data := .fields #[vl, vu, vs] } }
    refine tail_any (ops := [.ref a, .ref s4.heap.objs.size]) ht.typeIs (PyProof.Rows.slot_tuple_getitem.lookup) ?_ (by with_unfolding_all rfl)
    refine getItem_tuple_rev ht (Heap.IsSliceOf.new _ vl vu vs) pl pu ps ?_ (by rw [List.size_toArray]; omega)
    refine ⟨.ref _, _, I5.laid (t' := s4.toks) (o := .tup xs.reverse) (fun b ob q => Heap.get?_push_of_some _ q) (Nat.le_refl _) ?_, rfl, q _ (I5.hok.fresh (Nat.le_refl _))⟩
    exact ⟨by rw [List.length_reverse]; exact hz, its.reverse, r.reverse, _, Heap.get?_push_size _ rfl, rfl, 0, by simp⟩
variable {e a b : Expr} {es : List Expr} {pos : Pos} {st : Stmt}
def revR : D → R D
  | .list xs => ok (.list xs.reverse)
  | .tuple xs => ok (.tuple xs.reverse)
  | _ => fail
theorem revP {f : List Sl → R D} {k : Nat} {p1 p2 p3 : Pos} (ha : PE X a (tB X.K f)) : PE X (.Subscript a (.Slice none none (some (.UnaryOp .USub (.Constant (.int 1) k p1) p2)) p3) pos) (tP X.K (m1 f revR)) :=
  PE.wk (pe_revA ha) fun σ H Q ⟨c, G, ρ, post, w, r, hf, q⟩ => ⟨c, G, ρ, _, w, r, hf, fun d hd v G1 H1 e1 w1 b1 => by
    cases d <;> try exact hd.elim
    · obtain ⟨p, vs, rfl, h1, h2, _⟩ := b1.lst w1
      refine .inl ⟨p, vs, rfl, .of h1, fun n hn => ?_⟩
      obtain ⟨w4, e4⟩ := w1.newF hn (.lst vs.reverse)
      exact q _ hd _ _ _ (e1.trans e4) w4 (.lst upd_same (h2.reverse.mono e4.g))
    · obtain ⟨p, vs, rfl, h1, h2⟩ := b1.tup
      refine .inr ⟨p, vs, rfl, sqT_mono w1.sub h1, fun n hn => ?_⟩
      obtain ⟨w4, e4⟩ := w1.newF hn (.tup vs.reverse)
      exact q _ hd _ _ _ (e1.trans e4) w4 (.tup (.of upd_same) (h2.reverse.mono e4.g))⟩
/-! ### short words for the mirrors -/
def nDR (i : Nat) : List Sl → R D := fun ρ => getD ρ i
def nBR (i : Nat) : List Sl → R D := fun ρ => getB ρ i
def kR (d : D) : List Sl → R D := fun _ => ok d
def noR : List Sl → R (Option Int) := fun _ => ok none
def frz (f : List Sl → R (List D)) : List Sl → R D := fun ρ => bd (f ρ) fun ds => ok (.list ds)
def itR (f : List Sl → R D) : List Sl → R (List D) := fun ρ => bd (f ρ) fun d => bd (itemsR d) fun ds => bd (req (ds.length ≤ sizeLine ∨ ∀ z, d ≠ .str z)) fun _ => ok ds
/-! ### constants of the modules -/
theorem gcI {x : Str} {i : Int} (h : ∃ t, X.mg x = some (.int i t)) (hg : Gl X x := by rfl) (hd : (x == ("__debug__" : Str)) = false := by decide) : PE X (.Name x pos) (tP X.K (kR (.int i))) := let ⟨_, e⟩ := h; gC (v := .int i) (fun _ => .int i) e ⟨_, rfl⟩ hg hd
theorem gcS {x : Str} {i : Str} (h : ∃ t, X.mg x = some (.str i t)) (hg : Gl X x := by rfl) (hd : (x == ("__debug__" : Str)) = false := by decide) : PE X (.Name x pos) (tP X.K (kR (.str i))) := let ⟨_, e⟩ := h; gC (v := .str i) (fun _ => .str i) e ⟨_, rfl⟩ hg hd
/-! ### further statements -/
theorem sNever {g : List Sl → R Out} : PS X st (tS X.K fun _ => fail) := PS.wk ps_never fun D σ H ⟨c, G, ρ, post, w, r, hg, q⟩ => hg
theorem sDoc {x j pos'} : PS X (.Expr (.Constant (.str x) j pos) pos') (tS X.K nilM) := PS.wk ps_doc fun D σ H ⟨c, G, ρ, post, w, r, hg, q⟩ => q _ hg σ G H (fun _ _ e => e) w r
def mulIR : D → D → R D
  | .int i, .int j => bd (req (CMul i j)) fun _ => ok (.int (i * j))
  | _, _ => fail
theorem bop_mulI2 : Bop X.K (rI CMul fun i j => .int (i * j)) mulIR := by
  intro c G H x y d e post Q w b1 b2 hp q
  cases d <;> cases e <;> try exact hp.elim
  exact ⟨_, _, b1.int, b2.int, hp.1, q _ hp.2 _ G H .refl w (.int _)⟩
section
variable {x : Str} {pos' : Pos} {f : List Sl → R D}
theorem sAugAdd (i : Nat) (hN : X.N.Nodup) (he : PE X e (tB X.K f)) (hi : X.N[i]? = some x := by rfl) (hx : Loc X.env.scope x := by first | exact Or.inl rfl | exact Or.inr rfl) (hf : X.fn x = true ∨ X.env.scope.names.lookup x = some .local := by first | exact .inl rfl | exact .inr rfl) : PS X (.AugAssign (.Name x pos') .Add e pos) (tS X.K (augM i f addIR)) := sAug i iop_add bop_addI hN he hi hx hf
theorem sAugSub (i : Nat) (hN : X.N.Nodup) (he : PE X e (tB X.K f)) (hi : X.N[i]? = some x := by rfl) (hx : Loc X.env.scope x := by first | exact Or.inl rfl | exact Or.inr rfl) (hf : X.fn x = true ∨ X.env.scope.names.lookup x = some .local := by first | exact .inl rfl | exact .inr rfl) : PS X (.AugAssign (.Name x pos') .Sub e pos) (tS X.K (augM i f subR)) := sAug i iop_sub bop_sub hN he hi hx hf
theorem sAugMul (i : Nat) (hN : X.N.Nodup) (he : PE X e (tB X.K f)) (hi : X.N[i]? = some x := by rfl) (hx : Loc X.env.scope x := by first | exact Or.inl rfl | exact Or.inr rfl) (hf : X.fn x = true ∨ X.env.scope.names.lookup x = some .local := by first | exact .inl rfl | exact .inr rfl) : PS X (.AugAssign (.Name x pos') .Mult e pos) (tS X.K (augM i f mulIR)) := sAug i iop_mul bop_mulI2 hN he hi hx hf
end
/-! ### several names at once: each its own kind of value -/
def rD (f : List Sl → R D) : List Sl → R Sl := fun ρ => bd (f ρ) fun d => ok (.dat d)
def rO (f : List Sl → R (List D)) : List Sl → R Sl := fun ρ => bd (f ρ) fun ds => ok (.own ds)
inductive SlAll (K : PySem.W.Frag) (c : Ct) (G H : Hp) : List V → List Sl → Prop
  | nil : SlAll K c G H [] []
  | cons {v : V} {vs : List V} {x : Sl} {xs : List Sl} : SlOk K c G H x v → (x.isOwn = true → ∀ (j : Nat) (y : Sl), xs[j]? = some y → y.isOwn = true → vs[j]? ≠ some v) → SlAll K c G H vs xs → SlAll K c G H (v :: vs) (x :: xs)
theorem SlAll.ext {K : PySem.W.Frag} {c : Ct} {G H G' H' : Hp} (e : Ext c.E G H G' H') : ∀ {vs : List V} {xs : List Sl}, SlAll K c G H vs xs → SlAll K c G' H' vs xs
  | _, _, .nil => .nil
  | _, _, .cons s d t => .cons (s.ext e) d (SlAll.ext e t)
/-- new: the own ones among them are at places where nothing stood -/
def tM (K : PySem.W.Frag) (f : List Sl → R (List Sl)) : TA := fun σ H Q => ∃ (c : Ct) (G : Hp) (ρ : List Sl) (post : List Sl → Prop), Wd c G H ∧ RS K c G H σ ρ ∧ f ρ post ∧
  ∀ xs, post xs → ∀ vs G' H', Ext c.E G H G' H' → W0 c.E G' H' → SlAll K c G' H' vs xs → (∀ (j : Nat) (y : Sl) a, xs[j]? = some y → y.isOwn = true → vs[j]? = some (.ref a) → H a = none) → Q vs H'
theorem mN : PA X [] (tM X.K nilR) := PA.wk pa_nil fun σ H Q ⟨c, G, ρ, post, w, r, hf, q⟩ => q [] hf [] G H .refl w.w .nil fun j _ _ h => by simp at h
theorem mD {f : List Sl → R D} {g : List Sl → R (List Sl)} (ha : PE X a (tP X.K f)) (hr : PA X es (tM X.K g)) (hs : starEach (a :: es) X.env = (false, eval a X.env) :: starEach es X.env := by rfl) : PA X (a :: es) (tM X.K (consR (rD f) g)) :=
  PA.wk (pa_cons ha hr hs) fun σ H Q ⟨c, G, ρ, post, w, r, hf, q⟩ => by
    refine ⟨c, G, ρ, _, w, r, hf, fun d hd v G1 H1 e1 w1 b1 => ?_⟩
    refine ⟨c, G1, ρ, _, w.step w1 e1, r.ext e1, hd, fun xs hxs vs G2 H2 e2 w2 b2 n2 => q (.dat d :: xs) hxs _ G2 H2 (e1.trans e2) w2 (.cons (SlOk.ext (x := .dat d) e2 b1) (fun h => by cases h) b2) fun j es a h1 k1 h2 => ?_⟩
    cases j with
    | zero => cases h1; cases k1
    | succ j =>
      have hn := n2 j es a h1 k1 h2
      exact e1.none hn (w1.fresh hn).2
theorem mO {f : List Sl → R (List D)} {g : List Sl → R (List Sl)} (ha : PE X a (tF X.K f)) (hr : PA X es (tM X.K g)) (hs : starEach (a :: es) X.env = (false, eval a X.env) :: starEach es X.env := by rfl) : PA X (a :: es) (tM X.K (consR (rO f) g)) :=
  PA.wk (pa_cons ha hr hs) fun σ H Q ⟨c, G, ρ, post, w, r, hf, q⟩ => by
    refine ⟨c, G, ρ, _, w, r, hf, fun d hd p G1 H1 n1 e1 w1 o1 => ?_⟩
    refine ⟨c, G1, ρ, _, w.step w1 e1, r.ext e1, hd, fun xs hxs vs G2 H2 e2 w2 b2 n2 => q (.own d :: xs) hxs _ G2 H2 (e1.trans e2) w2 (.cons ⟨p, rfl, o1.ext e2⟩ (fun _ j fs h1 k1 h2 => ?_) b2) fun j es a h1 k1 h2 => ?_⟩
    · obtain ⟨vs1, hv, _⟩ := o1.at_
      have hn := n2 j fs p h1 k1 h2
      rw [hn] at hv; cases hv
    · cases j with
      | zero => cases h2; exact n1
      | succ j =>
        have hn := n2 j es a h1 k1 h2
        exact e1.none hn (w1.fresh hn).2
def setsR : List Nat → List Sl → List Sl → R (List Sl)
  | [], [], ρ => ok ρ
  | i :: is, x :: xs, ρ => setsR is xs (ρ.set i x)
  | _, _, _ => fail
def setsM (is : List Nat) (f : List Sl → R (List Sl)) : List Sl → R Out := fun ρ => bd (f ρ) fun xs => bd (setsR is xs ρ) fun ρ' => ok (.nx ρ')
/-- a slot is set to a value of any kind that is at no other slot -/
theorem RS.setA {K : PySem.W.Frag} {c : Ct} {G H : Hp} {σ : L2.St} {ρ : List Sl} (r : RS K c G H σ ρ) {i : Nat} {v : V} {x : Sl} (q : SlOk K c G H x v) (new : x.isOwn = true → ∀ (j : Nat) (y : Sl), ρ[j]? = some y → y.isOwn = true → σ[j]? ≠ some (some v)) : RS K c G H (σ.set i (some v)) (ρ.set i x) := by
  cases x with
  | un => exact r.wipe1 i _
  | dat d => exact r.setD q
  | own es =>
    obtain ⟨a, rfl, o⟩ := q
    exact r.setN ⟨a, rfl, o⟩ fun j y h k => new rfl j y h k
  | od es =>
    obtain ⟨a, rfl, o⟩ := q
    exact r.setN ⟨a, rfl, o⟩ fun j y h k => new rfl j y h k
  | box k =>
    refine ⟨by simp [r.len], fun j y h => ?_, fun j l ds es u h1 h2 k1 k2 h3 h4 => ?_⟩
    · rcases set_get h with ⟨rfl, rfl⟩ | ⟨hj, h⟩
      · have hl : j < σ.length := by
          rw [r.len]; have := (List.getElem?_eq_some_iff.mp h).1; simpa using this
        exact .inr ⟨v, List.getElem?_set_self hl, q⟩
      · rcases r.at_ j y h with e | ⟨u, e, s⟩
        · exact .inl e
        · exact .inr ⟨u, by rw [List.getElem?_set_ne (Ne.symm hj)]; exact e, s⟩
    · rcases set_get h1 with ⟨_, e⟩ | ⟨n1, e1⟩
      · rw [e] at k1; cases k1
      · rcases set_get h2 with ⟨_, e⟩ | ⟨n2, e2⟩
        · rw [e] at k2; cases k2
        · rw [List.getElem?_set_ne (Ne.symm n1)] at h3
          rw [List.getElem?_set_ne (Ne.symm n2)] at h4
          exact r.dd j l ds es u e1 e2 k1 k2 h3 h4
def setV : List Nat → List V → L2.St → L2.St
  | i :: is, v :: vs, σ => setV is vs (σ.set i (some v))
  | _, _, σ => σ
theorem rs_sets {K : PySem.W.Frag} {c : Ct} {G H : Hp} {post : List Sl → Prop} : ∀ {is : List Nat} {vs : List V} {xs : List Sl} {σ : L2.St} {ρ : List Sl}, RS K c G H σ ρ → SlAll K c G H vs xs → (∀ (j : Nat) (x : Sl) v, xs[j]? = some x → x.isOwn = true → vs[j]? = some v → ∀ (l : Nat) (y : Sl), ρ[l]? = some y → y.isOwn = true → σ[l]? ≠ some (some v)) →
    setsR is xs ρ post → ∃ ρ', post ρ' ∧ RS K c G H (setV is vs σ) ρ' ∧ is.length = vs.length
  | [], _, [], σ, ρ, r, .nil, _, h => ⟨ρ, h, r, rfl⟩
  | [], _, _ :: _, _, _, _, _, _, h => h.elim
  | _ :: _, _, [], _, _, _, _, _, h => h.elim
  | i :: is, _, x :: xs, σ, ρ, r, .cons (v := v) (vs := vs) s d t, n, h => by
    obtain ⟨ρ', h1, h2, h3⟩ := rs_sets (is := is) (vs := vs) (xs := xs) (σ := σ.set i (some v)) (ρ := ρ.set i x) (r.setA s fun he j fs hj kj => n 0 x v rfl he rfl j fs hj kj) t (fun j es u h1 k1 h2 l fs hl kl hσ => by
      rcases set_get hl with ⟨rfl, hx⟩ | ⟨hne, hl⟩
      · have hls : l < σ.length := by
          have := (List.getElem?_eq_some_iff.mp hσ).1; simpa using this
        rw [List.getElem?_set_self hls] at hσ
        have : v = u := by simpa using hσ
        subst this
        exact d (hx ▸ kl) j es h1 k1 h2
      · rw [List.getElem?_set_ne (Ne.symm hne)] at hσ
        exact n (j + 1) es u h1 k1 h2 l fs hl kl hσ) h
    exact ⟨ρ', h1, h2, by simp [h3]⟩
theorem RS.newN {K : PySem.W.Frag} {c : Ct} {G H : Hp} {σ : L2.St} {ρ : List Sl} (r : RS K c G H σ ρ) {a : Addr} (h : H a = none) (j : Nat) (y : Sl) (hy : ρ[j]? = some y) (k : y.isOwn = true) : σ[j]? ≠ some (some (.ref a)) := fun e => by
  rcases r.at_ j y hy with rfl | ⟨v, e2, s⟩
  · cases k
  · rw [e] at e2
    cases e2
    cases y with
    | own ds =>
      obtain ⟨b, hb, o⟩ := s
      cases hb
      obtain ⟨vs, q, _⟩ := o.at_
      rw [h] at q; cases q
    | od ds =>
      obtain ⟨b, hb, o⟩ := s
      cases hb
      obtain ⟨vs, q, _⟩ := o.at_
      rw [h] at q; cases q
    | _ => cases k
theorem tm_new {K : PySem.W.Frag} {c : Ct} {G H G' H' : Hp} {σ : L2.St} {ρ : List Sl} (r : RS K c G H σ ρ) {vs : List V} {xs : List Sl} (k : SlAll K c G' H' vs xs) (n : ∀ (j : Nat) (y : Sl) a, xs[j]? = some y → y.isOwn = true → vs[j]? = some (.ref a) → H a = none) :
    ∀ (j : Nat) (x : Sl) v, xs[j]? = some x → x.isOwn = true → vs[j]? = some v → ∀ (l : Nat) (y : Sl), ρ[l]? = some y → y.isOwn = true → σ[l]? ≠ some (some v) := by
  intro j es v h1 k1 h2 l fs hl kl hσ
  have key : ∀ {vs : List V} {xs : List Sl}, SlAll K c G' H' vs xs → ∀ (j : Nat) (x : Sl) v, xs[j]? = some x → x.isOwn = true → vs[j]? = some v → ∃ a, v = .ref a := by
    intro vs xs k
    induction k with
    | nil => intro j es v h; simp at h
    | @cons v0 vs0 x0 xs0 s d t ih =>
      intro j x v h1 k1 h2
      cases j with
      | zero =>
        cases h1; cases h2
        cases x0 with
        | own _ => obtain ⟨a, rfl, _⟩ := s; exact ⟨a, rfl⟩
        | od _ => obtain ⟨a, rfl, _⟩ := s; exact ⟨a, rfl⟩
        | _ => cases k1
      | succ j => exact ih j x v h1 k1 h2
  obtain ⟨a, rfl⟩ := key k j es v h1 k1 h2
  exact r.newN (n j es a h1 k1 h2) l fs hl kl hσ
theorem sPar2 (i j : Nat) {x y : Str} {px py pt : Pos} {kt k2 pt2} {g : List Sl → R (List Sl)} (hN : X.N.Nodup) (ha : PA X [a, b] (tM X.K g)) (hi : X.N[i]? = some x := by rfl) (hj : X.N[j]? = some y := by rfl) (hij : i ≠ j := by decide) (hx : X.env.scope.names.lookup x = some .local := by rfl) (hy : X.env.scope.names.lookup y = some .local := by rfl)
    (hc : X.calm = true := by rfl) (hw : swappedStores [.Tuple [.Name x px, .Name y py] kt pt] (.Tuple [a, b] k2 pt2) X.env = pure (some [x, y]) := by rfl) (hs : swapsWithSole [.Tuple [.Name x px, .Name y py] kt pt] (.Tuple [a, b] k2 pt2) pos.line X.env = pure false := by rfl) :
    PS X (.Assign [.Tuple [.Name x px, .Name y py] kt pt] (.Tuple [a, b] k2 pt2) pos) (tS X.K (setsM [i, j] g)) := PS.wk (ps_par hc hN hi hj hij hx hy ha hw hs) fun D σ H ⟨c, G, ρ, post, w, r, hg, q⟩ =>
  ⟨c, G, ρ, _, w, r, hg, fun xs hxs vs G' H' e' w' k n => by
    obtain ⟨ρ', h1, h2, h3⟩ := rs_sets (r.ext e') k (tm_new r k n) hxs
    match vs, h3, h2 with
    | [v, u], _, h2 => exact ⟨v, u, rfl, q _ h1 _ G' H' e'.g (w.step w' e') h2⟩⟩
theorem sPar3 (i j l : Nat) {x y z : Str} {c : Expr} {px py pz pt : Pos} {kt k2 pt2} {g : List Sl → R (List Sl)} (hN : X.N.Nodup) (ha : PA X [a, b, c] (tM X.K g)) (hi : X.N[i]? = some x := by rfl) (hj : X.N[j]? = some y := by rfl) (hl : X.N[l]? = some z := by rfl) (hij : i ≠ j := by decide) (hil : i ≠ l := by decide) (hjl : j ≠ l := by decide)
    (hx : X.env.scope.names.lookup x = some .local := by rfl) (hy : X.env.scope.names.lookup y = some .local := by rfl) (hz : X.env.scope.names.lookup z = some .local := by rfl)
    (hc : X.calm = true := by rfl) (hw : swappedStores [.Tuple [.Name x px, .Name y py, .Name z pz] kt pt] (.Tuple [a, b, c] k2 pt2) X.env = pure (some [x, y, z]) := by rfl) (hs : swapsWithSole [.Tuple [.Name x px, .Name y py, .Name z pz] kt pt] (.Tuple [a, b, c] k2 pt2) pos.line X.env = pure false := by rfl) :
    PS X (.Assign [.Tuple [.Name x px, .Name y py, .Name z pz] kt pt] (.Tuple [a, b, c] k2 pt2) pos) (tS X.K (setsM [i, j, l] g)) := PS.wk (ps_par3 hc hN hi hj hl hij hil hjl hx hy hz ha hw hs) fun D σ H ⟨c, G, ρ, post, w, r, hg, q⟩ =>
  ⟨c, G, ρ, _, w, r, hg, fun xs hxs vs G' H' e' w' k n => by
    obtain ⟨ρ', h1, h2, h3⟩ := rs_sets (r.ext e') k (tm_new r k n) hxs
    match vs, h3, h2 with
    | [v, u, t], _, h2 => exact ⟨v, u, t, rfl, q _ h1 _ G' H' e'.g (w.step w' e') h2⟩⟩
/-- by the tuple itself -/
def gSets : List Nat → TGs
  | [] => gNil
  | i :: is => gCons (gName i) (gSets is)
theorem gsets_ok : ∀ {is : List Nat} {vs : List V} {σ : L2.St} {H : Hp} {Q : L2.St → Hp → Prop}, is.length = vs.length → Q (setV is vs σ) H → gSets is vs σ H Q
  | [], [], _, _, _, _, q => ⟨rfl, q⟩
  | i :: is, v :: vs, σ, H, Q, h, q => ⟨v, vs, rfl, gsets_ok (by simpa using h) q⟩
theorem mgN : PGs X [] (gSets []) := pgs_nil
theorem mgC (i : Nat) {x : Str} {p : Pos} {is : List Nat} (hN : X.N.Nodup) (h : PGs X es (gSets is)) (hi : X.N[i]? = some x := by rfl) (hx : Loc X.env.scope x := by first | exact Or.inl rfl | exact Or.inr rfl) (hf : X.fn x = true ∨ X.env.scope.names.lookup x = some .local := by first | exact .inl rfl | exact .inr rfl)
    (hs : (assignEach (.Name x p :: es) X.env).map (·.2) = assign (.Name x p) X.env :: (assignEach es X.env).map (·.2) := by rfl) : PGs X (.Name x p :: es) (gSets (i :: is)) := pgs_cons (pg_name hN hi hx hf) h hs
theorem SlAll.length {K : PySem.W.Frag} {c : Ct} {G H : Hp} {vs : List V} {xs : List Sl} (h : SlAll K c G H vs xs) : vs.length = xs.length := by
  induction h with
  | nil => rfl
  | cons _ _ _ ih => simp [ih]
theorem sTup {ts : List Expr} {is : List Nat} {n : Nat} {kt k2 : Nat} {pt pt2 : Pos} {g : List Sl → R (List Sl)} (hg : PGs X ts (gSets is)) (ha : PA X es (tM X.K g)) (hn : (assignEach ts X.env).length = n := by rfl) (hst : (assignEach ts X.env).findIdx? (·.1) = none := by rfl) (hc : X.calm = true := by rfl) (hni : is.length = n := by rfl) (hn2 : is.length ≤ 100 := by decide)
    (hs : swapsWithSole [.Tuple ts kt pt] (.Tuple es k2 pt2) pos.line X.env = pure false := by rfl) (hw : swappedStores [.Tuple ts kt pt] (.Tuple es k2 pt2) X.env = pure none := by rfl) (h1 : (assignEach [.Tuple ts kt pt] X.env).map (·.2) = [assign (.Tuple ts kt pt) X.env] := by rfl) :
    PS X (.Assign [.Tuple ts kt pt] (.Tuple es k2 pt2) pos) (tS X.K (setsM is g)) := PS.wk (ps_asg (pe_tup ha) (pg_tup hc hg hn hst) hs hw h1) fun D σ H ⟨c, G, ρ, post, w, r, hg, q⟩ =>
  ⟨c, G, ρ, _, w, r, hg, fun xs hxs vs G' H' e' w' k nn => by
    obtain ⟨ρ', h1, h2, h3⟩ := rs_sets (r.ext e') k (tm_new r k nn) hxs
    refine ⟨Nat.le_trans (by omega : vs.length ≤ 100) (by decide), fun p hp => ?_⟩
    refine ⟨p, vs, rfl, .of upd_same, by omega, gsets_ok h3 ?_⟩
    obtain ⟨w3, e3⟩ := w'.new hp (.tup vs)
    exact q _ h1 _ G' _ e'.g ((w.step w' e').step w3 e3) (h2.ext e3)⟩
/-- x += [..], x an own list -/
theorem sAugExt (i : Nat) {x : Str} {pos' : Pos} {f : List Sl → R D} (hN : X.N.Nodup) (he : PE X e (tB X.K f)) (hi : X.N[i]? = some x := by rfl) (hx : Loc X.env.scope x := by first | exact Or.inl rfl | exact Or.inr rfl) (hf : X.fn x = true ∨ X.env.scope.names.lookup x = some .local := by first | exact .inl rfl | exact .inr rfl) :
    PS X (.AugAssign (.Name x pos') .Add e pos) (tS X.K (mutM i (consR f nilR) extR)) :=
  PS.wk (ps_aug hN hi hx he (fun pins s σ H x y v u Q I rx ry q => iop_ext pins s σ H x y v u Q I rx ry q) hf) fun D σ H ⟨c, G, ρ, post, w, r, hg, q⟩ => by
    obtain ⟨ds, e0, hg⟩ := getO_inv hg
    rcases r.at_ i _ e0 with z | ⟨v, e1, a, rfl, o⟩
    · cases z
    · refine ⟨_, e1, c, G, ρ, _, w, r, hg, fun y hy u G' H' e' w' b => ?_⟩
      obtain ⟨ds', e0', hy⟩ := getO_inv hy
      rw [e0] at e0'; cases e0'
      have o' := o.ext e'
      obtain ⟨vs, hv, kv⟩ := o'.at_
      cases y with
      | list ys =>
        obtain ⟨p, us, rfl, h1, h2, _⟩ := b.lst w'
        have kw := kv.append h2
        refine ⟨a, p, vs, us, rfl, rfl, hv, h1, by rw [kv.length, h2.length]; exact hy.1, ?_⟩
        have r2 := (r.ext e').mut e0 e1 o' kw
        have e3 : σ.set i (some (.ref a)) = σ := by
          apply List.ext_getElem?
          intro j
          by_cases hj : j = i
          · subst hj
            have hl : j < σ.length := (List.getElem?_eq_some_iff.mp e1).1
            rw [List.getElem?_set_self hl, e1]
          · rw [List.getElem?_set_ne (Ne.symm hj)]
        show D.nx (σ.set i (some (.ref a))) _
        rw [e3]
        exact q _ hy.2 σ G' _ e'.g (Wd.mut (w.step w' e') o' kw).1 r2
      | _ => exact hy.elim
end
/-! ### a def of the text, with what it computes -/
structure Def (P : Program) (w : World) (K : PySem.W.Frag) (mg : Str → Option Value) (base : Heap) (x : Str) (ps : List Str) (k : Nat) (sp : Sp) : Prop where
  ex : ∃ f fd, mg x = some (.ref f) ∧ PySem.W.keepIn K (.ref f) = true ∧ L2.Binds K fd ps [] ∧ FnOk P w K mg base CX0 k f fd ps sp
section
variable {X : Cx} {k n j : Nat} {ps : List Str} {m : List D → R D} {x : Str} {p pos : Pos} {e : Expr} {es : List Expr}
theorem callD {g : List Sl → R (List D)} (F : Def X.prog X.w X.K X.mg X.base x ps k (spR X.K n m)) (hr : Room k X.A) (ha : PA X (e :: es) (tAF X.K g))
    (hg : Gl X x := by rfl) (hdb : (x == ("__debug__" : Str)) = false := by decide) (he : starEach (e :: es) X.env = (false, eval e X.env) :: starEach es X.env := by rfl) (hpl : (backTo pos (starEach es X.env)).any (·.1) = false := by rfl) : PE X (.Call (.Name x p) (e :: es) [] pos) (tP X.K (m1 g (callR n m))) :=
  let ⟨_, _, hm, hk, hb, F⟩ := F.ex
  call F hr hm hk hb ha hg hdb he hpl
theorem callD_0 (F : Def X.prog X.w X.K X.mg X.base x ps k (spR X.K 0 m)) (hr : Room k X.A)
    (hg : Gl X x := by rfl) (hdb : (x == ("__debug__" : Str)) = false := by decide) : PE X (.Call (.Name x p) [] [] pos) (tP X.K (m1 nilR (callR 0 m))) :=
  let ⟨_, _, hm, hk, hb, F⟩ := F.ex
  call0 F hr hm hk hb hg hdb
theorem callD_X (i : Nat) {y : Str} {q1 : Pos} {g : List Sl → R (List D)} {pp : Str} (F : Def X.prog X.w X.K X.mg X.base x (pp :: ps) k (spX X.K j n m)) (hr : Room k X.A) (ha : PA X es (tAF X.K g))
    (hN : X.N[i]? = some y := by rfl) (hv : Vis X.env.scope y := by first | exact Or.inl rfl | exact Or.inr (Or.inl rfl) | exact Or.inr (Or.inr rfl)) (hd : (y == ("__debug__" : Str)) = false := by decide) (hcd : (y == ("__classdict__" : Str)) = false := by decide)
    (hg : Gl X x := by rfl) (hdb : (x == ("__debug__" : Str)) = false := by decide) (hs : starEach (.Name y q1 :: es) X.env = (false, eval (.Name y q1) X.env) :: starEach es X.env := by rfl) (hpl : (backTo pos (starEach es X.env)).any (·.1) = false := by rfl) : PE X (.Call (.Name x p) (.Name y q1 :: es) [] pos) (tP X.K (callX i j n g m)) :=
  let ⟨_, _, hm, hk, hb, F⟩ := F.ex
  callBx i F hr hm hk hb ha hN hv hd hcd hg hdb hs hpl
end
end Pu

namespace Pu
open PySem PySem.Spec PyProof.Rows L2 HT
/-! ### t * k -/
theorem tuple_mul_same (l : Addr) (items : Array Value) (n : Nat) (sl : Array (Option Value)) (x : Int) (u : Tok) (c0 : (decide (x < -(2 ^ 63)) || decide (x ≥ 2 ^ 63)) = false) (c1 : (items.isEmpty || x == 1) = true) (dd : Option Addr) :
    Meets (Builtin.«tuple.__mul__» ⟨[.ref l, .int x u], []⟩) (fun _ R s => s.heap.get? l = some { cls := .type "tuple", dict := dd, data := .seq items n, slots := sl } ∧
      R (.ok (.ret (Value.ref l))) s) :=
  .of_wp fun prog w A R s h => by
    obtain ⟨hp, g, d, tk, os⟩ := s
    obtain ⟨hl, h⟩ := h
    have f1 := AutoSeq1.idx_int
    wp_walk using wpAny_loadPart' hl
    repeat (first
      | (refine wpAny_ite_false (decide_eq_false (by rw [c0]; exact Bool.false_ne_true)) ?_; wp_walk using wpAny_loadPart' hl)
      | (refine wpAny_ite_true (decide_eq_true (by rw [c1])) ?_; wp_walk using wpAny_loadPart' hl))
    exact ⟨_, rfl, h⟩
theorem tuple_mul_none (l : Addr) (items : Array Value) (n : Nat) (sl : Array (Option Value)) (x : Int) (u : Tok) (c0 : (decide (x < -(2 ^ 63)) || decide (x ≥ 2 ^ 63)) = false) (c1 : (items.isEmpty || x == 1) = false) (c2 : (decide (x ≤ 0) || items.isEmpty) = true) (dd : Option Addr) :
    Meets (Builtin.«tuple.__mul__» ⟨[.ref l, .int x u], []⟩) (fun _ R s => s.heap.get? l = some { cls := .type "tuple", dict := dd, data := .seq items n, slots := sl } ∧
      R (.ok (.ret (Value.ref s.heap.objs.size))) { s with heap := s.heap.push { cls := Value.type "tuple", data := Data.seq #[] }, toks := s.toks }) :=
  .of_wp fun prog w A R s h => by
    obtain ⟨hp, g, d, tk, os⟩ := s
    obtain ⟨hl, h⟩ := h
    have f1 := AutoSeq1.idx_int
    have hz : ¬ (#[] : Array Value).size > sizeLine := by decide
    wp_walk using wpAny_loadPart' hl
    repeat (first
      | (refine wpAny_ite_false (decide_eq_false (by rw [c0]; exact Bool.false_ne_true)) ?_; wp_walk using wpAny_loadPart' hl)
      | (refine wpAny_ite_false (decide_eq_false (by rw [c1]; exact Bool.false_ne_true)) ?_; wp_walk using wpAny_loadPart' hl)
      | (refine wpAny_ite_true (decide_eq_true (by rw [c2])) ?_; wp_walk using wpAny_loadPart' hl)
      | (refine wpAny_ite_false (decide_eq_false hz) ?_; wp_walk using wpAny_loadPart' hl))
    exact ⟨_, rfl, h⟩
def rRepA (K : PySem.W.Frag) : R2 := fun x y H Q => ∃ l k xs, x = .ref l ∧ y = .int k ∧ SqT K H l xs ∧ -(2 ^ 63) ≤ k ∧ k < 2 ^ 63 ∧ xs.length * k.toNat ≤ sizeLine ∧ ((xs = [] ∨ k = 1) → Q (.ref l) H) ∧ (¬ (xs = [] ∨ k = 1) → ∀ p, H p = none → Q (.ref p) (upd H p (.tup (List.replicate k.toNat xs).flatten)))
section
variable {X : Cx}
theorem op_repA : OpR X (binaryOp .Mult) (rRepA X.K) := by
  intro pins s σ H x y v u Q I rx ry h
  obtain ⟨l, k, xs, rfl, rfl, hT, h1, h2, hz, q1, q2⟩ := h
  cases rx
  obtain ⟨t, rfl⟩ := ry
  obtain ⟨its, r, ⟨⟨cls, dd, data, sl⟩, ho, hc, n, hd⟩, hs⟩ := I.tuple hT
  simp only at hc hd
  subst hc hd
  have hle : its.length = xs.length := r.length.symm
  have hi : its.toArray.isEmpty = xs.isEmpty := by
    cases its with
    | nil => cases xs with
      | nil => rfl
      | cons a b => simp at hle
    | cons a b => cases xs with
      | nil => simp at hle
      | cons a b => rfl
  have hsz0 : its.toArray.size = xs.length := by rw [List.size_toArray, hle]
  have c0 : (decide (k < -(2 ^ 63)) || decide (k ≥ 2 ^ 63)) = false := by
    rw [decide_eq_false (by omega), decide_eq_false (by omega)] <;> rfl
  by_cases hsame : xs = [] ∨ k = 1
  · have c1 : (its.toArray.isEmpty || k == 1) = true := by
      rw [hi]
      rcases hsame with e | e
      · rw [e]; rfl
      · rw [e]; simp
    refine wpAny_binaryOp_repeat_ref (T := "tuple") (U := "int") (by decide) ⟨_, ho, rfl⟩ (fun s' => typeIs_int s' k t) noFill_tuple_mul F.fills_int_mul F.slot_int_rmul repeat_tuple F.slot_int_index.lookup
      (call_meets F.slot_int_rmul (typeIs_int s k t) F.entry_int_rmul (F.args_int_rmul_2 _ _) (int_rmul_tuple k t l its.toArray n dd sl)
        ⟨ho, rfl, ⟨_, ho, rfl⟩, call_meets F.slot_tuple_mul ⟨_, ho, rfl⟩ F.entry_tuple_mul (F.args_tuple_mul_2 _ _) (tuple_mul_same l its.toArray n sl k t c0 c1 dd) ⟨ho, ?_⟩⟩)
    exact ⟨.ref l, H, I, rfl, q1 hsame⟩
  · have c1 : (its.toArray.isEmpty || k == 1) = false := by
      rw [hi]
      cases xs with
      | nil => exact absurd (.inl rfl) hsame
      | cons a b =>
        rw [show (a :: b).isEmpty = false from rfl, Bool.false_or]
        exact beq_eq_false_iff_ne.mpr fun e => hsame (.inr e)
    have he : its.toArray.isEmpty = false := by
      cases hq : its.toArray.isEmpty with
      | false => rfl
      | true => rw [hq, Bool.true_or] at c1; cases c1
    have flen : (List.replicate k.toNat xs).flatten.length ≤ sizeLine := by
      rw [PyProof.Rows.lm_len_rep_flat, Nat.mul_comm]; exact hz
    have flen2 : (List.replicate k.toNat its).flatten.length ≤ sizeLine := by
      rw [PyProof.Rows.lm_len_rep_flat, Nat.mul_comm, hle]; exact hz
    by_cases hk : k ≤ 0
    · have c2 : (decide (k ≤ 0) || its.toArray.isEmpty) = true := by rw [decide_eq_true hk]; rfl
      refine wpAny_binaryOp_repeat_ref (T := "tuple") (U := "int") (by decide) ⟨_, ho, rfl⟩ (fun s' => typeIs_int s' k t) noFill_tuple_mul F.fills_int_mul F.slot_int_rmul repeat_tuple F.slot_int_index.lookup
        (call_meets F.slot_int_rmul (typeIs_int s k t) F.entry_int_rmul (F.args_int_rmul_2 _ _) (int_rmul_tuple k t l its.toArray n dd sl)
          ⟨ho, rfl, ⟨_, ho, rfl⟩, call_meets F.slot_tuple_mul ⟨_, ho, rfl⟩ F.entry_tuple_mul (F.args_tuple_mul_2 _ _) (tuple_mul_none l its.toArray n sl k t c0 c1 c2 dd) ⟨ho, ?_⟩⟩)
      have e0 : (List.replicate k.toNat xs).flatten = [] := by rw [show k.toNat = 0 by omega]; rfl
      have q3 := q2 hsame _ (I.hok.fresh (Nat.le_refl _))
      rw [e0] at q3
      refine ⟨.ref s.heap.objs.size, _, I.laid (t' := s.toks) (o := .tup []) (fun b ob q => Heap.get?_push_of_some _ q) (Nat.le_refl _) ?_, rfl, q3⟩
      exact ⟨Nat.zero_le _, [], .nil, IsTup.new _ _⟩
    · have c2 : (decide (k ≤ 0) || its.toArray.isEmpty) = false := by
        rw [he, Bool.or_false]; exact decide_eq_false hk
      have hm : ((its.toArray.size : Nat) : Int) * k ≤ (sizeLine : Nat) := by
        rw [hsz0]
        have hk2 : ((k.toNat : Nat) : Int) = k := by omega
        rw [← hk2, ← Int.natCast_mul]
        exact Int.ofNat_le.mpr hz
      have c4 : Builtin.Tuple.tupleTooMany (((its.toArray.size : Nat) : Int) * k) = false := by
        unfold Builtin.Tuple.tupleTooMany
        exact decide_eq_false (by omega)
      have c3 : ¬ ((its.toArray.size : Nat) : Int) * k > (2 ^ 63 - 1) / 8 := by
        rw [sizeLine_eq] at hm
        omega
      refine wpAny_binaryOp_repeat_ref (T := "tuple") (U := "int") (by decide) ⟨_, ho, rfl⟩ (fun s' => typeIs_int s' k t) noFill_tuple_mul F.fills_int_mul F.slot_int_rmul repeat_tuple F.slot_int_index.lookup
        (call_meets F.slot_int_rmul (typeIs_int s k t) F.entry_int_rmul (F.args_int_rmul_2 _ _) (int_rmul_tuple k t l its.toArray n dd sl)
          ⟨ho, rfl, ⟨_, ho, rfl⟩, call_meets F.slot_tuple_mul ⟨_, ho, rfl⟩ F.entry_tuple_mul (F.args_tuple_mul_2 _ _) (tuple_mulW l its.toArray n dd sl k t c0 c1 c2 c3 c4 (by rw [size_rep, List.size_toArray]; exact flen2)) ⟨ho, ?_⟩⟩)
      rw [size_rep]
      refine ⟨.ref s.heap.objs.size, _, I.laid (t' := s.toks) (o := .tup (List.replicate k.toNat xs).flatten) (fun b ob q => Heap.get?_push_of_some _ q) (Nat.le_refl _) ?_, rfl, q2 hsame _ (I.hok.fresh (Nat.le_refl _))⟩
      exact ⟨flen, _, r.rep k.toNat, IsTup.new _ _⟩
/-- a * b: numbers; a tuple, a list some times -/
def repOk (xs : List D) (k : Int) : Prop := -(2 ^ 63) ≤ k ∧ k < 2 ^ 63 ∧ xs.length * k.toNat ≤ sizeLine
def mulR : D → D → R D
  | .int i, .int j => bd (req (mulOk i j)) fun _ => ok (.int (i * j))
  | .tuple xs, .int k => bd (req (repOk xs k)) fun _ => ok (.tuple (List.replicate k.toNat xs).flatten)
  | .list xs, .int k => bd (req (repOk xs k)) fun _ => ok (.list (List.replicate k.toNat xs).flatten)
  | _, _ => fail
theorem DqAll.rep {K : PySem.W.Frag} {G : Hp} {vs : List V} {ds : List D} (h : DqAll K G vs ds) : ∀ k : Nat, DqAll K G (List.replicate k vs).flatten (List.replicate k ds).flatten
  | 0 => .nil
  | k + 1 => by
    rw [List.replicate_succ, List.replicate_succ, List.flatten_cons, List.flatten_cons]
    exact h.append (DqAll.rep h k)
theorem bop_mulA : Bop X.K (fun x y H Q => (rI CMul (fun i j => .int (i * j)) x y H Q ∨ rI CMulW (fun i j => .int (i * j)) x y H Q) ∨ (rRepA X.K x y H Q ∨ rRep x y H Q)) mulR := by
  intro c G H x y d e post Q w b1 b2 hp q
  match d, e, hp with
  | .int i, .int j, hp => exact .inl (bop_mul (X := X) c G H x y (.int i) (.int j) post Q w b1 b2 hp q)
  | .tuple xs, .int k, hp =>
    obtain ⟨t1, vs, rfl, s1, k1⟩ := b1.tup
    obtain ⟨hs, hp⟩ := hp
    refine .inr (.inl ⟨t1, k, vs, rfl, b2.int, sqT_mono w.sub s1, hs.1, hs.2.1, by rw [k1.length]; exact hs.2.2, fun h => ?_, fun _ p np => ?_⟩)
    · have e0 : (List.replicate k.toNat xs).flatten = xs := by
        rcases h with h | h
        · subst h; cases k1
          cases k.toNat <;> simp [List.replicate_succ]
        · subst h; simp
      have hp2 : post (.tuple xs) := by rw [← e0]; exact hp
      exact q _ hp2 _ G H .refl w (.tup s1 k1)
    · obtain ⟨w1, e1⟩ := w.newF np (.tup (List.replicate k.toNat vs).flatten)
      exact q _ hp _ _ _ e1 w1 (.tup (.of upd_same) ((k1.mono e1.g).rep _))
  | .list xs, .int k, hp =>
    obtain ⟨t1, vs, rfl, s1, k1, _⟩ := b1.lst w
    obtain ⟨hs, hp⟩ := hp
    refine .inr (.inr ⟨t1, k, vs, rfl, b2.int, s1, hs.1, hs.2.1, by rw [k1.length]; exact hs.2.2, fun p np => ?_⟩)
    obtain ⟨w1, e1⟩ := w.newF np (.lst (List.replicate k.toNat vs).flatten)
    exact q _ hp _ _ _ e1 w1 (.lst upd_same ((k1.mono e1.g).rep _))
theorem oMul {a b : Expr} {pos : Pos} {f g : List Sl → R D} (ha : PE X a (tB X.K f)) (hb : PE X b (tB X.K g)) : PE X (.BinOp a .Mult b pos) (tP X.K (m2 f g mulR)) := pOp ((op_mul.or op_mulW).or (op_repA.or op_rep)) bop_mulA ha hb
/-! ### str(n) -/
def strR : List D → R D
  | [.int i] => bd (req (i.natAbs.log2 < 1920)) fun _ => ok (.str (toString i))
  | _ => fail
theorem kStr : CalQ X (.type "str") strR := ⟨_, call_str_int, by
  intro c G H vs ds post Q w bs hp q
  match ds, bs, hp with
  | [.int i], bs, hp =>
    obtain ⟨v, rfl, b⟩ := bs.one
    rw [b.int]
    exact ⟨_, rfl, hp.1, q _ hp.2 _ G H .refl w (.str _)⟩⟩
end
end Pu

namespace Pu
open PySem PySem.Spec PyProof.Rows L2
/-! ### the law's draws -/
def drawM : List D → R D
  | [.int n] => bd (req (0 < n ∧ n < 1073741824)) fun _ => fun post => ∀ d : Int, 0 ≤ d → d < n → post (.int d)
  | _ => fail
theorem drawM_inv {ds : List D} {post : D → Prop} (h : drawM ds post) : ∃ n : Int, ds = [.int n] ∧ 0 < n ∧ n < 1073741824 ∧ ∀ d : Int, 0 ≤ d → d < n → post (.int d) := by
  match ds, h with
  | [.int n], h => exact ⟨n, rfl, h.1.1, h.1.2, h.2⟩
/-- the box as it stands: two numbers -/
structure BxAt (H : Hp) (b c : Addr) (ns : List Int) (n s : Int) : Prop where
  ne : b ≠ c
  hb : H b = some (.lst [.ref c, .int n, .int s])
  hc : H c = some (.lst (ns.map V.int))
/-- but for the box and its cells nothing is changed -/
def Only2 (b c : Addr) (H H' : Hp) : Prop := ∀ a, a ≠ b → a ≠ c → H' a = H a
theorem Only2.refl {b c : Addr} {H : Hp} : Only2 b c H H := fun _ _ _ => rfl
theorem Only2.trans {b c : Addr} {H H1 H2 : Hp} (x : Only2 b c H H1) (y : Only2 b c H1 H2) : Only2 b c H H2 := fun a h1 h2 => (y a h1 h2).trans (x a h1 h2)
theorem Only2.upd1 {b c : Addr} {H : Hp} {o : HO} : Only2 b c H (upd H b o) := fun a h _ => upd_ne h
theorem Only2.upd2 {b c : Addr} {H : Hp} {o : HO} : Only2 b c H (upd H c o) := fun a _ h => upd_ne h
theorem BxAt.setB {H : Hp} {b c : Addr} {ns : List Int} {n s n' s' : Int} (x : BxAt H b c ns n s) : BxAt (upd H b (.lst [.ref c, .int n', .int s'])) b c ns n' s' := ⟨x.ne, upd_same, by rw [upd_ne x.ne.symm]; exact x.hc⟩
theorem BxAt.setC {H : Hp} {b c : Addr} {ns ns' : List Int} {n s : Int} (x : BxAt H b c ns n s) : BxAt (upd H c (.lst (ns'.map V.int))) b c ns' n s := ⟨x.ne, by rw [upd_ne x.ne]; exact x.hb, upd_same⟩
/-- what _law_load promises -/
def spLoad : Sp := fun vs H Q _ => ∃ (b c : Addr) (ns : List Int) (n s : Int), vs = [.ref b] ∧ BxAt H b c ns n s ∧ ∀ (r : Int) H' ns' n' s', ns'.length ≤ ns.length → BxAt H' b c ns' n' s' → Only2 b c H H' → Q (.int r) H'
/-- what stands behind the cell's part -/
def tLoad2 (b c : Addr) (m : Nat) (H0 : Hp) (x1 : Nat) : TS := fun D σ H => ∃ (ns : List Int) (n s : Int), σ[0]? = some (some (.ref b)) ∧ BxAt H b c ns n s ∧ ns.length ≤ m ∧ Only2 b c H0 H ∧ σ.length = 6 ∧
  ∀ (r : Int) H' ns' n' s', ns'.length ≤ m → BxAt H' b c ns' n' s' → Only2 b c H0 H' → D.rt (.int r) H'
/-- .. of the data's side: a draw -/
theorem draw_ext {k : Nat} {b c : Addr} {G H H' : Hp} {ns ns' : List Int} {n s n' s' : Int} (w : W0 (.bx 2 b c) G H) (o : Only2 b c H H') (x : BxAt H' b c ns' n' s') (hl : ns'.length ≤ 1000) : W0 (.bx 2 b c) G H' ∧ Ext (.bx 2 b c) G H G H' := by
  have hv : ∀ p, ¬ (Ef.bx 2 b c).vol p → H' p = H p := fun p h => o p (fun e => h (.inl e)) (fun e => h (.inr e))
  refine ⟨⟨fun p u e => ?_, w.vol, ⟨x.ne, ns', [n', s'], rfl, trivial, hl, x.hb, x.hc⟩⟩, ⟨fun _ _ e => e, fun p u e v => by rw [hv p v]; exact e, fun _ _ _ _ e => e⟩⟩
  have nv : ¬ (Ef.bx 2 b c).vol p := fun v => by rw [w.vol p v] at e; cases e
  rw [hv p nv]; exact w.sub p u e
/-- a def that draws: from the box's own promise to that over data -/
def spDraw0 : Sp := fun vs H Q _ => ∃ (b c : Addr) (ns : List Int) (n s m : Int), vs = [.ref b, .int m] ∧ BxAt H b c ns n s ∧ 0 < m ∧ m < 1073741824 ∧ ∀ (r : Int) H' ns' n' s', 0 ≤ r → r < m → ns'.length ≤ ns.length → BxAt H' b c ns' n' s' → Only2 b c H H' → Q (.int r) H'
theorem spDraw_of {K : PySem.W.Frag} {vs : List V} {H : Hp} {Q : VK} {E : XK} (h : spX K 2 1 drawM vs H Q E) : spDraw0 vs H Q E := by
  obtain ⟨E, G, bv, vs', ds, post, rfl, hbx, w, hd, hl, hm, q⟩ := h
  obtain ⟨m, rfl, h0, h1, hp⟩ := drawM_inv hm
  cases E with
  | no => exact hbx.elim
  | bx k b c =>
    obtain ⟨rfl, rfl⟩ := hbx
    obtain ⟨ne, ns, is, hi, _, hns, hb, hc⟩ := w.inv
    match is, hi, hb with
    | [n, s], _, hb =>
      cases hd with
      | cons d1 d2 =>
        cases d1; cases d2
        refine ⟨b, c, ns, n, s, m, rfl, ⟨ne, hb, hc⟩, h0, h1, fun r H' ns' n' s' hr0 hr1 hl' x o => ?_⟩
        obtain ⟨w', e'⟩ := draw_ext (k := 2) (ns := ns) (n := n) (s := s) w o x (by omega)
        exact q _ (hp r hr0 hr1) _ G H' e' w' (.int _)
/-- what _law_box promises -/
def spBox (K : PySem.W.Frag) : Sp := fun vs H Q _ => ∃ (a : Addr) (ns : List Int), vs = [.ref a] ∧ SqL K H a (ns.map V.int) ∧ ns.length ≤ 63 ∧ ∀ b c H' ns' n s, H b = none → H c = none → BxAt H' b c ns' n s → ns'.length ≤ 1000 → Q (.ref b) H'
/-- what the law itself promises -/
def spLaw (K : PySem.W.Frag) : Sp := fun vs H Q _ => ∃ (a : Addr) (ns : List Int), vs = [.ref a] ∧ SqL K H a (ns.map V.int) ∧ ns.length ≤ 63 ∧ ∀ H', Q (.bl true) H'
/-- behind the box's making: all the rest is data -/
theorem law_rest {K : PySem.W.Frag} {g : List Sl → R Out} {n : Nat} {Q : VK} {H' : Hp} {b c : Addr} {ns : List Int} {k s : Int} {v : V} (hg : g (.un :: .box 2 :: List.replicate n .un) fun o => o = .rt (.bool true)) (x : BxAt H' b c ns k s) (hl : ns.length ≤ 1000) (q : ∀ H', Q (.bl true) H') {D : Ends} (hD : D.rt = Q) :
    tS K g D (some v :: some (.ref b) :: List.replicate n none) H' := by
  refine ⟨⟨.bx 2 b c, fun _ => none, H'⟩, fun _ => none, _, _, ⟨⟨fun _ _ e => (nomatch e), fun _ _ => rfl, ⟨x.ne, ns, [k, s], rfl, trivial, hl, x.hb, x.hc⟩⟩, .refl⟩, ⟨by simp, fun i y h => ?_, fun i j ds es u h1 _ k1 => ?_⟩, hg, fun o ho => ?_⟩
  · match i, h with
    | 0, h => exact .inl (Option.some.inj h).symm
    | 1, h => cases h; exact .inr ⟨.ref b, rfl, rfl, rfl⟩
    | i + 2, h =>
      have h' : (List.replicate n Sl.un)[i]? = some y := h
      rw [List.getElem?_replicate] at h'
      split at h'
      · cases h'; exact .inl rfl
      · cases h'
  · exfalso
    match i, h1 with
    | 0, h => cases h; cases k1
    | 1, h => cases h; cases k1
    | i + 2, h =>
      have h' : (List.replicate n Sl.un)[i]? = some ds := h
      rw [List.getElem?_replicate] at h'
      split at h'
      · cases h'; cases k1
      · cases h'
  · subst ho
    intro v G' H2 l w k
    rw [hD]
    cases k
    exact q H2
end Pu

namespace Pu
open PySem PySem.Spec PyProof.Rows L2
/-! ### sorted(xs) -/
def dLe (a b : D) : Bool := !W.dataLt b a
structure SortOk (ds : List D) : Prop where
  al : W.AllAlike ds
  so : W.Sortable ds ∨ (ds.length ≤ 1 ∧ ∀ d ∈ ds, d ≠ .none) ∨ ∃ r, ds = .tuple [] :: r ∧ ∀ d ∈ r, ∃ xs, d = .tuple xs
  dp : ∀ d ∈ ds, d.depth ≤ 60
  len : ds.length ≤ sizeLine
def srtV (ds : List D) : R (List D) := bd (req (SortOk ds)) fun _ => ok (ds.mergeSort dLe)
def sortedR : List D → R (List D)
  | [.list xs] => srtV xs
  | [.tuple xs] => srtV xs
  | _ => fail
section
variable {X : Cx}
def srtVs (vs : List V) (ds : List D) : List V := ((vs.zip ds).mergeSort (W.dataLe false (fun b : V × D => b.2))).map (·.1)
def rSortedD (K : PySem.W.Frag) : List V → Hp → VK → Prop := fun xs H Q => ∃ (p : Addr) (vs : List V) (ds : List D), xs = [V.ref p] ∧ (H p = some (.lst vs) ∨ SqT K H p vs) ∧ DqAll K H vs ds ∧ SortOk ds ∧
  ∀ n, H n = none → Q (.ref n) (upd H n (.lst (srtVs vs ds)))
theorem srt_each {K : PySem.W.Frag} {H : Hp} : ∀ {vs : List V} {ds : List D} {us : List Value}, DqAll K H vs ds → Vals vs us → W.EachIs (fun u (b : V × D) => RelV b.1 u) us (vs.zip ds)
  | _, _, _, .nil, r => by cases r; exact .nil
  | _, _, _, .cons k kr, r => by
    cases r with | cons r rr => exact .cons r (srt_each kr rr)
theorem srt_vals : ∀ {bs : List (V × D)} {us : List Value}, W.EachIs (fun u (b : V × D) => RelV b.1 u) us bs → Vals (bs.map (·.1)) us
  | _, _, .nil => .nil
  | _, _, .cons r e => .cons r (srt_vals e)
theorem srt_snd {K : PySem.W.Frag} {H : Hp} : ∀ {vs : List V} {ds : List D}, DqAll K H vs ds → (vs.zip ds).map (·.2) = ds ∧ ∀ b ∈ vs.zip ds, Dq K H b.1 b.2
  | _, _, .nil => ⟨rfl, fun b h => by cases h⟩
  | _, _, .cons k kr => by
    obtain ⟨h1, h2⟩ := srt_snd kr
    refine ⟨by rw [List.zip_cons_cons, List.map_cons, h1], fun b hb => ?_⟩
    rw [List.zip_cons_cons] at hb
    rcases List.mem_cons.mp hb with rfl | hb
    · exact k
    · exact h2 b hb
theorem srt_dq {K : PySem.W.Frag} {H : Hp} : ∀ {bs : List (V × D)}, (∀ b ∈ bs, Dq K H b.1 b.2) → DqAll K H (bs.map (·.1)) (bs.map (·.2))
  | [], _ => .nil
  | b :: bs, h => .cons (h b List.mem_cons_self) (srt_dq fun c hc => h c (List.mem_cons_of_mem _ hc))
theorem DqAll.srt {K : PySem.W.Frag} {G : Hp} {vs : List V} {ds : List D} (k : DqAll K G vs ds) : DqAll K G (srtVs vs ds) (ds.mergeSort dLe) := by
  obtain ⟨h1, h2⟩ := srt_snd k
  have hperm := List.mergeSort_perm (vs.zip ds) (W.dataLe false (fun b : V × D => b.2))
  have hmap : ((vs.zip ds).mergeSort (W.dataLe false (fun b : V × D => b.2))).map (·.2) = ds.mergeSort dLe := by
    rw [List.map_mergeSort (r := W.dataLe false (fun b : V × D => b.2)) (s := dLe) (f := fun b : V × D => b.2) (fun a _ b _ => rfl), h1]
  have hdq := srt_dq (K := K) (H := G) (bs := (vs.zip ds).mergeSort (W.dataLe false (fun b : V × D => b.2))) fun b hb => h2 b (hperm.mem_iff.mp hb)
  rw [hmap] at hdq
  exact hdq
theorem srt_reads {s : Shared} : ∀ {ds : List D} {us : List Value} {bs : List (V × D)} {as : List Addr}, bs.map (·.2) = ds → ReadsAll s.heap us ds as → W.EachIs (fun u (b : V × D) => ∃ as, Reads s.heap u b.2 as) us bs
  | _, _, bs, _, e, r => by subst e; exact W.readsAll_each (fun b : V × D => b.2) r
/-- one item alone is in order, whatever it is -/
theorem sortsAt_one {prog : Program} {w : World} {A : Around} {s : Shared} {vs : List Value} {ds : List D} (e : W.EachIs (fun v d => ∃ as, Reads s.heap v d as) vs ds) (hal : W.AllAlike ds) (hn : ∀ d ∈ ds, d ≠ .none) (h1 : vs.length ≤ 1) (hu : ∀ d ∈ ds, A.units + d.depth < cLine) : W.SortsAt prog w A s (W.dataKind s.heap ds) vs := by
  refine ⟨fun v hv => ?_, general', ?_, fun h2 => absurd h2 (by omega)⟩
  · obtain ⟨d, hd, as, r⟩ := e.left v hv
    exact ⟨_, W.dataKind_some hal hd r⟩
  · intro E x y a b Q ha hb hq
    obtain ⟨d, as, hd, ra, rfl⟩ := W.dataKind_inv ha
    obtain ⟨d', as', hd', rb, rfl⟩ := W.dataKind_inv hb
    exact W.oneLt_alike (f := false) (fun h => by cases h) ra rb (hal d hd d' hd') (hn d hd) (Nat.lt_of_le_of_lt (Nat.add_le_add_left (Nat.min_le_left _ _) _) (hu d hd)) hq
open PySem.SeqAt in
theorem call_tuple_lt {prog : Program} {w : World} {A : Around} {s : Shared} {E : Value → Shared → Prop} {Q : Value → Shared → Prop} {l b : Addr} {items items2 : Array Value} {e r : Nat → Bool} (hl : s.heap.IsTuple l items) (hb : s.heap.IsTuple b items2)
    (he : ∀ j (h1 : j < items.size) (h2 : j < items2.size), EqAt A.in1 s items[j] items2[j] (e j)) (hr : ∀ j (h1 : j < items.size) (h2 : j < items2.size), e j = false → RcLt A.in1 s items[j] items2[j] (r j))
    (h : Q (.bool (firstLt e r (decide (items.size < items2.size)) (List.range (min items.size items2.size)))) s) : wpAny (model prog w) A (PySem.call (.builtin "tuple.__lt__") [.ref l, .ref b]) Q E s := by
  obtain ⟨⟨cls, dd, data, sl⟩, ho, hc, n, hd⟩ := id hl
  obtain ⟨⟨cls2, dd2, data2, sl2⟩, ho2, hc2, n2, hd2⟩ := id hb
  simp only at hc hd hc2 hd2
  subst hc hd hc2 hd2
  exact call_meets F.slot_tuple_lt ⟨_, ho, rfl⟩ F.entry_tuple_lt (F.args_tuple_lt_2 _ _) (tuple_ltAt l b items items2 n n2 dd dd2 sl sl2 e r) ⟨ho, ho2, he, hr, h⟩
open PySem.SeqAt PySem.W in
theorem oneLt_tuples {prog : Program} {w : World} {A : Around} {s : Shared} {E : Value → Shared → Prop} {xs ys : List D} {a b : Value} {as bs : List Addr} {Q : Bool → Shared → Prop} (ra : Reads s.heap a (.tuple xs) as) (rb : Reads s.heap b (.tuple ys) bs) (hal : alikeAll xs ys = true)
    (hu : A.units + min (PyData.depth (.tuple xs)) (PyData.depth (.tuple ys)) < cLine) (hq : Q (dataLt (.tuple xs) (.tuple ys)) s) : wpAny (model prog w) A (oneLt' true a b) Q E s := by
  cases ra with
  | @tuple l o vs n _ as₁ h1 h2 h3 h4 =>
    cases rb with
    | @tuple l' o' vs' n' _ bs₁ k1 k2 k3 k4 =>
      have n1 : vs.size = xs.length := by simpa using ReadsAll.length _ _ _ h4
      have n2 : vs'.size = ys.length := by simpa using ReadsAll.length _ _ _ k4
      rw [dataLt_tuple, ← firstLt_toks xs ys hal, ← n1, ← n2] at hq
      rw [oneLt'_eq]
      simp only [if_true]
      refine wpAny_bind (wpAny_cRoomFor (room_here hu) ?_)
      refine wpAny_bind (wpAny_callSpecialIfBound?_slot (T := "tuple") ⟨_, h1, h2⟩ F.slot_tuple_lt (call_tuple_lt (e := pairEq xs ys) (r := fun j => dataLt (xs.getD j .none) (ys.getD j .none)) ⟨_, h1, h2, _, h3⟩ ⟨_, k1, k2, _, k3⟩ (fun j j1 j2 => ?_) (fun j j1 j2 hj => ?_) ?_))
      · have := eqAt_alikeAll xs ys A.in1 s vs.toList vs'.toList _ _ h4 k4 hal (room_in hu) j (by simpa using j1) (by simpa using j2)
        simpa using this
      · have := rcLt_alikeAll xs ys A.in1 s vs.toList vs'.toList _ _ h4 k4 hal (room_in hu) j (by simpa using j1) (by simpa using j2) hj
        simpa using this
      · exact wpAny_truthy_bool hq
/-- the first things of tuples -/
theorem firsts_any {M : Model} {A : Around} {s : Shared} {E : Value → Shared → Prop} : ∀ {vs : List Value} {ds : List D} {Q : List (Option Value) → Shared → Prop}, W.EachIs (fun v d => ∃ as, Reads s.heap v d as) vs ds → (∀ d ∈ ds, ∃ xs, d = .tuple xs) →
    (∀ fs : List (Option Value), (∀ r, ds = .tuple [] :: r → fs.head? = some none) → Q fs s) → wpAny M A (vs.mapM firstOfTuple') Q E s
  | _, _, Q, .nil, _, h => by rw [List.mapM_nil]; exact wpAny_pure (h [] fun r e => by cases e)
  | v :: vs, d :: ds, Q, .cons ⟨as, r⟩ t, ht, h => by
    obtain ⟨xs, rfl⟩ := ht d List.mem_cons_self
    cases r with
    | @tuple a o ws n _ _ h1 h2 h3 h4 =>
      rw [List.mapM_cons]
      refine wpAny_bind ?_
      rw [W.kas_first_eq]
      refine wpAny_bind (PySem.W.Looks.here (show PySem.W.Looks M s.heap (typeOf (.ref a)) o.cls from (PySem.W.Looks.ld h1).andThen .now) ?_)
      rw [h2, if_neg (by first | decide | simp)]
      refine wpAny_bind (listItems_at h1 h3 (wpAny_pure ?_))
      refine wpAny_bind (firsts_any t (fun d hd => ht d (List.mem_cons_of_mem _ hd)) fun fs _ => wpAny_pure (h _ fun r e => ?_))
      injection e with e1 e2
      injection e1 with e1
      subst e1
      have : ws.toList = [] := by cases hw : ws.toList with
        | nil => rfl
        | cons y l => rw [hw] at h4; cases h4
      have e0 : ws = #[] := by cases ws; simp at this; subst this; rfl
      rw [e0]; rfl
/-- tuples, an empty one first -/
theorem sortsAt_nil {prog : Program} {w : World} {A : Around} {s : Shared} {vs : List Value} {r : List D} (e : W.EachIs (fun v d => ∃ as, Reads s.heap v d as) vs (.tuple [] :: r)) (hal : W.AllAlike (.tuple [] :: r)) (ht : ∀ d ∈ r, ∃ xs, d = .tuple xs) (hu : ∀ d ∈ (.tuple [] :: r : List D), A.units + d.depth < cLine) : W.SortsAt prog w A s (W.dataKind s.heap (.tuple [] :: r)) vs := by
  have ht' : ∀ d ∈ (.tuple [] :: r : List D), ∃ xs, d = .tuple xs := fun d hd => by
    rcases List.mem_cons.mp hd with rfl | hd
    · exact ⟨[], rfl⟩
    · exact ht d hd
  refine ⟨fun v hv => ?_, oneType', ?_, fun h2 E Q hq => ?_⟩
  · obtain ⟨d, hd, as, r⟩ := e.left v hv
    exact ⟨_, W.dataKind_some hal hd r⟩
  · intro E x y a b Q ha hb hq
    obtain ⟨d, as, hd, ra, rfl⟩ := W.dataKind_inv ha
    obtain ⟨d', as', hd', rb, rfl⟩ := W.dataKind_inv hb
    obtain ⟨xs, rfl⟩ := ht' d hd
    obtain ⟨ys, rfl⟩ := ht' d' hd'
    rw [keyLt'_oneType]
    exact oneLt_tuples ra rb (by simpa [W.alike] using hal _ hd _ hd') (Nat.lt_of_le_of_lt (Nat.add_le_add_left (Nat.min_le_left _ _) _) (hu _ hd)) hq
  · rw [keyKind'_eq, List.mapM_toArray, map_eq_pure_bind]
    refine wpAny_bind (wpAny_bind (firsts_any e ht' fun fs hf => wpAny_pure ?_))
    have hf := hf r rfl
    obtain ⟨fs', rfl⟩ : ∃ l, fs = none :: l := by
      cases fs with
      | nil => cases hf
      | cons x l => simp at hf; subst hf; exact ⟨l, rfl⟩
    rw [if_neg (by simp), if_neg (by simp)]
    rw [oneTypeOnly'_eq, List.mapM_toArray, map_eq_pure_bind]
    refine wpAny_bind (wpAny_bind (wpAny_bind (W.kas_mapM (r := Value.type "tuple") _ (fun v hv Q' hq => ?_) (wpAny_pure ?_))))
    · obtain ⟨d, hd, as, rr⟩ := e.left v hv
      obtain ⟨xs, rfl⟩ := ht' d hd
      exact (W.looks_reads rr).here hq
    · obtain ⟨v1, vr, rfl⟩ : ∃ v1 vr, vs = v1 :: vr := by
        cases vs with
        | nil => simp at h2
        | cons v l => exact ⟨v, l, rfl⟩
      have hall : ((List.map (fun _ => Value.type "tuple") (v1 :: vr)).toArray.all fun x => x == Value.type "tuple") = true := by
        simp only [List.all_toArray, List.all_map, List.all_eq_true]
        intro _ _
        rfl
      have h0 : (List.map (fun _ => Value.type "tuple") (v1 :: vr)).toArray[0]? = some (Value.type "tuple") := by simp
      rw [h0]
      simp only [hall, if_true]
      exact wpAny_pure (wpAny_pure hq)
/-! sorted(a tuple) -/
section
open PySem PySem.Calls PySem.W PyProof.Rows
theorem collect_tuple {prog : Program} {w : World} {A : Around} {E : Value → Shared → Prop} {s : Shared} {l : Addr} {vs : List Value} {Q : List Value → Shared → Prop} (hl : IsTup s.heap l vs.toArray)
    (h : Q vs { s with heap := (s.heap.push (seqObj "list" #[] 0)).update s.heap.objs.size (Obj.mapSeq (· ++ vs.toArray)) }) (hsz : vs.length ≤ sizeLine) :
    wpAny (model prog w) A (collect (.ref l)) Q E s := by
  obtain ⟨o, ho, hc, n, hd⟩ := id hl
  unfold collect
  refine wpAny_bind (wpAny_runValue (codeAny_builtin entry_proto_collect' ?_))
  show wpAny _ _ (do again (.builtin "list.__iadd__" ⟨[← newList [], .ref l], []⟩)) _ _ s
  refine wpAny_bind (wpAny_newList (wpAny_pure ⟨Code.quiet_builtin _ (by decide +kernel), codeAny_builtin entry_list_iadd' ?_⟩))
  show wpAny _ _ (Builtin.List.listExtendWith (.ref s.heap.objs.size) (.ref l) (.ref s.heap.objs.size)) _ _ { s with heap := s.heap.push (seqObj "list" #[] 0) }
  unfold Builtin.List.listExtendWith
  have ho' : (s.heap.push (seqObj "list" #[] 0)).get? l = some o := Heap.get?_push_of_some _ ho
  refine wpAny_bind (wpAny_typeOf (T := "tuple") ⟨o, ho', hc⟩ ?_)
  have ht : (Value.type "tuple" == Value.type "tuple") = true := by rfl
  rw [if_pos (by rw [ht]; simp)]
  refine wpAny_bind (listItems_at ho' hd ?_)
  refine wpAny_bind (listItems_at (xs := #[]) (n := 0) (Heap.get?_push_size _ rfl) rfl ?_)
  rw [if_neg (by simp)]
  refine wpAny_bind (listUpdate_at (xs := #[]) (n := 0) (Heap.get?_push_size _ rfl) rfl ?_ (Nat.zero_le _) (by show (#[] ++ vs.toArray).size ≤ sizeLine + 1; simp only [Array.size_append, List.size_toArray, List.length_nil]; simp; omega))
  refine wpAny_pure ?_
  show wpAny (model prog w) A (do
      let o ← load s.heap.objs.size
      match o.data with
      | .seq xs _ => pure xs.toList
      | _ => unsupported "internal:collect") Q E { s with heap := (s.heap.push (seqObj "list" #[] 0)).update s.heap.objs.size (Obj.mapSeq (· ++ vs.toArray)) }
  refine wpAny_bind (wpAny_load (get?_update_seq (Heap.get?_push_size _ rfl) _) ?_)
  show wpAny _ _ (pure ((#[] : Array Value) ++ vs.toArray).toList) Q E _
  rw [show ((#[] : Array Value) ++ vs.toArray).toList = vs by simp]
  exact wpAny_pure h
theorem sorted_of_sortT {prog : Program} {w : World} {A : Around} {E : Value → Shared → Prop} {s : Shared} {l : Addr} {vs : List Value} {kw : List (Str × Value)} {Q : Value → Shared → Prop} (hl : IsTup s.heap l vs.toArray) (hL : vs.length ≤ sizeLine) (ha1 : argsOk "sorted" ⟨[.ref l], kw⟩) (ha2 : ∀ x, argsOk "list.sort" ⟨[.ref x], kw⟩)
    (body : ∀ E' : Value → Shared → Prop, wpAny (model prog w) A.in1.in1 (Builtin.«list.sort» ⟨[.ref (s.heap.objs.size + 1)], kw⟩) (fun f s' => f = .done (.ret .none) ∧ Q (.ref (s.heap.objs.size + 1)) s') E' { s with heap := copyHeap s.heap vs }) :
    wpAny (model prog w) A (PySem.call (.builtin "sorted") [.ref l] kw) Q E s := by
  refine call_function_entry_kw kind_sorted plain_sorted entry_sorted ha1 ?_
  unfold Builtin.«sorted»
  refine wpAny_bind (m := checkCount "sorted" 1 1 _) (wpAny_pure ?_)
  refine wpAny_bind (collect_tuple hl ?_ hL)
  refine wpAny_bind (wpAny_newList ?_ hL)
  have hsz : ((s.heap.push (seqObj "list" #[] 0)).update s.heap.objs.size (Obj.mapSeq (· ++ vs.toArray))).objs.size = s.heap.objs.size + 1 := by
    rw [Heap.size_update, size_push']
  show wpAny _ _ _ _ _ { s with heap := copyHeap s.heap vs }
  rw [hsz]
  refine wpAny_bind (wpAny_holding (wpAny_call_entry_kw slot_list_sort ⟨_, copyHeap_at s.heap vs, rfl⟩ entry_list_sort ?body (ha2 _)))
  case body =>
    show wpAny (model prog w) A.in1.in1 (Builtin.«list.sort» ⟨[.ref (s.heap.objs.size + 1)], kw⟩) _ _ _
    refine wpAny_mono (body _) (fun f s' hf => ?_) fun _ _ e => e
    obtain ⟨rfl, hq⟩ := hf
    exact ⟨_, rfl, wpAny_pure ⟨_, rfl, hq⟩⟩
theorem sorted_vals2 {prog : Program} {w : World} {A : Around} {E : Value → Shared → Prop} {s : Shared} {κ : PyProof.Rows.KeyKind} {l : Addr} {vs : List Value} {Q : Value → Shared → Prop} (hl : s.heap.IsList l vs.toArray ∨ IsTup s.heap l vs.toArray) (S : SortsAt prog w A.in1.in1 { s with heap := sortingHeap (copyHeap s.heap vs) (s.heap.objs.size + 1) vs } κ vs) (hL : vs.length ≤ sizeLine)
    (h : Q (.ref (s.heap.objs.size + 1)) { s with heap := sortedAll s.heap vs (sortVals κ false vs vs).toArray }) : wpAny (model prog w) A (PySem.call (.builtin "sorted") [.ref l]) Q E s := by
  rcases hl with hl | hl
  · exact sorted_vals hl S hL h
  · exact sorted_of_sortT hl hL (args_sorted1 _) (fun _ => args_list_sort _) fun _ => list_sort_vals (s := { s with heap := copyHeap s.heap vs }) (copyHeap_at s.heap vs) S hL ⟨rfl, h⟩
end
theorem sorted_dataQ {prog : Program} {w : World} {A : Around} {E : Value → Shared → Prop} {s : Shared} {β : Type} {vs : List Value} {bs : List β} {enc : β → D} {R : Value → β → Prop} {l : Addr} {Q : Value → Shared → Prop} (hl : s.heap.IsList l vs.toArray ∨ IsTup s.heap l vs.toArray) (e : W.EachIs R vs bs) (er : W.EachIs (fun v b => ∃ as, Reads s.heap v (enc b) as) vs bs) (hal : W.AllAlike (bs.map enc))
    (hk : W.Sortable (bs.map enc) ∨ (bs.length ≤ 1 ∧ ∀ d ∈ bs.map enc, d ≠ .none) ∨ ∃ r, bs.map enc = .tuple [] :: r ∧ ∀ d ∈ r, ∃ xs, d = .tuple xs) (hL : bs.length ≤ sizeLine) (hu : ∀ b, b ∈ bs → A.units + 2 + (enc b).depth < cLine) (h : ∀ out, out.length = bs.length → W.EachIs R out (bs.mergeSort (W.dataLe false enc)) → Q (.ref (s.heap.objs.size + 1)) { s with heap := sortedAll s.heap vs (List.toArray out) }) :
    wpAny (model prog w) A (PySem.call (.builtin "sorted") [.ref l]) Q E s := by
  have er' : W.EachIs (fun v b => ∃ as, Reads (W.sortingHeap (W.copyHeap s.heap vs) (s.heap.objs.size + 1) vs) v (enc b) as) vs bs := er.mono fun _ _ ⟨as, r⟩ => ⟨as, PyProof.Rows.Reads.keeps (fun _ _ => W.sorting_copy_old) r⟩
  have em := W.each_map (R := fun v d => ∃ as, Reads (W.sortingHeap (W.copyHeap s.heap vs) (s.heap.objs.size + 1) vs) v d as) enc er'
  rcases hk with hk | hk | ⟨r, hk, ht⟩
  · exact sorted_vals2 hl (W.SortsAt.data (s := { s with heap := W.sortingHeap (W.copyHeap s.heap vs) (s.heap.objs.size + 1) vs }) em hal hk (W.bound_map hu)) (by rw [e.length]; exact hL)
      (h _ (by rw [W.sortVals_length false rfl]; exact e.length) (W.sortVals_data false e er' hal))
  · exact sorted_vals2 hl (sortsAt_one (s := { s with heap := W.sortingHeap (W.copyHeap s.heap vs) (s.heap.objs.size + 1) vs }) em hal hk.2 (by rw [e.length]; exact hk.1) (W.bound_map hu)) (by rw [e.length]; exact hL)
      (h _ (by rw [W.sortVals_length false rfl]; exact e.length) (W.sortVals_data false e er' hal))
  · have sa : W.SortsAt prog w A.in1.in1 { s with heap := W.sortingHeap (W.copyHeap s.heap vs) (s.heap.objs.size + 1) vs } (W.dataKind (W.sortingHeap (W.copyHeap s.heap vs) (s.heap.objs.size + 1) vs) (bs.map enc)) vs := by
      have hb : ∀ d ∈ bs.map enc, A.in1.in1.units + d.depth < cLine := W.bound_map hu
      rw [hk] at em hal hb ⊢
      exact sortsAt_nil (s := { s with heap := W.sortingHeap (W.copyHeap s.heap vs) (s.heap.objs.size + 1) vs }) em hal ht hb
    exact sorted_vals2 hl sa (by rw [e.length]; exact hL)
      (h _ (by rw [W.sortVals_length false rfl]; exact e.length) (W.sortVals_data false e er' hal))
theorem call_sortedD (hu : X.A.units + 64 < cLine) : CallR X (.builtin "sorted") (rSortedD X.K) := by
  intro pins s σ H xs us Q I r h
  obtain ⟨p, vs, ds, rfl, hq, k, so, q⟩ := h
  cases r with | cons r rr =>
  cases rr; cases r
  obtain ⟨its, rv, pl, hz⟩ : ∃ its : List Value, Vals vs its ∧ (s.heap.IsList p its.toArray ∨ IsTup s.heap p its.toArray) ∧ vs.length ≤ sizeLine := by
    rcases hq with hq | hq
    · obtain ⟨its, rv, pl, hz⟩ := I.list (.of hq)
      exact ⟨its, rv, .inl pl.isList, hz⟩
    · obtain ⟨its, rv, pl, hz⟩ := I.tuple hq
      exact ⟨its, rv, .inr pl, hz⟩
  obtain ⟨as, ra⟩ := dqAll_reads I k rv
  obtain ⟨h1, h2⟩ := srt_snd k
  have hlen : (vs.zip ds).length = ds.length := by rw [← List.length_map (f := (·.2)), h1]
  refine sorted_dataQ (bs := vs.zip ds) (enc := fun b => b.2) (R := fun u b => RelV b.1 u) (vs := its) pl (srt_each k rv) (srt_reads h1 ra) (by rw [h1]; exact so.al) (by rw [h1, hlen]; exact so.so) (by rw [hlen]; exact so.len) (fun b hb => ?_) fun out hl he => ?_
  · have := so.dp b.2 (by rw [← h1]; exact List.mem_map_of_mem hb)
    omega
  · have hperm := List.mergeSort_perm (vs.zip ds) (W.dataLe false (fun b : V × D => b.2))
    obtain ⟨ep, he'⟩ := PyProof.Rows.sortedAll_at s.heap its out.toArray
    refine ⟨.ref _, upd H (s.heap.objs.size + 1) (.lst (srtVs vs ds)), I.laid (t' := s.toks) (fun _ _ => PyProof.Rows.sortedAll_old) (Nat.le_succ _) ⟨?_, out, ep, srt_vals he, he'⟩, rfl, q _ (I.hok.fresh (Nat.le_succ _))⟩
    show (((vs.zip ds).mergeSort _).map _).length ≤ sizeLine
    rw [List.length_map, hperm.length_eq, hlen]; exact so.len
theorem kSorted (hu : X.A.units + 64 < cLine) : CalF X (.builtin "sorted") sortedR := ⟨_, call_sortedD hu, by
  intro c G H vs ds post Q w bs hp q
  match ds, bs, hp with
  | [.list xs], bs, hp =>
    obtain ⟨v, rfl, b⟩ := bs.one
    obtain ⟨p, us, rfl, h1, h2, _⟩ := b.lst w.w
    exact ⟨p, us, xs, rfl, .inl h1, h2.mono w.w.sub, hp.1, fun n hn => fin_new w .refl hn h2.srt hp.2 q⟩
  | [.tuple xs], bs, hp =>
    obtain ⟨v, rfl, b⟩ := bs.one
    obtain ⟨p, us, rfl, h1, h2⟩ := b.tup
    exact ⟨p, us, xs, rfl, .inr (sqT_mono w.w.sub h1), h2.mono w.w.sub, hp.1, fun n hn => fin_new w .refl hn h2.srt hp.2 q⟩⟩
end
end Pu

namespace Pu
open PySem PySem.Spec PyProof.Rows L2
/-! ### zip, enumerate: walked -/
def zipD (xs ys : List D) : List D := List.zipWith (fun x y => .tuple [x, y]) xs ys
def zipR : List D → R (List D)
  | [.list xs, .list ys] => bd (req (xs.length ≤ sizeLine)) fun _ => ok (zipD xs ys)
  | [.tuple xs, .tuple ys] => bd (req (xs.length ≤ sizeLine)) fun _ => ok (zipD xs ys)
  | _ => fail
def enumD (xs : List D) : List D := xs.mapIdx fun i x => .tuple [.int (i : Int), x]
def enumR : List D → R (List D)
  | [.list xs] => bd (req (xs.length ≤ sizeLine)) fun _ => ok (enumD xs)
  | _ => fail
theorem zip_get {xs ys : List D} {i : Nat} {d : D} (h : (zipD xs ys)[i]? = some d) : ∃ x y, xs[i]? = some x ∧ ys[i]? = some y ∧ d = .tuple [x, y] := by
  unfold zipD at h
  rw [List.getElem?_zipWith] at h
  cases hx : xs[i]? with
  | none => rw [hx] at h; cases h
  | some x =>
    cases hy : ys[i]? with
    | none => rw [hx, hy] at h; cases h
    | some y => rw [hx, hy] at h; cases h; exact ⟨x, y, rfl, rfl, rfl⟩
theorem zip_len (xs ys : List D) : (zipD xs ys).length = min xs.length ys.length := by simp [zipD]
theorem enum_get {xs : List D} {i : Nat} {d : D} (h : (enumD xs)[i]? = some d) : ∃ x, xs[i]? = some x ∧ d = .tuple [.int (i : Int), x] := by
  unfold enumD at h
  rw [List.getElem?_mapIdx] at h
  cases hx : xs[i]? with
  | none => rw [hx] at h; cases h
  | some x => rw [hx] at h; cases h; exact ⟨x, rfl, rfl⟩
theorem enum_len (xs : List D) : (enumD xs).length = xs.length := by simp [enumD]
theorem pair_new {K : PySem.W.Frag} {c : Ct} {G H : Hp} {T : Addr} {v u : V} {x y : D} (w : W0 c.E G H) (n : H T = none) (k1 : Dq K G v x) (k2 : Dq K G u y) : ∃ G1, Ext c.E G H G1 (upd H T (.tup [v, u])) ∧ W0 c.E G1 (upd H T (.tup [v, u])) ∧ Dq K G1 (.ref T) (.tuple [x, y]) := by
  obtain ⟨w1, e1⟩ := w.newF n (.tup [v, u])
  exact ⟨_, e1, w1, .tup (.of upd_same) (.cons (k1.mono e1.g) (.cons (k2.mono e1.g) .nil))⟩
theorem wks_zipL {K : PySem.W.Frag} {c : Ct} {a b : Addr} {xs ys : List V} {ds es : List D} {Rel : Hp → Hp → Prop} (h : ∀ G H, Rel G H → W0 c.E G H → (SqL K H a xs ∧ SqL K H b ys) ∧ DqAll K G xs ds ∧ DqAll K G ys es) : Wks K c (Itz K a b) Rel (zipD ds es) := by
  intro i G H r w
  obtain ⟨⟨h1, h2⟩, k1, k2⟩ := h G H r w
  refine ⟨fun d hd => ?_, fun hl => ⟨xs, ys, h1, h2, by rw [zip_len, ← k1.length, ← k2.length] at hl; omega⟩⟩
  obtain ⟨x, y, e1, e2, rfl⟩ := zip_get hd
  obtain ⟨v, f1, d1⟩ := k1.get e1
  obtain ⟨u, f2, d2⟩ := k2.get e2
  refine ⟨⟨xs, ys, v, u, h1, h2, f1, f2⟩, fun z H1 yl => ?_⟩
  obtain ⟨T, v', u', rfl, n, rfl, g1, g2⟩ := yl
  obtain rfl : v' = v := Option.some.inj ((g1 _ h1).symm.trans f1)
  obtain rfl : u' = u := Option.some.inj ((g2 _ h2).symm.trans f2)
  exact pair_new w n d1 d2
theorem wks_zipT {K : PySem.W.Frag} {c : Ct} {a b : Addr} {xs ys : List V} {ds es : List D} {Rel : Hp → Hp → Prop} (h : ∀ G H, Rel G H → W0 c.E G H → (SqT K H a xs ∧ SqT K H b ys) ∧ DqAll K G xs ds ∧ DqAll K G ys es) : Wks K c (RZ.ItzT K a b) Rel (zipD ds es) := by
  intro i G H r w
  obtain ⟨⟨h1, h2⟩, k1, k2⟩ := h G H r w
  refine ⟨fun d hd => ?_, fun hl => ⟨xs, ys, h1, h2, by rw [zip_len, ← k1.length, ← k2.length] at hl; omega⟩⟩
  obtain ⟨x, y, e1, e2, rfl⟩ := zip_get hd
  obtain ⟨v, f1, d1⟩ := k1.get e1
  obtain ⟨u, f2, d2⟩ := k2.get e2
  refine ⟨⟨xs, ys, v, u, h1, h2, f1, f2⟩, fun z H1 yl => ?_⟩
  obtain ⟨T, v', u', rfl, n, rfl, g1, g2⟩ := yl
  obtain rfl : v' = v := Option.some.inj ((g1 _ h1).symm.trans f1)
  obtain rfl : u' = u := Option.some.inj ((g2 _ h2).symm.trans f2)
  exact pair_new w n d1 d2
theorem wks_enum {K : PySem.W.Frag} {c : Ct} {a : Addr} {xs : List V} {ds : List D} {Rel : Hp → Hp → Prop} (h : ∀ G H, Rel G H → W0 c.E G H → SqL K H a xs ∧ DqAll K G xs ds) : Wks K c (Ite K a) Rel (enumD ds) := by
  intro i G H r w
  obtain ⟨h1, k1⟩ := h G H r w
  refine ⟨fun d hd => ?_, fun hl => ⟨xs, h1, by rw [enum_len, ← k1.length] at hl; exact hl⟩⟩
  obtain ⟨x, e1, rfl⟩ := enum_get hd
  obtain ⟨v, f1, d1⟩ := k1.get e1
  refine ⟨⟨xs, v, h1, f1⟩, fun z H1 yl => ?_⟩
  obtain ⟨T, v', rfl, n, rfl, g1⟩ := yl
  obtain rfl : v' = v := Option.some.inj ((g1 _ h1).symm.trans f1)
  exact pair_new w n (.int _) d1
section
variable {X : Cx} {a b : Expr} {pos p tpos : Pos} {elts : List Expr} {kk : Nat}
theorem DqAll.two {K : PySem.W.Frag} {G : Hp} {vs : List V} {d e : D} (h : DqAll K G vs [d, e]) : ∃ v u, vs = [v, u] ∧ Dq K G v d ∧ Dq K G u e := by
  cases h with | cons h1 h => cases h with | cons h2 h => cases h; exact ⟨_, _, rfl, h1, h2⟩
theorem DqAll.one1 {K : PySem.W.Frag} {G : Hp} {vs : List V} {d : D} (h : DqAll K G vs [d]) : ∃ v, vs = [v] ∧ Dq K G v d := by
  cases h with | cons h1 h => cases h; exact ⟨_, rfl, h1⟩
theorem zip_le {xs ys : List D} (h : xs.length ≤ sizeLine) : (zipD xs ys).length ≤ sizeLine := by rw [zip_len]; omega
theorem enum_le {xs : List D} (h : xs.length ≤ sizeLine) : (enumD xs).length ≤ sizeLine := by rw [enum_len]; exact h
/-- zip of frozen lists or tuples: for a statement -/
theorem iZ {f : List Sl → R (List D)} (hm : X.mg "zip" = none) (ha : PA X [a, b] (tAF X.K f)) (hg : Gl X "zip" := by rfl) (hs : starEach [a, b] X.env = (false, eval a X.env) :: starEach [b] X.env := by rfl) (hpl : (backTo pos (starEach [b] X.env)).any (·.1) = false := by rfl) : PI X (.Tuple elts kk tpos) (.Call (.Name "zip" p) [a, b] [] pos) (tIs X.K (m1 f zipR)) :=
  PI.wk (RZ.pi_zipA hg hm ha hs hpl) fun σ H R' ⟨c, G, ρ, post, w, r, hf, q⟩ => ⟨c, G, ρ, _, w, r, hf, fun ds hds vs G1 H1 e1 w1 b1 => by
    match ds, b1, hds with
    | [.list xs, .list ys], b1, hds =>
      obtain ⟨v, u, rfl, k1, k2⟩ := b1.two
      cases k1 with
      | lst s1 q1 =>
        cases k2 with
        | lst s2 q2 => exact ⟨_, _, _, _, rfl, .inl ⟨.of (w1.sub _ _ s1), .of (w1.sub _ _ s2), q _ hds.2 (zip_le hds.1) _ G1 H1 e1 w1 (wks_zipL fun G2 H2 l w2 => ⟨⟨.of (w2.sub _ _ (l _ _ s1)), .of (w2.sub _ _ (l _ _ s2))⟩, q1.mono l, q2.mono l⟩)⟩⟩
    | [.tuple xs, .tuple ys], b1, hds =>
      obtain ⟨v, u, rfl, k1, k2⟩ := b1.two
      cases k1 with
      | tup s1 q1 =>
        cases k2 with
        | tup s2 q2 => exact ⟨_, _, _, _, rfl, .inr ⟨sqT_mono w1.sub s1, sqT_mono w1.sub s2, q _ hds.2 (zip_le hds.1) _ G1 H1 e1 w1 (wks_zipT fun G2 H2 l w2 => ⟨⟨sqT_mono w2.sub (sqT_mono l s1), sqT_mono w2.sub (sqT_mono l s2)⟩, q1.mono l, q2.mono l⟩)⟩⟩⟩
/-- .. looked at only: for a comprehension -/
theorem iZB {f : List Sl → R (List D)} (hm : X.mg "zip" = none) (ha : PA X [a, b] (tAB X.K f)) (hg : Gl X "zip" := by rfl) (hs : starEach [a, b] X.env = (false, eval a X.env) :: starEach [b] X.env := by rfl) (hpl : (backTo pos (starEach [b] X.env)).any (·.1) = false := by rfl) : PI X (.Tuple elts kk tpos) (.Call (.Name "zip" p) [a, b] [] pos) (tIw X.K (m1 f zipR)) :=
  PI.wk (RZ.pi_zipA hg hm ha hs hpl) fun σ H R' ⟨c, G, ρ, post, w, r, hf, q⟩ => ⟨c, G, ρ, _, w, r, hf, fun ds hds vs G1 H1 e1 w1 b1 => by
    match ds, b1, hds with
    | [.list xs, .list ys], b1, hds =>
      obtain ⟨v, u, rfl, k1, k2⟩ := b1.two
      obtain ⟨p1, vs1, rfl, s1, q1, n1⟩ := k1.lst w1
      obtain ⟨p2, vs2, rfl, s2, q2, n2⟩ := k2.lst w1
      exact ⟨_, _, _, _, rfl, .inl ⟨.of s1, .of s2, q _ hds.2 (zip_le hds.1) _ G1 H1 e1 w1 (wks_zipL fun G2 H2 l w2 => ⟨⟨.of (l.h _ _ s1 n1), .of (l.h _ _ s2 n2)⟩, q1.mono l.g, q2.mono l.g⟩)⟩⟩
    | [.tuple xs, .tuple ys], b1, hds =>
      obtain ⟨v, u, rfl, k1, k2⟩ := b1.two
      obtain ⟨p1, vs1, rfl, s1, q1⟩ := k1.tup
      obtain ⟨p2, vs2, rfl, s2, q2⟩ := k2.tup
      exact ⟨_, _, _, _, rfl, .inr ⟨sqT_mono w1.sub s1, sqT_mono w1.sub s2, q _ hds.2 (zip_le hds.1) _ G1 H1 e1 w1 (wks_zipT fun G2 H2 l w2 => ⟨⟨sqT_mono w2.sub (sqT_mono l.g s1), sqT_mono w2.sub (sqT_mono l.g s2)⟩, q1.mono l.g, q2.mono l.g⟩)⟩⟩⟩
/-- enumerate of a frozen list: for a statement -/
theorem iE {f : List Sl → R (List D)} (hm : X.mg "enumerate" = none) (ha : PA X [a] (tAF X.K f)) (hg : Gl X "enumerate" := by rfl) (hs : starEach [a] X.env = [(false, eval a X.env)] := by rfl) : PI X (.Tuple elts kk tpos) (.Call (.Name "enumerate" p) [a] [] pos) (tIs X.K (m1 f enumR)) :=
  PI.wk (pi_enum hg hm ha hs) fun σ H R' ⟨c, G, ρ, post, w, r, hf, q⟩ => ⟨c, G, ρ, _, w, r, hf, fun ds hds vs G1 H1 e1 w1 b1 => by
    match ds, b1, hds with
    | [.list xs], b1, hds =>
      obtain ⟨v, rfl, k1⟩ := b1.one1
      cases k1 with
      | lst s1 q1 => exact ⟨_, _, rfl, .of (w1.sub _ _ s1), q _ hds.2 (enum_le hds.1) _ G1 H1 e1 w1 (wks_enum fun G2 H2 l w2 => ⟨.of (w2.sub _ _ (l _ _ s1)), q1.mono l⟩)⟩⟩
/-- .. looked at only -/
theorem iEB {f : List Sl → R (List D)} (hm : X.mg "enumerate" = none) (ha : PA X [a] (tAB X.K f)) (hg : Gl X "enumerate" := by rfl) (hs : starEach [a] X.env = [(false, eval a X.env)] := by rfl) : PI X (.Tuple elts kk tpos) (.Call (.Name "enumerate" p) [a] [] pos) (tIw X.K (m1 f enumR)) :=
  PI.wk (pi_enum hg hm ha hs) fun σ H R' ⟨c, G, ρ, post, w, r, hf, q⟩ => ⟨c, G, ρ, _, w, r, hf, fun ds hds vs G1 H1 e1 w1 b1 => by
    match ds, b1, hds with
    | [.list xs], b1, hds =>
      obtain ⟨v, rfl, k1⟩ := b1.one
      obtain ⟨p1, vs1, rfl, s1, q1, n1⟩ := k1.lst w1
      exact ⟨_, _, rfl, .of s1, q _ hds.2 (enum_le hds.1) _ G1 H1 e1 w1 (wks_enum fun G2 H2 l w2 => ⟨.of (l.h _ _ s1 n1), q1.mono l.g⟩)⟩⟩
end
end Pu

namespace Pu
open PySem PySem.Spec PyProof.Rows L2
/-! ### what the words of a mirror come to, as equations -/
def tu {α : Type} (f : α → D) (l : List α) : D := .tuple (l.map f)
def li {α : Type} (f : α → D) (l : List α) : D := .list (l.map f)
section
variable {α β : Type} {f : α → D} {ρ : List Sl}
@[simp] theorem nDR_0 (d : D) (ρ : List Sl) : nDR 0 (.dat d :: ρ) = ok d := (rfl)
@[simp] theorem nDR_s (i : Nat) (s : Sl) (ρ : List Sl) : nDR (i + 1) (s :: ρ) = nDR i ρ := (rfl)
@[simp] theorem nBR_0 (d : D) (ρ : List Sl) : nBR 0 (.dat d :: ρ) = ok d := (rfl)
@[simp] theorem nBR_0o (ds : List D) (ρ : List Sl) : nBR 0 (.own ds :: ρ) = ok (.list ds) := (rfl)
@[simp] theorem nBR_s (i : Nat) (s : Sl) (ρ : List Sl) : nBR (i + 1) (s :: ρ) = nBR i ρ := (rfl)
@[simp] theorem getO_0 (ds : List D) (ρ : List Sl) : getO (.own ds :: ρ) 0 = ok ds := (rfl)
@[simp] theorem getO_s (i : Nat) (s : Sl) (ρ : List Sl) : getO (s :: ρ) (i + 1) = getO ρ i := (rfl)
@[simp] theorem kR_e (d : D) : kR d ρ = ok d := (rfl)
@[simp] theorem m1_e {γ : Type} (g : List Sl → R β) (h : β → R γ) : m1 g h ρ = bd (g ρ) h := (rfl)
@[simp] theorem m2_e {γ δ : Type} (g : List Sl → R β) (k : List Sl → R γ) (h : β → γ → R δ) : m2 g k h ρ = bd (g ρ) fun x => bd (k ρ) fun y => h x y := (rfl)
@[simp] theorem m3_e {γ δ ε : Type} (g : List Sl → R β) (k : List Sl → R γ) (l : List Sl → R δ) (h : β → γ → δ → R ε) : m3 g k l h ρ = bd (g ρ) fun x => bd (k ρ) fun y => bd (l ρ) fun z => h x y z := (rfl)
@[simp] theorem consR_e (g : List Sl → R β) (h : List Sl → R (List β)) : consR g h ρ = bd (g ρ) fun x => bd (h ρ) fun xs => ok (x :: xs) := (rfl)
@[simp] theorem nilR_e : (nilR : List Sl → R (List β)) ρ = ok [] := (rfl)
@[simp] theorem seqM_e (g h : List Sl → R Out) : seqM g h ρ = bd (g ρ) (nxt h) := (rfl)
@[simp] theorem setM_e (i : Nat) (g : List Sl → R D) : setM i g ρ = bd (g ρ) fun d => ok (.nx (ρ.set i (.dat d))) := (rfl)
@[simp] theorem setO_e (i : Nat) (g : List Sl → R (List D)) : setO i g ρ = bd (g ρ) fun d => ok (.nx (ρ.set i (.own d))) := (rfl)
@[simp] theorem retM_e (g : List Sl → R D) : retM g ρ = bd (g ρ) fun d => ok (.rt d) := (rfl)
@[simp] theorem ifV_e (t : List Sl → R Bool) (g h : List Sl → R β) : ifV t g h ρ = bd (t ρ) fun b => if b = true then g ρ else h ρ := (rfl)
@[simp] theorem nilM_e : nilM ρ = ok (.nx ρ) := (rfl)
@[simp] theorem frz_e (g : List Sl → R (List D)) : frz g ρ = bd (g ρ) fun ds => ok (.list ds) := (rfl)
@[simp] theorem noR_e : noR ρ = ok none := (rfl)
@[simp] theorem yesT_e : yesT ρ = ok true := (rfl)
@[simp] theorem andT_e (g h : List Sl → R Bool) : andT g h ρ = bd (g ρ) fun b => if b = true then h ρ else ok false := (rfl)
@[simp] theorem orT_e (g h : List Sl → R Bool) : orT g h ρ = bd (g ρ) fun b => if b = true then ok true else h ρ := (rfl)
@[simp] theorem notT_e (g : List Sl → R Bool) : notT g ρ = bd (g ρ) fun b => ok (!b) := (rfl)
@[simp] theorem andV_e (g h : List Sl → R D) : andV g h ρ = bd (g ρ) fun d => bd (truR d) fun b => if b = true then h ρ else ok d := (rfl)
@[simp] theorem orV_e (g h : List Sl → R D) : orV g h ρ = bd (g ρ) fun d => bd (truR d) fun b => if b = true then ok d else h ρ := (rfl)
@[simp] theorem notV_e (g : List Sl → R D) : notV g ρ = bd (g ρ) fun d => bd (truR d) fun b => ok (.bool (!b)) := (rfl)
@[simp] theorem chain_e {γ : Type} (fin : D → R γ) (h h' : D → D → R D) (a b c : List Sl → R D) : chain fin h h' a b c ρ = bd (a ρ) fun x => bd (b ρ) fun y => bd (h x y) fun z => bd (asB z) fun t => bd (if t = true then bd (c ρ) fun w => h' y w else ok (.bool false)) fin := (rfl)
theorem forM_e (fi : List Sl → R (List D)) (g : D → List Sl → R (List Sl)) (tb : List Sl → R Out) : forM fi g tb ρ = bd (fi ρ) fun ds => forF g tb ds ρ := rfl
theorem lcM_e (vs : List Nat) (fi : List Sl → R (List D)) (g : D → List Sl → R (List Sl)) (tt : List Sl → R Bool) (te : List Sl → R D) : lcM vs fi g tt te ρ = bd (fi ρ) fun ds => lcF g tt te ds (wipeS ρ vs) := rfl
@[simp] theorem mutM_e (i : Nat) (g : List Sl → R (List D)) (h : List D → List D → R (List D)) : mutM i g h ρ = bd (getO ρ i) fun _ => bd (g ρ) fun args => bd (getO ρ i) fun ds => bd (h ds args) fun es => ok (.nx (ρ.set i (.own es))) := (rfl)
@[simp] theorem popM_e (i : Nat) (f : List Sl → R (List D)) (h : List D → List D → R (D × List D)) (g : D → List Sl → R (List Sl)) : popM i f h g ρ = bd (getO ρ i) fun _ => bd (f ρ) fun args => bd (getO ρ i) fun ds => bd (h ds args) fun p => bd (g p.1 (ρ.set i (.own p.2))) fun ρ' => ok (.nx ρ') := (rfl)
theorem fnM_e (n : Nat) (g : List Sl → R Out) (ds : List D) : fnM n g ds = bd (g (env0 ds n)) endM := rfl
theorem fnX_e (j n : Nat) (g : List Sl → R Out) (ds : List D) : fnX j n g ds = bd (g (.box j :: env0 ds (n - 1))) endM := rfl
@[simp] theorem gSet_e (i : Nat) (d : D) : gSet i d ρ = ok (ρ.set i (.dat d)) := (rfl)
theorem ite_ok {b : Bool} {x y : β} : (if b = true then (ok x : R β) else ok y) = ok (if b = true then x else y) := by cases b <;> rfl
/-- truth -/
@[simp] theorem truR_bool (b : Bool) : truR (.bool b) = ok b := (rfl)
@[simp] theorem truR_int (i : Int) : truR (.int i) = ok (i != 0) := (rfl)
@[simp] theorem truR_none : truR .none = ok false := (rfl)
@[simp] theorem truR_tup (l : List α) : truR (tu f l) = ok (!l.isEmpty) := by cases l <;> rfl
@[simp] theorem truR_tuple (l : List D) : truR (.tuple l) = ok (!l.isEmpty) := (rfl)
@[simp] theorem truR_list (l : List D) : truR (.list l) = ok (!l.isEmpty) := (rfl)
/-- numbers -/
@[simp] theorem addR_int (i j : Int) : addR (.int i) (.int j) = ok (.int (i + j)) := (rfl)
@[simp] theorem subR_int (i j : Int) : subR (.int i) (.int j) = ok (.int (i - j)) := (rfl)
@[simp] theorem negR_int (i : Int) : negR (.int i) = ok (.int (-i)) := (rfl)
@[simp] theorem absR_int (i : Int) : absR [.int i] = ok (.int (i.natAbs : Int)) := by
  show ok (PyData.int (if i < 0 then -i else i)) = ok (PyData.int (i.natAbs : Int))
  congr 2; split <;> omega
@[simp] theorem asI_int (i : Int) : asI (.int i) = ok (some i) := (rfl)
theorem mulR_int {i j : Int} (h : mulOk i j) : mulR (.int i) (.int j) = ok (.int (i * j)) := bd_req h _
theorem fdivR_int {i j : Int} (h : divOk j) : fdivR (.int i) (.int j) = ok (.int (i.fdiv j)) := bd_req h _
theorem dpI (i : Int) (d : D) : min (PyData.int i).depth d.depth ≤ 60 := Nat.le_trans (Nat.min_le_left _ _) (by simp [PyData.depth])
theorem dpR (i : Int) (d : D) : min d.depth (PyData.int i).depth ≤ 60 := Nat.le_trans (Nat.min_le_right _ _) (by simp [PyData.depth])
@[simp] theorem eqR_int (i j : Int) : eqR (.int i) (.int j) = ok (.bool (decide (i = j))) := by
  rw [eqR, bd_req (dpI _ _)]; congr 2
@[simp] theorem neR_int (i j : Int) : neR (.int i) (.int j) = ok (.bool (!decide (i = j))) := by
  rw [neR, bd_req (dpI _ _)]; congr 2
theorem ordI (i j : Int) : ordOk (.int i) (.int j) := ⟨by simp [W.alike], by simp, dpI _ _⟩
@[simp] theorem ltR_int (i j : Int) : ltR (.int i) (.int j) = ok (.bool (decide (i < j))) := by
  rw [ltR, bd_req (ordI _ _), W.dataLt_int]
@[simp] theorem gtR_int (i j : Int) : gtR (.int i) (.int j) = ok (.bool (decide (j < i))) := by
  rw [gtR, bd_req (ordI _ _), W.dataLt_int]
@[simp] theorem leR_int (i j : Int) : leR (.int i) (.int j) = ok (.bool (decide (i ≤ j))) := by
  rw [leR, bd_req (ordI _ _), W.dataLt_int]; congr 2; by_cases h : j < i <;> simp [h] <;> omega
@[simp] theorem geR_int (i j : Int) : geR (.int i) (.int j) = ok (.bool (decide (j ≤ i))) := by
  rw [geR, bd_req (ordI _ _), W.dataLt_int]; congr 2; by_cases h : i < j <;> simp [h] <;> omega
/-- rows -/
@[simp] theorem lenR_tup (l : List α) : lenR [tu f l] = ok (.int l.length) := by simp [tu, lenR]
@[simp] theorem lenR_lst (l : List α) : lenR [li f l] = ok (.int l.length) := by simp [li, lenR]
@[simp] theorem lenR_list (l : List D) : lenR [.list l] = ok (.int l.length) := (rfl)
@[simp] theorem lenR_tuple (l : List D) : lenR [.tuple l] = ok (.int l.length) := (rfl)
@[simp] theorem revR_tup (l : List α) : revR (tu f l) = ok (tu f l.reverse) := by simp [tu, revR]
@[simp] theorem tupOfR_list (l : List α) : tupOfR [.list (l.map f)] = ok (tu f l) := (rfl)
@[simp] theorem tupOfR_lst (l : List α) : tupOfR [li f l] = ok (tu f l) := (rfl)
@[simp] theorem tupOfR_tup (l : List α) : tupOfR [tu f l] = ok (tu f l) := (rfl)
@[simp] theorem lstOfR_tup (l : List α) : lstOfR [tu f l] = ok (l.map f) := (rfl)
@[simp] theorem lstOfR_lst (l : List α) : lstOfR [li f l] = ok (l.map f) := (rfl)
theorem cutG_map (l : List α) (lo hi : Option Int) : cutG (l.map f) lo hi = (cutG l lo hi).map f := by simp [cutG, List.map_take, List.map_drop]
@[simp] theorem slR_tup (l : List α) (lo hi : Option Int) : slR (tu f l) lo hi = ok (tu f (cutG l lo hi)) := by
  show ok (PyData.tuple (cutG (l.map f) lo hi)) = _; rw [cutG_map]; rfl
@[simp] theorem slR_lst (l : List α) (lo hi : Option Int) : slR (li f l) lo hi = ok (li f (cutG l lo hi)) := by
  show ok (PyData.list (cutG (l.map f) lo hi)) = _; rw [cutG_map]; rfl
theorem addR_tup {l k : List α} (h : l.length + k.length ≤ sizeLine) : addR (tu f l) (tu f k) = ok (tu f (l ++ k)) := by
  show bd (req _) _ = _
  rw [bd_req (by simpa using h)]; simp [tu]
theorem addR_lst {l k : List α} (h : l.length + k.length ≤ sizeLine) : addR (li f l) (li f k) = ok (li f (l ++ k)) := by
  show bd (req _) _ = _
  rw [bd_req (by simpa using h)]; simp [li]
theorem cut_lo {l : List α} {k : Nat} : cutG l none (some (k : Int)) = l.take k := by
  unfold cutG; rw [HT.sIx_none, HT.sIx_nat]; simp
theorem cut_hi {l : List α} {k : Nat} : cutG l (some (k : Int)) none = l.drop k := by
  unfold cutG; rw [HT.sIx_none, HT.sIx_nat]
  rcases Nat.le_total k l.length with h | h
  · rw [Nat.min_eq_left h]; apply List.take_of_length_le; simp
  · rw [Nat.min_eq_right h, List.drop_of_length_le (Nat.le_refl _), List.drop_of_length_le h]; simp
theorem atI_nat {l : List α} {k : Nat} (h : k < l.length) : L2.atI l (k : Int) = some l[k] := by
  unfold L2.atI L2.ixN
  rw [if_pos (by omega), if_pos (by omega)]
  simp [h]
theorem atI_last (l : List α) : L2.atI l (-1) = l.getLast? := by
  unfold L2.atI L2.ixN
  rw [if_neg (by omega)]
  cases l with
  | nil => simp
  | cons a l =>
    rw [if_pos (by simp; omega)]
    rw [List.getLast?_eq_getElem?]
    show (a :: l)[_]? = _
    congr 1
    simp; omega
theorem atI_map (l : List α) (i : Int) : L2.atI (l.map f) i = (L2.atI l i).map f := by
  unfold L2.atI
  rw [List.length_map]
  cases L2.ixN l.length i <;> simp
theorem ixR_tup {l : List α} {k : Nat} (h : k < l.length) : ixR (tu f l) (.int k) = ok (f l[k]) := by
  show (match L2.atI (l.map f) k with | some x => ok x | none => fail) = _
  rw [atI_map, atI_nat h]; rfl
theorem ixR_lst {l : List α} {k : Nat} (h : k < l.length) : ixR (li f l) (.int k) = ok (f l[k]) := by
  show (match L2.atI (l.map f) k with | some x => ok x | none => fail) = _
  rw [atI_map, atI_nat h]; rfl
theorem ixR_at {l : List D} {i : Int} {d : D} (h : L2.atI l i = some d) : ixR (.tuple l) (.int i) = ok d := by
  show (match L2.atI l i with | some x => ok x | none => fail) = _; rw [h]
theorem ixR_atl {l : List D} {i : Int} {d : D} (h : L2.atI l i = some d) : ixR (.list l) (.int i) = ok d := by
  show (match L2.atI l i with | some x => ok x | none => fail) = _; rw [h]
theorem tupR_e {l : List D} (h : l.length ≤ sizeLine) : tupR l = ok (.tuple l) := bd_req h _
theorem lstR_e {l : List D} (h : l.length ≤ sizeLine) : lstR l = ok l := bd_req h _
@[simp] theorem itR_tup {g : List Sl → R D} {l : List α} (h : g ρ = ok (tu f l)) : itR g ρ = ok (l.map f) := by
  unfold itR; rw [h, bd_ok, show itemsR (tu f l) = ok (l.map f) from rfl, bd_ok, bd_req (.inr (fun z e => by cases e))]
@[simp] theorem itR_lst {g : List Sl → R D} {l : List α} (h : g ρ = ok (li f l)) : itR g ρ = ok (l.map f) := by
  unfold itR; rw [h, bd_ok, show itemsR (li f l) = ok (l.map f) from rfl, bd_ok, bd_req (.inr (fun z e => by cases e))]
theorem itR_tuple {g : List Sl → R D} {l : List D} (h : g ρ = ok (.tuple l)) : itR g ρ = ok l := by
  unfold itR; rw [h, bd_ok, show itemsR (.tuple l) = ok (l) from rfl, bd_ok, bd_req (.inr (fun z e => by cases e))]
theorem itR_list {g : List Sl → R D} {l : List D} (h : g ρ = ok (.list l)) : itR g ρ = ok l := by
  unfold itR; rw [h, bd_ok, show itemsR (.list l) = ok (l) from rfl, bd_ok, bd_req (.inr (fun z e => by cases e))]
def nI (k : Nat) : D := .int (k : Int)
theorem range1_e {n : Int} (h : n ≤ sizeLine) (h' : -1000 ≤ n) : range1R [.int n] = ok ((List.range n.toNat).map nI) := by
  have h2 : (sizeLine : Int) < 2 ^ 62 := by decide
  show bd (req _) _ = _
  rw [bd_req ⟨by omega, by omega, by omega, by omega, by omega⟩]
  show ok (rngD 0 n) = _
  congr 1
  simp [rngD]; intro a _; rfl
/-- a comprehension -/
theorem lcM_set {vs : List Nat} {i : Nat} {fi : List Sl → R (List D)} {tt : List Sl → R Bool} {te : List Sl → R D} {l : List α} {p : α → Bool} {h : α → D} (hi : fi ρ = ok (l.map f))
    (ht : ∀ x ∈ l, tt ((wipeS ρ vs).set i (.dat (f x))) = ok (p x)) (he : ∀ x ∈ l, p x = true → te ((wipeS ρ vs).set i (.dat (f x))) = ok (h x)) : lcM vs fi (gSet i) tt te ρ = ok ((l.filter p).map h) := by
  rw [lcM_e, hi, bd_ok]
  generalize wipeS ρ vs = σ at ht he
  clear hi
  induction l with
  | nil => rfl
  | cons x l ih =>
    have ih := ih (fun y hy => ht y (List.mem_cons_of_mem _ hy)) (fun y hy => he y (List.mem_cons_of_mem _ hy))
    rw [List.map_cons, lcF, gSet_e, bd_ok, ht x List.mem_cons_self, bd_ok]
    cases hp : p x with
    | false => rw [if_neg (by simp), ih, List.filter_cons_of_neg (by simp [hp])]
    | true => rw [if_pos rfl, he x List.mem_cons_self hp, bd_ok, ih, bd_ok, List.filter_cons_of_pos hp]; rfl
theorem lcM_map {vs : List Nat} {i : Nat} {fi : List Sl → R (List D)} {te : List Sl → R D} {l : List α} {h : α → D} (hi : fi ρ = ok (l.map f))
    (he : ∀ x ∈ l, te ((wipeS ρ vs).set i (.dat (f x))) = ok (h x)) : lcM vs fi (gSet i) yesT te ρ = ok (l.map h) := by
  rw [lcM_set (p := fun _ => true) hi (fun x hx => rfl) (fun x hx _ => he x hx), List.filter_eq_self.mpr (fun _ _ => rfl)]
theorem forF_set {i : Nat} {tb : List Sl → R Out} {l : List α} (st : β → List Sl) (step : β → α → β) (h : ∀ b, ∀ x ∈ l, tb ((st b).set i (.dat (f x))) = ok (.nx (st (step b x)))) (b : β) : forF (gSet i) tb (l.map f) (st b) = ok (.nx (st (l.foldl step b))) := by
  induction l generalizing b with
  | nil => rfl
  | cons x l ih =>
    rw [List.map_cons, forF, gSet_e, bd_ok, h b x List.mem_cons_self, bd_ok, lpO_nx, ih fun b y hy => h b y (List.mem_cons_of_mem _ hy)]
    rfl
theorem forF_inv {i : Nat} {tb : List Sl → R Out} (st : β → List Sl) (step : β → α → β) (J : β → List α → Prop) (h : ∀ b x r, J b (x :: r) → tb ((st b).set i (.dat (f x))) = ok (.nx (st (step b x))) ∧ J (step b x) r) : ∀ (l : List α) (b : β), J b l → forF (gSet i) tb (l.map f) (st b) = ok (.nx (st (l.foldl step b)))
  | [], b, _ => rfl
  | x :: l, b, j => by
    obtain ⟨h1, h2⟩ := h b x l j
    rw [List.map_cons, forF, gSet_e, bd_ok, h1, bd_ok, lpO_nx, forF_inv st step J h l _ h2]
    rfl
theorem ixR_last {l : List α} {x : α} (h : l.getLast? = some x) : ixR (.list (l.map f)) (.int (-1)) = ok (f x) := ixR_atl (by rw [atI_map, atI_last, h]; rfl)
theorem whileM_step {t : List Sl → R Bool} {g : List Sl → R Out} {ρ' : List Sl} (ht : t ρ = ok true) (hg : g ρ = ok (.nx ρ')) : whileM t g ρ = whileM t g ρ' := by
  funext post
  apply propext
  constructor
  · rintro ⟨n, h⟩
    cases n with
    | zero => exact h.elim
    | succ n => rw [whileF, ht, bd_ok, if_pos rfl, hg] at h; exact ⟨n, h⟩
  · rintro ⟨n, h⟩
    exact ⟨n + 1, by rw [whileF, ht, bd_ok, if_pos rfl, hg]; exact h⟩
theorem whileM_stop {t : List Sl → R Bool} {g : List Sl → R Out} (ht : t ρ = ok false) : whileM t g ρ = ok (.nx ρ) := by
  funext post
  apply propext
  constructor
  · rintro ⟨n, h⟩
    cases n with
    | zero => exact h.elim
    | succ n => rw [whileF, ht, bd_ok, if_neg (by simp)] at h; exact h
  · intro h
    exact ⟨1, by rw [whileF, ht, bd_ok, if_neg (by simp)]; exact h⟩
theorem allR_bools {l : List α} {p : α → Bool} : allR [.list (l.map fun x => .bool (p x))] = ok (.bool (l.all p)) := by
  show qV (fun ds => ds.all PyData.truthy) (l.map fun x => .bool (p x)) = _
  unfold qV
  rw [bd_req (by simp [List.all_eq_true, smallT])]
  congr 2
  simp only [List.all_map]; rfl
theorem eqvAll_map {f : α → D} (hf : ∀ x y, PyData.eqv (f x) (f y) = true ↔ x = y) : ∀ l k : List α, PyData.eqvAll (l.map f) (k.map f) = true ↔ l = k
  | [], [] => by simp [PyData.eqvAll]
  | [], _ :: _ => by simp [PyData.eqvAll]
  | _ :: _, [] => by simp [PyData.eqvAll]
  | x :: l, y :: k => by
    rw [List.map_cons, List.map_cons, W.eqv_all_cons, Bool.and_eq_true, hf, eqvAll_map hf l k]; simp
theorem eqv_int (i j : Int) : PyData.eqv (.int i) (.int j) = true ↔ i = j := by simp [PyData.eqv]
@[simp] theorem set_0 (s t : Sl) (ρ : List Sl) : (s :: ρ).set 0 t = t :: ρ := (rfl)
@[simp] theorem set_s (s t : Sl) (i : Nat) (ρ : List Sl) : (s :: ρ).set (i + 1) t = s :: ρ.set i t := (rfl)
theorem eqR_tup {l k : List Int} : eqR (tu PyData.int l) (tu PyData.int k) = ok (.bool (decide (l = k))) := by
  have hd : ∀ l : List Int, PyData.depth (tu PyData.int l) ≤ 60 := by
    intro l
    have : ∀ l : List Int, PyData.depthAll (l.map PyData.int) ≤ 1 := by
      intro l
      induction l with
      | nil => simp [PyData.depthAll]
      | cons x l ih => simp [PyData.depthAll, PyData.depth]; omega
    have := this l
    simp only [tu, PyData.depth]; omega
  rw [eqR, bd_req (Nat.le_trans (Nat.min_le_left _ _) (hd _))]
  congr 2
  have : PyData.eqv (tu PyData.int l) (tu PyData.int k) = true ↔ l = k := by
    show PyData.eqv (.tuple (l.map .int)) (.tuple (k.map .int)) = true ↔ _
    simp only [PyData.eqv]
    exact eqvAll_map eqv_int l k
  by_cases h : l = k
  · rw [decide_eq_true h]; exact this.mpr h
  · rw [decide_eq_false h]; exact Bool.eq_false_iff.mpr fun e => h (this.mp e)
theorem neR_of {d e : D} {b : Bool} (h : eqR d e = ok (.bool b)) (hd : min d.depth e.depth ≤ 60) : neR d e = ok (.bool (!b)) := by
  rw [eqR, bd_req hd] at h
  rw [neR, bd_req hd]
  have := congrFun h (fun z => z = .bool b)
  have e2 : PyData.bool (PyData.eqv d e) = .bool b := by
    have : (PyData.bool (PyData.eqv d e) = .bool b) = (PyData.bool b = .bool b) := this
    rw [this]
  injection e2 with e2
  rw [e2]
end
end Pu

namespace Pu
open PySem PySem.Spec PyProof.Rows L2
/-! ### tuple(range(..)), list(range(..)) -/
def rg1R : D → R (List D)
  | .int n => bd (req (rgOk 0 n)) fun _ => ok (rngD 0 n)
  | _ => fail
def rg2R : D → D → R (List D)
  | .int i, .int n => bd (req (rgOk i n)) fun _ => ok (rngD i n)
  | _, _ => fail
def tuF (g : List Sl → R (List D)) : List Sl → R D := fun ρ => bd (g ρ) fun ds => ok (.tuple ds)
theorem rgV_dq {K : PySem.W.Frag} {G : Hp} (i j : Int) : DqAll K G (rgV i j) (rngD i j) := by
  unfold rgV rngD
  generalize List.range (j - i).toNat = l
  induction l with
  | nil => exact .nil
  | cons x l ih => exact .cons (.int _) ih
section
variable {X : Cx} {a b : Expr} {pos p p2 pos2 : Pos}
theorem tupRg1 {f : List Sl → R D} (hm : X.mg "tuple" = none) (hm2 : X.mg "range" = none) (ha : PE X a (tB X.K f)) (hc : X.calm = true := by rfl) (hg : Gl X "tuple" := by rfl) (hg2 : Gl X "range" := by rfl) (na : starEach [.Call (.Name "range" p2) [a] [] pos2] X.env = (false, eval (.Call (.Name "range" p2) [a] [] pos2) X.env) :: starEach [] X.env := by rfl) (na2 : starEach [a] X.env = (false, eval a X.env) :: starEach [] X.env := by rfl) : PE X (.Call (.Name "tuple" p) [.Call (.Name "range" p2) [a] [] pos2] [] pos) (tP X.K (tuF (m1 f rg1R))) :=
  PE.wk (pe_tupRg hc hg hm (prg_1 hg2 hm2 ha na2) na) fun σ H Q ⟨c, G, ρ, post, w, r, hf, q⟩ => ⟨c, G, ρ, _, w, r, hf, fun d hd v G1 H1 e1 w1 b1 => by
    cases d <;> try exact hd.elim
    rw [b1.int]
    refine ⟨_, rfl, hd.1, fun n hn => ?_⟩
    obtain ⟨w4, e4⟩ := w1.newF hn (.tup (rgV 0 _))
    exact q _ hd.2 _ _ _ (e1.trans e4) w4 (.tup (.of upd_same) (rgV_dq _ _))⟩
theorem tupRg2 {f g : List Sl → R D} (hm : X.mg "tuple" = none) (hm2 : X.mg "range" = none) (ha : PE X a (tB X.K f)) (hb : PE X b (tB X.K g)) (hc : X.calm = true := by rfl) (hg : Gl X "tuple" := by rfl) (hg2 : Gl X "range" := by rfl) (na : starEach [.Call (.Name "range" p2) [a, b] [] pos2] X.env = (false, eval (.Call (.Name "range" p2) [a, b] [] pos2) X.env) :: starEach [] X.env := by rfl) (na2 : starEach [a, b] X.env = (false, eval a X.env) :: starEach [b] X.env := by rfl) (na3 : starEach [b] X.env = (false, eval b X.env) :: starEach [] X.env := by rfl) (hpl : (backTo pos2 (starEach [b] X.env)).any (·.1) = false := by rfl) : PE X (.Call (.Name "tuple" p) [.Call (.Name "range" p2) [a, b] [] pos2] [] pos) (tP X.K (tuF (m2 f g rg2R))) :=
  PE.wk (pe_tupRg hc hg hm (prg_2 hg2 hm2 ha hb na2 na3 (hp := hpl)) na) fun σ H Q ⟨c, G, ρ, post, w, r, hf, q⟩ => ⟨c, G, ρ, _, w, r, hf, fun d hd v G1 H1 e1 w1 b1 => ⟨c, G1, ρ, _, w.step w1 e1, r.ext e1, hd, fun e he u G2 H2 e2 w2 b2 => by
    have b1 := b1.ext e2
    cases d <;> cases e <;> try exact he.elim
    rw [b1.int, b2.int]
    refine ⟨_, _, rfl, rfl, he.1, fun n hn => ?_⟩
    obtain ⟨w4, e4⟩ := w2.newF hn (.tup (rgV _ _))
    exact q _ he.2 _ _ _ ((e1.trans e2).trans e4) w4 (.tup (.of upd_same) (rgV_dq _ _))⟩⟩
theorem lstRg1 {f : List Sl → R D} (hm : X.mg "list" = none) (hm2 : X.mg "range" = none) (ha : PE X a (tB X.K f)) (hc : X.calm = true := by rfl) (hg : Gl X "list" := by rfl) (hg2 : Gl X "range" := by rfl) (na : starEach [.Call (.Name "range" p2) [a] [] pos2] X.env = (false, eval (.Call (.Name "range" p2) [a] [] pos2) X.env) :: starEach [] X.env := by rfl) (na2 : starEach [a] X.env = (false, eval a X.env) :: starEach [] X.env := by rfl) : PE X (.Call (.Name "list" p) [.Call (.Name "range" p2) [a] [] pos2] [] pos) (tF X.K (m1 f rg1R)) :=
  PE.wk (pe_listRg hc hg hm (prg_1 hg2 hm2 ha na2) na) fun σ H Q ⟨c, G, ρ, post, w, r, hf, q⟩ => ⟨c, G, ρ, _, w, r, hf, fun d hd v G1 H1 e1 w1 b1 => by
    cases d <;> try exact hd.elim
    rw [b1.int]
    exact ⟨_, rfl, hd.1, fun n hn => fin_new (w.step w1 e1) e1 hn (rgV_dq _ _) hd.2 q⟩⟩
theorem lstRg2 {f g : List Sl → R D} (hm : X.mg "list" = none) (hm2 : X.mg "range" = none) (ha : PE X a (tB X.K f)) (hb : PE X b (tB X.K g)) (hc : X.calm = true := by rfl) (hg : Gl X "list" := by rfl) (hg2 : Gl X "range" := by rfl) (na : starEach [.Call (.Name "range" p2) [a, b] [] pos2] X.env = (false, eval (.Call (.Name "range" p2) [a, b] [] pos2) X.env) :: starEach [] X.env := by rfl) (na2 : starEach [a, b] X.env = (false, eval a X.env) :: starEach [b] X.env := by rfl) (na3 : starEach [b] X.env = (false, eval b X.env) :: starEach [] X.env := by rfl) (hpl : (backTo pos2 (starEach [b] X.env)).any (·.1) = false := by rfl) : PE X (.Call (.Name "list" p) [.Call (.Name "range" p2) [a, b] [] pos2] [] pos) (tF X.K (m2 f g rg2R)) :=
  PE.wk (pe_listRg hc hg hm (prg_2 hg2 hm2 ha hb na2 na3 (hp := hpl)) na) fun σ H Q ⟨c, G, ρ, post, w, r, hf, q⟩ => ⟨c, G, ρ, _, w, r, hf, fun d hd v G1 H1 e1 w1 b1 => ⟨c, G1, ρ, _, w.step w1 e1, r.ext e1, hd, fun e he u G2 H2 e2 w2 b2 => by
    have b1 := b1.ext e2
    have e12 := e1.trans e2
    cases d <;> cases e <;> try exact he.elim
    rw [b1.int, b2.int]
    exact ⟨_, _, rfl, rfl, he.1, fun n hn => fin_new (w.step w2 e12) e12 hn (rgV_dq _ _) he.2 q⟩⟩⟩
end
end Pu

namespace Pu
open PySem PySem.Spec PyProof.Rows L2
/-! ### draws; loops that may go several ways; short displays -/
theorem eqR_bool (b c : Bool) : eqR (.bool b) (.bool c) = ok (.bool (b == c)) := by
  rw [eqR, bd_req (Nat.le_trans (Nat.min_le_left _ _) (by simp [PyData.depth]))]; congr 2
def dr (n : Int) : R D := fun post => ∀ d : Int, 0 ≤ d → d < n → post (.int d)
theorem bd_dr {α : Type} {n : Int} {k : D → R α} {post : α → Prop} : bd (dr n) k post ↔ ∀ d : Int, 0 ≤ d → d < n → k (.int d) post := Iff.rfl
theorem ok_ap {α : Type} (a : α) (p : α → Prop) : ok a p = p a := (rfl)
theorem getX_0 (j : Nat) (ρ : List Sl) : getX (.box j :: ρ) 0 j = ok () := bd_req rfl ok
theorem getX_s (i j : Nat) (s : Sl) (ρ : List Sl) : getX (s :: ρ) (i + 1) j = getX ρ i j := rfl
theorem draw_e {ρ : List Sl} {i j : Nat} {g : List Sl → R (List D)} {n : Int} (hg : g ρ = ok [.int n]) (h : 0 < n) (h' : n < 1073741824) (hx : getX ρ i j = ok ()) : callX i j 1 g drawM ρ = dr n := by
  show bd (getX ρ i j) (fun _ => bd (g ρ) (callR 1 drawM)) = _
  rw [hx, bd_ok, hg, bd_ok, callR_1]
  show bd (req _) _ = _
  rw [bd_req ⟨h, h'⟩]; rfl
theorem callX_e {ρ : List Sl} {i j n : Nat} {g : List Sl → R (List D)} {m : List D → R D} {ds : List D} (hg : g ρ = ok ds) (hx : getX ρ i j = ok ()) (hn : ds.length = n) : callX i j n g m ρ = m ds := by
  show bd (getX ρ i j) (fun _ => bd (g ρ) (callR n m)) = _
  rw [hx, bd_ok, hg, bd_ok]
  show bd (req _) _ = _
  rw [bd_req hn]
theorem forF_dem {α : Type} {i : Nat} {tb : List Sl → R Out} {f : α → D} (J : List α → List Sl → Prop) (h : ∀ x r ρ (post : Out → Prop), J (x :: r) ρ → (∀ ρ', J r ρ' → post (.nx ρ')) → tb (ρ.set i (.dat (f x))) post) : ∀ (l : List α) (ρ : List Sl) (post : Out → Prop), J l ρ → (∀ ρ', J [] ρ' → post (.nx ρ')) → forF (gSet i) tb (l.map f) ρ post
  | [], ρ, post, j, hp => hp ρ j
  | x :: l, ρ, post, j, hp => by
    rw [List.map_cons, forF, gSet_e, bd_ok]
    exact h x l ρ _ j fun ρ' j' => forF_dem J h l ρ' post j' hp
theorem lcM_dem {ρ : List Sl} {vs : List Nat} {i : Nat} {fi : List Sl → R (List D)} {te : List Sl → R D} {ds : List D} {P : D → Prop} (hi : fi ρ = ok ds)
    (he : ∀ d ∈ ds, ∀ post : D → Prop, (∀ y, P y → post y) → te ((wipeS ρ vs).set i (.dat d)) post) (post : List D → Prop) (hp : ∀ ys, ys.length = ds.length → (∀ y ∈ ys, P y) → post ys) : lcM vs fi (gSet i) yesT te ρ post := by
  rw [lcM_e, hi, bd_ok]
  generalize wipeS ρ vs = σ at he
  clear hi
  induction ds generalizing post with
  | nil => exact hp [] rfl (by simp)
  | cons d ds ih =>
    rw [lcF, gSet_e, bd_ok, yesT_e, bd_ok, if_pos rfl]
    refine he d List.mem_cons_self _ fun y hy => ?_
    refine ih _ (fun ys hl hys => ?_) (fun d hd => he d (List.mem_cons_of_mem _ hd))
    refine hp (y :: ys) (by simp [hl]) fun z hz => ?_
    rcases List.mem_cons.mp hz with rfl | hz
    · exact hy
    · exact hys z hz
theorem lcM_sub {α : Type} {f : α → D} {ρ : List Sl} {vs : List Nat} {i : Nat} {fi : List Sl → R (List D)} {tt : List Sl → R Bool} {te : List Sl → R D} {l : List α} (hi : fi ρ = ok (l.map f))
    (ht : ∀ x ∈ l, ∀ post : Bool → Prop, (∀ b, post b) → tt ((wipeS ρ vs).set i (.dat (f x))) post) (he : ∀ x ∈ l, te ((wipeS ρ vs).set i (.dat (f x))) = ok (f x)) (post : List D → Prop) (hp : ∀ ns : List α, (∀ x ∈ ns, x ∈ l) → post (ns.map f)) : lcM vs fi (gSet i) tt te ρ post := by
  rw [lcM_e, hi, bd_ok]
  generalize wipeS ρ vs = σ at ht he
  clear hi
  induction l generalizing post with
  | nil => exact hp [] (by simp)
  | cons x l ih =>
    rw [List.map_cons, lcF, gSet_e, bd_ok]
    refine ht x List.mem_cons_self _ fun b => ?_
    have ih := fun post hp => ih post hp (fun y hy => ht y (List.mem_cons_of_mem _ hy)) (fun y hy => he y (List.mem_cons_of_mem _ hy))
    cases b with
    | false => exact ih post fun ns hns => hp ns fun y hy => List.mem_cons_of_mem _ (hns y hy)
    | true =>
      show bd (te (σ.set i (.dat (f x)))) _ post
      rw [he x List.mem_cons_self, bd_ok]
      refine ih _ fun ns hns => ?_
      exact hp (x :: ns) fun y hy => by
        rcases List.mem_cons.mp hy with rfl | hy
        · exact List.mem_cons_self
        · exact List.mem_cons_of_mem _ (hns y hy)
theorem forF_cons_ok {i : Nat} {tb : List Sl → R Out} {d : D} {ds : List D} {ρ ρ1 : List Sl} (h : tb (ρ.set i (.dat d)) = ok (.nx ρ1)) : forF (gSet i) tb (d :: ds) ρ = forF (gSet i) tb ds ρ1 := by rw [forF, gSet_e, bd_ok, h, bd_ok, lpO_nx]
theorem forF_nil {g : D → List Sl → R (List Sl)} {tb : List Sl → R Out} {ρ : List Sl} : forF g tb [] ρ = ok (.nx ρ) := by rw [forF]
theorem callX_u {ρ : List Sl} {i j n : Nat} {g : List Sl → R (List D)} {m : List D → R D} (hx : getX ρ i j = ok ()) : callX i j n g m ρ = bd (g ρ) (callR n m) := by
  show bd (getX ρ i j) (fun _ => bd (g ρ) (callR n m)) = _
  rw [hx, bd_ok]
theorem getX_1 (j : Nat) (s : Sl) (ρ : List Sl) : getX (s :: .box j :: ρ) 1 j = ok () := by rw [getX_s, getX_0]
abbrev Sm (i : Int) : Prop := -(2 ^ 64) < i ∧ i < 2 ^ 64
theorem mul_l {i j : Int} (h : Sm i) : mulR (.int i) (.int j) = ok (.int (i * j)) := mulR_int (.inl h)
theorem mul_r {i j : Int} (h : Sm j) : mulR (.int i) (.int j) = ok (.int (i * j)) := mulR_int (.inr (.inl h))
theorem tup0 : tupR ([] : List D) = ok (.tuple []) := tupR_e (show 0 ≤ 2 ^ 24 by omega)
theorem tup1 (a : D) : tupR ([a] : List D) = ok (.tuple [a]) := tupR_e (show 1 ≤ 2 ^ 24 by omega)
theorem tup2 (a b : D) : tupR ([a, b] : List D) = ok (.tuple [a, b]) := tupR_e (show 2 ≤ 2 ^ 24 by omega)
theorem tup3 (a b c : D) : tupR ([a, b, c] : List D) = ok (.tuple [a, b, c]) := tupR_e (show 3 ≤ 2 ^ 24 by omega)
theorem tup4 (a b c d : D) : tupR ([a, b, c, d] : List D) = ok (.tuple [a, b, c, d]) := tupR_e (show 4 ≤ 2 ^ 24 by omega)
theorem tup5 (a b c d e : D) : tupR ([a, b, c, d, e] : List D) = ok (.tuple [a, b, c, d, e]) := tupR_e (show 5 ≤ 2 ^ 24 by omega)
theorem tup6 (a b c d e f : D) : tupR ([a, b, c, d, e, f] : List D) = ok (.tuple [a, b, c, d, e, f]) := tupR_e (show 6 ≤ 2 ^ 24 by omega)
theorem lst0 : lstR ([] : List D) = ok [] := lstR_e (show 0 ≤ 2 ^ 24 by omega)
theorem lst1 (x0 : D) : lstR ([x0] : List D) = ok [x0] := lstR_e (show 1 ≤ 2 ^ 24 by omega)
theorem lst2 (x0 x1 : D) : lstR ([x0, x1] : List D) = ok [x0, x1] := lstR_e (show 2 ≤ 2 ^ 24 by omega)
theorem lst3 (x0 x1 x2 : D) : lstR ([x0, x1, x2] : List D) = ok [x0, x1, x2] := lstR_e (show 3 ≤ 2 ^ 24 by omega)
theorem lst4 (x0 x1 x2 x3 : D) : lstR ([x0, x1, x2, x3] : List D) = ok [x0, x1, x2, x3] := lstR_e (show 4 ≤ 2 ^ 24 by omega)
theorem lst5 (x0 x1 x2 x3 x4 : D) : lstR ([x0, x1, x2, x3, x4] : List D) = ok [x0, x1, x2, x3, x4] := lstR_e (show 5 ≤ 2 ^ 24 by omega)
theorem lst6 (x0 x1 x2 x3 x4 x5 : D) : lstR ([x0, x1, x2, x3, x4, x5] : List D) = ok [x0, x1, x2, x3, x4, x5] := lstR_e (show 6 ≤ 2 ^ 24 by omega)
theorem lst7 (x0 x1 x2 x3 x4 x5 x6 : D) : lstR ([x0, x1, x2, x3, x4, x5, x6] : List D) = ok [x0, x1, x2, x3, x4, x5, x6] := lstR_e (show 7 ≤ 2 ^ 24 by omega)
theorem lst8 (x0 x1 x2 x3 x4 x5 x6 x7 : D) : lstR ([x0, x1, x2, x3, x4, x5, x6, x7] : List D) = ok [x0, x1, x2, x3, x4, x5, x6, x7] := lstR_e (show 8 ≤ 2 ^ 24 by omega)
theorem lst9 (x0 x1 x2 x3 x4 x5 x6 x7 x8 : D) : lstR ([x0, x1, x2, x3, x4, x5, x6, x7, x8] : List D) = ok [x0, x1, x2, x3, x4, x5, x6, x7, x8] := lstR_e (show 9 ≤ 2 ^ 24 by omega)
theorem lst10 (x0 x1 x2 x3 x4 x5 x6 x7 x8 x9 : D) : lstR ([x0, x1, x2, x3, x4, x5, x6, x7, x8, x9] : List D) = ok [x0, x1, x2, x3, x4, x5, x6, x7, x8, x9] := lstR_e (show 10 ≤ 2 ^ 24 by omega)
theorem lst11 (x0 x1 x2 x3 x4 x5 x6 x7 x8 x9 x10 : D) : lstR ([x0, x1, x2, x3, x4, x5, x6, x7, x8, x9, x10] : List D) = ok [x0, x1, x2, x3, x4, x5, x6, x7, x8, x9, x10] := lstR_e (show 11 ≤ 2 ^ 24 by omega)
theorem lst12 (x0 x1 x2 x3 x4 x5 x6 x7 x8 x9 x10 x11 : D) : lstR ([x0, x1, x2, x3, x4, x5, x6, x7, x8, x9, x10, x11] : List D) = ok [x0, x1, x2, x3, x4, x5, x6, x7, x8, x9, x10, x11] := lstR_e (show 12 ≤ 2 ^ 24 by omega)
theorem ix0 (a : D) (l : List D) : ixR (.tuple (a :: l)) (.int 0) = ok a := ixR_at (by rw [show (0 : Int) = ((0 : Nat) : Int) from rfl, Pu.atI_nat (by simp)]; rfl)
theorem ix1 (a b : D) (l : List D) : ixR (.tuple (a :: b :: l)) (.int 1) = ok b := ixR_at (by rw [show (1 : Int) = ((1 : Nat) : Int) from rfl, Pu.atI_nat (by simp)]; rfl)
theorem ix0l (a : D) (l : List D) : ixR (.list (a :: l)) (.int 0) = ok a := ixR_atl (by rw [show (0 : Int) = ((0 : Nat) : Int) from rfl, Pu.atI_nat (by simp)]; rfl)
theorem addR_tuple {x y : List D} (h : x.length + y.length ≤ 2 ^ 24) : addR (.tuple x) (.tuple y) = ok (.tuple (x ++ y)) := bd_req h _
theorem addR_list {x y : List D} (h : x.length + y.length ≤ 2 ^ 24) : addR (.list x) (.list y) = ok (.list (x ++ y)) := bd_req h _
theorem any_loop {i : Nat} {tb : List Sl → R Out} (J : List Sl → Prop) (h : ∀ d ρ, J ρ → ∃ ρ', J ρ' ∧ tb (ρ.set i (.dat d)) = ok (.nx ρ')) : ∀ (ds : List D) (ρ : List Sl), J ρ → ∃ ρ', J ρ' ∧ forF (gSet i) tb ds ρ = ok (.nx ρ')
  | [], ρ, j => ⟨ρ, j, forF_nil⟩
  | d :: ds, ρ, j => by
    obtain ⟨ρ1, j1, e1⟩ := h d ρ j
    obtain ⟨ρ2, j2, e2⟩ := any_loop J h ds ρ1 j1
    exact ⟨ρ2, j2, by rw [forF_cons_ok e1, e2]⟩
theorem seq_s {x t : List Sl → R Out} {ρ ρ' : List Sl} {post : Out → Prop} (h : x ρ = ok (.nx ρ')) (k : t ρ' post) : seqM x t ρ post := by
  rw [seqM_e, h, bd_ok, nxt_nx]; exact k
theorem seq_d {x t : List Sl → R Out} {ρ : List Sl} {post : Out → Prop} (h : x ρ (fun o => nxt t o post)) : seqM x t ρ post := h
theorem bd_ix {α : Type} {l : List D} {d : Int} {k : D → R α} {post : α → Prop} (h0 : 0 ≤ d) (h : d < l.length) (hp : ∀ x, k x post) : bd (ixR (.list l) (.int d)) k post := by
  obtain ⟨n, rfl⟩ := Int.eq_ofNat_of_zero_le h0
  rw [ixR_atl (Pu.atI_nat (by omega)), bd_ok]
  exact hp _
theorem ix_tot {l : List D} {d : Int} {post : D → Prop} (h0 : 0 ≤ d) (h : d < l.length) (hp : ∀ x, post x) : ixR (.list l) (.int d) post := bd_ix (k := ok) h0 h hp
end Pu

namespace Pu
open PySem PySem.Spec PyProof.Rows L2
/-! ### least ones, sorted rows -/
theorem lt_trans3 {a b c : D} (h1 : W.dataLt a b = false) (h2 : W.dataLt b c = false) : W.dataLt a c = false := by
  cases h : W.dataLt a c with
  | false => rfl
  | true =>
    exfalso
    unfold W.dataLt at h h1 h2
    by_cases e : PyProof.Rows.lexLt PyProof.Rows.itemOrd (W.keyToks b) (W.keyToks a) = true
    · have := PyProof.Rows.lex_trans (O := PyProof.Rows.itemOrd) _ _ _ e h
      rw [this] at h2; cases h2
    · have := PyProof.Rows.lex_total (O := PyProof.Rows.itemOrd) _ _ h1 (by simpa using e)
      rw [this] at h; rw [h] at h2; cases h2
theorem lt_asymm2 {a b : D} (h : W.dataLt a b = true) : W.dataLt b a = false := by
  cases h2 : W.dataLt b a with
  | false => rfl
  | true =>
    exfalso
    unfold W.dataLt at h h2
    have := PyProof.Rows.lex_trans (O := PyProof.Rows.itemOrd) _ _ _ h h2
    rw [PyProof.Rows.lex_irrefl] at this; cases this
theorem minD_spec : ∀ (xs : List D) (x : D), W.minD x xs ∈ x :: xs ∧ ∀ y ∈ x :: xs, W.dataLt y (W.minD x xs) = false
  | [], x => ⟨by simp [W.minD], fun y hy => by
    simp at hy; subst hy; exact PyProof.Rows.lex_irrefl _⟩
  | z :: xs, x => by
    have e : W.minD x (z :: xs) = W.minD (if W.dataLt z x then z else x) xs := rfl
    rw [e]
    obtain ⟨h1, h2⟩ := minD_spec xs (if W.dataLt z x then z else x)
    cases hz : W.dataLt z x with
    | true =>
      simp only [hz, if_true] at h1 h2 ⊢
      refine ⟨List.mem_cons_of_mem _ h1, fun y hy => ?_⟩
      rcases List.mem_cons.mp hy with rfl | hy
      · exact lt_trans3 (lt_asymm2 hz) (h2 z List.mem_cons_self)
      · exact h2 y hy
    | false =>
      simp only [hz, Bool.false_eq_true, if_false] at h1 h2 ⊢
      refine ⟨?_, fun y hy => ?_⟩
      · rcases List.mem_cons.mp h1 with h1 | h1
        · rw [h1]; exact List.mem_cons_self
        · exact List.mem_cons_of_mem _ (List.mem_cons_of_mem _ h1)
      · rcases List.mem_cons.mp hy with rfl | hy
        · exact h2 y List.mem_cons_self
        · rcases List.mem_cons.mp hy with rfl | hy
          · exact lt_trans3 hz (h2 x List.mem_cons_self)
          · exact h2 y (List.mem_cons_of_mem _ hy)
theorem dLe_trans (a b c : D) (h1 : dLe a b = true) (h2 : dLe b c = true) : dLe a c = true := by
  unfold dLe at *
  simp at *
  exact lt_trans3 h2 h1
theorem dLe_total (a b : D) : (dLe a b || dLe b a) = true := by
  unfold dLe
  cases h : W.dataLt b a with
  | false => rfl
  | true => simp [lt_asymm2 h]
/-- the first of a sorted row is the least -/
theorem sort_head {x : D} {xs : List D} (inj : ∀ a ∈ x :: xs, ∀ b ∈ x :: xs, W.keyToks a = W.keyToks b → a = b) : ∃ r, (x :: xs).mergeSort dLe = W.minD x xs :: r := by
  obtain ⟨h1, h2⟩ := minD_spec xs x
  have hp := List.mergeSort_perm (x :: xs) dLe
  have hs := List.pairwise_mergeSort (le := dLe) dLe_trans dLe_total (x :: xs)
  cases e : (x :: xs).mergeSort dLe with
  | nil => rw [e] at hp; exact absurd hp.length_eq (by simp)
  | cons m r =>
    rw [e] at hp hs
    refine ⟨r, ?_⟩
    have hm : m ∈ x :: xs := hp.mem_iff.mp List.mem_cons_self
    have hd : W.minD x xs ∈ m :: r := hp.mem_iff.mpr h1
    have : m = W.minD x xs := by
      rcases List.mem_cons.mp hd with hd | hd
      · exact hd.symm
      · have h3 := (List.pairwise_cons.mp hs).1 _ hd
        unfold dLe at h3
        simp at h3
        exact inj _ hm _ h1 (PyProof.Rows.lex_total (O := PyProof.Rows.itemOrd) _ _ (h2 m hm) h3)
    rw [this]
theorem toks_nat : ∀ a b : List Nat, W.keyToksAll (a.map nI) = W.keyToksAll (b.map nI) → a = b
  | [], [], _ => rfl
  | [], _ :: _, h => by simp [W.keyToksAll] at h
  | _ :: _, [], h => by simp [W.keyToksAll] at h
  | x :: a, y :: b, h => by
    simp [W.keyToksAll, W.keyToks, nI] at h
    obtain ⟨h1, h2⟩ := h
    have h3 : x = y := by omega
    rw [h3, toks_nat a b h2]
theorem toks_tu (a b : List Nat) (h : W.keyToks (tu nI a) = W.keyToks (tu nI b)) : a = b := toks_nat a b (by simpa [tu, W.keyToks] using h)
theorem alike_nats : ∀ a b : List Nat, W.alikeAll (a.map nI) (b.map nI) = true
  | [], _ => by simp [W.alikeAll]
  | _ :: _, [] => by simp [W.alikeAll]
  | x :: a, y :: b => by
    show W.alikeAll (nI x :: a.map nI) (nI y :: b.map nI) = true
    rw [W.alikeAll, alike_nats a b]
    simp [nI, W.alike]
theorem alike_tu (a b : List Nat) : W.alike (tu nI a) (tu nI b) = true := by
  show W.alike (.tuple (a.map nI)) (.tuple (b.map nI)) = true
  rw [W.alike]; exact alike_nats a b
theorem depth_nats : ∀ a : List Nat, PyData.depthAll (a.map nI) = 0
  | [] => by simp [PyData.depthAll]
  | x :: a => by
    show PyData.depthAll (nI x :: a.map nI) = 0
    rw [PyData.depthAll, depth_nats a]
    simp [nI, PyData.depth]
theorem depth_tu (a : List Nat) : (tu nI a).depth = 1 := by
  show (PyData.tuple (a.map nI)).depth = 1
  simp [PyData.depth, depth_nats]
theorem depth_rows : ∀ ds : List (List Nat), PyData.depthAll (ds.map (tu nI)) ≤ 1
  | [] => by simp [PyData.depthAll]
  | a :: ds => by
    have := depth_rows ds
    simp [PyData.depthAll, depth_tu]; omega
/-- the first of some rows -/
theorem min_rows (a : List Nat) (ds : List (List Nat)) : ∃ m ∈ a :: ds, minR [.list ((a :: ds).map (tu nI))] = ok (tu nI m) ∧ ∃ r, ((a :: ds).map (tu nI)).mergeSort dLe = tu nI m :: r := by
  obtain ⟨h1, _⟩ := minD_spec (ds.map (tu nI)) (tu nI a)
  rw [← List.map_cons] at h1
  obtain ⟨m, hm, e⟩ := List.mem_map.mp h1
  refine ⟨m, hm, ?_, ?_⟩
  · show bestV W.minD (tu nI a :: ds.map (tu nI)) = _
    show bd (req (W.AlikeAll (tu nI a :: ds.map (tu nI)) ∧ PyData.depthAll (tu nI a :: ds.map (tu nI)) ≤ 60)) (fun _ => ok (W.minD (tu nI a) (ds.map (tu nI)))) = _
    rw [bd_req, e]
    refine ⟨⟨fun x hx y hy => ?_, fun x hx => ?_⟩, ?_⟩
    · rw [← List.map_cons] at hx hy
      obtain ⟨x, _, rfl⟩ := List.mem_map.mp hx
      obtain ⟨y, _, rfl⟩ := List.mem_map.mp hy
      exact alike_tu x y
    · rw [← List.map_cons] at hx
      obtain ⟨x, _, rfl⟩ := List.mem_map.mp hx
      intro h; cases h
    · have := depth_rows (a :: ds)
      rw [List.map_cons] at this; omega
  · rw [e, List.map_cons]
    refine sort_head fun x hx y hy h => ?_
    rw [← List.map_cons] at hx hy
    obtain ⟨x, _, rfl⟩ := List.mem_map.mp hx
    obtain ⟨y, _, rfl⟩ := List.mem_map.mp hy
    rw [toks_tu x y h]
theorem sort_rows {ds : List (List Nat)} (hl : ds.length ≤ sizeLine) (hk : (∀ d ∈ ds, d ≠ []) ∨ ds.length ≤ 1) : sortedR [.list (ds.map (tu nI))] = ok ((ds.map (tu nI)).mergeSort dLe) := by
  show srtV (ds.map (tu nI)) = _
  unfold srtV
  rw [bd_req]
  refine ⟨fun x hx y hy => ?_, ?_, fun x hx => ?_, by simpa using hl⟩
  · obtain ⟨x, _, rfl⟩ := List.mem_map.mp hx
    obtain ⟨y, _, rfl⟩ := List.mem_map.mp hy
    exact alike_tu x y
  · rcases hk with hk | hk
    · refine .inl (.inl fun d hd => ?_)
      obtain ⟨x, hx, rfl⟩ := List.mem_map.mp hd
      cases x with
      | nil => exact absurd rfl (hk _ hx)
      | cons y x => exact ⟨_, _, rfl⟩
    · refine .inr (.inl ⟨by simpa using hk, fun d hd => ?_⟩)
      obtain ⟨x, hx, rfl⟩ := List.mem_map.mp hd
      intro h; cases h
  · obtain ⟨x, _, rfl⟩ := List.mem_map.mp hx
    rw [depth_tu]; omega
/-- rows, the empty one first -/
theorem sort_rows0 {ds : List (List Nat)} (hl : ds.length < sizeLine) : sortedR [.list (([] :: ds).map (tu nI))] = ok ((([] :: ds).map (tu nI)).mergeSort dLe) := by
  show srtV (([] :: ds).map (tu nI)) = _
  unfold srtV
  rw [bd_req]
  refine ⟨fun x hx y hy => ?_, .inr (.inr ⟨ds.map (tu nI), rfl, fun d hd => ?_⟩), fun x hx => ?_, by simp; omega⟩
  · obtain ⟨x, _, rfl⟩ := List.mem_map.mp hx
    obtain ⟨y, _, rfl⟩ := List.mem_map.mp hy
    exact alike_tu x y
  · obtain ⟨x, _, rfl⟩ := List.mem_map.mp hd
    exact ⟨_, rfl⟩
  · obtain ⟨x, _, rfl⟩ := List.mem_map.mp hx
    rw [depth_tu]; omega
/-! ### loops and comprehensions with several targets -/
section
variable {α β : Type} {f : α → D} {ρ : List Sl}
theorem forF_invG {g : D → List Sl → R (List Sl)} {tb : List Sl → R Out} (st : β → List Sl) (step : β → α → β) (J : β → List α → Prop) (h : ∀ b x r, J b (x :: r) → (bd (g (f x) (st b)) tb = ok (.nx (st (step b x)))) ∧ J (step b x) r) : ∀ (l : List α) (b : β), J b l → forF g tb (l.map f) (st b) = ok (.nx (st (l.foldl step b)))
  | [], b, _ => rfl
  | x :: l, b, j => by
    obtain ⟨h1, h2⟩ := h b x l j
    rw [List.map_cons, forF, ← bd_bd, h1, bd_ok, lpO_nx, forF_invG st step J h l _ h2]
    rfl
theorem lcM_G {vs : List Nat} {g : D → List Sl → R (List Sl)} {fi : List Sl → R (List D)} {tt : List Sl → R Bool} {te : List Sl → R D} {l : List α} {p : α → Bool} {h : α → D} {σ : α → List Sl} (hi : fi ρ = ok (l.map f)) (hg : ∀ x ∈ l, g (f x) (wipeS ρ vs) = ok (σ x))
    (ht : ∀ x ∈ l, tt (σ x) = ok (p x)) (he : ∀ x ∈ l, p x = true → te (σ x) = ok (h x)) : lcM vs fi g tt te ρ = ok ((l.filter p).map h) := by
  rw [lcM_e, hi, bd_ok]
  generalize wipeS ρ vs = τ at hg
  clear hi
  induction l with
  | nil => rfl
  | cons x l ih =>
    have ih := ih (fun y hy => ht y (List.mem_cons_of_mem _ hy)) (fun y hy => he y (List.mem_cons_of_mem _ hy)) (fun y hy => hg y (List.mem_cons_of_mem _ hy))
    rw [List.map_cons, lcF, hg x List.mem_cons_self, bd_ok, ht x List.mem_cons_self, bd_ok]
    cases hp : p x with
    | false => rw [if_neg (by simp), ih, List.filter_cons_of_neg (by simp [hp])]
    | true => rw [if_pos rfl, he x List.mem_cons_self hp, bd_ok, ih, bd_ok, List.filter_cons_of_pos hp]; rfl
theorem gT2 {g h : D → List Sl → R (List Sl)} {a b : D} : gTupR 2 (gConsR g (gConsR h gNilR)) (.tuple [a, b]) ρ = bd (g a ρ) (h b) := by
  show bd (req ([a, b].length = 2)) _ = _
  rw [bd_req (show [a, b].length = 2 from rfl)]
  show bd (g a ρ) (gConsR h gNilR [b]) = _
  have : gConsR h gNilR [b] = h b := by
    funext ρ'
    show bd (h b ρ') (gNilR []) = _
    exact bd_ret _
  rw [this]
end
end Pu

namespace Pu
open PySem PySem.Spec PyProof.Rows L2
/-! ### comprehensions with two clauses -/
def noOwn (ρ : List Sl) : List Sl := ρ.map fun s => match s with | .own _ => .un | .od _ => .un | s => s
def ownFree (ρ : List Sl) : Bool := ρ.all fun s => match s with | .own _ => false | .od _ => false | _ => true
theorem RS.noOwn {K : PySem.W.Frag} {c : Ct} {G H : Hp} {σ : L2.St} {ρ : List Sl} (r : RS K c G H σ ρ) : RS K c G H σ (noOwn ρ) := by
  have key : ∀ (i : Nat) (x : Sl), (Pu.noOwn ρ)[i]? = some x → x.isOwn = false ∧ (x = .un ∨ ρ[i]? = some x) := by
    intro i x h
    unfold Pu.noOwn at h
    rw [List.getElem?_map] at h
    cases e : ρ[i]? with
    | none => rw [e] at h; cases h
    | some y =>
      rw [e] at h
      cases y <;> (cases h; exact ⟨rfl, (by first | exact .inl rfl | exact .inr rfl)⟩)
  refine ⟨by rw [r.len]; simp [Pu.noOwn], fun i x h => ?_, fun i j x y v h1 _ k _ _ _ => by (rw [(key i _ h1).1] at k; cases k)⟩
  rcases (key i x h).2 with h2 | h2
  · exact .inl h2
  · exact r.at_ i x h2
theorem RS.free {K : PySem.W.Frag} {c : Ct} {G H G' H' : Hp} {σ : L2.St} {ρ : List Sl} (r : RS K c G H σ ρ) (f : ownFree ρ = true) (l : Le G G') : RS K c G' H' σ ρ := by
  have key : ∀ (i : Nat) (x : Sl), ρ[i]? = some x → x.isOwn = false := by
    intro i x h
    have := List.all_eq_true.mp f _ (List.mem_of_getElem? h)
    cases x <;> first | rfl | cases this
  refine ⟨r.len, fun i x h => ?_, fun i j x y v h1 _ k _ _ _ => by (rw [key i _ h1] at k; cases k)⟩
  rcases r.at_ i x h with h2 | ⟨v, h2, h3⟩
  · exact .inl h2
  · refine .inr ⟨v, h2, ?_⟩
    cases x with
    | un => trivial
    | dat d => exact Dq.mono l h3
    | own ds => have := key i _ h; cases this
    | od ds => have := key i _ h; cases this
    | box k => exact h3
def inF (g : D → List Sl → R (List Sl)) (tt : List Sl → R Bool) (te : List Sl → R D) : List D → List Sl → List D → R (List D)
  | [], _, acc => ok acc
  | e :: es, ρ, acc => bd (g e ρ) fun ρ1 => bd (tt ρ1) fun b => if b = true then bd (te ρ1) fun y => bd (req (acc.length < sizeLine)) fun _ => inF g tt te es ρ (acc ++ [y]) else inF g tt te es ρ acc
def outF (vs1 : List Nat) (g : D → List Sl → R (List Sl)) (tt : List Sl → R Bool) (fi1 : List Sl → R (List D)) (g1 : D → List Sl → R (List Sl)) (tt1 : List Sl → R Bool) (te : List Sl → R D) : List D → List Sl → List D → R (List D)
  | [], _, acc => ok acc
  | d :: ds, ρ, acc => bd (g d ρ) fun ρ1 => bd (req (ownFree ρ1 = true)) fun _ => bd (tt ρ1) fun b => if b = true then bd (fi1 ρ1) fun es => bd (inF g1 tt1 te es (wipeS ρ1 vs1) acc) fun acc' => outF vs1 g tt fi1 g1 tt1 te ds ρ acc' else outF vs1 g tt fi1 g1 tt1 te ds ρ acc
def lc2M (vs vs1 : List Nat) (fi : List Sl → R (List D)) (g : D → List Sl → R (List Sl)) (tt : List Sl → R Bool) (fi1 : List Sl → R (List D)) (g1 : D → List Sl → R (List Sl)) (tt1 : List Sl → R Bool) (te : List Sl → R D) : List Sl → R (List D) := fun ρ => bd (fi ρ) fun ds => outF vs1 g tt fi1 g1 tt1 te ds (wipeS (noOwn ρ) vs) []
/-- the accumulator and the frozen part while the comprehension runs -/
structure Acc (K : PySem.W.Frag) (c : Ct) (G1 H1 : Hp) (D0 : Addr) (G H : Hp) (accd : List D) : Prop where
  ex : Ext c.E G1 (upd H1 D0 (.lst [])) G (upd H D0 (.lst []))
  w : W0 c.E G H
  at_ : ∃ acc, H D0 = some (.lst acc) ∧ DqAll K G acc accd
  gD : G D0 = none
theorem Acc.later {K : PySem.W.Frag} {c : Ct} {G1 H1 G H G6 H6 : Hp} {D0 : Addr} {accd : List D} (a : Acc K c G1 H1 D0 G H accd) (nv : ¬ c.E.vol D0) (e6 : Ext c.E G H G6 H6) (w6 : W0 c.E G6 H6) : Acc K c G1 H1 D0 G6 H6 accd := by
  obtain ⟨acc, hacc, kacc⟩ := a.at_
  refine ⟨a.ex.trans ⟨e6.g, fun p o hp v => ?_, fun p o hp v g0 => ?_⟩, w6, ⟨acc, e6.h _ _ hacc nv, kacc.mono e6.g⟩, e6.n _ _ hacc nv a.gD⟩
  · by_cases hpD : p = D0
    · subst hpD; rw [upd_same] at hp ⊢; exact hp
    · rw [upd_ne hpD] at hp ⊢; exact e6.h p o hp v
  · by_cases hpD : p = D0
    · subst hpD; exact e6.n _ _ hacc nv a.gD
    · rw [upd_ne hpD] at hp; exact e6.n p o hp v g0
theorem Acc.push {K : PySem.W.Frag} {c : Ct} {G1 H1 G H : Hp} {D0 : Addr} {accd : List D} (a : Acc K c G1 H1 D0 G H accd) (nv : ¬ c.E.vol D0) {v : V} {y : D} (k : Dq K G v y) : ∃ acc, H D0 = some (.lst acc) ∧ acc.length = accd.length ∧ Acc K c G1 H1 D0 G (upd H D0 (.lst (acc ++ [v]))) (accd ++ [y]) := by
  obtain ⟨acc, hacc, kacc⟩ := a.at_
  refine ⟨acc, hacc, kacc.length, ⟨by rw [upd_upd]; exact a.ex, ⟨fun p o hp => ?_, a.w.vol, Ef.loc a.w.inv fun p vp => ?_⟩, ⟨_, upd_same, kacc.append (.cons k .nil)⟩, a.gD⟩⟩
  · rw [upd_ne (by rintro rfl; rw [a.gD] at hp; cases hp)]; exact a.w.sub p o hp
  · rw [upd_ne (by rintro rfl; exact nv vp)]
theorem Acc.ext1 {K : PySem.W.Frag} {c : Ct} {G1 H1 G H : Hp} {D0 : Addr} {accd : List D} (a : Acc K c G1 H1 D0 G H accd) (hD : H1 D0 = none) : Ext c.E G1 H1 G H := by
  refine ⟨a.ex.g, fun p o hp v => ?_, fun p o hp v g0 => ?_⟩
  · have hne : p ≠ D0 := ne_of_none hp hD
    have := a.ex.h p o (by rw [upd_ne hne]; exact hp) v
    rw [upd_ne hne] at this; exact this
  · have hne : p ≠ D0 := ne_of_none hp hD
    exact a.ex.n p o (by rw [upd_ne hne]; exact hp) v g0
theorem lc2_of {K : PySem.W.Frag} {vs vs1 js js1 : List Nat} {fi fi1 : List Sl → R (List D)} {g g1 : D → List Sl → R (List Sl)} {tt tt1 : List Sl → R Bool} {te : List Sl → R D} (hjs : ∀ j ∈ js, j ∈ vs) (hjs1 : ∀ j ∈ js1, j ∈ vs1) {σ : L2.St} {H : Hp} {Q : VK}
    (q : tF K (lc2M vs vs1 fi g tt fi1 g1 tt1 te) σ H Q) : tLc2 (tIw K fi) (tG K js g) (tT K tt) (tIs K fi1) (tG K js1 g1) (tT K tt1) (tP K te) vs vs1 σ H Q := by
  obtain ⟨c, G, ρ, post, w, r, hf, q⟩ := q
  refine ⟨c, G, ρ, _, w, r, hf, fun ds hds hl J G1 H1 e1 w1 wk D0 hD => ?_⟩
  have wd1 := w.step w1 e1
  obtain ⟨wn, en, on⟩ := wd1.newO (K := K) (G0 := G) (H0 := H) (p := D0) hD (vs := []) (ds := []) .nil
  have nv : ¬ c.E.vol D0 := (w1.fresh hD).2
  have nD : H D0 = none := e1.none hD nv
  refine ⟨fun i m H' => i + m = ds.length ∧ ∃ G' accd, Acc K c G1 H1 D0 G' H' accd ∧ outF vs1 g tt fi1 g1 tt1 te (ds.drop i) (wipeS (noOwn ρ) vs) accd post,
    ⟨ds.length, by omega, G1, [], ⟨by rw [upd_upd]; exact .refl, wn, ⟨[], upd_same, .nil⟩, (w1.fresh hD).1⟩, by simpa using hds⟩, fun i m H' ⟨him, G', accd, ac, hlc⟩ => ?_⟩
  have extO : Ext c.E G H G' H' := e1.trans (ac.ext1 hD)
  have wd' : Wd c G' H' := w.step ac.w extO
  obtain ⟨go, stop⟩ := wk i G' H' (ac.ext1 hD) ac.w
  cases hd : ds[i]? with
  | none =>
    have hle : ds.length ≤ i := List.getElem?_eq_none_iff.mp hd
    rw [List.drop_eq_nil_of_le hle] at hlc
    refine .inl ⟨stop hle, q accd hlc D0 G' H' nD extO ac.w ⟨ac.at_, ac.gD, ?_, nv⟩⟩
    exact on.h0
  | some d =>
    obtain ⟨hlt, hget⟩ := List.getElem?_eq_some_iff.mp hd
    obtain ⟨gg, y1⟩ := go d hd
    rw [List.drop_eq_getElem_cons hlt, hget] at hlc
    refine .inr ⟨gg, fun H'' => ∃ G'' accd', Acc K c G1 H1 D0 G'' H'' accd' ∧ outF vs1 g tt fi1 g1 tt1 te (ds.drop (i + 1)) (wipeS (noOwn ρ) vs) accd' post,
      fun H'' h => ⟨m - 1, by omega, by omega, h⟩, fun x H3 hy => ?_⟩
    obtain ⟨G3, e3, w3, k3⟩ := y1 x H3 hy
    have wd3 := wd'.step w3 e3
    have rw3 : RS K c G3 H3 (L2.wipe σ vs) (wipeS (noOwn ρ) vs) := ((r.ext extO).ext e3).noOwn.wipe vs
    refine ⟨c, G3, wipeS (noOwn ρ) vs, d, _, wd3, rw3, k3, hlc, fun ρ4 h4 σ4 r4 t4 => ?_⟩
    have hwipe : L2.wipe σ4 vs = L2.wipe σ vs := by
      rw [← wipe_wipe σ vs]
      exact wipe_eq t4.1 fun j hj => t4.2 j fun z => hj (hjs j z)
    obtain ⟨hof, h4⟩ := h4
    refine ⟨hwipe, c, G3, ρ4, _, wd3, r4, h4, fun b hb G5 H5 e5 w5 => ?_⟩
    have a5 := ac.later nv (e3.trans e5) w5
    cases b with
    | false => exact ⟨G5, accd, a5, hb⟩
    | true =>
      have wd5 := wd3.step w5 e5
      refine ⟨c, G5, ρ4, _, wd5, r4.ext e5, hb, fun es hes hl1 J1 G6 H6 e6 w6 wk1 => ?_⟩
      have a6 := a5.later nv e6 w6
      refine ⟨fun j k H7 => j + k = es.length ∧ ∃ G7 accd7, Le G6 G7 ∧ Acc K c G1 H1 D0 G7 H7 accd7 ∧ inF g1 tt1 te (es.drop j) (wipeS ρ4 vs1) accd7 (fun acc' => outF vs1 g tt fi1 g1 tt1 te (ds.drop (i + 1)) (wipeS (noOwn ρ) vs) acc' post),
        ⟨es.length, by omega, G6, accd, fun _ _ e => e, a6, by rw [List.drop_zero]; exact hes⟩, fun j k H7 ⟨hjk, G7, accd7, l7, a7, hin⟩ => ?_⟩
      have r7 : RS K c G7 H7 σ4 ρ4 := r4.free hof fun a o h => l7 a o (e6.g a o (e5.g a o h))
      have wd7 : Wd c G7 H7 := w.step a7.w (e1.trans (a7.ext1 hD))
      obtain ⟨go1, stop1⟩ := wk1 j G7 H7 l7 a7.w
      cases he : es[j]? with
      | none =>
        have hle : es.length ≤ j := List.getElem?_eq_none_iff.mp he
        rw [List.drop_eq_nil_of_le hle] at hin
        exact .inl ⟨stop1 hle, G7, accd7, a7, hin⟩
      | some e =>
        obtain ⟨hlt1, hget1⟩ := List.getElem?_eq_some_iff.mp he
        obtain ⟨gg1, y2⟩ := go1 e he
        rw [List.drop_eq_getElem_cons hlt1, hget1] at hin
        refine .inr ⟨gg1, fun H8 => ∃ G8 accd8, Le G6 G8 ∧ Acc K c G1 H1 D0 G8 H8 accd8 ∧ inF g1 tt1 te (es.drop (j + 1)) (wipeS ρ4 vs1) accd8 (fun acc' => outF vs1 g tt fi1 g1 tt1 te (ds.drop (i + 1)) (wipeS (noOwn ρ) vs) acc' post),
          fun H8 h => ⟨k - 1, by omega, by omega, h⟩, fun x2 H8 hy2 => ?_⟩
        obtain ⟨G8, e8, w8, k8⟩ := y2 x2 H8 hy2
        have wd8 := wd7.step w8 e8
        refine ⟨c, G8, wipeS ρ4 vs1, e, _, wd8, (r7.ext e8).wipe vs1, k8, hin, fun ρ9 h9 σ9 r9 t9 => ?_⟩
        have hwipe1 : L2.wipe σ9 vs1 = L2.wipe σ4 vs1 := by
          rw [← wipe_wipe σ4 vs1]
          exact wipe_eq t9.1 fun j hj => t9.2 j fun z => hj (hjs1 j z)
        refine ⟨hwipe1, c, G8, ρ9, _, wd8, r9, h9, fun b2 hb2 G9 H9 e9 w9 => ?_⟩
        have a9 := a7.later nv (e8.trans e9) w9
        have l9 : Le G6 G9 := fun a o h => e9.g a o (e8.g a o (l7 a o h))
        cases b2 with
        | false => exact ⟨G9, accd7, l9, a9, hb2⟩
        | true =>
          refine ⟨c, G9, ρ9, _, wd8.step w9 e9, r9.ext e9, hb2, fun y hy3 v G10 H10 e10 w10 k10 => ?_⟩
          have a10 := a9.later nv e10 w10
          obtain ⟨acc, hacc, hlen, ap⟩ := a10.push nv k10
          exact ⟨acc, hacc, by rw [hlen]; exact hy3.1, G10, accd7 ++ [y], fun a o h => e10.g a o (l9 a o h), ap, hy3.2⟩
section
variable {X : Cx} {elt tg iter tg1 iter1 : Expr} {pos : Pos}
theorem lc2 {scope : Scope} {own : List (Str × Nat)} {vs1 : List Nat} {ifs ifs1 : List Expr} {js js1 : List Nat} {fi fi1 : List Sl → R (List D)} {g g1 : D → List Sl → R (List Sl)} {tt tt1 : List Sl → R Bool} {te : List Sl → R D} (hN : X.N.Nodup) (okb : blkC X.N X.env.scope scope own = true) (hi : PI X tg iter (tIw X.K fi))
    (hg : ∀ (s : Shared) (H : Hp) (C : Addr) (cl : List (Str × Addr)) (fp : List Addr), PG (X.blk s H scope (compEnvC scope cl C X.env) fp) tg (tG X.K js g)) (ht : ∀ (s : Shared) (H : Hp) (C : Addr) (cl : List (Str × Addr)) (fp : List Addr), PTs (X.blk s H scope (compEnvC scope cl C X.env) fp) ifs (tT X.K tt))
    (hi1 : ∀ (s : Shared) (H : Hp) (C : Addr) (cl : List (Str × Addr)) (fp : List Addr), PI (X.blk s H scope (compEnvC scope cl C X.env) fp) tg1 iter1 (tIs X.K fi1))
    (hg1 : ∀ (s : Shared) (H : Hp) (C : Addr) (cl : List (Str × Addr)) (fp : List Addr), PG (X.blk s H scope (compEnvC scope cl C X.env) fp) tg1 (tG X.K js1 g1)) (ht1 : ∀ (s : Shared) (H : Hp) (C : Addr) (cl : List (Str × Addr)) (fp : List Addr), PTs (X.blk s H scope (compEnvC scope cl C X.env) fp) ifs1 (tT X.K tt1))
    (he : ∀ (s : Shared) (H : Hp) (C : Addr) (cl : List (Str × Addr)) (fp : List Addr), PE (X.blk s H scope (compEnvC scope cl C X.env) fp) elt (tP X.K te)) (hv : ∀ i ∈ vs1, i ∈ own.map (·.2) := by decide) (hjs : ∀ j ∈ js, j ∈ own.map (·.2) := by decide) (hjs1 : ∀ j ∈ js1, j ∈ vs1 := by decide) (hc : X.calm = true := by rfl) (hs : ∀ x, foldedSetIterable iter X.env x = pure x := by intro _; rfl) (hs1 : ∀ env x, foldedSetIterable iter1 env x = pure x := by intro _ _; rfl) :
    PE X (.ListComp elt [⟨tg, iter, ifs, 0⟩, ⟨tg1, iter1, ifs1, 0⟩] scope pos) (tF X.K (lc2M (own.map (·.2)) vs1 fi g tt fi1 g1 tt1 te)) := PE.wk (pe_lc2 hc hN hi (blkOk_by okb) hv hg ht hi1 hg1 ht1 he hs hs1) fun _ _ _ q => lc2_of hjs hjs1 q
theorem sLc2 (i : Nat) {y : Str} {py spos : Pos} {scope : Scope} {own : List (Str × Nat)} {vs1 : List Nat} {ifs ifs1 : List Expr} {js js1 : List Nat} {fi fi1 : List Sl → R (List D)} {g g1 : D → List Sl → R (List Sl)} {tt tt1 : List Sl → R Bool} {te : List Sl → R D} (hN : X.N.Nodup) (okb : blkC X.N X.env.scope scope own = true) (hi : PI X tg iter (tIw X.K fi))
    (hg : ∀ (s : Shared) (H : Hp) (C : Addr) (cl : List (Str × Addr)) (fp : List Addr), PG (X.blk s H scope (compEnvC scope cl C X.env) fp) tg (tG X.K js g)) (ht : ∀ (s : Shared) (H : Hp) (C : Addr) (cl : List (Str × Addr)) (fp : List Addr), PTs (X.blk s H scope (compEnvC scope cl C X.env) fp) ifs (tT X.K tt))
    (hi1 : ∀ (s : Shared) (H : Hp) (C : Addr) (cl : List (Str × Addr)) (fp : List Addr), PI (X.blk s H scope (compEnvC scope cl C X.env) fp) tg1 iter1 (tIs X.K fi1))
    (hg1 : ∀ (s : Shared) (H : Hp) (C : Addr) (cl : List (Str × Addr)) (fp : List Addr), PG (X.blk s H scope (compEnvC scope cl C X.env) fp) tg1 (tG X.K js1 g1)) (ht1 : ∀ (s : Shared) (H : Hp) (C : Addr) (cl : List (Str × Addr)) (fp : List Addr), PTs (X.blk s H scope (compEnvC scope cl C X.env) fp) ifs1 (tT X.K tt1))
    (he : ∀ (s : Shared) (H : Hp) (C : Addr) (cl : List (Str × Addr)) (fp : List Addr), PE (X.blk s H scope (compEnvC scope cl C X.env) fp) elt (tP X.K te)) (hsw : swapsWith (.ListComp elt [⟨tg, iter, ifs, 0⟩, ⟨tg1, iter1, ifs1, 0⟩] scope pos) (some (.Name y py)) spos.line X.env = pure true) (hy : X.N[i]? = some y := by rfl) (hyl : X.env.scope.names.lookup y = some .local := by rfl) (hv : ∀ i ∈ vs1, i ∈ own.map (·.2) := by decide) (hjs : ∀ j ∈ js, j ∈ own.map (·.2) := by decide) (hjs1 : ∀ j ∈ js1, j ∈ vs1 := by decide) (hc : X.calm = true := by rfl) (hs : ∀ x, foldedSetIterable iter X.env x = pure x := by intro _; rfl) (hs1 : ∀ env x, foldedSetIterable iter1 env x = pure x := by intro _ _; rfl) :
    PS X (.Assign [.Name y py] (.ListComp elt [⟨tg, iter, ifs, 0⟩, ⟨tg1, iter1, ifs1, 0⟩] scope pos) spos) (tS X.K (setO i (lc2M (own.map (·.2)) vs1 fi g tt fi1 g1 tt1 te))) :=
  PS.wk (ps_setLc2 hc hN hy hyl hsw hi (blkOk_by okb) hv hg ht hi1 hg1 ht1 he hs hs1) fun D σ H ⟨c, G, ρ, post, w, r, hf, q⟩ => lc2_of hjs hjs1 ⟨c, G, ρ, _, w, r, hf, fun d hd a G' H' n e' w' o => q _ hd _ G' H' e'.g (w.step w' e') ((r.ext e').setO o (r.new n))⟩
theorem sLcD2 (i : Nat) {y : Str} {py spos : Pos} {scope : Scope} {own : List (Str × Nat)} {vs1 : List Nat} {ifs ifs1 : List Expr} {js js1 : List Nat} {fi fi1 : List Sl → R (List D)} {g g1 : D → List Sl → R (List Sl)} {tt tt1 : List Sl → R Bool} {te : List Sl → R D} (hN : X.N.Nodup) (okb : blkC X.N X.env.scope scope own = true) (hi : PI X tg iter (tIw X.K fi))
    (hg : ∀ (s : Shared) (H : Hp) (C : Addr) (cl : List (Str × Addr)) (fp : List Addr), PG (X.blk s H scope (compEnvC scope cl C X.env) fp) tg (tG X.K js g)) (ht : ∀ (s : Shared) (H : Hp) (C : Addr) (cl : List (Str × Addr)) (fp : List Addr), PTs (X.blk s H scope (compEnvC scope cl C X.env) fp) ifs (tT X.K tt))
    (hi1 : ∀ (s : Shared) (H : Hp) (C : Addr) (cl : List (Str × Addr)) (fp : List Addr), PI (X.blk s H scope (compEnvC scope cl C X.env) fp) tg1 iter1 (tIs X.K fi1))
    (hg1 : ∀ (s : Shared) (H : Hp) (C : Addr) (cl : List (Str × Addr)) (fp : List Addr), PG (X.blk s H scope (compEnvC scope cl C X.env) fp) tg1 (tG X.K js1 g1)) (ht1 : ∀ (s : Shared) (H : Hp) (C : Addr) (cl : List (Str × Addr)) (fp : List Addr), PTs (X.blk s H scope (compEnvC scope cl C X.env) fp) ifs1 (tT X.K tt1))
    (he : ∀ (s : Shared) (H : Hp) (C : Addr) (cl : List (Str × Addr)) (fp : List Addr), PE (X.blk s H scope (compEnvC scope cl C X.env) fp) elt (tP X.K te)) (hsw : swapsWith (.ListComp elt [⟨tg, iter, ifs, 0⟩, ⟨tg1, iter1, ifs1, 0⟩] scope pos) (some (.Name y py)) spos.line X.env = pure true) (hy : X.N[i]? = some y := by rfl) (hyl : X.env.scope.names.lookup y = some .local := by rfl) (hv : ∀ i ∈ vs1, i ∈ own.map (·.2) := by decide) (hjs : ∀ j ∈ js, j ∈ own.map (·.2) := by decide) (hjs1 : ∀ j ∈ js1, j ∈ vs1 := by decide) (hc : X.calm = true := by rfl) (hs : ∀ x, foldedSetIterable iter X.env x = pure x := by intro _; rfl) (hs1 : ∀ env x, foldedSetIterable iter1 env x = pure x := by intro _ _; rfl) :
    PS X (.Assign [.Name y py] (.ListComp elt [⟨tg, iter, ifs, 0⟩, ⟨tg1, iter1, ifs1, 0⟩] scope pos) spos) (tS X.K (setM i (frz (lc2M (own.map (·.2)) vs1 fi g tt fi1 g1 tt1 te)))) :=
  PS.wk (ps_setLc2 hc hN hy hyl hsw hi (blkOk_by okb) hv hg ht hi1 hg1 ht1 he hs hs1) fun D σ H ⟨c, G, ρ, post, w, r, hf, q⟩ => lc2_of hjs hjs1 ⟨c, G, ρ, _, w, r, hf, fun d hd a G' H' n e' w' o => by
    obtain ⟨G2, w2, l2, k2, ne⟩ := (w.step w' e').freeze o
    refine q _ hd _ G2 H' (fun p u e => l2 p u (e'.g p u e)) w2 (RS.setD ?_ k2)
    have r' := r.ext e'
    refine ⟨r'.len, fun j x h => ?_, r'.dd⟩
    rcases r'.at_ j x h with z | ⟨v, e1, s1⟩
    · exact .inl z
    · refine .inr ⟨v, e1, ?_⟩
      cases x with
      | un => trivial
      | dat d => exact Dq.mono l2 s1
      | box k => exact s1
      | own fs =>
        obtain ⟨b, rfl, ob⟩ := s1
        have hb : b ≠ a := fun z => r.new n j fs h (by rw [← z]; exact e1)
        obtain ⟨vs1, e2, k3⟩ := ob.at_
        exact ⟨b, rfl, ⟨vs1, e2, k3.mono l2⟩, by rw [ne b hb]; exact ob.g, ob.h0, ob.v⟩
      | od fs =>
        obtain ⟨b, rfl, ob⟩ := s1
        have hb : b ≠ a := own_od o ob
        obtain ⟨vs1, e2, k3⟩ := ob.at_
        exact ⟨b, rfl, ⟨vs1, e2, k3.mono l2⟩, by rw [ne b hb]; exact ob.g, ob.h0, ob.v⟩⟩
end
end Pu

namespace Pu
open PySem PySem.Spec PyProof.Rows L2
/-! ### the draws of a tape: cells, the next cell's place, what is left, a state -/
structure TpAt (H : Hp) (b c : Addr) (ns : List Int) (i n s : Int) : Prop where
  ne : b ≠ c
  hb : H b = some (.lst [.ref c, .int i, .int n, .int s])
  hc : H c = some (.lst (ns.map V.int))
theorem TpAt.setB {H : Hp} {b c : Addr} {ns : List Int} {i n s i' n' s' : Int} (x : TpAt H b c ns i n s) : TpAt (upd H b (.lst [.ref c, .int i', .int n', .int s'])) b c ns i' n' s' := ⟨x.ne, upd_same, by rw [upd_ne x.ne.symm]; exact x.hc⟩
def spMix : Sp := fun vs H Q _ => ∃ n : Int, vs = [.int n] ∧ ∀ r : Int, Q (.int r) H
theorem mix_small (x : Int) : -(2 ^ 64) < x % 18446744073709551616 ∧ x % 18446744073709551616 < 2 ^ 64 := by omega
def spTake0 : Sp := fun vs H Q _ => ∃ (b c : Addr) (ns : List Int) (i n s m : Int), vs = [.ref b, .int m] ∧ TpAt H b c ns i n s ∧ 0 ≤ i ∧ 0 < m ∧ m < 1073741824 ∧ ∀ (r : Int) H' i' n' s', 0 ≤ r → r < m → 0 ≤ i' → TpAt H' b c ns i' n' s' → Only2 b c H H' → Q (.int r) H'
theorem take_ext {b c : Addr} {G H H' : Hp} {ns : List Int} {i' n' s' : Int} (w : W0 (.bx 3 b c) G H) (o : Only2 b c H H') (hi : 0 ≤ i') (x : TpAt H' b c ns i' n' s') (hl : ns.length ≤ 1000) : W0 (.bx 3 b c) G H' ∧ Ext (.bx 3 b c) G H G H' := by
  have hv : ∀ p, ¬ (Ef.bx 3 b c).vol p → H' p = H p := fun p h => o p (fun e => h (.inl e)) (fun e => h (.inr e))
  refine ⟨⟨fun p u e => ?_, w.vol, ⟨x.ne, ns, [i', n', s'], rfl, hi, hl, x.hb, x.hc⟩⟩, ⟨fun _ _ e => e, fun p u e v => by rw [hv p v]; exact e, fun _ _ _ _ e => e⟩⟩
  have nv : ¬ (Ef.bx 3 b c).vol p := fun v => by rw [w.vol p v] at e; cases e
  rw [hv p nv]; exact w.sub p u e
theorem spTake_of {K : PySem.W.Frag} {vs : List V} {H : Hp} {Q : VK} {E : XK} (h : spX K 3 1 drawM vs H Q E) : spTake0 vs H Q E := by
  obtain ⟨E, G, bv, vs', ds, post, rfl, hbx, w, hd, hl, hm, q⟩ := h
  obtain ⟨m, rfl, h0, h1, hp⟩ := drawM_inv hm
  cases E with
  | no => exact hbx.elim
  | bx k b c =>
    obtain ⟨rfl, rfl⟩ := hbx
    obtain ⟨ne, ns, is, hi, hx, hns, hb, hc⟩ := w.inv
    match is, hi, hx, hb with
    | [i, n, s], _, hx, hb =>
      cases hd with
      | cons d1 d2 =>
        cases d1; cases d2
        refine ⟨b, c, ns, i, n, s, m, rfl, ⟨ne, hb, hc⟩, hx, h0, h1, fun r H' i' n' s' hr0 hr1 hi' x o => ?_⟩
        obtain ⟨w', e'⟩ := take_ext w o hi' x hns
        exact q _ (hp r hr0 hr1) _ G H' e' w' (.int _)
theorem tape_at {ns : List Int} {i : Int} (h : 0 ≤ i) (h' : i < ((ns.map V.int).length : Int)) : ∃ z, L2.atI (ns.map V.int) i = some (.int z) := by
  rw [List.length_map] at h'
  have hj : i.toNat < ns.length := by omega
  refine ⟨ns[i.toNat], ?_⟩
  unfold L2.atI L2.ixN; rw [List.length_map, if_pos h, if_pos h']; simp [hj]
def spTape (K : PySem.W.Frag) : Sp := fun vs H Q _ => ∃ (a : Addr) (ns : List Int), vs = [.ref a] ∧ SqL K H a (ns.map V.int) ∧ ns.length ≤ 63 ∧ ∀ b c H' ns' i n s, 0 ≤ i → H b = none → H c = none → TpAt H' b c ns' i n s → ns'.length ≤ 1000 → Q (.ref b) H'
theorem law_rest3 {K : PySem.W.Frag} {g : List Sl → R Out} {n : Nat} {Q : VK} {H' : Hp} {b c : Addr} {ns : List Int} {i k s : Int} {v : V} (hg : g (.un :: .box 3 :: List.replicate n .un) fun o => o = .rt (.bool true)) (hi : 0 ≤ i) (x : TpAt H' b c ns i k s) (hl : ns.length ≤ 1000) (q : ∀ H', Q (.bl true) H') {D : Ends} (hD : D.rt = Q) :
    tS K g D (some v :: some (.ref b) :: List.replicate n none) H' := by
  refine ⟨⟨.bx 3 b c, fun _ => none, H'⟩, fun _ => none, _, _, ⟨⟨fun _ _ e => (nomatch e), fun _ _ => rfl, ⟨x.ne, ns, [i, k, s], rfl, hi, hl, x.hb, x.hc⟩⟩, .refl⟩, ⟨by simp, fun i y h => ?_, fun i j ds es u h1 _ k1 => ?_⟩, hg, fun o ho => ?_⟩
  · match i, h with
    | 0, h => exact .inl (Option.some.inj h).symm
    | 1, h => cases h; exact .inr ⟨.ref b, rfl, rfl, rfl⟩
    | i + 2, h =>
      have h' : (List.replicate n Sl.un)[i]? = some y := h
      rw [List.getElem?_replicate] at h'
      split at h'
      · cases h'; exact .inl rfl
      · cases h'
  · exfalso
    match i, h1 with
    | 0, h => cases h; cases k1
    | 1, h => cases h; cases k1
    | i + 2, h =>
      have h' : (List.replicate n Sl.un)[i]? = some ds := h
      rw [List.getElem?_replicate] at h'
      split at h'
      · cases h'; cases k1
      · cases h'
  · subst ho
    intro v G' H2 l w k
    rw [hD]
    cases k
    exact q H2
end Pu

namespace Rt
def q (a b : Int) : Rat := (a : Rat) / (b : Rat)
theorem q_eq (a b : Int) : q a b = Rat.divInt a b := (Rat.divInt_eq_div a b).symm
theorem gcd_pos {p k : Int} (h : k ≠ 0) : (0 : Int) < (Int.gcd p k : Int) := by
  have := Int.gcd_pos_of_ne_zero_right p h
  omega
theorem num_pos {p k : Int} (h : 0 < k) : p.fdiv (Int.gcd p k) = (q p k).num := by
  rw [q_eq, Rat.num_divInt, Int.sign_eq_one_of_pos h, Int.one_mul, Int.gcd_comm k p, Int.fdiv_eq_ediv_of_nonneg _ (by omega)]
theorem den_pos {p k : Int} (h : 0 < k) : k.fdiv (Int.gcd p k) = ((q p k).den : Int) := by
  rw [q_eq, Rat.den_divInt, if_neg (by omega), Int.gcd_comm k p, Int.fdiv_eq_ediv_of_nonneg _ (by omega)]
  rw [Int.natCast_ediv, Int.natAbs_of_nonneg (by omega)]
theorem num_neg {p k : Int} (h : k < 0) : p.fdiv (-(Int.gcd p k : Int)) = (q p k).num := by
  rw [q_eq, Rat.num_divInt, Int.sign_eq_neg_one_of_neg h, Int.gcd_comm k p]
  obtain ⟨c, hc⟩ := Int.gcd_dvd_left p k
  have hg := gcd_pos (p := p) (k := k) (by omega)
  generalize (Int.gcd p k : Int) = g at *
  rw [hc, show g * c = (-g) * (-c) from (Int.neg_mul_neg g c).symm, Int.mul_fdiv_cancel_left _ (by omega), show -1 * (-g * -c) = g * (-c) by grind, Int.mul_ediv_cancel_left _ (by omega)]
theorem den_neg {p k : Int} (h : k < 0) : k.fdiv (-(Int.gcd p k : Int)) = ((q p k).den : Int) := by
  rw [q_eq, Rat.den_divInt, if_neg (by omega), Int.gcd_comm k p, Int.natCast_ediv]
  obtain ⟨c, hc⟩ := Int.gcd_dvd_right p k
  have hg := gcd_pos (p := p) (k := k) (by omega)
  generalize (Int.gcd p k : Int) = g at *
  have e : ((k.natAbs : Nat) : Int) = -k := by omega
  rw [e, hc, show g * c = (-g) * (-c) from (Int.neg_mul_neg g c).symm, Int.mul_fdiv_cancel_left _ (by omega), show -(-g * -c) = g * (-c) by grind, Int.mul_ediv_cancel_left _ (by omega)]
theorem num_neg2 {p k : Int} (h : k < 0) : 0 - p.fdiv (Int.gcd p k : Int) = (q p k).num := by
  rw [← num_neg h]
  obtain ⟨c, hc⟩ := Int.gcd_dvd_left p k
  have hg := gcd_pos (p := p) (k := k) (by omega)
  generalize (Int.gcd p k : Int) = g at *
  conv => rhs; rw [hc, show g * c = (-g) * (-c) from (Int.neg_mul_neg g c).symm, Int.mul_fdiv_cancel_left _ (by omega)]
  rw [hc, Int.mul_fdiv_cancel_left _ (by omega)]; omega
theorem den_neg2 {p k : Int} (h : k < 0) : 0 - k.fdiv (Int.gcd p k : Int) = ((q p k).den : Int) := by
  rw [← den_neg h]
  obtain ⟨c, hc⟩ := Int.gcd_dvd_right p k
  have hg := gcd_pos (p := p) (k := k) (by omega)
  generalize (Int.gcd p k : Int) = g at *
  conv => rhs; rw [hc, show g * c = (-g) * (-c) from (Int.neg_mul_neg g c).symm, Int.mul_fdiv_cancel_left _ (by omega)]
  rw [hc, Int.mul_fdiv_cancel_left _ (by omega)]; omega
theorem self (x : Rat) : q x.num x.den = x := by
  unfold q
  have := Rat.divInt_eq_div x.num x.den
  rw [← Rat.divInt_eq_div, Rat.divInt_ofNat, Rat.mkRat_self]
theorem den_ne (x : Rat) : ((x.den : Int) : Rat) ≠ 0 := by
  have := x.den_pos
  intro h
  have h2 : ((x.den : Int) : Rat) = ((0 : Int) : Rat) := h
  rw [Rat.intCast_inj] at h2; omega
theorem num_eq (x : Rat) : (x.num : Rat) = x * ((x.den : Int) : Rat) := by
  have h := self x; unfold q at h; have := den_ne x; grind
theorem sum (x y : Rat) : q (x.num * y.den + y.num * x.den) (x.den * y.den) = x + y := by
  unfold q; have hx := num_eq x; have hy := num_eq y; have := den_ne x; have := den_ne y
  simp only [Rat.intCast_add, Rat.intCast_mul]; grind
theorem less (x y : Rat) : q (x.num * y.den - y.num * x.den) (x.den * y.den) = x - y := by
  unfold q; have hx := num_eq x; have hy := num_eq y; have := den_ne x; have := den_ne y
  simp only [Rat.intCast_sub, Rat.intCast_mul]; grind
theorem prod (x y : Rat) : q (x.num * y.num) (x.den * y.den) = x * y := by
  unfold q; have hx := num_eq x; have hy := num_eq y; have := den_ne x; have := den_ne y
  simp only [Rat.intCast_mul]; grind
theorem part (x y : Rat) : q (x.num * y.den) (x.den * y.num) = x / y := by
  unfold q; have hx := num_eq x; have hy := num_eq y; have := den_ne x; have := den_ne y
  by_cases h : y = 0
  · subst h; simp; grind
  · simp only [Rat.intCast_mul]; grind
theorem num_pos_of {x : Rat} (h : 0 < x) : 0 < x.num := by
  have h1 := Rat.num_nonneg.mpr (Rat.le_of_lt h)
  have : x.num ≠ 0 := fun e => by
    have : x = 0 := Rat.num_eq_zero.mp e
    subst this; exact absurd h (Rat.lt_irrefl)
  omega
end Rt
namespace Pu
open PySem PySem.Spec PyProof.Rows L2
/-! ### ratios as data -/
def rd (x : Rat) : D := .tuple [.int x.num, .int x.den]
/-- few enough bits -/
def Bt (B : Nat) (i : Int) : Prop := i.natAbs < 2 ^ B
structure Sz (B : Nat) (x : Rat) : Prop where
  n : Bt B x.num
  d : Bt B x.den
theorem Bt.mono {B C : Nat} {i : Int} (h : Bt B i) (hc : B ≤ C) : Bt C i := Nat.lt_of_lt_of_le h (Nat.pow_le_pow_right (by omega) hc)
theorem Bt.mul {B C : Nat} {i j : Int} (h : Bt B i) (k : Bt C j) : Bt (B + C) (i * j) := by
  unfold Bt at *
  rw [Int.natAbs_mul, Nat.pow_add]
  exact Nat.mul_lt_mul'' h k
theorem Bt.add {B : Nat} {i j : Int} (h : Bt B i) (k : Bt B j) : Bt (B + 1) (i + j) := by
  unfold Bt at *
  rw [Nat.pow_succ]; omega
theorem Bt.sub {B : Nat} {i j : Int} (h : Bt B i) (k : Bt B j) : Bt (B + 1) (i - j) := by
  unfold Bt at *
  rw [Nat.pow_succ]; omega
theorem Bt.neg {B : Nat} {i : Int} (h : Bt B i) : Bt B (-i) := by
  unfold Bt at *; rw [Int.natAbs_neg]; exact h
theorem Bt.log {B : Nat} {i : Int} (h : Bt B i) (hB : 0 < B) : i.natAbs.log2 < B := PySem.Flt.log2_lt_of hB h
theorem mul_b {i j : Int} (h : Bt 5000 i) (k : Bt 5000 j) : mulR (.int i) (.int j) = ok (.int (i * j)) := mulR_int (.inr (.inr (by
  have := h.log (by omega); have := k.log (by omega); omega)))
theorem mul_w {i j : Int} (h : Bt 9000 i) (k : Bt 9000 j) : mulR (.int i) (.int j) = ok (.int (i * j)) := mulR_int (.inr (.inr (by
  have := h.log (by omega); have := k.log (by omega); omega)))
theorem div_b {i j : Int} (h : 0 < j) (k : Bt 8999 j) : fdivR (.int i) (.int j) = ok (.int (i.fdiv j)) := fdivR_int ⟨by omega, .inr ⟨h, by have := k.log (by omega); omega⟩⟩
theorem fmodR_int {i j : Int} (h : j ≠ 0) : fmodR (.int i) (.int j) = ok (.int (i.fmod j)) := bd_req h _
theorem ix_rd0 (x : Rat) : ixR (rd x) (.int 0) = ok (.int x.num) := ix0 _ _
theorem ix_rd1 (x : Rat) : ixR (rd x) (.int 1) = ok (.int x.den) := ix1 _ _ _
theorem rd_int (n : Int) : PyData.tuple [.int n, .int 1] = rd n := by
  unfold rd; rw [Rat.num_intCast, Rat.den_intCast]; rfl
theorem rd_inj {x y : Rat} (h : rd x = rd y) : x = y := by
  unfold rd at h
  injection h with h; injection h with h1 h2; injection h2 with h2; injection h1 with h1; injection h2 with h2
  exact Rat.ext h1 (by omega)
theorem eqv_rd (x y : Rat) : PyData.eqv (rd x) (rd y) = true ↔ x = y := by
  unfold rd
  simp only [PyData.eqv, PyData.eqvAll, Bool.and_true, Bool.and_eq_true, decide_eq_true_eq, beq_iff_eq]
  constructor
  · rintro ⟨h1, h2⟩; exact Rat.ext h1 (by omega)
  · rintro rfl; exact ⟨rfl, rfl⟩
theorem dep_rd (x : Rat) : PyData.depth (rd x) ≤ 60 := by
  simp [rd, PyData.depth, PyData.depthAll]
theorem eqR_rd (x y : Rat) : eqR (rd x) (rd y) = ok (.bool (decide (x = y))) := by
  rw [eqR, bd_req (Nat.le_trans (Nat.min_le_left _ _) (dep_rd _))]
  congr 2
  by_cases h : x = y
  · rw [decide_eq_true h]; exact (eqv_rd x y).mpr h
  · rw [decide_eq_false h]; exact Bool.eq_false_iff.mpr fun e => h ((eqv_rd x y).mp e)
theorem neR_rd (x y : Rat) : neR (rd x) (rd y) = ok (.bool (!decide (x = y))) := neR_of (eqR_rd x y) (Nat.le_trans (Nat.min_le_left _ _) (dep_rd _))
/-- the walk of the divisor: a, b = b, a % b -/
theorem fmod_nat (a b : Nat) : (a : Int).fmod (b : Int) = ((a % b : Nat) : Int) := by
  rw [Int.fmod_eq_emod_of_nonneg _ (by omega)]; rfl
theorem gcd_while {ρ0 : List Sl} : ∀ (b a : Nat), whileM (m1 (nDR 1) truR) (setsM [0, 1] (consR (rD (nDR 1)) (consR (rD (m2 (nDR 0) (nDR 1) fmodR)) nilR))) (.dat (nI a) :: .dat (nI b) :: ρ0) = ok (.nx (.dat (nI (Nat.gcd a b)) :: .dat (nI 0) :: ρ0)) := by
  intro b
  induction b using Nat.strongRecOn with
  | _ b ih =>
    intro a
    by_cases h : b = 0
    · subst h
      rw [whileM_stop (by rw [m1_e, nDR_s, nDR_0, bd_ok]; rfl), Nat.gcd_zero_right]
    · have hs : setsM [0, 1] (consR (rD (nDR 1)) (consR (rD (m2 (nDR 0) (nDR 1) fmodR)) nilR)) (.dat (nI a) :: .dat (nI b) :: ρ0) = ok (.nx (.dat (nI b) :: .dat (nI (a % b)) :: ρ0)) := by
        simp only [setsM, consR_e, nilR_e, rD, m2_e, nDR_s, nDR_0, bd_ok]
        unfold nI
        rw [fmodR_int (by omega), bd_ok, bd_ok, bd_ok, fmod_nat]
        rfl
      rw [whileM_step (by rw [m1_e, nDR_s, nDR_0, bd_ok]; unfold nI; rw [truR_int]; congr 1; simp; omega) hs]
      rw [ih (a % b) (Nat.mod_lt _ (by omega)) b]
      rw [Nat.gcd_comm b, ← Nat.gcd_rec b a, Nat.gcd_comm]
/-- .. a, b = b, a - a // b * b -/
theorem gcd_while2 {p q : Sl} : ∀ (b a : Nat), Bt 8999 a → Bt 8999 b → whileM (m1 (m2 (nDR 3) (kR (.int 0)) gtR) asB) (setsM [2, 3] (consR (rD (nDR 3)) (consR (rD (m2 (nDR 2) (m2 (m2 (nDR 2) (nDR 3) fdivR) (nDR 3) mulR) subR)) nilR))) (p :: q :: .dat (nI a) :: .dat (nI b) :: []) = ok (.nx (p :: q :: .dat (nI (Nat.gcd a b)) :: .dat (nI 0) :: [])) := by
  intro b
  induction b using Nat.strongRecOn with
  | _ b ih =>
    intro a ha hb
    by_cases h : b = 0
    · subst h
      rw [whileM_stop (by simp only [m1_e, m2_e, nDR_s, nDR_0, bd_ok, kR_e, nI, gtR_int, asB_bool]; rfl), Nat.gcd_zero_right]
    · have hs : setsM [2, 3] (consR (rD (nDR 3)) (consR (rD (m2 (nDR 2) (m2 (m2 (nDR 2) (nDR 3) fdivR) (nDR 3) mulR) subR)) nilR)) (p :: q :: .dat (nI a) :: .dat (nI b) :: []) = ok (.nx (p :: q :: .dat (nI b) :: .dat (nI (a % b)) :: [])) := by
        simp only [setsM, consR_e, nilR_e, rD, m2_e, nDR_s, nDR_0, bd_ok]
        unfold nI
        rw [div_b (by omega) hb, bd_ok, mul_w (Bt.mono (B := 8999) (by
          unfold Bt at *
          rw [Int.fdiv_eq_ediv_of_nonneg _ (by omega)]
          have := Nat.div_le_self a b
          rw [show (a : Int) / (b : Int) = ((a / b : Nat) : Int) from rfl]
          simp only [Int.natAbs_natCast] at *; omega) (by omega)) (hb.mono (by omega)), bd_ok, subR_int, bd_ok, bd_ok]
        have e : (a : Int) - (a : Int).fdiv b * b = ((a % b : Nat) : Int) := by
          rw [Int.fdiv_eq_ediv_of_nonneg _ (by omega)]
          have := Int.mul_ediv_add_emod (a : Int) b
          have : (a : Int) % (b : Int) = ((a % b : Nat) : Int) := rfl
          grind
        rw [e]
        rfl
      rw [whileM_step (by simp only [m1_e, m2_e, nDR_s, nDR_0, bd_ok, kR_e, nI, gtR_int, asB_bool]; congr 1; simp; omega) hs]
      rw [ih (a % b) (Nat.mod_lt _ (by omega)) b hb (by
        unfold Bt at *
        have := Nat.mod_le a b
        simp only [Int.natAbs_natCast] at *; omega)]
      rw [Nat.gcd_comm b, ← Nat.gcd_rec b a, Nat.gcd_comm]
/-! ### loops over the first numbers, step by step -/
theorem forF_rngA {i : Nat} {tb : List Sl → R Out} (st : Nat → List Sl) (n : Nat) (h : ∀ k, k < n → tb ((st k).set i (.dat (nI k))) = ok (.nx (st (k + 1)))) : ∀ m k, k + m = n → forF (gSet i) tb ((List.range' k m).map nI) (st k) = ok (.nx (st n))
  | 0, k, e => by obtain rfl : k = n := by omega
                  rfl
  | m + 1, k, e => by
    rw [List.range'_succ, List.map_cons, forF_cons_ok (h k (by omega))]
    exact forF_rngA st n h m (k + 1) (by omega)
theorem forF_rng {i : Nat} {tb : List Sl → R Out} (st : Nat → List Sl) (n : Nat) (h : ∀ k, k < n → tb ((st k).set i (.dat (nI k))) = ok (.nx (st (k + 1)))) : forF (gSet i) tb ((List.range n).map nI) (st 0) = ok (.nx (st n)) := by
  rw [List.range_eq_range']; exact forF_rngA st n h n 0 (by omega)
theorem range_e (n : Nat) (h : n ≤ 1000) : range1R [.int n] = ok ((List.range n).map nI) := by
  have := range1_e (n := (n : Int)) (by have : sizeLine = 2 ^ 24 := rfl; omega) (by omega)
  simpa using this
theorem ix_tuR {f : Nat → D} {n k : Nat} (h : k < n) : ixR (tu f (List.range n)) (nI k) = ok (f k) := by
  have := ixR_tup (f := f) (l := List.range n) (k := k) (by simpa using h)
  rw [List.getElem_range] at this; exact this
theorem ix_liR {f : Nat → D} {n k : Nat} (h : k < n) : ixR (li f (List.range n)) (nI k) = ok (f k) := by
  have := ixR_lst (f := f) (l := List.range n) (k := k) (by simpa using h)
  rw [List.getElem_range] at this; exact this
theorem app_e {n : Nat} {f : Nat → D} (h : n ≤ 1000) : appR ((List.range n).map f) [f n] = ok ((List.range (n + 1)).map f) := by
  show bd (req _) _ = _
  rw [bd_req (by rw [List.length_map, List.length_range]; exact Nat.lt_of_le_of_lt h (by decide)), List.range_succ, List.map_append]; rfl
/-! ### whole after times D -/
structure In (D M : Nat) (x : Rat) : Prop where
  ex : ∃ z : Int, x * (D : Rat) = (z : Rat) ∧ z.natAbs ≤ M
theorem natCast_pos {D : Nat} (h : 0 < D) : (0 : Rat) < (D : Rat) := by
  have : ((0 : Int) : Rat) < ((D : Int) : Rat) := Rat.intCast_lt_intCast.mpr (by omega)
  exact this
theorem In.add {D M N : Nat} {x y : Rat} (a : In D M x) (b : In D N y) : In D (M + N) (x + y) := by
  obtain ⟨z, e, h⟩ := a; obtain ⟨z', e', h'⟩ := b
  exact ⟨z + z', by rw [Rat.add_mul, e, e', Rat.intCast_add], by omega⟩
theorem In.sub {D M N : Nat} {x y : Rat} (a : In D M x) (b : In D N y) : In D (M + N) (x - y) := by
  obtain ⟨z, e, h⟩ := a; obtain ⟨z', e', h'⟩ := b
  exact ⟨z - z', by rw [Rat.sub_eq_add_neg, Rat.add_mul, Rat.neg_mul, e, e', Rat.intCast_sub, Rat.sub_eq_add_neg], by omega⟩
theorem In.mono {D M N : Nat} {x : Rat} (a : In D M x) (h : M ≤ N) : In D N x := by
  obtain ⟨z, e, h'⟩ := a; exact ⟨z, e, by omega⟩
theorem In.imul {D M N : Nat} {x : Rat} {i : Int} (a : In D M x) (h : i.natAbs ≤ N) : In D (N * M) ((i : Rat) * x) := by
  obtain ⟨z, e, h'⟩ := a
  exact ⟨i * z, by rw [Rat.mul_assoc, e, Rat.intCast_mul], by rw [Int.natAbs_mul]; exact Nat.mul_le_mul h h'⟩
theorem In.sz {D M B : Nat} {x : Rat} (a : In D M x) (h0 : 0 < D) (hM : M < 2 ^ B) (hD : D < 2 ^ B) : Sz B x := by
  obtain ⟨z, e, h⟩ := a
  have hne : (D : Rat) ≠ 0 := fun h => by have := natCast_pos h0; rw [h] at this; exact absurd this Rat.lt_irrefl
  have hx : x = Rat.divInt z D := by
    rw [Rat.divInt_eq_div]
    have : (((D : Nat) : Int) : Rat) = (D : Rat) := rfl
    rw [this, ← e]; grind
  have hn : x.num = z / (Int.gcd D z : Int) := by rw [hx, Rat.num_divInt, Int.sign_eq_one_of_pos (by omega), Int.one_mul]
  have hd : x.den = D / Int.gcd D z := by rw [hx, Rat.den_divInt, if_neg (by omega), Int.natAbs_natCast]
  constructor
  · unfold Bt
    have : x.num.natAbs ≤ z.natAbs := by
      rw [hn, Int.natAbs_ediv_of_dvd (Int.gcd_dvd_right _ _)]; exact Nat.div_le_self _ _
    omega
  · unfold Bt
    have : x.den ≤ D := by rw [hd]; exact Nat.div_le_self _ _
    rw [Int.natAbs_natCast]; omega
theorem bt_nat {k B : Nat} (h : k < 2 ^ B) : Bt B (k : Int) := by unfold Bt; rw [Int.natAbs_natCast]; exact h
theorem sz_int {i : Int} {B : Nat} (hB : 0 < B) (h : Bt B i) : Sz B (i : Rat) := ⟨by rw [Rat.num_intCast]; exact h, by rw [Rat.den_intCast]; unfold Bt; exact Nat.one_lt_two_pow (by omega)⟩
end Pu

namespace Pu
open PySem PySem.Spec PyProof.Rows L2
/-! ### enumerate and zip over lists and tuples in any mix -/
def SqK (K : PySem.W.Frag) (k : Bool) (H : Hp) (a : Addr) (xs : List V) : Prop := match k with | true => SqL K H a xs | false => SqT K H a xs
def ItK (k : Bool) (h : Heap) (it a : Addr) (i : Nat) : Prop := match k with | true => h.IsListIter it a i | false => h.IsTupleIter it a i
def IsK (k : Bool) (h : Heap) (a : Addr) (its : Array Value) : Prop := match k with | true => h.IsList a its | false => h.IsTuple a its
def oK (k : Bool) (a : Addr) : Obj := match k with
  | true => { cls := .type "list_iterator", data := .fields #[.ref a, .int 0 0] }
  | false => { cls := .type "tuple_iterator", data := .fields #[.ref a, .int 0 0] }
theorem oK.free (k : Bool) (a : Addr) : (oK k a).isFreed = false := by cases k <;> rfl
theorem beginsK (k : Bool) (a : Addr) (its : Array Value) : Begins (.ref a) (oK k a) (fun h => IsK k h a its) := by
  cases k
  · exact begins_tuple a its
  · exact begins_list a its
theorem ItK.new {k : Bool} {h : Heap} {it a : Addr} (e : h.get? it = some (oK k a)) : ItK k h it a 0 := by
  cases k
  · exact ⟨_, e, rfl, rfl⟩
  · exact ⟨_, e, rfl, rfl⟩
theorem ItK.at {k : Bool} {h h' : Heap} {it a : Addr} {i : Nat} (x : ItK k h it a i) (e : ∀ o, h.get? it = some o → h'.get? it = some o) : ItK k h' it a i := by
  cases k
  · exact Heap.IsTupleIter.at x e
  · exact Heap.IsListIter.at x e
theorem IsK.at {k : Bool} {h h' : Heap} {a : Addr} {its : Array Value} (x : IsK k h a its) (e : ∀ o, h.get? a = some o → h'.get? a = some o) : IsK k h' a its := by
  cases k
  · exact Heap.IsTuple.at x e
  · exact Heap.IsList.at x e
theorem ItK.obj {k : Bool} {h : Heap} {it a : Addr} {i : Nat} (x : ItK k h it a i) : ∃ o, h.get? it = some o ∧ ∀ v, o.data ≠ .cell v := by
  cases k
  · obtain ⟨o, h1, h2, h3⟩ := x; exact ⟨o, h1, fun v q => by rw [h3] at q; cases q⟩
  · obtain ⟨o, h1, h2, h3⟩ := x; exact ⟨o, h1, fun v q => by rw [h3] at q; cases q⟩
theorem IsK.obj {k : Bool} {h : Heap} {a : Addr} {its : Array Value} (x : IsK k h a its) : ∃ o, h.get? a = some o := by
  cases k
  · obtain ⟨o, h1, _⟩ := x; exact ⟨o, h1⟩
  · obtain ⟨o, h1, _⟩ := x; exact ⟨o, h1⟩
theorem drawsK {prog : Program} {w : World} {A : Around} (k : Bool) (hh : A.handled = none) (it a : Addr) (hne : a ≠ it) (its : Array Value) :
    Draws prog w A it [it, a] its.size (fun i v => its[i]? = some v) (fun i h => ItK k h it a i ∧ IsK k h a its) := by
  cases k
  · exact .tuple hh it a hne its
  · exact .list hh it a hne its
theorem drawsEnd {prog : Program} {w : World} {A : Around} (k : Bool) (hh : A.handled = none) (it a : Addr) (its : Array Value) (i : Nat) (hi : its.size ≤ i) :
    Draws prog w A it [it, a] i (fun _ _ => False) (fun j h => j = i ∧ ItK k h it a j ∧ IsK k h a its) where
  live := fun _ _ st => let ⟨o, ho, _⟩ := st.2.1.obj; ⟨o, ho⟩
  frame := fun _ _ _ st hk => ⟨st.1, st.2.1.at fun o e => hk it (by simp) o e, st.2.2.at fun o e => hk a (by simp) o e⟩
  item := fun j s Q E hj st hQ => absurd st.1 (by omega)
  done := fun s Q E st hE => by
    cases k
    · exact wpAny_nextOf_tuple_end hh st.2.1 st.2.2 (by simpa using hi) hE
    · exact wpAny_nextOf_list_end hh st.2.1 st.2.2 (by simpa using hi) hE
theorem drawsU {prog : Program} {w : World} {A : Around} (k : Bool) (hh : A.handled = none) (it a : Addr) (hne : a ≠ it) (its : Array Value) (i : Nat) (h : Heap) (x : ItK k h it a i) (y : IsK k h a its) :
    ∃ n P St, Draws prog w A it [it, a] n P St ∧ St i h ∧ i ≤ n ∧ (its.size ≤ i → i = n) := by
  by_cases hi : its.size ≤ i
  · exact ⟨i, _, _, drawsEnd k hh it a its i hi, ⟨rfl, x, y⟩, Nat.le_refl _, fun _ => rfl⟩
  · exact ⟨its.size, _, _, drawsK k hh it a hne its, ⟨x, y⟩, by omega, fun q => absurd q hi⟩
theorem SqK.its {X : Cx} {pins : List (Addr × Obj)} {σ : L2.St} {H : Hp} {s : Shared} {k : Bool} {a : Addr} {xs : List V} (I : Inv X pins σ H s) (h : SqK X.K k H a xs) : ∃ its, Vals xs its ∧ IsK k s.heap a its.toArray := by
  cases k
  · obtain ⟨its, rv, p, _⟩ := I.tuple h; exact ⟨its, rv, p⟩
  · obtain ⟨its, rv, p, _⟩ := I.list h; exact ⟨its, rv, p.isList⟩
theorem SqK.inj {X : Cx} {pins : List (Addr × Obj)} {σ : L2.St} {H : Hp} {s : Shared} {k : Bool} {a : Addr} {xs ys : List V} (I : Inv X pins σ H s) (h : SqK X.K k H a xs) (h' : SqK X.K k H a ys) : xs = ys := by
  cases k
  · exact I.tuple_inj h h'
  · exact I.list_inj h h'
/-- what is at a as it stands at each turn, each item in a new pair with its number -/
def IteK (K : PySem.W.Frag) (k : Bool) (a : Addr) : It :=
  ⟨fun i H => ∃ (xs : List V) (x : V), SqK K k H a xs ∧ xs[i]? = some x, fun i H v H' => ∃ T x, v = .ref T ∧ H T = none ∧ H' = upd H T (.tup [.int (i : Nat), x]) ∧ ∀ xs, SqK K k H a xs → xs[i]? = some x, fun i H => ∃ xs : List V, SqK K k H a xs ∧ xs.length ≤ i⟩
theorem turn_enumK {P : Program} {w : World} {K : PySem.W.Frag} {elts : List Expr} {kk : Nat} {tpos : Pos} (k : Bool) (a e it : Addr) :
    Turn P w K (.Tuple elts kk tpos) (IteK K k a) [e, it] e (fun i h => (∃ old, IsEnum h e it ((i : Nat) : Int) old) ∧ ItK k h it a i ∧ e ≠ it ∧ a ≠ it ∧ e ≠ a) where
  mem := by simp
  obj := fun i h st b hb => by
    obtain ⟨⟨old, he⟩, hit, _⟩ := st
    have e' : b = e ∨ b = it := by simpa using hb
    rcases e' with z | z
    · rw [z]; exact ⟨_, he, fun v q => nomatch q⟩
    · rw [z]; exact hit.obj
  keep := fun i h h' st k => let ⟨⟨old, he⟩, hi, hne⟩ := st; ⟨⟨old, k e (by simp) _ he⟩, hi.at fun o q => k it (by simp) o q, hne⟩
  item := by
    intro X hP hw hK hc i pins s σ H E I hf st hg
    subst hP hw hK
    obtain ⟨⟨old, he⟩, hit, hne, hai, hea⟩ := st
    obtain ⟨xs, x, hq, hx⟩ := hg
    obtain ⟨its, rv, p⟩ := hq.its I
    obtain ⟨u, hu, ru⟩ := rv.get hx
    have hel : e < s.heap.objs.size := Heap.lt_size he
    have hil : it < s.heap.objs.size := by obtain ⟨_, q, _⟩ := hit.obj; exact Heap.lt_size q
    have hlt : i < its.toArray.size := by
      have := (List.getElem?_eq_some_iff.mp hu).1
      simpa using this
    refine wpAny_pyNext_enum_itemC (drawsK (A := X.A.in1) k (I.ok.hd hc) it a hai its.toArray) he ⟨hit, p⟩ hlt hne (by simp [hne, hea]) fun x' h' tk hP ho hst hT hsz hk => ?_
    obtain ⟨hit', _⟩ := hst
    have hP' : its[i]? = some x' := by simpa using hP
    obtain rfl : u = x' := Option.some.inj (hu.symm.trans hP')
    refine ⟨_, rfl, wpAny_letOwnedTupleGo_enum (s := { s with heap := h', toks := tk + 1 }) ho fun h'' he' sb => ?_⟩
    have hT2 : h''.get? s.heap.objs.size = some { cls := .type "tuple", data := .seq #[.int i tk, u] } := (sb.2 _ (Nat.ne_of_gt hel)).trans hT
    have new : ObjOk X.prog X.w (upd H s.heap.objs.size (.tup [.int (i : Nat), x])) h'' s.heap.objs.size (.tup [.int (i : Nat), x]) :=
      ⟨by show 2 ≤ sizeLine; decide, [.int i tk, u], .cons ⟨_, rfl⟩ (.cons ru .nil), ⟨_, hT2, rfl, _, rfl⟩⟩
    have I1 : Inv X pins σ (upd H s.heap.objs.size (.tup [.int (i : Nat), x])) { s with heap := h'', toks := tk + 1 } :=
      I.turnedNew (ch := [e, it]) (fun b ob hb q => (sb.2 b (fun z => hb (by simp [z]))).trans (hk b ob (fun z => hb (by simp [z])) (fun z => hb (by simp [z])) q)) hf (Nat.le_refl _) new
    refine ⟨.ref s.heap.objs.size, _, I1, rfl, ⟨_, x, rfl, I.hok.fresh (Nat.le_refl _), rfl, fun ys hy => by rw [SqK.inj I hy hq]; exact hx⟩, ⟨⟨u, ?_⟩, hit'.at fun o q => (sb.2 it (Ne.symm hne)).trans q, hne, hai, hea⟩, fun b hb => ?_⟩
    · have e1 : ((i + 1 : Nat) : Int) = (i : Int) + 1 := by omega
      rw [e1]; exact he'
    · have hb' : b < s.heap.objs.size := by
        have e' : b = e ∨ b = it := by simpa using hb
        rcases e' with z | z
        · rw [z]; exact hel
        · rw [z]; exact hil
      rw [upd_ne (Nat.ne_of_lt hb')]
      exact (hf b hb).1
  done := by
    intro X hP hw hK hc i pins s σ H E I hf st hg
    subst hP hw hK
    obtain ⟨⟨old, he⟩, hit, hne, hai, hea⟩ := st
    obtain ⟨xs, hq, hx⟩ := hg
    obtain ⟨its, rv, p⟩ := hq.its I
    obtain ⟨f0, f1, f2, f3, f4, f5⟩ := hf it (by simp)
    have hl := rv.length
    exact wpAny_pyNext_enum_endD (drawsEnd (A := X.A.in1) k (I.ok.hd hc) it a its.toArray i (by simp; omega)) he ⟨rfl, hit, p⟩ fun h' eb => ⟨rfl, I.turned (t' := s.toks) (fun b o hb q => eb b o hb q) f0 f1 f3 f4 f5⟩
  self := fun A i s Q E st h => let ⟨⟨_, he⟩, _⟩ := st; wpAny_pyIter_enum he h
theorem enum_meets {v : Value} {o : Obj} {H : Heap → Prop} (B : Begins v o H) :
    Meets (Builtin.«enumerate.__new__» ⟨[.type "enumerate", v], []⟩) (fun _ R s => H s.heap ∧
      R (.ok (.ret (.ref (s.heap.push o).objs.size))) { s with heap := (s.heap.push o).push { cls := .type "enumerate", data := .fields #[.none, .bool false, .ref s.heap.objs.size, rawInt 0, .none, .none] } }) :=
  .of_wp fun prog w A R s h => by
    obtain ⟨hp, g, d, tk, os⟩ := s
    obtain ⟨h1, h⟩ := h
    have hsub := sub_enumerate
    have qq : ∀ {A' : Around} {E : Value → Shared → Prop} {Q : Value → Shared → Prop}, Q (.ref hp.objs.size) ⟨hp.push o, g, d, tk, os⟩ → wpAny (model prog w) A' (pyIter v) Q E ⟨hp, g, d, tk, os⟩ :=
      fun q => B.iter prog w _ _ ⟨hp, g, d, tk, os⟩ _ h1 q
    wp_walk using qq
    refine wpAny_stack_any fun st => wpAny_pure ?_
    split
    · rename_i c _ _ _ _ _
      cases (c == Value.type "enumerate") <;> (wp_walk using qq; exact ⟨_, rfl, h⟩)
    · wp_walk using qq
      exact ⟨_, rfl, h⟩
theorem call_enumK {prog : Program} {w : World} {A : Around} {E : Value → Shared → Prop} {s : Shared} {k : Bool} {a : Addr} {its : Array Value} {Q : Value → Shared → Prop} (h1 : IsK k s.heap a its)
    (h : ∀ h', IsEnum h' (s.heap.objs.size + 1) s.heap.objs.size 0 .none → ItK k h' s.heap.objs.size a 0 →
      (∀ b o, s.heap.get? b = some o → h'.get? b = some o) → Q (.ref (s.heap.objs.size + 1)) { s with heap := h' }) :
    wpAny (model prog w) A (PySem.call (.type "enumerate") [.ref a]) Q E s := by
  refine callType_new F.called_enumerate (by decide) (F.typeCall_enumerate_1 _) (F.newCall_enumerate_1 _) (fun obj => F.args_object_init_2 obj _) F.entry_enumerate_new (enum_meets (beginsK k a its)) ⟨h1, ?_⟩
  have hz : (s.heap.push (oK k a)).objs.size = s.heap.objs.size + 1 := Heap.size_push ..
  show _ ∧ _
  rw [hz]
  have he : IsEnum ((s.heap.push (oK k a)).push { cls := .type "enumerate", data := .fields #[.none, .bool false, .ref s.heap.objs.size, rawInt 0, .none, .none] }) (s.heap.objs.size + 1) s.heap.objs.size 0 .none := by
    have := Heap.get?_push_size (s.heap.push (oK k a)) (o := { cls := .type "enumerate", data := .fields #[.none, .bool false, .ref s.heap.objs.size, rawInt 0, .none, .none] }) rfl
    rw [hz] at this; exact this
  exact ⟨⟨_, he, rfl⟩, h _ he (.new (Heap.get?_push_of_some _ (Heap.get?_push_size _ (oK.free k a)))) fun b o x => Heap.get?_push_of_some _ (Heap.get?_push_of_some _ x)⟩
def iEnumK (K : PySem.W.Frag) (ta : TA) : TI := fun σ H R => ta σ H fun vs H1 => ∃ k a xs, vs = [.ref a] ∧ SqK K k H1 a xs ∧ R (IteK K k a) H1
theorem pi_enumK {X : Cx} {e : Expr} {ta : TA} {p pos tpos : Pos} {elts : List Expr} {kk : Nat} (hg : Gl X "enumerate") (hm : X.mg "enumerate" = none) (ha : PA X [e] ta) (hs : starEach [e] X.env = [(false, eval e X.env)] := by rfl) :
    PI X (.Tuple elts kk tpos) (.Call (.Name "enumerate" p) [e] [] pos) (iEnumK X.K ta) := by
  refine ⟨fun pins s σ H R I h => ?_⟩
  refine Call_ (ld_blt I hg hm boot_enumerate (PyProof.Rows.callWith_type1 (thn (ha.run pos pins s σ H _ I h) fun us s1 ⟨vs, H1, I1, r1, q1⟩ => ?_) hs rfl))
  obtain ⟨k, a, xs, ex, hq, q⟩ := q1
  subst ex
  cases r1 with
  | cons r rr =>
    cases rr
    cases r
    obtain ⟨its, rv, p'⟩ := hq.its I1
    obtain ⟨oa, hoa⟩ := p'.obj
    have hal : a < s1.heap.objs.size := Heap.lt_size hoa
    refine call_enumK p' fun h' he hit hk => wpAny_pyIter_enum he ?_
    have I2 : Inv X pins σ H1 { s1 with heap := h' } := I1.kept (t' := s1.toks) hk
    refine ⟨s1.heap.objs.size + 1, [s1.heap.objs.size + 1, s1.heap.objs.size], _, _, H1, rfl, I2, turn_enumK k a (s1.heap.objs.size + 1) s1.heap.objs.size, ⟨⟨.none, he⟩, hit, Nat.succ_ne_self _, Nat.ne_of_lt hal, Nat.ne_of_gt (Nat.lt_succ_of_lt hal)⟩, fun b hb => ?_, q⟩
    have e' : b = s1.heap.objs.size + 1 ∨ b = s1.heap.objs.size := by simpa using hb
    have hle : s1.heap.objs.size ≤ b := by
      rcases e' with z | z
      · rw [z]; exact Nat.le_add_right _ _
      · rw [z]; exact Nat.le_refl _
    exact I1.fpOk hle (I1.hok.fresh hle)
/-- the 2 rows as they stand at each turn, their items in new rows -/
def IzK2 (K : PySem.W.Frag) (k1 k2 : Bool) (a1 a2 : Addr) : It :=
  ⟨fun i H => ∃ (xs1 xs2 : List V) (x1 x2 : V), SqK K k1 H a1 xs1 ∧ SqK K k2 H a2 xs2 ∧ xs1[i]? = some x1 ∧ xs2[i]? = some x2,
    fun i H v H' => ∃ T x1 x2, v = .ref T ∧ H T = none ∧ H' = upd H T (.tup [x1, x2]) ∧ (∀ xs, SqK K k1 H a1 xs → xs[i]? = some x1) ∧ (∀ xs, SqK K k2 H a2 xs → xs[i]? = some x2),
    fun i H => ∃ xs1 xs2 : List V, SqK K k1 H a1 xs1 ∧ SqK K k2 H a2 xs2 ∧ (xs1.length ≤ i ∨ xs2.length ≤ i)⟩
theorem turn_zip2K {P : Program} {w : World} {K : PySem.W.Frag} {elts : List Expr} {kk : Nat} {tpos : Pos} (k1 k2 : Bool) {a1 a2 z TI TO i1 i2 : Addr} (S : ZipSep2 z TI TO i1 i2 [i1, a1] [i2, a2]) (n1 : a1 ≠ i1) (n2 : a2 ≠ i2) :
    Turn P w K (.Tuple elts kk tpos) (IzK2 K k1 k2 a1 a2) [z, TI, TO, i1, i2] z (fun i h => IsZip h z TI TO .none ∧ IsTupOf2 h TI (.ref i1) (.ref i2) ∧ (∃ y1 y2, IsTupOf2 h TO y1 y2) ∧ ItK k1 h i1 a1 i ∧ ItK k2 h i2 a2 i) where
  mem := by simp
  obj := fun i h st c hc => by
    obtain ⟨hz, hTI, ⟨y1, y2, hTO⟩, h1, h2⟩ := st
    have e' : c = z ∨ c = TI ∨ c = TO ∨ c = i1 ∨ c = i2 := by simpa using hc
    rcases e' with q | q | q | q | q
    · rw [q]; exact ⟨_, hz, fun v q => nomatch q⟩
    · rw [q]; exact ⟨_, hTI, fun v q => nomatch q⟩
    · rw [q]; exact ⟨_, hTO, fun v q => nomatch q⟩
    · rw [q]; exact h1.obj
    · rw [q]; exact h2.obj
  keep := fun i h h' st k => by
    obtain ⟨hz, hTI, ⟨y1, y2, hTO⟩, h1, h2⟩ := st
    exact ⟨k z (by simp) _ hz, k TI (by simp) _ hTI, ⟨y1, y2, k TO (by simp) _ hTO⟩, h1.at fun o q => k i1 (by simp) o q, h2.at fun o q => k i2 (by simp) o q⟩
  item := by
    intro X hP hw hK hc i pins s σ H E I hf st hg
    subst hP hw hK
    obtain ⟨hz, hTI, ⟨y1, y2, hTO⟩, h1, h2⟩ := st
    obtain ⟨xs1, xs2, x1, x2, hq1, hq2, hx1, hx2⟩ := hg
    obtain ⟨its1, rv1, p1⟩ := hq1.its I
    obtain ⟨u1, hu1, ru1⟩ := rv1.get hx1
    have lt1 : i < its1.toArray.size := by
      have := (List.getElem?_eq_some_iff.mp hu1).1
      simpa using this
    obtain ⟨its2, rv2, p2⟩ := hq2.its I
    obtain ⟨u2, hu2, ru2⟩ := rv2.get hx2
    have lt2 : i < its2.toArray.size := by
      have := (List.getElem?_eq_some_iff.mp hu2).1
      simpa using this
    have hzl : z < s.heap.objs.size := Heap.lt_size hz
    refine wpAny_pyNext_zipD2_item S (drawsK (A := X.A.in1) k1 (I.ok.hd hc) i1 a1 n1 its1.toArray) (drawsK (A := X.A.in1) k2 (I.ok.hd hc) i2 a2 n2 its2.toArray) hz hTI hTO ⟨h1, p1⟩ ⟨h2, p2⟩ lt1 lt2 fun v1 v2 h' tk hP1 hP2 z' TO' st1 st2 hT hsz hk => ?_
    obtain rfl : u1 = v1 := Option.some.inj (hu1.symm.trans (by simpa using hP1))
    obtain rfl : u2 = v2 := Option.some.inj (hu2.symm.trans (by simpa using hP2))
    refine ⟨_, rfl, wpAny_letOwnedTupleGo_zip (s := { s with heap := h', toks := tk }) z' fun h'' z'' sb => ?_⟩
    have hT2 : h''.get? s.heap.objs.size = some { cls := .type "tuple", data := .seq #[u1, u2] } := (sb.2 _ (Nat.ne_of_gt hzl)).trans hT
    have new : ObjOk X.prog X.w (upd H s.heap.objs.size (.tup [x1, x2])) h'' s.heap.objs.size (.tup [x1, x2]) :=
      ⟨by show 2 ≤ sizeLine; decide, [u1, u2], .cons ru1 (.cons ru2 .nil), ⟨_, hT2, rfl, _, rfl⟩⟩
    have I1 : Inv X pins σ (upd H s.heap.objs.size (.tup [x1, x2])) { s with heap := h'', toks := tk } :=
      I.turnedNew (ch := [z, TI, TO, i1, i2]) (fun c o hb q => (sb.2 c (fun q' => hb (by simp [q']))).trans (hk c o (fun q' => hb (by simp [q'])) (fun q' => hb (by simp [q'])) (fun q' => hb (by simp [q'])) (fun q' => hb (by simp [q'])) q)) hf (Nat.le_refl _) new
    refine ⟨.ref s.heap.objs.size, _, I1, rfl, ⟨_, x1, x2, rfl, I.hok.fresh (Nat.le_refl _), rfl, fun l hl => by rw [SqK.inj I hl hq1]; exact hx1, fun l hl => by rw [SqK.inj I hl hq2]; exact hx2⟩, ⟨z'', ?_, ⟨u1, u2, ?_⟩, st1.1.at fun o q => (sb.2 _ S.zi1.symm).trans q, st2.1.at fun o q => (sb.2 _ S.zi2.symm).trans q⟩, fun c hcm => ?_⟩
    · exact (sb.2 _ S.TIz).trans (hk _ _ S.TIz S.TITO S.TIi1 S.TIi2 hTI)
    · exact (sb.2 _ S.TOz).trans TO'
    · have hlt : c < s.heap.objs.size := by
        have e' : c = z ∨ c = TI ∨ c = TO ∨ c = i1 ∨ c = i2 := by simpa using hcm
        rcases e' with q | q | q | q | q
        · rw [q]; exact hzl
        · rw [q]; exact Heap.lt_size hTI
        · rw [q]; exact Heap.lt_size hTO
        · rw [q]; obtain ⟨_, e1, _⟩ := h1.obj; exact Heap.lt_size e1
        · rw [q]; obtain ⟨_, e1, _⟩ := h2.obj; exact Heap.lt_size e1
      rw [upd_ne (Nat.ne_of_lt hlt)]
      exact (hf c hcm).1
  done := by
    intro X hP hw hK hc i pins s σ H E I hf st hg
    subst hP hw hK
    obtain ⟨hz, hTI, ⟨y1, y2, hTO⟩, h1, h2⟩ := st
    obtain ⟨xs1, xs2, hq1, hq2, hend⟩ := hg
    obtain ⟨its1, rv1, p1⟩ := hq1.its I
    have l1 := rv1.length
    obtain ⟨m1, P1, St1, D1, s1, b1, e1⟩ := drawsU (A := X.A.in1) (w := X.w) (prog := X.prog) k1 (I.ok.hd hc) i1 a1 n1 its1.toArray i s.heap h1 p1
    obtain ⟨its2, rv2, p2⟩ := hq2.its I
    have l2 := rv2.length
    obtain ⟨m2, P2, St2, D2, s2, b2, e2⟩ := drawsU (A := X.A.in1) (w := X.w) (prog := X.prog) k2 (I.ok.hd hc) i2 a2 n2 its2.toArray i s.heap h2 p2
    exact wpAny_pyNext_zipD2_end S D1 D2 hz hTI hTO s1 s2 b1 b2 (by simp only [List.size_toArray] at *; omega) fun h' tk hk => ⟨rfl, I.turnedL (t' := tk) (ch := [z, TI, TO, i1, i2]) (fun c o hb q =>
      hk c o (fun q' => hb (by simp [q'])) (fun q' => hb (by simp [q'])) (fun q' => hb (by simp [q'])) (fun q' => hb (by simp [q'])) q) hf⟩
  self := fun A i s Q E st h => wpAny_pyIter_zip st.1 h
def iZip2K (K : PySem.W.Frag) (ta : TA) : TI := fun σ H R => ta σ H fun vs H1 => ∃ k1 k2 a1 a2 xs1 xs2, vs = [.ref a1, .ref a2] ∧ SqK K k1 H1 a1 xs1 ∧ SqK K k2 H1 a2 xs2 ∧ R (IzK2 K k1 k2 a1 a2) H1
theorem pi_zip2K {X : Cx} {e1 e2 : Expr} {ta : TA} {p pos tpos : Pos} {elts : List Expr} {kk : Nat} (hg : Gl X "zip") (hm : X.mg "zip" = none) (ha : PA X [e1, e2] ta)
    (hs : starEach [e1, e2] X.env = (false, eval e1 X.env) :: starEach [e2] X.env := by rfl) (hpl : (backTo pos (starEach [e2] X.env)).any (·.1) = false := by rfl) :
    PI X (.Tuple elts kk tpos) (.Call (.Name "zip" p) [e1, e2] [] pos) (iZip2K X.K ta) := by
  refine ⟨fun pins s σ H R I h => ?_⟩
  refine Call_ (ld_blt I hg hm PyProof.Rows.boot_zip (PyProof.Rows.callWith_type1 (thn (ha.run pos pins s σ H _ I h) fun us s1 ⟨vs, H1, I1, r1, q1⟩ => ?_) hs hpl))
  obtain ⟨k1, k2, a1, a2, xs1, xs2, ex, hq1, hq2, q⟩ := q1
  subst ex
  have eu : us = [Value.ref a1, Value.ref a2] := by
    cases r1 with | cons ra1 rr1 => cases rr1 with | cons ra2 rr2 => (cases rr2; cases ra1; cases ra2; rfl)
  subst eu
  have fr : ∀ c, c ∈ [s1.heap.objs.size + 4, s1.heap.objs.size + 2, s1.heap.objs.size + 3, s1.heap.objs.size, s1.heap.objs.size + 1] → FpOk X pins H1 c := fun c hcm => by
    have e' : c = s1.heap.objs.size + 4 ∨ c = s1.heap.objs.size + 2 ∨ c = s1.heap.objs.size + 3 ∨ c = s1.heap.objs.size ∨ c = s1.heap.objs.size + 1 := by simpa using hcm
    have hle : s1.heap.objs.size ≤ c := by
      rcases e' with z | z | z | z | z <;> (rw [z]; first | exact Nat.le_add_right _ _ | exact Nat.le_refl _)
    exact I1.fpOk hle (I1.hok.fresh hle)
  obtain ⟨its1, rv1, p1⟩ := hq1.its I1
  obtain ⟨o1, ho1⟩ := p1.obj
  have hl1 : a1 < s1.heap.objs.size := Heap.lt_size ho1
  obtain ⟨its2, rv2, p2⟩ := hq2.its I1
  obtain ⟨o2, ho2⟩ := p2.obj
  have hl2 : a2 < s1.heap.objs.size := Heap.lt_size ho2
  refine zip_begins2 (beginsK k1 a1 its1.toArray) (beginsK k2 a2 its2.toArray) p1 p2 fun h' hz hTI hTO g1 g2 hsz hk => wpAny_pyIter_zip hz ?_
  have I2 : Inv X pins σ H1 { s1 with heap := h' } := I1.kept (t' := s1.toks) hk
  exact ⟨s1.heap.objs.size + 4, [s1.heap.objs.size + 4, s1.heap.objs.size + 2, s1.heap.objs.size + 3, s1.heap.objs.size, s1.heap.objs.size + 1], _, _, H1, rfl, I2, turn_zip2K k1 k2 (zip_sep2 (N := s1.heap.objs.size) (fp1 := [a1]) (fp2 := [a2]) (fun b hb => by rw [List.mem_singleton.mp hb]; exact hl1) (fun b hb => by rw [List.mem_singleton.mp hb]; exact hl2)) (Nat.ne_of_lt hl1) (Nat.ne_of_lt (Nat.lt_add_right 1 hl2)), ⟨hz, hTI, ⟨_, _, hTO⟩, .new g1, .new g2⟩, fr, q⟩
/-- the 3 rows as they stand at each turn, their items in new rows -/
def IzK3 (K : PySem.W.Frag) (k1 k2 k3 : Bool) (a1 a2 a3 : Addr) : It :=
  ⟨fun i H => ∃ (xs1 xs2 xs3 : List V) (x1 x2 x3 : V), SqK K k1 H a1 xs1 ∧ SqK K k2 H a2 xs2 ∧ SqK K k3 H a3 xs3 ∧ xs1[i]? = some x1 ∧ xs2[i]? = some x2 ∧ xs3[i]? = some x3,
    fun i H v H' => ∃ T x1 x2 x3, v = .ref T ∧ H T = none ∧ H' = upd H T (.tup [x1, x2, x3]) ∧ (∀ xs, SqK K k1 H a1 xs → xs[i]? = some x1) ∧ (∀ xs, SqK K k2 H a2 xs → xs[i]? = some x2) ∧ (∀ xs, SqK K k3 H a3 xs → xs[i]? = some x3),
    fun i H => ∃ xs1 xs2 xs3 : List V, SqK K k1 H a1 xs1 ∧ SqK K k2 H a2 xs2 ∧ SqK K k3 H a3 xs3 ∧ (xs1.length ≤ i ∨ xs2.length ≤ i ∨ xs3.length ≤ i)⟩
theorem turn_zip3K {P : Program} {w : World} {K : PySem.W.Frag} {elts : List Expr} {kk : Nat} {tpos : Pos} (k1 k2 k3 : Bool) {a1 a2 a3 z TI TO i1 i2 i3 : Addr} (S : ZipSep3 z TI TO i1 i2 i3 [i1, a1] [i2, a2] [i3, a3]) (n1 : a1 ≠ i1) (n2 : a2 ≠ i2) (n3 : a3 ≠ i3) :
    Turn P w K (.Tuple elts kk tpos) (IzK3 K k1 k2 k3 a1 a2 a3) [z, TI, TO, i1, i2, i3] z (fun i h => IsZip h z TI TO .none ∧ IsTupOf3 h TI (.ref i1) (.ref i2) (.ref i3) ∧ (∃ y1 y2 y3, IsTupOf3 h TO y1 y2 y3) ∧ ItK k1 h i1 a1 i ∧ ItK k2 h i2 a2 i ∧ ItK k3 h i3 a3 i) where
  mem := by simp
  obj := fun i h st c hc => by
    obtain ⟨hz, hTI, ⟨y1, y2, y3, hTO⟩, h1, h2, h3⟩ := st
    have e' : c = z ∨ c = TI ∨ c = TO ∨ c = i1 ∨ c = i2 ∨ c = i3 := by simpa using hc
    rcases e' with q | q | q | q | q | q
    · rw [q]; exact ⟨_, hz, fun v q => nomatch q⟩
    · rw [q]; exact ⟨_, hTI, fun v q => nomatch q⟩
    · rw [q]; exact ⟨_, hTO, fun v q => nomatch q⟩
    · rw [q]; exact h1.obj
    · rw [q]; exact h2.obj
    · rw [q]; exact h3.obj
  keep := fun i h h' st k => by
    obtain ⟨hz, hTI, ⟨y1, y2, y3, hTO⟩, h1, h2, h3⟩ := st
    exact ⟨k z (by simp) _ hz, k TI (by simp) _ hTI, ⟨y1, y2, y3, k TO (by simp) _ hTO⟩, h1.at fun o q => k i1 (by simp) o q, h2.at fun o q => k i2 (by simp) o q, h3.at fun o q => k i3 (by simp) o q⟩
  item := by
    intro X hP hw hK hc i pins s σ H E I hf st hg
    subst hP hw hK
    obtain ⟨hz, hTI, ⟨y1, y2, y3, hTO⟩, h1, h2, h3⟩ := st
    obtain ⟨xs1, xs2, xs3, x1, x2, x3, hq1, hq2, hq3, hx1, hx2, hx3⟩ := hg
    obtain ⟨its1, rv1, p1⟩ := hq1.its I
    obtain ⟨u1, hu1, ru1⟩ := rv1.get hx1
    have lt1 : i < its1.toArray.size := by
      have := (List.getElem?_eq_some_iff.mp hu1).1
      simpa using this
    obtain ⟨its2, rv2, p2⟩ := hq2.its I
    obtain ⟨u2, hu2, ru2⟩ := rv2.get hx2
    have lt2 : i < its2.toArray.size := by
      have := (List.getElem?_eq_some_iff.mp hu2).1
      simpa using this
    obtain ⟨its3, rv3, p3⟩ := hq3.its I
    obtain ⟨u3, hu3, ru3⟩ := rv3.get hx3
    have lt3 : i < its3.toArray.size := by
      have := (List.getElem?_eq_some_iff.mp hu3).1
      simpa using this
    have hzl : z < s.heap.objs.size := Heap.lt_size hz
    refine wpAny_pyNext_zipD3_item S (drawsK (A := X.A.in1) k1 (I.ok.hd hc) i1 a1 n1 its1.toArray) (drawsK (A := X.A.in1) k2 (I.ok.hd hc) i2 a2 n2 its2.toArray) (drawsK (A := X.A.in1) k3 (I.ok.hd hc) i3 a3 n3 its3.toArray) hz hTI hTO ⟨h1, p1⟩ ⟨h2, p2⟩ ⟨h3, p3⟩ lt1 lt2 lt3 fun v1 v2 v3 h' tk hP1 hP2 hP3 z' TO' st1 st2 st3 hT hsz hk => ?_
    obtain rfl : u1 = v1 := Option.some.inj (hu1.symm.trans (by simpa using hP1))
    obtain rfl : u2 = v2 := Option.some.inj (hu2.symm.trans (by simpa using hP2))
    obtain rfl : u3 = v3 := Option.some.inj (hu3.symm.trans (by simpa using hP3))
    refine ⟨_, rfl, wpAny_letOwnedTupleGo_zip (s := { s with heap := h', toks := tk }) z' fun h'' z'' sb => ?_⟩
    have hT2 : h''.get? s.heap.objs.size = some { cls := .type "tuple", data := .seq #[u1, u2, u3] } := (sb.2 _ (Nat.ne_of_gt hzl)).trans hT
    have new : ObjOk X.prog X.w (upd H s.heap.objs.size (.tup [x1, x2, x3])) h'' s.heap.objs.size (.tup [x1, x2, x3]) :=
      ⟨by show 3 ≤ sizeLine; decide, [u1, u2, u3], .cons ru1 (.cons ru2 (.cons ru3 .nil)), ⟨_, hT2, rfl, _, rfl⟩⟩
    have I1 : Inv X pins σ (upd H s.heap.objs.size (.tup [x1, x2, x3])) { s with heap := h'', toks := tk } :=
      I.turnedNew (ch := [z, TI, TO, i1, i2, i3]) (fun c o hb q => (sb.2 c (fun q' => hb (by simp [q']))).trans (hk c o (fun q' => hb (by simp [q'])) (fun q' => hb (by simp [q'])) (fun q' => hb (by simp [q'])) (fun q' => hb (by simp [q'])) (fun q' => hb (by simp [q'])) q)) hf (Nat.le_refl _) new
    refine ⟨.ref s.heap.objs.size, _, I1, rfl, ⟨_, x1, x2, x3, rfl, I.hok.fresh (Nat.le_refl _), rfl, fun l hl => by rw [SqK.inj I hl hq1]; exact hx1, fun l hl => by rw [SqK.inj I hl hq2]; exact hx2, fun l hl => by rw [SqK.inj I hl hq3]; exact hx3⟩, ⟨z'', ?_, ⟨u1, u2, u3, ?_⟩, st1.1.at fun o q => (sb.2 _ S.zi1.symm).trans q, st2.1.at fun o q => (sb.2 _ S.zi2.symm).trans q, st3.1.at fun o q => (sb.2 _ S.zi3.symm).trans q⟩, fun c hcm => ?_⟩
    · exact (sb.2 _ S.TIz).trans (hk _ _ S.TIz S.TITO S.TIi1 S.TIi2 S.TIi3 hTI)
    · exact (sb.2 _ S.TOz).trans TO'
    · have hlt : c < s.heap.objs.size := by
        have e' : c = z ∨ c = TI ∨ c = TO ∨ c = i1 ∨ c = i2 ∨ c = i3 := by simpa using hcm
        rcases e' with q | q | q | q | q | q
        · rw [q]; exact hzl
        · rw [q]; exact Heap.lt_size hTI
        · rw [q]; exact Heap.lt_size hTO
        · rw [q]; obtain ⟨_, e1, _⟩ := h1.obj; exact Heap.lt_size e1
        · rw [q]; obtain ⟨_, e1, _⟩ := h2.obj; exact Heap.lt_size e1
        · rw [q]; obtain ⟨_, e1, _⟩ := h3.obj; exact Heap.lt_size e1
      rw [upd_ne (Nat.ne_of_lt hlt)]
      exact (hf c hcm).1
  done := by
    intro X hP hw hK hc i pins s σ H E I hf st hg
    subst hP hw hK
    obtain ⟨hz, hTI, ⟨y1, y2, y3, hTO⟩, h1, h2, h3⟩ := st
    obtain ⟨xs1, xs2, xs3, hq1, hq2, hq3, hend⟩ := hg
    obtain ⟨its1, rv1, p1⟩ := hq1.its I
    have l1 := rv1.length
    obtain ⟨m1, P1, St1, D1, s1, b1, e1⟩ := drawsU (A := X.A.in1) (w := X.w) (prog := X.prog) k1 (I.ok.hd hc) i1 a1 n1 its1.toArray i s.heap h1 p1
    obtain ⟨its2, rv2, p2⟩ := hq2.its I
    have l2 := rv2.length
    obtain ⟨m2, P2, St2, D2, s2, b2, e2⟩ := drawsU (A := X.A.in1) (w := X.w) (prog := X.prog) k2 (I.ok.hd hc) i2 a2 n2 its2.toArray i s.heap h2 p2
    obtain ⟨its3, rv3, p3⟩ := hq3.its I
    have l3 := rv3.length
    obtain ⟨m3, P3, St3, D3, s3, b3, e3⟩ := drawsU (A := X.A.in1) (w := X.w) (prog := X.prog) k3 (I.ok.hd hc) i3 a3 n3 its3.toArray i s.heap h3 p3
    exact wpAny_pyNext_zipD3_end S D1 D2 D3 hz hTI hTO s1 s2 s3 b1 b2 b3 (by simp only [List.size_toArray] at *; omega) fun h' tk hk => ⟨rfl, I.turnedL (t' := tk) (ch := [z, TI, TO, i1, i2, i3]) (fun c o hb q =>
      hk c o (fun q' => hb (by simp [q'])) (fun q' => hb (by simp [q'])) (fun q' => hb (by simp [q'])) (fun q' => hb (by simp [q'])) (fun q' => hb (by simp [q'])) q) hf⟩
  self := fun A i s Q E st h => wpAny_pyIter_zip st.1 h
def iZip3K (K : PySem.W.Frag) (ta : TA) : TI := fun σ H R => ta σ H fun vs H1 => ∃ k1 k2 k3 a1 a2 a3 xs1 xs2 xs3, vs = [.ref a1, .ref a2, .ref a3] ∧ SqK K k1 H1 a1 xs1 ∧ SqK K k2 H1 a2 xs2 ∧ SqK K k3 H1 a3 xs3 ∧ R (IzK3 K k1 k2 k3 a1 a2 a3) H1
theorem pi_zip3K {X : Cx} {e1 e2 e3 : Expr} {ta : TA} {p pos tpos : Pos} {elts : List Expr} {kk : Nat} (hg : Gl X "zip") (hm : X.mg "zip" = none) (ha : PA X [e1, e2, e3] ta)
    (hs : starEach [e1, e2, e3] X.env = (false, eval e1 X.env) :: starEach [e2, e3] X.env := by rfl) (hpl : (backTo pos (starEach [e2, e3] X.env)).any (·.1) = false := by rfl) :
    PI X (.Tuple elts kk tpos) (.Call (.Name "zip" p) [e1, e2, e3] [] pos) (iZip3K X.K ta) := by
  refine ⟨fun pins s σ H R I h => ?_⟩
  refine Call_ (ld_blt I hg hm PyProof.Rows.boot_zip (PyProof.Rows.callWith_type1 (thn (ha.run pos pins s σ H _ I h) fun us s1 ⟨vs, H1, I1, r1, q1⟩ => ?_) hs hpl))
  obtain ⟨k1, k2, k3, a1, a2, a3, xs1, xs2, xs3, ex, hq1, hq2, hq3, q⟩ := q1
  subst ex
  have eu : us = [Value.ref a1, Value.ref a2, Value.ref a3] := by
    cases r1 with | cons ra1 rr1 => cases rr1 with | cons ra2 rr2 => cases rr2 with | cons ra3 rr3 => (cases rr3; cases ra1; cases ra2; cases ra3; rfl)
  subst eu
  have fr : ∀ c, c ∈ [s1.heap.objs.size + 5, s1.heap.objs.size + 3, s1.heap.objs.size + 4, s1.heap.objs.size, s1.heap.objs.size + 1, s1.heap.objs.size + 2] → FpOk X pins H1 c := fun c hcm => by
    have e' : c = s1.heap.objs.size + 5 ∨ c = s1.heap.objs.size + 3 ∨ c = s1.heap.objs.size + 4 ∨ c = s1.heap.objs.size ∨ c = s1.heap.objs.size + 1 ∨ c = s1.heap.objs.size + 2 := by simpa using hcm
    have hle : s1.heap.objs.size ≤ c := by
      rcases e' with z | z | z | z | z | z <;> (rw [z]; first | exact Nat.le_add_right _ _ | exact Nat.le_refl _)
    exact I1.fpOk hle (I1.hok.fresh hle)
  obtain ⟨its1, rv1, p1⟩ := hq1.its I1
  obtain ⟨o1, ho1⟩ := p1.obj
  have hl1 : a1 < s1.heap.objs.size := Heap.lt_size ho1
  obtain ⟨its2, rv2, p2⟩ := hq2.its I1
  obtain ⟨o2, ho2⟩ := p2.obj
  have hl2 : a2 < s1.heap.objs.size := Heap.lt_size ho2
  obtain ⟨its3, rv3, p3⟩ := hq3.its I1
  obtain ⟨o3, ho3⟩ := p3.obj
  have hl3 : a3 < s1.heap.objs.size := Heap.lt_size ho3
  refine zip_begins3 (beginsK k1 a1 its1.toArray) (beginsK k2 a2 its2.toArray) (beginsK k3 a3 its3.toArray) p1 p2 p3 fun h' hz hTI hTO g1 g2 g3 hsz hk => wpAny_pyIter_zip hz ?_
  have I2 : Inv X pins σ H1 { s1 with heap := h' } := I1.kept (t' := s1.toks) hk
  exact ⟨s1.heap.objs.size + 5, [s1.heap.objs.size + 5, s1.heap.objs.size + 3, s1.heap.objs.size + 4, s1.heap.objs.size, s1.heap.objs.size + 1, s1.heap.objs.size + 2], _, _, H1, rfl, I2, turn_zip3K k1 k2 k3 (zip_sep3 (N := s1.heap.objs.size) (fp1 := [a1]) (fp2 := [a2]) (fp3 := [a3]) (fun b hb => by rw [List.mem_singleton.mp hb]; exact hl1) (fun b hb => by rw [List.mem_singleton.mp hb]; exact hl2) (fun b hb => by rw [List.mem_singleton.mp hb]; exact hl3)) (Nat.ne_of_lt hl1) (Nat.ne_of_lt (Nat.lt_add_right 1 hl2)) (Nat.ne_of_lt (Nat.lt_add_right 2 hl3)), ⟨hz, hTI, ⟨_, _, _, hTO⟩, .new g1, .new g2, .new g3⟩, fr, q⟩
end Pu

namespace Pu
open PySem PySem.Spec PyProof.Rows L2
/-! ### enumerate and zip of data: any mix of lists and tuples -/
def rowsR : List D → R (List (List D))
  | [] => ok []
  | .list xs :: l => bd (rowsR l) fun r => ok (xs :: r)
  | .tuple xs :: l => bd (rowsR l) fun r => ok (xs :: r)
  | _ :: _ => fail
def zip3D (xs ys zs : List D) : List D := List.zipWith (fun (p : D × D) z => .tuple [p.1, p.2, z]) (xs.zip ys) zs
def zip2R (l : List D) : R (List D) := bd (rowsR l) fun r => match r with
  | [xs, ys] => bd (req (xs.length ≤ sizeLine)) fun _ => ok (zipD xs ys)
  | _ => fail
def zip3R (l : List D) : R (List D) := bd (rowsR l) fun r => match r with
  | [xs, ys, zs] => bd (req (xs.length ≤ sizeLine)) fun _ => ok (zip3D xs ys zs)
  | _ => fail
def enumAR (l : List D) : R (List D) := bd (rowsR l) fun r => match r with
  | [xs] => bd (req (xs.length ≤ sizeLine)) fun _ => ok (enumD xs)
  | _ => fail
inductive RwAll : List D → List (List D) → Prop
  | nil : RwAll [] []
  | cons {d : D} {xs : List D} {l : List D} {r : List (List D)} : (d = .list xs ∨ d = .tuple xs) → RwAll l r → RwAll (d :: l) (xs :: r)
theorem rowsR_inv : ∀ {l : List D} {post : List (List D) → Prop}, rowsR l post → ∃ r, post r ∧ RwAll l r := by
  intro l
  induction l with
  | nil => intro post h; exact ⟨[], h, .nil⟩
  | cons d l ih =>
    intro post h
    cases d <;> try exact h.elim
    · obtain ⟨r, hr, f⟩ := ih (post := fun r => post (_ :: r)) h
      exact ⟨_, hr, .cons (.inl rfl) f⟩
    · obtain ⟨r, hr, f⟩ := ih (post := fun r => post (_ :: r)) h
      exact ⟨_, hr, .cons (.inr rfl) f⟩
def Rw (d : D) (xs : List D) : Prop := d = .list xs ∨ d = .tuple xs
theorem enumAR_inv {l : List D} {post : List D → Prop} (h : enumAR l post) : ∃ d xs, l = [d] ∧ Rw d xs ∧ xs.length ≤ sizeLine ∧ post (enumD xs) := by
  obtain ⟨r, hr, f⟩ := rowsR_inv h
  cases f with
  | nil => exact hr.elim
  | cons h1 f =>
    cases f with
    | nil => exact ⟨_, _, rfl, h1, hr.1, hr.2⟩
    | cons _ _ => exact hr.elim
theorem zip2R_inv {l : List D} {post : List D → Prop} (h : zip2R l post) : ∃ d d' xs ys, l = [d, d'] ∧ Rw d xs ∧ Rw d' ys ∧ xs.length ≤ sizeLine ∧ post (zipD xs ys) := by
  obtain ⟨r, hr, f⟩ := rowsR_inv h
  cases f with
  | nil => exact hr.elim
  | cons h1 f =>
    cases f with
    | nil => exact hr.elim
    | cons h2 f =>
      cases f with
      | nil => exact ⟨_, _, _, _, rfl, h1, h2, hr.1, hr.2⟩
      | cons _ _ => exact hr.elim
theorem zip3R_inv {l : List D} {post : List D → Prop} (h : zip3R l post) : ∃ d d' d3 xs ys zs, l = [d, d', d3] ∧ Rw d xs ∧ Rw d' ys ∧ Rw d3 zs ∧ xs.length ≤ sizeLine ∧ post (zip3D xs ys zs) := by
  obtain ⟨r, hr, f⟩ := rowsR_inv h
  cases f with
  | nil => exact hr.elim
  | cons h1 f =>
    cases f with
    | nil => exact hr.elim
    | cons h2 f =>
      cases f with
      | nil => exact hr.elim
      | cons h3 f =>
        cases f with
        | nil => exact ⟨_, _, _, _, _, _, rfl, h1, h2, h3, hr.1, hr.2⟩
        | cons _ _ => exact hr.elim
theorem rowF {K : PySem.W.Frag} {c : Ct} {G : Hp} {v : V} {d : D} {ds : List D} (h : Dq K G v d) (e : d = .list ds ∨ d = .tuple ds) : ∃ k a xs, v = .ref a ∧ (∀ G2 H2, Le G G2 → W0 c.E G2 H2 → SqK K k H2 a xs) ∧ DqAll K G xs ds := by
  rcases e with rfl | rfl
  · cases h with
    | lst s1 q1 => exact ⟨true, _, _, rfl, fun G2 H2 l w2 => .of (w2.sub _ _ (l _ _ s1)), q1⟩
  · cases h with
    | tup s1 q1 => exact ⟨false, _, _, rfl, fun G2 H2 l w2 => sqT_mono w2.sub (sqT_mono l s1), q1⟩
theorem rowB {K : PySem.W.Frag} {c : Ct} {G H : Hp} {v : V} {d : D} {ds : List D} (w : W0 c.E G H) (h : Bv K c G H v d) (e : d = .list ds ∨ d = .tuple ds) : ∃ k a xs, v = .ref a ∧ (∀ G2 H2, Ext c.E G H G2 H2 → W0 c.E G2 H2 → SqK K k H2 a xs) ∧ DqAll K G xs ds := by
  rcases e with rfl | rfl
  · obtain ⟨p1, vs1, rfl, s1, q1, n1⟩ := h.lst w
    exact ⟨true, _, _, rfl, fun G2 H2 l w2 => .of (l.h _ _ s1 n1), q1⟩
  · obtain ⟨p1, vs1, rfl, s1, q1⟩ := h.tup
    exact ⟨false, _, _, rfl, fun G2 H2 l w2 => sqT_mono w2.sub (sqT_mono l.g s1), q1⟩
theorem wks_enumK {K : PySem.W.Frag} {c : Ct} {k : Bool} {a : Addr} {xs : List V} {ds : List D} {Rel : Hp → Hp → Prop} (h : ∀ G H, Rel G H → W0 c.E G H → SqK K k H a xs ∧ DqAll K G xs ds) : Wks K c (IteK K k a) Rel (enumD ds) := by
  intro i G H r w
  obtain ⟨h1, k1⟩ := h G H r w
  refine ⟨fun d hd => ?_, fun hl => ⟨xs, h1, by rw [enum_len, ← k1.length] at hl; exact hl⟩⟩
  obtain ⟨x, e1, rfl⟩ := enum_get hd
  obtain ⟨v, f1, d1⟩ := k1.get e1
  refine ⟨⟨xs, v, h1, f1⟩, fun z H1 yl => ?_⟩
  obtain ⟨T, v', rfl, n, rfl, g1⟩ := yl
  obtain rfl : v' = v := Option.some.inj ((g1 _ h1).symm.trans f1)
  exact pair_new w n (.int _) d1
theorem wks_zip2K {K : PySem.W.Frag} {c : Ct} {k1 k2 : Bool} {a b : Addr} {xs ys : List V} {ds es : List D} {Rel : Hp → Hp → Prop} (h : ∀ G H, Rel G H → W0 c.E G H → (SqK K k1 H a xs ∧ SqK K k2 H b ys) ∧ DqAll K G xs ds ∧ DqAll K G ys es) : Wks K c (IzK2 K k1 k2 a b) Rel (zipD ds es) := by
  intro i G H r w
  obtain ⟨⟨h1, h2⟩, q1, q2⟩ := h G H r w
  refine ⟨fun d hd => ?_, fun hl => ⟨xs, ys, h1, h2, by rw [zip_len, ← q1.length, ← q2.length] at hl; omega⟩⟩
  obtain ⟨x, y, e1, e2, rfl⟩ := zip_get hd
  obtain ⟨v, f1, d1⟩ := q1.get e1
  obtain ⟨u, f2, d2⟩ := q2.get e2
  refine ⟨⟨xs, ys, v, u, h1, h2, f1, f2⟩, fun z H1 yl => ?_⟩
  obtain ⟨T, v', u', rfl, n, rfl, g1, g2⟩ := yl
  obtain rfl : v' = v := Option.some.inj ((g1 _ h1).symm.trans f1)
  obtain rfl : u' = u := Option.some.inj ((g2 _ h2).symm.trans f2)
  exact pair_new w n d1 d2
theorem zip3_get {xs ys zs : List D} {i : Nat} {d : D} (h : (zip3D xs ys zs)[i]? = some d) : ∃ x y z, xs[i]? = some x ∧ ys[i]? = some y ∧ zs[i]? = some z ∧ d = .tuple [x, y, z] := by
  unfold zip3D at h
  rw [List.getElem?_zipWith, List.zip, List.getElem?_zipWith] at h
  cases hx : xs[i]? with
  | none => rw [hx] at h; cases h
  | some x =>
    cases hy : ys[i]? with
    | none => rw [hx, hy] at h; cases h
    | some y =>
      cases hz : zs[i]? with
      | none => rw [hx, hy, hz] at h; cases h
      | some z => rw [hx, hy, hz] at h; cases h; exact ⟨x, y, z, rfl, rfl, rfl, rfl⟩
theorem zip3_len (xs ys zs : List D) : (zip3D xs ys zs).length = min (min xs.length ys.length) zs.length := by simp [zip3D]
theorem tri_new {K : PySem.W.Frag} {c : Ct} {G H : Hp} {T : Addr} {v u t : V} {x y z : D} (w : W0 c.E G H) (n : H T = none) (k1 : Dq K G v x) (k2 : Dq K G u y) (k3 : Dq K G t z) : ∃ G1, Ext c.E G H G1 (upd H T (.tup [v, u, t])) ∧ W0 c.E G1 (upd H T (.tup [v, u, t])) ∧ Dq K G1 (.ref T) (.tuple [x, y, z]) := by
  obtain ⟨w1, e1⟩ := w.newF n (.tup [v, u, t])
  exact ⟨_, e1, w1, .tup (.of upd_same) (.cons (k1.mono e1.g) (.cons (k2.mono e1.g) (.cons (k3.mono e1.g) .nil)))⟩
theorem wks_zip3K {K : PySem.W.Frag} {c : Ct} {k1 k2 k3 : Bool} {a b a3 : Addr} {xs ys zs : List V} {ds es fs : List D} {Rel : Hp → Hp → Prop} (h : ∀ G H, Rel G H → W0 c.E G H → (SqK K k1 H a xs ∧ SqK K k2 H b ys ∧ SqK K k3 H a3 zs) ∧ DqAll K G xs ds ∧ DqAll K G ys es ∧ DqAll K G zs fs) : Wks K c (IzK3 K k1 k2 k3 a b a3) Rel (zip3D ds es fs) := by
  intro i G H r w
  obtain ⟨⟨h1, h2, h3⟩, q1, q2, q3⟩ := h G H r w
  refine ⟨fun d hd => ?_, fun hl => ⟨xs, ys, zs, h1, h2, h3, by rw [zip3_len, ← q1.length, ← q2.length, ← q3.length] at hl; omega⟩⟩
  obtain ⟨x, y, z, e1, e2, e3, rfl⟩ := zip3_get hd
  obtain ⟨v, f1, d1⟩ := q1.get e1
  obtain ⟨u, f2, d2⟩ := q2.get e2
  obtain ⟨t, f3, d3⟩ := q3.get e3
  refine ⟨⟨xs, ys, zs, v, u, t, h1, h2, h3, f1, f2, f3⟩, fun z H1 yl => ?_⟩
  obtain ⟨T, v', u', t', rfl, n, rfl, g1, g2, g3⟩ := yl
  obtain rfl : v' = v := Option.some.inj ((g1 _ h1).symm.trans f1)
  obtain rfl : u' = u := Option.some.inj ((g2 _ h2).symm.trans f2)
  obtain rfl : t' = t := Option.some.inj ((g3 _ h3).symm.trans f3)
  exact tri_new w n d1 d2 d3
section
variable {X : Cx} {a b e : Expr} {pos p tpos : Pos} {elts : List Expr} {kk : Nat}
theorem iEA {f : List Sl → R (List D)} (hm : X.mg "enumerate" = none) (ha : PA X [a] (tAF X.K f)) (hg : Gl X "enumerate" := by rfl) (hs : starEach [a] X.env = [(false, eval a X.env)] := by rfl) : PI X (.Tuple elts kk tpos) (.Call (.Name "enumerate" p) [a] [] pos) (tIs X.K (m1 f enumAR)) :=
  PI.wk (pi_enumK hg hm ha hs) fun σ H R' ⟨c, G, ρ, post, w, r, hf, q⟩ => ⟨c, G, ρ, _, w, r, hf, fun ds hds vs G1 H1 e1 w1 b1 => by
    obtain ⟨d, xs, rfl, h1, hr⟩ := enumAR_inv hds
    · skip
      obtain ⟨v, rfl, k1⟩ := b1.one1
      obtain ⟨k, a', vs', rfl, s1, q1⟩ := rowF (c := c) k1 h1
      exact ⟨k, _, _, rfl, s1 G1 H1 (fun _ _ h => h) w1, q _ hr.2 (enum_le hr.1) _ G1 H1 e1 w1 (wks_enumK fun G2 H2 l w2 => ⟨s1 G2 H2 l w2, q1.mono l⟩)⟩⟩
theorem iEAB {f : List Sl → R (List D)} (hm : X.mg "enumerate" = none) (ha : PA X [a] (tAB X.K f)) (hg : Gl X "enumerate" := by rfl) (hs : starEach [a] X.env = [(false, eval a X.env)] := by rfl) : PI X (.Tuple elts kk tpos) (.Call (.Name "enumerate" p) [a] [] pos) (tIw X.K (m1 f enumAR)) :=
  PI.wk (pi_enumK hg hm ha hs) fun σ H R' ⟨c, G, ρ, post, w, r, hf, q⟩ => ⟨c, G, ρ, _, w, r, hf, fun ds hds vs G1 H1 e1 w1 b1 => by
    obtain ⟨d, xs, rfl, h1, hr⟩ := enumAR_inv hds
    · skip
      obtain ⟨v, rfl, k1⟩ := b1.one
      obtain ⟨k, a', vs', rfl, s1, q1⟩ := rowB w1 k1 h1
      exact ⟨k, _, _, rfl, s1 G1 H1 .refl w1, q _ hr.2 (enum_le hr.1) _ G1 H1 e1 w1 (wks_enumK fun G2 H2 l w2 => ⟨s1 G2 H2 l w2, q1.mono l.g⟩)⟩⟩
theorem iZ2 {f : List Sl → R (List D)} (hm : X.mg "zip" = none) (ha : PA X [a, b] (tAF X.K f)) (hg : Gl X "zip" := by rfl) (hs : starEach [a, b] X.env = (false, eval a X.env) :: starEach [b] X.env := by rfl) (hpl : (backTo pos (starEach [b] X.env)).any (·.1) = false := by rfl) : PI X (.Tuple elts kk tpos) (.Call (.Name "zip" p) [a, b] [] pos) (tIs X.K (m1 f zip2R)) :=
  PI.wk (pi_zip2K hg hm ha hs hpl) fun σ H R' ⟨c, G, ρ, post, w, r, hf, q⟩ => ⟨c, G, ρ, _, w, r, hf, fun ds hds vs G1 H1 e1 w1 b1 => by
    obtain ⟨d, d', xs, ys, rfl, h1, h2, hr⟩ := zip2R_inv hds
    · skip
      obtain ⟨v, u, rfl, k1, k2⟩ := b1.two
      obtain ⟨k, a', vs', rfl, s1, q1⟩ := rowF (c := c) k1 h1
      obtain ⟨k', b', us', rfl, s2, q2⟩ := rowF (c := c) k2 h2
      exact ⟨k, k', _, _, _, _, rfl, s1 G1 H1 (fun _ _ h => h) w1, s2 G1 H1 (fun _ _ h => h) w1, q _ hr.2 (zip_le hr.1) _ G1 H1 e1 w1 (wks_zip2K fun G2 H2 l w2 => ⟨⟨s1 G2 H2 l w2, s2 G2 H2 l w2⟩, q1.mono l, q2.mono l⟩)⟩⟩
theorem iZ2B {f : List Sl → R (List D)} (hm : X.mg "zip" = none) (ha : PA X [a, b] (tAB X.K f)) (hg : Gl X "zip" := by rfl) (hs : starEach [a, b] X.env = (false, eval a X.env) :: starEach [b] X.env := by rfl) (hpl : (backTo pos (starEach [b] X.env)).any (·.1) = false := by rfl) : PI X (.Tuple elts kk tpos) (.Call (.Name "zip" p) [a, b] [] pos) (tIw X.K (m1 f zip2R)) :=
  PI.wk (pi_zip2K hg hm ha hs hpl) fun σ H R' ⟨c, G, ρ, post, w, r, hf, q⟩ => ⟨c, G, ρ, _, w, r, hf, fun ds hds vs G1 H1 e1 w1 b1 => by
    obtain ⟨d, d', xs, ys, rfl, h1, h2, hr⟩ := zip2R_inv hds
    · skip
      obtain ⟨v, u, rfl, k1, k2⟩ := b1.two
      obtain ⟨k, a', vs', rfl, s1, q1⟩ := rowB w1 k1 h1
      obtain ⟨k', b', us', rfl, s2, q2⟩ := rowB w1 k2 h2
      exact ⟨k, k', _, _, _, _, rfl, s1 G1 H1 .refl w1, s2 G1 H1 .refl w1, q _ hr.2 (zip_le hr.1) _ G1 H1 e1 w1 (wks_zip2K fun G2 H2 l w2 => ⟨⟨s1 G2 H2 l w2, s2 G2 H2 l w2⟩, q1.mono l.g, q2.mono l.g⟩)⟩⟩
end
end Pu

namespace Pu
open PySem PySem.Spec PyProof.Rows L2
/-! ### next of a zip whose last row is still held -/
section
variable {prog : Program} {w : World} {A : Around} {E : Value → Shared → Prop} {s : Shared} {z TI TO T i1 i2 : Addr} {f : Bool} {oT : Obj} {fp1 : List Addr} {fp2 : List Addr} {i n1 n2 : Nat} {P1 : Nat → Value → Prop} {P2 : Nat → Value → Prop} {St1 : Nat → Heap → Prop} {St2 : Nat → Heap → Prop}
theorem zip2_held_item {Q : Value → Shared → Prop} (S : ZipSep2 z TI TO i1 i2 fp1 fp2) (D1 : Draws prog w A i1 fp1 n1 P1 St1) (D2 : Draws prog w A i2 fp2 n2 P2 St2) (hz : IsZipHeld s.heap z TI TO T f) (hT : s.heap.get? T = some oT) (hTI : IsTupOf2 s.heap TI (.ref i1) (.ref i2)) (st1 : St1 i s.heap) (st2 : St2 i s.heap) (lt1 : i < n1) (lt2 : i < n2)
    (hQ : ∀ x1 x2 h' tk, P1 i x1 → P2 i x2 → IsZipHeld h' z TI TO T true → St1 (i + 1) h' → St2 (i + 1) h' → IsTupOf2 h' s.heap.objs.size x1 x2 → h'.objs.size = s.heap.objs.size + 1 →
      (∀ c o, c ≠ z → c ≠ i1 → c ≠ i2 → s.heap.get? c = some o → h'.get? c = some o) → Q (.ref s.heap.objs.size) { s with heap := h', toks := tk }) :
    wpAny (model prog w) A (Builtin.«zip.__next__» ⟨[.ref z], []⟩) (fun fin s' => ∃ v, fin = .done (.ret v) ∧ Q v s') E s := by
  obtain ⟨hp, gg, dd, tk0, os⟩ := s
  show wpAny _ _ (field (.ref z) 2 >>= _) _ _ _
  refine wpAny_bind (wpAny_field hz rfl (x := .bool false) rfl ?_)
  show wpAny _ _ (field (.ref z) 3 >>= _) _ _ _
  refine wpAny_bind (wpAny_field hz rfl (x := .ref TI) rfl ?_)
  refine wpAny_bind (wpAny_seqItems hTI rfl ?_)
  show wpAny _ _ (Builtin.SmallTypes.ownedTupleIsFree (.ref z) >>= _) _ _ _
  refine wpAny_bind (wpAny_tupleHeld_zip hz hT fun g0 hz0 hs0 => ?_)
  replace hs0 : Heap.SameBut z hp g0 := hs0
  simp only [Bool.false_eq_true, if_false]
  refine wpAny_bind ?_
  rw [← Array.forIn_toList]
  simp only [List.forIn_cons, List.forIn_nil]
  have c1_0 : St1 i g0 := D1.over st1 hs0 S.zf1
  have c2_0 : St2 i g0 := D2.over st2 hs0 S.zf2
  refine wpAny_bind (wpAny_bind (wpAny_holding ?_))
  show wpAny _ _ (Builtin.SmallTypes.nextOf (.ref i1) >>= _) _ _ _
  refine wpAny_bind (D1.item i ⟨g0, gg, dd, tk0, os⟩ _ _ lt1 c1_0 fun y1 g1 tk1 hy1 su1 hs1 => wpAny_pure ?_)
  replace hs1 : Heap.SameBut i1 g0 g1 := hs1
  have c2_1 : St2 i g1 := D2.over c2_0 hs1 S.sep1_2
  refine wpAny_pure ?_
  refine wpAny_bind (wpAny_bind (wpAny_holding ?_))
  show wpAny _ _ (Builtin.SmallTypes.nextOf (.ref i2) >>= _) _ _ _
  refine wpAny_bind (D2.item i ⟨g1, gg, dd, tk1, os⟩ _ _ lt2 c2_1 fun y2 g2 tk2 hy2 su2 hs2 => wpAny_pure ?_)
  replace hs2 : Heap.SameBut i2 g1 g2 := hs2
  have d1_2 : St1 (i + 1) g2 := D1.over su1 hs2 S.sep2_1
  refine wpAny_pure (wpAny_pure ?_)
  show wpAny _ _ (newTuple [y1, y2] >>= _) _ _ _
  refine wpAny_bind (wpAny_newTuple ?_)
  have hsz : g2.objs.size = hp.objs.size := by rw [hs2.1, hs1.1, hs0.1]
  have hzz : IsZipHeld g2 z TI TO T true := hs2.extBut _ _ S.zi2 (hs1.extBut _ _ S.zi1 (hz0))
  have hk : ∀ c o, c ≠ z → c ≠ i1 → c ≠ i2 → hp.get? c = some o → g2.get? c = some o := fun c o c0 c1 c2 e => hs2.extBut _ _ c2 (hs1.extBut _ _ c1 (hs0.extBut _ _ c0 e))
  refine wpAny_pure ⟨_, rfl, ?_⟩
  show Q (.ref g2.objs.size) _
  have hpp : IsTupOf2 (g2.push { cls := .type "tuple", data := .seq #[y1, y2] }) g2.objs.size y1 y2 := Heap.get?_push_size _ rfl
  have hp4 : (g2.push { cls := .type "tuple", data := .seq #[y1, y2] }).objs.size = g2.objs.size + 1 := Heap.size_push ..
  rw [hsz] at hpp hp4 ⊢
  exact hQ y1 y2 _ tk2 hy1 hy2 (Heap.get?_push_of_some _ hzz) (D1.frame _ _ _ d1_2 fun b _ o e => Heap.get?_push_of_some _ e) (D2.frame _ _ _ su2 fun b _ o e => Heap.get?_push_of_some _ e) hpp hp4 fun c o c0 c1 c2 e => Heap.get?_push_of_some _ (hk c o c0 c1 c2 e)
theorem zip2_held {Q : Option Value → Shared → Prop} (S : ZipSep2 z TI TO i1 i2 fp1 fp2) (D1 : Draws prog w A.in1 i1 fp1 n1 P1 St1) (D2 : Draws prog w A.in1 i2 fp2 n2 P2 St2) (hz : IsZipHeld s.heap z TI TO T f) (hT : s.heap.get? T = some oT) (hTI : IsTupOf2 s.heap TI (.ref i1) (.ref i2)) (st1 : St1 i s.heap) (st2 : St2 i s.heap) (lt1 : i < n1) (lt2 : i < n2)
    (hQ : ∀ x1 x2 h' tk, P1 i x1 → P2 i x2 → IsZipHeld h' z TI TO T true → St1 (i + 1) h' → St2 (i + 1) h' → IsTupOf2 h' s.heap.objs.size x1 x2 → h'.objs.size = s.heap.objs.size + 1 →
      (∀ c o, c ≠ z → c ≠ i1 → c ≠ i2 → s.heap.get? c = some o → h'.get? c = some o) → Q (some (.ref s.heap.objs.size)) { s with heap := h', toks := tk }) :
    wpAny (model prog w) A (pyNext (.ref z)) Q E s := by
  have hTy : s.TypeIs (.ref z) "zip" := ⟨_, hz, rfl⟩
  unfold pyNext
  exact wpAny_bind (wpAny_attempt (wpAny_callSpecial?_slot (name := Str.ofString "__next__") hTy F.slot_zip_next
    (wpAny_call_entry F.slot_zip_next hTy F.entry_zip_next
      (zip2_held_item S D1 D2 hz hT hTI st1 st2 lt1 lt2 fun x1 x2 h' tk p1 p2 b1 d1 d2 b5 b6 b7 => wpAny_pure (hQ x1 x2 h' tk p1 p2 b1 d1 d2 b5 b6 b7)) (F.args_zip_next_1 _))))
theorem zip2_held_end_ {Q : Fin → Shared → Prop} (S : ZipSep2 z TI TO i1 i2 fp1 fp2) (D1 : Draws prog w A i1 fp1 n1 P1 St1) (D2 : Draws prog w A i2 fp2 n2 P2 St2) (hz : IsZipHeld s.heap z TI TO T f) (hT : s.heap.get? T = some oT) (hTI : IsTupOf2 s.heap TI (.ref i1) (.ref i2)) (st1 : St1 i s.heap) (st2 : St2 i s.heap) (le1 : i ≤ n1) (le2 : i ≤ n2) (hend : i = n1 ∨ i = n2)
    (hE : ∀ h' tk e, (∀ c o, c ≠ z → c ≠ i1 → c ≠ i2 → s.heap.get? c = some o → h'.get? c = some o) → (∃ o, h'.get? e = some o ∧ o.cls = .type "StopIteration") → E (.ref e) { s with heap := h', toks := tk }) :
    wpAny (model prog w) A (Builtin.«zip.__next__» ⟨[.ref z], []⟩) Q E s := by
  obtain ⟨hp, gg, dd, tk0, os⟩ := s
  show wpAny _ _ (field (.ref z) 2 >>= _) _ _ _
  refine wpAny_bind (wpAny_field hz rfl (x := .bool false) rfl ?_)
  show wpAny _ _ (field (.ref z) 3 >>= _) _ _ _
  refine wpAny_bind (wpAny_field hz rfl (x := .ref TI) rfl ?_)
  refine wpAny_bind (wpAny_seqItems hTI rfl ?_)
  show wpAny _ _ (Builtin.SmallTypes.ownedTupleIsFree (.ref z) >>= _) _ _ _
  refine wpAny_bind (wpAny_tupleHeld_zip hz hT fun g0 hz0 hs0 => ?_)
  replace hs0 : Heap.SameBut z hp g0 := hs0
  simp only [Bool.false_eq_true, if_false]
  refine wpAny_bind ?_
  rw [← Array.forIn_toList]
  simp only [List.forIn_cons, List.forIn_nil]
  have c1_0 : St1 i g0 := D1.over st1 hs0 S.zf1
  have c2_0 : St2 i g0 := D2.over st2 hs0 S.zf2
  refine wpAny_bind (wpAny_bind (wpAny_holding ?_))
  show wpAny _ _ (Builtin.SmallTypes.nextOf (.ref i1) >>= _) _ _ _
  by_cases eq1 : i = n1
  · obtain rfl := eq1
    refine wpAny_bind (D1.done ⟨g0, gg, dd, tk0, os⟩ _ _ c1_0 fun g' e hx he => ?_)
    exact hE g' tk0 e (fun c o c0 c1 c2 x => hx _ _ c1 (hs0.extBut _ _ c0 x)) he
  refine wpAny_bind (D1.item i ⟨g0, gg, dd, tk0, os⟩ _ _ (by omega) c1_0 fun y1 g1 tk1 hy1 su1 hs1 => wpAny_pure ?_)
  replace hs1 : Heap.SameBut i1 g0 g1 := hs1
  have c2_1 : St2 i g1 := D2.over c2_0 hs1 S.sep1_2
  refine wpAny_pure ?_
  refine wpAny_bind (wpAny_bind (wpAny_holding ?_))
  show wpAny _ _ (Builtin.SmallTypes.nextOf (.ref i2) >>= _) _ _ _
  have eq2 : i = n2 := by omega
  · obtain rfl := eq2
    refine wpAny_bind (D2.done ⟨g1, gg, dd, tk1, os⟩ _ _ c2_1 fun g' e hx he => ?_)
    exact hE g' tk1 e (fun c o c0 c1 c2 x => hx _ _ c2 (hs1.extBut _ _ c1 (hs0.extBut _ _ c0 x))) he
theorem zip2_held_end {Q : Option Value → Shared → Prop} (S : ZipSep2 z TI TO i1 i2 fp1 fp2) (D1 : Draws prog w A.in1 i1 fp1 n1 P1 St1) (D2 : Draws prog w A.in1 i2 fp2 n2 P2 St2) (hz : IsZipHeld s.heap z TI TO T f) (hT : s.heap.get? T = some oT) (hTI : IsTupOf2 s.heap TI (.ref i1) (.ref i2)) (st1 : St1 i s.heap) (st2 : St2 i s.heap) (le1 : i ≤ n1) (le2 : i ≤ n2) (hend : i = n1 ∨ i = n2)
    (hQ : ∀ h' tk, (∀ c o, c ≠ z → c ≠ i1 → c ≠ i2 → s.heap.get? c = some o → h'.get? c = some o) → Q none { s with heap := h', toks := tk }) : wpAny (model prog w) A (pyNext (.ref z)) Q E s := by
  have hTy : s.TypeIs (.ref z) "zip" := ⟨_, hz, rfl⟩
  unfold pyNext
  refine wpAny_bind (wpAny_attempt (wpAny_callSpecial?_slot (name := Str.ofString "__next__") hTy F.slot_zip_next
    (wpAny_call_entry F.slot_zip_next hTy F.entry_zip_next (zip2_held_end_ S D1 D2 hz hT hTI st1 st2 le1 le2 hend fun h' tk e hk he => ?_) (F.args_zip_next_1 _))))
  obtain ⟨o, ho, hc⟩ := he
  refine wpAny_bind (wpAny_isInstance (T := "StopIteration") (b := true) ⟨o, ho, hc⟩ isSubtype_stop ?_)
  exact wpAny_pure (hQ _ _ hk)
end
section
variable {prog : Program} {w : World} {A : Around} {E : Value → Shared → Prop} {s : Shared} {z TI TO T i1 i2 i3 : Addr} {f : Bool} {oT : Obj} {fp1 : List Addr} {fp2 : List Addr} {fp3 : List Addr} {i n1 n2 n3 : Nat} {P1 : Nat → Value → Prop} {P2 : Nat → Value → Prop} {P3 : Nat → Value → Prop} {St1 : Nat → Heap → Prop} {St2 : Nat → Heap → Prop} {St3 : Nat → Heap → Prop}
theorem zip3_held_item {Q : Value → Shared → Prop} (S : ZipSep3 z TI TO i1 i2 i3 fp1 fp2 fp3) (D1 : Draws prog w A i1 fp1 n1 P1 St1) (D2 : Draws prog w A i2 fp2 n2 P2 St2) (D3 : Draws prog w A i3 fp3 n3 P3 St3) (hz : IsZipHeld s.heap z TI TO T f) (hT : s.heap.get? T = some oT) (hTI : IsTupOf3 s.heap TI (.ref i1) (.ref i2) (.ref i3)) (st1 : St1 i s.heap) (st2 : St2 i s.heap) (st3 : St3 i s.heap) (lt1 : i < n1) (lt2 : i < n2) (lt3 : i < n3)
    (hQ : ∀ x1 x2 x3 h' tk, P1 i x1 → P2 i x2 → P3 i x3 → IsZipHeld h' z TI TO T true → St1 (i + 1) h' → St2 (i + 1) h' → St3 (i + 1) h' → IsTupOf3 h' s.heap.objs.size x1 x2 x3 → h'.objs.size = s.heap.objs.size + 1 →
      (∀ c o, c ≠ z → c ≠ i1 → c ≠ i2 → c ≠ i3 → s.heap.get? c = some o → h'.get? c = some o) → Q (.ref s.heap.objs.size) { s with heap := h', toks := tk }) :
    wpAny (model prog w) A (Builtin.«zip.__next__» ⟨[.ref z], []⟩) (fun fin s' => ∃ v, fin = .done (.ret v) ∧ Q v s') E s := by
  obtain ⟨hp, gg, dd, tk0, os⟩ := s
  show wpAny _ _ (field (.ref z) 2 >>= _) _ _ _
  refine wpAny_bind (wpAny_field hz rfl (x := .bool false) rfl ?_)
  show wpAny _ _ (field (.ref z) 3 >>= _) _ _ _
  refine wpAny_bind (wpAny_field hz rfl (x := .ref TI) rfl ?_)
  refine wpAny_bind (wpAny_seqItems hTI rfl ?_)
  show wpAny _ _ (Builtin.SmallTypes.ownedTupleIsFree (.ref z) >>= _) _ _ _
  refine wpAny_bind (wpAny_tupleHeld_zip hz hT fun g0 hz0 hs0 => ?_)
  replace hs0 : Heap.SameBut z hp g0 := hs0
  simp only [Bool.false_eq_true, if_false]
  refine wpAny_bind ?_
  rw [← Array.forIn_toList]
  simp only [List.forIn_cons, List.forIn_nil]
  have c1_0 : St1 i g0 := D1.over st1 hs0 S.zf1
  have c2_0 : St2 i g0 := D2.over st2 hs0 S.zf2
  have c3_0 : St3 i g0 := D3.over st3 hs0 S.zf3
  refine wpAny_bind (wpAny_bind (wpAny_holding ?_))
  show wpAny _ _ (Builtin.SmallTypes.nextOf (.ref i1) >>= _) _ _ _
  refine wpAny_bind (D1.item i ⟨g0, gg, dd, tk0, os⟩ _ _ lt1 c1_0 fun y1 g1 tk1 hy1 su1 hs1 => wpAny_pure ?_)
  replace hs1 : Heap.SameBut i1 g0 g1 := hs1
  have c2_1 : St2 i g1 := D2.over c2_0 hs1 S.sep1_2
  have c3_1 : St3 i g1 := D3.over c3_0 hs1 S.sep1_3
  refine wpAny_pure ?_
  refine wpAny_bind (wpAny_bind (wpAny_holding ?_))
  show wpAny _ _ (Builtin.SmallTypes.nextOf (.ref i2) >>= _) _ _ _
  refine wpAny_bind (D2.item i ⟨g1, gg, dd, tk1, os⟩ _ _ lt2 c2_1 fun y2 g2 tk2 hy2 su2 hs2 => wpAny_pure ?_)
  replace hs2 : Heap.SameBut i2 g1 g2 := hs2
  have d1_2 : St1 (i + 1) g2 := D1.over su1 hs2 S.sep2_1
  have c3_2 : St3 i g2 := D3.over c3_1 hs2 S.sep2_3
  refine wpAny_pure ?_
  refine wpAny_bind (wpAny_bind (wpAny_holding ?_))
  show wpAny _ _ (Builtin.SmallTypes.nextOf (.ref i3) >>= _) _ _ _
  refine wpAny_bind (D3.item i ⟨g2, gg, dd, tk2, os⟩ _ _ lt3 c3_2 fun y3 g3 tk3 hy3 su3 hs3 => wpAny_pure ?_)
  replace hs3 : Heap.SameBut i3 g2 g3 := hs3
  have d1_3 : St1 (i + 1) g3 := D1.over d1_2 hs3 S.sep3_1
  have d2_3 : St2 (i + 1) g3 := D2.over su2 hs3 S.sep3_2
  refine wpAny_pure (wpAny_pure ?_)
  show wpAny _ _ (newTuple [y1, y2, y3] >>= _) _ _ _
  refine wpAny_bind (wpAny_newTuple ?_)
  have hsz : g3.objs.size = hp.objs.size := by rw [hs3.1, hs2.1, hs1.1, hs0.1]
  have hzz : IsZipHeld g3 z TI TO T true := hs3.extBut _ _ S.zi3 (hs2.extBut _ _ S.zi2 (hs1.extBut _ _ S.zi1 (hz0)))
  have hk : ∀ c o, c ≠ z → c ≠ i1 → c ≠ i2 → c ≠ i3 → hp.get? c = some o → g3.get? c = some o := fun c o c0 c1 c2 c3 e => hs3.extBut _ _ c3 (hs2.extBut _ _ c2 (hs1.extBut _ _ c1 (hs0.extBut _ _ c0 e)))
  refine wpAny_pure ⟨_, rfl, ?_⟩
  show Q (.ref g3.objs.size) _
  have hpp : IsTupOf3 (g3.push { cls := .type "tuple", data := .seq #[y1, y2, y3] }) g3.objs.size y1 y2 y3 := Heap.get?_push_size _ rfl
  have hp4 : (g3.push { cls := .type "tuple", data := .seq #[y1, y2, y3] }).objs.size = g3.objs.size + 1 := Heap.size_push ..
  rw [hsz] at hpp hp4 ⊢
  exact hQ y1 y2 y3 _ tk3 hy1 hy2 hy3 (Heap.get?_push_of_some _ hzz) (D1.frame _ _ _ d1_3 fun b _ o e => Heap.get?_push_of_some _ e) (D2.frame _ _ _ d2_3 fun b _ o e => Heap.get?_push_of_some _ e) (D3.frame _ _ _ su3 fun b _ o e => Heap.get?_push_of_some _ e) hpp hp4 fun c o c0 c1 c2 c3 e => Heap.get?_push_of_some _ (hk c o c0 c1 c2 c3 e)
theorem zip3_held {Q : Option Value → Shared → Prop} (S : ZipSep3 z TI TO i1 i2 i3 fp1 fp2 fp3) (D1 : Draws prog w A.in1 i1 fp1 n1 P1 St1) (D2 : Draws prog w A.in1 i2 fp2 n2 P2 St2) (D3 : Draws prog w A.in1 i3 fp3 n3 P3 St3) (hz : IsZipHeld s.heap z TI TO T f) (hT : s.heap.get? T = some oT) (hTI : IsTupOf3 s.heap TI (.ref i1) (.ref i2) (.ref i3)) (st1 : St1 i s.heap) (st2 : St2 i s.heap) (st3 : St3 i s.heap) (lt1 : i < n1) (lt2 : i < n2) (lt3 : i < n3)
    (hQ : ∀ x1 x2 x3 h' tk, P1 i x1 → P2 i x2 → P3 i x3 → IsZipHeld h' z TI TO T true → St1 (i + 1) h' → St2 (i + 1) h' → St3 (i + 1) h' → IsTupOf3 h' s.heap.objs.size x1 x2 x3 → h'.objs.size = s.heap.objs.size + 1 →
      (∀ c o, c ≠ z → c ≠ i1 → c ≠ i2 → c ≠ i3 → s.heap.get? c = some o → h'.get? c = some o) → Q (some (.ref s.heap.objs.size)) { s with heap := h', toks := tk }) :
    wpAny (model prog w) A (pyNext (.ref z)) Q E s := by
  have hTy : s.TypeIs (.ref z) "zip" := ⟨_, hz, rfl⟩
  unfold pyNext
  exact wpAny_bind (wpAny_attempt (wpAny_callSpecial?_slot (name := Str.ofString "__next__") hTy F.slot_zip_next
    (wpAny_call_entry F.slot_zip_next hTy F.entry_zip_next
      (zip3_held_item S D1 D2 D3 hz hT hTI st1 st2 st3 lt1 lt2 lt3 fun x1 x2 x3 h' tk p1 p2 p3 b1 d1 d2 d3 b5 b6 b7 => wpAny_pure (hQ x1 x2 x3 h' tk p1 p2 p3 b1 d1 d2 d3 b5 b6 b7)) (F.args_zip_next_1 _))))
theorem zip3_held_end_ {Q : Fin → Shared → Prop} (S : ZipSep3 z TI TO i1 i2 i3 fp1 fp2 fp3) (D1 : Draws prog w A i1 fp1 n1 P1 St1) (D2 : Draws prog w A i2 fp2 n2 P2 St2) (D3 : Draws prog w A i3 fp3 n3 P3 St3) (hz : IsZipHeld s.heap z TI TO T f) (hT : s.heap.get? T = some oT) (hTI : IsTupOf3 s.heap TI (.ref i1) (.ref i2) (.ref i3)) (st1 : St1 i s.heap) (st2 : St2 i s.heap) (st3 : St3 i s.heap) (le1 : i ≤ n1) (le2 : i ≤ n2) (le3 : i ≤ n3) (hend : i = n1 ∨ i = n2 ∨ i = n3)
    (hE : ∀ h' tk e, (∀ c o, c ≠ z → c ≠ i1 → c ≠ i2 → c ≠ i3 → s.heap.get? c = some o → h'.get? c = some o) → (∃ o, h'.get? e = some o ∧ o.cls = .type "StopIteration") → E (.ref e) { s with heap := h', toks := tk }) :
    wpAny (model prog w) A (Builtin.«zip.__next__» ⟨[.ref z], []⟩) Q E s := by
  obtain ⟨hp, gg, dd, tk0, os⟩ := s
  show wpAny _ _ (field (.ref z) 2 >>= _) _ _ _
  refine wpAny_bind (wpAny_field hz rfl (x := .bool false) rfl ?_)
  show wpAny _ _ (field (.ref z) 3 >>= _) _ _ _
  refine wpAny_bind (wpAny_field hz rfl (x := .ref TI) rfl ?_)
  refine wpAny_bind (wpAny_seqItems hTI rfl ?_)
  show wpAny _ _ (Builtin.SmallTypes.ownedTupleIsFree (.ref z) >>= _) _ _ _
  refine wpAny_bind (wpAny_tupleHeld_zip hz hT fun g0 hz0 hs0 => ?_)
  replace hs0 : Heap.SameBut z hp g0 := hs0
  simp only [Bool.false_eq_true, if_false]
  refine wpAny_bind ?_
  rw [← Array.forIn_toList]
  simp only [List.forIn_cons, List.forIn_nil]
  have c1_0 : St1 i g0 := D1.over st1 hs0 S.zf1
  have c2_0 : St2 i g0 := D2.over st2 hs0 S.zf2
  have c3_0 : St3 i g0 := D3.over st3 hs0 S.zf3
  refine wpAny_bind (wpAny_bind (wpAny_holding ?_))
  show wpAny _ _ (Builtin.SmallTypes.nextOf (.ref i1) >>= _) _ _ _
  by_cases eq1 : i = n1
  · obtain rfl := eq1
    refine wpAny_bind (D1.done ⟨g0, gg, dd, tk0, os⟩ _ _ c1_0 fun g' e hx he => ?_)
    exact hE g' tk0 e (fun c o c0 c1 c2 c3 x => hx _ _ c1 (hs0.extBut _ _ c0 x)) he
  refine wpAny_bind (D1.item i ⟨g0, gg, dd, tk0, os⟩ _ _ (by omega) c1_0 fun y1 g1 tk1 hy1 su1 hs1 => wpAny_pure ?_)
  replace hs1 : Heap.SameBut i1 g0 g1 := hs1
  have c2_1 : St2 i g1 := D2.over c2_0 hs1 S.sep1_2
  have c3_1 : St3 i g1 := D3.over c3_0 hs1 S.sep1_3
  refine wpAny_pure ?_
  refine wpAny_bind (wpAny_bind (wpAny_holding ?_))
  show wpAny _ _ (Builtin.SmallTypes.nextOf (.ref i2) >>= _) _ _ _
  by_cases eq2 : i = n2
  · obtain rfl := eq2
    refine wpAny_bind (D2.done ⟨g1, gg, dd, tk1, os⟩ _ _ c2_1 fun g' e hx he => ?_)
    exact hE g' tk1 e (fun c o c0 c1 c2 c3 x => hx _ _ c2 (hs1.extBut _ _ c1 (hs0.extBut _ _ c0 x))) he
  refine wpAny_bind (D2.item i ⟨g1, gg, dd, tk1, os⟩ _ _ (by omega) c2_1 fun y2 g2 tk2 hy2 su2 hs2 => wpAny_pure ?_)
  replace hs2 : Heap.SameBut i2 g1 g2 := hs2
  have c3_2 : St3 i g2 := D3.over c3_1 hs2 S.sep2_3
  refine wpAny_pure ?_
  refine wpAny_bind (wpAny_bind (wpAny_holding ?_))
  show wpAny _ _ (Builtin.SmallTypes.nextOf (.ref i3) >>= _) _ _ _
  have eq3 : i = n3 := by omega
  · obtain rfl := eq3
    refine wpAny_bind (D3.done ⟨g2, gg, dd, tk2, os⟩ _ _ c3_2 fun g' e hx he => ?_)
    exact hE g' tk2 e (fun c o c0 c1 c2 c3 x => hx _ _ c3 (hs2.extBut _ _ c2 (hs1.extBut _ _ c1 (hs0.extBut _ _ c0 x)))) he
theorem zip3_held_end {Q : Option Value → Shared → Prop} (S : ZipSep3 z TI TO i1 i2 i3 fp1 fp2 fp3) (D1 : Draws prog w A.in1 i1 fp1 n1 P1 St1) (D2 : Draws prog w A.in1 i2 fp2 n2 P2 St2) (D3 : Draws prog w A.in1 i3 fp3 n3 P3 St3) (hz : IsZipHeld s.heap z TI TO T f) (hT : s.heap.get? T = some oT) (hTI : IsTupOf3 s.heap TI (.ref i1) (.ref i2) (.ref i3)) (st1 : St1 i s.heap) (st2 : St2 i s.heap) (st3 : St3 i s.heap) (le1 : i ≤ n1) (le2 : i ≤ n2) (le3 : i ≤ n3) (hend : i = n1 ∨ i = n2 ∨ i = n3)
    (hQ : ∀ h' tk, (∀ c o, c ≠ z → c ≠ i1 → c ≠ i2 → c ≠ i3 → s.heap.get? c = some o → h'.get? c = some o) → Q none { s with heap := h', toks := tk }) : wpAny (model prog w) A (pyNext (.ref z)) Q E s := by
  have hTy : s.TypeIs (.ref z) "zip" := ⟨_, hz, rfl⟩
  unfold pyNext
  refine wpAny_bind (wpAny_attempt (wpAny_callSpecial?_slot (name := Str.ofString "__next__") hTy F.slot_zip_next
    (wpAny_call_entry F.slot_zip_next hTy F.entry_zip_next (zip3_held_end_ S D1 D2 D3 hz hT hTI st1 st2 st3 le1 le2 le3 hend fun h' tk e hk he => ?_) (F.args_zip_next_1 _))))
  obtain ⟨o, ho, hc⟩ := he
  refine wpAny_bind (wpAny_isInstance (T := "StopIteration") (b := true) ⟨o, ho, hc⟩ isSubtype_stop ?_)
  exact wpAny_pure (hQ _ _ hk)
end
end Pu

namespace Pu
open PySem PySem.Spec PyProof.Rows L2 PySem.Calls
/-! ### list(it) of an iterator that gives out a new row each time -/
structure TIt (prog : Program) (w : World) (A : Around) (S z lo : Addr) (wr : List Addr) (n : Nat) (P : Nat → List Value → Prop) (St : Nat → Heap → Prop) : Prop where
  low : ∀ b ∈ wr, b ≤ lo
  sep : S ∉ wr
  frame : ∀ i h h', St i h → (∀ b o, b ≠ S → h.get? b = some o → h'.get? b = some o) → St i h'
  item : ∀ i (s : Shared) (Q : Option Value → Shared → Prop) (E : Value → Shared → Prop), i < n → St i s.heap → S < s.heap.objs.size →
    (∀ vs h' tk, P i vs → St (i + 1) h' → h'.get? s.heap.objs.size = some { cls := .type "tuple", data := .seq vs.toArray } → (∀ b o, b ∉ wr → s.heap.get? b = some o → h'.get? b = some o) → Q (some (.ref s.heap.objs.size)) { s with heap := h', toks := tk }) →
    wpAny (model prog w) A (pyNext (.ref z)) Q E s
  done : ∀ (s : Shared) (Q : Option Value → Shared → Prop) (E : Value → Shared → Prop), St n s.heap →
    (∀ h' tk, (∀ b o, b ∉ wr → s.heap.get? b = some o → h'.get? b = some o) → Q none { s with heap := h', toks := tk }) → wpAny (model prog w) A (pyNext (.ref z)) Q E s
/-- the rows given out lie above lo, one after the other -/
structure RwG (rows : List (List Value)) (lo : Addr) (h : Heap) (as : List Addr) : Prop where
  rise : as.Pairwise (· < ·)
  above : ∀ a ∈ as, lo < a
  pairs : ∀ (j : Nat) (a : Addr), as[j]? = some a → ∃ vs, rows[j]? = some vs ∧ h.get? a = some { cls := .type "tuple", data := .seq vs.toArray }
theorem RwG.there {rows : List (List Value)} {lo : Addr} {h : Heap} {as : List Addr} (g : RwG rows lo h as) {a : Addr} (ha : a ∈ as) : a < h.objs.size := by
  obtain ⟨j, hj⟩ := List.mem_iff_getElem?.mp ha
  obtain ⟨_, _, e⟩ := g.pairs j a hj
  exact Heap.lt_size e
section
variable {prog : Program} {w : World} {A : Around} {s : Shared} {R : Result → Shared → Prop} {S z lo : Addr} {wr : List Addr} {n : Nat} {P : Nat → List Value → Prop} {St : Nat → Heap → Prop}
theorem tz_loop (T : TIt prog w A.in1 S z lo wr n P St) (hSlo : S ≤ lo) (hn : n ≤ sizeLine) (res : Value) {h₁ : Heap}
    (hR : ∀ h' tk acc c as rows, (∀ b o, b ≠ S → b ∉ wr → h₁.get? b = some o → h'.get? b = some o) → h'.get? S = some { cls := .type "list", dict := none, data := .seq acc c, slots := #[] } → as.length = n → rows.length = n → (∀ j vs, rows[j]? = some vs → P j vs) → RwG rows lo h' as →
      acc.toList = as.map Value.ref → R (.ok (.ret res)) { s with heap := h', toks := tk }) :
    ∀ (k i : Nat) (h : Heap) (tk c : Nat) (acc : Array Value) (as : List Addr) (rows : List (List Value)), n - i = k → i ≤ n → St i h → (∀ b o, b ≠ S → b ∉ wr → h₁.get? b = some o → h.get? b = some o) →
      h.get? S = some { cls := .type "list", dict := none, data := .seq acc c, slots := #[] } → acc.toList = as.map Value.ref → as.length = i → rows.length = i → (∀ j vs, rows[j]? = some vs → P j vs) → RwG rows lo h as → lo < h.objs.size →
      codeAny (model prog w) A (.builtin "list.extend.loop" ⟨[.ref S, .ref z, res], []⟩) R { s with heap := h, toks := tk } := by
  intro k
  induction k with
  | zero =>
    intro i h tk c acc as rows hk hi hst hkeep hS hacc hal hrl hP hG hIs
    obtain rfl : i = n := by omega
    refine codeAny_builtin PySem.F.entry_extend_loop ?_
    rw [Around.under_plainId PySem.F.plain_extend_loop _]
    show wpAny _ A.in1 (pyNext (.ref z) >>= _) _ _ _
    refine wpAny_bind (T.done { s with heap := h, toks := tk } _ _ hst fun h' tk' he => ?_)
    refine wpAny_pure (hR h' tk' acc c as rows (fun b o h1 h2 e => he b o h2 (hkeep b o h1 h2 e)) (he S _ T.sep hS) hal hrl hP ⟨hG.rise, hG.above, fun j a hj => ?_⟩ hacc)
    obtain ⟨vs, e2, e3⟩ := hG.pairs j a hj
    exact ⟨vs, e2, he a _ (fun hw => absurd (T.low a hw) (Nat.not_le.mpr (hG.above a (List.mem_of_getElem? hj)))) e3⟩
  | succ k ih =>
    intro i h tk c acc as rows hk hi hst hkeep hS hacc hal hrl hP hG hIs
    have hlt : i < n := by omega
    have hsz : acc.size = i := by rw [← Array.length_toList, hacc, List.length_map, hal]
    have hSl : S < h.objs.size := Heap.lt_size hS
    refine codeAny_builtin PySem.F.entry_extend_loop ?_
    rw [Around.under_plainId PySem.F.plain_extend_loop _]
    show wpAny _ A.in1 (pyNext (.ref z) >>= _) _ _ _
    refine wpAny_bind (T.item i { s with heap := h, toks := tk } _ _ hlt hst hSl fun vs h' tk' hPv hst' ht hkp => ?_)
    dsimp only at ht hkp ⊢
    have hS' := hkp S _ T.sep hS
    have up : ∀ b o, b ≠ S → h'.get? b = some o → (h'.update S (Obj.mapSeq (·.push (Value.ref h.objs.size)))).get? b = some o := fun b o hb e => (Heap.get?_update_other _ _ (Ne.symm hb)).trans e
    have tN : h.objs.size ≠ S := Nat.ne_of_gt hSl
    show wpAny _ A.in1 (updateSeq S (·.push (Value.ref h.objs.size)) >>= _) _ _ _
    refine wpAny_bind ?_
    refine wpAny_updateSeq hS' rfl (wpAny_pure ⟨plainId_quiet PySem.F.plain_extend_loop _, ih (i + 1) _ tk' _ (acc.push (Value.ref h.objs.size)) (as ++ [h.objs.size]) (rows ++ [vs]) (by omega) hlt (T.frame _ _ _ hst' up)
      (fun b o h1 h2 e => up b o h1 (hkp b o h2 (hkeep b o h1 h2 e))) (Heap.get?_update_self _ hS' rfl) (by rw [Array.toList_push, hacc, List.map_append]; rfl) (by rw [List.length_append, hal]; rfl) (by rw [List.length_append, hrl]; rfl) ?_ ⟨?_, ?_, ?_⟩ ?_⟩) (by rw [hsz]; omega) (by show (acc.push (Value.ref h.objs.size)).size ≤ sizeLine + 1; rw [Array.size_push, hsz]; omega)
    · intro j us hj
      rcases Nat.lt_trichotomy j rows.length with h1 | h1 | h1
      · rw [List.getElem?_append_left h1] at hj; exact hP j us hj
      · subst h1
        have : vs = us := by simpa using hj
        subst this; rw [hrl]; exact hPv
      · rw [List.getElem?_eq_none (by rw [List.length_append, List.length_singleton]; omega)] at hj; cases hj
    · refine List.pairwise_append.mpr ⟨hG.rise, List.pairwise_singleton _ _, fun a ha b hb => ?_⟩
      rw [List.mem_singleton.mp hb]
      exact hG.there ha
    · intro a ha
      rcases List.mem_append.mp ha with ha | ha
      · exact hG.above a ha
      · rw [List.mem_singleton.mp ha]; exact hIs
    · intro j b hj
      rcases Nat.lt_trichotomy j as.length with h1 | h1 | h1
      · rw [List.getElem?_append_left h1] at hj
        obtain ⟨us, e2, e3⟩ := hG.pairs j b hj
        have hb := hG.above b (List.mem_of_getElem? hj)
        refine ⟨us, by rw [List.getElem?_append_left (by omega)]; exact e2, up b _ (Nat.ne_of_gt (Nat.lt_of_le_of_lt hSlo hb)) (hkp b _ (fun hw => absurd (T.low b hw) (Nat.not_le.mpr hb)) e3)⟩
      · subst h1
        have hb : h.objs.size = b := by simpa using hj
        subst hb
        exact ⟨vs, by rw [hal, ← hrl]; simp, up _ _ tN ht⟩
      · rw [List.getElem?_eq_none (by rw [List.length_append, List.length_singleton]; omega)] at hj; cases hj
    · have e : (h'.update S (Obj.mapSeq (·.push (Value.ref h.objs.size)))).get? h.objs.size = _ := up _ _ tN ht
      exact Nat.lt_trans hIs (Heap.lt_size e)
end
section
variable {prog : Program} {w : World} {A : Around} {E : Value → Shared → Prop} {s : Shared} {r : Addr}
theorem zip_no_len : typeLookup (.type "zip") "__len__" = pure none := am_miss_of_fast (by decide +kernel)
theorem zip_no_hint : typeLookup (.type "zip") "__length_hint__" = pure none := am_miss_of_fast (by decide +kernel)
theorem zip_hint (hT : s.TypeIs (.ref r) "zip") {Q : Bool → Shared → Prop} (h : Q true s) : wpAny (model prog w) A (Builtin.List.listLengthHint (.ref r)) Q E s := by
  unfold Builtin.List.listLengthHint
  refine wpAny_bind (wpAny_specialOf hT zip_no_len ?_)
  refine wpAny_bind (wpAny_specialOf hT zip_no_hint ?_)
  exact wpAny_pure h
end
section
variable {prog : Program} {w : World} {A : Around} {E : Value → Shared → Prop} {s : Shared} {S z lo TI TO : Addr} {wr : List Addr} {n : Nat} {P : Nat → List Value → Prop} {St : Nat → Heap → Prop}
theorem tz_extend {R : Result → Shared → Prop} (T : TIt prog w A.in1 S z lo wr n P St) (hz : IsZip s.heap z TI TO .none) (hSz : S ≠ z) (hSlo : S ≤ lo) (hlo : lo < s.heap.objs.size) (hst : St 0 s.heap) (hn : n ≤ sizeLine) (res : Value) (c₀ : Nat) (hS : s.heap.get? S = some { cls := .type "list", data := .seq #[] c₀ })
    (hR : ∀ h' tk acc c as rows, (∀ b o, b ≠ S → b ∉ wr → s.heap.get? b = some o → h'.get? b = some o) → h'.get? S = some { cls := .type "list", dict := none, data := .seq acc c, slots := #[] } → as.length = n → rows.length = n → (∀ j vs, rows[j]? = some vs → P j vs) → RwG rows lo h' as →
      acc.toList = as.map Value.ref → R (.ok (.ret res)) { s with heap := h', toks := tk }) :
    wpAny (model prog w) A.in1 (Builtin.List.listExtendWith (.ref S) (.ref z) res)
      (fun fin s' => match fin with | .done f => R (.ok f) s' | .again c' => c'.quiet = true ∧ codeAny (model prog w) A c' R s') (fun e s' => R (.error e) s') s := by
  have hT : s.TypeIs (.ref z) "zip" := ⟨_, hz, rfl⟩
  have key : ∀ (h : Heap) (c₁ tk : Nat), (∀ b o, b ≠ S → s.heap.get? b = some o → h.get? b = some o) → lo < h.objs.size →
      h.get? S = some { cls := .type "list", data := .seq #[] c₁ } → codeAny (model prog w) A (.builtin "list.extend.loop" ⟨[.ref S, .ref z, res], []⟩) R { s with heap := h, toks := tk } := by
    intro h c₁ tk hk hl hS₁
    exact tz_loop T hSlo hn res (h₁ := s.heap) hR n 0 h tk c₁ #[] [] [] (Nat.sub_zero _) (Nat.zero_le _) (T.frame _ _ _ hst hk) (fun b o hb _ e => hk b o hb e) hS₁ rfl rfl rfl (fun j vs hj => by simp at hj)
      ⟨List.Pairwise.nil, (fun _ ha => nomatch ha), (fun j a hj => by simp at hj)⟩ hl
  unfold Builtin.List.listExtendWith
  refine wpAny_bind (wpAny_typeOf (T := "zip") hT ?_)
  have h1 : Builtin.List.listSameRef (.ref S) (.ref z) = false := by simp [Builtin.List.listSameRef, hSz]
  have h2 : (Value.type "zip" == Value.type "list") = false := by decide
  have h3 : (Value.type "zip" == Value.type "tuple") = false := by decide
  simp only [h1, h2, h3, Bool.or_false, Bool.false_eq_true, if_false]
  refine wpAny_bind (wpAny_pyIter_zip hz ?_)
  refine wpAny_bind (wpAny_holding (zip_hint hT ?_))
  refine wpAny_ite_split (fun _ => ?_) (fun _ => wpAny_pure ⟨plainId_quiet PySem.F.plain_extend_loop _, key _ c₀ _ (fun b o _ e => e) hlo hS⟩)
  refine wpAny_bind (wpAny_rule ?_)
  refine wpAny_bind ?_
  show wpAny _ _ (updateSeq S (·.push .none) >>= fun _ => updateSeq S (·.pop)) _ _ _
  refine wpAny_bind (wpAny_updateSeq hS rfl ?_)
  have hS₂ := Heap.get?_update_self (Obj.mapSeq (·.push Value.none)) hS rfl
  refine wpAny_updateSeq (hz := by seq_fits) hS₂ rfl ?_
  have hS₃ := Heap.get?_update_self (Obj.mapSeq (·.pop)) hS₂ rfl
  refine wpAny_pure ⟨plainId_quiet PySem.F.plain_extend_loop _, key _ _ _ (fun b o hb e => ?_) ?_ hS₃⟩
  · exact (Heap.get?_update_other _ _ (Ne.symm hb)).trans ((Heap.get?_update_other _ _ (Ne.symm hb)).trans e)
  · simpa using hlo
theorem tz_init {R : Result → Shared → Prop} (T : TIt prog w A.in1 S z lo wr n P St) (hz : IsZip s.heap z TI TO .none) (hSz : S ≠ z) (hSlo : S ≤ lo) (hlo : lo < s.heap.objs.size) (hst : St 0 s.heap) (hn : n ≤ sizeLine) (hS : s.heap.get? S = some { cls := .type "list", data := .seq #[] })
    (hR : ∀ h' tk acc c as rows, (∀ b o, b ≠ S → b ∉ wr → s.heap.get? b = some o → h'.get? b = some o) → h'.get? S = some { cls := .type "list", dict := none, data := .seq acc c, slots := #[] } → as.length = n → rows.length = n → (∀ j vs, rows[j]? = some vs → P j vs) → RwG rows lo h' as →
      acc.toList = as.map Value.ref → R (.ok (.ret .none)) { s with heap := h', toks := tk }) :
    wpAny (model prog w) A.in1 (Builtin.«list.__init__» ⟨[.ref S, .ref z], []⟩)
      (fun fin s' => match fin with | .done f => R (.ok f) s' | .again c' => c'.quiet = true ∧ codeAny (model prog w) A c' R s') (fun e s' => R (.error e) s') s := by
  show wpAny _ _ (do let old ← Builtin.List.listItems (.ref S); Builtin.List.listUpdate (.ref S) (fun _ => #[]); letGo old.toList.reverse; Builtin.List.listExtendWith (.ref S) (.ref z) .none) _ _ s
  refine wpAny_bind ?_
  unfold Builtin.List.listItems
  refine wpAny_bind (wpAny_seqItems hS rfl (wpAny_pure ?_))
  show wpAny _ _ (updateSeq S (fun _ => #[]) >>= fun _ => letGo (#[] : Array Value).toList.reverse >>= fun _ => Builtin.List.listExtendWith (.ref S) (.ref z) .none) _ _ s
  refine wpAny_bind (wpAny_updateSeq hS rfl ?_)
  have hS₂ := Heap.get?_update_self (Obj.mapSeq (fun _ => (#[] : Array Value))) hS rfl
  have oth : ∀ b o, b ≠ S → s.heap.get? b = some o → (s.heap.update S (Obj.mapSeq (fun _ => (#[] : Array Value)))).get? b = some o :=
    fun b o hb e => (Heap.get?_update_other _ _ (Ne.symm hb)).trans e
  refine wpAny_bind (wpAny_letGo ?_)
  refine tz_extend (TI := TI) (TO := TO) T (oth z _ hSz.symm hz) hSz hSlo (by simpa using hlo) (T.frame _ _ _ hst oth) hn .none _ hS₂ (fun h' tk acc c as rows hk hS' hl hrl hP hG hacc => ?_)
  exact hR h' tk acc c as rows (fun b o hb hw e => hk b o hb hw (oth b o hb e)) hS' hl hrl hP hG hacc
/-- list(z) of a new zip -/
theorem tz_call {Q : Value → Shared → Prop} (hz : IsZip s.heap z TI TO .none) (hn : n ≤ sizeLine)
    (T : TIt prog w A.in1.in1 s.heap.objs.size z s.heap.objs.size wr n P St) (hst : St 0 (s.heap.push { cls := .type "list", data := .seq #[] }))
    (hQ : ∀ h' tk acc c as rows, (∀ b o, b ∉ wr → s.heap.get? b = some o → h'.get? b = some o) → h'.get? s.heap.objs.size = some { cls := .type "list", dict := none, data := .seq acc c, slots := #[] } → as.length = n → rows.length = n → (∀ j vs, rows[j]? = some vs → P j vs) → RwG rows s.heap.objs.size h' as →
      acc.toList = as.map Value.ref → Q (.ref s.heap.objs.size) { s with heap := h', toks := tk }) :
    wpAny (model prog w) A (PySem.call (.type "list") [.ref z]) Q E s := by
  refine callType_codes (Q₁ := fun obj s₁ => obj = .ref s.heap.objs.size ∧ s₁ = { s with heap := s.heap.push { cls := .type "list", data := .seq #[] } }) PySem.F.called_list (PySem.F.typeCall_list_1 _) PySem.F.entry_list_init
    (code_list_new _ ⟨rfl, rfl⟩) fun obj s₁ h₁ => ?_
  obtain ⟨rfl, rfl⟩ := h₁
  have hS : (s.heap.push { cls := .type "list", data := .seq #[] }).get? s.heap.objs.size = some { cls := .type "list", data := .seq #[] } := Heap.get?_push_size _ rfl
  have hr : z < s.heap.objs.size := Heap.lt_size hz
  refine ⟨⟨_, hS, rfl⟩, PySem.F.args_list_init_2 _ _, tz_init (A := A.in1) (TI := TI) (TO := TO) T (Heap.get?_push_of_some _ hz) (Nat.ne_of_gt hr) (Nat.le_refl _) (by rw [Heap.size_push]; exact Nat.lt_succ_self _) hst hn hS (fun h' tk acc c as rows hk hS' hl hrl hP hG hacc => ?_)⟩
  · exact ⟨rfl, hQ h' tk acc c as rows (fun b o hw e => hk b o (Nat.ne_of_lt (Heap.lt_size e)) hw (Heap.get?_push_of_some _ e)) hS' hl hrl hP hG hacc⟩
end
def zst2 (k1 k2 : Bool) (z TI TO S : Addr) (i1 i2 a1 a2 : Addr) (its1 its2 : Array Value) (i : Nat) (h : Heap) : Prop :=
  ((i = 0 ∧ IsZip h z TI TO .none ∧ ∃ y1 y2, IsTupOf2 h TO y1 y2) ∨ ∃ T f oT, IsZipHeld h z TI TO T f ∧ h.get? T = some oT ∧ S < T) ∧ IsTupOf2 h TI (.ref i1) (.ref i2) ∧ (ItK k1 h i1 a1 i ∧ IsK k1 h a1 its1) ∧ (ItK k2 h i2 a2 i ∧ IsK k2 h a2 its2)
def zrow2 (its1 its2 : Array Value) (j : Nat) (vs : List Value) : Prop := ∃ x1 x2, its1[j]? = some x1 ∧ its2[j]? = some x2 ∧ vs = [x1, x2]
theorem tit_zip2 {prog : Program} {w : World} {A : Around} (hh : A.handled = none) {k1 k2 : Bool} {z TI TO S i1 i2 a1 a2 : Addr} {its1 its2 : Array Value} (Z : ZipSep2 z TI TO i1 i2 [i1, a1] [i2, a2]) (n1 : a1 ≠ i1) (n2 : a2 ≠ i2) (hS : ∀ b, b ∈ [z, TI, TO, i1, i2, a1, a2] → b < S) :
    TIt prog w A S z S [z, TO, i1, i2] (min its1.size its2.size) (zrow2 its1 its2) (zst2 k1 k2 z TI TO S i1 i2 a1 a2 its1 its2) where
  low := fun b hb => Nat.le_of_lt (hS b (by simp only [List.mem_cons, List.not_mem_nil, or_false] at hb ⊢; rcases hb with rfl | rfl | rfl | rfl <;> simp))
  sep := fun hb => Nat.lt_irrefl S (hS S (by simp only [List.mem_cons, List.not_mem_nil, or_false] at hb ⊢; rcases hb with rfl | rfl | rfl | rfl <;> simp))
  frame := fun i h h' st k => by
    obtain ⟨hz, hTI, ⟨h1, p1⟩, ⟨h2, p2⟩⟩ := st
    have ne : ∀ {b}, b ∈ [z, TI, TO, i1, i2, a1, a2] → b ≠ S := fun hb e => Nat.lt_irrefl S (by have := hS _ hb; rw [e] at this; exact this)
    refine ⟨?_, k TI _ (ne (by simp)) hTI, ⟨h1.at fun o e => k _ _ (ne (by simp)) e, p1.at fun o e => k _ _ (ne (by simp)) e⟩, ⟨h2.at fun o e => k _ _ (ne (by simp)) e, p2.at fun o e => k _ _ (ne (by simp)) e⟩⟩
    rcases hz with ⟨e0, hz, y1, y2, hTO⟩ | ⟨T, f, oT, hz, hT, hn⟩
    · exact .inl ⟨e0, k z _ (ne (by simp)) hz, y1, y2, k TO _ (ne (by simp)) hTO⟩
    · exact .inr ⟨T, f, oT, k z _ (ne (by simp)) hz, k T _ (Nat.ne_of_gt hn) hT, hn⟩
  item := fun i s Q E hi st hSs hQ => by
    obtain ⟨hz, hTI, ⟨h1, p1⟩, ⟨h2, p2⟩⟩ := st
    have lo : ∀ {b T : Addr}, b ∈ [z, TI, TO, i1, i2, a1, a2] → S < T → T ≠ b := fun hb h e => by have := hS _ hb; rw [← e] at this; exact Nat.lt_asymm h this
    rcases hz with ⟨e0, hz, y1, y2, hTO⟩ | ⟨T, f, oT, hz, hT, hn⟩
    · refine wpAny_pyNext_zipD2_item Z (drawsK (A := A.in1) k1 hh i1 a1 n1 its1) (drawsK (A := A.in1) k2 hh i2 a2 n2 its2) hz hTI hTO ⟨h1, p1⟩ ⟨h2, p2⟩ (by omega) (by omega) fun x1 x2 h' tk q1 q2 z' TO' d1 d2 hT hsz hk => ?_
      exact hQ _ h' tk ⟨x1, x2, q1, q2, rfl⟩ ⟨.inr ⟨_, false, _, z', hT, hSs⟩, hk _ _ Z.TIz Z.TITO Z.TIi1 Z.TIi2 hTI, d1, d2⟩ hT fun b o hb e => hk b o (fun e' => hb (by simp [e'])) (fun e' => hb (by simp [e'])) (fun e' => hb (by simp [e'])) (fun e' => hb (by simp [e'])) e
    · refine zip2_held Z (drawsK (A := A.in1) k1 hh i1 a1 n1 its1) (drawsK (A := A.in1) k2 hh i2 a2 n2 its2) hz hT hTI ⟨h1, p1⟩ ⟨h2, p2⟩ (by omega) (by omega) fun x1 x2 h' tk q1 q2 z' d1 d2 hT2 hsz hk => ?_
      refine hQ _ h' tk ⟨x1, x2, q1, q2, rfl⟩ ⟨.inr ⟨T, true, oT, z', ?_, hn⟩, hk _ _ Z.TIz Z.TIi1 Z.TIi2 hTI, d1, d2⟩ hT2 fun b o hb e => hk b o (fun e' => hb (by simp [e'])) (fun e' => hb (by simp [e'])) (fun e' => hb (by simp [e'])) e
      exact hk _ _ (lo (by simp) hn) (lo (by simp) hn) (lo (by simp) hn) hT
  done := fun s Q E st hQ => by
    obtain ⟨hz, hTI, ⟨h1, p1⟩, ⟨h2, p2⟩⟩ := st
    rcases hz with ⟨e0, hz, y1, y2, hTO⟩ | ⟨T, f, oT, hz, hT, hn⟩
    · exact wpAny_pyNext_zipD2_end Z (drawsK (A := A.in1) k1 hh i1 a1 n1 its1) (drawsK (A := A.in1) k2 hh i2 a2 n2 its2) hz hTI hTO ⟨h1, p1⟩ ⟨h2, p2⟩ (by omega) (by omega) (by omega) fun h' tk hk => hQ h' tk fun b o hb e => hk b o (fun e' => hb (by simp [e'])) (fun e' => hb (by simp [e'])) (fun e' => hb (by simp [e'])) (fun e' => hb (by simp [e'])) e
    · exact zip2_held_end Z (drawsK (A := A.in1) k1 hh i1 a1 n1 its1) (drawsK (A := A.in1) k2 hh i2 a2 n2 its2) hz hT hTI ⟨h1, p1⟩ ⟨h2, p2⟩ (by omega) (by omega) (by omega) fun h' tk hk => hQ h' tk fun b o hb e => hk b o (fun e' => hb (by simp [e'])) (fun e' => hb (by simp [e'])) (fun e' => hb (by simp [e'])) e
def zst3 (k1 k2 k3 : Bool) (z TI TO S : Addr) (i1 i2 i3 a1 a2 a3 : Addr) (its1 its2 its3 : Array Value) (i : Nat) (h : Heap) : Prop :=
  ((i = 0 ∧ IsZip h z TI TO .none ∧ ∃ y1 y2 y3, IsTupOf3 h TO y1 y2 y3) ∨ ∃ T f oT, IsZipHeld h z TI TO T f ∧ h.get? T = some oT ∧ S < T) ∧ IsTupOf3 h TI (.ref i1) (.ref i2) (.ref i3) ∧ (ItK k1 h i1 a1 i ∧ IsK k1 h a1 its1) ∧ (ItK k2 h i2 a2 i ∧ IsK k2 h a2 its2) ∧ (ItK k3 h i3 a3 i ∧ IsK k3 h a3 its3)
def zrow3 (its1 its2 its3 : Array Value) (j : Nat) (vs : List Value) : Prop := ∃ x1 x2 x3, its1[j]? = some x1 ∧ its2[j]? = some x2 ∧ its3[j]? = some x3 ∧ vs = [x1, x2, x3]
theorem tit_zip3 {prog : Program} {w : World} {A : Around} (hh : A.handled = none) {k1 k2 k3 : Bool} {z TI TO S i1 i2 i3 a1 a2 a3 : Addr} {its1 its2 its3 : Array Value} (Z : ZipSep3 z TI TO i1 i2 i3 [i1, a1] [i2, a2] [i3, a3]) (n1 : a1 ≠ i1) (n2 : a2 ≠ i2) (n3 : a3 ≠ i3) (hS : ∀ b, b ∈ [z, TI, TO, i1, i2, i3, a1, a2, a3] → b < S) :
    TIt prog w A S z S [z, TO, i1, i2, i3] (min (min its1.size its2.size) its3.size) (zrow3 its1 its2 its3) (zst3 k1 k2 k3 z TI TO S i1 i2 i3 a1 a2 a3 its1 its2 its3) where
  low := fun b hb => Nat.le_of_lt (hS b (by simp only [List.mem_cons, List.not_mem_nil, or_false] at hb ⊢; rcases hb with rfl | rfl | rfl | rfl | rfl <;> simp))
  sep := fun hb => Nat.lt_irrefl S (hS S (by simp only [List.mem_cons, List.not_mem_nil, or_false] at hb ⊢; rcases hb with rfl | rfl | rfl | rfl | rfl <;> simp))
  frame := fun i h h' st k => by
    obtain ⟨hz, hTI, ⟨h1, p1⟩, ⟨h2, p2⟩, ⟨h3, p3⟩⟩ := st
    have ne : ∀ {b}, b ∈ [z, TI, TO, i1, i2, i3, a1, a2, a3] → b ≠ S := fun hb e => Nat.lt_irrefl S (by have := hS _ hb; rw [e] at this; exact this)
    refine ⟨?_, k TI _ (ne (by simp)) hTI, ⟨h1.at fun o e => k _ _ (ne (by simp)) e, p1.at fun o e => k _ _ (ne (by simp)) e⟩, ⟨h2.at fun o e => k _ _ (ne (by simp)) e, p2.at fun o e => k _ _ (ne (by simp)) e⟩, ⟨h3.at fun o e => k _ _ (ne (by simp)) e, p3.at fun o e => k _ _ (ne (by simp)) e⟩⟩
    rcases hz with ⟨e0, hz, y1, y2, y3, hTO⟩ | ⟨T, f, oT, hz, hT, hn⟩
    · exact .inl ⟨e0, k z _ (ne (by simp)) hz, y1, y2, y3, k TO _ (ne (by simp)) hTO⟩
    · exact .inr ⟨T, f, oT, k z _ (ne (by simp)) hz, k T _ (Nat.ne_of_gt hn) hT, hn⟩
  item := fun i s Q E hi st hSs hQ => by
    obtain ⟨hz, hTI, ⟨h1, p1⟩, ⟨h2, p2⟩, ⟨h3, p3⟩⟩ := st
    have lo : ∀ {b T : Addr}, b ∈ [z, TI, TO, i1, i2, i3, a1, a2, a3] → S < T → T ≠ b := fun hb h e => by have := hS _ hb; rw [← e] at this; exact Nat.lt_asymm h this
    rcases hz with ⟨e0, hz, y1, y2, y3, hTO⟩ | ⟨T, f, oT, hz, hT, hn⟩
    · refine wpAny_pyNext_zipD3_item Z (drawsK (A := A.in1) k1 hh i1 a1 n1 its1) (drawsK (A := A.in1) k2 hh i2 a2 n2 its2) (drawsK (A := A.in1) k3 hh i3 a3 n3 its3) hz hTI hTO ⟨h1, p1⟩ ⟨h2, p2⟩ ⟨h3, p3⟩ (by omega) (by omega) (by omega) fun x1 x2 x3 h' tk q1 q2 q3 z' TO' d1 d2 d3 hT hsz hk => ?_
      exact hQ _ h' tk ⟨x1, x2, x3, q1, q2, q3, rfl⟩ ⟨.inr ⟨_, false, _, z', hT, hSs⟩, hk _ _ Z.TIz Z.TITO Z.TIi1 Z.TIi2 Z.TIi3 hTI, d1, d2, d3⟩ hT fun b o hb e => hk b o (fun e' => hb (by simp [e'])) (fun e' => hb (by simp [e'])) (fun e' => hb (by simp [e'])) (fun e' => hb (by simp [e'])) (fun e' => hb (by simp [e'])) e
    · refine zip3_held Z (drawsK (A := A.in1) k1 hh i1 a1 n1 its1) (drawsK (A := A.in1) k2 hh i2 a2 n2 its2) (drawsK (A := A.in1) k3 hh i3 a3 n3 its3) hz hT hTI ⟨h1, p1⟩ ⟨h2, p2⟩ ⟨h3, p3⟩ (by omega) (by omega) (by omega) fun x1 x2 x3 h' tk q1 q2 q3 z' d1 d2 d3 hT2 hsz hk => ?_
      refine hQ _ h' tk ⟨x1, x2, x3, q1, q2, q3, rfl⟩ ⟨.inr ⟨T, true, oT, z', ?_, hn⟩, hk _ _ Z.TIz Z.TIi1 Z.TIi2 Z.TIi3 hTI, d1, d2, d3⟩ hT2 fun b o hb e => hk b o (fun e' => hb (by simp [e'])) (fun e' => hb (by simp [e'])) (fun e' => hb (by simp [e'])) (fun e' => hb (by simp [e'])) e
      exact hk _ _ (lo (by simp) hn) (lo (by simp) hn) (lo (by simp) hn) (lo (by simp) hn) hT
  done := fun s Q E st hQ => by
    obtain ⟨hz, hTI, ⟨h1, p1⟩, ⟨h2, p2⟩, ⟨h3, p3⟩⟩ := st
    rcases hz with ⟨e0, hz, y1, y2, y3, hTO⟩ | ⟨T, f, oT, hz, hT, hn⟩
    · exact wpAny_pyNext_zipD3_end Z (drawsK (A := A.in1) k1 hh i1 a1 n1 its1) (drawsK (A := A.in1) k2 hh i2 a2 n2 its2) (drawsK (A := A.in1) k3 hh i3 a3 n3 its3) hz hTI hTO ⟨h1, p1⟩ ⟨h2, p2⟩ ⟨h3, p3⟩ (by omega) (by omega) (by omega) (by omega) fun h' tk hk => hQ h' tk fun b o hb e => hk b o (fun e' => hb (by simp [e'])) (fun e' => hb (by simp [e'])) (fun e' => hb (by simp [e'])) (fun e' => hb (by simp [e'])) (fun e' => hb (by simp [e'])) e
    · exact zip3_held_end Z (drawsK (A := A.in1) k1 hh i1 a1 n1 its1) (drawsK (A := A.in1) k2 hh i2 a2 n2 its2) (drawsK (A := A.in1) k3 hh i3 a3 n3 its3) hz hT hTI ⟨h1, p1⟩ ⟨h2, p2⟩ ⟨h3, p3⟩ (by omega) (by omega) (by omega) (by omega) fun h' tk hk => hQ h' tk fun b o hb e => hk b o (fun e' => hb (by simp [e'])) (fun e' => hb (by simp [e'])) (fun e' => hb (by simp [e'])) (fun e' => hb (by simp [e'])) e
end Pu

namespace Pu
open PySem PySem.Spec PyProof.Rows L2 PySem.Calls
/-! ### rows that were made, tracked -/
def putR : Hp → List Addr → List (List V) → Hp
  | H, a :: as, r :: rs => putR (upd H a (.tup r)) as rs
  | H, _, _ => H
theorem putR_off {b : Addr} : ∀ (as : List Addr) (rs : List (List V)) (H : Hp), b ∉ as → putR H as rs b = H b
  | [], _, _, _ => rfl
  | _ :: _, [], _, _ => rfl
  | a :: as, r :: rs, H, h => by
    show putR (upd H a (.tup r)) as rs b = H b
    rw [putR_off as rs _ (fun z => h (List.mem_cons_of_mem _ z)), upd_ne (fun z => h (by rw [z]; exact List.mem_cons_self))]
theorem putR_at : ∀ (as : List Addr) (rs : List (List V)) (H : Hp), as.length = rs.length → as.Nodup → ∀ (j : Nat) (a : Addr), as[j]? = some a → ∃ r, rs[j]? = some r ∧ putR H as rs a = some (.tup r)
  | [], _, _, _, _, j, a, h => by simp at h
  | _ :: _, [], _, h, _, _, _, _ => by cases h
  | a :: as, r :: rs, H, hl, hn, 0, b, h => by
    have e : a = b := by simpa using h
    subst e
    refine ⟨r, rfl, ?_⟩
    show putR (upd H a (.tup r)) as rs a = _
    rw [putR_off as rs _ (List.nodup_cons.mp hn).1, upd_same]
  | a :: as, r :: rs, H, hl, hn, j + 1, b, h => by
    obtain ⟨r', h1, h2⟩ := putR_at as rs (upd H a (.tup r)) (Nat.succ.inj hl) (List.nodup_cons.mp hn).2 j b (by simpa using h)
    exact ⟨r', by simpa using h1, h2⟩
theorem refs_vals : ∀ as : List Addr, Vals (as.map V.ref) (as.map Value.ref)
  | [] => .nil
  | _ :: as => .cons rfl (refs_vals as)
theorem rows_laid {X : Cx} {pins : List (Addr × Obj)} {σ : L2.St} {H : Hp} {s : Shared} {h' : Heap} {tk p : Nat} {rows : List (List Value)} {vr : List (List V)} {acc : Array Value} {c : Nat} {as : List Addr} (I : Inv X pins σ H s) (hp : s.heap.objs.size ≤ p) (hz : rows.length ≤ sizeLine)
    (hk : ∀ b o, s.heap.get? b = some o → h'.get? b = some o) (hS : h'.get? p = some { cls := .type "list", dict := none, data := .seq acc c, slots := #[] }) (hl : as.length = rows.length) (hvl : vr.length = rows.length) (hG : RwG rows p h' as) (hacc : acc.toList = as.map Value.ref)
    (hv : ∀ (j : Nat) (v : List V) (r : List Value), vr[j]? = some v → rows[j]? = some r → Vals v r ∧ v.length ≤ sizeLine) :
    ∃ H' : Hp, (∀ b o, H b = some o → H' b = some o) ∧ H p = none ∧ (∀ t ∈ as, H t = none) ∧ p ∉ as ∧ H' p = some (.lst (as.map V.ref)) ∧ (∀ (j : Nat) (t : Addr), as[j]? = some t → ∃ v, vr[j]? = some v ∧ H' t = some (.tup v)) ∧ Inv X pins σ H' { s with heap := h', toks := tk } := by
  have hSn : p ∉ as := fun z => Nat.lt_irrefl _ (hG.above _ z)
  have nd : as.Nodup := List.Pairwise.imp (fun {a b} (h : a < b) => Nat.ne_of_lt h) hG.rise
  have ab : ∀ t ∈ as, s.heap.objs.size ≤ t := fun t ht => Nat.le_trans hp (Nat.le_of_lt (hG.above t ht))
  have new : ∀ t ∈ as, H t = none := fun t ht => I.hok.fresh (ab t ht)
  have newS : H p = none := I.hok.fresh hp
  have atP := putR_at as vr (upd H p (.lst (as.map V.ref))) (by omega) nd
  have off : ∀ b, b ∉ as → b ≠ p → putR (upd H p (.lst (as.map V.ref))) as vr b = H b := fun b h1 h2 => by rw [putR_off as vr _ h1, upd_ne h2]
  have low : ∀ b o, s.heap.get? b = some o → b ∉ as ∧ b ≠ p := fun b o e => ⟨fun z => absurd (Heap.lt_size e) (Nat.not_lt.mpr (ab b z)), Nat.ne_of_lt (Nat.lt_of_lt_of_le (Heap.lt_size e) hp)⟩
  have kp : ∀ b u, H b = some u → (putR (upd H p (.lst (as.map V.ref))) as vr) b = some u := fun b u e => by
    rw [off b (fun z => by rw [new b z] at e; cases e) (fun z => by rw [z, newS] at e; cases e)]
    exact e
  have eS : putR (upd H p (.lst (as.map V.ref))) as vr p = some (.lst (as.map V.ref)) := by rw [putR_off as vr _ hSn, upd_same]
  refine ⟨putR (upd H p (.lst (as.map V.ref))) as vr, kp, newS, new, hSn, eS, atP, ?_⟩
  refine I.call' (ch := []) rfl ⟨fun b o q _ _ _ => hk b o q, fun b o q _ _ _ => ⟨o.slots, hk b o q⟩, fun b o q n _ => ?_, fun b o q _ => ⟨o, hk b o q⟩, fun b xs q => kp b _ q, fun b o u q => kp b _ q, fun b ps q => ⟨#[], by rw [kp b _ q]; simp⟩⟩ (fun b u q => ?_) I.bare fun b z => by simp at z
  · obtain ⟨z1, z2⟩ := low b o q
    rw [off b z1 z2]
    exact n
  · by_cases hb : b ∈ as
    · obtain ⟨j, e1⟩ := List.mem_iff_getElem?.mp hb
      obtain ⟨v, e2, e3⟩ := atP j b e1
      rw [e3] at q
      cases q
      obtain ⟨rw', f1, f2⟩ := hG.pairs j b e1
      obtain ⟨rv, hvz⟩ := hv j v rw' e2 f1
      exact ⟨hvz, rw', rv, ⟨_, f2, rfl, _, rfl⟩⟩
    · by_cases hb2 : b = p
      · rw [hb2] at q ⊢
        rw [eS] at q
        cases q
        refine ⟨by rw [List.length_map]; omega, acc.toList, c, by rw [hacc]; exact refs_vals as, ?_⟩
        rw [Array.toArray_toList]
        exact hS
      · rw [off b hb hb2] at q
        exact (I.hok b u q).stay (fun d v _ y => hk d v y) (fun d y => kp d _ y) fun d xs y => kp d _ y
/-- .. of the data's side -/
theorem fin_rows {K : PySem.W.Frag} {c : Ct} {G H G1 H1 H' : Hp} {p : Addr} {as : List Addr} {ds : List D} {post : List D → Prop} {Q : VK} (w : Wd c G1 H1) (e : Ext c.E G H G1 H1) (n : H1 p = none) (na : ∀ t ∈ as, H1 t = none) (npa : p ∉ as) (hk : ∀ b o, H1 b = some o → H' b = some o)
    (hp' : H' p = some (.lst (as.map V.ref))) (hl : ds.length = as.length) (ht : ∀ (j : Nat) (t : Addr) (d : D), as[j]? = some t → ds[j]? = some d → ∃ v es, H' t = some (.tup v) ∧ d = .tuple es ∧ DqAll K G1 v es) (hp : post ds)
    (q : ∀ r, post r → ∀ a G' H', H a = none → Ext c.E G H G' H' → W0 c.E G' H' → Own K c G' H' a r → Q (.ref a) H') : Q (.ref p) H' := by
  let G' : Hp := fun b => if b ∈ as then H' b else G1 b
  have gin : ∀ {b}, b ∈ as → G' b = H' b := fun h => if_pos h
  have gout : ∀ {b}, b ∉ as → G' b = G1 b := fun h => if_neg h
  have nin : ∀ {b o}, H1 b = some o → b ∉ as := fun e h => by rw [na _ h] at e; cases e
  have vt : ∀ {b}, c.E.vol b → ∃ o, H1 b = some o := fun h => Ef.there w.w.inv h
  have w' : W0 c.E G' H' := ⟨fun a o h => by
      by_cases ha : a ∈ as
      · rw [gin ha] at h; exact h
      · rw [gout ha] at h; exact hk a o (w.w.sub a o h), fun a va => by
      obtain ⟨o, ho⟩ := vt va
      rw [gout (nin ho)]; exact w.w.vol a va, Ef.loc w.w.inv fun a va => by
      obtain ⟨o, ho⟩ := vt va
      rw [ho]; exact hk a o ho⟩
  have e' : Ext c.E G1 H1 G' H' := ⟨fun a o h => by rw [gout (nin (w.w.sub a o h))]; exact h, fun a o h _ => hk a o h, fun a o h _ g => by rw [gout (nin h)]; exact g⟩
  have le : Le G1 G' := e'.g
  have all : ∀ (as' : List Addr) (ds' : List D), ds'.length = as'.length → (∀ (j : Nat) (t : Addr) (d : D), as'[j]? = some t → ds'[j]? = some d → t ∈ as ∧ ∃ v es, H' t = some (.tup v) ∧ d = .tuple es ∧ DqAll K G1 v es) → DqAll K G' (as'.map V.ref) ds' := by
    intro as'
    induction as' with
    | nil =>
      intro ds' hl' _
      cases ds' with
      | nil => exact .nil
      | cons _ _ => cases hl'
    | cons t as' ih =>
      intro ds' hl' h'
      cases ds' with
      | nil => cases hl'
      | cons d ds' =>
        obtain ⟨hta, v, es, h1, rfl, h3⟩ := h' 0 t d rfl rfl
        refine .cons (.tup (.of ((gin hta).trans h1)) (h3.mono le)) (ih ds' (Nat.succ.inj hl') fun j t d h1 h2 => h' (j + 1) t d (by simpa using h1) (by simpa using h2))
  have nv : ¬ c.E.vol p := fun v => by obtain ⟨o, ho⟩ := vt v; rw [n] at ho; cases ho
  have g0 : G1 p = none := by
    cases z : G1 p with
    | none => rfl
    | some o => rw [w.w.sub p o z] at n; cases n
  have h0 : c.H0 p = none := by
    cases z : c.H0 p with
    | none => rfl
    | some o => have := w.e.h p o z nv; rw [n] at this; cases this
  have hH : H p = none := by
    cases z : H p with
    | none => rfl
    | some o => have := e.h p o z nv; rw [n] at this; cases this
  exact q ds hp p G' H' hH (e.trans e') w' ⟨⟨_, hp', all as ds hl fun j t d h1 h2 => ⟨List.mem_of_getElem? h1, ht j t d h1 h2⟩⟩, by rw [gout npa]; exact g0, h0, nv⟩
theorem BvAll.three {K : PySem.W.Frag} {c : Ct} {G H : Hp} {vs : List V} {d e f : D} (h : BvAll K c G H vs [d, e, f]) : ∃ v u t, vs = [v, u, t] ∧ Bv K c G H v d ∧ Bv K c G H u e ∧ Bv K c G H t f := by
  cases h with | cons b t => cases t with | cons b' t' => cases t' with | cons b2 t2 => cases t2; exact ⟨_, _, _, rfl, b, b', b2⟩
theorem lstZ2 {X : Cx} {e1 e2 : Expr} {pos p p2 pos2 : Pos} {f : List Sl → R (List D)} (hm : X.mg "list" = none) (hm2 : X.mg "zip" = none) (ha : PA X [e1, e2] (tAB X.K f)) (hc : X.calm = true := by rfl) (hg : Gl X "list" := by rfl) (hg2 : Gl X "zip" := by rfl)
    (na : starEach [.Call (.Name "zip" p2) [e1, e2] [] pos2] X.env = (false, eval (.Call (.Name "zip" p2) [e1, e2] [] pos2) X.env) :: starEach [] X.env := by rfl)
    (hs : starEach [e1, e2] X.env = (false, eval e1 X.env) :: starEach [e2] X.env := by rfl) (hpl : (backTo pos2 (starEach [e2] X.env)).any (·.1) = false := by rfl) :
    PE X (.Call (.Name "list" p) [.Call (.Name "zip" p2) [e1, e2] [] pos2] [] pos) (tF X.K (m1 f zip2R)) := by
  refine ⟨fun pins s σ H Q I h => ?_⟩
  obtain ⟨c, G, ρ, post, w, r, hf, q⟩ := h
  refine Call_ (ld_blt I hg hm boot_list (PyProof.Rows.callWith_type1 (args_cons (Call_ (ld_blt I hg2 hm2 PyProof.Rows.boot_zip (PyProof.Rows.callWith_type1 (thn (ha.run pos2 pins s σ H (fun vs H1 => ∃ ds G1, zip2R ds post ∧ Ext c.E G H G1 H1 ∧ Wd c G1 H1 ∧ BvAll X.K c G1 H1 vs ds) I ⟨c, G, ρ, _, w, r, hf, fun ds hds vs G1 H1 e1 w1 b1 => ⟨ds, G1, hds, e1, w.step w1 e1, b1⟩⟩) fun us s1 ⟨vs, H1, I1, r1, q1⟩ => ?_) hs hpl))) na) na))
  obtain ⟨ds, G1, hz, ex, W1, b1⟩ := q1
  obtain ⟨d1, d2, xs1, xs2, rfl, w1, w2, hsz, hp⟩ := zip2R_inv hz
  obtain ⟨v1, v2, rfl, bv1, bv2⟩ := b1.two
  obtain ⟨k1, a1, vs1, rfl, sk1, dq1⟩ := rowB W1.w bv1 w1
  have sq1 := sk1 G1 H1 .refl W1.w
  obtain ⟨k2, a2, vs2, rfl, sk2, dq2⟩ := rowB W1.w bv2 w2
  have sq2 := sk2 G1 H1 .refl W1.w
  have eu : us = [Value.ref a1, Value.ref a2] := by
    cases r1 with | cons ra1 rr1 => cases rr1 with | cons ra2 rr2 => (cases rr2; cases ra1; cases ra2; rfl)
  subst eu
  obtain ⟨its1, rv1, p1⟩ := sq1.its I1
  obtain ⟨o1, ho1⟩ := p1.obj
  have hl1 : a1 < s1.heap.objs.size := Heap.lt_size ho1
  have len1 : vs1.length = its1.length := rv1.length
  obtain ⟨its2, rv2, p2⟩ := sq2.its I1
  obtain ⟨o2, ho2⟩ := p2.obj
  have hl2 : a2 < s1.heap.objs.size := Heap.lt_size ho2
  have len2 : vs2.length = its2.length := rv2.length
  refine zip_begins2 (beginsK k1 a1 its1.toArray) (beginsK k2 a2 its2.toArray) p1 p2 fun h' hz' hTI hTO g1 g2 hsz' hk => args_nil ?_
  have hh := I1.ok.hd hc
  have T := tit_zip2 (prog := X.prog) (w := X.w) (A := X.A.in1.in1) (S := h'.objs.size) hh (zip_sep2 (N := s1.heap.objs.size) (fp1 := [a1]) (fp2 := [a2]) (fun b hb => by rw [List.mem_singleton.mp hb]; exact hl1) (fun b hb => by rw [List.mem_singleton.mp hb]; exact hl2)) (Nat.ne_of_lt hl1) (Nat.ne_of_lt (Nat.lt_add_right 1 hl2)) (k1 := k1) (k2 := k2) (its1 := its1.toArray) (its2 := its2.toArray) (fun b hb => by
    rw [hsz']
    simp only [List.mem_cons, List.not_mem_nil, or_false] at hb
    rcases hb with rfl | rfl | rfl | rfl | rfl | rfl | rfl
    · exact Nat.add_lt_add_left (by decide) _
    · exact Nat.add_lt_add_left (by decide) _
    · exact Nat.add_lt_add_left (by decide) _
    · exact Nat.lt_add_of_pos_right (by decide)
    · exact Nat.add_lt_add_left (by decide) _
    · exact Nat.lt_add_right _ hl1
    · exact Nat.lt_add_right _ hl2)
  refine tz_call (s := { s1 with heap := h' }) (E := X.xe) hz' (n := min its1.toArray.size its2.toArray.size) ?_ T ?_ fun h2 tk acc cc as rows hk2 hS2 hal hrl hP hG hacc => ?_
  · have : xs1.length ≤ sizeLine := hsz
    have := dq1.length
    simp only [List.size_toArray]
    omega
  · refine ⟨.inl ⟨rfl, Heap.get?_push_of_some _ hz', _, _, Heap.get?_push_of_some _ hTO⟩, Heap.get?_push_of_some _ hTI, ⟨(ItK.new g1).at fun o e => Heap.get?_push_of_some _ e, p1.at fun o e => Heap.get?_push_of_some _ (hk _ _ e)⟩, ⟨(ItK.new g2).at fun o e => Heap.get?_push_of_some _ e, p2.at fun o e => Heap.get?_push_of_some _ (hk _ _ e)⟩⟩
  · have I2 : Inv X pins σ H1 { s1 with heap := h' } := I1.kept (t' := s1.toks) hk
    have kept : ∀ b o, s1.heap.get? b = some o → h2.get? b = some o := fun b o e => hk2 b o (fun hb => by
      have hlt := Heap.lt_size e
      simp only [List.mem_cons, List.not_mem_nil, or_false] at hb
      rcases hb with rfl | rfl | rfl | rfl
      · exact absurd hlt (Nat.not_lt.mpr (Nat.le_add_right _ _))
      · exact absurd hlt (Nat.not_lt.mpr (Nat.le_add_right _ _))
      · exact absurd hlt (Nat.not_lt.mpr (Nat.le_refl _))
      · exact absurd hlt (Nat.not_lt.mpr (Nat.le_add_right _ _))) (hk b o e)
    simp only [List.size_toArray] at hal hrl
    have hv : ∀ (j : Nat) (v : List V) (rr : List Value), (List.zipWith (fun x y => [x, y]) vs1 vs2)[j]? = some v → rows[j]? = some rr → Vals v rr ∧ v.length ≤ sizeLine := by
      intro j v rr h1 h3
      obtain ⟨y1, y2, z1, z2, rfl⟩ := hP j rr h3
      have z1' : its1[j]? = some y1 := by simpa using z1
      have jl1 : j < vs1.length := by
        have := (List.getElem?_eq_some_iff.mp z1').1
        omega
      obtain ⟨u1, m1, t1⟩ := rv1.get (List.getElem?_eq_getElem jl1)
      obtain rfl : u1 = y1 := Option.some.inj (m1.symm.trans z1')
      have z2' : its2[j]? = some y2 := by simpa using z2
      have jl2 : j < vs2.length := by
        have := (List.getElem?_eq_some_iff.mp z2').1
        omega
      obtain ⟨u2, m2, t2⟩ := rv2.get (List.getElem?_eq_getElem jl2)
      obtain rfl : u2 = y2 := Option.some.inj (m2.symm.trans z2')
      rw [List.getElem?_zipWith, List.getElem?_eq_getElem jl1, List.getElem?_eq_getElem jl2] at h1
      obtain rfl : [vs1[j], vs2[j]] = v := by simpa using h1
      exact ⟨.cons t1 (.cons t2 .nil), by show 2 ≤ sizeLine; decide⟩
    have hlr : as.length = rows.length := by omega
    obtain ⟨H', j1, j2, j3, j4, j5, j6, J⟩ := rows_laid (tk := tk) (p := h'.objs.size) (vr := List.zipWith (fun x y => [x, y]) vs1 vs2) I1 (by rw [hsz']; exact Nat.le_add_right _ _) (by
      have : xs1.length ≤ sizeLine := hsz
      have := dq1.length
      omega) kept hS2 hlr (by simp only [List.length_zipWith]; omega) hG hacc hv
    · refine ⟨.ref h'.objs.size, H', J, rfl, ?_⟩
      refine fin_rows W1 ex j2 j3 j4 j1 j5 (by rw [zip_len]; have := dq1.length; have := dq2.length; omega) (fun j t d h1 h3 => ?_) hp q
      obtain ⟨x1, x2, f1, f2, rfl⟩ := zip_get h3
      obtain ⟨v, h4, h5⟩ := j6 j t h1
      obtain ⟨u1, m1, t1⟩ := dq1.get f1
      obtain ⟨u2, m2, t2⟩ := dq2.get f2
      rw [List.getElem?_zipWith, m1, m2] at h4
      obtain rfl : [u1, u2] = v := by simpa using h4
      exact ⟨_, _, h5, rfl, .cons t1 (.cons t2 .nil)⟩
theorem lstZ3 {X : Cx} {e1 e2 e3 : Expr} {pos p p2 pos2 : Pos} {f : List Sl → R (List D)} (hm : X.mg "list" = none) (hm2 : X.mg "zip" = none) (ha : PA X [e1, e2, e3] (tAB X.K f)) (hc : X.calm = true := by rfl) (hg : Gl X "list" := by rfl) (hg2 : Gl X "zip" := by rfl)
    (na : starEach [.Call (.Name "zip" p2) [e1, e2, e3] [] pos2] X.env = (false, eval (.Call (.Name "zip" p2) [e1, e2, e3] [] pos2) X.env) :: starEach [] X.env := by rfl)
    (hs : starEach [e1, e2, e3] X.env = (false, eval e1 X.env) :: starEach [e2, e3] X.env := by rfl) (hpl : (backTo pos2 (starEach [e2, e3] X.env)).any (·.1) = false := by rfl) :
    PE X (.Call (.Name "list" p) [.Call (.Name "zip" p2) [e1, e2, e3] [] pos2] [] pos) (tF X.K (m1 f zip3R)) := by
  refine ⟨fun pins s σ H Q I h => ?_⟩
  obtain ⟨c, G, ρ, post, w, r, hf, q⟩ := h
  refine Call_ (ld_blt I hg hm boot_list (PyProof.Rows.callWith_type1 (args_cons (Call_ (ld_blt I hg2 hm2 PyProof.Rows.boot_zip (PyProof.Rows.callWith_type1 (thn (ha.run pos2 pins s σ H (fun vs H1 => ∃ ds G1, zip3R ds post ∧ Ext c.E G H G1 H1 ∧ Wd c G1 H1 ∧ BvAll X.K c G1 H1 vs ds) I ⟨c, G, ρ, _, w, r, hf, fun ds hds vs G1 H1 e1 w1 b1 => ⟨ds, G1, hds, e1, w.step w1 e1, b1⟩⟩) fun us s1 ⟨vs, H1, I1, r1, q1⟩ => ?_) hs hpl))) na) na))
  obtain ⟨ds, G1, hz, ex, W1, b1⟩ := q1
  obtain ⟨d1, d2, d3, xs1, xs2, xs3, rfl, w1, w2, w3, hsz, hp⟩ := zip3R_inv hz
  obtain ⟨v1, v2, v3, rfl, bv1, bv2, bv3⟩ := b1.three
  obtain ⟨k1, a1, vs1, rfl, sk1, dq1⟩ := rowB W1.w bv1 w1
  have sq1 := sk1 G1 H1 .refl W1.w
  obtain ⟨k2, a2, vs2, rfl, sk2, dq2⟩ := rowB W1.w bv2 w2
  have sq2 := sk2 G1 H1 .refl W1.w
  obtain ⟨k3, a3, vs3, rfl, sk3, dq3⟩ := rowB W1.w bv3 w3
  have sq3 := sk3 G1 H1 .refl W1.w
  have eu : us = [Value.ref a1, Value.ref a2, Value.ref a3] := by
    cases r1 with | cons ra1 rr1 => cases rr1 with | cons ra2 rr2 => cases rr2 with | cons ra3 rr3 => (cases rr3; cases ra1; cases ra2; cases ra3; rfl)
  subst eu
  obtain ⟨its1, rv1, p1⟩ := sq1.its I1
  obtain ⟨o1, ho1⟩ := p1.obj
  have hl1 : a1 < s1.heap.objs.size := Heap.lt_size ho1
  have len1 : vs1.length = its1.length := rv1.length
  obtain ⟨its2, rv2, p2⟩ := sq2.its I1
  obtain ⟨o2, ho2⟩ := p2.obj
  have hl2 : a2 < s1.heap.objs.size := Heap.lt_size ho2
  have len2 : vs2.length = its2.length := rv2.length
  obtain ⟨its3, rv3, p3⟩ := sq3.its I1
  obtain ⟨o3, ho3⟩ := p3.obj
  have hl3 : a3 < s1.heap.objs.size := Heap.lt_size ho3
  have len3 : vs3.length = its3.length := rv3.length
  refine zip_begins3 (beginsK k1 a1 its1.toArray) (beginsK k2 a2 its2.toArray) (beginsK k3 a3 its3.toArray) p1 p2 p3 fun h' hz' hTI hTO g1 g2 g3 hsz' hk => args_nil ?_
  have hh := I1.ok.hd hc
  have T := tit_zip3 (prog := X.prog) (w := X.w) (A := X.A.in1.in1) (S := h'.objs.size) hh (zip_sep3 (N := s1.heap.objs.size) (fp1 := [a1]) (fp2 := [a2]) (fp3 := [a3]) (fun b hb => by rw [List.mem_singleton.mp hb]; exact hl1) (fun b hb => by rw [List.mem_singleton.mp hb]; exact hl2) (fun b hb => by rw [List.mem_singleton.mp hb]; exact hl3)) (Nat.ne_of_lt hl1) (Nat.ne_of_lt (Nat.lt_add_right 1 hl2)) (Nat.ne_of_lt (Nat.lt_add_right 2 hl3)) (k1 := k1) (k2 := k2) (k3 := k3) (its1 := its1.toArray) (its2 := its2.toArray) (its3 := its3.toArray) (fun b hb => by
    rw [hsz']
    simp only [List.mem_cons, List.not_mem_nil, or_false] at hb
    rcases hb with rfl | rfl | rfl | rfl | rfl | rfl | rfl | rfl | rfl
    · exact Nat.add_lt_add_left (by decide) _
    · exact Nat.add_lt_add_left (by decide) _
    · exact Nat.add_lt_add_left (by decide) _
    · exact Nat.lt_add_of_pos_right (by decide)
    · exact Nat.add_lt_add_left (by decide) _
    · exact Nat.add_lt_add_left (by decide) _
    · exact Nat.lt_add_right _ hl1
    · exact Nat.lt_add_right _ hl2
    · exact Nat.lt_add_right _ hl3)
  refine tz_call (s := { s1 with heap := h' }) (E := X.xe) hz' (n := min (min its1.toArray.size its2.toArray.size) its3.toArray.size) ?_ T ?_ fun h2 tk acc cc as rows hk2 hS2 hal hrl hP hG hacc => ?_
  · have : xs1.length ≤ sizeLine := hsz
    have := dq1.length
    simp only [List.size_toArray]
    omega
  · refine ⟨.inl ⟨rfl, Heap.get?_push_of_some _ hz', _, _, _, Heap.get?_push_of_some _ hTO⟩, Heap.get?_push_of_some _ hTI, ⟨(ItK.new g1).at fun o e => Heap.get?_push_of_some _ e, p1.at fun o e => Heap.get?_push_of_some _ (hk _ _ e)⟩, ⟨(ItK.new g2).at fun o e => Heap.get?_push_of_some _ e, p2.at fun o e => Heap.get?_push_of_some _ (hk _ _ e)⟩, ⟨(ItK.new g3).at fun o e => Heap.get?_push_of_some _ e, p3.at fun o e => Heap.get?_push_of_some _ (hk _ _ e)⟩⟩
  · have I2 : Inv X pins σ H1 { s1 with heap := h' } := I1.kept (t' := s1.toks) hk
    have kept : ∀ b o, s1.heap.get? b = some o → h2.get? b = some o := fun b o e => hk2 b o (fun hb => by
      have hlt := Heap.lt_size e
      simp only [List.mem_cons, List.not_mem_nil, or_false] at hb
      rcases hb with rfl | rfl | rfl | rfl | rfl
      · exact absurd hlt (Nat.not_lt.mpr (Nat.le_add_right _ _))
      · exact absurd hlt (Nat.not_lt.mpr (Nat.le_add_right _ _))
      · exact absurd hlt (Nat.not_lt.mpr (Nat.le_refl _))
      · exact absurd hlt (Nat.not_lt.mpr (Nat.le_add_right _ _))
      · exact absurd hlt (Nat.not_lt.mpr (Nat.le_add_right _ _))) (hk b o e)
    simp only [List.size_toArray] at hal hrl
    have hv : ∀ (j : Nat) (v : List V) (rr : List Value), (List.zipWith (fun (q : V × V) z => [q.1, q.2, z]) (vs1.zip vs2) vs3)[j]? = some v → rows[j]? = some rr → Vals v rr ∧ v.length ≤ sizeLine := by
      intro j v rr h1 h3
      obtain ⟨y1, y2, y3, z1, z2, z3, rfl⟩ := hP j rr h3
      have z1' : its1[j]? = some y1 := by simpa using z1
      have jl1 : j < vs1.length := by
        have := (List.getElem?_eq_some_iff.mp z1').1
        omega
      obtain ⟨u1, m1, t1⟩ := rv1.get (List.getElem?_eq_getElem jl1)
      obtain rfl : u1 = y1 := Option.some.inj (m1.symm.trans z1')
      have z2' : its2[j]? = some y2 := by simpa using z2
      have jl2 : j < vs2.length := by
        have := (List.getElem?_eq_some_iff.mp z2').1
        omega
      obtain ⟨u2, m2, t2⟩ := rv2.get (List.getElem?_eq_getElem jl2)
      obtain rfl : u2 = y2 := Option.some.inj (m2.symm.trans z2')
      have z3' : its3[j]? = some y3 := by simpa using z3
      have jl3 : j < vs3.length := by
        have := (List.getElem?_eq_some_iff.mp z3').1
        omega
      obtain ⟨u3, m3, t3⟩ := rv3.get (List.getElem?_eq_getElem jl3)
      obtain rfl : u3 = y3 := Option.some.inj (m3.symm.trans z3')
      rw [List.getElem?_zipWith, List.zip, List.getElem?_zipWith, List.getElem?_eq_getElem jl1, List.getElem?_eq_getElem jl2, List.getElem?_eq_getElem jl3] at h1
      obtain rfl : [vs1[j], vs2[j], vs3[j]] = v := by simpa using h1
      exact ⟨.cons t1 (.cons t2 (.cons t3 .nil)), by show 3 ≤ sizeLine; decide⟩
    have hlr : as.length = rows.length := by omega
    obtain ⟨H', j1, j2, j3, j4, j5, j6, J⟩ := rows_laid (tk := tk) (p := h'.objs.size) (vr := List.zipWith (fun (q : V × V) z => [q.1, q.2, z]) (vs1.zip vs2) vs3) I1 (by rw [hsz']; exact Nat.le_add_right _ _) (by
      have : xs1.length ≤ sizeLine := hsz
      have := dq1.length
      omega) kept hS2 hlr (by simp only [List.length_zipWith, List.length_zip]; omega) hG hacc hv
    · refine ⟨.ref h'.objs.size, H', J, rfl, ?_⟩
      refine fin_rows W1 ex j2 j3 j4 j1 j5 (by rw [zip3_len]; have := dq1.length; have := dq2.length; have := dq3.length; omega) (fun j t d h1 h3 => ?_) hp q
      obtain ⟨x1, x2, x3, f1, f2, f3, rfl⟩ := zip3_get h3
      obtain ⟨v, h4, h5⟩ := j6 j t h1
      obtain ⟨u1, m1, t1⟩ := dq1.get f1
      obtain ⟨u2, m2, t2⟩ := dq2.get f2
      obtain ⟨u3, m3, t3⟩ := dq3.get f3
      rw [List.getElem?_zipWith, List.zip, List.getElem?_zipWith, m1, m2, m3] at h4
      obtain rfl : [u1, u2, u3] = v := by simpa using h4
      exact ⟨_, _, h5, rfl, .cons t1 (.cons t2 (.cons t3 .nil))⟩
end Pu

namespace Pu
open PySem PySem.Spec PyProof.Rows L2 HT
/-! ### t[::1] of a tuple: itself -/
section
variable {prog : Program} {w : World} {A : Around} {E : Value → Shared → Prop} {s : Shared}
theorem sliceApplied_one {sl : Addr} {vl vu vs : Value} {n : Nat} {Q : Int × Int × Nat → Shared → Prop} (hs : s.heap.IsSliceOf sl vl vu vs) (pl : IsPart vl none) (pu : IsPart vu none) (ps : IsPart vs (some 1))
    (h : Q (0, 1, n) s) : wpAny (model prog w) A (Builtin.Slice.sliceApplied (.ref sl) (pure (n : Int))) Q E s := by
  obtain ⟨os, hos, hcs, hds⟩ := id hs
  unfold Builtin.Slice.sliceApplied Builtin.Slice.sliceFields
  refine wpAny_bind (wpAny_bind (wpAny_field hos hds (x := vl) rfl (wpAny_bind (wpAny_field hos hds (x := vu) rfl (wpAny_bind (wpAny_field hos hds (x := vs) rfl (wpAny_pure ?_)))))))
  refine wpAny_bind (slicePart_ ps ?_)
  show wpAny _ _ (if ((1 : Int) == 0) = true then _ else _) _ _ s
  rw [if_neg (by decide)]
  refine wpAny_bind (slicePart_ pl (wpAny_bind (slicePart_ pu (wpAny_bind (wpAny_pure ?_)))))
  have e : Builtin.Slice.sliceAdjust none none 1 (n : Int) = (0, (n : Int)) := by
    unfold Builtin.Slice.sliceAdjust
    simp
  show wpAny _ _ (match Builtin.Slice.sliceAdjust none none 1 (n : Int) with | (lo, hi) => pure (lo, (1 : Int), Builtin.Slice.slicePlaces lo hi 1)) _ _ s
  rw [e]
  have e2 : Builtin.Slice.slicePlaces 0 (n : Int) 1 = n := by
    unfold Builtin.Slice.slicePlaces
    cases n with
    | zero => simp
    | succ n => simp
  show wpAny _ _ (pure ((0 : Int), (1 : Int), Builtin.Slice.slicePlaces 0 (n : Int) 1)) _ _ s
  rw [e2]
  exact wpAny_pure h
theorem getItem_tuple_one {t sl : Addr} {items : Array Value} {vl vu vs : Value} {Q : Value → Shared → Prop} (ht : IsTup s.heap t items) (hs : s.heap.IsSliceOf sl vl vu vs) (pl : IsPart vl none) (pu : IsPart vu none) (ps : IsPart vs (some 1))
    (h : Q (.ref t) s) : wpAny (model prog w) A (getItem (.ref t) (.ref sl)) Q E s := by
  obtain ⟨os, hos, hcs, hds⟩ := id hs
  have hTs : s.TypeIs (.ref sl) "slice" := ⟨os, hos, hcs⟩
  unfold getItem
  try with_reducible refine wpAny_holding ?_
  first | refine wpAny_bind (wpAny_pure ?_) | skip
  refine wpAny_bind (wpAny_sequenceKey ht.typeIs (by decide) ?_)
  refine wpAny_bind (wpAny_callSpecial?_slot (name := Str.ofString "__getitem__") ht.typeIs PyProof.Rows.slot_tuple_getitem
    (wpAny_call_entry PyProof.Rows.slot_tuple_getitem ht.typeIs entry_tuple_getitem ?_ (args_tuple_getitem _ _)))
  show wpAny _ _ (Builtin.Tuple.tupleItemsOf (.ref t) >>= _) _ _ s
  refine wpAny_bind (tupleItemsOf_ ht ?_)
  refine wpAny_bind (wpAny_typeOf hTs ?_)
  rw [if_pos (by decide)]
  refine wpAny_bind (sliceApplied_one hs pl pu ps ?_)
  have hyes : (((0 : Int) == 0 && (1 : Int) == 1 && items.size == items.size) = true) := by simp
  show wpAny _ _ (if ((0 : Int) == 0 && (1 : Int) == 1 && items.size == items.size) = true then _ else _) _ _ s
  rw [if_pos hyes]
  refine wpAny_bind ?_
  unfold Builtin.Tuple.tupleIsExact
  refine wpAny_bind (wpAny_typeOf ht.typeIs (wpAny_pure ?_))
  rw [if_pos (by decide)]
  exact wpAny_bind (wpAny_rule (wpAny_pure ⟨_, rfl, wpAny_pure h⟩))
end
def tOneT (K : PySem.W.Frag) (te : TE) : TE := fun σ H Q => te σ H fun x H1 => ∃ a xs, x = .ref a ∧ SqT K H1 a xs ∧ Q (.ref a) H1
section
variable {X : Cx}
theorem pe_oneT {e : Expr} {te : TE} {k : Nat} {p1 p3 pos : Pos} (he : PE X e te) : PE X (.Subscript e (.Slice none none (some (.Constant (.int 1) k p1)) p3) pos) (tOneT X.K te) := by
  refine ⟨fun pins s σ H Q I h => ?_⟩
  refine Subscript_ (thn (he.run pins s σ H _ I h) fun v s1 ⟨x, H1, I1, r1, q1⟩ => ?_)
  have hst : PO X (some (.Constant (.int 1) k p1)) (tPart (tC (.int 1))) := po_some pe_int
  refine wpAny_Slice (thn (po_none.run pins s1 σ H1 (fun o H2 => o = none ∧ H2 = H1) I1 ⟨rfl, rfl⟩) fun vl s2 ⟨l, H2, I2, pl, el, e2⟩ => ?_)
  subst el e2
  refine thn (po_none.run pins s2 σ H2 (fun o H3 => o = none ∧ H3 = H2) I2 ⟨rfl, rfl⟩) fun vu s3 ⟨u, H3, I3, pu, eu, e3⟩ => ?_
  subst eu e3
  refine thn (hst.run pins s3 σ H3 (fun o H4 => o = some 1 ∧ H4 = H3) I3 ⟨1, rfl, rfl, rfl⟩) fun vs s4 ⟨o, H4, I4, ps, eo, e4⟩ => ?_
  subst eo e4
  have I5 : Inv X pins σ H4 { s4 with heap := s4.heap.push { cls := .type "slice", data := .fields #[vl, vu, vs] } } := I4.kept (t' := s4.toks) fun b ob q => Heap.get?_push_of_some _ q
  obtain ⟨a, xs, ex, hx, q⟩ := q1
  subst ex
  cases r1
  obtain ⟨its, r, ht, hz⟩ := I5.tuple hx
  show wpAny (model X.prog X.w) X.A (subscriptTail e (.Slice none none (some (.Constant (.int 1) k p1)) p3) (.ref a) (.ref s4.heap.objs.size)) (EP X pins σ Q) X.xe { s4 with heap := s4.heap.push { cls := .type "slice", data := .fields #[vl, vu, vs] } }
  refine tail_any (ops := [.ref a, .ref s4.heap.objs.size]) ht.typeIs (PyProof.Rows.slot_tuple_getitem.lookup) ?_ (by with_unfolding_all rfl)
  refine getItem_tuple_one ht (Heap.IsSliceOf.new _ vl vu vs) pl pu ps ?_
  exact ⟨.ref a, H4, I5, rfl, q⟩
variable {e a b : Expr} {es : List Expr} {pos : Pos} {st : Stmt}
def oneR : D → R D
  | .tuple xs => ok (.tuple xs)
  | _ => fail
theorem onePT {f : List Sl → R D} {k : Nat} {p1 p3 : Pos} (ha : PE X a (tB X.K f)) : PE X (.Subscript a (.Slice none none (some (.Constant (.int 1) k p1)) p3) pos) (tP X.K (m1 f oneR)) :=
  PE.wk (pe_oneT ha) fun σ H Q ⟨c, G, ρ, post, w, r, hf, q⟩ => ⟨c, G, ρ, _, w, r, hf, fun d hd v G1 H1 e1 w1 b1 => by
    cases d <;> try exact hd.elim
    obtain ⟨p, vs, rfl, h1, h2⟩ := b1.tup
    exact ⟨p, vs, rfl, sqT_mono w1.sub h1, q _ hd _ G1 H1 e1 w1 (.tup h1 h2)⟩⟩
end
end Pu
namespace Pu
open PySem PySem.Spec PyProof.Rows L2 HT
open PySem.AutoSeq1 in
theorem list_extend_tupG (l : Addr) (items : Array Value) (n : Nat) (b : Addr) (items2 : Array Value) (n2 : Nat) (dd : Option Addr) (sl : Array (Option Value)) (hs0 : ¬(!items.isEmpty && Builtin.List.listTooLong (items.size + items2.size)) = true) (hs1 : items.size ≤ sizeLine) (hs2 : items.size + items2.size ≤ sizeLine + 1) :
    Meets (Builtin.«list.extend» ⟨[.ref l, .ref b], []⟩) (fun _ R s => s.heap.get? l = some { cls := .type "list", dict := none, data := .seq items n, slots := #[] } ∧ s.heap.get? b = some { cls := .type "tuple", dict := dd, data := .seq items2 n2, slots := sl } ∧ R (.ok (.ret Value.none)) { s with heap := s.heap.update l (Obj.mapSeq fun x => x ++ items2), toks := s.toks }) :=
  .of_wp fun prog w A R s h => by
    obtain ⟨hp, g, d, tk, os⟩ := s; obtain ⟨hl, hb, h⟩ := h; have f1 := idx_int; have f2 := AutoSeq1.sub_tuple_tuple; have f3 := AutoSeq1.sub_list_list; have f4 := AutoSeq1.sub_tuple_list; have f5 := AutoSeq1.sub_list_tuple;
    have hz' : (items ++ items2).size ≤ sizeLine + 1 := by rw [Array.size_append]; exact hs2
    wp_walk using (wpAny_updateSeq hl rfl (hz := hs1) (_hz' := hz')), wpAny_loadPart' hl, wpAny_loadPart' hb; exact ⟨_, rfl, h⟩
def rExtendA (K : PySem.W.Frag) : V → List V → Hp → VK → Prop := fun x vs H Q => ∃ l b xs zs, x = .ref l ∧ vs = [.ref b] ∧ H l = some (.lst xs) ∧ (H b = some (.lst zs) ∨ SqT K H b zs) ∧ xs.length + zs.length ≤ sizeLine ∧ Q .non (upd H l (.lst (xs ++ zs)))
section
variable {X : Cx}
theorem mt_extendA : MtM X "list.extend" (rExtendA X.K) := by
  intro pins s σ H x vs v us Q I rx rv h
  obtain ⟨l, b, xs, zs, rfl, rfl, hH, hB, hz, q⟩ := h
  rcases hB with hB | hB
  · exact mt_extend pins s σ H _ _ v us Q I rx rv ⟨l, b, xs, zs, rfl, rfl, hH, hB, hz, q⟩
  cases rx
  obtain ⟨u, rfl, ru⟩ := rv.one
  cases ru
  obtain ⟨z, its, n, r, hl, e⟩ := I.lstM hH
  obtain ⟨its2, r2, ⟨⟨cls2, dd, data2, sl⟩, e2, hc2, n2, hd2⟩, hl2⟩ := I.tuple hB
  simp only at hc2 hd2
  subst hc2 hd2
  have n1 := r.length
  have n2' := r2.length
  have hsz : its.toArray.size + its2.toArray.size ≤ sizeLine := by rw [List.size_toArray, List.size_toArray]; omega
  have hlong : ¬ (!its.toArray.isEmpty && Builtin.List.listTooLong (its.toArray.size + its2.toArray.size)) = true := by
    rw [notLongL hsz, Bool.and_false]
    exact Bool.false_ne_true
  refine call_meets F.slot_list_extend ⟨_, e, rfl⟩ F.entry_list_extend (F.args_list_extend_2 _ _)
    (list_extend_tupG l its.toArray n b its2.toArray n2 dd sl hlong (by rw [List.size_toArray]; omega) (by omega)) ⟨e, e2, ?_⟩
  refine ⟨.non, _, I.lset (its' := its ++ its2) hH e (by simp) (r.append r2) ?_, rfl, q⟩
  rw [List.length_append]
  omega
end
def extAR : List D → List D → R (List D)
  | ds, [.list es] => bd (req (ds.length + es.length ≤ sizeLine)) fun _ => ok (ds ++ es)
  | ds, [.tuple es] => bd (req (ds.length + es.length ≤ sizeLine)) fun _ => ok (ds ++ es)
  | _, _ => fail
theorem mut_extA {K : PySem.W.Frag} : MutB K (rExtendA K) extAR := by
  intro c G H a ds vs xs args post Q w h k ka hp q
  match args, ka, hp with
  | [.list es], ka, hp =>
    obtain ⟨v, rfl, b⟩ := ka.one
    obtain ⟨p, us, rfl, h1, h2, _⟩ := b.lst w
    exact ⟨a, p, vs, us, rfl, rfl, h, .inl h1, by rw [k.length, h2.length]; exact hp.1, q _ hp.2 _ _ (k.append h2)⟩
  | [.tuple es], ka, hp =>
    obtain ⟨v, rfl, b⟩ := ka.one
    obtain ⟨p, us, rfl, h1, h2⟩ := b.tup
    exact ⟨a, p, vs, us, rfl, rfl, h, .inr (sqT_mono w.sub h1), by rw [k.length, h2.length]; exact hp.1, q _ hp.2 _ _ (k.append h2)⟩
end Pu

namespace Pu
open PySem PySem.Spec PyProof.Rows L2
/-! ### expressions that are never reached; shifts; comparisons of four -/
section
variable {X : Cx} {e a b d d' : Expr} {pos : Pos}
theorem neverE : PE X e (tP X.K fun _ => fail) := ⟨fun pins s σ H Q I ⟨c, G, ρ, post, w, r, hg, q⟩ => hg.elim⟩
def shlR : D → D → R D
  | .int i, .int j => bd (req (0 ≤ j ∧ j ≤ 1000000 ∧ i.natAbs < 2 ^ 64)) fun _ => ok (.int (i * 2 ^ j.toNat))
  | _, _ => fail
theorem bop_shl : Bop X.K (rI CPow fun i j => .int (i * 2 ^ j.toNat)) shlR := by
  intro c G H x y d e post Q w b1 b2 hp q
  cases d <;> cases e <;> try exact hp.elim
  exact ⟨_, _, b1.int, b2.int, hp.1, q _ hp.2 _ G H .refl w (.int _)⟩
theorem oShl {f g : List Sl → R D} (ha : PE X a (tB X.K f)) (hb : PE X b (tB X.K g)) : PE X (.BinOp a .LShift b pos) (tP X.K (m2 f g shlR)) := pOp op_shl bop_shl ha hb
def tChain3 (r r' r'' : R2) (ta tb tc td : TE) : TE := fun σ H Q => ta σ H fun x H1 => tb σ H1 fun y H2 => r x y H2 fun z H3 => ∃ k, z = .bl k ∧
  (if k = true then tc σ H3 fun u H4 => r' y u H4 fun z' H5 => ∃ k', z' = .bl k' ∧ (if k' = true then td σ H5 fun v H6 => r'' u v H6 Q else Q (.bl false) H5) else Q (.bl false) H3)
theorem pe_chain3 {op op' op'' : CmpOp} {r r' r'' : R2} {ta tb tc td : TE} (ho : OpR X (compareOp op) r) (ho' : OpR X (compareOp op') r') (ho'' : OpR X (compareOp op'') r'') (ha : PE X a ta) (hb : PE X b tb) (hc : PE X d tc) (hd : PE X d' td)
    (hm : lastMarks [op, op', op''] [b, d, d'] = false := by with_unfolding_all rfl) : PE X (.Compare a [op, op', op''] [b, d, d'] pos) (tChain3 r r' r'' ta tb tc td) := by
  refine ⟨fun pins s σ H Q I h => ?_⟩
  refine Compare_chain (thn (ha.run pins s σ H _ I h) fun v s1 ⟨x, H1, I1, r1, q1⟩ => chain_link (thn (hb.run pins s1 σ H1 _ I1 q1) fun u s2 ⟨y, H2, I2, r2, q2⟩ =>
    thn (ho pins s2 σ H2 x y v u _ I2 r1 r2 q2) fun d s3 ⟨z, H3, I3, r3, k, e, q3⟩ => ?_)) hm
  subst e
  cases r3
  refine wpAny_truthy_bool ?_
  cases k with
  | false => exact ite_ff ⟨.bl false, H3, I3, rfl, q3⟩
  | true =>
    refine ite_tt (chain_link (thn (hc.run pins s3 σ H3 _ I3 q3) fun w' s4 ⟨z', H4, I4, r4, q4⟩ => thn (ho' pins s4 σ H4 y z' u w' _ I4 r2 r4 q4) fun d5 s5 ⟨z5, H5, I5, r5, k5, e5, q5⟩ => ?_))
    subst e5
    cases r5
    refine wpAny_truthy_bool ?_
    cases k5 with
    | false => exact ite_ff ⟨.bl false, H5, I5, rfl, q5⟩
    | true => exact ite_tt (chain_last (thn (hd.run pins s5 σ H5 _ I5 q5) fun w6 s6 ⟨z6, H6, I6, r6, q6⟩ => ho'' pins s6 σ H6 z' z6 w' w6 Q I6 r4 r6 q6))
theorem pt_chain3 {op op' op'' : CmpOp} {r r' r'' : R2} {ta tb tc td : TE} (ho : OpR X (compareOp op) r) (ho' : OpR X (compareOp op') r') (ho'' : OpR X (compareOp op'') r'') (ha : PE X a ta) (hb : PE X b tb) (hc : PE X d tc) (hd : PE X d' td)
    (hm : lastMarks [op, op', op''] [b, d, d'] = false := by with_unfolding_all rfl) : PT X (.Compare a [op, op', op''] [b, d, d'] pos) (tTest (tChain3 r r' r'' ta tb tc td)) := by
  refine ⟨fun pins s σ H Q I h => ?_⟩
  refine isTrue_chain (thn (ha.run pins s σ H _ I h) fun v s1 ⟨x, H1, I1, r1, q1⟩ => test_link (thn (hb.run pins s1 σ H1 _ I1 q1) fun u s2 ⟨y, H2, I2, r2, q2⟩ =>
    thn (ho pins s2 σ H2 x y v u _ I2 r1 r2 q2) fun d s3 ⟨z, H3, I3, r3, k, e, q3⟩ => ?_)) hm
  subst e
  cases r3
  refine wpAny_truthy_bool ?_
  cases k with
  | false =>
    obtain ⟨k', e', q'⟩ := q3
    cases e'
    exact ite_ff ⟨H3, I3, q'⟩
  | true =>
    refine ite_tt (test_link (thn (hc.run pins s3 σ H3 _ I3 q3) fun w' s4 ⟨z', H4, I4, r4, q4⟩ => thn (ho' pins s4 σ H4 y z' u w' _ I4 r2 r4 q4) fun d5 s5 ⟨z5, H5, I5, r5, k5, e5, q5⟩ => ?_))
    subst e5
    cases r5
    refine wpAny_truthy_bool ?_
    cases k5 with
    | false =>
      obtain ⟨k', e', q'⟩ := q5
      cases e'
      exact ite_ff ⟨H5, I5, q'⟩
    | true =>
      refine ite_tt (test_last (thn (hd.run pins s5 σ H5 _ I5 q5) fun w6 s6 ⟨z6, H6, I6, r6, q6⟩ => thn (ho'' pins s6 σ H6 z' z6 w' w6 _ I6 r4 r6 q6) fun d7 s7 ⟨z7, H7, I7, r7, k7, e7, q7⟩ => ?_))
      subst e7
      cases r7
      exact wpAny_truthy_bool ⟨H7, I7, q7⟩
def chain3 (h h' h'' : D → D → R D) (f g k l : List Sl → R D) : List Sl → R D := fun ρ => bd (f ρ) fun x => bd (g ρ) fun y => bd (h x y) fun z => bd (asB z) fun t =>
  if t = true then bd (k ρ) fun u => bd (h' y u) fun z => bd (asB z) fun t => if t = true then bd (l ρ) fun v => h'' u v else ok (.bool false) else ok (.bool false)
theorem chain3_of {K : PySem.W.Frag} {r r' r'' : R2} {h h' h'' : D → D → R D} (hr : Bop K r h) (hr' : Bop K r' h') (hr'' : Bop K r'' h'') {f g k l : List Sl → R D} {σ : L2.St} {H : Hp} {Q : VK} (q : tP K (chain3 h h' h'' f g k l) σ H Q) : tChain3 r r' r'' (tB K f) (tB K g) (tB K k) (tB K l) σ H Q := by
  obtain ⟨c, G, ρ, post, w, rs, hf, q⟩ := q
  refine ⟨c, G, ρ, _, w, rs, hf, fun x hx v G1 H1 e1 w1 b1 => ?_⟩
  refine ⟨c, G1, ρ, _, w.step w1 e1, rs.ext e1, hx, fun y hy u G2 H2 e2 w2 b2 => ?_⟩
  refine hr c G2 H2 v u x y _ _ w2 (b1.ext e2) b2 hy fun z hz v' G3 H3 e3 w3 d3 => ?_
  obtain ⟨t, rfl, ht⟩ := asB_inv hz
  cases d3
  refine ⟨t, rfl, ?_⟩
  cases t with
  | false => exact q _ ht _ G3 H3 ((e1.trans e2).trans e3) w3 (.bl _)
  | true =>
    rw [if_pos rfl]
    have w3' : Wd c G3 H3 := ((w.step w1 e1).step w2 e2).step w3 e3
    rw [if_pos rfl] at ht
    refine ⟨c, G3, ρ, _, w3', ((rs.ext e1).ext e2).ext e3, ht, fun z hz v' G4 H4 e4 w4 b4 => ?_⟩
    refine hr' c G4 H4 u v' y z _ _ w4 ((b2.ext e3).ext e4) b4 hz fun z5 hz5 v5 G5 H5 e5 w5 d5 => ?_
    obtain ⟨t5, rfl, ht5⟩ := asB_inv hz5
    cases d5
    refine ⟨t5, rfl, ?_⟩
    cases t5 with
    | false => exact q _ ht5 _ G5 H5 ((((e1.trans e2).trans e3).trans e4).trans e5) w5 (.bl _)
    | true =>
      rw [if_pos rfl]
      rw [if_pos rfl] at ht5
      refine ⟨c, G5, ρ, _, (w3'.step w4 e4).step w5 e5, ((((rs.ext e1).ext e2).ext e3).ext e4).ext e5, ht5, fun z6 hz6 v6 G6 H6 e6 w6 b6 => ?_⟩
      exact hr'' c G6 H6 v' v6 z z6 post Q w6 ((b4.ext e5).ext e6) b6 hz6 fun z7 hz7 v7 G' H' e7 w7 d7 => q z7 hz7 v7 G' H' ((((((e1.trans e2).trans e3).trans e4).trans e5).trans e6).trans e7) w7 d7
theorem cmp3 {op op' op'' : CmpOp} {h h' h'' : D → D → R D} (k : CmpQ X op h) (k' : CmpQ X op' h') (k'' : CmpQ X op'' h'') {f g l m : List Sl → R D} (ha : PE X a (tB X.K f)) (hb : PE X b (tB X.K g)) (hc : PE X d (tB X.K l)) (hd : PE X d' (tB X.K m)) (hm : lastMarks [op, op', op''] [b, d, d'] = false := by with_unfolding_all rfl) :
    PE X (.Compare a [op, op', op''] [b, d, d'] pos) (tP X.K (chain3 h h' h'' f g l m)) := let ⟨_, o, z⟩ := k.ex; let ⟨_, o', z'⟩ := k'.ex; let ⟨_, o'', z''⟩ := k''.ex; PE.wk (pe_chain3 o o' o'' ha hb hc hd hm) fun _ _ _ q => chain3_of z z' z'' q
theorem cmp3T {op op' op'' : CmpOp} {h h' h'' : D → D → R D} (k : CmpQ X op h) (k' : CmpQ X op' h') (k'' : CmpQ X op'' h'') {f g l m : List Sl → R D} (ha : PE X a (tB X.K f)) (hb : PE X b (tB X.K g)) (hc : PE X d (tB X.K l)) (hd : PE X d' (tB X.K m)) (hm : lastMarks [op, op', op''] [b, d, d'] = false := by with_unfolding_all rfl) :
    PT X (.Compare a [op, op', op''] [b, d, d'] pos) (tT X.K (m1 (chain3 h h' h'' f g l m) asB)) := let ⟨_, o, z⟩ := k.ex; let ⟨_, o', z'⟩ := k'.ex; let ⟨_, o'', z''⟩ := k''.ex; PT.wk (pt_chain3 o o' o'' ha hb hc hd hm) fun _ _ _ q => tTest_of (fun _ _ _ y => chain3_of z z' z'' y) q
end
end Pu

namespace Pu
open PySem PySem.Spec PyProof.Rows L2
/-! ### set(xs) of a list of ints, sorted -/
/-- a set just made -/
abbrev newS (w : World) : Obj := { cls := .type "set", dict := none, data := .set #[] 0 (.fresh 0 0 (!w.params.followText "set-order")) }
section
variable {P : Program} {w : World} {A : Around} {E : Value → Shared → Prop} {s : Shared}
/-- what the call leaves: the set of the ints at the next free place -/
def Made (w : World) (s : Shared) (ns : List Int) (h : Heap) : Prop := (∃ c, SetR w h s.heap.objs.size (fun j => decide (j ∈ ns)) c) ∧ ∀ b o, s.heap.get? b = some o → h.get? b = some o
theorem fill_set {l : Addr} {its : Array Value} {ns : List Int} (hh : A.handled = none) (hl : s.heap.IsList l its) (hit : IntsAre its.toList ns) (hb : ns.length + 1 < scanBound) {Q : Value → Shared → Prop}
    (q : ∀ h tk, Made w s ns h → Q .none { s with heap := h, toks := tk }) :
    wpAny (model P w) A (Builtin.«set.__init__» ⟨[.ref s.heap.objs.size, .ref l], []⟩) (fun fin s' => ∃ v, fin = .done (.ret v) ∧ Q v s') E { s with heap := s.heap.push (newS w) } := by
  obtain ⟨⟨cl, dd, dt, sl⟩, hol, hcl, nl, hdl⟩ := hl
  simp only at hcl hdl
  subst hcl
  subst hdl
  have sz : its.size = ns.length := by
    rw [← Array.length_toList]; exact IntsAre.length hit
  have hol' := Heap.get?_push_of_some (newS w) hol
  have f1 := F.sub_list_set
  have f2 := F.sub_list_frozenset
  have f3 : (Value.type "list" == Value.type "dict") = false := by decide
  have L1 : (s.heap.push (newS w)).IsList l its := ⟨_, hol', rfl, nl, rfl⟩
  unfold Builtin.«set.__init__» noKeywords Builtin.Frozenset.updateFrom
  generalize gi : pyIter = PI
  wp_walk
  subst gi
  refine wpAny_pyIter_list L1 ?_
  refine wpAny_bind (wpAny_runValue ?_)
  have lt := Heap.lt_size hol
  have z1 : (s.heap.push (newS w)).objs.size = s.heap.objs.size + 1 := Heap.size_push ..
  have hh' : A.in1.handled = none := by simp [hh]
  have ne1 : l ≠ (s.heap.push (newS w)).objs.size := by rw [z1]; exact Nat.ne_of_lt (Nat.lt_succ_of_lt lt)
  have nf : s.heap.objs.size ∉ [(s.heap.push (newS w)).objs.size, l] := fun h => by
    rcases List.mem_cons.mp h with h | h
    · rw [z1] at h; exact Nat.ne_of_lt (Nat.lt_succ_self _) h
    · exact Nat.ne_of_gt lt (List.mem_singleton.mp h)
  have val : ∀ (i : Nat) (v : Value), its[i]? = some v → ∃ k t, ns[i]? = some k ∧ v = .int k t := fun i v hv => by
    have lti : i < ns.length := by rw [← sz]; exact (Array.getElem?_eq_some_iff.mp hv).1
    obtain ⟨t, e⟩ := PyProof.Rows.IntsAre.int_at hit i v (by rw [Array.getElem?_toList]; exact hv)
    exact ⟨ns[i], t, List.getElem?_eq_getElem lti, by rw [e, List.getD_eq_getElem?_getD, List.getElem?_eq_getElem lti] <;> rfl⟩
  have at2 : ((s.heap.push (newS w)).push { cls := .type "list_iterator", data := .fields #[.ref l, .int 0 0] }).get? s.heap.objs.size = some (newS w) := Heap.get?_push_of_some _ (Heap.get?_push_size _ rfl)
  refine set_update_ints ((Walks.list hh' _ l ne1 its).toS) s.heap.objs.size nf ns sz hb val (its.size - 0) 0 _ (by omega) (Nat.zero_le _) ⟨⟨_, Heap.get?_push_size _ rfl, rfl, rfl⟩, L1.push _⟩ ⟨0, Nat.le_refl 0, setR_new_at at2⟩ fun s' c m _ S => ?_
  obtain ⟨h', g', d', t', o'⟩ := s'
  obtain rfl : g' = s.gens := m.gens
  obtain rfl : d' = s.drawn := m.drawn
  obtain rfl : o' = s.os := m.os
  refine wpAny_pure ?_
  refine wpAny_pure ⟨_, rfl, q h' t' ⟨⟨c, S⟩, fun b o e => ?_⟩⟩
  have := Heap.lt_size e
  refine m.heap b o (fun h => ?_) (Heap.get?_push_of_some _ (Heap.get?_push_of_some _ e))
  rcases List.mem_cons.mp h with h | h
  · exact Nat.ne_of_lt this h
  · have h := List.mem_singleton.mp h
    change b = (s.heap.push (newS w)).objs.size at h
    rw [z1] at h
    exact Nat.ne_of_lt (Nat.lt_succ_of_lt this) h
theorem call_setL {l : Addr} {its : Array Value} {ns : List Int} (hh : A.handled = none) (hl : s.heap.IsList l its) (hit : IntsAre its.toList ns) (hb : ns.length + 1 < scanBound) {Q : Value → Shared → Prop}
    (q : ∀ h tk, Made w s ns h → Q (.ref s.heap.objs.size) { s with heap := h, toks := tk }) : wpAny (model P w) A (PySem.call (.type "set") [.ref l]) Q E s := by
  obtain ⟨cc, tl, mro⟩ := F.called_set.mro
  have h1 := F.called_set.made
  have h2 := F.called_set.sub
  have h3 := F.called_set.notType
  have h4 := F.called_set.canCreate
  have h5 := F.typeCall_set_1 (.ref l)
  refine wpAny_call (codeAny_of_tree ?_)
  show wpAny _ _ (callAny (.type "set") _) _ _ _
  refine wpAny_pure ⟨Code.quiet_builtin _ (by decide +kernel), codeAny_builtin F.entry_type_call ?_⟩
  rw [Around.under_plain (weight_type_call_type "set" [.ref l] []) rfl]
  repeat (any_goals (first | assumption | wp_step))
  refine codeAny_mono (code_set_led1 (.ref l) (E := E) (Q₁ := fun v t => v = .ref s.heap.objs.size ∧ t = { s with heap := s.heap.push (newS w) }) ⟨rfl, rfl⟩) fun r t ht => ?_
  rcases r with e | r
  · exact ht
  rcases r with v | _ | _ | _ <;> try exact ht.elim
  obtain ⟨rfl, rfl⟩ := ht
  have T : Shared.TypeIs { s with heap := s.heap.push (newS w) } (.ref s.heap.objs.size) "set" := ⟨_, Heap.get?_push_size _ rfl, rfl⟩
  have b1 := F.called_set.init.lookup
  have b2 := F.called_set.init.bind (.ref s.heap.objs.size)
  repeat (any_goals (first | assumption | wp_step))
  refine codeAny_mono (codeAny_call_builtin (R := wants (fun v t => v = .none ∧ ∃ h tk, t = { s with heap := h, toks := tk } ∧ Made w s ns h) E) F.called_set.init.plain F.entry_set_init (check_set_init_1 T ?_)) fun r t ht => ?_
  · exact wpAny_mono (fill_set (A := A.in1.in1) (E := E) (Q := fun v t => v = .none ∧ ∃ h tk, t = { s with heap := h, toks := tk } ∧ Made w s ns h) (by simp [hh]) hl hit hb fun h tk m => ⟨rfl, h, tk, rfl, m⟩) (fun fin t ⟨v, e, q⟩ => by subst e; exact q) fun e t h => h
  rcases r with e | r
  · exact ht
  rcases r with v | _ | _ | _ <;> try exact ht.elim
  obtain ⟨rfl, h, tk, rfl, m⟩ := ht
  repeat (any_goals (first | assumption | wp_step))
  exact q h tk m
end
section
variable {X : Cx} {a e : Expr} {pos p p2 q2 : Pos}
theorem card_le : ∀ (ks L : List Int), ks.Nodup → (∀ k ∈ ks, k ∈ L) → ks.length ≤ L.length
  | [], _, _, _ => Nat.zero_le _
  | k :: ks, L, nd, h => by
    obtain ⟨n1, n2⟩ := List.nodup_cons.mp nd
    have hk := h k List.mem_cons_self
    have := card_le ks (L.erase k) n2 fun x hx => (List.mem_erase_of_ne (by rintro rfl; exact n1 hx)).mpr (h x (List.mem_cons_of_mem _ hx))
    rw [List.length_erase_of_mem hk] at this
    have : 0 < L.length := List.length_pos_of_mem hk
    rw [List.length_cons]; omega
def rSetLI (K : PySem.W.Frag) (w : World) : List V → Hp → VK → Prop := fun xs H Q => ∃ (l : Addr) (ns L : List Int), xs = [.ref l] ∧ SqL K H l (ns.map V.int) ∧ ns.length + 1 < scanBound ∧ L.length < 64 ∧ (∀ k ∈ ns, k ∈ L) ∧
  ∀ p n, H p = none → n < 64 → Q (.ref p) (upd H p (SetO w p (fun j => decide (j ∈ ns)) n))
theorem cr_setLI (hc : X.calm = true) : CallR X (.type "set") (rSetLI X.K X.w) := by
  intro pins s σ H xs us Q I r h
  obtain ⟨l, ns, L, rfl, hl, hb, hL, hs, q⟩ := h
  rw [Vals.ref1 r]
  obtain ⟨its, rv, pl, hz⟩ := I.list hl
  have hn : H s.heap.objs.size = none := I.hok.fresh (Nat.le_refl _)
  refine call_setL (P := X.prog) (w := X.w) (I.ok.hd hc) pl.isList (by simpa using ints_of_vals rv) hb fun h' tk m => ?_
  obtain ⟨⟨c, R⟩, k⟩ := m
  have hc : c < 64 := by
    obtain ⟨o, es, ep, t, _, _, _, _, nd, hm, _, _, hn, _⟩ := R
    have := card_le (es.toList.map keyOf) L nd fun j hj => hs j (by simpa using (hm j).mpr hj)
    rw [List.length_map, Array.length_toList, hn] at this
    omega
  exact ⟨.ref s.heap.objs.size, upd H s.heap.objs.size (SetO X.w s.heap.objs.size (fun j => decide (j ∈ ns)) c), I.laid (t' := tk) k (Nat.le_refl _) (setO_new R), rfl, q _ c hn hc⟩
end
end Pu

namespace Pu
open PySem PySem.Spec PyProof.Rows L2
/-- ints of a list of data -/
def intsD : List D → Option (List Int)
  | [] => some []
  | .int i :: ds => (intsD ds).map (i :: ·)
  | _ :: _ => none
theorem intsD_map : ∀ ns : List Int, intsD (ns.map .int) = some ns
  | [] => rfl
  | n :: ns => by rw [List.map_cons, intsD, intsD_map ns]; rfl
theorem intsD_inv : ∀ {ds : List D} {ns : List Int}, intsD ds = some ns → ds = ns.map .int
  | [], _, h => by cases h; rfl
  | .int i :: ds, _, h => by
    rw [intsD] at h
    cases e : intsD ds with
    | none => rw [e] at h; cases h
    | some ms => rw [e] at h; cases h; rw [intsD_inv e]; rfl
  | .none :: _, _, h => nomatch h
  | .bool _ :: _, _, h => nomatch h
  | .str _ :: _, _, h => nomatch h
  | .list _ :: _, _, h => nomatch h
  | .tuple _ :: _, _, h => nomatch h
  | .dict _ :: _, _, h => nomatch h
/-- what must hold of ints that are put into a set and sorted: few different ones -/
def setOk (ns : List Int) : Prop := ns.length + 1 < 4096 ∧ ∃ L : List Int, L.length < 64 ∧ ∀ k ∈ ns, k ∈ L
/-- sorted(set(xs)): the different ones, ascending -/
def srtIR : Option (List Int) → R (List D)
  | some ns => fun post => setOk ns ∧ ∀ out : List Int, out.Pairwise (· < ·) → (∀ k, k ∈ out ↔ k ∈ ns) → post (out.map .int)
  | none => fail
def srtSetR : D → R (List D)
  | .list ds => srtIR (intsD ds)
  | _ => fail
section
variable {X : Cx} {a : Expr} {pos p p2 q2 : Pos} {x y : Str}
theorem srtSet (hc : X.calm = true) (hm : X.mg "sorted" = none) (hm2 : X.mg "set" = none) {f : List Sl → R D} (ha : PE X a (tB X.K f)) (hg : Gl X "sorted" := by rfl) (hg2 : Gl X "set" := by rfl)
    (hs : starEach [a] X.env = [(false, eval a X.env)] := by rfl) (hpl : (backTo q2 (starEach [] X.env)).any (·.1) = false := by rfl)
    (hs2 : starEach [.Call (.Name "set" p2) [a] [] q2] X.env = [(false, eval (.Call (.Name "set" p2) [a] [] q2) X.env)] := by rfl) (hpl2 : (backTo pos (starEach [] X.env)).any (·.1) = false := by rfl) :
    PE X (.Call (.Name "sorted" p) [.Call (.Name "set" p2) [a] [] q2] [] pos) (tF X.K (m1 f srtSetR)) :=
  PE.wk (pe_callB (cr_sortedSet hc) hg hm (by decide +kernel) (pa_cons (pe_callTy (cr_setLI hc) hg2 hm2 (by decide +kernel) (pa_cons ha pa_nil hs) (by decide) (by decide) hs hpl) pa_nil hs2) (by decide) (by decide) hs2 hpl2) fun σ H Q ⟨c, G, ρ, post, w, r, hf, q⟩ => by
    refine ⟨c, G, ρ, _, w, r, hf, fun d hd v G1 H1 e1 w1 b1 => ?_⟩
    cases d <;> try exact hd.elim
    rename_i ds
    change srtIR (intsD ds) _ at hd
    cases e : intsD ds with
    | none => rw [e] at hd; exact hd.elim
    | some ns =>
      rw [e] at hd
      obtain ⟨⟨hn, L, hL, hin⟩, hd⟩ := hd
      obtain rfl := intsD_inv e
      obtain ⟨l, us, rfl, h1, h2, _⟩ := b1.lst w1
      have hu := h2.ints
      subst hu
      refine ⟨l, ns, L, rfl, .inl (.inl h1), hn, hL, hin, fun p1 n np hn64 => ?_⟩
      refine ⟨p1, _, n, rfl, upd_same, hn64, fun out p3 o1 o2 _ np3 => ?_⟩
      obtain ⟨w2, e2⟩ := w1.new np (SetO X.w p1 (fun j => decide (j ∈ ns)) n)
      exact fin_new (ds := out.map .int) ((w.step w1 e1).step w2 e2) (e1.trans e2) np3 (DqAll.ofInts out) (hd out o1 fun k => (o2 k).trans (by simp)) q
end
end Pu

namespace Pu
open PySem PySem.Spec PyProof.Rows L2
/-! ### sorted(dict(pairs)), the keys whole numbers -/
def keysD : List D → Option (List Int)
  | [] => some []
  | .tuple [.int i, _] :: ds => (keysD ds).map (i :: ·)
  | _ :: _ => none
theorem keysD_cons {d : D} {ds : List D} {ns : List Int} (h : keysD (d :: ds) = some ns) : ∃ i e ms, d = .tuple [.int i, e] ∧ keysD ds = some ms ∧ ns = i :: ms := by
  match d, h with
  | .tuple [.int i, e], h =>
    have h : (keysD ds).map (i :: ·) = some ns := h
    cases k : keysD ds with
    | none => rw [k] at h; cases h
    | some ms => rw [k] at h; cases h; exact ⟨i, e, ms, rfl, rfl, rfl⟩
theorem putK_keys {acc : List (Key × V)} {ks : List Int} (h : acc.map (·.1) = ks.map Sum.inl) (hn : ks.Nodup) (i : Int) (v : V) : ∃ ks' : List Int, (putK acc (.inl i) v).map (·.1) = ks'.map Sum.inl ∧ ks'.Nodup ∧ ∀ k, k ∈ ks' ↔ k ∈ ks ∨ k = i := by
  have hany : (acc.any fun kv => decide (kv.1 = Sum.inl i)) = decide (i ∈ ks) := by
    have : (acc.any fun kv => decide (kv.1 = Sum.inl i)) = ((acc.map (·.1)).any fun k => decide (k = Sum.inl i)) := by rw [List.any_map]; rfl
    rw [this, h, List.any_map, Bool.eq_iff_iff, List.any_eq_true, decide_eq_true_eq]
    constructor
    · rintro ⟨x, hx, e⟩
      have : x = i := by simpa using e
      rw [← this]; exact hx
    · intro hi
      exact ⟨i, hi, by simp⟩
  unfold putK
  rw [hany]
  by_cases hi : i ∈ ks
  · rw [if_pos (by simpa using hi)]
    refine ⟨ks, ?_, hn, fun k => ⟨.inl, fun h => h.elim id fun e => e ▸ hi⟩⟩
    rw [← h, List.map_map]
    refine List.map_congr_left fun x _ => ?_
    show (if x.1 = Sum.inl i then (x.1, v) else x).1 = x.1
    split <;> rfl
  · rw [if_neg (by simpa using hi)]
    refine ⟨ks ++ [i], by rw [List.map_append, List.map_append, h]; rfl, ?_, fun k => by simp⟩
    rw [List.nodup_append]
    exact ⟨hn, by simp, fun a ha b hb e => by
      simp at hb
      subst hb
      subst e
      exact hi ha⟩
theorem mergeK_keys : ∀ (more : List (Key × V)) (ns : List Int), more.map (·.1) = ns.map Sum.inl → ∀ (acc : List (Key × V)) (ks : List Int), acc.map (·.1) = ks.map Sum.inl → ks.Nodup → ∃ ks' : List Int, (mergeK acc more).map (·.1) = ks'.map Sum.inl ∧ ks'.Nodup ∧ ∀ k, k ∈ ks' ↔ k ∈ ks ∨ k ∈ ns
  | [], [], _, acc, ks, h, hn => ⟨ks, h, hn, fun k => by simp⟩
  | [], _ :: _, e, _, _, _, _ => by simp at e
  | _ :: _, [], e, _, _, _, _ => by simp at e
  | (a, v) :: more, n :: ns, e, acc, ks, h, hn => by
    rw [List.map_cons, List.map_cons] at e
    obtain ⟨e0, er⟩ := List.cons.inj e
    have e0 : a = Sum.inl n := e0
    subst e0
    obtain ⟨ks1, h1, h2, h3⟩ := putK_keys h hn n v
    obtain ⟨ks2, g1, g2, g3⟩ := mergeK_keys more ns er _ ks1 h1 h2
    refine ⟨ks2, g1, g2, fun k => ?_⟩
    rw [g3, h3, List.mem_cons]
    constructor
    · rintro ((h | h) | h)
      · exact .inl h
      · exact .inr (.inl h)
      · exact .inr (.inr h)
    · rintro (h | h | h)
      · exact .inl (.inl h)
      · exact .inl (.inr h)
      · exact .inr h
def srtDI : Option (List Int) → R (List D)
  | some ns => fun post => setOk ns ∧ ∀ out : List Int, out.Pairwise (· < ·) → (∀ k, k ∈ out ↔ k ∈ ns) → post (out.map .int)
  | none => fail
/-- sorted(dict(pairs)): the different keys, ascending -/
def srtDicR : D → R (List D)
  | .list ds => srtDI (keysD ds)
  | _ => fail
theorem pairs_of_keys {K : PySem.W.Frag} {H : Hp} : ∀ {ds : List D} {ns : List Int} {us : List V}, keysD ds = some ns → DqAll K H us ds → ∃ (ps : List Addr) (kvs : List (Key × V)), us = ps.map V.ref ∧ Paired (fun p kv => SqT K H p [kV kv.1, kv.2]) ps kvs ∧ kvs.map (·.1) = ns.map Sum.inl
  | [], ns, us, h, q => by
    cases h; cases q
    exact ⟨[], [], rfl, .nil, rfl⟩
  | d :: ds, ns, us, h, q => by
    obtain ⟨i, e, ms, rfl, h1, rfl⟩ := keysD_cons h
    cases q with
    | cons q1 q2 =>
      obtain ⟨ps, kvs, rfl, hp, hk⟩ := pairs_of_keys h1 q2
      cases q1 with
      | tup e1 k =>
        cases k with
        | cons ka kb =>
          cases kb with
          | cons kc kd =>
            cases kd
            cases ka
            exact ⟨_ :: ps, (.inl i, _) :: kvs, rfl, .cons e1 hp, by rw [List.map_cons, hk]; rfl⟩
section
variable {X : Cx} {a : Expr} {pos p p2 q2 : Pos}
theorem srtDic (hc : X.calm = true) (hm : X.mg "sorted" = none) (hm2 : X.mg "dict" = none) {f : List Sl → R D} (ha : PE X a (tB X.K f)) (hg : Gl X "sorted" := by rfl) (hg2 : Gl X "dict" := by rfl)
    (hs : starEach [a] X.env = [(false, eval a X.env)] := by rfl) (hpl : (backTo q2 (starEach [] X.env)).any (·.1) = false := by rfl)
    (hs2 : starEach [.Call (.Name "dict" p2) [a] [] q2] X.env = [(false, eval (.Call (.Name "dict" p2) [a] [] q2) X.env)] := by rfl) (hpl2 : (backTo pos (starEach [] X.env)).any (·.1) = false := by rfl) :
    PE X (.Call (.Name "sorted" p) [.Call (.Name "dict" p2) [a] [] q2] [] pos) (tF X.K (m1 f srtDicR)) :=
  PE.wk (pe_callB (call_sortedDI hc) hg hm (by decide +kernel) (pa_cons (pe_callTy (call_dictP hc) hg2 hm2 (by decide +kernel) (pa_cons ha pa_nil hs) (by decide) (by decide) hs hpl) pa_nil hs2) (by decide) (by decide) hs2 hpl2) fun σ H Q ⟨c, G, ρ, post, w, r, hf, q⟩ => by
    refine ⟨c, G, ρ, _, w, r, hf, fun d hd v G1 H1 e1 w1 b1 => ?_⟩
    cases d <;> try exact hd.elim
    rename_i ds
    change srtDI (keysD ds) _ at hd
    cases e : keysD ds with
    | none => rw [e] at hd; exact hd.elim
    | some ns =>
      rw [e] at hd
      obtain ⟨⟨hn, L, hL, hin⟩, hd⟩ := hd
      obtain ⟨l, us, rfl, h1, h2, _⟩ := b1.lst w1
      obtain ⟨ps, kvs, rfl, hp, hk⟩ := pairs_of_keys e (h2.mono w1.sub)
      refine ⟨l, ps, kvs, rfl, .inl (.inl h1), hp, fun p1 np => ?_⟩
      obtain ⟨ks, g1, g2, g3⟩ := mergeK_keys kvs ns hk [] [] rfl .nil
      refine ⟨p1, mergeK [] kvs, ks, rfl, .inl upd_same, g1, Nat.lt_of_le_of_lt (card_le ks L g2 fun k h => hin k (by simpa using (g3 k).mp h)) hL, fun ys p3 o1 o2 np3 => ?_⟩
      obtain ⟨w2, e2⟩ := w1.new np (.dK (mergeK [] kvs))
      refine fin_new (ds := ys.map .int) ((w.step w1 e1).step w2 e2) (e1.trans e2) np3 (DqAll.ofInts ys) (hd ys ?_ fun k => (o1.mem_iff).trans ((g3 k).trans (by simp))) q
      have nd : ys.Nodup := o1.nodup_iff.mpr g2
      clear o1
      induction ys with
      | nil => exact .nil
      | cons y ys ih =>
        obtain ⟨a1, a2⟩ := List.pairwise_cons.mp o2
        obtain ⟨b1, b2⟩ := List.nodup_cons.mp nd
        exact List.pairwise_cons.mpr ⟨fun z hz => by
          have := a1 z hz
          have : y ≠ z := fun e => b1 (e ▸ hz)
          omega, ih a2 b2⟩
end
end Pu

namespace Pu
open PySem PySem.Spec PyProof.Rows L2
/-! ### ranges with a step -/
def rgcD (lo c : Int) (n : Nat) : List D := (List.range n).map fun (i : Nat) => .int (lo + (i : Int) * c)
theorem rgcD_length (lo c : Int) (n : Nat) : (rgcD lo c n).length = n := by simp [rgcD]
def range3R : List D → R (List D)
  | [.int i, .int j, .int c] => fun post => ∃ n, RgC i j c n ∧ n ≤ sizeLine ∧ post (rgcD i c n)
  | _ => fail
theorem wks_rngC {K : PySem.W.Frag} {c : Ct} {lo k : Int} {n : Nat} {Rel : Hp → Hp → Prop} : Wks K c (Itc lo k n) Rel (rgcD lo k n) := by
  intro i G H r w
  refine ⟨fun d hd => ?_, fun hl => by rw [rgcD_length] at hl; exact hl⟩
  have hlt : i < n := by rw [← rgcD_length lo k n]; exact (List.getElem?_eq_some_iff.mp hd).1
  have ed : d = .int (lo + (i : Int) * k) := by
    unfold rgcD at hd
    rw [List.getElem?_map, List.getElem?_range hlt] at hd
    exact (Option.some.inj hd).symm
  subst ed
  refine ⟨hlt, fun x H1 ⟨h1, h2⟩ => ?_⟩
  subst h1 h2
  exact ⟨G, .refl, w, .int _⟩
section
variable {X : Cx} {tg : Expr} {a b c : Expr} {pos : Pos}
theorem iR3 {p : Pos} {f : List Sl → R (List D)} (hm : X.mg "range" = none) (ha : PA X [a, b, c] (tAB X.K f)) (hg : Gl X "range" := by rfl) (hs : starEach [a, b, c] X.env = (false, eval a X.env) :: starEach [b, c] X.env := by rfl) (hpl : (backTo pos (starEach [b, c] X.env)).any (·.1) = false := by rfl) : PI X tg (.Call (.Name "range" p) [a, b, c] [] pos) (tIs X.K (m1 f range3R)) :=
  PI.wk (pi_range3 hg hm ha hs hpl) fun σ H R' ⟨c, G, ρ, post, w, r, hf, q⟩ => ⟨c, G, ρ, _, w, r, hf, fun ds hds vs G1 H1 e1 w1 b1 => by
    match ds, b1, hds with
    | [.int i, .int j, .int k], b1, hds =>
      obtain ⟨v, u, x, rfl, b, b', b''⟩ := b1.three
      rw [b.int, b'.int, b''.int]
      obtain ⟨n, h, hz, hp⟩ := hds
      exact ⟨i, j, k, n, rfl, h, q _ hp (by rw [rgcD_length]; exact hz) _ G1 H1 e1 w1 wks_rngC⟩⟩
end
theorem range3_e {i j c : Int} {n : Nat} (h : RgC i j c n) (hn : n ≤ 1000000) : range3R [.int i, .int j, .int c] = ok (rgcD i c n) := by
  funext post
  apply propext
  constructor
  · rintro ⟨m, hm, _, hp⟩
    have e : (m : Int) = (n : Int) := hm.2.2.2.symm.trans h.2.2.2
    have e : m = n := by omega
    subst e
    exact hp
  · intro hp
    exact ⟨n, h, Nat.le_trans hn (by decide), hp⟩
theorem rgc_up {i j c : Int} {n : Nat} (hc : 0 < c) (hc' : c < 2 ^ 20) (hi : -(2 ^ 40) < i) (hi' : i < 2 ^ 40) (hj' : j < 2 ^ 40) (hij : i < j) (hn : (j - i - 1) / c + 1 = (n : Int)) : RgC i j c n := by
  have hs : Builtin.Range.rangeSize i j c = n := by
    unfold Builtin.Range.rangeSize
    rw [if_pos hc, if_pos hij, hn]
  refine ⟨by omega, by omega, ?_, hs⟩
  unfold Builtin.Range.small
  rw [hs]
  have h1 := Int.ediv_le_self c (show (0 : Int) ≤ j - i - 1 by omega)
  have h2 : (n : Int) * c ≤ j - i - 1 + c := by
    rw [← hn, Int.add_mul, Int.one_mul]
    have := Int.ediv_mul_le (j - i - 1) (show c ≠ 0 by omega)
    omega
  simp only [Builtin.Range.rangeFitsLong, Bool.and_eq_true, Bool.or_eq_true, decide_eq_true_eq, beq_iff_eq, hc, if_true]
  omega
end Pu

namespace Pu
open PySem PySem.Spec PyProof.Rows L2
/-! ### dicts of a slot of its own, the keys ints and texts -/
def keyR : D → R Key
  | .int i => ok (.inl i)
  | .str s => ok (.inr s)
  | _ => fail
theorem keyR_inv {K : PySem.W.Frag} {G : Hp} {v : V} {d : D} {post : Key → Prop} (q : Dq K G v d) (h : keyR d post) : ∃ k, v = kV k ∧ post k := by
  cases q with
  | int i => exact ⟨.inl i, rfl, h⟩
  | str s => exact ⟨.inr s, rfl, h⟩
  | _ => exact h.elim
def valG (kvs : List (Key × D)) (k : Key) : Option D := (kvs.find? fun kv => decide (kv.1 = k)).map (·.2)
def putG (kvs : List (Key × D)) (k : Key) (d : D) : List (Key × D) := if (kvs.any fun kv => decide (kv.1 = k)) = true then kvs.map fun kv => if kv.1 = k then (kv.1, d) else kv else kvs ++ [(k, d)]
section
variable {K : PySem.W.Frag} {G : Hp}
theorem DqK.any (k : Key) : ∀ {vs : List (Key × V)} {ds : List (Key × D)}, DqK K G vs ds → (vs.any fun kv => decide (kv.1 = k)) = ds.any fun kv => decide (kv.1 = k)
  | _, _, .nil => rfl
  | _, _, .cons e q => by rw [List.any_cons, List.any_cons, DqK.any k q]
theorem DqK.repl (k : Key) {x : V} {y : D} (r : Dq K G x y) : ∀ {vs : List (Key × V)} {ds : List (Key × D)}, DqK K G vs ds → DqK K G (vs.map fun kv => if kv.1 = k then (kv.1, x) else kv) (ds.map fun kv => if kv.1 = k then (kv.1, y) else kv)
  | _, _, .nil => .nil
  | _, _, .cons (k := j) e q => by
    rw [List.map_cons, List.map_cons]
    by_cases h : j = k
    · rw [if_pos h, if_pos h]; exact .cons r (DqK.repl k r q)
    · rw [if_neg h, if_neg h]; exact .cons e (DqK.repl k r q)
theorem DqK.snoc (k : Key) {x : V} {y : D} (r : Dq K G x y) : ∀ {vs : List (Key × V)} {ds : List (Key × D)}, DqK K G vs ds → DqK K G (vs ++ [(k, x)]) (ds ++ [(k, y)])
  | _, _, .nil => .cons r .nil
  | _, _, .cons e q => .cons e (DqK.snoc k r q)
theorem DqK.put (k : Key) {x : V} {y : D} (r : Dq K G x y) {vs : List (Key × V)} {ds : List (Key × D)} (q : DqK K G vs ds) : DqK K G (putK vs k x) (putG ds k y) := by
  unfold putK putG
  rw [q.any k]
  split
  · exact q.repl k r
  · exact q.snoc k r
theorem DqK.val (k : Key) : ∀ {vs : List (Key × V)} {ds : List (Key × D)}, DqK K G vs ds → (valV vs k = none ∧ valG ds k = none) ∨ ∃ v d, valV vs k = some v ∧ valG ds k = some d ∧ Dq K G v d
  | _, _, .nil => .inl ⟨rfl, rfl⟩
  | _, _, .cons (k := j) (v := v) (d := d) (r := r) (s := s) e q => by
    by_cases h : j = k
    · exact .inr ⟨v, d, by simp [valV, h], by simp [valG, h], e⟩
    · rcases DqK.val k q with ⟨h1, h2⟩ | ⟨v', d', h1, h2, h3⟩
      · exact .inl ⟨by rw [valV_neg (by exact h)]; exact h1, by unfold valG at *; rw [List.find?_cons_of_neg (by simpa using h)]; exact h2⟩
      · exact .inr ⟨v', d', by rw [valV_neg (by exact h)]; exact h1, by unfold valG at *; rw [List.find?_cons_of_neg (by simpa using h)]; exact h2, h3⟩
end
/-- the own dict in a slot -/
def getOD (ρ : List Sl) (i : Nat) : R (List (Key × D)) := match ρ[i]? with
  | some (.od ds) => ok ds
  | _ => fail
theorem getOD_inv {ρ : List Sl} {i : Nat} {post : List (Key × D) → Prop} (h : getOD ρ i post) : ∃ ds, ρ[i]? = some (.od ds) ∧ post ds := by
  unfold getOD at h
  cases e : ρ[i]? with
  | none => rw [e] at h; exact h.elim
  | some x =>
    rw [e] at h
    cases x with
    | od ds => exact ⟨ds, rfl, h⟩
    | _ => exact h.elim
/-- the own dict in a slot is changed -/
theorem Wd.mutD {K : PySem.W.Frag} {c : Ct} {G H : Hp} {a : Addr} {ds es : List (Key × D)} (w : Wd c G H) (o : OwnD K c G H a ds) {ws : List (Key × V)} (q : DqK K G ws es) : Wd c G (upd H a (.dK ws)) ∧ OwnD K c G (upd H a (.dK ws)) a es := by
  have h0 : ∀ p u, c.H0 p = some u → p ≠ a := fun p u e z => by subst z; rw [o.h0] at e; cases e
  refine ⟨⟨⟨fun p u e => ?_, w.w.vol, Ef.loc w.w.inv fun p vp => ?_⟩, ⟨w.e.g, fun p u e v => ?_, w.e.n⟩⟩, ⟨⟨ws, upd_same, q⟩, o.g, o.h0, o.v⟩⟩
  · rw [upd_ne (by rintro rfl; rw [o.g] at e; cases e)]; exact w.w.sub p u e
  · rw [upd_ne (by rintro rfl; exact o.v vp)]
  · rw [upd_ne (h0 p u e)]; exact w.e.h p u e v
theorem RS.mutD {K : PySem.W.Frag} {c : Ct} {G H : Hp} {σ : L2.St} {ρ : List Sl} (r : RS K c G H σ ρ) {i : Nat} {a : Addr} {ds es : List (Key × D)} (hi : ρ[i]? = some (.od ds)) (hs : σ[i]? = some (some (.ref a)))
    (o : OwnD K c G H a ds) {ws : List (Key × V)} (q : DqK K G ws es) : RS K c G (upd H a (.dK ws)) σ (ρ.set i (.od es)) := by
  refine ⟨by simp [r.len], fun j x h => ?_, fun j l ds' es' u h1 h2 k1 k2 h3 h4 => ?_⟩
  · rcases set_get h with ⟨rfl, rfl⟩ | ⟨hj, h⟩
    · exact .inr ⟨_, hs, a, rfl, ⟨⟨ws, upd_same, q⟩, o.g, o.h0, o.v⟩⟩
    · rcases r.at_ j x h with e | ⟨u, e, s⟩
      · exact .inl e
      · refine .inr ⟨u, e, ?_⟩
        cases x with
        | un => trivial
        | dat d => exact s
        | box k => exact s
        | own fs =>
          obtain ⟨b, rfl, ob⟩ := s
          have hb : b ≠ a := fun z => own_od ob o z.symm
          obtain ⟨vs, e1, e2⟩ := ob.at_
          exact ⟨b, rfl, ⟨vs, by rw [upd_ne hb]; exact e1, e2⟩, ob.g, ob.h0, ob.v⟩
        | od fs =>
          obtain ⟨b, rfl, ob⟩ := s
          have hb : b ≠ a := fun z => by subst z; exact hj (r.dd j i _ _ _ h hi rfl rfl e hs)
          obtain ⟨vs, e1, e2⟩ := ob.at_
          exact ⟨b, rfl, ⟨vs, by rw [upd_ne hb]; exact e1, e2⟩, ob.g, ob.h0, ob.v⟩
  · have f : ∀ (j : Nat) (x : Sl), (ρ.set i (.od es))[j]? = some x → x.isOwn = true → ∃ y : Sl, ρ[j]? = some y ∧ y.isOwn = true := fun j x h k => by
      rcases set_get h with ⟨rfl, _⟩ | ⟨_, h⟩
      · exact ⟨_, hi, rfl⟩
      · exact ⟨_, h, k⟩
    obtain ⟨_, g1, m1⟩ := f j ds' h1 k1
    obtain ⟨_, g2, m2⟩ := f l es' h2 k2
    exact r.dd j l _ _ u g1 g2 m1 m2 h3 h4
/-- .. gives a new dict, not frozen -/
def tFD (K : PySem.W.Frag) (f : List Sl → R (List (Key × D))) : TE := fun σ H Q => ∃ (c : Ct) (G : Hp) (ρ : List Sl) (post : List (Key × D) → Prop), Wd c G H ∧ RS K c G H σ ρ ∧ f ρ post ∧
  ∀ r, post r → ∀ a G' H', H a = none → Ext c.E G H G' H' → W0 c.E G' H' → OwnD K c G' H' a r → Q (.ref a) H'
def setOD (i : Nat) (f : List Sl → R (List (Key × D))) : List Sl → R Out := fun ρ => bd (f ρ) fun ds => ok (.nx (ρ.set i (.od ds)))
def emptyD : List Sl → R (List (Key × D)) := fun _ => ok []
section
variable {X : Cx} {e : Expr} {pos : Pos}
theorem dNew : PE X (.Dict [] [] pos) (tFD X.K emptyD) := PE.wk pe_dnewK fun σ H Q ⟨c, G, ρ, post, w, r, hf, q⟩ p np => by
  obtain ⟨w1, e1⟩ := w.w.new np (.dK [])
  have fr := w.w.fresh np
  refine q [] hf p G _ np e1 w1 ⟨⟨[], upd_same, .nil⟩, fr.1, ?_, fr.2⟩
  cases h : c.H0 p with
  | none => rfl
  | some u =>
    by_cases v : c.E.vol p
    · exact absurd v fr.2
    · have := w.e.h p u h v
      rw [np] at this; cases this
theorem sSetOD (i : Nat) {x : Str} {pos' : Pos} {f : List Sl → R (List (Key × D))} (hN : X.N.Nodup) (he : PE X e (tFD X.K f)) (hi : X.N[i]? = some x := by rfl) (hx : Loc X.env.scope x := by first | exact Or.inl rfl | exact Or.inr rfl) (hs : swapsWith e (some (.Name x pos')) pos.line X.env = pure false := by rfl)
    (hf : X.fn x = true ∨ X.env.scope.names.lookup x = some .local := by first | exact .inl rfl | exact .inr rfl) : PS X (.Assign [.Name x pos'] e pos) (tS X.K (setOD i f)) :=
  PS.wk (ps_set hN hi hx he hs hf) fun D σ H ⟨c, G, ρ, post, w, r, hg, q⟩ => ⟨c, G, ρ, _, w, r, hg, fun d hd a G' H' n e' w' o => q _ hd _ G' H' e'.g (w.step w' e') ((r.ext e').setOD o fun j es h => r.newN n j _ h rfl)⟩
def rOD (f : List Sl → R (List (Key × D))) : List Sl → R Sl := fun ρ => bd (f ρ) fun ds => ok (.od ds)
/-- x[k] = v -/
def putM (i : Nat) (fk fv : List Sl → R D) : List Sl → R Out := fun ρ => bd (fv ρ) fun v => bd (getOD ρ i) fun _ => bd (fk ρ) fun k => bd (keyR k) fun kk => bd (getOD ρ i) fun ds => bd (req (ds.length < sizeLine)) fun _ => ok (.nx (ρ.set i (.od (putG ds kk v))))
theorem sPutD (i : Nat) {x : Str} {p pos' : Pos} {ke ve : Expr} {fk fv : List Sl → R D} (hu : X.A.units + 1 < cLine) (hk : PE X ke (tP X.K fk)) (hv : PE X ve (tP X.K fv)) (hi : X.N[i]? = some x := by rfl) (hvis : Vis X.env.scope x := by first | exact Or.inl rfl | exact Or.inr (Or.inl rfl) | exact Or.inr (Or.inr rfl))
    (hd : (x == ("__debug__" : Str)) = false := by decide) (hcd : (x == ("__classdict__" : Str)) = false := by decide) (hs : swapsWith ve (some (.Subscript (.Name x p) ke pos')) pos.line X.env = pure false := by rfl) :
    PS X (.Assign [.Subscript (.Name x p) ke pos'] ve pos) (tS X.K (putM i fk fv)) :=
  PS.wk (ps_dput hu (pe_var hi hvis hd hcd) hk hv hs) fun D σ H ⟨c, G, ρ, post, w, r, hg, q⟩ => ⟨c, G, ρ, _, w, r, hg, fun d hd v G1 H1 e1 w1 k1 => by
    have r1 := r.ext e1
    obtain ⟨ds, hi, hd⟩ := getOD_inv hd
    rcases r1.at_ i _ hi with z | ⟨v0, e0, a, rfl, o⟩
    · cases z
    · refine ⟨_, e0, c, G1, ρ, _, w.step w1 e1, r1, hd, fun y hy u G2 H2 e2 w2 k2 => ?_⟩
      obtain ⟨k, rfl, hy⟩ := keyR_inv k2 hy
      obtain ⟨ds', hi', hy⟩ := getOD_inv hy
      rw [hi] at hi'; cases hi'
      have o2 := o.ext e2
      obtain ⟨vs, hvs, kv⟩ := o2.at_
      have hq := kv.put k (k1.mono e2.g)
      exact ⟨a, _, rfl, DPut.k hvs (by rw [kv.length]; exact hy.1), q _ hy.2 σ G2 _ (fun p u e => e2.g p u (e1.g p u e)) (Wd.mutD ((w.step w1 e1).step w2 e2) o2 hq).1 ((r1.ext e2).mutD hi e0 o2 hq)⟩⟩
/-- x[k] -/
def ixdM (i : Nat) (fk : List Sl → R D) : List Sl → R D := fun ρ => bd (getOD ρ i) fun _ => bd (fk ρ) fun k => bd (keyR k) fun kk => bd (getOD ρ i) fun ds => match valG ds kk with
  | some d => ok d
  | none => fail
theorem ixD (i : Nat) {x : Str} {p : Pos} {ke : Expr} {fk : List Sl → R D} (hu : X.A.units + 1 < cLine) (hk : PE X ke (tP X.K fk)) (hs : NoSl ke := by intro _ _; rfl) (hi : X.N[i]? = some x := by rfl) (hvis : Vis X.env.scope x := by first | exact Or.inl rfl | exact Or.inr (Or.inl rfl) | exact Or.inr (Or.inr rfl))
    (hd : (x == ("__debug__" : Str)) = false := by decide) (hcd : (x == ("__classdict__" : Str)) = false := by decide) : PE X (.Subscript (.Name x p) ke pos) (tP X.K (ixdM i fk)) :=
  PE.wk (pe_dget hu (pe_var hi hvis hd hcd) hk hs) fun σ H Q ⟨c, G, ρ, post, w, r, hg, q⟩ => by
    obtain ⟨ds, h0, hg⟩ := getOD_inv hg
    rcases r.at_ i _ h0 with z | ⟨v0, e0, a, rfl, o⟩
    · cases z
    · refine ⟨_, e0, c, G, ρ, _, w, r, hg, fun y hy u G2 H2 e2 w2 k2 => ?_⟩
      obtain ⟨k, rfl, hy⟩ := keyR_inv k2 hy
      obtain ⟨ds', h0', hy⟩ := getOD_inv hy
      rw [h0] at h0'; cases h0'
      obtain ⟨vs, hvs, kv⟩ := (o.ext e2).at_
      rcases kv.val k with ⟨_, z⟩ | ⟨v, d, g1, g2, g3⟩
      · rw [z] at hy; exact hy.elim
      · rw [g2] at hy
        exact ⟨a, v, rfl, g1 ▸ DGet.k hvs, q d hy v G2 H2 e2 w2 g3⟩
/-- x.get(k, d) -/
def getM2 (i : Nat) (fk fd : List Sl → R D) : List Sl → R D := fun ρ => bd (getOD ρ i) fun _ => bd (fk ρ) fun k => bd (fd ρ) fun z => bd (keyR k) fun kk => bd (getOD ρ i) fun ds => ok ((valG ds kk).getD z)
theorem getD2 (i : Nat) {x : Str} {p apos : Pos} {ke de : Expr} {fk fd : List Sl → R D} (hu : X.A.units + 1 < cLine) (hk : PE X ke (tP X.K fk)) (hd2 : PE X de (tP X.K fd)) (hi : X.N[i]? = some x := by rfl) (hvis : Vis X.env.scope x := by first | exact Or.inl rfl | exact Or.inr (Or.inl rfl) | exact Or.inr (Or.inr rfl))
    (hd : (x == ("__debug__" : Str)) = false := by decide) (hcd : (x == ("__classdict__" : Str)) = false := by decide) (m : M2 X (.Name x p) "get" apos ke de pos := by exact ⟨by rfl, by rfl, by rfl, by rfl⟩) : PE X (.Call (.Attribute (.Name x p) "get" apos) [ke, de] [] pos) (tP X.K (getM2 i fk fd)) :=
  PE.wk (pe_dget2 hu (pe_var hi hvis hd hcd) hk hd2 m) fun σ H Q ⟨c, G, ρ, post, w, r, hg, q⟩ => by
    obtain ⟨ds, h0, hg⟩ := getOD_inv hg
    rcases r.at_ i _ h0 with z | ⟨v0, e0, a, rfl, o⟩
    · cases z
    · obtain ⟨vs0, hv0, _⟩ := o.at_
      refine ⟨_, e0, a, rfl, .inl ⟨vs0, .inl hv0⟩, c, G, ρ, _, w, r, hg, fun y hy u G2 H2 e2 w2 k2 => ⟨c, G2, ρ, _, w.step w2 e2, r.ext e2, hy, fun z hz t G3 H3 e3 w3 k3 => ?_⟩⟩
      obtain ⟨k, rfl, hz⟩ := keyR_inv (k2.mono e3.g) hz
      obtain ⟨ds', h0', hz⟩ := getOD_inv hz
      rw [h0] at h0'; cases h0'
      obtain ⟨vs, hvs, kv⟩ := ((o.ext e2).ext e3).at_
      refine ⟨_, DGet.k hvs, ?_⟩
      rcases kv.val k with ⟨g1, g2⟩ | ⟨v, d, g1, g2, g3⟩
      · rw [g2] at hz
        rw [g1]
        exact q z hz t G3 H3 (e2.trans e3) w3 k3
      · rw [g2] at hz
        rw [g1]
        exact q d hz v G3 H3 (e2.trans e3) w3 g3
/-- sorted(x): the keys, ascending -/
def intK : List (Key × D) → Option (List Int)
  | [] => some []
  | (.inl i, _) :: r => (intK r).map (i :: ·)
  | _ :: _ => none
theorem intK_eq {K : PySem.W.Frag} {G : Hp} : ∀ {vs : List (Key × V)} {ds : List (Key × D)} {ks : List Int}, DqK K G vs ds → intK ds = some ks → vs.map (·.1) = ks.map Sum.inl
  | _, _, ks, .nil, h => by cases h; rfl
  | _, _, ks, .cons (k := j) (s := s) e q, h => by
    cases j with
    | inl i =>
      have h : (intK s).map (i :: ·) = some ks := h
      cases g : intK s with
      | none => rw [g] at h; cases h
      | some ms => rw [g] at h; cases h; rw [List.map_cons, List.map_cons, intK_eq q g]
    | inr x => cases h
def srtKM (i : Nat) : List Sl → R (List D) := fun ρ => bd (getOD ρ i) fun ds => match intK ds with
  | some ks => fun post => ks.length < 64 ∧ ∀ ys : List Int, ys.Perm ks → ys.Pairwise (· ≤ ·) → post (ys.map .int)
  | none => fail
theorem srtK (i : Nat) {x : Str} {p p2 : Pos} (hc : X.calm = true) (hm : X.mg "sorted" = none) (hg : Gl X "sorted" := by rfl) (hi : X.N[i]? = some x := by rfl) (hvis : Vis X.env.scope x := by first | exact Or.inl rfl | exact Or.inr (Or.inl rfl) | exact Or.inr (Or.inr rfl))
    (hd : (x == ("__debug__" : Str)) = false := by decide) (hcd : (x == ("__classdict__" : Str)) = false := by decide) (hs : starEach [.Name x p2] X.env = [(false, eval (.Name x p2) X.env)] := by rfl) (hpl : (backTo pos (starEach [] X.env)).any (·.1) = false := by rfl) :
    PE X (.Call (.Name "sorted" p) [.Name x p2] [] pos) (tF X.K (srtKM i)) :=
  PE.wk (pe_callB (call_sortedDI hc) hg hm (by decide +kernel) (pa_cons (pe_var hi hvis hd hcd) pa_nil hs) (by decide) (by decide) hs hpl) fun σ H Q ⟨c, G, ρ, post, w, r, hg, q⟩ => by
    obtain ⟨ds, h0, hg⟩ := getOD_inv hg
    rcases r.at_ i _ h0 with z | ⟨v0, e0, a, rfl, o⟩
    · cases z
    · obtain ⟨vs, hvs, kv⟩ := o.at_
      cases e : intK ds with
      | none => rw [e] at hg; exact hg.elim
      | some ks =>
        rw [e] at hg
        refine ⟨_, e0, a, vs, ks, rfl, .inl hvs, intK_eq kv e, hg.1, fun ys p1 o1 o2 np => ?_⟩
        exact fin_new (ds := ys.map .int) w .refl np (DqAll.ofInts ys) (hg.2 ys o1 o2) q
end
end Pu

namespace Pu
open PySem PySem.Spec PyProof.Rows L2
/-! ### {k: v}, k in x, k not in x, len(x) -/
theorem un1 {n : Nat} (h : n + 64 < cLine) : n + 1 < cLine := by omega
def disp1 (fk fv : List Sl → R D) : List Sl → R (List (Key × D)) := fun ρ => bd (fk ρ) fun k => bd (keyR k) fun kk => bd (fv ρ) fun v => ok [(kk, v)]
section
variable {X : Cx} {pos : Pos}
theorem dDisp1 {ke ve : Expr} {fk fv : List Sl → R D} (hk : PE X ke (tP X.K fk)) (hv : PE X ve (tP X.K fv)) : PE X (.Dict [some ke] [ve] pos) (tFD X.K (disp1 fk fv)) :=
  PE.wk (pe_disp (pps_cons hk hv pps_nil) rfl rfl (by simp) (by simp)) fun σ H Q ⟨c, G, ρ, post, w, r, hf, q⟩ p np => by
    obtain ⟨w1, e1⟩ := w.w.new np (.dK [])
    have fr := w.w.fresh np
    refine ⟨c, G, ρ, _, w.step w1 e1, r.ext e1, hf, fun d hd u G2 H2 e2 w2 k2 => ?_⟩
    obtain ⟨k, rfl, hd⟩ := keyR_inv k2 hd
    refine ⟨c, G2, ρ, _, (w.step w1 e1).step w2 e2, (r.ext e1).ext e2, hd, fun z hz t G3 H3 e3 w3 k3 => ?_⟩
    have hp : H3 p = some (.dK []) := e3.h p _ (e2.h p _ upd_same fr.2) fr.2
    have hg2 : G2 p = none := e2.n p _ upd_same fr.2 fr.1
    have hg3 : G3 p = none := e3.n p _ (e2.h p _ upd_same fr.2) fr.2 hg2
    have h0 : c.H0 p = none := by
      cases h : c.H0 p with
      | none => rfl
      | some u => rw [w.e.h p u h fr.2] at np; cases np
    have o : OwnD X.K c G3 H3 p [] := ⟨⟨[], hp, .nil⟩, hg3, h0, fr.2⟩
    have m := Wd.mutD (((w.step w1 e1).step w2 e2).step w3 e3) o (ws := [(k, t)]) (es := [(k, z)]) (.cons k3 .nil)
    have ee := (e1.trans e2).trans e3
    exact ⟨hp, [(k, t)], rfl, by simp, q _ hz p G3 _ np ⟨ee.g, fun a u h v => by
      rw [upd_ne (ne_of_none h np)]; exact ee.h a u h v, ee.n⟩ m.1.w m.2⟩
def inDM (i : Nat) (fk : List Sl → R D) : List Sl → R D := fun ρ => bd (fk ρ) fun k => bd (keyR k) fun kk => bd (getOD ρ i) fun ds => ok (.bool (valG ds kk).isSome)
def notInDM (i : Nat) (fk : List Sl → R D) : List Sl → R D := fun ρ => bd (fk ρ) fun k => bd (keyR k) fun kk => bd (getOD ρ i) fun ds => ok (.bool (!(valG ds kk).isSome))
theorem dIn_of {i : Nat} {fk : List Sl → R D} {neg : Bool} {g : List Sl → R D} (hg : ∀ ρ, g ρ = bd (fk ρ) fun k => bd (keyR k) fun kk => bd (getOD ρ i) fun ds => ok (.bool (if neg then !(valG ds kk).isSome else (valG ds kk).isSome))) {σ : L2.St} {H : Hp} {Q : VK} (h : tP X.K g σ H Q) :
    tP X.K fk σ H fun y H1 => tVar i σ H1 fun x H2 => ∃ a o, x = .ref a ∧ DGet H2 a y o ∧ Q (.bl (if neg then !o.isSome else o.isSome)) H2 := by
  obtain ⟨c, G, ρ, post, w, r, hf, q⟩ := h
  rw [hg] at hf
  refine ⟨c, G, ρ, _, w, r, hf, fun y hy u G2 H2 e2 w2 k2 => ?_⟩
  obtain ⟨k, rfl, hy⟩ := keyR_inv k2 hy
  obtain ⟨ds, h0, hy⟩ := getOD_inv hy
  rcases (r.ext e2).at_ i _ h0 with z | ⟨v0, e0, a, rfl, o⟩
  · cases z
  · obtain ⟨vs, hvs, kv⟩ := o.at_
    refine ⟨_, e0, a, _, rfl, DGet.k hvs, ?_⟩
    have he : (valV vs k).isSome = (valG ds k).isSome := by
      rcases kv.val k with ⟨g1, g2⟩ | ⟨v, d, g1, g2, _⟩ <;> rw [g1, g2] <;> rfl
    rw [he]
    exact q _ hy _ G2 H2 e2 w2 (.bl _)
theorem inD (i : Nat) {x : Str} {p : Pos} {ke : Expr} {fk : List Sl → R D} (hu : X.A.units + 1 < cLine) (hk : PE X ke (tP X.K fk)) (hi : X.N[i]? = some x := by rfl) (hvis : Vis X.env.scope x := by first | exact Or.inl rfl | exact Or.inr (Or.inl rfl) | exact Or.inr (Or.inr rfl))
    (hd : (x == ("__debug__" : Str)) = false := by decide) (hcd : (x == ("__classdict__" : Str)) = false := by decide) : PE X (.Compare ke [.In] [.Name x p] pos) (tP X.K (inDM i fk)) :=
  PE.wk (pe_cmp (pc_din hu hk (pe_var hi hvis hd hcd))) fun σ H Q h => dIn_of (neg := false) (fun _ => rfl) h
theorem notInD (i : Nat) {x : Str} {p : Pos} {ke : Expr} {fk : List Sl → R D} (hu : X.A.units + 1 < cLine) (hk : PE X ke (tP X.K fk)) (hi : X.N[i]? = some x := by rfl) (hvis : Vis X.env.scope x := by first | exact Or.inl rfl | exact Or.inr (Or.inl rfl) | exact Or.inr (Or.inr rfl))
    (hd : (x == ("__debug__" : Str)) = false := by decide) (hcd : (x == ("__classdict__" : Str)) = false := by decide) : PE X (.Compare ke [.NotIn] [.Name x p] pos) (tP X.K (notInDM i fk)) :=
  PE.wk (pe_cmp (pc_dnotin hu hk (pe_var hi hvis hd hcd))) fun σ H Q h => dIn_of (neg := true) (fun _ => rfl) h
theorem inDT (i : Nat) {x : Str} {p : Pos} {ke : Expr} {fk : List Sl → R D} (hu : X.A.units + 1 < cLine) (hk : PE X ke (tP X.K fk)) (hi : X.N[i]? = some x := by rfl) (hvis : Vis X.env.scope x := by first | exact Or.inl rfl | exact Or.inr (Or.inl rfl) | exact Or.inr (Or.inr rfl))
    (hd : (x == ("__debug__" : Str)) = false := by decide) (hcd : (x == ("__classdict__" : Str)) = false := by decide) : PT X (.Compare ke [.In] [.Name x p] pos) (tT X.K (m1 (inDM i fk) asB)) :=
  PT.wk (pt_cmp (pc_din hu hk (pe_var hi hvis hd hcd))) fun σ H Q ⟨c, G, ρ, post, w, r, hf, q⟩ => dIn_of (Q := fun x H1 => ∃ c, x = .bl c ∧ Q c H1) (neg := false) (g := inDM i fk) (fun _ => rfl) ⟨c, G, ρ, fun d => asB d post, w, r, hf, fun d hd v G1 H1 e1 w1 k1 => by
    cases k1 with
    | bl b => exact ⟨b, rfl, q b hd G1 H1 e1 w1⟩
    | _ => exact hd.elim⟩
theorem notInDT (i : Nat) {x : Str} {p : Pos} {ke : Expr} {fk : List Sl → R D} (hu : X.A.units + 1 < cLine) (hk : PE X ke (tP X.K fk)) (hi : X.N[i]? = some x := by rfl) (hvis : Vis X.env.scope x := by first | exact Or.inl rfl | exact Or.inr (Or.inl rfl) | exact Or.inr (Or.inr rfl))
    (hd : (x == ("__debug__" : Str)) = false := by decide) (hcd : (x == ("__classdict__" : Str)) = false := by decide) : PT X (.Compare ke [.NotIn] [.Name x p] pos) (tT X.K (m1 (notInDM i fk) asB)) :=
  PT.wk (pt_cmp (pc_dnotin hu hk (pe_var hi hvis hd hcd))) fun σ H Q ⟨c, G, ρ, post, w, r, hf, q⟩ => dIn_of (Q := fun x H1 => ∃ c, x = .bl c ∧ Q c H1) (neg := true) (g := notInDM i fk) (fun _ => rfl) ⟨c, G, ρ, fun d => asB d post, w, r, hf, fun d hd v G1 H1 e1 w1 k1 => by
    cases k1 with
    | bl b => exact ⟨b, rfl, q b hd G1 H1 e1 w1⟩
    | _ => exact hd.elim⟩
theorem mOD {a : Expr} {es : List Expr} {f : List Sl → R (List (Key × D))} {g : List Sl → R (List Sl)} (ha : PE X a (tFD X.K f)) (hr : PA X es (tM X.K g)) (hs : starEach (a :: es) X.env = (false, eval a X.env) :: starEach es X.env := by rfl) : PA X (a :: es) (tM X.K (consR (rOD f) g)) :=
  PA.wk (pa_cons ha hr hs) fun σ H Q ⟨c, G, ρ, post, w, r, hf, q⟩ => by
    refine ⟨c, G, ρ, _, w, r, hf, fun d hd p G1 H1 n1 e1 w1 o1 => ?_⟩
    refine ⟨c, G1, ρ, _, w.step w1 e1, r.ext e1, hd, fun xs hxs vs G2 H2 e2 w2 b2 n2 => q (.od d :: xs) hxs _ G2 H2 (e1.trans e2) w2 (.cons ⟨p, rfl, o1.ext e2⟩ (fun _ j fs h1 k1 h2 => ?_) b2) fun j es a h1 k1 h2 => ?_⟩
    · obtain ⟨vs1, hv, _⟩ := o1.at_
      have hn := n2 j fs p h1 k1 h2
      rw [hn] at hv; cases hv
    · cases j with
      | zero => cases h2; exact n1
      | succ j =>
        have hn := n2 j es a h1 k1 h2
        exact e1.none hn (w1.fresh hn).2
end
end Pu

namespace Pu
open PySem PySem.Spec PyProof.Rows L2
/-! ### constants of a module: dicts with texts as keys, tuples -/
def tbG (tbl : List (Str × D)) (z : Str) : Option D := (tbl.find? fun p => decide (p.1 = z)).map (·.2)
/-- the dict at p, written by the module, stands for the table -/
def KTb (K : PySem.W.Frag) (w : World) (p : Addr) (tbl : List (Str × D)) : Prop :=
  ∃ es n, K.lookup p = some ⟨.type "dict", none, .dict es n, #[]⟩ ∧ PySem.W.KeysLit w.params es.toList ∧ (p == sysModules) = false ∧
    ∀ z, ∃ r, PySem.W.nsIn K p z = some r ∧ ((tbG tbl z = none ∧ r = none) ∨ ∃ d v u, tbG tbl z = some d ∧ r = some u ∧ RelV v u ∧ ∀ G : Hp, Dq K G v d)
structure CDict (K : PySem.W.Frag) (w : World) (mg : Str → Option Value) (x : Str) (tbl : List (Str × D)) : Prop where
  ex : ∃ p, mg x = some (.ref p) ∧ KTb K w p tbl
/-- one entry -/
structure EnI (K : PySem.W.Frag) (e : DictEntry) (p : Str × D) : Prop where
  key : ∃ t, e.key = .str p.1 t
  val : ∃ v : V, RelV v e.val ∧ ∀ G : Hp, Dq K G v p.2
inductive EnIs (K : PySem.W.Frag) : List DictEntry → List (Str × D) → Prop
  | nil : EnIs K [] []
  | cons {e : DictEntry} {p : Str × D} {l : List DictEntry} {k : List (Str × D)} : EnI K e p → EnIs K l k → EnIs K (e :: l) (p :: k)
theorem isStr_e (x z : Str) (t : Tok) : (Value.str x t).isStr z = decide (x = z) := by
  show (x == z) = _
  by_cases h : x = z
  · subst h; simp
  · simp [h]
theorem en_find {K : PySem.W.Frag} (z : Str) : ∀ {l : List DictEntry} {k : List (Str × D)}, EnIs K l k → (l.find? (·.key.isStr z) = none ∧ tbG k z = none) ∨ ∃ e p, l.find? (·.key.isStr z) = some e ∧ tbG k z = some p.2 ∧ EnI K e p
  | _, _, .nil => .inl ⟨rfl, rfl⟩
  | e :: l, p :: k, .cons h r => by
    obtain ⟨t, ht⟩ := h.key
    have he : e.key.isStr z = decide (p.1 = z) := by rw [ht]; exact isStr_e _ _ _
    by_cases hz : p.1 = z
    · right
      refine ⟨e, p, ?_, ?_, h⟩
      · rw [List.find?_cons_of_pos (by rw [he]; simpa using hz)]
      · unfold tbG
        rw [List.find?_cons_of_pos (by simpa using hz)]; rfl
    · rcases en_find z r with ⟨h1, h2⟩ | ⟨e', p', h1, h2, h3⟩
      · left
        refine ⟨?_, ?_⟩
        · rw [List.find?_cons_of_neg (by rw [he]; simpa using hz)]; exact h1
        · unfold tbG at *
          rw [List.find?_cons_of_neg (by simpa using hz)]; exact h2
      · right
        refine ⟨e', p', ?_, ?_, h3⟩
        · rw [List.find?_cons_of_neg (by rw [he]; simpa using hz)]; exact h1
        · unfold tbG at *
          rw [List.find?_cons_of_neg (by simpa using hz)]; exact h2
theorem en_noref {K : PySem.W.Frag} : ∀ {l : List DictEntry} {k : List (Str × D)}, EnIs K l k → l.any (·.refKey) = false
  | _, _, .nil => rfl
  | e :: l, p :: k, .cons h r => by
    obtain ⟨t, ht⟩ := h.key
    have he : e.refKey = false := by
      unfold PySem.DictEntry.refKey
      rw [ht]
    rw [List.any_cons, he, en_noref r]; rfl
theorem KTb.mk' {K : PySem.W.Frag} {w : World} {p : Addr} {es : Array DictEntry} {n : Nat} {tbl : List (Str × D)} (hl : K.lookup p = some ⟨.type "dict", none, .dict es n, #[]⟩) (hk : PySem.W.KeysLit w.params es.toList) (lo : (p == sysModules) = false) (he : EnIs K es.toList tbl) : KTb K w p tbl := by
  refine ⟨es, n, hl, hk, lo, fun z => ?_⟩
  unfold PySem.W.nsIn
  rw [hl]
  dsimp only
  rcases en_find z he with ⟨h1, h2⟩ | ⟨e, q, h1, h2, h3⟩
  · rw [h1]
    dsimp only
    rw [en_noref he]
    exact ⟨none, rfl, .inl ⟨h2, rfl⟩⟩
  · rw [h1]
    obtain ⟨v, r, hd⟩ := h3.val
    exact ⟨_, rfl, .inr ⟨q.2, v, _, h2, rfl, r, hd⟩⟩
theorem enI_int {K : PySem.W.Frag} {h : Int} {x : Str} {t u : Tok} {i : Int} : EnI K ⟨h, .str x t, .int i u⟩ (x, .int i) := ⟨⟨t, rfl⟩, .int i, ⟨u, rfl⟩, fun _ => .int i⟩
section
variable {X : Cx} {pos : Pos}
def inTR (tbl : List (Str × D)) (neg : Bool) : D → R D
  | .str z => ok (.bool (if neg then !(tbG tbl z).isSome else (tbG tbl z).isSome))
  | _ => fail
def ixTR (tbl : List (Str × D)) : D → R D
  | .str z => match tbG tbl z with
    | some d => ok d
    | none => fail
  | _ => fail
def rInT (K : PySem.W.Frag) (w : World) (neg : Bool) (p : Addr) (tbl : List (Str × D)) : R2 := fun x y H Q => ∃ z, x = .str z ∧ y = .ref p ∧ KTb K w p tbl ∧ Q (.bl (if neg then !(tbG tbl z).isSome else (tbG tbl z).isSome)) H
theorem op_inT {p : Addr} {tbl : List (Str × D)} : OpR X (compareOp .In) (rInT X.K X.w false p tbl) := by
  intro pins s σ H x y v u Q I rx ry h
  obtain ⟨z, rfl, rfl, ⟨es, n, hl, hk, lo, ht⟩, q⟩ := h
  obtain ⟨t, rfl⟩ := rx
  obtain rfl : u = Value.ref p := ry
  obtain ⟨r, hr, hrel⟩ := ht z
  refine PySem.wpAny_in_of (strKind_is X.prog X.w z t) lo (PySem.W.mapOf_K (prog := X.prog) (w := X.w) I.kIn hl hk) ?_
  rw [PySem.W.find_K hl hr]
  refine ⟨.bl r.isSome, H, I.tok _, rfl, ?_⟩
  have e : r.isSome = (tbG tbl z).isSome := by
    rcases hrel with ⟨h1, rfl⟩ | ⟨d, v, u, h1, rfl, _⟩ <;> rw [h1] <;> rfl
  rw [e]; exact q
theorem op_notInT {p : Addr} {tbl : List (Str × D)} : OpR X (compareOp .NotIn) (rInT X.K X.w true p tbl) := by
  intro pins s σ H x y v u Q I rx ry h
  obtain ⟨z, rfl, rfl, ⟨es, n, hl, hk, lo, ht⟩, q⟩ := h
  obtain ⟨t, rfl⟩ := rx
  obtain rfl : u = Value.ref p := ry
  obtain ⟨r, hr, hrel⟩ := ht z
  refine PySem.wpAny_notIn_of (strKind_is X.prog X.w z t) lo (PySem.W.mapOf_K (prog := X.prog) (w := X.w) I.kIn hl hk) ?_
  rw [PySem.W.find_K hl hr]
  refine ⟨.bl (!r.isSome), H, I.tok _, rfl, ?_⟩
  have e : r.isSome = (tbG tbl z).isSome := by
    rcases hrel with ⟨h1, rfl⟩ | ⟨d, v, u, h1, rfl, _⟩ <;> rw [h1] <;> rfl
  rw [e]; exact q
theorem tC_of {K : PySem.W.Frag} {w : World} {p : Addr} {tbl : List (Str × D)} {neg : Bool} (ht : KTb K w p tbl) {f : List Sl → R D} {σ : L2.St} {H : Hp} {Q : VK} (h : tP K (m1 f (inTR tbl neg)) σ H Q) : tOp (rInT K w neg p tbl) (tB K f) (tC (.ref p)) σ H Q := by
  obtain ⟨c, G, ρ, post, wd, rs, hf, q⟩ := h
  refine ⟨c, G, ρ, fun d => inTR tbl neg d post, wd, rs, hf, fun d hd v G1 H1 e1 w1 b1 => ?_⟩
  cases d with
  | str z => exact ⟨z, b1.str, rfl, ht, q _ hd _ G1 H1 e1 w1 (.bl _)⟩
  | _ => exact hd.elim
theorem inT {x : Str} {p1 : Pos} {ke : Expr} {tbl : List (Str × D)} {fk : List Sl → R D} (C : CDict X.K X.w X.mg x tbl) (hk : PE X ke (tB X.K fk)) (hg : Gl X x := by rfl) (hd : (x == ("__debug__" : Str)) = false := by decide) (hm : behindInMarks .In (.Name x p1) = false := by first | exact nomark _ | rfl) : PE X (.Compare ke [.In] [.Name x p1] pos) (tP X.K (m1 fk (inTR tbl false))) :=
  let ⟨_, h1, h2⟩ := C.ex
  PE.wk (pe_cmpR op_inT hk (pe_glob (v := .ref _) hg h1 rfl hd) hm) fun σ H Q h => tC_of h2 h
theorem notInT {x : Str} {p1 : Pos} {ke : Expr} {tbl : List (Str × D)} {fk : List Sl → R D} (C : CDict X.K X.w X.mg x tbl) (hk : PE X ke (tB X.K fk)) (hg : Gl X x := by rfl) (hd : (x == ("__debug__" : Str)) = false := by decide) (hm : behindInMarks .NotIn (.Name x p1) = false := by first | exact nomark _ | rfl) : PE X (.Compare ke [.NotIn] [.Name x p1] pos) (tP X.K (m1 fk (inTR tbl true))) :=
  let ⟨_, h1, h2⟩ := C.ex
  PE.wk (pe_cmpR op_notInT hk (pe_glob (v := .ref _) hg h1 rfl hd) hm) fun σ H Q h => tC_of h2 h
theorem inTT {x : Str} {p1 : Pos} {ke : Expr} {tbl : List (Str × D)} {fk : List Sl → R D} (C : CDict X.K X.w X.mg x tbl) (hk : PE X ke (tB X.K fk)) (hg : Gl X x := by rfl) (hd : (x == ("__debug__" : Str)) = false := by decide) (hm : behindInMarks .In (.Name x p1) = false := by first | exact nomark _ | rfl) : PT X (.Compare ke [.In] [.Name x p1] pos) (tT X.K (m1 (m1 fk (inTR tbl false)) asB)) :=
  let ⟨_, h1, h2⟩ := C.ex
  PT.wk (pt_cmpR op_inT hk (pe_glob (v := .ref _) hg h1 rfl hd) hm) fun σ H Q h => tTest_of (fun _ _ _ z => tC_of h2 z) h
theorem notInTT {x : Str} {p1 : Pos} {ke : Expr} {tbl : List (Str × D)} {fk : List Sl → R D} (C : CDict X.K X.w X.mg x tbl) (hk : PE X ke (tB X.K fk)) (hg : Gl X x := by rfl) (hd : (x == ("__debug__" : Str)) = false := by decide) (hm : behindInMarks .NotIn (.Name x p1) = false := by first | exact nomark _ | rfl) : PT X (.Compare ke [.NotIn] [.Name x p1] pos) (tT X.K (m1 (m1 fk (inTR tbl true)) asB)) :=
  let ⟨_, h1, h2⟩ := C.ex
  PT.wk (pt_cmpR op_notInT hk (pe_glob (v := .ref _) hg h1 rfl hd) hm) fun σ H Q h => tTest_of (fun _ _ _ z => tC_of h2 z) h
theorem ixT {x : Str} {p1 : Pos} {ke : Expr} {tbl : List (Str × D)} {fk : List Sl → R D} (C : CDict X.K X.w X.mg x tbl) (hk : PE X ke (tB X.K fk)) (hs : PlainIx ke := by exact fun _ _ => rfl) (hg : Gl X x := by rfl) (hd : (x == ("__debug__" : Str)) = false := by decide) : PE X (.Subscript (.Name x p1) ke pos) (tP X.K (m1 fk (ixTR tbl))) :=
  let ⟨p, h1, h2⟩ := C.ex
  PE.wk (pe_ix ix_kdict (pe_glob (v := .ref _) hg h1 rfl hd) hk hs) fun σ H Q ⟨c, G, ρ, post, wd, rs, hf, q⟩ => by
    refine ⟨c, G, ρ, fun d => ixTR tbl d post, wd, rs, hf, fun d hd v G1 H1 e1 w1 b1 => ?_⟩
    cases d with
    | str z =>
      obtain ⟨es, n, hl, hk, lo, ht⟩ := h2
      obtain ⟨r, hr, hrel⟩ := ht z
      have hd : (match tbG tbl z with | some d => ok d | none => fail) post := hd
      rcases hrel with ⟨h1, rfl⟩ | ⟨d, v0, u, h1, rfl, rv, hdq⟩
      · rw [h1] at hd; exact hd.elim
      · rw [h1] at hd
        exact ⟨p, z, v0, rfl, b1.str, ⟨es, n, u, hl, hk, hr, rv⟩, q _ hd _ G1 H1 e1 w1 (hdq _)⟩
    | _ => exact hd.elim
end
/-! ### a tuple of the module -/
structure CTup (K : PySem.W.Frag) (mg : Str → Option Value) (x : Str) (d : D) : Prop where
  ex : ∃ (v : V) (u : Value), mg x = some u ∧ RelV v u ∧ ∀ G : Hp, Dq K G v d
theorem gTC {X : Cx} {pos : Pos} {x : Str} {d : D} (C : CTup X.K X.mg x d) (hg : Gl X x := by rfl) (hd : (x == ("__debug__" : Str)) = false := by decide) : PE X (.Name x pos) (tP X.K fun _ => ok d) :=
  let ⟨_, _, h1, h2, h3⟩ := C.ex
  gC h3 h1 h2 hg hd
inductive TcIs (K : PySem.W.Frag) : List Value → List V → List D → Prop
  | nil : TcIs K [] [] []
  | int {i : Int} {t : Tok} {us : List Value} {vs : List V} {ds : List D} : TcIs K us vs ds → TcIs K (.int i t :: us) (.int i :: vs) (.int i :: ds)
  | str {x : Str} {t : Tok} {us : List Value} {vs : List V} {ds : List D} : TcIs K us vs ds → TcIs K (.str x t :: us) (.str x :: vs) (.str x :: ds)
theorem TcIs.vals {K : PySem.W.Frag} : ∀ {us : List Value} {vs : List V} {ds : List D}, TcIs K us vs ds → Vals vs us
  | _, _, _, .nil => .nil
  | _, _, _, .int h => .cons ⟨_, rfl⟩ h.vals
  | _, _, _, .str h => .cons ⟨_, rfl⟩ h.vals
theorem TcIs.dq {K : PySem.W.Frag} {G : Hp} : ∀ {us : List Value} {vs : List V} {ds : List D}, TcIs K us vs ds → DqAll K G vs ds
  | _, _, _, .nil => .nil
  | _, _, _, .int h => .cons (.int _) h.dq
  | _, _, _, .str h => .cons (.str _) h.dq
theorem CTup.mk' {K : PySem.W.Frag} {mg : Str → Option Value} {x : Str} {p : Addr} {dd : Option Addr} {l : List Value} {n : Nat} {sl : Array (Option Value)} {vs : List V} {ds : List D} (hm : mg x = some (.ref p)) (hl : K.lookup p = some ⟨.type "tuple", dd, .seq l.toArray n, sl⟩) (ht : TcIs K l vs ds) (hs : l.length ≤ sizeLine) : CTup K mg x (.tuple ds) :=
  ⟨.ref p, .ref p, hm, rfl, fun G => .tup (.inr ⟨_, l.toArray, n, hl, rfl, rfl, by simpa using hs, by simpa using ht.vals⟩) ht.dq⟩
end Pu

namespace Pu
open PySem PySem.Spec PyProof.Rows L2
/-! ### x[a:b] = a new list -/
def gSlc (K : PySem.W.Frag) (to : TE) (tl th : TO) : TG := fun v σ H Q => to σ H fun o H1 => tl σ H1 fun l H2 => th σ H2 fun u H3 =>
  ∃ (a b : Addr) (xs ys : List V) (i j : Int), o = .ref a ∧ v = .ref b ∧ l = some i ∧ u = some j ∧ H3 a = some (.lst xs) ∧ H3 b = some (.lst ys) ∧ a ≠ b ∧ 0 ≤ i ∧ i ≤ j ∧ j ≤ xs.length ∧ xs.length + ys.length ≤ sizeLine ∧ Q σ (upd H3 a (.lst (xs.take i.toNat ++ ys ++ xs.drop j.toNat)))
section
variable {X : Cx} {o : Expr} {to : TE} {lo hi : Option Expr} {tl th : TO} {pos p2 : Pos}
theorem pg_slc (ho : PE X o to) (hl : PO X lo tl) (hu : PO X hi th)
    (ha : ∀ v, assign (.Subscript o (.Slice lo hi none p2) pos) X.env v = (do
      let ov ← holding [v] (eval o X.env)
      let iv ← holding [v, ov] (eval (.Slice lo hi none p2) X.env)
      standAt pos
      holding [v, ov, iv] (setItem ov iv v)
      release [iv, v, ov] []) := by intro _; rfl) : PG X (.Subscript o (.Slice lo hi none p2) pos) (gSlc X.K to tl th) := by
  refine ⟨fun pins s σ H v u Q I r h => ?_⟩
  rw [ha]
  refine wpAny_bind (wpAny_holding (thn (ho.run pins s σ H _ I h) fun ov s1 ⟨x, H1, I1, r1, q1⟩ => ?_))
  refine wpAny_bind (wpAny_holding ?_)
  refine wpAny_Slice (thn (hl.run pins s1 σ H1 _ I1 q1) fun vl s2 ⟨l, H2, I2, pl, q2⟩ => thn (hu.run pins s2 σ H2 _ I2 q2) fun vu s3 ⟨u', H3, I3, pu, q3⟩ => ?_)
  rw [evalPart_none]
  refine wpAny_pure ?_
  have I4 : Inv X pins σ H3 { s3 with heap := s3.heap.push { cls := .type "slice", data := .fields #[vl, vu, .none] } } := I3.kept (t' := s3.toks) fun b ob q => Heap.get?_push_of_some _ q
  obtain ⟨a, b, xs, ys, i, j, rfl, rfl, rfl, rfl, hx, hy, hne, h0, hij, hj, hz, q⟩ := q3
  obtain rfl : ov = Value.ref a := r1
  obtain rfl : u = Value.ref b := r
  cases pl with
  | int i t =>
    cases pu with
    | int j t' =>
      refine wpAny_bind (wpAny_standAt (wpAny_bind (wpAny_holding (set_slice I4 hx hy hne (Heap.IsSliceOf.new ..) ⟨t, rfl⟩ ⟨t', rfl⟩ h0 hij hj hz fun s5 I5 => ?_))))
      exact wpAny_release ⟨σ, _, I5, q⟩
def intX : D → R Int
  | .int i => ok i
  | _ => fail
def setSlR (ds : List D) (l u : Int) (es : List D) : R (List D) := bd (req (0 ≤ l ∧ l ≤ u ∧ u ≤ ds.length ∧ ds.length + es.length ≤ sizeLine)) fun _ => ok (ds.take l.toNat ++ es ++ ds.drop u.toNat)
def setSlM (i : Nat) (f : List Sl → R (List D)) (gl gh : List Sl → R D) : List Sl → R Out := fun ρ => bd (f ρ) fun es => bd (getO ρ i) fun _ => bd (gl ρ) fun l => bd (intX l) fun l => bd (gh ρ) fun u => bd (intX u) fun u => bd (getO ρ i) fun ds => bd (setSlR ds l u es) fun ds' => ok (.nx (ρ.set i (.own ds')))
theorem setSlM_e (i : Nat) (f : List Sl → R (List D)) (gl gh : List Sl → R D) (ρ : List Sl) : setSlM i f gl gh ρ = bd (f ρ) fun es => bd (getO ρ i) fun _ => bd (gl ρ) fun l => bd (intX l) fun l => bd (gh ρ) fun u => bd (intX u) fun u => bd (getO ρ i) fun ds => bd (setSlR ds l u es) fun ds' => ok (.nx (ρ.set i (.own ds'))) := (rfl)
theorem sSetSl {i : Nat} {x : Str} {e le ue : Expr} {f : List Sl → R (List D)} {gl gh : List Sl → R D} {npos spos p2 : Pos} (he : PE X e (tF X.K f)) (hv : PE X (.Name x npos) (tVar i)) (hl : PE X le (tP X.K gl)) (hu : PE X ue (tP X.K gh))
    (ha : ∀ v, assign (.Subscript (.Name x npos) (.Slice (some le) (some ue) none p2) spos) X.env v = (do
      let ov ← holding [v] (eval (.Name x npos) X.env)
      let iv ← holding [v, ov] (eval (.Slice (some le) (some ue) none p2) X.env)
      standAt spos
      holding [v, ov, iv] (setItem ov iv v)
      release [iv, v, ov] []) := by intro _; rfl)
    (hs : swapsWithSole [.Subscript (.Name x npos) (.Slice (some le) (some ue) none p2) spos] e pos.line X.env = pure false := by rfl) (hw : swappedStores [.Subscript (.Name x npos) (.Slice (some le) (some ue) none p2) spos] e X.env = pure none := by rfl)
    (h1 : (assignEach [.Subscript (.Name x npos) (.Slice (some le) (some ue) none p2) spos] X.env).map (·.2) = [assign (.Subscript (.Name x npos) (.Slice (some le) (some ue) none p2) spos) X.env] := by rfl) :
    PS X (.Assign [.Subscript (.Name x npos) (.Slice (some le) (some ue) none p2) spos] e pos) (tS X.K (setSlM i f gl gh)) :=
  PS.wk (ps_asg he (pg_slc hv (po_some hl) (po_some hu) ha) hs hw h1) fun D σ H ⟨c, G, ρ, post, w, r, hg, q⟩ => ⟨c, G, ρ, _, w, r, hg, fun es hd b G1 H1 nb e1 w1 ob => by
    obtain ⟨ds, e0, hd⟩ := getO_inv hd
    rcases r.at_ i _ e0 with z | ⟨u, eu, a, rfl, o⟩
    · cases z
    · obtain ⟨vs0, hvs0, _⟩ := o.at_
      have hne : a ≠ b := ne_of_none hvs0 nb
      refine ⟨_, eu, c, G1, ρ, _, w.step w1 e1, r.ext e1, hd, fun l hl v G2 H2 e2 w2 k2 => ?_⟩
      cases l with
      | int li =>
        cases k2
        refine ⟨li, rfl, c, G2, ρ, _, (w.step w1 e1).step w2 e2, (r.ext e1).ext e2, hl, fun u hu v' G3 H3 e3 w3 k3 => ?_⟩
        cases u with
        | int ui =>
          obtain ⟨ds', e0', hu⟩ := getO_inv (show (bd (getO ρ i) fun ds => bd (setSlR ds li ui es) fun ds' => ok (Out.nx (ρ.set i (.own ds')))) post from hu)
          rw [e0] at e0'; cases e0'
          cases k3
          obtain ⟨⟨h0, hlu, hul, hz⟩, hu⟩ := hu
          have e13 := (e1.trans e2).trans e3
          have o' := o.ext e13
          obtain ⟨vs, hvs, kv⟩ := o'.at_
          obtain ⟨ys, hys, ky⟩ := ((ob.ext e2).ext e3).at_
          have kw : DqAll X.K G3 (vs.take li.toNat ++ ys ++ vs.drop ui.toNat) (ds.take li.toNat ++ es ++ ds.drop ui.toNat) := (DqAll.append (kv.take _) ky).append (kv.drop _)
          exact ⟨ui, rfl, a, b, vs, ys, li, ui, rfl, rfl, rfl, rfl, hvs, hys, hne, h0, hlu, by rw [kv.length]; exact hul, by rw [kv.length, ky.length]; exact hz, q _ hu σ G3 _ e13.g (Wd.mut (((w.step w1 e1).step w2 e2).step w3 e3) o' kw).1 ((r.ext e13).mut e0 eu o' kw)⟩
        | _ => exact hu.elim
      | _ => exact hl.elim⟩
end
end Pu

namespace Pu
open PySem PySem.Spec PyProof.Rows L2
/-! ### (a, b) = a list -/
def gLst (K : PySem.W.Frag) (n : Nat) (t : TGs) : TG := fun v σ H Q => ∃ a xs, v = .ref a ∧ SqL K H a xs ∧ xs.length = n ∧ t xs σ H Q
theorem pg_lst {X : Cx} {pos : Pos} {es : List Expr} {k : Nat} {t : TGs} {n : Nat} (hc : X.calm = true) (h : PGs X es t)
    (hn : (assignEach es X.env).length = n) (hst : (assignEach es X.env).findIdx? (·.1) = none) : PG X (.Tuple es k pos) (gLst X.K n t) := by
  refine ⟨fun pins s σ H v u Q I r hw => ?_⟩
  obtain ⟨a, xs, e1, hq, hl, hw⟩ := hw
  subst e1
  cases r
  obtain ⟨its, rv, ⟨o, m, e, hcl, hd, hs⟩, hz⟩ := I.list hq
  have hli : s.heap.IsList a its.toArray := ⟨o, e, by first | exact hcl | exact ⟨hcl, _, hs⟩, by first | exact ⟨_, hs⟩ | exact ⟨_, hd⟩⟩
  have hnn : its.toArray.size = n := by simp [← hl, rv.length]
  rw [assign_Tuple]
  refine wpAny_bind (wpAny_standAt ?_)
  unfold unpack
  rw [hn, hst, ← hnn]
  refine wpAny_bind (wpAny_holding (W.kun_itemsOf (I.ok.hd hc) hli fun h' hx => ?_))
  have I1 : Inv X pins σ H { s with heap := h' } := I.kept (t' := s.toks) fun b o e => hx b o (Nat.ne_of_lt (Heap.lt_size e)) e
  exact h.run pins _ σ H xs _ Q I1 (by simpa using rv) hw
def gSeqR (n : Nat) (g : List D → List Sl → R (List Sl)) : D → List Sl → R (List Sl)
  | .list ds, ρ => bd (req (ds.length = n)) fun _ => g ds ρ
  | .tuple ds, ρ => bd (req (ds.length = n)) fun _ => g ds ρ
  | _, _ => fail
theorem gS {X : Cx} {pos : Pos} {es : List Expr} {k n : Nat} {js : List Nat} {g : List D → List Sl → R (List Sl)} (h : PGs X es (tGs X.K js g)) (hc : X.calm = true := by rfl) (hn : (assignEach es X.env).length = n := by rfl) (hst : (assignEach es X.env).findIdx? (·.1) = none := by rfl) : PG X (.Tuple es k pos) (tG X.K js (gSeqR n g)) := by
  refine ⟨fun pins s σ H v u Q I rv ⟨c, G, ρ, d, post, w, r, k, hg, q⟩ => ?_⟩
  cases k with
  | tup e1 e2 => exact (pg_tup (pos := pos) hc h hn hst).run pins s σ H _ u Q I rv ⟨_, _, rfl, sqT_mono w.w.sub e1, by rw [e2.length]; exact hg.1, c, G, ρ, _, post, w, r, e2, hg.2, q⟩
  | lst e1 e2 => exact (pg_lst (pos := pos) hc h hn hst).run pins s σ H _ u Q I rv ⟨_, _, rfl, SqL.of (w.w.sub _ _ e1), by rw [e2.length]; exact hg.1, c, G, ρ, _, post, w, r, e2, hg.2, q⟩
  | _ => exact hg.elim
theorem gS2 {ρ : List Sl} {g h : D → List Sl → R (List Sl)} {a b : D} : gSeqR 2 (gConsR g (gConsR h gNilR)) (.list [a, b]) ρ = bd (g a ρ) (h b) := by
  show bd (req ([a, b].length = 2)) _ = _
  rw [bd_req (show [a, b].length = 2 from rfl)]
  show bd (g a ρ) (gConsR h gNilR [b]) = _
  have : gConsR h gNilR [b] = h b := by
    funext ρ'
    show bd (h b ρ') (gNilR []) = _
    exact bd_ret _
  rw [this]
end Pu

namespace Pu
open PySem PySem.Spec PyProof.Rows L2
/-! ### own dicts: moved, told, sorted -/
section
variable {K : PySem.W.Frag} {c : Ct} {G H : Hp} {σ : L2.St} {ρ : List Sl}
/-- a slot is forgotten -/
theorem RS.forget (r : RS K c G H σ ρ) (i : Nat) : RS K c G H σ (ρ.set i .un) := by
  refine ⟨by simp [r.len], fun j x h => ?_, fun j l ds es u h1 h2 k1 k2 h3 h4 => ?_⟩
  · rcases set_get h with ⟨rfl, rfl⟩ | ⟨hj, h⟩
    · exact .inl rfl
    · exact r.at_ j x h
  · rcases set_get h1 with ⟨_, e⟩ | ⟨n1, e1⟩
    · rw [e] at k1; cases k1
    · rcases set_get h2 with ⟨_, e⟩ | ⟨n2, e2⟩
      · rw [e] at k2; cases k2
      · exact r.dd j l ds es u e1 e2 k1 k2 h3 h4
end
/-- x = y, y an own dict: y is lost -/
def mvD (i j : Nat) : List Sl → R Out := fun ρ => bd (getOD ρ j) fun ds => ok (.nx ((ρ.set j .un).set i (.od ds)))
/-- a def's end: the own dict in a slot is told -/
def tRD (K : PySem.W.Frag) (h : List Sl → R (List (Key × D))) : TS := fun Z σ H => ∃ (c : Ct) (G : Hp) (ρ : List Sl) (post : List (Key × D) → Prop), Wd c G H ∧ RS K c G H σ ρ ∧ h ρ post ∧ ∀ ds, post ds → ∀ a G' H', Le G G' → Wd c G' H' → OwnD K c G' H' a ds → Z.rt (.ref a) H'
def odR (i : Nat) : List Sl → R (List (Key × D)) := fun ρ => getOD ρ i
def seqD (g : List Sl → R Out) (h : List Sl → R (List (Key × D))) : List Sl → R (List (Key × D)) := fun ρ => bd (g ρ) fun o => match o with
  | .nx ρ' => h ρ'
  | _ => fail
section
variable {X : Cx} {pos : Pos} {st : Stmt} {rest : List Stmt}
theorem sMvD (i j : Nat) {x y : Str} {p p' : Pos} (hN : X.N.Nodup) (hij : (i == j) = false := by rfl) (hi : X.N[i]? = some x := by rfl) (hx : Loc X.env.scope x := by first | exact Or.inl rfl | exact Or.inr rfl) (hj : X.N[j]? = some y := by rfl)
    (hvis : Vis X.env.scope y := by first | exact Or.inl rfl | exact Or.inr (Or.inl rfl) | exact Or.inr (Or.inr rfl)) (hd : (y == ("__debug__" : Str)) = false := by decide) (hcd : (y == ("__classdict__" : Str)) = false := by decide)
    (hs : swapsWith (.Name y p) (some (.Name x p')) pos.line X.env = pure false := by rfl) (hf : X.fn x = true ∨ X.env.scope.names.lookup x = some .local := by first | exact .inl rfl | exact .inr rfl) :
    PS X (.Assign [.Name x p'] (.Name y p) pos) (tS X.K (mvD i j)) :=
  PS.wk (ps_set hN hi hx (pe_var hj hvis hd hcd) hs hf) fun D σ H ⟨c, G, ρ, post, w, r, hg, q⟩ => by
    obtain ⟨ds, h0, hg⟩ := getOD_inv hg
    rcases r.at_ j _ h0 with z | ⟨v0, e0, a, rfl, o⟩
    · cases z
    · refine ⟨_, e0, ?_⟩
      refine q _ hg _ G H (fun _ _ e => e) w ((r.forget j).setOD o fun k es hk e => ?_)
      rcases set_get hk with ⟨_, z⟩ | ⟨nk, hk⟩
      · cases z
      · exact nk (r.dd k j _ _ _ hk h0 rfl rfl e e0)
theorem sRetD (i : Nat) {x : Str} {p : Pos} (hi : X.N[i]? = some x := by rfl) (hvis : Vis X.env.scope x := by first | exact Or.inl rfl | exact Or.inr (Or.inl rfl) | exact Or.inr (Or.inr rfl)) (hd : (x == ("__debug__" : Str)) = false := by decide) (hcd : (x == ("__classdict__" : Str)) = false := by decide) :
    PSs X [.Return (some (.Name x p)) pos] (tRD X.K (odR i)) :=
  PSs.wk (pss_one (ps_ret (pe_var hi hvis hd hcd))) fun D σ H ⟨c, G, ρ, post, w, r, hg, q⟩ => by
    obtain ⟨ds, h0, hg⟩ := getOD_inv hg
    rcases r.at_ i _ h0 with z | ⟨v0, e0, a, rfl, o⟩
    · cases z
    · exact ⟨_, e0, q _ hg a G H (fun _ _ e => e) w o⟩
theorem sConsD {g : List Sl → R Out} {h : List Sl → R (List (Key × D))} (h1 : PS X st (tS X.K g)) (h2 : PSs X rest (tRD X.K h)) : PSs X (st :: rest) (tRD X.K (seqD g h)) := PSs.wk (pss_cons h1 h2) fun D σ H ⟨c, G, ρ, post, w, r, hg, q⟩ =>
  ⟨c, G, ρ, _, w, r, hg, fun o ho => by
    cases o with
    | nx ρ' => exact fun σ' G' H' l w' r' => ⟨c, G', ρ', post, w', r', ho, fun ds hds a G2 H2 l2 => q ds hds a G2 H2 fun a o e => l2 a o (l a o e)⟩
    | rt d => exact ho.elim
    | bk ρ' => exact ho.elim
    | ct ρ' => exact ho.elim⟩
end
/-- what a def that tells an own dict does -/
def spRD (K : PySem.W.Frag) (n : Nat) (m : List D → R (List (Key × D))) : Sp := fun vs H Q _ => ∃ (E : Ef) (G : Hp) (ds : List D) (post : List (Key × D) → Prop), W0 E G H ∧ DqAll K G vs ds ∧ ds.length = n ∧ m ds post ∧
  ∀ r, post r → ∀ a G' H', H a = none → Ext E G H G' H' → W0 E G' H' → (∃ ws, H' a = some (.dK ws) ∧ DqK K G' ws r) → G' a = none → ¬ E.vol a → Q (.ref a) H'
def fnD (n : Nat) (g : List Sl → R (List (Key × D))) : List D → R (List (Key × D)) := fun ds => g (env0 ds n)
section
variable {P : Program} {w : World} {K : PySem.W.Frag} {mg : Str → Option Value} {base : Heap}
theorem fn_okD {x qual : Str} {st : Stmt} {f : Addr} {fd : FuncData} {N ps : List Str} {k : Nat} {g : List Sl → R (List (Key × D))} (F : Fun K x qual st f fd) (S : FnScope N ps (defScope st))
    (hb : ∀ (cdv : Value) (A : Around) (outer : List Env) (s : Shared) (H : Hp) (E : XK), Room k (A.deeper (envOfC qual (defScope st) s.heap.objs.size f cdv)) → PSs (cxOf CX0 P w K mg base N qual (defScope st) f cdv A outer s H E).nox (defBody st) (tRD K g)) :
    FnOk P w K mg base CX0 (k + 1) f fd ps (spRD K ps.length (fnD N.length g)) := by
  refine F.ok S (fun vs H Q E h => ?_) (fun cdv A outer s H vs Q E hr h => ?_)
  · obtain ⟨_, _, ds, _, _, hd, hl, _⟩ := h
    rw [hd.length, hl]
  · obtain ⟨Ef, G, ds, post, w0, hd, hl, hm, q⟩ := h
    refine ⟨_, hb cdv A outer s H E hr, ⟨Ef, G, H⟩, G, env0 ds N.length, _, ⟨w0, .refl⟩, rs_start N.length hd, hm, fun r hr a G' H' l w' o => ?_⟩
    exact q r hr a G' H' o.h0 w'.e w'.w o.at_ o.g o.v
end
section
variable {X : Cx} {k n j : Nat} {f : Addr} {fd : FuncData} {ps : List Str} {m : List D → R (List (Key × D))} {x : Str} {p pos : Pos} {e : Expr} {es : List Expr}
def callRD (n : Nat) (m : List D → R (List (Key × D))) : List D → R (List (Key × D)) := fun ds => bd (req (ds.length = n)) fun _ => m ds
theorem callRD_1 (m : List D → R (List (Key × D))) (a : D) : callRD 1 m [a] = m [a] := bd_req rfl _
theorem callDD {g : List Sl → R (List D)} (F : FnOk X.prog X.w X.K X.mg X.base CX0 k f fd ps (spRD X.K n m)) (hr : Room k X.A) (hm : X.mg x = some (.ref f)) (hk : PySem.W.keepIn X.K (.ref f) = true) (hb : Binds X.K fd ps []) (ha : PA X (e :: es) (tAF X.K g))
    (hg : Gl X x := by rfl) (hdb : (x == ("__debug__" : Str)) = false := by decide) (he : starEach (e :: es) X.env = (false, eval e X.env) :: starEach es X.env := by rfl) (hpl : (backTo pos (starEach es X.env)).any (·.1) = false := by rfl) : PE X (.Call (.Name x p) (e :: es) [] pos) (tFD X.K (m1 g (callRD n m))) :=
  PE.wk (pe_call F hr hg hm hk hb .nil pass0 ha hdb he hpl) fun σ H Q ⟨c, G, ρ, post, w, r, hf, q⟩ => ⟨c, G, ρ, _, w, r, hf, fun ds hds vs G1 H1 e1 w1 b1 => by
    show spRD X.K n m (vs ++ []) H1 Q E0
    rw [List.append_nil]
    refine ⟨c.E, G1, ds, post, w1, b1, hds.1, hds.2, fun r hr a G' H' ha e2 w2 at_ hg hv => ?_⟩
    have h0 : H a = none := by
      cases h : H a with
      | none => rfl
      | some u => rw [e1.h a u h hv] at ha; cases ha
    refine q r hr a G' H' h0 (e1.trans e2) w2 ⟨at_, hg, ?_, hv⟩
    cases h : c.H0 a with
    | none => rfl
    | some u => rw [w.e.h a u h hv] at h0; cases h0⟩
end
end Pu

namespace Pu
open PySem PySem.Spec PyProof.Rows L2
/-! ### sorted(dict), sorted(dict.items()) -/
structure SrtK (ds : List D) : Prop where
  al : W.AllAlike ds
  so : W.Sortable ds
  dp : ∀ d ∈ ds, d.depth ≤ 60
section
variable {X : Cx} {pins : List (Addr × Obj)} {σ : L2.St} {H : Hp} {s : Shared}
/-- a new list of known things is put in order -/
theorem sort_new (hu : X.A.units + 64 < cLine) {h' : Heap} {tk : Nat} {us : List Value} {vs : List V} {ds : List D} (I1 : Inv X pins σ H { s with heap := h', toks := tk }) (k : DqAll X.K H vs ds) (rv : Vals vs us) (so : SrtK ds) (hl : ds.length ≤ sizeLine) {R : Value → Shared → Prop} {E : Value → Shared → Prop}
    (h : ∀ (h2 : Heap) (out : List Value) (e : Nat), (∀ b o, h'.get? b = some o → h2.get? b = some o) → h2.get? h'.objs.size = some (seqObj "list" out.toArray e) → Vals (srtVs vs ds) out → ∀ v, R v { s with heap := h2, toks := tk }) :
    wpAny (model X.prog X.w) X.A.in1 (PySem.call (.builtin "list.sort") [.ref h'.objs.size]) R E { s with heap := h'.push (seqObj "list" us.toArray 0), toks := tk } := by
  obtain ⟨as, ra⟩ := dqAll_reads I1 k rv
  obtain ⟨h1, h2⟩ := srt_snd k
  have hoL : (h'.push (seqObj "list" us.toArray 0)).get? h'.objs.size = some (seqObj "list" us.toArray 0) := Heap.get?_push_size _ rfl
  have hlen : (vs.zip ds).length = ds.length := by rw [← List.length_map (f := (·.2)), h1]
  have hz : us.length ≤ sizeLine := by
    have e1 := rv.length
    have e2 := k.length
    omega
  have er : W.EachIs (fun v (b : V × D) => ∃ as, Reads h' v b.2 as) us (vs.zip ds) := srt_reads (s := { s with heap := h', toks := tk }) h1 ra
  have keep : ∀ b o, h'.get? b = some o → (W.sortingHeap (h'.push (seqObj "list" us.toArray 0)) h'.objs.size us).get? b = some o := fun b o e =>
    W.sortingHeap_old (Nat.ne_of_lt (Heap.lt_size e)) (Heap.get?_push_of_some _ e)
  have er' : W.EachIs (fun v (b : V × D) => ∃ as, Reads (W.sortingHeap (h'.push (seqObj "list" us.toArray 0)) h'.objs.size us) v b.2 as) us (vs.zip ds) := er.mono fun _ _ ⟨as, r⟩ => ⟨as, PyProof.Rows.Reads.keeps keep r⟩
  have em := W.each_map (R := fun v d => ∃ as, Reads (W.sortingHeap (h'.push (seqObj "list" us.toArray 0)) h'.objs.size us) v d as) (fun b : V × D => b.2) er'
  have hal : W.AllAlike ((vs.zip ds).map fun b => b.2) := by rw [h1]; exact so.al
  have hso : W.Sortable ((vs.zip ds).map fun b => b.2) := by rw [h1]; exact so.so
  have hb : ∀ d, d ∈ (vs.zip ds).map (fun b => b.2) → X.A.in1.in1.units + d.depth < cLine := fun d hd => by
    rw [h1] at hd
    have := so.dp d hd
    show X.A.units + 2 + d.depth < cLine
    omega
  refine wpAny_call_entry PyProof.Rows.slot_list_sort ⟨_, hoL, rfl⟩ PyProof.Rows.entry_list_sort ?_ (PyProof.Rows.args_list_sort _)
  refine W.list_sort_vals (s := { s with heap := h'.push (seqObj "list" us.toArray 0), toks := tk }) hoL (W.SortsAt.data (s := { s with heap := W.sortingHeap (h'.push (seqObj "list" us.toArray 0)) h'.objs.size us, toks := tk }) em hal hso hb) hz ⟨_, rfl, ?_⟩
  obtain ⟨e', he'⟩ := PyProof.Rows.sortedHeap_at (vs := us) (out := (W.sortVals (W.dataKind (W.sortingHeap (h'.push (seqObj "list" us.toArray 0)) h'.objs.size us) ((vs.zip ds).map fun b => b.2)) false us us).toArray) hoL
  refine h _ _ e' (fun b u e => ?_) he' (srt_vals (W.sortVals_data false (srt_each k rv) er' hal)) _
  have hb : b < h'.objs.size := Heap.lt_size e
  rw [PyProof.Rows.sortedHeap_old (Nat.ne_of_lt hb) (by rw [size_push']; exact Nat.lt_succ_of_lt hb)]
  exact Heap.get?_push_of_some _ e
def kD : Key → D
  | .inl i => .int i
  | .inr s => .str s
theorem dq_key {K : PySem.W.Frag} {G : Hp} : ∀ k : Key, Dq K G (kV k) (kD k)
  | .inl i => .int i
  | .inr s => .str s
theorem dq_keys {K : PySem.W.Frag} {G : Hp} : ∀ kvs : List (Key × V), DqAll K G (kvs.map fun kv => kV kv.1) (kvs.map fun kv => kD kv.1)
  | [] => .nil
  | kv :: r => .cons (dq_key kv.1) (dq_keys r)
def rSrtK : List V → Hp → VK → Prop := fun xs H Q => ∃ (a : Addr) (kvs : List (Key × V)), xs = [.ref a] ∧ H a = some (.dK kvs) ∧ SrtK (kvs.map fun kv => kD kv.1) ∧ ∀ p, H p = none → Q (.ref p) (upd H p (.lst (srtVs (kvs.map fun kv => kV kv.1) (kvs.map fun kv => kD kv.1))))
theorem srtVs_len {K : PySem.W.Frag} {G : Hp} {vs : List V} {ds : List D} (k : DqAll K G vs ds) : (srtVs vs ds).length = ds.length := by
  have := k.srt.length
  rw [this, List.length_mergeSort]
theorem call_sortedDk (hcalm : X.calm = true) (hu : X.A.units + 64 < cLine) : CallR X (.builtin "sorted") rSrtK := by
  intro pins s σ H xs us Q I r q
  obtain ⟨a, kvs, ex, hd, so, q⟩ := q
  subst ex
  obtain ⟨u, eu, rx⟩ := vals1 r
  subst eu
  cases rx
  obtain ⟨z, lo, vs, rel, dd⟩ := dk_of I.hok hd
  obtain ⟨ep, hat⟩ := dd.dictAt
  have hl : kvs.length = vs.length := Paired.length rel
  refine Calls.call_function_entry PyProof.Rows.kind_sorted PyProof.Rows.plain_sorted PyProof.Rows.entry_sorted (PyProof.Rows.args_sorted1 _) ?_
  unfold Builtin.«sorted»
  refine wpAny_bind (m := checkCount "sorted" 1 1 _) (wpAny_pure ?_)
  refine wpAny_bind (PySem.W.kdu_collect (A := X.A.in1) (PySem.W.kdl_dict (knd := mixKind X.prog X.w) (kvs := vs) (ep := ep) lo) (I.ok.hd hcalm) hat (by rw [← hl]; exact z) fun h' tk acc hk hacc => ?_)
  have hal : acc.toList.length = kvs.length := by rw [Array.length_toList, hacc.1, hl]
  have rv : Vals (kvs.map fun kv => kV kv.1) acc.toList := vals_of_at (by rw [List.length_map, hal]) fun j x w h1 h2 => by
    obtain ⟨k, y, hky, hi⟩ := hacc.2 j w (by rw [← Array.getElem?_toList]; exact h2)
    have e1 : (kvs.map (·.1))[j]? = some k := by
      rw [KV.keys rel, List.getElem?_map, hky] <;> rfl
    have e2 : (kvs.map fun kv => kV kv.1)[j]? = some (kV k) := by
      have e3 : (kvs.map fun kv => kV kv.1) = (kvs.map (·.1)).map kV := by rw [List.map_map] <;> rfl
      rw [e3, List.getElem?_map, e1] <;> rfl
    rw [e2] at h1
    cases h1
    exact keyIs_rel hi
  have I1 : Inv X pins σ H { s with heap := h', toks := tk } := I.kept hk
  refine wpAny_bind (wpAny_newList ?_ (by rw [hal]; exact z))
  show wpAny _ _ _ _ _ { s with heap := h'.push (seqObj "list" acc.toList.toArray 0), toks := tk }
  have k := dq_keys (K := X.K) (G := H) kvs
  refine wpAny_bind (wpAny_holding (sort_new hu I1 k rv so (by rw [List.length_map]; exact z) fun h2 out e' hk2 he' rv2 v => ?_))
  have hlen : (srtVs (kvs.map fun kv => kV kv.1) (kvs.map fun kv => kD kv.1)).length ≤ sizeLine := by rw [srtVs_len k, List.length_map]; exact z
  exact wpAny_pure ⟨_, rfl, .ref h'.objs.size, upd H h'.objs.size (.lst (srtVs (kvs.map fun kv => kV kv.1) (kvs.map fun kv => kD kv.1))), I1.laid (t' := tk) hk2 (Nat.le_refl _)
    (show ObjOk X.prog X.w _ _ _ (.lst _) from ⟨hlen, out, e', rv2, he'⟩), rfl, q _ (I1.hok.fresh (Nat.le_refl _))⟩
end
theorem DqK.keys {K : PySem.W.Frag} {G : Hp} : ∀ {vs : List (Key × V)} {ds : List (Key × D)}, DqK K G vs ds → vs.map (fun kv => kD kv.1) = ds.map fun kv => kD kv.1
  | _, _, .nil => rfl
  | _, _, .cons e q => by rw [List.map_cons, List.map_cons, DqK.keys q]
/-- sorted(x), sorted(..) of a dict told -/
def srtK_ (ds : List (Key × D)) : R (List D) := bd (req (SrtK (ds.map fun kv => kD kv.1))) fun _ => ok ((ds.map fun kv => kD kv.1).mergeSort dLe)
def srtAM (i : Nat) : List Sl → R (List D) := fun ρ => bd (getOD ρ i) srtK_
def srtFM (f : List Sl → R (List (Key × D))) : List Sl → R (List D) := fun ρ => bd (f ρ) srtK_
section
variable {X : Cx} {pos : Pos} {e : Expr}
theorem srtA (i : Nat) {x : Str} {p p2 : Pos} (hc : X.calm = true) (hu : X.A.units + 64 < cLine) (hm : X.mg "sorted" = none) (hg : Gl X "sorted" := by rfl) (hi : X.N[i]? = some x := by rfl) (hvis : Vis X.env.scope x := by first | exact Or.inl rfl | exact Or.inr (Or.inl rfl) | exact Or.inr (Or.inr rfl))
    (hd : (x == ("__debug__" : Str)) = false := by decide) (hcd : (x == ("__classdict__" : Str)) = false := by decide) (hs : starEach [.Name x p2] X.env = [(false, eval (.Name x p2) X.env)] := by rfl) (hpl : (backTo pos (starEach [] X.env)).any (·.1) = false := by rfl) :
    PE X (.Call (.Name "sorted" p) [.Name x p2] [] pos) (tF X.K (srtAM i)) :=
  PE.wk (pe_callB (call_sortedDk hc hu) hg hm (by decide +kernel) (pa_cons (pe_var hi hvis hd hcd) pa_nil hs) (by decide) (by decide) hs hpl) fun σ H Q ⟨c, G, ρ, post, w, r, hg, q⟩ => by
    obtain ⟨ds, h0, hg⟩ := getOD_inv hg
    rcases r.at_ i _ h0 with z | ⟨v0, e0, a, rfl, o⟩
    · cases z
    · obtain ⟨vs, hvs, kv⟩ := o.at_
      have k := dq_keys (K := X.K) (G := G) vs
      unfold srtK_ at hg
      rw [← kv.keys] at hg
      exact ⟨_, e0, a, vs, rfl, hvs, hg.1, fun p np => fin_new w .refl np k.srt hg.2 q⟩
theorem srtF {f : List Sl → R (List (Key × D))} {p : Pos} (hc : X.calm = true) (hu : X.A.units + 64 < cLine) (hm : X.mg "sorted" = none) (he : PE X e (tFD X.K f)) (hg : Gl X "sorted" := by rfl) (hs : starEach [e] X.env = [(false, eval e X.env)] := by rfl) (hpl : (backTo pos (starEach [] X.env)).any (·.1) = false := by rfl) :
    PE X (.Call (.Name "sorted" p) [e] [] pos) (tF X.K (srtFM f)) :=
  PE.wk (pe_callB (call_sortedDk hc hu) hg hm (by decide +kernel) (pa_cons he pa_nil hs) (by decide) (by decide) hs hpl) fun σ H Q ⟨c, G, ρ, post, w, r, hf, q⟩ => ⟨c, G, ρ, _, w, r, hf, fun ds hg a G1 H1 na e1 w1 o => by
    obtain ⟨vs, hvs, kv⟩ := o.at_
    have k := dq_keys (K := X.K) (G := G1) vs
    unfold srtK_ at hg
    rw [← kv.keys] at hg
    exact ⟨a, vs, rfl, hvs, hg.1, fun p np => fin_new (w.step w1 e1) e1 np k.srt hg.2 q⟩⟩
end
end Pu

namespace Pu
open PySem PySem.Spec PyProof.Rows L2
/-! ### sorted(d.items()) -/
def rViewK : V → Hp → VK → Prop := fun x H Q => ∃ (a : Addr) (kvs : List (Key × V)), x = .ref a ∧ H a = some (.dK kvs) ∧ ∀ p, H p = none → Q (.ref p) (upd H p (L2.DX.itemsO p a))
section
variable {X : Cx} {e : Expr} {te : TE} {apos cpos pos : Pos}
/-- d.items(), the view -/
theorem pe_viewK (he : PE X e te) (hbase : attributeBase e "items" X.env (eval e X.env) = eval e X.env := by rfl) (hline : (apos.endLine == cpos.line) = true := by rfl) : PE X (.Call (.Attribute e "items" apos) [] [] cpos) (fun σ H Q => te σ H fun x H1 => rViewK x H1 Q) := by
  refine ⟨fun pins s σ H Q I hq => ?_⟩
  refine wpAny_Call_method (T := "dict") (id := "dict.items") hbase rfl hline F.plainAttrs_dict F.slot_dict_items F.type_dict_items (thn (he.run pins s σ H _ I hq) fun u s1 ⟨x, H1, I1, rx, d, kvs, ex, hd, q⟩ => ?_)
  subst ex
  obtain rfl : u = Value.ref d := rx
  obtain ⟨hz, hs0, vs, kv, hdo⟩ := I1.hok d _ hd
  refine ⟨hdo.typeIs, hdo.mapOf.noDict, ?_⟩
  show wpAny _ _ (callWith cpos (.builtin "dict.items") [.ref d] [] []) _ X.xe s1
  refine method_meetsIn F.slot_dict_items F.entry_dict_items rfl (PySem.evalArgs_none ⟨rfl, hdo.typeIs, F.args_dict_items_1 _, _, meets_dict_items (mixKind X.prog X.w) d hs0, ⟨vs, hdo⟩, ?_⟩)
  exact ⟨.ref s1.heap.objs.size, upd H1 s1.heap.objs.size (L2.DX.itemsO s1.heap.objs.size d), I1.laid (t' := s1.toks) (fun b u e => Heap.get?_push_of_some _ e) (Nat.le_refl _) (L2.DX.itemsO_ok (Heap.get?_push_size _ rfl)), rfl, q _ (I1.hok.fresh (Nat.le_refl _))⟩
/-- the tuples of a view laid down -/
theorem items_laid2 {pins : List (Addr × Obj)} {σ : L2.St} {H : Hp} {s : Shared} {h' : Heap} {tk : Nat} {kvs : List (Key × V)} {vs : List (Key × Value)} {as : List Addr} (I : Inv X pins σ H s) (kv : KV kvs vs)
    (hk : ∀ b o, s.heap.get? b = some o → h'.get? b = some o) (hl : as.length = vs.length) (hG : PySem.W.KdxG (mixKind X.prog X.w) vs s.heap.objs.size h' as) :
    as.Nodup ∧ (∀ t ∈ as, H t = none) ∧ Inv X pins σ (LiI.putT H as kvs) { s with heap := h', toks := tk } := by
  have lk : kvs.length = vs.length := Paired.length kv
  have nd : as.Nodup := List.Pairwise.imp (fun {a b} (h : a < b) => Nat.ne_of_lt h) hG.rise
  have new : ∀ t ∈ as, H t = none := fun t ht => I.hok.fresh (Nat.le_of_lt (hG.above t ht))
  have atP := LiI.putT_at as kvs H (by omega) nd
  have off : ∀ b, b ∉ as → LiI.putT H as kvs b = H b := fun b h1 => LiI.putT_off as kvs _ h1
  have low : ∀ b o, s.heap.get? b = some o → b ∉ as := fun b o e z => absurd (Heap.lt_size e) (Nat.not_lt.mpr (Nat.le_of_lt (hG.above b z)))
  have kp : ∀ b u, H b = some u → LiI.putT H as kvs b = some u := fun b u e => by
    rw [off b (fun z => by rw [new b z] at e; cases e)]
    exact e
  refine ⟨nd, new, ?_⟩
  refine I.call' (ch := []) rfl ⟨fun b o q _ _ _ => hk b o q, fun b o q _ _ _ => ⟨o.slots, hk b o q⟩, fun b o q n _ => ?_, fun b o q _ => ⟨o, hk b o q⟩, fun b xs q => kp b _ q, fun b o u q => kp b _ q, fun b ps q => ⟨#[], by rw [kp b _ q]; simp⟩⟩ (fun b u q => ?_) I.bare fun b z => by simp at z
  · rw [off b (low b o q)]
    exact n
  · by_cases hb : b ∈ as
    · obtain ⟨j, pk, e1, e2, e3⟩ := LiI.paired_ix atP hb
      rw [e3] at q
      cases q
      obtain ⟨key, k, x, f1, f2, f3⟩ := hG.pairs j b e1
      obtain ⟨qv, g1, g2, g3⟩ := LiI.paired_get kv e2
      rw [f1] at g1
      cases g1
      have rk : RelV (kV pk.1) key := by
        rw [g2]
        exact relV_key (show keyIs k key = true from f2)
      exact ⟨by show 2 ≤ sizeLine; decide, [key, x], .cons rk (.cons g3 .nil), ⟨_, f3, rfl, _, rfl⟩⟩
    · rw [off b hb] at q
      exact (I.hok b u q).stay (fun d v _ y => hk d v y) (fun d y => kp d _ y) fun d xs y => kp d _ y
def itD (kv : Key × D) : D := .tuple [kD kv.1, kv.2]
theorem putT_dq {K : PySem.W.Frag} {G : Hp} : ∀ {kvs : List (Key × V)} {ds : List (Key × D)} {as : List Addr}, DqK K G kvs ds → as.length = kvs.length → as.Nodup → (∀ t ∈ as, G t = none) → DqAll K (LiI.putT G as kvs) (as.map V.ref) (ds.map itD) ∧ Le G (LiI.putT G as kvs)
  | _, _, [], .nil, _, _, _ => ⟨.nil, fun _ _ e => e⟩
  | _, _, _ :: _, .nil, h, _, _ => by cases h
  | _, _, [], .cons _ _, h, _, _ => by cases h
  | _, _, a :: as, .cons (k := k) (v := v) (d := d) (r := r) (s := s) e q, h, hn, new => by
    obtain ⟨h1, h2⟩ := List.nodup_cons.mp hn
    have le1 : Le G (upd G a (.tup [kV k, v])) := fun b o z => by rw [upd_ne (fun z2 => by rw [z2, new a List.mem_cons_self] at z; cases z)]; exact z
    have ih := putT_dq (G := upd G a (.tup [kV k, v])) (q.mono le1) (Nat.succ.inj h) h2 fun t ht => by
      rw [upd_ne (fun z => h1 (by rw [← z]; exact ht))]
      exact new t (List.mem_cons_of_mem _ ht)
    have le2 : Le G (LiI.putT G (a :: as) ((k, v) :: r)) := fun b o z => ih.2 b o (le1 b o z)
    refine ⟨.cons (.tup (.of ?_) (.cons (dq_key k) (.cons (e.mono le2) .nil))) ih.1, le2⟩
    exact ih.2 a _ upd_same
theorem call_sortedI (hcalm : X.calm = true) (hu : X.A.units + 64 < cLine) : CallR X (.builtin "sorted") (fun xs H Q => ∃ (p a : Addr) (kvs : List (Key × V)) (ds : List (Key × D)), xs = [.ref p] ∧ H p = some (L2.DX.itemsO p a) ∧ H a = some (.dK kvs) ∧ DqK X.K H kvs ds ∧ SrtK (ds.map itD) ∧
    ∀ as n, as.length = kvs.length → as.Nodup → (∀ t ∈ as, H t = none) → LiI.putT H as kvs n = none → Q (.ref n) (upd (LiI.putT H as kvs) n (.lst (srtVs (as.map V.ref) (ds.map itD))))) := by
  intro pins s σ H xs us Q I r q
  obtain ⟨p, a, kvs, ds, ex, hp, hd, hq, so, q⟩ := q
  subst ex
  obtain ⟨u, eu, rx⟩ := vals1 r
  subst eu
  cases rx
  obtain ⟨z, lo, vs, rel, dd⟩ := dk_of I.hok hd
  obtain ⟨ep, hat⟩ := dd.dictAt
  have hv : s.heap.IsItemsView p a := (show ObjOk X.prog X.w H s.heap p (L2.DX.itemsO p a) from I.hok p _ hp).1
  have hl : kvs.length = vs.length := Paired.length rel
  refine Calls.call_function_entry PyProof.Rows.kind_sorted PyProof.Rows.plain_sorted PyProof.Rows.entry_sorted (PyProof.Rows.args_sorted1 _) ?_
  unfold Builtin.«sorted»
  refine wpAny_bind (m := checkCount "sorted" 1 1 _) (wpAny_pure ?_)
  refine wpAny_bind (PySem.W.kdx_collect (A := X.A.in1) (knd := mixKind X.prog X.w) (kvs := vs) (ep := ep) (I.ok.hd hcalm) hv hat (by rw [← hl]; exact z) fun h' tk as hk hal hG => ?_)
  obtain ⟨nd, new, I1⟩ := items_laid2 (tk := tk) I rel hk hal hG
  have k := (putT_dq (K := X.K) (G := H) hq (by rw [hal, hl]) nd new).1
  have rv : Vals (as.map V.ref) (as.map Value.ref) := LiI.vals_refs as
  have hds : ds.length = kvs.length := hq.length.symm
  have hz : (ds.map itD).length ≤ sizeLine := by rw [List.length_map, hds]; exact z
  refine wpAny_bind (wpAny_newList ?_ (by rw [List.length_map, hal, ← hl]; exact z))
  show wpAny _ _ _ _ _ { s with heap := h'.push (seqObj "list" (as.map Value.ref).toArray 0), toks := tk }
  refine wpAny_bind (wpAny_holding (sort_new hu I1 k rv so hz fun h2 out e' hk2 he' rv2 v => ?_))
  have hlen : (srtVs (as.map V.ref) (ds.map itD)).length ≤ sizeLine := by rw [srtVs_len k]; exact hz
  exact wpAny_pure ⟨_, rfl, .ref h'.objs.size, upd (LiI.putT H as kvs) h'.objs.size (.lst (srtVs (as.map V.ref) (ds.map itD))), I1.laid (t' := tk) hk2 (Nat.le_refl _)
    (show ObjOk X.prog X.w _ _ _ (.lst _) from ⟨hlen, out, e', rv2, he'⟩), rfl, q as _ (by rw [hal, hl]) nd new (I1.hok.fresh (Nat.le_refl _))⟩
theorem newT {E : Ef} : ∀ (as : List Addr) (kvs : List (Key × V)) {G H : Hp}, W0 E G H → as.Nodup → (∀ t ∈ as, H t = none) → W0 E (LiI.putT G as kvs) (LiI.putT H as kvs) ∧ Ext E G H (LiI.putT G as kvs) (LiI.putT H as kvs)
  | [], _, _, _, w, _, _ => ⟨w, .refl⟩
  | _ :: _, [], _, _, w, _, _ => ⟨w, .refl⟩
  | a :: as, kv :: kvs, G, H, w, hn, new => by
    obtain ⟨h1, h2⟩ := List.nodup_cons.mp hn
    obtain ⟨w1, e1⟩ := w.newF (new a List.mem_cons_self) (.tup [kV kv.1, kv.2])
    obtain ⟨w2, e2⟩ := newT as kvs w1 h2 fun t ht => by
      rw [upd_ne (fun z => h1 (by rw [← z]; exact ht))]
      exact new t (List.mem_cons_of_mem _ ht)
    exact ⟨w2, e1.trans e2⟩
def srtIM (i : Nat) : List Sl → R (List D) := fun ρ => bd (getOD ρ i) fun ds => bd (req (SrtK (ds.map itD))) fun _ => ok ((ds.map itD).mergeSort dLe)
theorem srtI (i : Nat) {x : Str} {p p2 : Pos} (hc : X.calm = true) (hu : X.A.units + 64 < cLine) (hm : X.mg "sorted" = none) (hg : Gl X "sorted" := by rfl) (hi : X.N[i]? = some x := by rfl) (hvis : Vis X.env.scope x := by first | exact Or.inl rfl | exact Or.inr (Or.inl rfl) | exact Or.inr (Or.inr rfl))
    (hd : (x == ("__debug__" : Str)) = false := by decide) (hcd : (x == ("__classdict__" : Str)) = false := by decide)
    (hbase : attributeBase (.Name x p2) "items" X.env (eval (.Name x p2) X.env) = eval (.Name x p2) X.env := by rfl) (hline : (apos.endLine == cpos.line) = true := by rfl)
    (hs : starEach [.Call (.Attribute (.Name x p2) "items" apos) [] [] cpos] X.env = [(false, eval (.Call (.Attribute (.Name x p2) "items" apos) [] [] cpos) X.env)] := by rfl) (hpl : (backTo pos (starEach [] X.env)).any (·.1) = false := by rfl) :
    PE X (.Call (.Name "sorted" p) [.Call (.Attribute (.Name x p2) "items" apos) [] [] cpos] [] pos) (tF X.K (srtIM i)) :=
  PE.wk (pe_callB (call_sortedI hc hu) hg hm (by decide +kernel) (pa_cons (pe_viewK (pe_var hi hvis hd hcd) hbase hline) pa_nil hs) (by decide) (by decide) hs hpl) fun σ H Q ⟨c, G, ρ, post, w, r, hg, q⟩ => by
    obtain ⟨ds, h0, hg⟩ := getOD_inv hg
    rcases r.at_ i _ h0 with z | ⟨v0, e0, a, rfl, o⟩
    · cases z
    · obtain ⟨vs, hvs, kv⟩ := o.at_
      refine ⟨_, e0, a, vs, rfl, hvs, fun p np => ?_⟩
      have ne : a ≠ p := ne_of_none hvs np
      obtain ⟨w1, e1⟩ := w.w.new np (L2.DX.itemsO p a)
      have wd1 := w.step w1 e1
      refine ⟨p, a, vs, ds, rfl, upd_same, by rw [upd_ne ne]; exact hvs, kv.mono w1.sub, hg.1, fun as n hl hn new nn => ?_⟩
      obtain ⟨w2, e2⟩ := newT as vs w1 hn new
      have k := (putT_dq (K := X.K) (G := G) kv hl hn fun t ht => (w1.fresh (new t ht)).1).1
      exact fin_new (wd1.step w2 e2) (e1.trans e2) nn k.srt hg.2 q
end
end Pu

namespace Pu
open PySem PySem.Spec PyProof.Rows L2
/-! ### {k: v for ..}, keys ints and texts -/
def dcF (g : D → List Sl → R (List Sl)) (tt : List Sl → R Bool) (tk tv : List Sl → R D) : List D → List Sl → List (Key × D) → R (List (Key × D))
  | [], _, acc => ok acc
  | d :: ds, ρ, acc => bd (g d ρ) fun ρ1 => bd (tt ρ1) fun b => if b = true then bd (tk ρ1) fun k => bd (tv ρ1) fun v => bd (keyR k) fun kk => dcF g tt tk tv ds ρ (putG acc kk v) else dcF g tt tk tv ds ρ acc
def dcM (vs : List Nat) (fi : List Sl → R (List D)) (g : D → List Sl → R (List Sl)) (tt : List Sl → R Bool) (tk tv : List Sl → R D) : List Sl → R (List (Key × D)) := fun ρ => bd (fi ρ) fun ds => dcF g tt tk tv ds (wipeS ρ vs) []
theorem putG_len (acc : List (Key × D)) (k : Key) (d : D) : (putG acc k d).length ≤ acc.length + 1 := by
  unfold putG
  split
  · simp
  · simp
theorem dc_of {K : PySem.W.Frag} {vs js : List Nat} {fi : List Sl → R (List D)} {g : D → List Sl → R (List Sl)} {tt : List Sl → R Bool} {tk tv : List Sl → R D} (hjs : ∀ j ∈ js, j ∈ vs) {σ : L2.St} {H : Hp} {Q : VK}
    (q : tFD K (dcM vs fi g tt tk tv) σ H Q) : L2.tDc (tIw K fi) (tG K js g) (tT K tt) (tP K tk) (tP K tv) vs σ H Q := by
  obtain ⟨c, G, ρ, post, w, r, hf, q⟩ := q
  refine ⟨c, G, ρ, _, w, r, hf, fun ds hds hl J G1 H1 e1 w1 wk D0 hD => ?_⟩
  have wd1 := w.step w1 e1
  obtain ⟨wn, en⟩ := w1.new hD (.dK [])
  have nv : ¬ c.E.vol D0 := (w1.fresh hD).2
  have nD : H D0 = none := e1.none hD nv
  have h0 : c.H0 D0 = none := by
    cases h : c.H0 D0 with
    | none => rfl
    | some u => rw [w.e.h D0 u h nv] at nD; cases nD
  refine ⟨fun i m H' => i + m = ds.length ∧ ∃ G' accd acc, Ext c.E G1 (upd H1 D0 (.dK [])) G' (upd H' D0 (.dK [])) ∧ W0 c.E G' H' ∧ H' D0 = some (.dK acc) ∧ G' D0 = none ∧ DqK K G' acc accd ∧ accd.length ≤ i ∧ dcF g tt tk tv (ds.drop i) (wipeS ρ vs) accd post,
    ⟨ds.length, by omega, G1, [], [], by rw [upd_upd]; exact .refl, wn, upd_same, (w1.fresh hD).1, .nil, Nat.le_refl _, by simpa using hds⟩, fun i m H' ⟨him, G', accd, acc, ex, w', hacc, gD, kacc, hlen, hlc⟩ => ?_⟩
  have ext1 : Ext c.E G1 H1 G' H' := by
    refine ⟨ex.g, fun p o hp v => ?_, fun p o hp v g0 => ?_⟩
    · have hne : p ≠ D0 := ne_of_none hp hD
      have := ex.h p o (by rw [upd_ne hne]; exact hp) v
      rw [upd_ne hne] at this; exact this
    · have hne : p ≠ D0 := ne_of_none hp hD
      exact ex.n p o (by rw [upd_ne hne]; exact hp) v g0
  have extO : Ext c.E G H G' H' := e1.trans ext1
  have wd' : Wd c G' H' := w.step w' extO
  obtain ⟨go, stop⟩ := wk i G' H' ext1 w'
  cases hd : ds[i]? with
  | none =>
    have hle : ds.length ≤ i := List.getElem?_eq_none_iff.mp hd
    rw [List.drop_eq_nil_of_le hle] at hlc
    exact .inl ⟨stop hle, q accd hlc D0 G' H' nD extO w' ⟨⟨acc, hacc, kacc⟩, gD, h0, nv⟩⟩
  | some d =>
    obtain ⟨hlt, hget⟩ := List.getElem?_eq_some_iff.mp hd
    obtain ⟨g1, y1⟩ := go d hd
    rw [List.drop_eq_getElem_cons hlt, hget] at hlc
    refine .inr ⟨g1, fun H'' => ∃ G'' accd' acc', Ext c.E G1 (upd H1 D0 (.dK [])) G'' (upd H'' D0 (.dK [])) ∧ W0 c.E G'' H'' ∧ H'' D0 = some (.dK acc') ∧ G'' D0 = none ∧ DqK K G'' acc' accd' ∧ accd'.length ≤ i + 1 ∧ dcF g tt tk tv (ds.drop (i + 1)) (wipeS ρ vs) accd' post,
      fun H'' h => ⟨m - 1, by omega, by omega, h⟩, fun x H3 hy => ?_⟩
    obtain ⟨G3, e3, w3, k3⟩ := y1 x H3 hy
    have wd3 := wd'.step w3 e3
    have rw3 : RS K c G3 H3 (L2.wipe σ vs) (wipeS ρ vs) := ((r.ext extO).ext e3).wipe vs
    refine ⟨c, G3, wipeS ρ vs, d, _, wd3, rw3, k3, hlc, fun ρ4 h4 σ4 r4 t4 => ?_⟩
    have hwipe : L2.wipe σ4 vs = L2.wipe σ vs := by
      rw [← wipe_wipe σ vs]
      exact wipe_eq t4.1 fun j hj => t4.2 j fun z => hj (hjs j z)
    refine ⟨hwipe, c, G3, ρ4, _, wd3, r4, h4, fun b hb G5 H5 e5 w5 => ?_⟩
    have later : ∀ G6 H6, Ext c.E G' H' G6 H6 → W0 c.E G6 H6 → H6 D0 = some (.dK acc) ∧ G6 D0 = none ∧ DqK K G6 acc accd ∧ Ext c.E G1 (upd H1 D0 (.dK [])) G6 (upd H6 D0 (.dK [])) := fun G6 H6 e6 w6 => by
      refine ⟨e6.h _ _ hacc nv, e6.n _ _ hacc nv gD, kacc.mono e6.g, ex.trans ⟨e6.g, fun p o hp v => ?_, fun p o hp v g0 => ?_⟩⟩
      · by_cases hpD : p = D0
        · subst hpD; rw [upd_same] at hp ⊢; exact hp
        · rw [upd_ne hpD] at hp ⊢; exact e6.h p o hp v
      · by_cases hpD : p = D0
        · subst hpD; exact e6.n _ _ hacc nv gD
        · rw [upd_ne hpD] at hp; exact e6.n p o hp v g0
    cases b with
    | false =>
      obtain ⟨a1, a2, a3, a4⟩ := later G5 H5 (e3.trans e5) w5
      exact ⟨G5, accd, acc, a4, w5, a1, a2, a3, by omega, hb⟩
    | true =>
      refine ⟨c, G5, ρ4, _, wd3.step w5 e5, r4.ext e5, hb, fun y hy v G6 H6 e6 w6 k6 => ?_⟩
      refine ⟨c, G6, ρ4, _, (wd3.step w5 e5).step w6 e6, (r4.ext e5).ext e6, hy, fun y2 hy2 v2 G7 H7 e7 w7 k7 => ?_⟩
      obtain ⟨a1, a2, a3, a4⟩ := later G7 H7 (((e3.trans e5).trans e6).trans e7) w7
      obtain ⟨kk, rfl, hk⟩ := keyR_inv (k6.mono e7.g) hy2
      have pl := putG_len accd kk y2
      refine ⟨acc, kk, rfl, a1, by rw [kacc.length]; omega, G7, putG accd kk y2, putK acc kk v2, by rw [upd_upd]; exact a4, ⟨fun p o hp => ?_, w7.vol, Ef.loc w7.inv fun p vp => ?_⟩, upd_same, a2, a3.put kk k7, by omega, hk⟩
      · rw [upd_ne (by rintro rfl; rw [a2] at hp; cases hp)]; exact w7.sub p o hp
      · rw [upd_ne (by rintro rfl; exact nv vp)]
section
variable {X : Cx} {tg iter kx vx : Expr} {pos : Pos}
theorem dc {scope : Scope} {own : List (Str × Nat)} {ifs : List Expr} {js : List Nat} {fi : List Sl → R (List D)} {g : D → List Sl → R (List Sl)} {tt : List Sl → R Bool} {tk tv : List Sl → R D} (hN : X.N.Nodup) (okb : blkC X.N X.env.scope scope own = true) (hi : PI X tg iter (tIw X.K fi))
    (hg : ∀ (s : Shared) (H : Hp) (C : Addr) (cl : List (Str × Addr)) (fp : List Addr), PG (X.blk s H scope (compEnvC scope cl C X.env) fp) tg (tG X.K js g)) (ht : ∀ (s : Shared) (H : Hp) (C : Addr) (cl : List (Str × Addr)) (fp : List Addr), PTs (X.blk s H scope (compEnvC scope cl C X.env) fp) ifs (tT X.K tt))
    (hk : ∀ (s : Shared) (H : Hp) (C : Addr) (cl : List (Str × Addr)) (fp : List Addr), PE (X.blk s H scope (compEnvC scope cl C X.env) fp) kx (tP X.K tk)) (he : ∀ (s : Shared) (H : Hp) (C : Addr) (cl : List (Str × Addr)) (fp : List Addr), PE (X.blk s H scope (compEnvC scope cl C X.env) fp) vx (tP X.K tv))
    (hjs : ∀ j ∈ js, j ∈ own.map (·.2) := by decide) (hc : X.calm = true := by rfl) (hs : ∀ x, foldedSetIterable iter X.env x = pure x := by intro _; rfl) :
    PE X (.DictComp kx vx [⟨tg, iter, ifs, 0⟩] scope pos) (tFD X.K (dcM (own.map (·.2)) fi g tt tk tv)) := PE.wk (pe_dc hc hN hi (blkOk_by okb) hg ht hk he hs) fun _ _ _ q => dc_of hjs q
end
end Pu

namespace Pu
open PySem PySem.Spec PyProof.Rows L2
/-! ### min(a, b) of data; len(dict) -/
open PySem.W in
theorem min_two_data {prog : Program} {w : World} {A : Around} {E : Value → Shared → Prop} {s : Shared} {a b : Value} {x y : D} {as : List Addr} {Q : Value → Shared → Prop} (hh : A.handled = none) (hr : ReadsAll s.heap [a, b] [x, y] as) (ha : AlikeAll [x, y]) (hu : A.units + 1 + PyData.depthAll [x, y] < cLine)
    (h : ∀ (i : Nat) v h' tk bs, [a, b][i]? = some v → Reads h' v (minD x [y]) bs → (∀ b o, s.heap.get? b = some o → h'.get? b = some o) → Q v { s with heap := h', toks := tk }) : wpAny (model prog w) A (PySem.call (.builtin "min") [a, b]) Q E s := by
  have hname : (toString "min" ++ toString ".loop" : String) = "min.loop" := by decide
  refine call_function_tree F.kind_min F.plain_min F.entry_min (F.args_min2 _ _) ?_
  show wpAny _ A.in1 (Builtin.Builtins.bindParams "min" ["key", "default"] 0 ⟨[], []⟩ >>= _) _ _ s
  refine wpAny_bind (wpAny_of_eq (show Builtin.Builtins.bindParams "min" ["key", "default"] 0 ⟨[], []⟩ = pure [none, none] from rfl) ?_)
  show wpAny _ A.in1 (newTuple [a, b] >>= _) _ _ s
  refine wpAny_bind (wpAny_newObj_type ?_)
  have hT : (s.heap.push { cls := .type "tuple", data := .seq #[a, b] }).IsTuple s.heap.objs.size #[a, b] := ⟨_, Heap.get?_push_size _ rfl, rfl, 0, rfl⟩
  have k1 : ∀ b' o, s.heap.get? b' = some o → (s.heap.push { cls := .type "tuple", data := .seq #[a, b] }).get? b' = some o := fun b' o e => Heap.get?_push_of_some _ e
  have hr1 : ReadsAll (s.heap.push { cls := .type "tuple", data := .seq #[a, b] }) (#[a, b] : Array Value).toList [x, y] as := PyProof.Rows.ReadsAll.keeps k1 hr
  refine wpAny_bind (iter_tupleW (A := A.in1) (s := { s with heap := s.heap.push { cls := .type "tuple", data := .seq #[a, b] } }) hh hT fun s₂ e W st hfp hw hk => ?_)
  refine wpAny_bind (wpAny_newObj_type ?_)
  have hSf : s₂.heap.objs.size ∉ _ := fun hm => Nat.lt_irrefl _ (hfp _ hm)
  rw [hname]
  have hcmp := cmpIn_lt (prog := prog) (w := w) (A := A.in1) (s := { s with heap := s.heap.push { cls := .type "tuple", data := .seq #[a, b] } }) hr1 ha (by show A.units + 1 + _ < _; exact hu)
  refine wpAny_pure ⟨plainId_quiet F.plain_min_loop _, codeAny_min_loop_firstH W _ hw _ hcmp s₂.heap.objs.size hSf (fresh_in hk) _ (by simp) (fun b o e => Heap.get?_push_of_some _ (hk b o e)) (W.frame 0 s₂ _ s₂.toks st (Nat.le_refl _) fun b _ o e => Heap.get?_push_of_some _ e) (Heap.get?_push_size _ rfl) fun v s' hP hm => ?_⟩
  obtain ⟨h', tk, rfl, hk'⟩ := moved_old e rfl (Moved.drop_new (tk := s₂.toks) hm (Nat.le_refl _))
  obtain ⟨bs, r, _, _, _⟩ := readsAll_atA hr1 _ v hP
  have e2 := (argBest_fold dataLt PyData.none x [y] 1 (Nat.le_refl _)).2
  rw [show List.take 1 [y] = [y] from rfl] at e2
  have hP' := hP
  rw [← Array.getElem?_toList] at hP'
  exact h _ v h' tk bs hP' (reads_keeps hk' (by unfold minD; rw [← e2]; exact r)) fun b o e => hk' b o (k1 b o e)
section
variable {X : Cx}
theorem call_minTQ (hh : X.calm = true) (hu : X.A.units + 64 < cLine) : CallR X (.builtin "min") (fun xs H Q => ∃ u v x y, xs = [u, v] ∧ Dq X.K H u x ∧ Dq X.K H v y ∧ (W.AlikeAll [x, y] ∧ PyData.depthAll [x, y] ≤ 60) ∧ ∀ (i : Nat) z, [u, v][i]? = some z → [x, y][i]? = some (W.minD x [y]) → Q z H) := by
  intro pins s σ H xs us Q I r h
  obtain ⟨u, v, x, y, rfl, hx, hy, ha, q⟩ := h
  obtain ⟨u1, u2, rfl, r1, r2⟩ := vals2 r
  have k : DqAll X.K H [u, v] [x, y] := .cons hx (.cons hy .nil)
  have rv : Vals [u, v] [u1, u2] := .cons r1 (.cons r2 .nil)
  obtain ⟨as, ra⟩ := dqAll_reads I k rv
  refine min_two_data (I.ok.hd hh) ra ha.1 (by omega) fun i v h' tk bs hv hr hk => ?_
  obtain ⟨z, e1, e2⟩ := vals_back rv hv
  exact ⟨z, H, I.kept hk, e2, q i z e1 (reads_same ra k.plain hv hr hk)⟩
end
def minTR : List D → R D
  | [.tuple xs, .tuple ys] => bestV W.minD [.tuple xs, .tuple ys]
  | _ => fail
theorem kMinT {X : Cx} (hh : X.calm = true) (hu : X.A.units + 64 < cLine) : CalQ X (.builtin "min") minTR := ⟨_, call_minTQ hh hu, by
  intro c G H vs ds post Q w bs hp q
  match ds, bs, hp with
  | [.tuple xs, .tuple ys], bs, hp =>
    obtain ⟨u, v, rfl, b1, b2⟩ := bs.two
    obtain ⟨p, us, rfl, e1, e2⟩ := b1.tup
    obtain ⟨p', us', rfl, e1', e2'⟩ := b2.tup
    have q1 : Dq X.K G (.ref p) (.tuple xs) := .tup e1 e2
    have q2 : Dq X.K G (.ref p') (.tuple ys) := .tup e1' e2'
    refine ⟨_, _, _, _, rfl, q1.mono w.sub, q2.mono w.sub, hp.1, fun i z h1 h2 => ?_⟩
    exact best_fin w (.cons q1 (.cons q2 .nil)) hp.2 q i z h1 h2⟩
/-- len(x), x an own dict -/
def lenDM (i : Nat) : List Sl → R D := fun ρ => bd (getOD ρ i) fun ds => ok (.int ds.length)
theorem lenD {X : Cx} {pos : Pos} (i : Nat) {x : Str} {p p2 : Pos} (hm : X.mg "len" = none) (hg : Gl X "len" := by rfl) (hi : X.N[i]? = some x := by rfl) (hvis : Vis X.env.scope x := by first | exact Or.inl rfl | exact Or.inr (Or.inl rfl) | exact Or.inr (Or.inr rfl))
    (hd : (x == ("__debug__" : Str)) = false := by decide) (hcd : (x == ("__classdict__" : Str)) = false := by decide) (hs : starEach [.Name x p2] X.env = [(false, eval (.Name x p2) X.env)] := by rfl) (hpl : (backTo pos (starEach [] X.env)).any (·.1) = false := by rfl) :
    PE X (.Call (.Name "len" p) [.Name x p2] [] pos) (tP X.K (lenDM i)) :=
  PE.wk (pe_callB call_lenD hg hm (by decide +kernel) (pa_cons (pe_var hi hvis hd hcd) pa_nil hs) (by decide) (by decide) hs hpl) fun σ H Q ⟨c, G, ρ, post, w, r, hg, q⟩ => by
    obtain ⟨ds, h0, hg⟩ := getOD_inv hg
    rcases r.at_ i _ h0 with z | ⟨v0, e0, a, rfl, o⟩
    · cases z
    · obtain ⟨vs, hvs, kv⟩ := o.at_
      refine ⟨_, e0, a, vs, rfl, hvs, ?_⟩
      rw [kv.length]
      exact q _ hg _ G H .refl w.w (.int _)
section
variable {X : Cx} {k n : Nat} {ps : List Str} {m : List D → R (List (Key × D))} {x : Str} {p pos : Pos} {e : Expr} {es : List Expr}
theorem callDDf {g : List Sl → R (List D)} (F : Def X.prog X.w X.K X.mg X.base x ps k (spRD X.K n m)) (hr : Room k X.A) (ha : PA X (e :: es) (tAF X.K g))
    (hg : Gl X x := by rfl) (hdb : (x == ("__debug__" : Str)) = false := by decide) (he : starEach (e :: es) X.env = (false, eval e X.env) :: starEach es X.env := by rfl) (hpl : (backTo pos (starEach es X.env)).any (·.1) = false := by rfl) : PE X (.Call (.Name x p) (e :: es) [] pos) (tFD X.K (m1 g (callRD n m))) :=
  let ⟨_, _, hm, hk, hb, F⟩ := F.ex
  callDD F hr hm hk hb ha hg hdb he hpl
end
end Pu

namespace Pu
open PySem PySem.Spec PyProof.Rows L2
/-! ### small data: numbers of B bits, rows of L things, n deep -/
def Gd (B L : Nat) : Nat → D → Prop
  | _, .int i => Bt B i
  | _, .none => True
  | _, .bool _ => True
  | _, .str _ => True
  | n + 1, .tuple ds => ds.length ≤ L ∧ ∀ x ∈ ds, Gd B L n x
  | _, _ => False
variable {B L B' L' n m : Nat}
theorem gd_int {i : Int} : Gd B L n (.int i) ↔ Bt B i := by cases n <;> exact Iff.rfl
theorem gd_none : Gd B L n .none := by cases n <;> trivial
theorem gd_bool {b : Bool} : Gd B L n (.bool b) := by cases n <;> trivial
theorem gd_str {s : Str} : Gd B L n (.str s) := by cases n <;> trivial
theorem gd_tup {ds : List D} : Gd B L (n + 1) (.tuple ds) ↔ ds.length ≤ L ∧ ∀ x ∈ ds, Gd B L n x := Iff.rfl
theorem Gd.mono (hB : B ≤ B') (hL : L ≤ L') : ∀ {n m : Nat}, n ≤ m → ∀ {d : D}, Gd B L n d → Gd B' L' m d := by
  intro n
  induction n with
  | zero =>
    intro m hm d h
    cases d with
    | int i => exact gd_int.mpr ((gd_int.mp h).mono hB)
    | none => exact gd_none
    | bool b => exact gd_bool
    | str s => exact gd_str
    | tuple ds => exact h.elim
    | list ds => exact h.elim
    | dict ds => exact h.elim
  | succ n ih =>
    intro m hm d h
    cases d with
    | int i => exact gd_int.mpr ((gd_int.mp h).mono hB)
    | none => exact gd_none
    | bool b => exact gd_bool
    | str s => exact gd_str
    | tuple ds =>
      obtain ⟨m, rfl⟩ : ∃ k, m = k + 1 := ⟨m - 1, by omega⟩
      exact ⟨Nat.le_trans h.1 hL, fun x hx => ih (by omega) (h.2 x hx)⟩
    | list ds => exact h.elim
    | dict ds => exact h.elim
theorem gd_app {xs ys : List D} (h : Gd B L (n + 1) (.tuple xs)) (k : Gd B' L' (m + 1) (.tuple ys)) {B2 L2 n2 : Nat} (hB : B ≤ B2) (hB' : B' ≤ B2) (hn : n ≤ n2) (hm : m ≤ n2) (hL : L ≤ L2) (hL' : L' ≤ L2) (hl : xs.length + ys.length ≤ L2) : Gd B2 L2 (n2 + 1) (.tuple (xs ++ ys)) := by
  refine ⟨by simpa using hl, fun x hx => ?_⟩
  rcases List.mem_append.mp hx with hx | hx
  · exact (h.2 x hx).mono hB hL hn
  · exact (k.2 x hx).mono hB' hL' hm
theorem gd_sub {xs ys : List D} (h : Gd B L (n + 1) (.tuple xs)) (hs : ∀ y ∈ ys, y ∈ xs) (hl : ys.length ≤ L) : Gd B L (n + 1) (.tuple ys) := ⟨hl, fun y hy => h.2 y (hs y hy)⟩
theorem cutG_mem {α : Type} {l : List α} {a b : Option Int} {x : α} (h : x ∈ cutG l a b) : x ∈ l := List.mem_of_mem_drop (List.mem_of_mem_take h)
theorem cutG_len {α : Type} (l : List α) (a b : Option Int) : (cutG l a b).length ≤ l.length := by
  unfold cutG; simp; omega
theorem gd_cut {xs : List D} {a b : Option Int} (h : Gd B L (n + 1) (.tuple xs)) : Gd B L (n + 1) (.tuple (cutG xs a b)) := gd_sub h (fun _ => cutG_mem) (Nat.le_trans (cutG_len _ _ _) h.1)
theorem gd_rev {xs : List D} (h : Gd B L (n + 1) (.tuple xs)) : Gd B L (n + 1) (.tuple xs.reverse) := gd_sub h (fun y hy => by simpa using hy) (by simpa using h.1)
theorem gd_ints {l : List Int} (h : ∀ i ∈ l, Bt B i) (hl : l.length ≤ L) : Gd B L (n + 1) (.tuple (l.map .int)) := ⟨by simpa using hl, fun x hx => by
  obtain ⟨i, hi, rfl⟩ := List.mem_map.mp hx
  exact gd_int.mpr (h i hi)⟩
theorem slR_t (l : List D) (lo hi : Option Int) : slR (.tuple l) lo hi = ok (.tuple (cutG l lo hi)) := rfl
theorem revR_t (l : List D) : revR (.tuple l) = ok (.tuple l.reverse) := rfl
theorem lcM_d {ρ : List Sl} {vs : List Nat} {i : Nat} {fi : List Sl → R (List D)} {te : List Sl → R D} {l : List D} {h : D → D} (hi : fi ρ = ok l) (he : ∀ x ∈ l, te ((wipeS ρ vs).set i (.dat x)) = ok (h x)) : lcM vs fi (gSet i) yesT te ρ = ok (l.map h) :=
  lcM_map (f := fun x => x) (by rw [List.map_id']; exact hi) he
/-- a draw of one of a list's -/
theorem bd_ixm {α : Type} {l : List D} {d : Int} {k : D → R α} {post : α → Prop} (h0 : 0 ≤ d) (h : d < l.length) (hp : ∀ x ∈ l, k x post) : bd (ixR (.list l) (.int d)) k post := by
  obtain ⟨n, rfl⟩ := Int.eq_ofNat_of_zero_le h0
  rw [ixR_atl (Pu.atI_nat (by omega)), bd_ok]
  exact hp _ (List.getElem_mem _)
def ratB (a b : Int) : Bool := decide (0 < b) && decide (Int.gcd a b = 1)
def isRat : D → Bool
  | .tuple [.int a, .int b] => ratB a b
  | _ => false
def inB (lo hi : Int) : D → Bool
  | .int i => decide (lo ≤ i) && decide (i ≤ hi)
  | _ => false
def whB : D → Bool
  | .int _ => true
  | _ => false
theorem ratB_num {a b : Int} (h : 0 < b) : (decide ((Rt.q a b).num = a) && decide (((Rt.q a b).den : Int) = b)) = ratB a b := by
  unfold ratB
  rw [decide_eq_true h, Bool.true_and, ← Rt.num_pos h, ← Rt.den_pos h]
  have hg := Rt.gcd_pos (p := a) (k := b) (by omega)
  by_cases e : Int.gcd a b = 1
  · rw [e]; simp
  · rw [decide_eq_false e, Bool.and_eq_false_iff]
    right
    rw [decide_eq_false_iff_not, Int.fdiv_eq_ediv_of_nonneg _ (by omega)]
    intro h2
    have h3 : (Int.gcd a b : Int) ∣ b := Int.gcd_dvd_right a b
    have h4 := Int.ediv_mul_cancel h3
    rw [h2] at h4
    have : (2 : Int) ≤ (Int.gcd a b : Int) := by omega
    have := Int.mul_le_mul_of_nonneg_left this (Int.le_of_lt h)
    omega
/-- .. numbers and rows alone -/
def Gn (B L : Nat) : Nat → D → Prop
  | _, .int i => Bt B i
  | n + 1, .tuple ds => ds.length ≤ L ∧ ∀ x ∈ ds, Gn B L n x
  | _, _ => False
theorem gn_int {i : Int} : Gn B L n (.int i) ↔ Bt B i := by cases n <;> exact Iff.rfl
theorem Gn.gd : ∀ {n : Nat} {d : D}, Gn B L n d → Gd B L n d := by
  intro n
  induction n with
  | zero =>
    intro d h
    cases d with
    | int i => exact h
    | none => exact h.elim
    | bool b => exact h.elim
    | str s => exact h.elim
    | tuple ds => exact h.elim
    | list ds => exact h.elim
    | dict ds => exact h.elim
  | succ n ih =>
    intro d h
    cases d with
    | int i => exact h
    | none => exact h.elim
    | bool b => exact h.elim
    | str s => exact h.elim
    | tuple ds => exact ⟨h.1, fun x hx => ih (h.2 x hx)⟩
    | list ds => exact h.elim
    | dict ds => exact h.elim
theorem Gn.bool {b : Bool} (h : Gn B L n (.bool b)) : False := by cases n <;> exact h.elim
theorem isRat_ne {l : List D} (h : l.length ≠ 2) : isRat (.tuple l) = false := by
  unfold isRat
  split
  · rename_i e; injection e with e; subst e; exact absurd rfl h
  · rfl
theorem nDR_set {ρ : List Sl} {i : Nat} {d : D} (h : i < ρ.length) : nDR i (ρ.set i (.dat d)) = ok d := by
  induction ρ generalizing i with
  | nil => simp at h
  | cons s ρ ih =>
    cases i with
    | zero => rfl
    | succ i => rw [set_s, nDR_s]; exact ih (by simpa using h)
/-- a loop that looks at each thing and changes nothing -/
theorem forF_chk {i : Nat} {tb : List Sl → R Out} (P : D → Prop) : ∀ (ds : List D) (ρ : List Sl), (∀ d, P d → tb (ρ.set i (.dat d)) = ok (.nx (ρ.set i (.dat d)))) → i < ρ.length → (∀ d ∈ ds, P d) → ∃ v, forF (gSet i) tb ds ρ = ok (.nx (ρ.set i v))
  | [], ρ, _, hi, _ => ⟨ρ[i], by rw [forF_nil]; simp⟩
  | d :: ds, ρ, h, hi, hp => by
    obtain ⟨v, e⟩ := forF_chk (tb := tb) P ds (ρ.set i (.dat d)) (fun d' hd' => by rw [List.set_set]; exact h d' hd') (by simpa using hi) (fun x hx => hp x (List.mem_cons_of_mem _ hx))
    exact ⟨v, by rw [forF_cons_ok (h d (hp d List.mem_cons_self)), e, List.set_set]⟩
end Pu

namespace Pu
open PySem PySem.Spec PyProof.Rows L2
/-! ### more words, as equations -/
theorem bd_i {α β : Type} {m : R α} {k : α → R β} {post : β → Prop} (h : m (fun a => k a post)) : bd m k post := h
theorem drwB {α : Type} {i : Nat} {ρ : List Sl} {n : Int} {g : List Sl → R (List D)} {k : D → R α} {post : α → Prop} (hx : getX ρ i 2 = ok ()) (hg : g ρ = ok [.int n]) (h0 : 0 < n) (h' : n < 1073741824) (h : ∀ d : Nat, (d : Int) < n → k (nI d) post) : bd (callX i 2 1 g drawM ρ) k post := by
  rw [draw_e (n := n) hg h0 h' hx]
  refine bd_dr.mpr fun d h1 h2 => ?_
  obtain ⟨d, rfl⟩ := Int.eq_ofNat_of_zero_le h1
  exact h d h2
theorem zip2_t {xs ys : List D} (h : xs.length ≤ 100000) : zip2R [.tuple xs, .tuple ys] = ok (zipD xs ys) := by
  show bd (req (xs.length ≤ sizeLine)) (fun _ => ok (zipD xs ys)) = _
  rw [bd_req (Nat.le_trans h (by decide))]
theorem zip2_tl {xs ys : List D} (h : xs.length ≤ 100000) : zip2R [.tuple xs, .list ys] = ok (zipD xs ys) := by
  show bd (req (xs.length ≤ sizeLine)) (fun _ => ok (zipD xs ys)) = _
  rw [bd_req (Nat.le_trans h (by decide))]
theorem zip2_lt {xs ys : List D} (h : xs.length ≤ 100000) : zip2R [.list xs, .tuple ys] = ok (zipD xs ys) := by
  show bd (req (xs.length ≤ sizeLine)) (fun _ => ok (zipD xs ys)) = _
  rw [bd_req (Nat.le_trans h (by decide))]
theorem zip2_ll {xs ys : List D} (h : xs.length ≤ 100000) : zip2R [.list xs, .list ys] = ok (zipD xs ys) := by
  show bd (req (xs.length ≤ sizeLine)) (fun _ => ok (zipD xs ys)) = _
  rw [bd_req (Nat.le_trans h (by decide))]
theorem enum_t {xs : List D} (h : xs.length ≤ 100000) : enumAR [.tuple xs] = ok (enumD xs) := by
  show bd (req (xs.length ≤ sizeLine)) (fun _ => ok (enumD xs)) = _
  rw [bd_req (Nat.le_trans h (by decide))]
theorem enum_l {xs : List D} (h : xs.length ≤ 100000) : enumAR [.list xs] = ok (enumD xs) := by
  show bd (req (xs.length ≤ sizeLine)) (fun _ => ok (enumD xs)) = _
  rw [bd_req (Nat.le_trans h (by decide))]
theorem lst_n {l : List D} (h : l.length ≤ 1000) : lstR l = ok l := lstR_e (Nat.le_trans h (by decide))
theorem tup_n {l : List D} (h : l.length ≤ 1000) : tupR l = ok (.tuple l) := tupR_e (Nat.le_trans h (by decide))
theorem app_n {ds : List D} {x : D} (h : ds.length ≤ 1000000) : appR ds [x] = ok (ds ++ [x]) := bd_req (Nat.lt_of_le_of_lt h (by decide)) _
theorem addT_n {x y : List D} (h : x.length + y.length ≤ 1000000) : addR (.tuple x) (.tuple y) = ok (.tuple (x ++ y)) := bd_req (Nat.le_trans h (by decide)) _
theorem addL_n {x y : List D} (h : x.length + y.length ≤ 1000000) : addR (.list x) (.list y) = ok (.list (x ++ y)) := bd_req (Nat.le_trans h (by decide)) _
theorem ext_l {ds es : List D} (h : ds.length + es.length ≤ 1000000) : extR ds [.list es] = ok (ds ++ es) := bd_req (Nat.le_trans h (by decide)) _
theorem ixt0 (x : D) (l : List D) : ixR (.tuple (x :: l)) (.int 0) = ok x := ixR_at (Pu.atI_nat (k := 0) (by simp))
theorem ixt1 (x y : D) (l : List D) : ixR (.tuple (x :: y :: l)) (.int 1) = ok y := ixR_at (Pu.atI_nat (k := 1) (by simp))
theorem ixt2 (x y z : D) (l : List D) : ixR (.tuple (x :: y :: z :: l)) (.int 2) = ok z := ixR_at (Pu.atI_nat (k := 2) (by simp))
theorem ixl0 (x : D) (l : List D) : ixR (.list (x :: l)) (.int 0) = ok x := ixR_atl (Pu.atI_nat (k := 0) (by simp))
theorem ixl1 (x y : D) (l : List D) : ixR (.list (x :: y :: l)) (.int 1) = ok y := ixR_atl (Pu.atI_nat (k := 1) (by simp))
theorem ixt_n {l : List D} {k : Nat} (h : k < l.length) : ixR (.tuple l) (nI k) = ok l[k] := ixR_at (Pu.atI_nat h)
theorem ixl_n {l : List D} {k : Nat} (h : k < l.length) : ixR (.list l) (nI k) = ok l[k] := ixR_atl (Pu.atI_nat h)
theorem ne_bools (x y : Bool) : neR (.bool x) (.bool y) = ok (.bool (!(x == y))) := neR_of (eqR_bool x y) (Nat.le_trans (Nat.min_le_left _ _) (by simp [PyData.depth]))
theorem mul_rep {l : List D} {k : Nat} (hl : l.length * k ≤ 100000) (hk : k ≤ 1000) : mulR (.tuple l) (.int (k : Int)) = ok (.tuple (List.replicate k l).flatten) := by
  show bd (req (repOk l (k : Int))) _ = _
  rw [bd_req ⟨by omega, by omega, by
    rw [Int.toNat_natCast]
    exact Nat.le_trans hl (by decide)⟩]
  congr 2
theorem forF_J {α : Type} {f : α → D} {g : D → List Sl → R (List Sl)} {tb : List Sl → R Out} (J : List α → List Sl → Prop) : ∀ (l done : List α) (ρ : List Sl), (∀ d x ρ, (∃ r, d ++ x :: r = done ++ l) → J d ρ → ∃ ρ', bd (g (f x) ρ) tb = ok (.nx ρ') ∧ J (d ++ [x]) ρ') → J done ρ → ∃ ρ', forF g tb (l.map f) ρ = ok (.nx ρ') ∧ J (done ++ l) ρ'
  | [], done, ρ, _, j => ⟨ρ, rfl, by rw [List.append_nil]; exact j⟩
  | x :: l, done, ρ, h, j => by
    obtain ⟨ρ', e, j'⟩ := h done x ρ ⟨l, rfl⟩ j
    obtain ⟨ρ2, e2, j2⟩ := forF_J J l (done ++ [x]) ρ' (fun d y ρ ⟨r, hr⟩ => h d y ρ ⟨r, by rw [hr, List.append_assoc]; rfl⟩) j'
    refine ⟨ρ2, ?_, by rw [List.append_assoc] at j2; exact j2⟩
    rw [List.map_cons, forF, ← bd_bd, e, bd_ok, lpO_nx, e2]
theorem anyR_bools {α : Type} {l : List α} {p : α → Bool} : anyR [.list (l.map fun x => .bool (p x))] = ok (.bool (l.any p)) := by
  show qV (fun ds => ds.any PyData.truthy) (l.map fun x => .bool (p x)) = _
  unfold qV
  rw [bd_req (by simp [smallT])]
  congr 2
  simp only [List.any_map]; rfl
/-- values that stand in drawn things: whole numbers, nothing, rows of such -/
def Vb : Nat → D → Prop
  | _, .int i => i.natAbs < 2 ^ 30
  | _, .none => True
  | n + 1, .tuple ds => ds.length ≤ 500 ∧ ∀ x ∈ ds, Vb n x
  | _, _ => False
/-- values that are looked at: rows are not too long -/
def Wd1 : D → Prop
  | .tuple ds => ds.length ≤ 1002
  | _ => True
theorem Vb.wd {n : Nat} {d : D} (h : Vb n d) : Wd1 d := by
  cases d with
  | tuple ds =>
    cases n with
    | zero => exact h.elim
    | succ n => exact Nat.le_trans h.1 (by decide)
  | _ => trivial
theorem vb_int {n : Nat} {i : Int} (h : i.natAbs < 2 ^ 30) : Vb n (.int i) := by cases n <;> exact h
theorem vb_none {n : Nat} : Vb n .none := by cases n <;> trivial
theorem str_ok {i : Int} (h : i.natAbs < 2 ^ 30) : strR [.int i] = ok (.str (toString i)) := by
  refine bd_req ?_ _
  have : i.natAbs.log2 ≤ 30 := by
    by_cases h0 : i.natAbs = 0
    · rw [h0]; decide
    · exact Nat.le_of_lt ((Nat.log2_lt h0).mpr h)
  omega
theorem bd_ixd {α : Type} {l : List D} {d : Nat} {k : D → R α} {post : α → Prop} (h : (d : Int) < (l.length : Int)) (hp : ∀ x ∈ l, k x post) : bd (ixR (.list l) (nI d)) k post := by
  rw [ixl_n (by omega), bd_ok]
  exact hp _ (List.getElem_mem _)
theorem ix_d {l : List D} {d : Nat} {post : D → Prop} (h : (d : Int) < (l.length : Int)) (hp : ∀ x ∈ l, post x) : ixR (.list l) (nI d) post := bd_ixd (k := ok) h hp
end Pu

namespace Pu
open PySem PySem.Spec PyProof.Rows L2
/-! ### comprehensions of two fors -/
section
variable {α β : Type} {f : α → D} {f1 : β → D} {ρ : List Sl}
theorem inF_e {g : D → List Sl → R (List Sl)} {tt : List Sl → R Bool} {te : List Sl → R D} {p : β → Bool} {h : β → D} {σ : β → List Sl} : ∀ (l : List β) (acc : List D), (∀ x ∈ l, g (f1 x) ρ = ok (σ x)) → (∀ x ∈ l, tt (σ x) = ok (p x)) → (∀ x ∈ l, p x = true → te (σ x) = ok (h x)) → acc.length + l.length ≤ sizeLine → inF g tt te (l.map f1) ρ acc = ok (acc ++ (l.filter p).map h)
  | [], acc, _, _, _, _ => by simp [inF]
  | x :: l, acc, hg, ht, he, hl => by
    have hg' := fun y hy => hg y (List.mem_cons_of_mem x hy)
    have ht' := fun y hy => ht y (List.mem_cons_of_mem x hy)
    have he' := fun y hy => he y (List.mem_cons_of_mem x hy)
    rw [List.length_cons] at hl
    rw [List.map_cons, inF, hg x List.mem_cons_self, bd_ok, ht x List.mem_cons_self, bd_ok]
    cases hp : p x with
    | false => rw [if_neg (by simp), inF_e l acc hg' ht' he' (by omega), List.filter_cons_of_neg (by simp [hp])]
    | true => rw [if_pos rfl, he x List.mem_cons_self hp, bd_ok, bd_req (by omega), inF_e l _ hg' ht' he' (by simp; omega), List.filter_cons_of_pos hp]; simp
theorem outF_e {vs1 : List Nat} {g : D → List Sl → R (List Sl)} {fi1 : List Sl → R (List D)} {g1 : D → List Sl → R (List Sl)} {tt1 : List Sl → R Bool} {te : List Sl → R D} {σ : α → List Sl} {es : α → List D} {out : α → List D} :
    ∀ (l : List α) (acc : List D), (∀ x ∈ l, g (f x) ρ = ok (σ x)) → (∀ x ∈ l, ownFree (σ x) = true) → (∀ x ∈ l, fi1 (σ x) = ok (es x)) → (∀ x ∈ l, ∀ acc : List D, acc.length + (out x).length ≤ 1000000 → inF g1 tt1 te (es x) (wipeS (σ x) vs1) acc = ok (acc ++ out x)) → acc.length + (l.flatMap out).length ≤ 1000000 → outF vs1 g yesT fi1 g1 tt1 te (l.map f) ρ acc = ok (acc ++ l.flatMap out)
  | [], acc, _, _, _, _, _ => by simp [outF]
  | x :: l, acc, hg, ho, hi, hn, hl => by
    rw [List.flatMap_cons, List.length_append] at hl
    rw [List.map_cons, outF, hg x List.mem_cons_self, bd_ok, bd_req (ho x List.mem_cons_self)]
    show bd (ok true) _ = _
    rw [bd_ok, if_pos rfl, hi x List.mem_cons_self, bd_ok, hn x List.mem_cons_self acc (by omega), bd_ok]
    rw [outF_e l _ (fun y hy => hg y (List.mem_cons_of_mem x hy)) (fun y hy => ho y (List.mem_cons_of_mem x hy)) (fun y hy => hi y (List.mem_cons_of_mem x hy)) (fun y hy => hn y (List.mem_cons_of_mem x hy)) (by rw [List.length_append]; omega)]
    simp
theorem lc2M_e {vs vs1 : List Nat} {fi : List Sl → R (List D)} {g : D → List Sl → R (List Sl)} {fi1 : List Sl → R (List D)} {g1 : D → List Sl → R (List Sl)} {tt1 : List Sl → R Bool} {te : List Sl → R D} {l : List α} {σ : α → List Sl} {es : α → List D} {out : α → List D}
    (h0 : fi ρ = ok (l.map f)) (hg : ∀ x ∈ l, g (f x) (wipeS (noOwn ρ) vs) = ok (σ x)) (ho : ∀ x ∈ l, ownFree (σ x) = true) (hi : ∀ x ∈ l, fi1 (σ x) = ok (es x)) (hn : ∀ x ∈ l, ∀ acc : List D, acc.length + (out x).length ≤ 1000000 → inF g1 tt1 te (es x) (wipeS (σ x) vs1) acc = ok (acc ++ out x)) (hl : (l.flatMap out).length ≤ 1000000) :
    lc2M vs vs1 fi g yesT fi1 g1 tt1 te ρ = ok (l.flatMap out) := by
  show bd (fi ρ) _ = _
  rw [h0, bd_ok, outF_e l [] hg ho hi hn (by simpa using hl), List.nil_append]
end
/-- sums -/
def sI (f : Nat → Int) (n : Nat) : Int := ((List.range n).map f).sum
theorem sI_succ (f : Nat → Int) (n : Nat) : sI f (n + 1) = sI f n + f n := by
  unfold sI
  rw [List.range_succ, List.map_append, List.sum_append]; simp
theorem sI_congr {f f' : Nat → Int} : ∀ {n : Nat}, (∀ k, k < n → f k = f' k) → sI f n = sI f' n
  | 0, _ => rfl
  | n + 1, h => by rw [sI_succ, sI_succ, sI_congr (fun k hk => h k (by omega)), h n (by omega)]
theorem sI_le {f : Nat → Int} {B : Nat} : ∀ {n : Nat}, (∀ k, k < n → (f k).natAbs ≤ B) → (sI f n).natAbs ≤ n * B
  | 0, _ => by simp [sI]
  | n + 1, h => by
    have h1 := sI_le (n := n) fun k hk => h k (by omega)
    have h2 := h n (by omega)
    rw [sI_succ, Nat.succ_mul]; omega
theorem sumR_li (f : Nat → Int) (n : Nat) : sumR [.list ((List.range n).map fun k => .int (f k))] = ok (.int (sI f n)) := by
  have e : (List.range n).map (fun k => PyData.int (f k)) = ((List.range n).map f).map PyData.int := by rw [List.map_map]; rfl
  show sumV _ = _
  rw [e, sumV_ints]; rfl
end Pu

namespace Pu
open PySem PySem.Spec PyProof.Rows L2
/-! ### the words of dicts, as equations -/
section
variable {ρ : List Sl} {x : Sl} {i n : Nat} {ds : List (Key × D)}
theorem getOD_s : getOD (x :: ρ) (n + 1) = getOD ρ n := (rfl)
theorem getOD_0 : getOD (.od ds :: ρ) 0 = ok ds := (rfl)
theorem keyR_int (k : Int) : keyR (.int k) = ok (.inl k) := (rfl)
theorem keyR_str (s : Str) : keyR (.str s) = ok (.inr s) := (rfl)
theorem setOD_e (i : Nat) (f : List Sl → R (List (Key × D))) : setOD i f ρ = bd (f ρ) fun ds => ok (.nx (ρ.set i (.od ds))) := (rfl)
theorem emptyD_e : emptyD ρ = ok [] := (rfl)
theorem disp1_e (fk fv : List Sl → R D) : disp1 fk fv ρ = bd (fk ρ) fun k => bd (keyR k) fun kk => bd (fv ρ) fun v => ok [(kk, v)] := (rfl)
theorem putM_e (i : Nat) (fk fv : List Sl → R D) : putM i fk fv ρ = bd (fv ρ) fun v => bd (getOD ρ i) fun _ => bd (fk ρ) fun k => bd (keyR k) fun kk => bd (getOD ρ i) fun ds => bd (req (ds.length < sizeLine)) fun _ => ok (.nx (ρ.set i (.od (putG ds kk v)))) := (rfl)
theorem getM2_e (i : Nat) (fk fd : List Sl → R D) : getM2 i fk fd ρ = bd (getOD ρ i) fun _ => bd (fk ρ) fun k => bd (fd ρ) fun z => bd (keyR k) fun kk => bd (getOD ρ i) fun ds => ok ((valG ds kk).getD z) := (rfl)
theorem inDM_e (i : Nat) (fk : List Sl → R D) : inDM i fk ρ = bd (fk ρ) fun k => bd (keyR k) fun kk => bd (getOD ρ i) fun ds => ok (.bool (valG ds kk).isSome) := (rfl)
theorem notInDM_e (i : Nat) (fk : List Sl → R D) : notInDM i fk ρ = bd (fk ρ) fun k => bd (keyR k) fun kk => bd (getOD ρ i) fun ds => ok (.bool (!(valG ds kk).isSome)) := (rfl)
theorem ixdM_d {i : Nat} {fk : List Sl → R D} {k : D} {kk : Key} {d : D} (h : getOD ρ i = ok ds) (hk : fk ρ = ok k) (hkk : keyR k = ok kk) (hd : valG ds kk = some d) : ixdM i fk ρ = ok d := by
  show bd (getOD ρ i) (fun _ => bd (fk ρ) fun k => bd (keyR k) fun kk => bd (getOD ρ i) fun ds => match valG ds kk with | some d => ok d | none => fail) = _
  rw [h, bd_ok, hk, bd_ok, hkk, bd_ok, bd_ok, hd]
end
/-! ### dicts from ints to data -/
def iD {α : Type} (f : α → D) (l : List (Int × α)) : List (Key × D) := l.map fun p => (.inl p.1, f p.2)
theorem intK_iD {α : Type} (f : α → D) : ∀ l : List (Int × α), intK (iD f l) = some (l.map (·.1))
  | [] => rfl
  | p :: l => by
    show (intK (iD f l)).map (p.1 :: ·) = _
    rw [intK_iD f l]; rfl
def putI {α : Type} (l : List (Int × α)) (k : Int) (a : α) : List (Int × α) := if (l.any fun p => decide (p.1 = k)) = true then l.map fun p => if p.1 = k then (p.1, a) else p else l ++ [(k, a)]
def valI {α : Type} (l : List (Int × α)) (k : Int) : Option α := (l.find? fun p => decide (p.1 = k)).map (·.2)
theorem any_iD {α : Type} (f : α → D) (k : Int) : ∀ l : List (Int × α), ((iD f l).any fun kv => decide (kv.1 = Sum.inl k)) = l.any fun p => decide (p.1 = k)
  | [] => rfl
  | p :: l => by
    show (decide ((Sum.inl p.1 : Key) = Sum.inl k) || _) = _
    rw [List.any_cons, ← any_iD f k l]
    congr 1
    simp
theorem put_iD {α : Type} (f : α → D) (l : List (Int × α)) (k : Int) (a : α) : putG (iD f l) (.inl k) (f a) = iD f (putI l k a) := by
  unfold putG putI
  rw [any_iD]
  split
  · unfold iD
    rw [List.map_map, List.map_map]
    refine List.map_congr_left fun p _ => ?_
    show (if (Sum.inl p.1 : Key) = Sum.inl k then (Sum.inl p.1, f a) else (Sum.inl p.1, f p.2)) = _
    by_cases h : p.1 = k
    · rw [if_pos (by rw [h])]
      show _ = (fun q : Int × α => ((Sum.inl q.1 : Key), f q.2)) (if p.1 = k then (p.1, a) else p)
      rw [if_pos h]
    · rw [if_neg (by simpa using h)]
      show _ = (fun q : Int × α => ((Sum.inl q.1 : Key), f q.2)) (if p.1 = k then (p.1, a) else p)
      rw [if_neg h]
  · unfold iD
    rw [List.map_append]; rfl
theorem val_iD {α : Type} (f : α → D) (k : Int) : ∀ l : List (Int × α), valG (iD f l) (.inl k) = (valI l k).map f
  | [] => rfl
  | p :: l => by
    have ih := val_iD f k l
    unfold valG valI at *
    show Option.map _ (List.find? _ ((Sum.inl p.1, f p.2) :: iD f l)) = _
    by_cases h : p.1 = k
    · rw [List.find?_cons_of_pos (by simp [h]), List.find?_cons_of_pos (by simp [h])]; rfl
    · rw [List.find?_cons_of_neg (by simp [h]), List.find?_cons_of_neg (by simp [h])]; exact ih
/-! ### the keys, ascending -/
def asc (l : List Int) : List Int := l.mergeSort fun a b => decide (a ≤ b)
theorem asc_perm (l : List Int) : (asc l).Perm l := List.mergeSort_perm _ _
theorem asc_le (l : List Int) : (asc l).Pairwise (· ≤ ·) := by
  have := List.pairwise_mergeSort (le := fun a b : Int => decide (a ≤ b)) (fun a b c h1 h2 => by simp at *; omega) (fun a b => by simp; omega) l
  exact this.imp fun h => by simpa using h
theorem srt_uniq : ∀ {a b : List Int}, a.Perm b → a.Pairwise (· ≤ ·) → b.Pairwise (· ≤ ·) → a = b
  | [], b, p, _, _ => p.nil_eq
  | x :: a, [], p, _, _ => absurd p.length_eq (by simp)
  | x :: a, y :: b, p, h1, h2 => by
    obtain ⟨a1, a2⟩ := List.pairwise_cons.mp h1
    obtain ⟨b1, b2⟩ := List.pairwise_cons.mp h2
    have e : x = y := by
      have hx : x ∈ y :: b := p.mem_iff.mp List.mem_cons_self
      have hy : y ∈ x :: a := p.mem_iff.mpr List.mem_cons_self
      rcases List.mem_cons.mp hx with e | hx
      · exact e
      · rcases List.mem_cons.mp hy with e | hy
        · exact e.symm
        · have := b1 x hx
          have := a1 y hy
          omega
    subst e
    rw [srt_uniq (p.cons_inv) a2 b2]
theorem srtKM_e {ρ : List Sl} {i : Nat} {ds : List (Key × D)} {ks : List Int} (h : getOD ρ i = ok ds) (hk : intK ds = some ks) (hl : ks.length < 64) : srtKM i ρ = ok ((asc ks).map PyData.int) := by
  unfold srtKM
  rw [h, bd_ok, hk]
  funext post
  apply propext
  constructor
  · intro hp
    exact hp.2 _ (asc_perm ks) (asc_le ks)
  · intro hp
    refine ⟨hl, fun ys p q => ?_⟩
    rw [srt_uniq (p.trans (asc_perm ks).symm) q (asc_le ks)]
    exact hp
theorem putI_len {α : Type} (l : List (Int × α)) (k : Int) (a : α) : (putI l k a).length ≤ l.length + 1 := by
  unfold putI
  split <;> simp
theorem valI_mem {α : Type} : ∀ {l : List (Int × α)} {k : Int}, k ∈ l.map (·.1) → ∃ a, valI l k = some a
  | [], _, h => by simp at h
  | p :: l, k, h => by
    by_cases e : p.1 = k
    · exact ⟨p.2, by simp [valI, e]⟩
    · obtain ⟨a, ha⟩ := valI_mem (l := l) (k := k) (by
        rw [List.map_cons] at h
        rcases List.mem_cons.mp h with h | h
        · exact absurd h.symm e
        · exact h)
      refine ⟨a, ?_⟩
      unfold valI at *
      rw [List.find?_cons_of_neg (by simpa using e)]
      exact ha
end Pu

namespace Pu
open PySem PySem.Spec PyProof.Rows L2
/-! ### values with one thing changed, as _law_spoilt makes them -/
def spoB : List D := [.none, .tuple [], .int 0, .int 1, .bool true, .bool false, .str "a", .int (-1), .tuple [.int 0], .tuple [.tuple [.int 0, .int 0]]]
def spoI (i : Int) : List D := [.int (i + 1), .int (i - 1), .bool (decide (i = 1)), .int (i + 1)]
def spoT (ds : List D) : List D := [.tuple (cutG ds none (some (-1))), .tuple (ds ++ cutG ds (some (-1)) none), .tuple ds.reverse, .tuple (ds ++ [.tuple [.int 0, .int 0]]), .tuple [.tuple ds], .tuple (cutG ds (some 1) none)]
inductive Spo : D → D → Prop
  | base {d x : D} : x ∈ spoB → Spo d x
  | int {i : Int} {x : D} : x ∈ spoI i → Spo (.int i) x
  | tup {ds : List D} {x : D} : x ∈ spoT ds → Spo (.tuple ds) x
  | del {ds : List D} {a : Nat} : a < ds.length → Spo (.tuple ds) (.tuple (ds.take a ++ ds.drop (a + 1)))
  | elt {ds : List D} {a : Nat} {y : D} (h : a < ds.length) : Spo ds[a] y → Spo (.tuple ds) (.tuple (ds.take a ++ [y] ++ ds.drop (a + 1)))
/-- what may be spoilt: numbers, texts, nothing, rows of such, n deep -/
def Sp : Nat → D → Prop
  | _, .int _ => True
  | _, .none => True
  | _, .str _ => True
  | n + 1, .tuple ds => ds.length ≤ 1000 ∧ ∀ x ∈ ds, Sp n x
  | _, _ => False
theorem sp_int {n : Nat} {i : Int} : Sp n (.int i) := by cases n <;> trivial
theorem sp_str {n : Nat} {s : Str} : Sp n (.str s) := by cases n <;> trivial
theorem sp_none {n : Nat} : Sp n .none := by cases n <;> trivial
theorem Sp.no_bool {n : Nat} {b : Bool} (h : Sp n (.bool b)) : False := by cases n <;> exact h.elim
theorem cut_l1 {α : Type} (ds : List α) : (cutG ds (some (-1)) none).length ≤ 1 := by
  unfold cutG
  simp only [HT.sIx_none]
  rw [List.length_take, List.length_drop]
  have : ds.length - HT.sIx ds.length 0 (some (-1)) ≤ 1 := by
    unfold HT.sIx; simp; omega
  omega
theorem spo_gd {B L : Nat} (hB : 2 ≤ B) (hL : 9 ≤ L) {d y : D} (h : Spo d y) : ∀ {n : Nat}, Gd B L n d → Gd (B + 1) (L + 1) (n + 2) y := by
  have c0 : ∀ {m : Nat}, Gd (B + 1) (L + 1) (m + 1) (.tuple [.int 0, .int 0]) := fun {m} => ⟨by simp; omega, fun x hx => by
    simp at hx; subst hx; exact gd_int.mpr (by unfold Bt; exact Nat.pow_pos (by omega))⟩
  have b0 : ∀ {k : Nat}, Bt k 0 := fun {k} => by unfold Bt; exact Nat.pow_pos (by omega)
  have b1 : Bt (B + 1) 1 := by unfold Bt; exact Nat.one_lt_two_pow (by omega)
  induction h with
  | base hx =>
    intro n hd
    simp only [spoB, List.mem_cons, List.not_mem_nil, or_false] at hx
    rcases hx with rfl | rfl | rfl | rfl | rfl | rfl | rfl | rfl | rfl | rfl
    · exact gd_none
    · exact ⟨by simp, by simp⟩
    · exact gd_int.mpr b0
    · exact gd_int.mpr b1
    · exact gd_bool
    · exact gd_bool
    · exact gd_str
    · exact gd_int.mpr b1.neg
    · exact ⟨by simp, fun x hx => by simp at hx; subst hx; exact gd_int.mpr b0⟩
    · exact ⟨by simp, fun x hx => by simp at hx; subst hx; exact c0⟩
  | @int i x hx =>
    intro n hd
    have hi : Bt B i := gd_int.mp hd
    simp only [spoI, List.mem_cons, List.not_mem_nil, or_false] at hx
    rcases hx with rfl | rfl | rfl | rfl
    · exact gd_int.mpr (hi.add (by unfold Bt; exact Nat.one_lt_two_pow (by omega)))
    · exact gd_int.mpr (hi.sub (by unfold Bt; exact Nat.one_lt_two_pow (by omega)))
    · exact gd_bool
    · exact gd_int.mpr (hi.add (by unfold Bt; exact Nat.one_lt_two_pow (by omega)))
  | @tup ds x hx =>
    intro n hd
    cases n with
    | zero => exact hd.elim
    | succ n =>
      have hl1 := hd.1
      have cl := cut_l1 ds
      simp only [spoT, List.mem_cons, List.not_mem_nil, or_false] at hx
      rcases hx with rfl | rfl | rfl | rfl | rfl | rfl
      · exact (gd_cut hd).mono (by omega) (by omega) (by omega)
      · exact gd_app hd (gd_cut (a := some (-1)) (b := none) hd) (by omega) (by omega) (by omega) (by omega) (by omega) (by omega) (by omega)
      · exact (gd_rev hd).mono (by omega) (by omega) (by omega)
      · exact gd_app (B' := B + 1) (L' := L + 1) (m := n + 2) hd ⟨by simp, fun x hx => by simp at hx; subst hx; exact c0⟩ (by omega) (by omega) (by omega) (by omega) (by omega) (by omega) (by simp; omega)
      · exact ⟨by simp, fun x hx => by simp at hx; subst hx; exact hd.mono (by omega) (by omega) (by omega)⟩
      · exact (gd_cut hd).mono (by omega) (by omega) (by omega)
  | @del ds a ha =>
    intro n hd
    cases n with
    | zero => exact hd.elim
    | succ n =>
      have hl1 := hd.1
      have g1 : Gd B L (n + 1) (.tuple (ds.take a)) := gd_sub hd (fun y hy => List.mem_of_mem_take hy) (by rw [List.length_take]; omega)
      have g2 : Gd B L (n + 1) (.tuple (ds.drop (a + 1))) := gd_sub hd (fun y hy => List.mem_of_mem_drop hy) (by rw [List.length_drop]; omega)
      exact gd_app g1 g2 (by omega) (by omega) (by omega) (by omega) (by omega) (by omega) (by rw [List.length_take, List.length_drop]; omega)
  | @elt ds a y ha hs ih =>
    intro n hd
    cases n with
    | zero => exact hd.elim
    | succ n =>
      have hl1 := hd.1
      have hy := ih (hd.2 _ (List.getElem_mem ha))
      have g1 : Gd B L (n + 1) (.tuple (ds.take a)) := gd_sub hd (fun y hy => List.mem_of_mem_take hy) (by rw [List.length_take]; omega)
      have g2 : Gd B L (n + 1) (.tuple (ds.drop (a + 1))) := gd_sub hd (fun y hy => List.mem_of_mem_drop hy) (by rw [List.length_drop]; omega)
      have gy : Gd (B + 1) (L + 1) (n + 3) (.tuple [y]) := ⟨by simp, fun x hx => by simp at hx; subst hx; exact hy⟩
      have gq : Gd (B + 1) (L + 1) (n + 3) (.tuple (ds.take a ++ [y])) := gd_app g1 gy (by omega) (by omega) (by omega) (by omega) (by omega) (by omega) (by simp; omega)
      exact gd_app gq g2 (by omega) (by omega) (by omega) (by omega) (by omega) (by omega) (by simp; omega)
end Pu

namespace Pu
open PySem PySem.Spec PyProof.Rows L2
/-! ### sorted rows, whatever their order was -/
theorem sort_is' {l l' : List D} (inj : ∀ a ∈ l, ∀ b ∈ l, W.keyToks a = W.keyToks b → a = b) (hp : l.Perm l') (hs : l'.Pairwise fun a b => dLe a b = true) : l.mergeSort dLe = l' := by
  have h1 := List.pairwise_mergeSort (le := dLe) dLe_trans dLe_total l
  have h2 := (List.mergeSort_perm l dLe).trans hp
  refine List.Perm.eq_of_pairwise (le := fun a b => dLe a b = true) (fun a b ha hb e1 e2 => ?_) h1 hs h2
  unfold dLe at e1 e2
  simp at e1 e2
  exact inj _ ((List.mergeSort_perm l dLe).mem_iff.mp ha) _ (hp.mem_iff.mpr hb) (PyProof.Rows.lex_total (O := PyProof.Rows.itemOrd) _ _ e2 e1)
theorem sort_perm {l k : List D} (inj : ∀ a ∈ l, ∀ b ∈ l, W.keyToks a = W.keyToks b → a = b) (hp : l.Perm k) : l.mergeSort dLe = k.mergeSort dLe :=
  sort_is' inj (hp.trans (List.mergeSort_perm k dLe).symm) (List.pairwise_mergeSort (le := dLe) dLe_trans dLe_total k)
theorem sort_perm_rows {a b : List (List Nat)} (hp : a.Perm b) : (a.map (tu nI)).mergeSort dLe = (b.map (tu nI)).mergeSort dLe := sort_perm (fun x hx y hy e => by
  obtain ⟨x, _, rfl⟩ := List.mem_map.mp hx
  obtain ⟨y, _, rfl⟩ := List.mem_map.mp hy
  rw [toks_tu x y e]) (hp.map _)
theorem sort_paths {ds : List (List Nat)} (hl : ds.length ≤ 1000000) (hk : (∀ d ∈ ds, d ≠ []) ∨ ∃ r, ds = [] :: r) : sortedR [.list (ds.map (tu nI))] = ok ((ds.map (tu nI)).mergeSort dLe) := by
  rcases hk with hk | ⟨r, rfl⟩
  · exact sort_rows (Nat.le_trans hl (by decide)) (.inl hk)
  · exact sort_rows0 (by rw [List.length_cons] at hl; exact Nat.lt_of_lt_of_le (Nat.lt_of_lt_of_le (Nat.lt_succ_self _) hl) (by decide))
/-- a comprehension whose things are drawn, each told with what it was drawn for -/
theorem lcM_dem3 {α β : Type} {ρ : List Sl} {vs : List Nat} {i : Nat} {fi : List Sl → R (List D)} {te : List Sl → R D} {l : List α} {f : α → D} {g : α × β → D} {Q : α × β → Prop} (hi : fi ρ = ok (l.map f))
    (he : ∀ a ∈ l, ∀ post : D → Prop, (∀ b, Q (a, b) → post (g (a, b))) → te ((wipeS ρ vs).set i (.dat (f a))) post) (post : List D → Prop) (hp : ∀ hs : List (α × β), hs.map (·.1) = l → (∀ p ∈ hs, Q p) → post (hs.map g)) : lcM vs fi (gSet i) yesT te ρ post := by
  rw [lcM_e, hi, bd_ok]
  generalize wipeS ρ vs = σ at he
  clear hi
  induction l generalizing post with
  | nil => exact hp [] rfl (by simp)
  | cons a l ih =>
    rw [List.map_cons, lcF, gSet_e, bd_ok, yesT_e, bd_ok, if_pos rfl]
    refine he a List.mem_cons_self _ fun b hb => ?_
    refine ih _ (fun hs hl hq => ?_) (fun d hd => he d (List.mem_cons_of_mem _ hd))
    refine hp ((a, b) :: hs) (by rw [List.map_cons, hl]) fun p hp => ?_
    rcases List.mem_cons.mp hp with rfl | hp
    · exact hb
    · exact hq p hp
theorem nodup_len {α : Type} [DecidableEq α] : ∀ {a b : List α}, a.Nodup → (∀ x ∈ a, x ∈ b) → a.length ≤ b.length
  | [], b, _, _ => Nat.zero_le _
  | x :: a, b, h, hs => by
    obtain ⟨h1, h2⟩ := List.nodup_cons.mp h
    have hx := hs x List.mem_cons_self
    have := nodup_len (b := b.erase x) h2 fun y hy => (List.mem_erase_of_ne (show y ≠ x from fun e => h1 (by rw [← e]; exact hy))).mpr (hs y (List.mem_cons_of_mem _ hy))
    rw [List.length_erase_of_mem hx] at this
    have hb := List.length_pos_of_mem hx
    rw [List.length_cons]; omega
theorem pw_len {a b : List Int} (h : a.Pairwise (· < ·)) (hs : ∀ x ∈ a, x ∈ b) : a.length ≤ b.length := nodup_len (h.imp fun h e => by omega) hs
end Pu

namespace K51
open PySem PySem.Spec PyProof.Rows L2 Pu

def topS (i : Nat) : Stmt := PySem.Challenge.pw_hangseven_k51_whole_riders_on_yards.main.body.getD i (.Pass ⟨0, 0, 0, 0⟩)
abbrev s_is_number : Stmt := topS 1
abbrev n_is_number : List Str := ["value", "least", "most"]
theorem sc_is_number : FnScope n_is_number ["value", "least", "most"] (defScope s_is_number) := ⟨rfl, rfl, rfl, by decide +kernel, rfl, by decide +kernel, by decide +kernel⟩
abbrev s_divisor_of : Stmt := topS 3
abbrev n_divisor_of : List Str := ["a", "b"]
theorem sc_divisor_of : FnScope n_divisor_of ["a", "b"] (defScope s_divisor_of) := ⟨rfl, rfl, rfl, by decide +kernel, rfl, by decide +kernel, by decide +kernel⟩
abbrev s_lowest : Stmt := topS 4
abbrev n_lowest : List Str := ["p", "q", "d"]
theorem sc_lowest : FnScope n_lowest ["p", "q"] (defScope s_lowest) := ⟨rfl, rfl, rfl, by decide +kernel, rfl, by decide +kernel, by decide +kernel⟩
abbrev s_is_yard : Stmt := topS 10
abbrev n_is_yard : List Str := ["value", "riders", "k", "rider"]
theorem sc_is_yard : FnScope n_is_yard ["value"] (defScope s_is_yard) := ⟨rfl, rfl, rfl, by decide +kernel, rfl, by decide +kernel, by decide +kernel⟩
abbrev s_ways_by_moment : Stmt := topS 11
abbrev n_ways_by_moment : List Str := ["yard", "_", "riders", "most", "rows", "rider", "more", "moment", "places", "count", "place", "key", "row", "old"]
theorem sc_ways_by_moment : FnScope n_ways_by_moment ["yard"] (defScope s_ways_by_moment) := ⟨rfl, rfl, rfl, by decide +kernel, rfl, by decide +kernel, by decide +kernel⟩
abbrev s_moment_for : Stmt := topS 12
abbrev n_moment_for : List Str := ["yard", "weight"]
theorem sc_moment_for : FnScope n_moment_for ["yard", "weight"] (defScope s_moment_for) := ⟨rfl, rfl, rfl, by decide +kernel, rfl, by decide +kernel, by decide +kernel⟩
abbrev s_tells : Stmt := topS 13
abbrev n_tells : List Str := ["yard", "weight", "rows", "moment"]
theorem sc_tells : FnScope n_tells ["yard", "weight"] (defScope s_tells) := ⟨rfl, rfl, rfl, by decide +kernel, rfl, by decide +kernel, by decide +kernel⟩
abbrev s_ways_to_tell : Stmt := topS 14
abbrev n_ways_to_tell : List Str := ["yard", "weight", "rows", "moment"]
theorem sc_ways_to_tell : FnScope n_ways_to_tell ["yard", "weight"] (defScope s_ways_to_tell) := ⟨rfl, rfl, rfl, by decide +kernel, rfl, by decide +kernel, by decide +kernel⟩
abbrev s_told_weights : Stmt := topS 15
abbrev n_told_weights : List Str := ["yard", "found", "moment", "whole"]
theorem sc_told_weights : FnScope n_told_weights ["yard"] (defScope s_told_weights) := ⟨rfl, rfl, rfl, by decide +kernel, rfl, by decide +kernel, by decide +kernel⟩
abbrev s_first_untold : Stmt := topS 16
abbrev n_first_untold : List Str := ["yard", "told", "weight"]
theorem sc_first_untold : FnScope n_first_untold ["yard"] (defScope s_first_untold) := ⟨rfl, rfl, rfl, by decide +kernel, rfl, by decide +kernel, by decide +kernel⟩
abbrev s_mark_at : Stmt := topS 17
abbrev n_mark_at : List Str := ["yard", "place"]
theorem sc_mark_at : FnScope n_mark_at ["yard", "place"] (defScope s_mark_at) := ⟨rfl, rfl, rfl, by decide +kernel, rfl, by decide +kernel, by decide +kernel⟩
abbrev s_law_flat : Stmt := topS 19
abbrev n_law_flat : List Str := ["rows", "found", "row"]
theorem sc_law_flat : FnScope n_law_flat ["rows"] (defScope s_law_flat) := ⟨rfl, rfl, rfl, by decide +kernel, rfl, by decide +kernel, by decide +kernel⟩
abbrev s_law_box : Stmt := topS 20
abbrev n_law_box : List Str := ["script"]
theorem sc_law_box : FnScope n_law_box ["script"] (defScope s_law_box) := ⟨rfl, rfl, rfl, by decide +kernel, rfl, by decide +kernel, by decide +kernel⟩
abbrev s_law_load : Stmt := topS 21
abbrev n_law_load : List Str := ["box", "cells", "first", "second", "cell", "size"]
theorem sc_law_load : FnScope n_law_load ["box"] (defScope s_law_load) := ⟨rfl, rfl, rfl, by decide +kernel, rfl, by decide +kernel, by decide +kernel⟩
abbrev s_law_draw : Stmt := topS 22
abbrev n_law_draw : List Str := ["box", "many", "digit"]
theorem sc_law_draw : FnScope n_law_draw ["box", "many"] (defScope s_law_draw) := ⟨rfl, rfl, rfl, by decide +kernel, rfl, by decide +kernel, by decide +kernel⟩
abbrev s_law_same : Stmt := topS 23
abbrev n_law_same : List Str := ["a", "b", "k"]
theorem sc_law_same : FnScope n_law_same ["a", "b"] (defScope s_law_same) := ⟨rfl, rfl, rfl, by decide +kernel, rfl, by decide +kernel, by decide +kernel⟩
abbrev s_law_divisor : Stmt := topS 24
abbrev n_law_divisor : List Str := ["a", "b"]
theorem sc_law_divisor : FnScope n_law_divisor ["a", "b"] (defScope s_law_divisor) := ⟨rfl, rfl, rfl, by decide +kernel, rfl, by decide +kernel, by decide +kernel⟩
abbrev s_law_ratio : Stmt := topS 25
abbrev n_law_ratio : List Str := ["p", "q", "d"]
theorem sc_law_ratio : FnScope n_law_ratio ["p", "q"] (defScope s_law_ratio) := ⟨rfl, rfl, rfl, by decide +kernel, rfl, by decide +kernel, by decide +kernel⟩
abbrev s_law_mul : Stmt := topS 26
abbrev n_law_mul : List Str := ["one", "other"]
theorem sc_law_mul : FnScope n_law_mul ["one", "other"] (defScope s_law_mul) := ⟨rfl, rfl, rfl, by decide +kernel, rfl, by decide +kernel, by decide +kernel⟩
abbrev s_law_bent : Stmt := topS 27
abbrev n_law_bent : List Str := ["box", "value", "pick", "at"]
theorem sc_law_bent : FnScope n_law_bent ["box", "value"] (defScope s_law_bent) := ⟨rfl, rfl, rfl, by decide +kernel, rfl, by decide +kernel, by decide +kernel⟩
abbrev s_law_whole : Stmt := topS 28
abbrev n_law_whole : List Str := ["value", "low", "high"]
theorem sc_law_whole : FnScope n_law_whole ["value", "low", "high"] (defScope s_law_whole) := ⟨rfl, rfl, rfl, by decide +kernel, rfl, by decide +kernel, by decide +kernel⟩
abbrev s_law_is : Stmt := topS 29
abbrev n_law_is : List Str := ["value", "rider"]
theorem sc_law_is : FnScope n_law_is ["value"] (defScope s_law_is) := ⟨rfl, rfl, rfl, by decide +kernel, rfl, by decide +kernel, by decide +kernel⟩
abbrev s_law : Stmt := topS 30
abbrev n_law : List Str := ["script", "box", "turn", "riders", "yard", "rows", "rider", "found", "row", "gaps", "weight", "single", "place", "mark", "base", "many", "powers", "top", "values", "value", "moment", "here", "step", "k"]
theorem sc_law : FnScope n_law ["script"] (defScope s_law) := ⟨rfl, rfl, rfl, by decide +kernel, rfl, by decide +kernel, by decide +kernel⟩
/-- what the top has written -/
structure Facts (K : PySem.W.Frag) (mg : Str → Option Value) : Prop where
  f_is_number : ∃ f fd, mg "is_number" = some (.ref f) ∧ Fun K "is_number" "is_number" s_is_number f fd ∧ L2.Binds K fd ["value", "least", "most"] []
  f_divisor_of : ∃ f fd, mg "divisor_of" = some (.ref f) ∧ Fun K "divisor_of" "divisor_of" s_divisor_of f fd ∧ L2.Binds K fd ["a", "b"] []
  f_lowest : ∃ f fd, mg "lowest" = some (.ref f) ∧ Fun K "lowest" "lowest" s_lowest f fd ∧ L2.Binds K fd ["p", "q"] []
  f_is_yard : ∃ f fd, mg "is_yard" = some (.ref f) ∧ Fun K "is_yard" "is_yard" s_is_yard f fd ∧ L2.Binds K fd ["value"] []
  f_ways_by_moment : ∃ f fd, mg "ways_by_moment" = some (.ref f) ∧ Fun K "ways_by_moment" "ways_by_moment" s_ways_by_moment f fd ∧ L2.Binds K fd ["yard"] []
  f_moment_for : ∃ f fd, mg "moment_for" = some (.ref f) ∧ Fun K "moment_for" "moment_for" s_moment_for f fd ∧ L2.Binds K fd ["yard", "weight"] []
  f_tells : ∃ f fd, mg "tells" = some (.ref f) ∧ Fun K "tells" "tells" s_tells f fd ∧ L2.Binds K fd ["yard", "weight"] []
  f_ways_to_tell : ∃ f fd, mg "ways_to_tell" = some (.ref f) ∧ Fun K "ways_to_tell" "ways_to_tell" s_ways_to_tell f fd ∧ L2.Binds K fd ["yard", "weight"] []
  f_told_weights : ∃ f fd, mg "told_weights" = some (.ref f) ∧ Fun K "told_weights" "told_weights" s_told_weights f fd ∧ L2.Binds K fd ["yard"] []
  f_first_untold : ∃ f fd, mg "first_untold" = some (.ref f) ∧ Fun K "first_untold" "first_untold" s_first_untold f fd ∧ L2.Binds K fd ["yard"] []
  f_mark_at : ∃ f fd, mg "mark_at" = some (.ref f) ∧ Fun K "mark_at" "mark_at" s_mark_at f fd ∧ L2.Binds K fd ["yard", "place"] []
  f_law_flat : ∃ f fd, mg "_law_flat" = some (.ref f) ∧ Fun K "_law_flat" "_law_flat" s_law_flat f fd ∧ L2.Binds K fd ["rows"] []
  f_law_box : ∃ f fd, mg "_law_box" = some (.ref f) ∧ Fun K "_law_box" "_law_box" s_law_box f fd ∧ L2.Binds K fd ["script"] []
  f_law_load : ∃ f fd, mg "_law_load" = some (.ref f) ∧ Fun K "_law_load" "_law_load" s_law_load f fd ∧ L2.Binds K fd ["box"] []
  f_law_draw : ∃ f fd, mg "_law_draw" = some (.ref f) ∧ Fun K "_law_draw" "_law_draw" s_law_draw f fd ∧ L2.Binds K fd ["box", "many"] []
  f_law_same : ∃ f fd, mg "_law_same" = some (.ref f) ∧ Fun K "_law_same" "_law_same" s_law_same f fd ∧ L2.Binds K fd ["a", "b"] []
  f_law_divisor : ∃ f fd, mg "_law_divisor" = some (.ref f) ∧ Fun K "_law_divisor" "_law_divisor" s_law_divisor f fd ∧ L2.Binds K fd ["a", "b"] []
  f_law_ratio : ∃ f fd, mg "_law_ratio" = some (.ref f) ∧ Fun K "_law_ratio" "_law_ratio" s_law_ratio f fd ∧ L2.Binds K fd ["p", "q"] []
  f_law_mul : ∃ f fd, mg "_law_mul" = some (.ref f) ∧ Fun K "_law_mul" "_law_mul" s_law_mul f fd ∧ L2.Binds K fd ["one", "other"] []
  f_law_bent : ∃ f fd, mg "_law_bent" = some (.ref f) ∧ Fun K "_law_bent" "_law_bent" s_law_bent f fd ∧ L2.Binds K fd ["box", "value"] []
  f_law_whole : ∃ f fd, mg "_law_whole" = some (.ref f) ∧ Fun K "_law_whole" "_law_whole" s_law_whole f fd ∧ L2.Binds K fd ["value", "low", "high"] []
  f_law_is : ∃ f fd, mg "_law_is" = some (.ref f) ∧ Fun K "_law_is" "_law_is" s_law_is f fd ∧ L2.Binds K fd ["value"] []
  f_law : ∃ f fd, mg "law" = some (.ref f) ∧ Fun K "law" "law" s_law f fd ∧ L2.Binds K fd ["script"] []
  b_abs : mg "abs" = none
  b_all : mg "all" = none
  b_bool : mg "bool" = none
  b_int : mg "int" = none
  b_isinstance : mg "isinstance" = none
  b_len : mg "len" = none
  b_list : mg "list" = none
  b_min : mg "min" = none
  b_range : mg "range" = none
  b_sorted : mg "sorted" = none
  b_str : mg "str" = none
  b_sum : mg "sum" = none
  b_tuple : mg "tuple" = none
  c_MOST_PLACE : ∃ t, mg "MOST_PLACE" = some (.int (50) t)
  c_MOST_RIDER : ∃ t, mg "MOST_RIDER" = some (.int (100) t)
  c_MOST_RIDERS : ∃ t, mg "MOST_RIDERS" = some (.int (3) t)
  c_MOST_STILL : ∃ t, mg "MOST_STILL" = some (.int (1000) t)

section
variable {P : Program} {w : World} {K : PySem.W.Frag} {mg : Str → Option Value} {base : Heap}

abbrev m_law_draw := drawM
theorem w_law_load (T : Facts K mg) : Def P w K mg base "_law_load" ["box"] 1 spLoad :=
 let ⟨f, fd, gF, F, b⟩ := T.f_law_load
 ⟨f, fd, gF, F.kp, b, by
  refine F.ok sc_law_load (fun vs H Q E h => ?_) (fun cdv A outer s H vs Q E hr h => ?_)
  · obtain ⟨_, _, _, _, _, rfl, _⟩ := h; rfl
  · obtain ⟨b, c, ns, n, s, rfl, x, q⟩ := h
    refine ⟨_, pss_cons (ps_set (i := 1) sc_law_load.nd rfl (.inl rfl) (pe_ix ix_list (pv 0) pe_int (fun _ _ => rfl)))
      (pss_cons (ps_if (pt_cmpR op_gt (pe_callB call_len_seq (by rfl) T.b_len PySem.boot_len (pa_cons (pv 1) pa_nil)) pe_int (nomark _))
          (pss_cons (ps_set (i := 4) sc_law_load.nd rfl (.inl rfl) (pe_callTy call_int1 (by rfl) T.b_int (by decide +kernel) (pa_cons (pe_bm PySem.F.plainAttrs_list PySem.F.slot_list_pop PySem.F.type_list_pop mt_popAt (pv 1) (pa_cons pe_int pa_nil)) pa_nil)))
          (pss_cons (ps_set (i := 5) sc_law_load.nd rfl (.inl rfl) (pe_ifExp (pt_cmpR op_ge (pv 4) pe_int (nomark _)) (pe_op op_mul pe_int (pv 4)) (pe_op op_sub (pe_op op_mul (pe_un un_neg pe_int) (pv 4)) pe_int)))
          (pss_cons (ps_if (pt_cmpR op_ge (pv 5) pe_int (nomark _)) (pss_one (ps_ret (pv 5))) pss_nil)
          (pss_one (ps_asg (pe_op op_mod (pe_callTy call_int1 (by rfl) T.b_int (by decide +kernel) (pa_cons (pe_op op_add (pe_op op_add (pe_op op_mul (pe_ix ix_list (pv 0) pe_int (fun _ _ => rfl)) pe_int) (pe_op op_mul (pv 5) pe_int)) pe_int) pa_nil)) pe_int) (pg_sub (pv 0) pe_int set_list))))))
          pss_nil)
      (PSs.wk (t' := tLoad2 b c ns.length H 0) (pss_cons (ps_set (i := 2) sc_law_load.nd rfl (.inl rfl) (pe_op op_mod (pe_callTy call_int1 (by rfl) T.b_int (by decide +kernel) (pa_cons (pe_op op_add (pe_op op_mul (pe_ix ix_list (pv 0) pe_int (fun _ _ => rfl)) pe_int) pe_int) pa_nil)) pe_int))
        (pss_cons (ps_set (i := 3) sc_law_load.nd rfl (.inl rfl) (pe_op op_mod (pe_callTy call_int1 (by rfl) T.b_int (by decide +kernel) (pa_cons (pe_op op_add (pe_op op_mul (pv 2) pe_int) pe_int) pa_nil)) pe_int))
        (pss_cons (ps_asg (pe_op op_mod (pe_callTy call_int1 (by rfl) T.b_int (by decide +kernel) (pa_cons (pe_op op_add (pe_op op_mul (pv 3) pe_int) pe_int) pa_nil)) pe_int) (pg_sub (pv 0) pe_int set_list))
        (pss_one (ps_ret (pe_op op_add (pe_op op_add (pe_op op_mul (pv 2) pe_int) (pe_op op_mul (pv 3) pe_int)) (pe_ix ix_list (pv 0) pe_int (fun _ _ => rfl)))))))) (fun D σ H1 h => by
          obtain ⟨ns1, n1, s1, e0, x1, hl1, o1, hlen, q1⟩ := h
          match σ, e0, hlen with
          | [_, y1, y2, y3, y4, y5], e0, _ =>
          cases e0
          refine ⟨_, rfl, b, _, 2, _, rfl, rfl, .of x1.hb, rfl, _, _, rfl, rfl, .inr ⟨by decide, by decide⟩, _, _, rfl, rfl, .inl ⟨_, rfl, _, _, rfl, rfl, (by show (0 : Int) < _; decide), ?_⟩⟩
          refine ⟨_, rfl, _, _, rfl, rfl, .inr ⟨by decide, by decide⟩, _, _, rfl, rfl, .inl ⟨_, rfl, _, _, rfl, rfl, (by show (0 : Int) < _; decide), ?_⟩⟩
          refine ⟨_, rfl, _, _, rfl, rfl, .inr ⟨by decide, by decide⟩, _, _, rfl, rfl, .inl ⟨_, rfl, _, _, rfl, rfl, (by show (0 : Int) < _; decide), ?_⟩⟩
          refine ⟨_, rfl, b, _, 2, 2, rfl, rfl, x1.hb, rfl, ?_⟩
          refine ⟨_, rfl, _, _, rfl, rfl, .inr ⟨by decide, by decide⟩, _, rfl, _, _, rfl, rfl, .inr ⟨by decide, by decide⟩, _, _, rfl, rfl, _, rfl, b, _, 2, _, rfl, rfl, .of upd_same, rfl, _, _, rfl, rfl, ?_⟩
          exact q1 _ _ _ _ _ hl1 x1.setB (o1.trans .upd1)))), ?_⟩
    -- cells = box[0]; if len(cells) > 0
    refine ⟨_, rfl, b, _, 0, _, rfl, rfl, .of x.hb, rfl, _, rfl, c, _, rfl, .inl (.of x.hc), _, _, rfl, rfl, _, rfl, ite2 (fun hpos => ?_) (fun _ => ?_)⟩
    · cases ns with
      | nil => exact absurd hpos (by decide)
      | cons i r =>
        refine ⟨_, rfl, .inl ⟨rfl, _, .of x.hc⟩, c, _, 0, 0, _, rfl, rfl, x.hc, by decide, by decide, (ixN_seq (show ixN (List.map V.int (i :: r)).length 0 = some 0 by simp [ixN])).1, rfl, .inl ⟨_, rfl, ?_⟩⟩
        have x1 : BxAt (upd H c (.lst (r.map V.int))) b c r n s := x.setC
        -- size
        refine ⟨_, rfl, _, _, rfl, rfl, _, rfl, ?_⟩
        refine ite2 (fun _ => ?_) (fun _ => ?_)
        · refine ⟨_, rfl, _, _, rfl, rfl, .inl ⟨by decide, by decide⟩, ?_⟩
          refine ⟨_, rfl, _, _, rfl, rfl, _, rfl, ite2 (fun _ => ?_) (fun _ => ?_)⟩
          · exact ⟨_, rfl, q _ _ _ _ _ (by simp) x1 .upd2⟩
          · refine ⟨_, rfl, b, _, 2, _, rfl, rfl, .of x1.hb, rfl, _, _, rfl, rfl, .inr ⟨by decide, by decide⟩, _, rfl, _, _, rfl, rfl, .inr ⟨by decide, by decide⟩, _, _, rfl, rfl, _, _, rfl, rfl, .inl ⟨_, rfl, _, _, rfl, rfl, (by show (0 : Int) < _; decide), ?_⟩⟩
            refine ⟨_, rfl, b, _, 2, 2, rfl, rfl, x1.hb, rfl, ?_⟩
            exact ⟨r, n, _, rfl, x1.setB, by simp, Only2.trans .upd2 .upd1, rfl, q⟩
        · refine ⟨_, rfl, _, rfl, _, _, rfl, rfl, .inl ⟨by decide, by decide⟩, _, _, rfl, rfl, ?_⟩
          refine ⟨_, rfl, _, _, rfl, rfl, _, rfl, ite2 (fun _ => ?_) (fun _ => ?_)⟩
          · exact ⟨_, rfl, q _ _ _ _ _ (by simp) x1 .upd2⟩
          · refine ⟨_, rfl, b, _, 2, _, rfl, rfl, .of x1.hb, rfl, _, _, rfl, rfl, .inr ⟨by decide, by decide⟩, _, rfl, _, _, rfl, rfl, .inr ⟨by decide, by decide⟩, _, _, rfl, rfl, _, _, rfl, rfl, .inl ⟨_, rfl, _, _, rfl, rfl, (by show (0 : Int) < _; decide), ?_⟩⟩
            refine ⟨_, rfl, b, _, 2, 2, rfl, rfl, x1.hb, rfl, ?_⟩
            exact ⟨r, n, _, rfl, x1.setB, by simp, Only2.trans .upd2 .upd1, rfl, q⟩
    · exact ⟨ns, n, s, rfl, x, Nat.le_refl _, .refl, rfl, q⟩⟩
theorem w_law_draw (T : Facts K mg) (d_law_load : Def P w K mg base "_law_load" ["box"] 1 spLoad) : Def P w K mg base "_law_draw" ["box", "many"] 2 (spX K 2 1 drawM) :=
 let ⟨f, fd, gF, F, b⟩ := T.f_law_draw
 ⟨f, fd, gF, F.kp, b, by
  obtain ⟨fl, fdl, gL, kL, bL, GL⟩ := d_law_load
  refine FnOk.imp (sp := spDraw0) ?_ (fun vs H Q E h => spDraw_of h)
  refine F.ok sc_law_draw (fun vs H Q E h => ?_) (fun cdv A outer s H vs Q E hr h => ?_)
  · obtain ⟨_, _, _, _, _, _, rfl, _⟩ := h; rfl
  · obtain ⟨b, c, ns, n, s, m, rfl, x, h0, h1, q⟩ := h
    refine ⟨_, pss_cons (ps_if (pt_cmpR op_lt (pe_ix ix_list (pv 0) pe_int (fun _ _ => rfl)) (pv 1) (nomark _)) (pss_one (ps_asg (pe_call GL hr (by rfl) gL kL bL .nil pass0 (pa_cons (pv 0) pa_nil)) (pg_sub (pv 0) pe_int set_list))) pss_nil)
      (PSs.wk (t' := fun D σ H1 => ∃ (ns1 : List Int) (n1 s1 : Int), σ = [some (.ref b), some (.int m), none] ∧ BxAt H1 b c ns1 n1 s1 ∧ ns1.length ≤ ns.length ∧ Only2 b c H H1 ∧ ∀ (r : Int) H' ns' n' s', 0 ≤ r → r < m → ns'.length ≤ ns.length → BxAt H' b c ns' n' s' → Only2 b c H H' → D.rt (.int r) H')
        (pss_cons (ps_set (i := 2) sc_law_draw.nd rfl (.inl rfl) (pe_op op_mod (pe_callTy call_int1 (by rfl) T.b_int (by decide +kernel) (pa_cons (pe_ix ix_list (pv 0) pe_int (fun _ _ => rfl)) pa_nil)) (pv 1)))
        (pss_cons (ps_asg (pe_op op_fdiv (pe_ix ix_list (pv 0) pe_int (fun _ _ => rfl)) (pv 1)) (pg_sub (pv 0) pe_int set_list))
        (pss_one (ps_ret (pv 2))))) (fun D σ H1 h => by
          obtain ⟨ns1, n1, s1, rfl, x1, hl1, o1, q1⟩ := h
          refine ⟨_, rfl, b, _, 1, _, rfl, rfl, .of x1.hb, rfl, .inl ⟨_, rfl, _, rfl, _, _, rfl, rfl, h0, ?_⟩⟩
          refine ⟨_, rfl, b, _, 1, _, rfl, rfl, .of x1.hb, rfl, _, rfl, _, _, rfl, rfl, ⟨h0, h1⟩, ?_⟩
          refine ⟨_, rfl, b, _, 1, 1, rfl, rfl, x1.hb, rfl, _, rfl, ?_⟩
          exact q1 _ _ _ _ _ (Int.emod_nonneg _ (by omega)) (Int.emod_lt_of_pos _ h0) hl1 x1.setB (o1.trans .upd1))), ?_⟩
    refine ⟨_, rfl, b, _, 1, _, rfl, rfl, .of x.hb, rfl, _, rfl, _, _, rfl, rfl, _, rfl, ite2 (fun _ => ?_) (fun _ => ?_)⟩
    · refine ⟨_, rfl, b, c, ns, n, s, rfl, x, fun r H' ns' n' s' hl' x' o' => ?_⟩
      refine ⟨_, rfl, b, _, 1, 1, rfl, rfl, x'.hb, rfl, ?_⟩
      exact ⟨ns', r, s', rfl, x'.setB, hl', o'.trans .upd1, q⟩
    · exact ⟨ns, n, s, rfl, x, Nat.le_refl _, .refl, q⟩⟩
theorem w_law_box (T : Facts K mg) : Def P w K mg base "_law_box" ["script"] 1 (spBox K) :=
 let ⟨f, fd, gF, F, b⟩ := T.f_law_box
 ⟨f, fd, gF, F.kp, b, by
  refine F.ok sc_law_box (fun vs H Q E h => ?_) (fun cdv A outer s H vs Q E hr h => ?_)
  · obtain ⟨_, _, rfl, _⟩ := h; rfl
  · obtain ⟨a, ns, rfl, hS, hl, q⟩ := h
    refine ⟨_, pss_one (ps_ret (pe_lst (pa_cons (pe_callTy call_list_of (by rfl) T.b_list (by decide +kernel) (pa_cons (pe_slice sl_list (pv 0) po_none (po_some pe_int)) pa_nil)) (pa_cons pe_int (pa_cons (pe_op op_add pe_int (pe_callB call_len_seq (by rfl) T.b_len PySem.boot_len (pa_cons (pv 0) pa_nil))) pa_nil))))), ?_⟩
    refine ⟨_, rfl, 63, rfl, a, _, rfl, hS, fun p np => ?_⟩
    have s1 : Same H (upd H p (.lst (cutV (ns.map V.int) none (some 63)))) := fun b u e => by rw [upd_ne (ne_of_none e np)]; exact e
    refine ⟨p, _, rfl, .inl (.of upd_same), fun c nc => ?_⟩
    have s2 : Same H (upd (upd H p (.lst (cutV (ns.map V.int) none (some 63)))) c (.lst (cutV (ns.map V.int) none (some 63)))) := s1.trans fun b u e => by rw [upd_ne (ne_of_none e nc)]; exact e
    refine ⟨.ref a, rfl, a, _, rfl, .inl (s2.seq hS), _, _, rfl, rfl, (show 3 ≤ sizeLine by decide), fun bb nb => ?_⟩
    have e1 : cutV (ns.map V.int) none (some 63) = (ns.take 63).map V.int := by
      unfold cutV
      rw [HT.sIx_none, show HT.sIx (ns.map V.int).length (ns.map V.int).length (some 63) = min 63 (ns.map V.int).length from HT.sIx_nat _ _ 63]
      rw [List.length_map, Nat.min_eq_right (by omega)]
      simp
      omega
    have nH : ∀ q : Addr, (upd (upd H p (.lst (cutV (ns.map V.int) none (some 63)))) c (.lst (cutV (ns.map V.int) none (some 63)))) q = none → H q = none := fun q e => by
      cases z : H q with
      | none => rfl
      | some o => rw [s2 q o z] at e; cases e
    have n1 : H c = none := by
      cases z : H c with
      | none => rfl
      | some o => rw [s1 c o z] at nc; cases nc
    have ne : bb ≠ c := fun e => by rw [e, upd_same] at nb; cases nb
    refine q bb c _ (ns.take 63) 0 _ (nH bb nb) n1 ⟨ne, upd_same, ?_⟩ (by rw [List.length_take]; omega)
    rw [upd_ne ne.symm, upd_same, e1]⟩

def g_is_number : List Sl → R Out := (retM (andV (m1 (nDR 0) (isiR isInt)) (andV (notV (m1 (nDR 0) (isiR isBoo))) (chain ok leR leR (nDR 1) (nDR 0) (nDR 2)))))
def m_is_number : List D → R D := fnM 3 g_is_number

theorem w_is_number (T : Facts K mg) : Def P w K mg base "is_number" ["value", "least", "most"] 1 (spR K 3 m_is_number) :=
 let ⟨f, fd, gF, F, b⟩ := T.f_is_number
 ⟨f, fd, gF, F.kp, b, fn_ok F sc_is_number fun cdv A outer s H E hr =>
 (sOne (sRet (pb (andP (isiInt T.b_isinstance T.b_int (pb (nD 0))) (andP (notVP (pb (isiBoo T.b_isinstance T.b_bool (pb (nD 0))))) (v1 (cmp2 (qLe hr.units) (qLe hr.units) (pb (nD 1)) (pb (nD 0)) (pb (nD 2)))))))))⟩

def g_divisor_of : List Sl → R Out := (seqM (setsM [0, 1] (consR (rD (m1 (consR (nDR 0) nilR) absR)) (consR (rD (m1 (consR (nDR 1) nilR) absR)) nilR)))
 (seqM (whileM (m1 (nDR 1) truR) (setsM [0, 1] (consR (rD (nDR 1)) (consR (rD (m2 (nDR 0) (nDR 1) fmodR)) nilR))))
 (retM (nDR 0))))
def m_divisor_of : List D → R D := fnM 2 g_divisor_of

theorem w_divisor_of (T : Facts K mg) : Def P w K mg base "divisor_of" ["a", "b"] 1 (spR K 2 m_divisor_of) :=
 let ⟨f, fd, gF, F, b⟩ := T.f_divisor_of
 ⟨f, fd, gF, F.kp, b, fn_ok F sc_divisor_of fun cdv A outer s H E hr =>
 (sCons (sPar2 0 1 sc_divisor_of.nd (mD (cal kAbs T.b_abs (aC (pb (nD 0)) aN)) (mD (cal kAbs T.b_abs (aC (pb (nD 1)) aN)) mN)))
 (sCons (sWhile nvr (tst (pb (nD 1))) (sOne (sPar2 0 1 sc_divisor_of.nd (mD (nD 1) (mD (oMod (pb (nD 0)) (pb (nD 1))) mN)))))
 (sOne (sRet (pb (nD 0))))))⟩

def g_lowest : List Sl → R Out := (seqM (setM 2 (ifV (m1 (m2 (nDR 1) (kR (.int 0)) gtR) asB) (m1 (consR (nDR 0) (consR (nDR 1) nilR)) (callR 2 m_divisor_of)) (m1 (m1 (consR (nDR 0) (consR (nDR 1) nilR)) (callR 2 m_divisor_of)) negR)))
 (retM (m1 (consR (m2 (nDR 0) (nDR 2) fdivR) (consR (m2 (nDR 1) (nDR 2) fdivR) nilR)) tupR)))
def m_lowest : List D → R D := fnM 3 g_lowest

theorem w_lowest (T : Facts K mg) (d_divisor_of : Def P w K mg base "divisor_of" ["a", "b"] 1 (spR K 2 m_divisor_of)) : Def P w K mg base "lowest" ["p", "q"] 2 (spR K 2 m_lowest) :=
 let ⟨f, fd, gF, F, b⟩ := T.f_lowest
 ⟨f, fd, gF, F.kp, b, fn_ok F sc_lowest fun cdv A outer s H E hr =>
 (sCons (sSet 2 sc_lowest.nd (ifP (cmpT (qGt hr.units) (pb (nD 1)) (pb cI)) (callD d_divisor_of (hr.mono (by omega)) (fC (nD 0) (fC (nD 1) fN))) (oNeg (pb (callD d_divisor_of (hr.mono (by omega)) (fC (nD 0) (fC (nD 1) fN)))))))
 (sOne (sRet (pb (tup (fC (oFdiv (pb (nD 0)) (pb (nD 2))) (fC (oFdiv (pb (nD 1)) (pb (nD 2))) fN)))))))⟩

def g_is_yard : List Sl → R Out := (seqM (ifV (orT (notT (m1 (m1 (nDR 0) (isiR isTup)) truR)) (orT (m1 (m2 (m1 (consR (nDR 0) nilR) lenR) (kR (.int 4)) neR) asB) (notT (m1 (m1 (consR (m2 (nDR 0) (kR (.int 0)) ixR) (consR (kR (.int 1)) (consR (kR (.int 50)) nilR))) (callR 3 m_is_number)) truR)))) (retM (kR (.bool false))) nilM)
 (seqM (ifV (orT (notT (m1 (m1 (consR (m2 (nDR 0) (kR (.int 1)) ixR) (consR (m1 (kR (.int 1000)) negR) (consR (kR (.int 1000)) nilR))) (callR 3 m_is_number)) truR)) (notT (m1 (m1 (consR (m2 (nDR 0) (kR (.int 3)) ixR) (consR (kR (.int 1)) (consR (kR (.int 50)) nilR))) (callR 3 m_is_number)) truR))) (retM (kR (.bool false))) nilM)
 (seqM (setM 1 (m2 (nDR 0) (kR (.int 2)) ixR))
 (seqM (ifV (orT (notT (m1 (m1 (nDR 1) (isiR isTup)) truR)) (notT (m1 (chain ok leR leR (kR (.int 1)) (m1 (consR (nDR 1) nilR) lenR) (kR (.int 3))) asB))) (retM (kR (.bool false))) nilM)
 (seqM (ifV (notT (m1 (m1 (consR (frz (lcM [3] (itR (nDR 1)) (gSet 3) yesT (m1 (consR (nDR 3) (consR (kR (.int 1)) (consR (kR (.int 100)) nilR))) (callR 3 m_is_number)))) nilR) allR) truR)) (retM (kR (.bool false))) nilM)
 (retM (m1 (consR (frz (lcM [2] (m1 (consR (m2 (m1 (consR (nDR 1) nilR) lenR) (kR (.int 1)) subR) nilR) range1R) (gSet 2) yesT (m2 (m2 (nDR 1) (nDR 2) ixR) (m2 (nDR 1) (m2 (nDR 2) (kR (.int 1)) addR) ixR) leR))) nilR) allR)))))))
def m_is_yard : List D → R D := fnM 4 g_is_yard

theorem w_is_yard (T : Facts K mg) (d_is_number : Def P w K mg base "is_number" ["value", "least", "most"] 1 (spR K 3 m_is_number)) : Def P w K mg base "is_yard" ["value"] 2 (spR K 1 m_is_yard) :=
 let ⟨f, fd, gF, F, b⟩ := T.f_is_yard
 ⟨f, fd, gF, F.kp, b, fn_ok F sc_is_yard fun cdv A outer s H E hr =>
 (sCons (sIf (PW.pt (orW (notP (tst (pb (isiTup T.b_isinstance T.b_tuple (pb (nD 0)))))) (orW (cmpT (qNe hr.units) (pb (cal kLen T.b_len (aC (pb (nD 0)) aN))) (pb cI)) (or1 (notP (tst (pb (callD d_is_number (hr.mono (by omega)) (fC (ix (pb (nD 0)) (pb cI)) (fC cI (fC (gcI T.c_MOST_PLACE) fN))))))))))) (sOne (sRet (pb cT))) sNil)
 (sCons (sIf (PW.pt (orW (notP (tst (pb (callD d_is_number (hr.mono (by omega)) (fC (ix (pb (nD 0)) (pb cI)) (fC (oNeg (pb (gcI T.c_MOST_STILL))) (fC (gcI T.c_MOST_STILL) fN))))))) (or1 (notP (tst (pb (callD d_is_number (hr.mono (by omega)) (fC (ix (pb (nD 0)) (pb cI)) (fC cI (fC (gcI T.c_MOST_PLACE) fN)))))))))) (sOne (sRet (pb cT))) sNil)
 (sCons (sSet 1 sc_is_yard.nd (ix (pb (nD 0)) (pb cI)))
 (sCons (sIf (PW.pt (orW (notP (tst (pb (isiTup T.b_isinstance T.b_tuple (pb (nD 1)))))) (or1 (notP (cmp2T (qLe hr.units) (qLe hr.units) (pb cI) (pb (cal kLen T.b_len (aC (pb (nD 1)) aN))) (pb (gcI T.c_MOST_RIDERS))))))) (sOne (sRet (pb cT))) sNil)
 (sCons (sIf (notP (tst (pb (cal (kAll rfl) T.b_all (aC (pb (pf (lc (own := [("rider", 3)]) sc_is_yard.nd (by show blkC n_is_yard (defScope s_is_yard) _ _ = true; decide +kernel) (iB (pb (nD 1))) (fun _ _ _ _ _ => (gN 3 sc_is_yard.nd)) (fun _ _ _ _ _ => tN) (fun _ _ _ _ _ => (callD d_is_number (hr.mono (by omega)) (fC (nD 3) (fC cI (fC (gcI T.c_MOST_RIDER) fN)))))))) aN))))) (sOne (sRet (pb cT))) sNil)
 (sOne (sRet (pb (cal (kAll rfl) T.b_all (aC (pb (pf (lc (own := [("k", 2)]) sc_is_yard.nd (by show blkC n_is_yard (defScope s_is_yard) _ _ = true; decide +kernel) (iW (iR1 T.b_range (aC (pb (oSub (pb (cal kLen T.b_len (aC (pb (nD 1)) aN))) (pb cI))) aN))) (fun _ _ _ _ _ => (gN 2 sc_is_yard.nd)) (fun _ _ _ _ _ => tN) (fun _ _ _ _ _ => (cmp (qLe hr.units) (pb (ix (pb (nD 1)) (pb (nD 2)))) (pb (ix (pb (nD 1)) (pb (oAdd (pb (nD 2)) (pb cI)))))))))) aN))))))))))⟩

def g_ways_by_moment : List Sl → R (List (Key × D)) := (seqD (asgM (nDR 0) (gTupR 4 (gConsR (gSet 1) (gConsR (gSet 1) (gConsR (gSet 2) (gConsR (gSet 3) gNilR))))))
 (seqD (setOD 4 (disp1 (kR (.int 0)) (m1 (consR (m1 nilR tupR) (consR (kR (.int 1)) nilR)) tupR)))
 (seqD (forM (itR (nDR 2)) (gSet 5) (seqM (setOD 6 emptyD)
 (seqM (forM (itR (frz (srtIM 4))) (gTupR 2 (gConsR (gSet 7) (gConsR (gTupR 2 (gConsR (gSet 8) (gConsR (gSet 9) gNilR))) gNilR))) (forM (m1 (consR (m2 (nDR 3) (kR (.int 1)) addR) nilR) range1R) (gSet 10) (seqM (setsM [11, 12] (consR (rD (m2 (nDR 7) (m2 (nDR 5) (nDR 10) mulR) addR)) (consR (rD (m2 (nDR 8) (m1 (consR (nDR 10) nilR) tupR) addR)) nilR)))
 (seqM (setM 13 (getM2 6 (nDR 11) (m1 (consR (nDR 12) (consR (kR (.int 0)) nilR)) tupR)))
 (putM 6 (nDR 11) (m1 (consR (m1 (consR (m2 (nDR 13) (kR (.int 0)) ixR) (consR (nDR 12) nilR)) minTR) (consR (m2 (m2 (nDR 13) (kR (.int 1)) ixR) (nDR 9) addR) nilR)) tupR))))))
 (mvD 4 6))))
 (odR 4))))
def m_ways_by_moment : List D → R (List (Key × D)) := fnD 14 g_ways_by_moment

theorem w_ways_by_moment (T : Facts K mg) : Def P w K mg base "ways_by_moment" ["yard"] 1 (spRD K 1 m_ways_by_moment) :=
 let ⟨f, fd, gF, F, b⟩ := T.f_ways_by_moment
 ⟨f, fd, gF, F.kp, b, fn_okD F sc_ways_by_moment fun cdv A outer s H E hr =>
 (sConsD (sAsg (nD 0) (gT (gsC (gN 1 sc_ways_by_moment.nd) (gsC (gN 1 sc_ways_by_moment.nd) (gsC (gN 2 sc_ways_by_moment.nd) (gsC (gN 3 sc_ways_by_moment.nd) gsN))))))
 (sConsD (sSetOD 4 sc_ways_by_moment.nd (dDisp1 cI (tup (fC (tup fN) (fC cI fN)))))
 (sConsD (sFor nvr (iS (nD 2)) (gN 5 sc_ways_by_moment.nd) (sCons (sSetOD 6 sc_ways_by_moment.nd dNew)
 (sCons (sFor nvr (iS (pf (srtI 4 rfl hr.units T.b_sorted))) (gT (gsC (gN 7 sc_ways_by_moment.nd) (gsC (gT (gsC (gN 8 sc_ways_by_moment.nd) (gsC (gN 9 sc_ways_by_moment.nd) gsN))) gsN))) (sOne (sFor nvr (iR1 T.b_range (aC (pb (oAdd (pb (nD 3)) (pb cI))) aN)) (gN 10 sc_ways_by_moment.nd) (sCons (sPar2 11 12 sc_ways_by_moment.nd (mD (oAdd (pb (nD 7)) (pb (oMul (pb (nD 5)) (pb (nD 10))))) (mD (oAdd (pb (nD 8)) (pb (tup (fC (nD 10) fN)))) mN)))
 (sCons (sSet 13 sc_ways_by_moment.nd (getD2 6 (un1 hr.units) (nD 11) (tup (fC (nD 12) (fC cI fN)))))
 (sOne (sPutD 6 (un1 hr.units) (nD 11) (tup (fC (cal (kMinT rfl hr.units) T.b_min (aC (pb (ix (pb (nD 13)) (pb cI))) (aC (pb (nD 12)) aN))) (fC (oAdd (pb (ix (pb (nD 13)) (pb cI))) (pb (nD 9))) fN))))))))))
 (sOne (sMvD 4 6 sc_ways_by_moment.nd)))))
 (sRetD 4))))⟩

def g_moment_for : List Sl → R Out := (retM (m2 (m2 (m2 (nDR 0) (kR (.int 0)) ixR) (nDR 1) mulR) (m2 (nDR 0) (kR (.int 1)) ixR) subR))
def m_moment_for : List D → R D := fnM 2 g_moment_for

theorem w_moment_for (T : Facts K mg) : Def P w K mg base "moment_for" ["yard", "weight"] 1 (spR K 2 m_moment_for) :=
 let ⟨f, fd, gF, F, b⟩ := T.f_moment_for
 ⟨f, fd, gF, F.kp, b, fn_ok F sc_moment_for fun cdv A outer s H E hr =>
 (sOne (sRet (pb (oSub (pb (oMul (pb (ix (pb (nD 0)) (pb cI))) (pb (nD 1)))) (pb (ix (pb (nD 0)) (pb cI)))))))⟩

def g_tells : List Sl → R Out := (seqM (setsM [2, 3] (consR (rOD (m1 (consR (nDR 0) nilR) (callRD 1 m_ways_by_moment))) (consR (rD (m1 (consR (nDR 0) (consR (nDR 1) nilR)) (callR 2 m_moment_for))) nilR)))
 (retM (ifV (m1 (inDM 2 (nDR 3)) asB) (m2 (ixdM 2 (nDR 3)) (kR (.int 0)) ixR) (kR .none))))
def m_tells : List D → R D := fnM 4 g_tells

theorem w_tells (T : Facts K mg) (d_ways_by_moment : Def P w K mg base "ways_by_moment" ["yard"] 1 (spRD K 1 m_ways_by_moment)) (d_moment_for : Def P w K mg base "moment_for" ["yard", "weight"] 1 (spR K 2 m_moment_for)) : Def P w K mg base "tells" ["yard", "weight"] 2 (spR K 2 m_tells) :=
 let ⟨f, fd, gF, F, b⟩ := T.f_tells
 ⟨f, fd, gF, F.kp, b, fn_ok F sc_tells fun cdv A outer s H E hr =>
 (sCons (sPar2 2 3 sc_tells.nd (mOD (callDDf d_ways_by_moment (hr.mono (by omega)) (fC (nD 0) fN)) (mD (callD d_moment_for (hr.mono (by omega)) (fC (nD 0) (fC (nD 1) fN))) mN)))
 (sOne (sRet (pb (ifP (inDT 2 (un1 hr.units) (nD 3)) (ix (pb (ixD 2 (un1 hr.units) (nD 3))) (pb cI)) cN)))))⟩

def g_ways_to_tell : List Sl → R Out := (seqM (setsM [2, 3] (consR (rOD (m1 (consR (nDR 0) nilR) (callRD 1 m_ways_by_moment))) (consR (rD (m1 (consR (nDR 0) (consR (nDR 1) nilR)) (callR 2 m_moment_for))) nilR)))
 (retM (ifV (m1 (inDM 2 (nDR 3)) asB) (m2 (ixdM 2 (nDR 3)) (kR (.int 1)) ixR) (kR (.int 0)))))
def m_ways_to_tell : List D → R D := fnM 4 g_ways_to_tell

theorem w_ways_to_tell (T : Facts K mg) (d_ways_by_moment : Def P w K mg base "ways_by_moment" ["yard"] 1 (spRD K 1 m_ways_by_moment)) (d_moment_for : Def P w K mg base "moment_for" ["yard", "weight"] 1 (spR K 2 m_moment_for)) : Def P w K mg base "ways_to_tell" ["yard", "weight"] 2 (spR K 2 m_ways_to_tell) :=
 let ⟨f, fd, gF, F, b⟩ := T.f_ways_to_tell
 ⟨f, fd, gF, F.kp, b, fn_ok F sc_ways_to_tell fun cdv A outer s H E hr =>
 (sCons (sPar2 2 3 sc_ways_to_tell.nd (mOD (callDDf d_ways_by_moment (hr.mono (by omega)) (fC (nD 0) fN)) (mD (callD d_moment_for (hr.mono (by omega)) (fC (nD 0) (fC (nD 1) fN))) mN)))
 (sOne (sRet (pb (ifP (inDT 2 (un1 hr.units) (nD 3)) (ix (pb (ixD 2 (un1 hr.units) (nD 3))) (pb cI)) cI)))))⟩

def g_told_weights : List Sl → R Out := (seqM (setO 1 (m1 nilR lstR))
 (seqM (forM (itR (frz (srtFM (m1 (consR (nDR 0) nilR) (callRD 1 m_ways_by_moment))))) (gSet 2) (seqM (setM 3 (m2 (nDR 2) (m2 (nDR 0) (kR (.int 1)) ixR) addR))
 (ifV (andT (m1 (m2 (nDR 3) (kR (.int 0)) geR) asB) (m1 (m2 (m2 (nDR 3) (m2 (nDR 0) (kR (.int 0)) ixR) fmodR) (kR (.int 0)) eqR) asB)) (mutM 1 (consR (m2 (nDR 3) (m2 (nDR 0) (kR (.int 0)) ixR) fdivR) nilR) appR) nilM)))
 (retM (m1 (consR (nBR 1) nilR) tupOfR))))
def m_told_weights : List D → R D := fnM 4 g_told_weights

theorem w_told_weights (T : Facts K mg) (d_ways_by_moment : Def P w K mg base "ways_by_moment" ["yard"] 1 (spRD K 1 m_ways_by_moment)) : Def P w K mg base "told_weights" ["yard"] 2 (spR K 1 m_told_weights) :=
 let ⟨f, fd, gF, F, b⟩ := T.f_told_weights
 ⟨f, fd, gF, F.kp, b, fn_ok F sc_told_weights fun cdv A outer s H E hr =>
 (sCons (sSetO 1 sc_told_weights.nd (lst fN))
 (sCons (sFor nvr (iS (pf (srtF rfl hr.units T.b_sorted (callDDf d_ways_by_moment (hr.mono (by omega)) (fC (nD 0) fN))))) (gN 2 sc_told_weights.nd) (sCons (sSet 3 sc_told_weights.nd (oAdd (pb (nD 2)) (pb (ix (pb (nD 0)) (pb cI)))))
 (sOne (sIf (PW.pt (andW (cmpT (qGe hr.units) (pb (nD 3)) (pb cI)) (and1 (cmpT (qEq hr.units) (pb (oMod (pb (nD 3)) (pb (ix (pb (nD 0)) (pb cI))))) (pb cI))))) (sOne (sMut mut_app (pe_bm PySem.F.plainAttrs_list PySem.F.slot_list_append PySem.F.type_list_append mt_append (pv 1) (fC (oFdiv (pb (nD 3)) (pb (ix (pb (nD 0)) (pb cI)))) fN)))) sNil))))
 (sOne (sRet (pb (calT kTup T.b_tuple (aC (nB 1) aN)))))))⟩

def g_first_untold : List Sl → R Out := (seqM (setsM [1, 2] (consR (rOD (dcM [2] (itR (m1 (consR (nDR 0) nilR) (callR 1 m_told_weights))) (gSet 2) yesT (nDR 2) (kR (.bool true)))) (consR (rD (kR (.int 0))) nilR)))
 (seqM (whileM (m1 (inDM 1 (nDR 2)) asB) (augM 2 (kR (.int 1)) addIR))
 (retM (nDR 2))))
def m_first_untold : List D → R D := fnM 3 g_first_untold

theorem w_first_untold (T : Facts K mg) (d_told_weights : Def P w K mg base "told_weights" ["yard"] 2 (spR K 1 m_told_weights)) : Def P w K mg base "first_untold" ["yard"] 3 (spR K 1 m_first_untold) :=
 let ⟨f, fd, gF, F, b⟩ := T.f_first_untold
 ⟨f, fd, gF, F.kp, b, fn_ok F sc_first_untold fun cdv A outer s H E hr =>
 (sCons (sPar2 1 2 sc_first_untold.nd (mOD (dc (own := [("weight", 2)]) sc_first_untold.nd (by show blkC n_first_untold (defScope s_first_untold) _ _ = true; decide +kernel) (iB (pb (callD d_told_weights (hr.mono (by omega)) (fC (nD 0) fN)))) (fun _ _ _ _ _ => (gN 2 sc_first_untold.nd)) (fun _ _ _ _ _ => tN) (fun _ _ _ _ _ => (nD 2)) (fun _ _ _ _ _ => cT)) (mD cI mN)))
 (sCons (sWhile nvr (inDT 1 (un1 hr.units) (nD 2)) (sOne (sAugAdd 2 sc_first_untold.nd (pb cI))))
 (sOne (sRet (pb (nD 2))))))⟩

def g_mark_at : List Sl → R Out := (retM (m1 (consR (m2 (m2 (nDR 0) (kR (.int 1)) ixR) (m2 (m2 (m2 (nDR 0) (kR (.int 2)) ixR) (kR (.int 0)) ixR) (nDR 1) mulR) addR) (consR (m2 (nDR 0) (kR (.int 0)) ixR) nilR)) (callR 2 m_lowest)))
def m_mark_at : List D → R D := fnM 2 g_mark_at

theorem w_mark_at (T : Facts K mg) (d_lowest : Def P w K mg base "lowest" ["p", "q"] 2 (spR K 2 m_lowest)) : Def P w K mg base "mark_at" ["yard", "place"] 3 (spR K 2 m_mark_at) :=
 let ⟨f, fd, gF, F, b⟩ := T.f_mark_at
 ⟨f, fd, gF, F.kp, b, fn_ok F sc_mark_at fun cdv A outer s H E hr =>
 (sOne (sRet (pb (callD d_lowest (hr.mono (by omega)) (fC (oAdd (pb (ix (pb (nD 0)) (pb cI))) (pb (oMul (pb (ix (pb (ix (pb (nD 0)) (pb cI))) (pb cI))) (pb (nD 1))))) (fC (ix (pb (nD 0)) (pb cI)) fN))))))⟩

def g_law_flat : List Sl → R Out := (seqM (setO 1 (m1 nilR lstR))
 (seqM (forM (itR (nDR 0)) (gSet 2) (mutM 1 (consR (nDR 2) nilR) extAR))
 (retM (nBR 1))))
def m_law_flat : List D → R D := fnM 3 g_law_flat

theorem w_law_flat (T : Facts K mg) : Def P w K mg base "_law_flat" ["rows"] 1 (spR K 1 m_law_flat) :=
 let ⟨f, fd, gF, F, b⟩ := T.f_law_flat
 ⟨f, fd, gF, F.kp, b, fn_ok F sc_law_flat fun cdv A outer s H E hr =>
 (sCons (sSetO 1 sc_law_flat.nd (lst fN))
 (sCons (sFor nvr (iS (nD 0)) (gN 2 sc_law_flat.nd) (sOne (sMutB mut_extA (pe_bm PySem.F.plainAttrs_list PySem.F.slot_list_extend PySem.F.type_list_extend mt_extendA (pv 1) (aC (pb (nD 2)) aN)))))
 (sOne (sRet (nB 1)))))⟩

def g_law_same (self : List D → R D) : List Sl → R Out := (seqM (ifV (orT (andT (m1 (m1 (nDR 0) (isiR isTup)) truR) (m1 (m1 (nDR 1) (isiR isTup)) truR)) (andT (m1 (m1 (nDR 0) (isiR isLst)) truR) (m1 (m1 (nDR 1) (isiR isLst)) truR))) (retM (andV (m2 (m1 (consR (nDR 0) nilR) lenR) (m1 (consR (nDR 1) nilR) lenR) eqR) (m1 (consR (frz (lcM [2] (m1 (consR (m1 (consR (nDR 0) nilR) lenR) nilR) range1R) (gSet 2) yesT (m1 (consR (m2 (nDR 0) (nDR 2) ixR) (consR (m2 (nDR 1) (nDR 2) ixR) nilR)) (callR 2 self)))) nilR) allR))) nilM)
 (seqM (ifV (orT (m1 (m1 (nDR 0) (isiR isBoo)) truR) (m1 (m1 (nDR 1) (isiR isBoo)) truR)) (retM (andV (m1 (nDR 0) (isiR isBoo)) (andV (m1 (nDR 1) (isiR isBoo)) (m2 (nDR 0) (nDR 1) eqR)))) nilM)
 (seqM (ifV (orT (andT (m1 (m1 (nDR 0) (isiR isInt)) truR) (m1 (m1 (nDR 1) (isiR isInt)) truR)) (andT (m1 (m1 (nDR 0) (isiR isStr)) truR) (m1 (m1 (nDR 1) (isiR isStr)) truR))) (retM (m2 (nDR 0) (nDR 1) eqR)) nilM)
 (retM (andV (m2 (nDR 0) (kR .none) isR) (m2 (nDR 1) (kR .none) isR))))))
def m_law_same : Nat → List D → R D
  | 0 => fun _ => fail
  | i + 1 => fnM 3 (g_law_same (m_law_same i))

theorem w_law_same (T : Facts K mg) : ∀ i, Def P w K mg base "_law_same" ["a", "b"] (0 + i) (spR K 2 (m_law_same i)) :=
 let ⟨f, fd, gF, F, b⟩ := T.f_law_same
 fun i => ⟨f, fd, gF, F.kp, b, fn_rec (m := m_law_same) (fun _ _ h => h) rfl (fun i IH => fn_ok F sc_law_same (fun cdv A outer s H E hr => have d_law_same : Def P w K mg base "_law_same" ["a", "b"] (0 + i) (spR K 2 (m_law_same i)) := ⟨f, fd, gF, F.kp, b, IH⟩
 (sCons (sIf (PW.pt (orW (PW.pt (andW (tst (pb (isiTup T.b_isinstance T.b_tuple (pb (nD 0))))) (and1 (tst (pb (isiTup T.b_isinstance T.b_tuple (pb (nD 1)))))))) (or1 (PW.pt (andW (tst (pb (isiLst T.b_isinstance T.b_list (pb (nD 0))))) (and1 (tst (pb (isiLst T.b_isinstance T.b_list (pb (nD 1))))))))))) (sOne (sRet (pb (andP (cmp (qEq hr.units) (pb (cal kLen T.b_len (aC (pb (nD 0)) aN))) (pb (cal kLen T.b_len (aC (pb (nD 1)) aN)))) (v1 (cal (kAll rfl) T.b_all (aC (pb (pf (lc (own := [("k", 2)]) sc_law_same.nd (by show blkC n_law_same (defScope s_law_same) _ _ = true; decide +kernel) (iW (iR1 T.b_range (aC (pb (cal kLen T.b_len (aC (pb (nD 0)) aN))) aN))) (fun _ _ _ _ _ => (gN 2 sc_law_same.nd)) (fun _ _ _ _ _ => tN) (fun _ _ _ _ _ => (callD d_law_same hr (fC (ix (pb (nD 0)) (pb (nD 2))) (fC (ix (pb (nD 1)) (pb (nD 2))) fN))))))) aN))))))) sNil)
 (sCons (sIf (PW.pt (orW (tst (pb (isiBoo T.b_isinstance T.b_bool (pb (nD 0))))) (or1 (tst (pb (isiBoo T.b_isinstance T.b_bool (pb (nD 1)))))))) (sOne (sRet (pb (andP (isiBoo T.b_isinstance T.b_bool (pb (nD 0))) (andP (isiBoo T.b_isinstance T.b_bool (pb (nD 1))) (v1 (cmp (qEq hr.units) (pb (nD 0)) (pb (nD 1))))))))) sNil)
 (sCons (sIf (PW.pt (orW (PW.pt (andW (tst (pb (isiInt T.b_isinstance T.b_int (pb (nD 0))))) (and1 (tst (pb (isiInt T.b_isinstance T.b_int (pb (nD 1)))))))) (or1 (PW.pt (andW (tst (pb (isiStr T.b_isinstance T.b_str (pb (nD 0))))) (and1 (tst (pb (isiStr T.b_isinstance T.b_str (pb (nD 1))))))))))) (sOne (sRet (pb (cmp (qEq hr.units) (pb (nD 0)) (pb (nD 1)))))) sNil)
 (sOne (sRet (pb (andP (cmp (qIs hr.units) (pb (nD 0)) (pb cN)) (v1 (cmp (qIs hr.units) (pb (nD 1)) (pb cN)))))))))))) i⟩

def g_law_divisor : List Sl → R Out := (seqM (setsM [0, 1] (consR (rD (m1 (consR (nDR 0) nilR) absR)) (consR (rD (m1 (consR (nDR 1) nilR) absR)) nilR)))
 (seqM (whileM (m1 (m2 (nDR 1) (kR (.int 0)) gtR) asB) (setsM [0, 1] (consR (rD (nDR 1)) (consR (rD (m2 (nDR 0) (m2 (m2 (nDR 0) (nDR 1) fdivR) (nDR 1) mulR) subR)) nilR))))
 (retM (nDR 0))))
def m_law_divisor : List D → R D := fnM 2 g_law_divisor

theorem w_law_divisor (T : Facts K mg) : Def P w K mg base "_law_divisor" ["a", "b"] 1 (spR K 2 m_law_divisor) :=
 let ⟨f, fd, gF, F, b⟩ := T.f_law_divisor
 ⟨f, fd, gF, F.kp, b, fn_ok F sc_law_divisor fun cdv A outer s H E hr =>
 (sCons (sPar2 0 1 sc_law_divisor.nd (mD (cal kAbs T.b_abs (aC (pb (nD 0)) aN)) (mD (cal kAbs T.b_abs (aC (pb (nD 1)) aN)) mN)))
 (sCons (sWhile nvr (cmpT (qGt hr.units) (pb (nD 1)) (pb cI)) (sOne (sPar2 0 1 sc_law_divisor.nd (mD (nD 1) (mD (oSub (pb (nD 0)) (pb (oMul (pb (oFdiv (pb (nD 0)) (pb (nD 1)))) (pb (nD 1))))) mN)))))
 (sOne (sRet (pb (nD 0))))))⟩

def g_law_ratio : List Sl → R Out := (seqM (ifV (m1 (m2 (nDR 1) (kR (.int 0)) ltR) asB) (setsM [0, 1] (consR (rD (m1 (nDR 0) negR)) (consR (rD (m1 (nDR 1) negR)) nilR))) nilM)
 (seqM (setM 2 (m1 (consR (nDR 0) (consR (nDR 1) nilR)) (callR 2 m_law_divisor)))
 (retM (m1 (consR (m2 (nDR 0) (nDR 2) fdivR) (consR (m2 (nDR 1) (nDR 2) fdivR) nilR)) tupR))))
def m_law_ratio : List D → R D := fnM 3 g_law_ratio

theorem w_law_ratio (T : Facts K mg) (d_law_divisor : Def P w K mg base "_law_divisor" ["a", "b"] 1 (spR K 2 m_law_divisor)) : Def P w K mg base "_law_ratio" ["p", "q"] 2 (spR K 2 m_law_ratio) :=
 let ⟨f, fd, gF, F, b⟩ := T.f_law_ratio
 ⟨f, fd, gF, F.kp, b, fn_ok F sc_law_ratio fun cdv A outer s H E hr =>
 (sCons (sIf (cmpT (qLt hr.units) (pb (nD 1)) (pb cI)) (sOne (sPar2 0 1 sc_law_ratio.nd (mD (oNeg (pb (nD 0))) (mD (oNeg (pb (nD 1))) mN)))) sNil)
 (sCons (sSet 2 sc_law_ratio.nd (callD d_law_divisor (hr.mono (by omega)) (fC (nD 0) (fC (nD 1) fN))))
 (sOne (sRet (pb (tup (fC (oFdiv (pb (nD 0)) (pb (nD 2))) (fC (oFdiv (pb (nD 1)) (pb (nD 2))) fN))))))))⟩

def g_law_mul : List Sl → R Out := (retM (m1 (consR (m2 (m2 (nDR 0) (kR (.int 0)) ixR) (m2 (nDR 1) (kR (.int 0)) ixR) mulR) (consR (m2 (m2 (nDR 0) (kR (.int 1)) ixR) (m2 (nDR 1) (kR (.int 1)) ixR) mulR) nilR)) (callR 2 m_law_ratio)))
def m_law_mul : List D → R D := fnM 2 g_law_mul

theorem w_law_mul (T : Facts K mg) (d_law_ratio : Def P w K mg base "_law_ratio" ["p", "q"] 2 (spR K 2 m_law_ratio)) : Def P w K mg base "_law_mul" ["one", "other"] 3 (spR K 2 m_law_mul) :=
 let ⟨f, fd, gF, F, b⟩ := T.f_law_mul
 ⟨f, fd, gF, F.kp, b, fn_ok F sc_law_mul fun cdv A outer s H E hr =>
 (sOne (sRet (pb (callD d_law_ratio (hr.mono (by omega)) (fC (oMul (pb (ix (pb (nD 0)) (pb cI))) (pb (ix (pb (nD 1)) (pb cI)))) (fC (oMul (pb (ix (pb (nD 0)) (pb cI))) (pb (ix (pb (nD 1)) (pb cI)))) fN))))))⟩

def g_law_bent (self : List D → R D) : List Sl → R Out := (seqM (ifV (andT (m1 (m1 (nDR 1) (isiR isTup)) truR) (andT (m1 (m2 (m1 (consR (nDR 1) nilR) lenR) (kR (.int 0)) gtR) asB) (m1 (m2 (callX 0 2 1 (consR (kR (.int 5)) nilR) m_law_draw) (kR (.int 0)) gtR) asB))) (seqM (setM 3 (callX 0 2 1 (consR (m1 (consR (nDR 1) nilR) lenR) nilR) m_law_draw))
 (retM (m2 (m2 (m3 (nDR 1) noR (m1 (nDR 3) asI) slR) (m1 (consR (callX 0 2 1 (consR (m2 (nDR 1) (nDR 3) ixR) nilR) self) nilR) tupR) addR) (m3 (nDR 1) (m1 (m2 (nDR 3) (kR (.int 1)) addR) asI) noR slR) addR))) nilM)
 (seqM (setM 2 (callX 0 2 1 (consR (kR (.int 8)) nilR) m_law_draw))
 (seqM (ifV (m1 (m1 (nDR 1) (isiR isTup)) truR) (retM (m2 (frz (m1 (consR (m2 (nDR 1) (m3 (nDR 1) noR (m1 (kR (.int 1)) asI) slR) addR) (consR (m3 (nDR 1) (m1 (kR (.int 1)) asI) noR slR) (consR (m1 (nDR 1) revR) (consR (m2 (nDR 1) (m1 (consR (kR (.int 0)) nilR) tupR) addR) (consR (m1 (consR (nDR 1) nilR) tupR) (consR (m3 (nDR 1) noR (m1 (m1 (kR (.int 1)) negR) asI) slR) (consR (kR .none) (consR (m2 (nDR 1) (m1 (consR (m1 (consR (kR (.int 0)) (consR (kR (.int 1)) nilR)) tupR) nilR) tupR) addR) nilR)))))))) lstR)) (nDR 2) ixR)) nilM)
 (seqM (ifV (andT (m1 (m1 (nDR 1) (isiR isInt)) truR) (notT (m1 (m1 (nDR 1) (isiR isBoo)) truR))) (retM (m2 (frz (m1 (consR (m2 (nDR 1) (kR (.int 1)) addR) (consR (m2 (nDR 1) (kR (.int 1)) subR) (consR (kR (.int 0)) (consR (m2 (nDR 1) (kR (.int 1)) eqR) (consR (kR .none) (consR (m1 (consR (nDR 1) nilR) strR) (consR (m1 (consR (nDR 1) nilR) tupR) (consR (m2 (nDR 1) (kR (.int 2)) addR) nilR)))))))) lstR)) (nDR 2) ixR)) nilM)
 (seqM (ifV (m1 (m1 (nDR 1) (isiR isStr)) truR) (retM (m2 (frz (m1 (consR (m2 (nDR 1) (kR (.str "s")) addR) (consR (m3 (nDR 1) (m1 (kR (.int 1)) asI) noR slR) (consR (kR (.str "rod")) (consR (kR (.str "hook")) (consR (kR (.int 0)) (consR (kR .none) (consR (kR (.str "")) (consR (kR (.str "rope")) nilR)))))))) lstR)) (nDR 2) ixR)) nilM)
 (retM (m2 (frz (m1 (consR (kR (.int 0)) (consR (kR (.int 1)) (consR (kR .none) (consR (kR (.bool true)) (consR (kR (.str "a")) (consR (m1 nilR tupR) (consR (m1 (consR (kR (.int 0)) nilR) tupR) (consR (kR (.str "point")) nilR)))))))) lstR)) (nDR 2) ixR)))))))
def m_law_bent : Nat → List D → R D
  | 0 => fun _ => fail
  | i + 1 => fnX 2 4 (g_law_bent (m_law_bent i))

theorem w_law_bent (T : Facts K mg) (d_law_draw : Def P w K mg base "_law_draw" ["box", "many"] 2 (spX K 2 1 m_law_draw)) : ∀ i, Def P w K mg base "_law_bent" ["box", "value"] (2 + i) (spX K 2 1 (m_law_bent i)) :=
 let ⟨f, fd, gF, F, b⟩ := T.f_law_bent
 fun i => ⟨f, fd, gF, F.kp, b, fn_recX (m := m_law_bent) (fun _ _ h => h) rfl (fun i IH => fn_okX F sc_law_bent (fun cdv A outer s H E hr => have d_law_bent : Def P w K mg base "_law_bent" ["box", "value"] (2 + i) (spX K 2 1 (m_law_bent i)) := ⟨f, fd, gF, F.kp, b, IH⟩
 (sCons (sIf (PW.pt (andW (tst (pb (isiTup T.b_isinstance T.b_tuple (pb (nD 1))))) (andW (cmpT (qGt hr.units) (pb (cal kLen T.b_len (aC (pb (nD 1)) aN))) (pb cI)) (and1 (cmpT (qGt hr.units) (pb (callD_X 0 d_law_draw (hr.mono (by omega)) (fC cI fN))) (pb cI)))))) (sCons (sSet 3 sc_law_bent.nd (callD_X 0 d_law_draw (hr.mono (by omega)) (fC (cal kLen T.b_len (aC (pb (nD 1)) aN)) fN)))
 (sOne (sRet (pb (oAdd (pb (oAdd (pb (sl (pb (nD 1)) sN (sE (pb (nD 3))))) (pb (tup (fC (callD_X 0 d_law_bent hr (fC (ix (pb (nD 1)) (pb (nD 3))) fN)) fN))))) (pb (sl (pb (nD 1)) (sE (pb (oAdd (pb (nD 3)) (pb cI)))) sN))))))) sNil)
 (sCons (sSet 2 sc_law_bent.nd (callD_X 0 d_law_draw (hr.mono (by omega)) (fC cI fN)))
 (sCons (sIf (tst (pb (isiTup T.b_isinstance T.b_tuple (pb (nD 1))))) (sOne (sRet (pb (ix (pb (pf (lst (fC (oAdd (pb (nD 1)) (pb (sl (pb (nD 1)) sN (sE (pb cI))))) (fC (sl (pb (nD 1)) (sE (pb cI)) sN) (fC (revP (pb (nD 1))) (fC (oAdd (pb (nD 1)) (pb (tup (fC cI fN)))) (fC (tup (fC (nD 1) fN)) (fC (sl (pb (nD 1)) sN (sE (pb (oNeg (pb cI))))) (fC cN (fC (oAdd (pb (nD 1)) (pb (tup (fC (tup (fC cI (fC cI fN))) fN)))) fN))))))))))) (pb (nD 2)))))) sNil)
 (sCons (sIf (PW.pt (andW (tst (pb (isiInt T.b_isinstance T.b_int (pb (nD 1))))) (and1 (notP (tst (pb (isiBoo T.b_isinstance T.b_bool (pb (nD 1))))))))) (sOne (sRet (pb (ix (pb (pf (lst (fC (oAdd (pb (nD 1)) (pb cI)) (fC (oSub (pb (nD 1)) (pb cI)) (fC cI (fC (cmp (qEq hr.units) (pb (nD 1)) (pb cI)) (fC cN (fC (calT kStr T.b_str (aC (pb (nD 1)) aN)) (fC (tup (fC (nD 1) fN)) (fC (oAdd (pb (nD 1)) (pb cI)) fN))))))))))) (pb (nD 2)))))) sNil)
 (sCons (sIf (tst (pb (isiStr T.b_isinstance T.b_str (pb (nD 1))))) (sOne (sRet (pb (ix (pb (pf (lst (fC (oAdd (pb (nD 1)) (pb cS)) (fC (sl (pb (nD 1)) (sE (pb cI)) sN) (fC cS (fC cS (fC cI (fC cN (fC cS (fC cS fN))))))))))) (pb (nD 2)))))) sNil)
 (sOne (sRet (pb (ix (pb (pf (lst (fC cI (fC cI (fC cN (fC cT (fC cS (fC (tup fN) (fC (tup (fC cI fN)) (fC cS fN))))))))))) (pb (nD 2))))))))))))) i⟩

def g_law_whole : List Sl → R Out := (retM (andV (m1 (nDR 0) (isiR isInt)) (andV (notV (m1 (nDR 0) (isiR isBoo))) (andV (m2 (nDR 1) (nDR 0) leR) (m2 (nDR 0) (nDR 2) leR)))))
def m_law_whole : List D → R D := fnM 3 g_law_whole

theorem w_law_whole (T : Facts K mg) : Def P w K mg base "_law_whole" ["value", "low", "high"] 1 (spR K 3 m_law_whole) :=
 let ⟨f, fd, gF, F, b⟩ := T.f_law_whole
 ⟨f, fd, gF, F.kp, b, fn_ok F sc_law_whole fun cdv A outer s H E hr =>
 (sOne (sRet (pb (andP (isiInt T.b_isinstance T.b_int (pb (nD 0))) (andP (notVP (pb (isiBoo T.b_isinstance T.b_bool (pb (nD 0))))) (andP (cmp (qLe hr.units) (pb (nD 1)) (pb (nD 0))) (v1 (cmp (qLe hr.units) (pb (nD 0)) (pb (nD 2))))))))))⟩

def g_law_is : List Sl → R Out := (seqM (ifV (orT (notT (m1 (m1 (nDR 0) (isiR isTup)) truR)) (orT (m1 (m2 (m1 (consR (nDR 0) nilR) lenR) (kR (.int 4)) neR) asB) (orT (notT (m1 (m1 (consR (m2 (nDR 0) (kR (.int 0)) ixR) (consR (kR (.int 1)) (consR (kR (.int 50)) nilR))) (callR 3 m_law_whole)) truR)) (orT (notT (m1 (m1 (consR (m2 (nDR 0) (kR (.int 1)) ixR) (consR (m1 (kR (.int 1000)) negR) (consR (kR (.int 1000)) nilR))) (callR 3 m_law_whole)) truR)) (notT (m1 (m1 (consR (m2 (nDR 0) (kR (.int 3)) ixR) (consR (kR (.int 1)) (consR (kR (.int 50)) nilR))) (callR 3 m_law_whole)) truR)))))) (retM (kR (.bool false))) nilM)
 (seqM (ifV (orT (notT (m1 (m1 (m2 (nDR 0) (kR (.int 2)) ixR) (isiR isTup)) truR)) (orT (notT (m1 (chain ok leR leR (kR (.int 1)) (m1 (consR (m2 (nDR 0) (kR (.int 2)) ixR) nilR) lenR) (kR (.int 3))) asB)) (notT (m1 (m1 (consR (frz (lcM [1] (itR (m2 (nDR 0) (kR (.int 2)) ixR)) (gSet 1) yesT (m1 (consR (nDR 1) (consR (kR (.int 1)) (consR (kR (.int 100)) nilR))) (callR 3 m_law_whole)))) nilR) allR) truR)))) (retM (kR (.bool false))) nilM)
 (retM (m2 (frz (m1 (consR (m2 (nDR 0) (kR (.int 2)) ixR) nilR) lstOfR)) (frz (m1 (consR (m2 (nDR 0) (kR (.int 2)) ixR) nilR) sortedR)) eqR))))
def m_law_is : List D → R D := fnM 2 g_law_is

theorem w_law_is (T : Facts K mg) (d_law_whole : Def P w K mg base "_law_whole" ["value", "low", "high"] 1 (spR K 3 m_law_whole)) : Def P w K mg base "_law_is" ["value"] 2 (spR K 1 m_law_is) :=
 let ⟨f, fd, gF, F, b⟩ := T.f_law_is
 ⟨f, fd, gF, F.kp, b, fn_ok F sc_law_is fun cdv A outer s H E hr =>
 (sCons (sIf (PW.pt (orW (notP (tst (pb (isiTup T.b_isinstance T.b_tuple (pb (nD 0)))))) (orW (cmpT (qNe hr.units) (pb (cal kLen T.b_len (aC (pb (nD 0)) aN))) (pb cI)) (orW (notP (tst (pb (callD d_law_whole (hr.mono (by omega)) (fC (ix (pb (nD 0)) (pb cI)) (fC cI (fC cI fN))))))) (orW (notP (tst (pb (callD d_law_whole (hr.mono (by omega)) (fC (ix (pb (nD 0)) (pb cI)) (fC (oNeg (pb cI)) (fC cI fN))))))) (or1 (notP (tst (pb (callD d_law_whole (hr.mono (by omega)) (fC (ix (pb (nD 0)) (pb cI)) (fC cI (fC cI fN))))))))))))) (sOne (sRet (pb cT))) sNil)
 (sCons (sIf (PW.pt (orW (notP (tst (pb (isiTup T.b_isinstance T.b_tuple (pb (ix (pb (nD 0)) (pb cI))))))) (orW (notP (cmp2T (qLe hr.units) (qLe hr.units) (pb cI) (pb (cal kLen T.b_len (aC (pb (ix (pb (nD 0)) (pb cI))) aN))) (pb cI))) (or1 (notP (tst (pb (cal (kAll rfl) T.b_all (aC (pb (pf (lc (own := [("rider", 1)]) sc_law_is.nd (by show blkC n_law_is (defScope s_law_is) _ _ = true; decide +kernel) (iB (pb (ix (pb (nD 0)) (pb cI)))) (fun _ _ _ _ _ => (gN 1 sc_law_is.nd)) (fun _ _ _ _ _ => tN) (fun _ _ _ _ _ => (callD d_law_whole (hr.mono (by omega)) (fC (nD 1) (fC cI (fC cI fN)))))))) aN))))))))) (sOne (sRet (pb cT))) sNil)
 (sOne (sRet (pb (cmp (qEq hr.units) (pb (pf (calTF kLst T.b_list (aC (pb (ix (pb (nD 0)) (pb cI))) aN)))) (pb (pf (calF (kSorted hr.units) T.b_sorted (aC (pb (ix (pb (nD 0)) (pb cI))) aN))))))))))⟩

end
end K51

namespace K51
open PySem PySem.Spec PyProof.Rows L2 Pu
section
variable {P : Program} {w : World} {K : PySem.W.Frag} {mg : Str → Option Value} {base : Heap}
def g_law : List Sl → R Out := (seqM (forM (m1 (consR (kR (.int 5)) nilR) range1R) (gSet 2) (seqM (setM 3 (m1 (consR (frz (m1 (consR (frz (lcM [23] (m1 (consR (m2 (kR (.int 1)) (callX 1 2 1 (consR (kR (.int 3)) nilR) m_law_draw) addR) nilR) range1R) (gSet 23) yesT (m2 (kR (.int 1)) (callX 1 2 1 (consR (kR (.int 12)) nilR) m_law_draw) addR))) nilR) sortedR)) nilR) tupOfR))
 (seqM (setM 4 (m1 (consR (m2 (kR (.int 1)) (callX 1 2 1 (consR (kR (.int 6)) nilR) m_law_draw) addR) (consR (m2 (callX 1 2 1 (consR (kR (.int 21)) nilR) m_law_draw) (kR (.int 10)) subR) (consR (nDR 3) (consR (m2 (kR (.int 1)) (callX 1 2 1 (consR (kR (.int 8)) nilR) m_law_draw) addR) nilR)))) tupR))
 (seqM (ifV (m1 (m2 (m1 (consR (nDR 4) nilR) (callR 1 m_is_yard)) (kR (.bool true)) isNotR) asB) (retM (kR (.bool false))) nilM)
 (seqM (setM 5 (frz (m1 (consR (m1 nilR tupR) nilR) lstR)))
 (seqM (forM (itR (nDR 3)) (gSet 6) (setM 5 (m1 (consR (frz (lcM [8] (itR (nDR 5)) (gSet 8) yesT (frz (lcM [12] (m1 (consR (m2 (m2 (nDR 4) (kR (.int 3)) ixR) (kR (.int 1)) addR) nilR) range1R) (gSet 12) yesT (m2 (nDR 8) (m1 (consR (nDR 12) nilR) tupR) addR))))) nilR) (callR 1 m_law_flat))))
 (seqM (setOD 7 emptyD)
 (seqM (forM (itR (nDR 5)) (gSet 8) (seqM (setM 20 (m2 (m2 (nDR 4) (kR (.int 1)) ixR) (m1 (consR (frz (lcM [23] (m1 (consR (m1 (consR (nDR 3) nilR) lenR) nilR) range1R) (gSet 23) yesT (m2 (m2 (nDR 3) (nDR 23) ixR) (m2 (nDR 8) (nDR 23) ixR) mulR))) nilR) sumR) addR))
 (ifV (andT (m1 (m2 (nDR 20) (kR (.int 0)) geR) asB) (m1 (m2 (m2 (m2 (nDR 20) (m2 (nDR 4) (kR (.int 0)) ixR) fdivR) (m2 (nDR 4) (kR (.int 0)) ixR) mulR) (nDR 20) eqR) asB)) (putM 7 (m2 (nDR 20) (m2 (nDR 4) (kR (.int 0)) ixR) fdivR) (m2 (getM2 7 (m2 (nDR 20) (m2 (nDR 4) (kR (.int 0)) ixR) fdivR) (frz (m1 nilR lstR))) (frz (m1 (consR (nDR 8) nilR) lstR)) addR)) nilM)))
 (seqM (ifV (notT (m1 (m1 (consR (m1 (consR (nDR 4) nilR) (callR 1 m_told_weights)) (consR (m1 (consR (frz (srtAM 7)) nilR) tupOfR) nilR)) (callR 2 (m_law_same 20))) truR)) (retM (kR (.bool false))) nilM)
 (seqM (setM 9 (frz (lcM [10] (m1 (consR (m2 (lenDM 7) (kR (.int 1)) addR) nilR) range1R) (gSet 10) (m1 (notInDM 7 (nDR 10)) asB) (nDR 10))))
 (seqM (ifV (notT (m1 (m1 (consR (m1 (consR (nDR 4) nilR) (callR 1 m_first_untold)) (consR (m2 (nDR 9) (kR (.int 0)) ixR) nilR)) (callR 2 (m_law_same 20))) truR)) (retM (kR (.bool false))) nilM)
 (seqM (forM (m1 (consR (kR (.int 0)) (consR (kR (.int 25)) nilR)) range2R) (gSet 10) (seqM (setM 21 (getM2 7 (nDR 10) (frz (m1 nilR lstR))))
 (ifV (notT (m1 (m1 (consR (m1 (consR (m1 (consR (nDR 4) (consR (nDR 10) nilR)) (callR 2 m_tells)) (consR (m1 (consR (nDR 4) (consR (nDR 10) nilR)) (callR 2 m_ways_to_tell)) nilR)) tupR) (consR (m1 (consR (ifV (m1 (m2 (m1 (consR (nDR 21) nilR) lenR) (kR (.int 0)) gtR) asB) (m1 (consR (nDR 21) nilR) minR) (kR .none)) (consR (m1 (consR (nDR 21) nilR) lenR) nilR)) tupR) nilR)) (callR 2 (m_law_same 20))) truR)) (retM (kR (.bool false))) nilM)))
 (seqM (setM 11 (m2 (m3 (nDR 4) noR (m1 (kR (.int 2)) asI) slR) (m1 (consR (m3 (nDR 3) noR (m1 (kR (.int 1)) asI) slR) (consR (m2 (nDR 4) (kR (.int 3)) ixR) nilR)) tupR) addR))
 (seqM (setM 12 (callX 1 2 1 (consR (m2 (m2 (nDR 4) (kR (.int 3)) ixR) (kR (.int 1)) addR) nilR) m_law_draw))
 (seqM (setM 13 (m1 (consR (nDR 11) (consR (nDR 12) nilR)) (callR 2 m_mark_at)))
 (seqM (ifV (notT (m1 (m1 (consR (m1 (consR (nDR 13) (consR (m1 (consR (m2 (nDR 4) (kR (.int 0)) ixR) (consR (kR (.int 1)) nilR)) tupR) nilR)) (callR 2 m_law_mul)) (consR (m1 (consR (m2 (m2 (nDR 4) (kR (.int 1)) ixR) (m2 (m2 (nDR 3) (kR (.int 0)) ixR) (nDR 12) mulR) addR) (consR (kR (.int 1)) nilR)) tupR) nilR)) (callR 2 (m_law_same 20))) truR)) (retM (kR (.bool false))) nilM)
 (seqM (ifV (m1 (m2 (andV (m2 (m2 (nDR 13) (kR (.int 1)) ixR) (kR (.int 1)) eqR) (m2 (m2 (nDR 13) (kR (.int 0)) ixR) (kR (.int 0)) geR)) (ifV (m1 (m2 (m2 (nDR 13) (kR (.int 0)) ixR) (kR (.int 0)) geR) asB) (andV (m2 (m1 (consR (nDR 11) (consR (m2 (nDR 13) (kR (.int 0)) ixR) nilR)) (callR 2 m_tells)) (kR .none) isNotR) (m2 (m2 (nDR 13) (kR (.int 1)) ixR) (kR (.int 1)) eqR)) (kR (.bool false))) neR) asB) (retM (kR (.bool false))) nilM)
 (seqM (setsM [14, 15] (consR (rD (m2 (kR (.int 2)) (callX 1 2 1 (consR (kR (.int 4)) nilR) m_law_draw) addR)) (consR (rD (m2 (kR (.int 1)) (callX 1 2 1 (consR (kR (.int 3)) nilR) m_law_draw) addR)) nilR)))
 (seqM (setM 16 (m1 (consR (kR (.int 1)) (consR (kR (.int 0)) (consR (m1 (consR (frz (lcM [23] (m1 (consR (nDR 15) nilR) range1R) (gSet 23) yesT (m2 (frz (m1 (consR (kR (.int 1)) (consR (nDR 14) (consR (m2 (nDR 14) (nDR 14) mulR) nilR))) lstR)) (nDR 23) ixR))) nilR) tupOfR) (consR (m2 (nDR 14) (kR (.int 1)) subR) nilR)))) tupR))
 (seqM (setM 17 (m2 (frz (m1 (consR (nDR 14) (consR (m2 (nDR 14) (nDR 14) mulR) (consR (m2 (m2 (nDR 14) (nDR 14) mulR) (nDR 14) mulR) nilR))) lstR)) (m2 (nDR 15) (kR (.int 1)) subR) ixR))
 (seqM (ifV (orT (m1 (m2 (m1 (consR (nDR 16) nilR) (callR 1 m_first_untold)) (nDR 17) neR) asB) (notT (m1 (m1 (consR (frz (lcM [10] (itR (m1 (consR (kR (.int 0)) (consR (m2 (nDR 17) (kR (.int 1)) subR) (consR (callX 1 2 1 (consR (nDR 17) nilR) m_law_draw) nilR))) tupR)) (gSet 10) yesT (m2 (m1 (consR (nDR 16) (consR (nDR 10) nilR)) (callR 2 m_ways_to_tell)) (kR (.int 1)) eqR))) nilR) allR) truR))) (retM (kR (.bool false))) nilM)
 (seqM (setM 18 (frz (m1 (consR (nDR 4) (consR (m3 (nDR 4) noR (m1 (kR (.int 3)) asI) slR) (consR (m1 (nDR 4) revR) (consR (m2 (m1 (consR (kR (.int 0)) nilR) tupR) (m3 (nDR 4) (m1 (kR (.int 1)) asI) noR slR) addR) (consR (m2 (m1 (consR (m2 (nDR 4) (kR (.int 0)) ixR) (consR (kR (.bool true)) nilR)) tupR) (m3 (nDR 4) (m1 (kR (.int 2)) asI) noR slR) addR) (consR (m2 (m3 (nDR 4) noR (m1 (kR (.int 2)) asI) slR) (m1 (consR (m1 nilR tupR) (consR (kR (.int 3)) nilR)) tupR) addR) (consR (m2 (m3 (nDR 4) noR (m1 (kR (.int 2)) asI) slR) (m1 (consR (m1 (consR (kR (.int 2)) (consR (kR (.int 1)) nilR)) tupR) (consR (kR (.int 3)) nilR)) tupR) addR) (consR (m2 (m3 (nDR 4) noR (m1 (kR (.int 2)) asI) slR) (m1 (consR (m1 (consR (kR (.int 1)) (consR (kR (.int 1)) (consR (kR (.int 1)) (consR (kR (.int 1)) nilR)))) tupR) (consR (kR (.int 3)) nilR)) tupR) addR) (consR (m2 (m3 (nDR 4) noR (m1 (kR (.int 3)) asI) slR) (m1 (consR (kR (.int 51)) nilR) tupR) addR) (consR (kR .none) (consR (kR (.int 0)) (consR (m1 nilR tupR) nilR)))))))))))) lstR)))
 (forM (itR (m2 (nDR 18) (frz (lcM [22] (m1 (consR (kR (.int 6)) nilR) range1R) (gSet 22) yesT (callX 1 2 1 (consR (nDR 4) nilR) (m_law_bent 6)))) addR)) (gSet 19) (ifV (notT (m1 (m1 (consR (m1 (consR (nDR 19) nilR) (callR 1 m_is_yard)) (consR (m1 (consR (nDR 19) nilR) (callR 1 m_law_is)) nilR)) (callR 2 (m_law_same 20))) truR)) (retM (kR (.bool false))) nilM))))))))))))))))))))))))
 (retM (m1 (consR (m1 (consR (m1 (consR (m1 (consR (kR (.int 2)) (consR (kR (.int 0)) (consR (m1 (consR (kR (.int 3)) nilR) tupR) (consR (kR (.int 6)) nilR)))) tupR) nilR) (callR 1 m_told_weights)) (consR (m1 (consR (m1 (consR (kR (.int 2)) (consR (kR (.int 0)) (consR (m1 (consR (kR (.int 3)) nilR) tupR) (consR (kR (.int 6)) nilR)))) tupR) (consR (kR (.int 6)) nilR)) (callR 2 m_tells)) (consR (m1 (consR (m1 (consR (kR (.int 1)) (consR (kR (.int 0)) (consR (m1 (consR (kR (.int 1)) (consR (kR (.int 10)) nilR)) tupR) (consR (kR (.int 9)) nilR)))) tupR) nilR) (callR 1 m_first_untold)) nilR))) tupR) (consR (m1 (consR (m1 (consR (kR (.int 0)) (consR (kR (.int 3)) (consR (kR (.int 6)) (consR (kR (.int 9)) nilR)))) tupR) (consR (m1 (consR (kR (.int 4)) nilR) tupR) (consR (kR (.int 100)) nilR))) tupR) nilR)) (callR 2 (m_law_same 20)))))
theorem w_law (T : Facts K mg) (d_box : Def P w K mg base "_law_box" ["script"] 1 (spBox K)) (d_law_draw : Def P w K mg base "_law_draw" ["box", "many"] 2 (spX K 2 1 m_law_draw)) (d_is_yard : Def P w K mg base "is_yard" ["value"] 2 (spR K 1 m_is_yard)) (d_law_flat : Def P w K mg base "_law_flat" ["rows"] 1 (spR K 1 m_law_flat)) (d_law_same : ∀ i, Def P w K mg base "_law_same" ["a", "b"] (0 + i) (spR K 2 (m_law_same i))) (d_told_weights : Def P w K mg base "told_weights" ["yard"] 2 (spR K 1 m_told_weights)) (d_first_untold : Def P w K mg base "first_untold" ["yard"] 3 (spR K 1 m_first_untold)) (d_ways_to_tell : Def P w K mg base "ways_to_tell" ["yard", "weight"] 2 (spR K 2 m_ways_to_tell)) (d_tells : Def P w K mg base "tells" ["yard", "weight"] 2 (spR K 2 m_tells)) (d_mark_at : Def P w K mg base "mark_at" ["yard", "place"] 3 (spR K 2 m_mark_at)) (d_law_mul : Def P w K mg base "_law_mul" ["one", "other"] 3 (spR K 2 m_law_mul)) (d_law_bent : ∀ i, Def P w K mg base "_law_bent" ["box", "value"] (2 + i) (spX K 2 1 (m_law_bent i))) (d_law_is : Def P w K mg base "_law_is" ["value"] 2 (spR K 1 m_law_is)) (hlaw : g_law (.un :: .box 2 :: List.replicate 22 .un) fun o => o = .rt (.bool true))  {f : Addr} {fd : FuncData} (F : Fun K "law" "law" s_law f fd) : FnOk P w K mg base CX0 22 f fd ["script"] (spLaw K) := by
  obtain ⟨fb, fdb, gB, kB, bB, GB⟩ := d_box
  refine F.ok sc_law (fun vs H Q E h => ?_) (fun cdv A outer s H vs Q E hr h => ?_)
  · obtain ⟨_, _, rfl, _⟩ := h; rfl
  · obtain ⟨a, ns, rfl, hS, hl, q⟩ := h
    refine ⟨_, pss_cons (ps_set (i := 1) sc_law.nd rfl (by first | exact Or.inl rfl | exact Or.inr rfl) (pe_call GB (hr.mono (by omega)) (by rfl) gB kB bB .nil pass0 (pa_cons (pv 0) pa_nil))) (t := _) (u := tS K g_law) ((sCons (sFor nvr (iR1 T.b_range (aC (pb cI) aN)) (gN 2 sc_law.nd) (sCons (sSet 3 sc_law.nd (calT kTup T.b_tuple (aC (pb (pf (calF (kSorted hr.units) T.b_sorted (aC (pb (pf (lc (own := [("k", 23)]) sc_law.nd (by show blkC n_law (defScope s_law) _ _ = true; decide +kernel) (iW (iR1 T.b_range (aC (pb (oAdd (pb cI) (pb (callD_X 1 d_law_draw (hr.mono (by omega)) (fC cI fN))))) aN))) (fun _ _ _ _ _ => (gN 23 sc_law.nd)) (fun _ _ _ _ _ => tN) (fun _ _ _ _ _ => (oAdd (pb cI) (pb (callD_X 1 d_law_draw (hr.mono (by omega)) (fC cI fN)))))))) aN)))) aN)))
 (sCons (sSet 4 sc_law.nd (tup (fC (oAdd (pb cI) (pb (callD_X 1 d_law_draw (hr.mono (by omega)) (fC cI fN)))) (fC (oSub (pb (callD_X 1 d_law_draw (hr.mono (by omega)) (fC cI fN))) (pb cI)) (fC (nD 3) (fC (oAdd (pb cI) (pb (callD_X 1 d_law_draw (hr.mono (by omega)) (fC cI fN)))) fN))))))
 (sCons (sIf (cmpT (qIsNot hr.units) (pb (callD d_is_yard (hr.mono (by omega)) (fC (nD 4) fN))) (pb cT)) (sOne (sRet (pb cT))) sNil)
 (sCons (sSet 5 sc_law.nd (pf (lst (fC (tup fN) fN))))
 (sCons (sFor nvr (iS (nD 3)) (gN 6 sc_law.nd) (sOne (sSet 5 sc_law.nd (callD d_law_flat (hr.mono (by omega)) (fC (pf (lc (own := [("row", 8)]) sc_law.nd (by show blkC n_law (defScope s_law) _ _ = true; decide +kernel) (iB (pb (nD 5))) (fun _ _ _ _ _ => (gN 8 sc_law.nd)) (fun _ _ _ _ _ => tN) (fun _ _ _ _ _ => (pf (lc (own := [("place", 12)]) sc_law.nd (by show blkC n_law (relS _ (defScope s_law)) _ _ = true; decide +kernel) (iW (iR1 T.b_range (aC (pb (oAdd (pb (ix (pb (nD 4)) (pb cI))) (pb cI))) aN))) (fun _ _ _ _ _ => (gN 12 sc_law.nd)) (fun _ _ _ _ _ => tN) (fun _ _ _ _ _ => (oAdd (pb (nD 8)) (pb (tup (fC (nD 12) fN)))))))))) fN)))))
 (sCons (sSetOD 7 sc_law.nd dNew)
 (sCons (sFor nvr (iS (nD 5)) (gN 8 sc_law.nd) (sCons (sSet 20 sc_law.nd (oAdd (pb (ix (pb (nD 4)) (pb cI))) (pb (cal (kSum rfl) T.b_sum (aC (pb (pf (lc (own := [("k", 23)]) sc_law.nd (by show blkC n_law (defScope s_law) _ _ = true; decide +kernel) (iW (iR1 T.b_range (aC (pb (cal kLen T.b_len (aC (pb (nD 3)) aN))) aN))) (fun _ _ _ _ _ => (gN 23 sc_law.nd)) (fun _ _ _ _ _ => tN) (fun _ _ _ _ _ => (oMul (pb (ix (pb (nD 3)) (pb (nD 23)))) (pb (ix (pb (nD 8)) (pb (nD 23))))))))) aN)))))
 (sOne (sIf (PW.pt (andW (cmpT (qGe hr.units) (pb (nD 20)) (pb cI)) (and1 (cmpT (qEq hr.units) (pb (oMul (pb (oFdiv (pb (nD 20)) (pb (ix (pb (nD 4)) (pb cI))))) (pb (ix (pb (nD 4)) (pb cI))))) (pb (nD 20)))))) (sOne (sPutD 7 (un1 hr.units) (oFdiv (pb (nD 20)) (pb (ix (pb (nD 4)) (pb cI)))) (oAdd (pb (getD2 7 (un1 hr.units) (oFdiv (pb (nD 20)) (pb (ix (pb (nD 4)) (pb cI)))) (pf (lst fN)))) (pb (pf (lst (fC (nD 8) fN))))))) sNil))))
 (sCons (sIf (notP (tst (pb (callD (d_law_same 20) (hr.mono (by omega)) (fC (callD d_told_weights (hr.mono (by omega)) (fC (nD 4) fN)) (fC (calT kTup T.b_tuple (aC (pb (pf (srtA 7 rfl hr.units T.b_sorted))) aN)) fN)))))) (sOne (sRet (pb cT))) sNil)
 (sCons (sLcD 9 (own := [("weight", 10)]) sc_law.nd (by show blkC n_law (defScope s_law) _ _ = true; decide +kernel) (iW (iR1 T.b_range (aC (pb (oAdd (pb (lenD 7 T.b_len)) (pb cI))) aN))) (fun _ _ _ _ _ => (gN 10 sc_law.nd)) (fun _ _ _ _ _ => (tO1 (notInDT 7 (un1 hr.units) (nD 10)))) (fun _ _ _ _ _ => (nD 10)) (sw_true rfl rfl rfl (by decide +kernel)))
 (sCons (sIf (notP (tst (pb (callD (d_law_same 20) (hr.mono (by omega)) (fC (callD d_first_untold (hr.mono (by omega)) (fC (nD 4) fN)) (fC (ix (pb (nD 9)) (pb cI)) fN)))))) (sOne (sRet (pb cT))) sNil)
 (sCons (sFor nvr (iR2 T.b_range (aC (pb cI) (aC (pb cI) aN))) (gN 10 sc_law.nd) (sCons (sSet 21 sc_law.nd (getD2 7 (un1 hr.units) (nD 10) (pf (lst fN))))
 (sOne (sIf (notP (tst (pb (callD (d_law_same 20) (hr.mono (by omega)) (fC (tup (fC (callD d_tells (hr.mono (by omega)) (fC (nD 4) (fC (nD 10) fN))) (fC (callD d_ways_to_tell (hr.mono (by omega)) (fC (nD 4) (fC (nD 10) fN))) fN))) (fC (tup (fC (ifP (cmpT (qGt hr.units) (pb (cal kLen T.b_len (aC (pb (nD 21)) aN))) (pb cI)) (cal (kMin rfl hr.units) T.b_min (aC (pb (nD 21)) aN)) cN) (fC (cal kLen T.b_len (aC (pb (nD 21)) aN)) fN))) fN)))))) (sOne (sRet (pb cT))) sNil))))
 (sCons (sSet 11 sc_law.nd (oAdd (pb (sl (pb (nD 4)) sN (sE (pb cI)))) (pb (tup (fC (sl (pb (nD 3)) sN (sE (pb cI))) (fC (ix (pb (nD 4)) (pb cI)) fN))))))
 (sCons (sSet 12 sc_law.nd (callD_X 1 d_law_draw (hr.mono (by omega)) (fC (oAdd (pb (ix (pb (nD 4)) (pb cI))) (pb cI)) fN)))
 (sCons (sSet 13 sc_law.nd (callD d_mark_at (hr.mono (by omega)) (fC (nD 11) (fC (nD 12) fN))))
 (sCons (sIf (notP (tst (pb (callD (d_law_same 20) (hr.mono (by omega)) (fC (callD d_law_mul (hr.mono (by omega)) (fC (nD 13) (fC (tup (fC (ix (pb (nD 4)) (pb cI)) (fC cI fN))) fN))) (fC (tup (fC (oAdd (pb (ix (pb (nD 4)) (pb cI))) (pb (oMul (pb (ix (pb (nD 3)) (pb cI))) (pb (nD 12))))) (fC cI fN))) fN)))))) (sOne (sRet (pb cT))) sNil)
 (sCons (sIf (cmpT (qNe hr.units) (pb (andP (cmp (qEq hr.units) (pb (ix (pb (nD 13)) (pb cI))) (pb cI)) (v1 (cmp (qGe hr.units) (pb (ix (pb (nD 13)) (pb cI))) (pb cI))))) (pb (ifP (cmpT (qGe hr.units) (pb (ix (pb (nD 13)) (pb cI))) (pb cI)) (andP (cmp (qIsNot hr.units) (pb (callD d_tells (hr.mono (by omega)) (fC (nD 11) (fC (ix (pb (nD 13)) (pb cI)) fN)))) (pb cN)) (v1 (cmp (qEq hr.units) (pb (ix (pb (nD 13)) (pb cI))) (pb cI)))) cT))) (sOne (sRet (pb cT))) sNil)
 (sCons (sTup (mgC 14 sc_law.nd (mgC 15 sc_law.nd mgN)) (mD (oAdd (pb cI) (pb (callD_X 1 d_law_draw (hr.mono (by omega)) (fC cI fN)))) (mD (oAdd (pb cI) (pb (callD_X 1 d_law_draw (hr.mono (by omega)) (fC cI fN)))) mN)))
 (sCons (sSet 16 sc_law.nd (tup (fC cI (fC cI (fC (calT kTup T.b_tuple (aC (pb (pf (lc (own := [("k", 23)]) sc_law.nd (by show blkC n_law (defScope s_law) _ _ = true; decide +kernel) (iW (iR1 T.b_range (aC (pb (nD 15)) aN))) (fun _ _ _ _ _ => (gN 23 sc_law.nd)) (fun _ _ _ _ _ => tN) (fun _ _ _ _ _ => (ix (pb (pf (lst (fC cI (fC (nD 14) (fC (oMul (pb (nD 14)) (pb (nD 14))) fN)))))) (pb (nD 23))))))) aN)) (fC (oSub (pb (nD 14)) (pb cI)) fN))))))
 (sCons (sSet 17 sc_law.nd (ix (pb (pf (lst (fC (nD 14) (fC (oMul (pb (nD 14)) (pb (nD 14))) (fC (oMul (pb (oMul (pb (nD 14)) (pb (nD 14)))) (pb (nD 14))) fN)))))) (pb (oSub (pb (nD 15)) (pb cI)))))
 (sCons (sIf (PW.pt (orW (cmpT (qNe hr.units) (pb (callD d_first_untold (hr.mono (by omega)) (fC (nD 16) fN))) (pb (nD 17))) (or1 (notP (tst (pb (cal (kAll rfl) T.b_all (aC (pb (pf (lc (own := [("weight", 10)]) sc_law.nd (by show blkC n_law (defScope s_law) _ _ = true; decide +kernel) (iB (pb (tup (fC cI (fC (oSub (pb (nD 17)) (pb cI)) (fC (callD_X 1 d_law_draw (hr.mono (by omega)) (fC (nD 17) fN)) fN)))))) (fun _ _ _ _ _ => (gN 10 sc_law.nd)) (fun _ _ _ _ _ => tN) (fun _ _ _ _ _ => (cmp (qEq hr.units) (pb (callD d_ways_to_tell (hr.mono (by omega)) (fC (nD 16) (fC (nD 10) fN)))) (pb cI)))))) aN)))))))) (sOne (sRet (pb cT))) sNil)
 (sCons (sSet 18 sc_law.nd (pf (lst (fC (nD 4) (fC (sl (pb (nD 4)) sN (sE (pb cI))) (fC (revP (pb (nD 4))) (fC (oAdd (pb (tup (fC cI fN))) (pb (sl (pb (nD 4)) (sE (pb cI)) sN))) (fC (oAdd (pb (tup (fC (ix (pb (nD 4)) (pb cI)) (fC cT fN)))) (pb (sl (pb (nD 4)) (sE (pb cI)) sN))) (fC (oAdd (pb (sl (pb (nD 4)) sN (sE (pb cI)))) (pb (tup (fC (tup fN) (fC cI fN))))) (fC (oAdd (pb (sl (pb (nD 4)) sN (sE (pb cI)))) (pb (tup (fC (tup (fC cI (fC cI fN))) (fC cI fN))))) (fC (oAdd (pb (sl (pb (nD 4)) sN (sE (pb cI)))) (pb (tup (fC (tup (fC cI (fC cI (fC cI (fC cI fN))))) (fC cI fN))))) (fC (oAdd (pb (sl (pb (nD 4)) sN (sE (pb cI)))) (pb (tup (fC cI fN)))) (fC cN (fC cI (fC (tup fN) fN)))))))))))))))
 (sOne (sFor nvr (iS (oAdd (pb (nD 18)) (pb (pf (lc (own := [("step", 22)]) sc_law.nd (by show blkC n_law (defScope s_law) _ _ = true; decide +kernel) (iW (iR1 T.b_range (aC (pb cI) aN))) (fun _ _ _ _ _ => (gN 22 sc_law.nd)) (fun _ _ _ _ _ => tN) (fun _ _ _ _ _ => (callD_X 1 (d_law_bent 6) (hr.mono (by omega)) (fC (nD 4) fN)))))))) (gN 19 sc_law.nd) (sOne (sIf (notP (tst (pb (callD (d_law_same 20) (hr.mono (by omega)) (fC (callD d_is_yard (hr.mono (by omega)) (fC (nD 19) fN)) (fC (callD d_law_is (hr.mono (by omega)) (fC (nD 19) fN)) fN)))))) (sOne (sRet (pb cT))) sNil))))))))))))))))))))))))))
 (sOne (sRet (pb (callD (d_law_same 20) (hr.mono (by omega)) (fC (tup (fC (callD d_told_weights (hr.mono (by omega)) (fC (tup (fC cI (fC cI (fC (tup (fC cI fN)) (fC cI fN))))) fN)) (fC (callD d_tells (hr.mono (by omega)) (fC (tup (fC cI (fC cI (fC (tup (fC cI fN)) (fC cI fN))))) (fC cI fN))) (fC (callD d_first_untold (hr.mono (by omega)) (fC (tup (fC cI (fC cI (fC (tup (fC cI (fC cI fN))) (fC cI fN))))) fN)) fN)))) (fC (tup (fC (tup (fC cI (fC cI (fC cI (fC cI fN))))) (fC (tup (fC cI fN)) (fC cI fN)))) fN)))))))), ?_⟩
    exact ⟨.ref a, rfl, a, ns, rfl, hS, hl, fun b c H' ns' n s hb hc x hl' => law_rest hlaw x hl' q rfl⟩
end
end K51

namespace K51
open PySem PySem.Spec PyProof.Rows L2 Pu
/-! ### rows in order -/
def lt (a b : List Nat) : Bool := W.dataLt (tu nI a) (tu nI b)
theorem lt_eq (a b : List Nat) : lt a b = PyProof.Rows.lexLt PyProof.Rows.itemOrd (W.keyToksAll (a.map nI)) (W.keyToksAll (b.map nI)) := W.dataLt_tuple _ _
theorem toks_cons (x : Nat) (a : List Nat) : W.keyToksAll ((x :: a).map nI) = [.inl 1] ++ ([.inl (x : Int)] ++ W.keyToksAll (a.map nI)) := by
  simp [W.keyToksAll, W.keyToks, nI]
theorem lt_cons_same (x : Nat) (a b : List Nat) : lt (x :: a) (x :: b) = lt a b := by
  rw [lt_eq, lt_eq, toks_cons, toks_cons, W.lex_pre, W.lex_pre]
theorem lt_cons_ne {x y : Nat} (h : x ≠ y) (a b a' b' : List Nat) : lt (x :: a) (y :: b) = lt (x :: a') (y :: b') := by
  have hne : (Sum.inl (x : Int) : Int ⊕ List Nat) ≠ Sum.inl (y : Int) := fun e => h (by injection e with e; omega)
  rw [lt_eq, lt_eq, toks_cons, toks_cons, toks_cons, toks_cons, W.lex_pre, W.lex_pre]
  exact (W.lex_atom hne _ _).trans (W.lex_atom hne _ _).symm
theorem lt_self (a : List Nat) : lt a a = false := by
  cases h : lt a a with
  | false => rfl
  | true => have := lt_asymm2 h; rw [show W.dataLt (tu nI a) (tu nI a) = lt a a from rfl, h] at this; cases this
theorem lt_app : ∀ {a b : List Nat}, a.length = b.length → ∀ p, lt (a ++ [p]) (b ++ [p]) = lt a b
  | [], [], _, p => by rw [List.nil_append, lt_self, lt_self]
  | x :: a, y :: b, h, p => by
    have h' : a.length = b.length := by simpa using h
    by_cases e : x = y
    · subst e
      rw [List.cons_append, List.cons_append, lt_cons_same, lt_cons_same, lt_app h']
    · rw [List.cons_append, List.cons_append, lt_cons_ne e]
theorem nlt_trans {a b c : List Nat} (h1 : lt b a = false) (h2 : lt c b = false) : lt c a = false := by
  have := dLe_trans (tu nI a) (tu nI b) (tu nI c) (by unfold dLe; show (!lt b a) = true; rw [h1]; rfl) (by unfold dLe; show (!lt c b) = true; rw [h2]; rfl)
  unfold dLe at this
  have : (!lt c a) = true := this
  simpa using this
theorem lt_uniq {a b : List Nat} (h1 : lt a b = false) (h2 : lt b a = false) : a = b := toks_tu a b (PyProof.Rows.lex_total (O := PyProof.Rows.itemOrd) _ _ h1 h2)
def mn (a b : List Nat) : List Nat := if lt b a = true then b else a
theorem mn_l (a b : List Nat) : lt a (mn a b) = false := by
  unfold mn
  split
  · rename_i h; exact lt_asymm2 h
  · exact lt_self a
theorem mn_r (a b : List Nat) : lt b (mn a b) = false := by
  unfold mn
  split
  · exact lt_self b
  · rename_i h; simpa using h
/-! ### all rows of places, with their moments -/
abbrev MR : Type := Int × List Nat
def ext (most : Nat) (L : List MR) (rd : Int) : List MR := L.flatMap fun q => (List.range (most + 1)).map fun p : Nat => (q.1 + rd * (p : Int), q.2 ++ [p])
def allR (most : Nat) (rs : List Int) : List MR := rs.foldl (ext most) [(0, [])]
theorem ext_mem {most : Nat} {L : List MR} {rd : Int} {q : MR} : q ∈ ext most L rd ↔ ∃ r ∈ L, ∃ p, p ≤ most ∧ q = (r.1 + rd * (p : Int), r.2 ++ [p]) := by
  unfold ext
  rw [List.mem_flatMap]
  constructor
  · rintro ⟨r, hr, hq⟩
    obtain ⟨p, hp, rfl⟩ := List.mem_map.mp hq
    exact ⟨r, hr, p, by have := List.mem_range.mp hp; omega, rfl⟩
  · rintro ⟨r, hr, p, hp, rfl⟩
    exact ⟨r, hr, List.mem_map.mpr ⟨p, List.mem_range.mpr (by omega), rfl⟩⟩
/-! ### the dict of moments -/
abbrev Ent : Type := List Nat × Nat
def addE (st : List (Int × Ent)) (k : Int) (e : Ent) : List (Int × Ent) := putI st k (mn ((valI st k).getD (e.1, 0)).1 e.1, ((valI st k).getD (e.1, 0)).2 + e.2)
theorem valI_put {α : Type} (l : List (Int × α)) (k j : Int) (a : α) : valI (putI l k a) j = if j = k then some a else valI l j := by
  have key : ∀ l : List (Int × α), (l.any fun p => decide (p.1 = k)) = true → valI (l.map fun p => if p.1 = k then (p.1, a) else p) j = if j = k then some a else valI l j := by
    intro l
    induction l with
    | nil => intro h; simp at h
    | cons p l ih =>
      intro h
      by_cases hp : p.1 = k
      · rw [List.map_cons, if_pos hp]
        by_cases hj : j = k
        · rw [if_pos hj]
          unfold valI
          rw [List.find?_cons_of_pos (by simp [hp, hj])]; rfl
        · rw [if_neg hj]
          have h1 : valI ((p.1, a) :: l.map fun p => if p.1 = k then (p.1, a) else p) j = valI (l.map fun p => if p.1 = k then (p.1, a) else p) j := by
            unfold valI
            rw [List.find?_cons_of_neg (by simp [hp]; exact fun e => hj e.symm)]
          have h2 : valI (p :: l) j = valI l j := by
            unfold valI
            rw [List.find?_cons_of_neg (by simp [hp]; exact fun e => hj e.symm)]
          rw [h1, h2]
          by_cases hm : (l.any fun p => decide (p.1 = k)) = true
          · rw [ih hm, if_neg hj]
          · have : (l.map fun p => if p.1 = k then (p.1, a) else p) = l := by
              conv => rhs; rw [← List.map_id l]
              refine List.map_congr_left fun q hq => ?_
              rw [if_neg fun e => hm (List.any_eq_true.mpr ⟨q, hq, by simp [e]⟩)]; rfl
            rw [this]
      · have hm : (l.any fun p => decide (p.1 = k)) = true := by simpa [hp] using h
        rw [List.map_cons, if_neg hp]
        by_cases hj : p.1 = j
        · have hjk : j ≠ k := fun e => hp (hj.trans e)
          rw [if_neg hjk]
          unfold valI
          rw [List.find?_cons_of_pos (by simp [hj]), List.find?_cons_of_pos (by simp [hj])]
        · have h1 := ih hm
          unfold valI at *
          rw [List.find?_cons_of_neg (by simp [hj]), List.find?_cons_of_neg (by simp [hj])]
          exact h1
  unfold putI
  split
  · rename_i h; exact key l h
  · rename_i h
    unfold valI
    rw [List.find?_append]
    by_cases hj : j = k
    · subst hj
      have : l.find? (fun p => decide (p.1 = j)) = none := List.find?_eq_none.mpr fun p hp e => h (List.any_eq_true.mpr ⟨p, hp, e⟩)
      rw [this, if_pos rfl]
      simp
    · rw [if_neg hj]
      rw [List.find?_cons_of_neg (by simp; exact fun e => hj e.symm)]
      simp
theorem keys_put {α : Type} (l : List (Int × α)) (k : Int) (a : α) (h : (l.map (·.1)).Nodup) : ((putI l k a).map (·.1)).Nodup := by
  unfold putI
  split
  · have : (l.map fun p => if p.1 = k then (p.1, a) else p).map (·.1) = l.map (·.1) := by
      rw [List.map_map]
      refine List.map_congr_left fun p _ => ?_
      show (if p.1 = k then (p.1, a) else p).1 = p.1
      split <;> rfl
    rw [this]; exact h
  · rename_i hn
    rw [List.map_append]
    refine List.nodup_append.mpr ⟨h, by simp, fun x hx y hy e => ?_⟩
    rw [List.map_cons, List.map_nil, List.mem_singleton] at hy
    obtain ⟨p, hp, rfl⟩ := List.mem_map.mp hx
    exact hn (List.any_eq_true.mpr ⟨p, hp, by simp [e, hy]⟩)
theorem valI_of_mem {α : Type} : ∀ {l : List (Int × α)}, (l.map (·.1)).Nodup → ∀ {p}, p ∈ l → valI l p.1 = some p.2
  | q :: l, h, p, hp => by
    rw [List.map_cons] at h
    obtain ⟨h1, h2⟩ := List.nodup_cons.mp h
    rcases List.mem_cons.mp hp with rfl | hp
    · simp [valI]
    · have hne : q.1 ≠ p.1 := fun e => h1 (by rw [e]; exact List.mem_map_of_mem hp)
      have := valI_of_mem h2 hp
      unfold valI at *
      rw [List.find?_cons_of_neg (by simpa using hne)]; exact this
theorem mem_of_valI {α : Type} : ∀ {l : List (Int × α)} {k : Int} {a : α}, valI l k = some a → (k, a) ∈ l
  | q :: l, k, a, h => by
    unfold valI at h
    by_cases e : q.1 = k
    · rw [List.find?_cons_of_pos (by simpa using e)] at h
      have : q.2 = a := by simpa using h
      subst e this; exact List.mem_cons_self
    · rw [List.find?_cons_of_neg (by simpa using e)] at h
      exact List.mem_cons_of_mem _ (mem_of_valI (by unfold valI; exact h))
  | [], k, a, h => by simp [valI] at h
/-- what is known of a dict made of such additions -/
structure OkC (st : List (Int × Ent)) (C : List (Int × Ent)) : Prop where
  nd : (st.map (·.1)).Nodup
  no : ∀ k, valI st k = none → ∀ q ∈ C, q.1 ≠ k
  so : ∀ k e, valI st k = some e → (∃ q ∈ C, q.1 = k ∧ q.2.1 = e.1) ∧ (∀ q ∈ C, q.1 = k → lt q.2.1 e.1 = false) ∧ e.2 = ((C.filter fun q => decide (q.1 = k)).map (·.2.2)).sum
theorem okC_nil : OkC [] [] := ⟨by simp, fun _ _ q hq => (by cases hq), fun k e h => (by simp [valI] at h)⟩
theorem okC_add {st C : List (Int × Ent)} (h : OkC st C) (k : Int) (e : Ent) : OkC (addE st k e) (C ++ [(k, e)]) := by
  refine ⟨keys_put _ _ _ h.nd, fun j hj q hq => ?_, fun j f hf => ?_⟩
  · unfold addE at hj
    rw [valI_put] at hj
    by_cases e1 : j = k
    · rw [if_pos e1] at hj; cases hj
    · rw [if_neg e1] at hj
      rcases List.mem_append.mp hq with hq | hq
      · exact h.no j hj q hq
      · rw [List.mem_singleton.mp hq]; exact fun z => e1 z.symm
  · unfold addE at hf
    rw [valI_put] at hf
    by_cases e1 : j = k
    · subst e1
      rw [if_pos rfl] at hf
      injection hf with hf
      subst hf
      cases hv : valI st j with
      | none =>
        have hno := h.no j hv
        simp only [Option.getD_none]
        have em : mn e.1 e.1 = e.1 := by unfold mn; split <;> rfl
        have hfl : C.filter (fun q => decide (q.1 = j)) = [] := List.filter_eq_nil_iff.mpr fun q hq => by simpa using hno q hq
        refine ⟨⟨(j, e), by simp, rfl, em.symm⟩, fun q hq hk => ?_, ?_⟩
        · rcases List.mem_append.mp hq with hq | hq
          · exact absurd hk (hno q hq)
          · rw [List.mem_singleton.mp hq, em]; exact lt_self _
        · rw [List.filter_append, hfl]; simp
      | some f =>
        obtain ⟨⟨q0, hq0, hk0, er⟩, hmin, hc⟩ := h.so j f hv
        simp only [Option.getD_some]
        refine ⟨?_, fun q hq hk => ?_, ?_⟩
        · by_cases hl : lt e.1 f.1 = true
          · exact ⟨(j, e), by simp, rfl, by unfold mn; rw [if_pos hl]⟩
          · exact ⟨q0, List.mem_append_left _ hq0, hk0, by unfold mn; rw [if_neg hl]; exact er⟩
        · rcases List.mem_append.mp hq with hq | hq
          · exact nlt_trans (mn_l f.1 e.1) (hmin q hq hk)
          · rw [List.mem_singleton.mp hq]; exact mn_r f.1 e.1
        · rw [List.filter_append, List.map_append, List.sum_append, ← hc]; simp
    · rw [if_neg e1] at hf
      obtain ⟨⟨q0, hq0, hk0, er⟩, hmin, hc⟩ := h.so j f hf
      refine ⟨⟨q0, List.mem_append_left _ hq0, hk0, er⟩, fun q hq hk => ?_, ?_⟩
      · rcases List.mem_append.mp hq with hq | hq
        · exact hmin q hq hk
        · rw [List.mem_singleton.mp hq] at hk; exact absurd hk.symm e1
      · rw [List.filter_append, hc]
        have : [((k, e) : Int × Ent)].filter (fun q => decide (q.1 = j)) = [] := by simp; exact fun z => e1 z.symm
        rw [this, List.append_nil]
theorem okC_fold : ∀ (C : List (Int × Ent)) {st C0 : List (Int × Ent)}, OkC st C0 → OkC (C.foldl (fun st q => addE st q.1 q.2) st) (C0 ++ C)
  | [], _, _, h => by rw [List.append_nil]; exact h
  | q :: C, st, C0, h => by
    have := okC_fold C (okC_add h q.1 q.2)
    rw [List.append_assoc] at this
    exact this
end K51

namespace K51
open PySem PySem.Spec PyProof.Rows L2 Pu
structure OkS (j : Nat) (st : List (Int × Ent)) (L : List MR) : Prop where
  len : ∀ q ∈ L, q.2.length = j
  nd : (st.map (·.1)).Nodup
  no : ∀ m, valI st m = none → ∀ q ∈ L, q.1 ≠ m
  so : ∀ m e, valI st m = some e → (m, e.1) ∈ L ∧ (∀ q ∈ L, q.1 = m → lt q.2 e.1 = false) ∧ e.2 = L.countP fun q => decide (q.1 = m)
def combos (most : Nat) (rd : Int) (st : List (Int × Ent)) : List (Int × Ent) := st.flatMap fun p => (List.range (most + 1)).map fun x : Nat => (p.1 + rd * (x : Int), (p.2.1 ++ [x], p.2.2))
theorem combos_mem {most : Nat} {rd : Int} {st : List (Int × Ent)} {c : Int × Ent} : c ∈ combos most rd st ↔ ∃ p ∈ st, ∃ x : Nat, x ≤ most ∧ c = (p.1 + rd * (x : Int), (p.2.1 ++ [x], p.2.2)) := by
  unfold combos
  rw [List.mem_flatMap]
  constructor
  · rintro ⟨r, hr, hq⟩
    obtain ⟨p, hp, rfl⟩ := List.mem_map.mp hq
    exact ⟨r, hr, p, by have := List.mem_range.mp hp; omega, rfl⟩
  · rintro ⟨r, hr, p, hp, rfl⟩
    exact ⟨r, hr, List.mem_map.mpr ⟨p, List.mem_range.mpr (by omega), rfl⟩⟩
theorem sum_zero : ∀ l : List Int, (l.map fun _ => (0 : Nat)).sum = 0
  | [] => rfl
  | x :: l => by rw [List.map_cons, List.sum_cons, sum_zero l]
theorem one_hot (g : Int → Nat) (k : Int) : ∀ keys : List Int, keys.Nodup → k ∈ keys → (keys.map fun m => (if k = m then 1 else 0) * g m).sum = g k
  | x :: keys, hn, hk => by
    obtain ⟨h1, h2⟩ := List.nodup_cons.mp hn
    rw [List.map_cons, List.sum_cons]
    rcases List.mem_cons.mp hk with rfl | hk
    · have : (keys.map fun m => (if k = m then 1 else 0) * g m) = keys.map fun _ => 0 := List.map_congr_left fun m hm => by
        rw [if_neg fun e => h1 (by rw [e]; exact hm)]; simp
      rw [this, sum_zero, if_pos rfl]; simp
    · rw [if_neg fun e => h1 (by rw [← e]; exact hk), one_hot g k keys h2 hk]; simp
theorem sum_add2 (f h : Int → Nat) : ∀ keys : List Int, (keys.map fun m => f m + h m).sum = (keys.map f).sum + (keys.map h).sum
  | [] => rfl
  | x :: keys => by simp only [List.map_cons, List.sum_cons, sum_add2 f h keys]; omega
theorem sum_keys (g : Int → Nat) {keys : List Int} (hn : keys.Nodup) : ∀ L : List MR, (∀ q ∈ L, q.1 ∈ keys) → (keys.map fun m => (L.countP fun q => decide (q.1 = m)) * g m).sum = (L.map fun q => g q.1).sum
  | [], _ => by
    have : (keys.map fun m => (([] : List MR).countP fun q => decide (q.1 = m)) * g m) = keys.map fun _ => 0 := List.map_congr_left fun m _ => by simp
    rw [this, sum_zero]; simp
  | q :: L, h => by
    have ih := sum_keys g hn L fun x hx => h x (List.mem_cons_of_mem _ hx)
    have e : (keys.map fun m => ((q :: L).countP fun q => decide (q.1 = m)) * g m) = keys.map fun m => (L.countP fun q => decide (q.1 = m)) * g m + (if q.1 = m then 1 else 0) * g m := List.map_congr_left fun m _ => by
      rw [List.countP_cons, Nat.add_mul]
      by_cases hm : q.1 = m
      · simp [hm]
      · simp [hm]
    rw [e, sum_add2, ih, one_hot g q.1 keys hn (h q List.mem_cons_self), List.map_cons, List.sum_cons]; omega
theorem ext_count (most : Nat) (rd key : Int) : ∀ L : List MR, (ext most L rd).countP (fun q => decide (q.1 = key)) = (L.map fun q => (List.range (most + 1)).countP fun x : Nat => decide (q.1 + rd * (x : Int) = key)).sum
  | [] => rfl
  | q :: L => by
    have ih := ext_count most rd key L
    unfold ext at *
    rw [List.flatMap_cons, List.countP_append, ih, List.map_cons, List.sum_cons, List.countP_map]
    rfl
theorem part_sum {α : Type} (f : α → Bool) (c : Nat) (h : α → Int × Ent) (k : Int) (hk : ∀ x, decide ((h x).1 = k) = f x) (hc : ∀ x, (h x).2.2 = c) : ∀ xs : List α, (((xs.map h).filter fun q => decide (q.1 = k)).map (·.2.2)).sum = c * xs.countP f
  | [] => by simp
  | x :: xs => by
    have ih := part_sum f c h k hk hc xs
    rw [List.map_cons, List.countP_cons]
    cases e : f x with
    | true => rw [List.filter_cons_of_pos (by rw [hk, e]), List.map_cons, List.sum_cons, ih, hc, if_pos rfl, Nat.mul_add, Nat.mul_one]; omega
    | false => rw [List.filter_cons_of_neg (by rw [hk, e]; simp), ih, if_neg (by simp)]; rfl
theorem combos_sum (most : Nat) (rd key : Int) : ∀ st : List (Int × Ent), (((combos most rd st).filter fun q => decide (q.1 = key)).map (·.2.2)).sum = (st.map fun p => p.2.2 * (List.range (most + 1)).countP fun x : Nat => decide (p.1 + rd * (x : Int) = key)).sum
  | [] => rfl
  | p :: st => by
    have ih := combos_sum most rd key st
    unfold combos at *
    rw [List.flatMap_cons, List.filter_append, List.map_append, List.sum_append, ih, List.map_cons, List.sum_cons, part_sum (fun x : Nat => decide (p.1 + rd * (x : Int) = key)) p.2.2 (fun x : Nat => (p.1 + rd * (x : Int), (p.2.1 ++ [x], p.2.2))) key (fun _ => rfl) (fun _ => rfl)]
theorem ok_step {j most : Nat} {rd : Int} {st st' st2 : List (Int × Ent)} {L : List MR} (h : OkS j st L) (hp : st'.Perm st) (h2 : OkC st2 (combos most rd st')) : OkS (j + 1) st2 (ext most L rd) := by
  have hm : ∀ p, p ∈ st' → valI st p.1 = some p.2 := fun p hps => valI_of_mem h.nd (hp.mem_iff.mp hps)
  have hex : ∀ q ∈ L, ∃ e, valI st q.1 = some e := fun q hq => by
    cases hv : valI st q.1 with
    | none => exact absurd rfl (h.no q.1 hv q hq)
    | some e => exact ⟨e, rfl⟩
  have hst : ∀ q ∈ L, ∀ e, valI st q.1 = some e → (q.1, e) ∈ st' := fun q _ e he => hp.mem_iff.mpr (mem_of_valI he)
  refine ⟨fun q hq => ?_, h2.nd, fun m hv q hq e => ?_, fun m e hv => ?_⟩
  · obtain ⟨r, hr, p, _, rfl⟩ := ext_mem.mp hq
    rw [List.length_append, h.len r hr]; rfl
  · obtain ⟨r, hr, p, hpm, rfl⟩ := ext_mem.mp hq
    obtain ⟨f, hf⟩ := hex r hr
    exact h2.no m hv _ (combos_mem.mpr ⟨_, hst r hr f hf, p, hpm, rfl⟩) e
  · obtain ⟨⟨c, hc, hk, hr⟩, hmin, hcnt⟩ := h2.so m e hv
    obtain ⟨p, hps, x, hx, rfl⟩ := combos_mem.mp hc
    have hv0 := hm p hps
    refine ⟨?_, fun q hq hqm => ?_, ?_⟩
    · refine ext_mem.mpr ⟨(p.1, p.2.1), (h.so p.1 p.2 hv0).1, x, hx, ?_⟩
      show (m, e.1) = (p.1 + rd * (x : Int), p.2.1 ++ [x])
      rw [← hr, ← hk]
    · obtain ⟨r, hrL, p', hp', rfl⟩ := ext_mem.mp hq
      obtain ⟨f, hf⟩ := hex r hrL
      obtain ⟨f1, f2, _⟩ := h.so r.1 f hf
      have hc' : (r.1 + rd * (p' : Int), (f.1 ++ [p'], f.2)) ∈ combos most rd st' := combos_mem.mpr ⟨_, hst r hrL f hf, p', hp', rfl⟩
      have l1 : lt (f.1 ++ [p']) e.1 = false := hmin _ hc' hqm
      have l2 : lt (r.2 ++ [p']) (f.1 ++ [p']) = false := by
        rw [lt_app (by rw [h.len r hrL]; exact (h.len _ f1).symm)]
        exact f2 r hrL rfl
      exact nlt_trans l1 l2
    · rw [hcnt, combos_sum, ext_count]
      have e1 : (st'.map fun p => p.2.2 * (List.range (most + 1)).countP fun x : Nat => decide (p.1 + rd * (x : Int) = m)) = (st'.map (·.1)).map fun k => (L.countP fun q => decide (q.1 = k)) * (List.range (most + 1)).countP fun x : Nat => decide (k + rd * (x : Int) = m) := by
        rw [List.map_map]
        refine List.map_congr_left fun p hps => ?_
        show p.2.2 * _ = (L.countP fun q => decide (q.1 = p.1)) * _
        rw [(h.so p.1 p.2 (hm p hps)).2.2]
      rw [e1, sum_keys (fun k => (List.range (most + 1)).countP fun x : Nat => decide (k + rd * (x : Int) = m)) ((hp.map (·.1)).nodup_iff.mpr h.nd) L fun q hq => by
        obtain ⟨f, hf⟩ := hex q hq
        exact List.mem_map_of_mem (f := fun p : Int × Ent => p.1) (hst q hq f hf)]
theorem ok_start : OkS 0 [(0, ([], 1))] [(0, [])] := by
  refine ⟨fun q hq => by rw [List.mem_singleton.mp hq]; rfl, by simp, fun m hv q hq e => ?_, fun m e hv => ?_⟩
  · rw [List.mem_singleton.mp hq] at e
    have e : (0 : Int) = m := e
    subst e
    simp [valI] at hv
  · by_cases h0 : (0 : Int) = m
    · subst h0
      have : e = ([], 1) := by simp [valI] at hv; exact hv.symm
      subst this
      exact ⟨List.mem_cons_self, fun q hq _ => by rw [List.mem_singleton.mp hq]; exact lt_self _, by simp⟩
    · simp [valI, h0] at hv
end K51

namespace K51
open PySem PySem.Spec PyProof.Rows L2 Pu
/-! ### the ways, as the program counts them -/
abbrev tI (l : List Int) : D := .tuple (l.map PyData.int)
abbrev Y (n s : Int) (rs : List Int) (most : Nat) : D := .tuple [.int n, .int s, tI rs, nI most]
def cD (e : Ent) : D := .tuple [tu nI e.1, nI e.2]
def iT (p : Int × Ent) : D := .tuple [.int p.1, cD p.2]
theorem mul_w {i j : Int} (h : i.natAbs ≤ 1000000) : mulR (.int i) (.int j) = ok (.int (i * j)) := mulR_int (.inl ⟨by omega, by omega⟩)
theorem min_tu (a b : List Nat) : minTR [tu nI a, tu nI b] = ok (tu nI (mn a b)) := by
  show bd (req (W.AlikeAll [tu nI a, tu nI b] ∧ PyData.depthAll [tu nI a, tu nI b] ≤ 60)) (fun _ => ok (W.minD (tu nI a) [tu nI b])) = _
  rw [bd_req]
  · have : W.minD (tu nI a) [tu nI b] = if lt b a = true then tu nI b else tu nI a := rfl
    rw [this]
    unfold mn
    split <;> rfl
  · refine ⟨⟨fun x hx y hy => ?_, fun x hx => ?_⟩, ?_⟩
    · simp only [List.mem_cons, List.not_mem_nil, or_false] at hx hy
      rcases hx with rfl | rfl <;> rcases hy with rfl | rfl <;> exact alike_tu _ _
    · simp only [List.mem_cons, List.not_mem_nil, or_false] at hx
      rcases hx with rfl | rfl <;> (intro h; cases h)
    · simp [PyData.depthAll, depth_tu]
theorem srt_items (st : List (Int × Ent)) : ∃ st' : List (Int × Ent), st'.Perm st ∧ ((iD cD st).map itD).mergeSort dLe = st'.map iT ∧ SrtK ((iD cD st).map itD) := by
  have e : (iD cD st).map itD = st.map iT := by unfold iD; rw [List.map_map]; rfl
  refine ⟨st.mergeSort fun a b => dLe (iT a) (iT b), List.mergeSort_perm _ _, ?_, ?_⟩
  · rw [e, List.map_mergeSort (r := fun a b => dLe (iT a) (iT b)) (s := dLe) (f := iT) (fun a _ b _ => rfl)]
  · rw [e]
    refine ⟨fun x hx y hy => ?_, .inl fun d hd => ?_, fun x hx => ?_⟩
    · obtain ⟨x, _, rfl⟩ := List.mem_map.mp hx
      obtain ⟨y, _, rfl⟩ := List.mem_map.mp hy
      simp [iT, cD, W.alike, W.alikeAll, alike_tu, nI]
    · obtain ⟨x, _, rfl⟩ := List.mem_map.mp hd
      exact ⟨_, _, rfl⟩
    · obtain ⟨x, _, rfl⟩ := List.mem_map.mp hx
      simp [iT, cD, PyData.depth, PyData.depthAll, depth_tu, nI]
def pB : List Sl → R Out := (seqM (setsM [11, 12] (consR (rD (m2 (nDR 7) (m2 (nDR 5) (nDR 10) mulR) addR)) (consR (rD (m2 (nDR 8) (m1 (consR (nDR 10) nilR) tupR) addR)) nilR)))
 (seqM (setM 13 (getM2 6 (nDR 11) (m1 (consR (nDR 12) (consR (kR (.int 0)) nilR)) tupR)))
 (putM 6 (nDR 11) (m1 (consR (m1 (consR (m2 (nDR 13) (kR (.int 0)) ixR) (consR (nDR 12) nilR)) minTR) (consR (m2 (m2 (nDR 13) (kR (.int 1)) ixR) (nDR 9) addR) nilR)) tupR))))
def iB : List Sl → R Out := (forM (m1 (consR (m2 (nDR 3) (kR (.int 1)) addR) nilR) range1R) (gSet 10) pB)
theorem add_len (st : List (Int × Ent)) (k : Int) (e : Ent) : (addE st k e).length ≤ st.length + 1 := putI_len _ _ _
section
variable {x0 x1 x2 x4 v10 v11 v12 v13 : Sl} {most : Nat} {rd m : Int} {r : List Nat} {c : Nat}
theorem r_pB {acc : List (Int × Ent)} (hl : acc.length ≤ 100000) (hr : r.length ≤ 1000) (hd : rd.natAbs ≤ 1000) (p : Nat) : ∃ w11 w12 w13, pB [x0, x1, x2, .dat (nI most), x4, .dat (.int rd), .od (iD cD acc), .dat (.int m), .dat (tu nI r), .dat (nI c), .dat (nI p), v11, v12, v13] = ok (.nx [x0, x1, x2, .dat (nI most), x4, .dat (.int rd), .od (iD cD (addE acc (m + rd * (p : Int)) (r ++ [p], c))), .dat (.int m), .dat (tu nI r), .dat (nI c), .dat (nI p), w11, w12, w13]) := by
  refine ⟨.dat (.int (m + rd * (p : Int))), .dat (tu nI (r ++ [p])), .dat (cD ((valI acc (m + rd * (p : Int))).getD (r ++ [p], 0))), ?_⟩
  have hm : mulR (.int rd) (nI p) = ok (.int (rd * (p : Int))) := mul_w (by omega)
  have ha : addR (tu nI r) (.tuple [nI p]) = ok (tu nI (r ++ [p])) := by
    show addR (.tuple (r.map nI)) (.tuple ([p].map nI)) = _
    rw [addT_n (by simp; omega), ← List.map_append]; rfl
  have hg : ∀ k : Int, (valG (iD cD acc) (.inl k)).getD (.tuple [tu nI (r ++ [p]), .int 0]) = cD ((valI acc k).getD (r ++ [p], 0)) := fun k => by
    rw [val_iD]
    cases valI acc k <;> rfl
  have i0 : ∀ e : Ent, ixR (cD e) (.int 0) = ok (tu nI e.1) := fun e => ixt0 _ _
  have i1 : ∀ e : Ent, ixR (cD e) (.int 1) = ok (nI e.2) := fun e => ixt1 _ _ _
  have h0 : setsM [11, 12] (consR (rD (m2 (nDR 7) (m2 (nDR 5) (nDR 10) mulR) addR)) (consR (rD (m2 (nDR 8) (m1 (consR (nDR 10) nilR) tupR) addR)) nilR)) [x0, x1, x2, .dat (nI most), x4, .dat (.int rd), .od (iD cD acc), .dat (.int m), .dat (tu nI r), .dat (nI c), .dat (nI p), v11, v12, v13] = ok (.nx [x0, x1, x2, .dat (nI most), x4, .dat (.int rd), .od (iD cD acc), .dat (.int m), .dat (tu nI r), .dat (nI c), .dat (nI p), .dat (.int (m + rd * (p : Int))), .dat (tu nI (r ++ [p])), v13]) := by
    simp only [setsM, consR_e, nilR_e, rD, m1_e, m2_e, nDR_s, nDR_0, bd_ok, hm, addR_int, tup1, ha]
    rfl
  unfold pB
  rw [seqM_e, h0, bd_ok, nxt_nx, seqM_e, setM_e, getM2_e]
  simp only [m1_e, consR_e, nilR_e, kR_e, nDR_s, nDR_0, bd_ok, getOD_s, getOD_0, keyR_int, tup2, hg, set_s, set_0, nxt_nx]
  rw [putM_e]
  have hc : ∀ a b : Nat, addR (nI a) (nI b) = ok (nI (a + b)) := fun a b => rfl
  simp only [m1_e, m2_e, consR_e, nilR_e, kR_e, nDR_s, nDR_0, bd_ok, getOD_s, getOD_0, keyR_int, tup2, i0, i1, min_tu, hc]
  rw [bd_req (by rw [show (iD cD acc).length = acc.length from by simp [iD]]; exact Nat.lt_of_le_of_lt hl (by decide))]
  simp only [set_s, set_0]
  rw [show PyData.tuple [tu nI (mn ((valI acc (m + rd * (p : Int))).getD (r ++ [p], 0)).1 (r ++ [p])), nI (((valI acc (m + rd * (p : Int))).getD (r ++ [p], 0)).2 + c)] = cD (mn ((valI acc (m + rd * (p : Int))).getD (r ++ [p], 0)).1 (r ++ [p]), ((valI acc (m + rd * (p : Int))).getD (r ++ [p], 0)).2 + c) from rfl, put_iD]
  rfl
theorem fold_len : ∀ (C : List (Int × Ent)) (acc : List (Int × Ent)), (C.foldl (fun st q => addE st q.1 q.2) acc).length ≤ acc.length + C.length
  | [], acc => Nat.le_refl _
  | q :: C, acc => by
    have := fold_len C (addE acc q.1 q.2)
    have := add_len acc q.1 q.2
    rw [List.foldl_cons, List.length_cons]; omega
def cmb (most : Nat) (rd : Int) (p : Int × Ent) : List (Int × Ent) := (List.range (most + 1)).map fun x : Nat => (p.1 + rd * (x : Int), (p.2.1 ++ [x], p.2.2))
theorem r_iB {acc : List (Int × Ent)} (hl : acc.length ≤ 90000) (hmo : most ≤ 100) (hr : r.length ≤ 1000) (hd : rd.natAbs ≤ 1000) : ∃ w10 w11 w12 w13, iB [x0, x1, x2, .dat (nI most), x4, .dat (.int rd), .od (iD cD acc), .dat (.int m), .dat (tu nI r), .dat (nI c), v10, v11, v12, v13] = ok (.nx [x0, x1, x2, .dat (nI most), x4, .dat (.int rd), .od (iD cD ((cmb most rd (m, (r, c))).foldl (fun st q => addE st q.1 q.2) acc)), .dat (.int m), .dat (tu nI r), .dat (nI c), w10, w11, w12, w13]) := by
  let J : List Nat → List Sl → Prop := fun dn ρ => ∃ w10 w11 w12 w13, ρ = [x0, x1, x2, .dat (nI most), x4, .dat (.int rd), .od (iD cD ((dn.map fun x : Nat => (m + rd * (x : Int), (r ++ [x], c))).foldl (fun st q => addE st q.1 q.2) acc)), .dat (.int m), .dat (tu nI r), .dat (nI c), w10, w11, w12, w13]
  obtain ⟨ρ', e, w10, w11, w12, w13, rfl⟩ := forF_J (f := nI) (g := gSet 10) (tb := pB) J (List.range (most + 1)) [] [x0, x1, x2, .dat (nI most), x4, .dat (.int rd), .od (iD cD acc), .dat (.int m), .dat (tu nI r), .dat (nI c), v10, v11, v12, v13] (fun dn p ρ ⟨rr, hdn⟩ ⟨u10, u11, u12, u13, hρ⟩ => by
    subst hρ
    rw [List.nil_append] at hdn
    have hlen : dn.length ≤ most + 1 := by
      have := congrArg List.length hdn
      simp at this; omega
    have hfl : ((dn.map fun x : Nat => (m + rd * (x : Int), (r ++ [x], c))).foldl (fun st q => addE st q.1 q.2) acc).length ≤ 100000 := by
      have h := fold_len (dn.map fun x : Nat => (m + rd * (x : Int), (r ++ [x], c))) acc
      rw [List.length_map] at h
      exact Nat.le_trans h (by omega)
    obtain ⟨w11, w12, w13, e⟩ := r_pB (x0 := x0) (x1 := x1) (x2 := x2) (x4 := x4) (v11 := u11) (v12 := u12) (v13 := u13) (most := most) (rd := rd) (m := m) (r := r) (c := c) (acc := (dn.map fun x : Nat => (m + rd * (x : Int), (r ++ [x], c))).foldl (fun st q => addE st q.1 q.2) acc) hfl hr hd p
    refine ⟨_, ?_, .dat (nI p), w11, w12, w13, rfl⟩
    rw [gSet_e, bd_ok]
    simp only [set_s, set_0]
    rw [e, List.map_append, List.foldl_append]
    rfl) ⟨v10, v11, v12, v13, rfl⟩
  refine ⟨w10, w11, w12, w13, ?_⟩
  unfold iB
  rw [forM_e, m1_e, consR_e]
  simp only [m2_e, nDR_s, nDR_0, kR_e, nilR_e, bd_ok]
  rw [show addR (nI most) (.int 1) = ok (nI (most + 1)) from rfl, bd_ok, bd_ok, show range1R [nI (most + 1)] = ok ((List.range (most + 1)).map nI) from range_e _ (by omega), bd_ok, e, List.nil_append]
  rfl
end
end K51

namespace K51
open PySem PySem.Spec PyProof.Rows L2 Pu
/-! ### all the ways -/
def rB : List Sl → R Out := (seqM (setOD 6 emptyD)
 (seqM (forM (itR (frz (srtIM 4))) (gTupR 2 (gConsR (gSet 7) (gConsR (gTupR 2 (gConsR (gSet 8) (gConsR (gSet 9) gNilR))) gNilR))) iB)
 (mvD 4 6)))
theorem flat_cmb (most : Nat) (rd : Int) (st : List (Int × Ent)) : combos most rd st = st.flatMap (cmb most rd) := rfl
section
variable {x0 x1 x2 v5 v7 v8 v9 v10 v11 v12 v13 : Sl} {most : Nat} {rd : Int}
theorem r_rB {st : List (Int × Ent)} {j : Nat} {L : List MR} (h : OkS j st L) (hj : j ≤ 100) (hl : st.length ≤ 1000) (hmo : most ≤ 9) (hd : rd.natAbs ≤ 1000) : ∃ (st2 : List (Int × Ent)) (w7 w8 w9 w10 w11 w12 w13 : Sl), OkS (j + 1) st2 (ext most L rd) ∧ st2.length ≤ st.length * (most + 1) ∧ rB [x0, x1, x2, .dat (nI most), .od (iD cD st), .dat (.int rd), .un, v7, v8, v9, v10, v11, v12, v13] = ok (.nx [x0, x1, x2, .dat (nI most), .od (iD cD st2), .dat (.int rd), .un, w7, w8, w9, w10, w11, w12, w13]) := by
  obtain ⟨st', hp, hs, hk⟩ := srt_items st
  have hrl : ∀ p ∈ st', p.2.1.length = j := fun p hps => by
    have hv := valI_of_mem h.nd (hp.mem_iff.mp hps)
    exact h.len _ (h.so p.1 p.2 hv).1
  have hl' : st'.length = st.length := hp.length_eq
  have hcl : ∀ l : List (Int × Ent), (l.flatMap (cmb most rd)).length = l.length * (most + 1) := fun l => by
    induction l with
    | nil => simp
    | cons q l ih => rw [List.flatMap_cons, List.length_append, ih, List.length_cons, Nat.succ_mul]; simp [cmb]; omega
  let J : List (Int × Ent) → List Sl → Prop := fun dn ρ => ∃ w7 w8 w9 w10 w11 w12 w13, ρ = [x0, x1, x2, .dat (nI most), .od (iD cD st), .dat (.int rd), .od (iD cD ((dn.flatMap (cmb most rd)).foldl (fun st q => addE st q.1 q.2) [])), w7, w8, w9, w10, w11, w12, w13]
  obtain ⟨ρ', e, w7, w8, w9, w10, w11, w12, w13, rfl⟩ := forF_J (f := iT) (g := gTupR 2 (gConsR (gSet 7) (gConsR (gTupR 2 (gConsR (gSet 8) (gConsR (gSet 9) gNilR))) gNilR))) (tb := iB) J st' [] [x0, x1, x2, .dat (nI most), .od (iD cD st), .dat (.int rd), .od (iD cD []), v7, v8, v9, v10, v11, v12, v13] (fun dn p ρ ⟨rr, hdn⟩ ⟨u7, u8, u9, u10, u11, u12, u13, hρ⟩ => by
    subst hρ
    rw [List.nil_append] at hdn
    have hpm : p ∈ st' := by rw [← hdn]; simp
    have hlen : dn.length ≤ st.length := by
      have := congrArg List.length hdn
      simp at this; omega
    have hfl : ((dn.flatMap (cmb most rd)).foldl (fun st q => addE st q.1 q.2) []).length ≤ 90000 := by
      have h1 := fold_len (dn.flatMap (cmb most rd)) []
      rw [hcl, List.length_nil] at h1
      have h2 : dn.length * (most + 1) ≤ 1000 * 10 := Nat.mul_le_mul (by omega) (by omega)
      exact Nat.le_trans h1 (by omega)
    obtain ⟨w10, w11, w12, w13, e⟩ := r_iB (x0 := x0) (x1 := x1) (x2 := x2) (x4 := .od (iD cD st)) (v10 := u10) (v11 := u11) (v12 := u12) (v13 := u13) (most := most) (rd := rd) (m := p.1) (r := p.2.1) (c := p.2.2) (acc := (dn.flatMap (cmb most rd)).foldl (fun st q => addE st q.1 q.2) []) hfl (by omega) (by rw [hrl p hpm]; omega) hd
    refine ⟨_, ?_, .dat (.int p.1), .dat (tu nI p.2.1), .dat (nI p.2.2), w10, w11, w12, w13, rfl⟩
    rw [show iT p = .tuple [.int p.1, .tuple [tu nI p.2.1, nI p.2.2]] from rfl, gT2, gSet_e, bd_ok, gT2, gSet_e, bd_ok, gSet_e, bd_ok]
    simp only [set_s, set_0]
    rw [e, List.flatMap_append, List.foldl_append]
    simp) ⟨v7, v8, v9, v10, v11, v12, v13, rfl⟩
  refine ⟨(st'.flatMap (cmb most rd)).foldl (fun st q => addE st q.1 q.2) [], w7, w8, w9, w10, w11, w12, w13, ?_, ?_, ?_⟩
  · have := okC_fold (combos most rd st') okC_nil
    rw [List.nil_append] at this
    exact ok_step h hp this
  · have := fold_len (st'.flatMap (cmb most rd)) []
    rw [hcl, List.length_nil, hl'] at this
    omega
  · unfold rB
    rw [seqM_e, setOD_e, emptyD_e, bd_ok]
    simp only [bd_ok, set_s, set_0, nxt_nx]
    have hsi : srtIM 4 [x0, x1, x2, .dat (nI most), .od (iD cD st), .dat (.int rd), .od [], v7, v8, v9, v10, v11, v12, v13] = ok (st'.map iT) := by
      show bd (getOD _ 4) (fun ds => bd (req (SrtK (ds.map itD))) fun _ => ok ((ds.map itD).mergeSort dLe)) = _
      rw [show getOD [x0, x1, x2, .dat (nI most), .od (iD cD st), .dat (.int rd), .od [], v7, v8, v9, v10, v11, v12, v13] 4 = ok (iD cD st) from rfl, bd_ok, bd_req hk, hs]
    rw [seqM_e, forM_e, itR_list (l := st'.map iT) (by rw [frz_e, hsi, bd_ok]), bd_ok]
    rw [show ([] : List (Key × D)) = iD cD [] from rfl, e, bd_ok, nxt_nx, List.nil_append]
    show bd (getOD _ 6) _ = _
    simp only [getOD_s, getOD_0, bd_ok, set_s, set_0]
theorem gT4 {ρ : List Sl} {g1 g2 g3 g4 : D → List Sl → R (List Sl)} {a b c d : D} : gTupR 4 (gConsR g1 (gConsR g2 (gConsR g3 (gConsR g4 gNilR)))) (.tuple [a, b, c, d]) ρ = bd (g1 a ρ) fun ρ1 => bd (g2 b ρ1) fun ρ2 => bd (g3 c ρ2) (g4 d) := by
  show bd (req ([a, b, c, d].length = 4)) _ = _
  rw [bd_req (show [a, b, c, d].length = 4 from rfl)]
  show bd (g1 a ρ) (fun ρ1 => bd (g2 b ρ1) fun ρ2 => bd (g3 c ρ2) fun ρ3 => bd (g4 d ρ3) (gNilR [])) = _
  rfl
theorem asgM_e' (f : List Sl → R D) (g : D → List Sl → R (List Sl)) (ρ : List Sl) : asgM f g ρ = bd (f ρ) fun d => bd (g d ρ) fun ρ' => ok (.nx ρ') := rfl
end
structure Yd (n s : Int) (rs : List Int) (most : Nat) : Prop where
  rl : rs.length ≤ 3
  rw : ∀ r ∈ rs, 1 ≤ r ∧ r ≤ 100
  mo : most ≤ 9
  n1 : 1 ≤ n ∧ n ≤ 50
  s1 : -1000 ≤ s ∧ s ≤ 1000
theorem q_ways {n s : Int} {rs : List Int} {most : Nat} (hY : Yd n s rs most) : ∃ st, OkS rs.length st (allR most rs) ∧ m_ways_by_moment [Y n s rs most] = ok (iD cD st) := by
  have t0 : tupR ([] : List D) = ok (.tuple []) := tup_n (by simp)
  have ent : m_ways_by_moment [Y n s rs most] = g_ways_by_moment [.dat (Y n s rs most), .un, .un, .un, .un, .un, .un, .un, .un, .un, .un, .un, .un, .un] := rfl
  have a0 : asgM (nDR 0) (gTupR 4 (gConsR (gSet 1) (gConsR (gSet 1) (gConsR (gSet 2) (gConsR (gSet 3) gNilR))))) [.dat (Y n s rs most), .un, .un, .un, .un, .un, .un, .un, .un, .un, .un, .un, .un, .un] = ok (.nx [.dat (Y n s rs most), .dat (.int s), .dat (tI rs), .dat (nI most), .un, .un, .un, .un, .un, .un, .un, .un, .un, .un]) := by
    rw [asgM_e']
    simp only [nDR_0, bd_ok]
    rw [show Y n s rs most = .tuple [.int n, .int s, tI rs, nI most] from rfl, gT4]
    simp only [gSet_e, bd_ok, set_s, set_0]
  have a1 : setOD 4 (disp1 (kR (.int 0)) (m1 (consR (m1 nilR tupR) (consR (kR (.int 1)) nilR)) tupR)) [.dat (Y n s rs most), .dat (.int s), .dat (tI rs), .dat (nI most), .un, .un, .un, .un, .un, .un, .un, .un, .un, .un] = ok (.nx [.dat (Y n s rs most), .dat (.int s), .dat (tI rs), .dat (nI most), .od (iD cD [(0, ([], 1))]), .un, .un, .un, .un, .un, .un, .un, .un, .un]) := by
    rw [setOD_e, disp1_e]
    simp only [kR_e, bd_ok, keyR_int, m1_e, consR_e, nilR_e, t0, tup2, set_s, set_0]
    rfl
  let J : List Int → List Sl → Prop := fun dn ρ => ∃ (st : List (Int × Ent)) (w5 w7 w8 w9 w10 w11 w12 w13 : Sl), ρ = [.dat (Y n s rs most), .dat (.int s), .dat (tI rs), .dat (nI most), .od (iD cD st), w5, .un, w7, w8, w9, w10, w11, w12, w13] ∧ OkS dn.length st (allR most dn) ∧ st.length ≤ 10 ^ dn.length
  obtain ⟨ρ', e, st, w5, w7, w8, w9, w10, w11, w12, w13, rfl, hok, _⟩ := forF_J (f := PyData.int) (g := gSet 5) (tb := rB) J rs [] [.dat (Y n s rs most), .dat (.int s), .dat (tI rs), .dat (nI most), .od (iD cD [(0, ([], 1))]), .un, .un, .un, .un, .un, .un, .un, .un, .un] (fun dn r ρ ⟨rr, hdn⟩ ⟨st, u5, u7, u8, u9, u10, u11, u12, u13, hρ, hok, hl⟩ => by
    subst hρ
    rw [List.nil_append] at hdn
    have hrm : r ∈ rs := by rw [← hdn]; simp
    have hrb := hY.rw r hrm
    have hlen : dn.length + 1 ≤ 3 := by
      have := congrArg List.length hdn
      have := hY.rl
      simp at *; omega
    have h10 : 10 ^ dn.length ≤ 100 := by
      have : dn.length = 0 ∨ dn.length = 1 ∨ dn.length = 2 := by omega
      rcases this with h | h | h <;> rw [h] <;> decide
    obtain ⟨st2, w7, w8, w9, w10, w11, w12, w13, ok2, hl2, e⟩ := r_rB (x0 := .dat (Y n s rs most)) (x1 := .dat (.int s)) (x2 := .dat (tI rs)) (v7 := u7) (v8 := u8) (v9 := u9) (v10 := u10) (v11 := u11) (v12 := u12) (v13 := u13) (most := most) (rd := r) hok (by omega) (by omega) hY.mo (by omega)
    refine ⟨_, ?_, st2, .dat (.int r), w7, w8, w9, w10, w11, w12, w13, rfl, ?_, ?_⟩
    · rw [gSet_e, bd_ok]
      simp only [set_s, set_0]
      exact e
    · rw [List.length_append, List.length_singleton]
      have : allR most (dn ++ [r]) = ext most (allR most dn) r := by unfold allR; rw [List.foldl_append]; rfl
      rw [this]; exact ok2
    · rw [List.length_append, List.length_singleton, Nat.pow_succ]
      have := hY.mo
      exact Nat.le_trans hl2 (Nat.mul_le_mul hl (by omega))) ⟨_, .un, .un, .un, .un, .un, .un, .un, .un, rfl, ok_start, by simp⟩
  refine ⟨st, hok, ?_⟩
  rw [ent]
  unfold g_ways_by_moment
  show bd _ _ = _
  rw [a0, bd_ok]
  show bd _ _ = _
  rw [a1, bd_ok]
  show bd (forM _ _ rB _) _ = _
  rw [forM_e, itR_tuple (l := rs.map PyData.int) rfl, bd_ok, e, bd_ok]
  rfl
end K51

namespace K51
open PySem PySem.Spec PyProof.Rows L2 Pu
/-! ### what the program tells of a yard -/
theorem dLe_int (i j : Int) : dLe (.int i) (.int j) = decide (i ≤ j) := by
  show (!W.dataLt (.int j) (.int i)) = _
  have := W.dataLt_int j i
  rw [this]
  by_cases h : i ≤ j
  · rw [decide_eq_true h, decide_eq_false (by omega)]; rfl
  · rw [decide_eq_false h, decide_eq_true (by omega)]; rfl
theorem srt_asc (H : List Int) : (H.map PyData.int).mergeSort dLe = (asc H).map PyData.int := by
  refine sort_is' (fun a ha b hb e => ?_) ((asc_perm H).symm.map _) ?_
  · obtain ⟨x, _, rfl⟩ := List.mem_map.mp ha
    obtain ⟨y, _, rfl⟩ := List.mem_map.mp hb
    simp [W.keyToks] at e
    rw [e]
  · rw [List.pairwise_map]
    exact (asc_le H).imp fun h => by rw [dLe_int]; exact decide_eq_true h
theorem srtK_ints (H : List Int) : SrtK (H.map PyData.int) := by
  refine ⟨fun x hx y hy => ?_, .inr fun d hd => ?_, fun x hx => ?_⟩
  · obtain ⟨x, _, rfl⟩ := List.mem_map.mp hx
    obtain ⟨y, _, rfl⟩ := List.mem_map.mp hy
    simp [W.alike]
  · obtain ⟨x, _, rfl⟩ := List.mem_map.mp hd
    exact ⟨nofun, nofun⟩
  · obtain ⟨x, _, rfl⟩ := List.mem_map.mp hx
    simp [PyData.depth]
theorem srt_iD {α : Type} (f : α → D) (st : List (Int × α)) : srtK_ (iD f st) = ok ((asc (st.map (·.1))).map PyData.int) := by
  have e : ((iD f st).map fun kv => kD kv.1) = (st.map (·.1)).map PyData.int := by unfold iD; rw [List.map_map, List.map_map]; rfl
  unfold srtK_
  rw [e, bd_req (srtK_ints _), srt_asc]
theorem asc_lt {H : List Int} (h : H.Nodup) : (asc H).Pairwise (· < ·) := by
  have h1 := asc_le H
  have h2 : (asc H).Nodup := (asc_perm H).nodup_iff.mpr h
  exact (h1.and h2).imp fun ⟨a, b⟩ => by omega
/-- two ascending rows of the same things -/
theorem asc_uniq {a b : List Int} (ha : a.Pairwise (· < ·)) (hb : b.Pairwise (· < ·)) (h : ∀ x, x ∈ a ↔ x ∈ b) : a = b :=
  srt_uniq ((List.perm_ext_iff_of_nodup (ha.imp fun h => by omega) (hb.imp fun h => by omega)).mpr h) (ha.imp fun h => by omega) (hb.imp fun h => by omega)
def told (n s : Int) (ks : List Int) : List Int := ((asc ks).filter fun m => decide (0 ≤ m + s) && decide ((m + s) % n = 0)).map fun m => (m + s) / n
theorem told_mem {n s : Int} (hn : 1 ≤ n) {ks : List Int} {w : Int} : w ∈ told n s ks ↔ 0 ≤ w ∧ (n * w - s) ∈ ks := by
  unfold told
  rw [List.mem_map]
  constructor
  · rintro ⟨m, hm, rfl⟩
    obtain ⟨h1, h2⟩ := List.mem_filter.mp hm
    rw [Bool.and_eq_true, decide_eq_true_eq, decide_eq_true_eq] at h2
    have e : n * ((m + s) / n) = m + s := by
      have := Int.mul_ediv_add_emod (m + s) n
      omega
    refine ⟨Int.ediv_nonneg h2.1 (by omega), ?_⟩
    rw [e, show m + s - s = m by omega]
    exact (asc_perm ks).mem_iff.mp h1
  · rintro ⟨h0, hk⟩
    refine ⟨n * w - s, List.mem_filter.mpr ⟨(asc_perm ks).mem_iff.mpr hk, ?_⟩, ?_⟩
    · rw [show n * w - s + s = n * w by omega, Bool.and_eq_true, decide_eq_true_eq, decide_eq_true_eq]
      exact ⟨Int.mul_nonneg (by omega) h0, Int.mul_emod_right n w⟩
    · show (n * w - s + s) / n = w
      rw [show n * w - s + s = n * w by omega]
      exact Int.mul_ediv_cancel_left w (by omega)
theorem told_lt {n s : Int} (hn : 1 ≤ n) {ks : List Int} (h : ks.Nodup) : (told n s ks).Pairwise (· < ·) := by
  unfold told
  rw [List.pairwise_map]
  refine List.Pairwise.imp_of_mem (fun {a b} ha hb hab => ?_) ((asc_lt h).sublist List.filter_sublist)
  obtain ⟨_, h1⟩ := List.mem_filter.mp ha
  obtain ⟨_, h2⟩ := List.mem_filter.mp hb
  rw [Bool.and_eq_true, decide_eq_true_eq, decide_eq_true_eq] at h1 h2
  have e1 : n * ((a + s) / n) = a + s := by have := Int.mul_ediv_add_emod (a + s) n; omega
  have e2 : n * ((b + s) / n) = b + s := by have := Int.mul_ediv_add_emod (b + s) n; omega
  have : n * ((a + s) / n) < n * ((b + s) / n) := by omega
  exact Int.lt_of_mul_lt_mul_left this (by omega)
def tD (o : Option Ent) : D := match o with
  | none => .none
  | some e => tu nI e.1
def cN (o : Option Ent) : Nat := match o with
  | none => 0
  | some e => e.2
def tB : List Sl → R Out := (seqM (setM 3 (m2 (nDR 2) (m2 (nDR 0) (kR (.int 1)) ixR) addR))
 (ifV (andT (m1 (m2 (nDR 3) (kR (.int 0)) geR) asB) (m1 (m2 (m2 (nDR 3) (m2 (nDR 0) (kR (.int 0)) ixR) fmodR) (kR (.int 0)) eqR) asB)) (mutM 1 (consR (m2 (nDR 3) (m2 (nDR 0) (kR (.int 0)) ixR) fdivR) nilR) appR) nilM))
section
variable {n s : Int} {rs : List Int} {most : Nat} {st : List (Int × Ent)}
theorem q_moment (hn : 1 ≤ n ∧ n ≤ 50) (w : Int) : m_moment_for [Y n s rs most, .int w] = ok (.int (n * w - s)) := by
  show bd (g_moment_for [.dat (Y n s rs most), .dat (.int w)]) endM = _
  have i0 : ixR (Y n s rs most) (.int 0) = ok (.int n) := ixt0 _ _
  have i1 : ixR (Y n s rs most) (.int 1) = ok (.int s) := ixt1 _ _ _
  unfold g_moment_for
  simp only [retM_e, m2_e, nDR_s, nDR_0, kR_e, bd_ok, i0, i1, mul_w (i := n) (show n.natAbs ≤ 1000000 by omega), subR_int, endM_rt]
theorem start2 (hn : 1 ≤ n ∧ n ≤ 50) (hw : m_ways_by_moment [Y n s rs most] = ok (iD cD st)) (w : Int) : setsM [2, 3] (consR (rOD (m1 (consR (nDR 0) nilR) (callRD 1 m_ways_by_moment))) (consR (rD (m1 (consR (nDR 0) (consR (nDR 1) nilR)) (callR 2 m_moment_for))) nilR)) [.dat (Y n s rs most), .dat (.int w), .un, .un] = ok (.nx [.dat (Y n s rs most), .dat (.int w), .od (iD cD st), .dat (.int (n * w - s))]) := by
  simp only [setsM, consR_e, nilR_e, rD, rOD, m1_e, nDR_s, nDR_0, bd_ok, callRD_1, hw, callR_2, q_moment hn]
  rfl
theorem q_tells (hn : 1 ≤ n ∧ n ≤ 50) (hw : m_ways_by_moment [Y n s rs most] = ok (iD cD st)) (w : Int) : m_tells [Y n s rs most, .int w] = ok (tD (valI st (n * w - s))) := by
  show bd (g_tells [.dat (Y n s rs most), .dat (.int w), .un, .un]) endM = _
  unfold g_tells
  rw [seqM_e, start2 hn hw, bd_ok, nxt_nx, retM_e, ifV_e, m1_e, inDM_e]
  simp only [nDR_s, nDR_0, bd_ok, keyR_int, getOD_s, getOD_0, val_iD, asB_bool]
  cases hv : valI st (n * w - s) with
  | none => rfl
  | some e =>
    simp only [Option.map_some, Option.isSome_some, if_true]
    rw [m2_e, ixdM_d (ds := iD cD st) rfl rfl rfl (show valG (iD cD st) (.inl (n * w - s)) = some (cD e) by rw [val_iD, hv]; rfl)]
    simp only [kR_e, bd_ok, show ixR (cD e) (.int 0) = ok (tu nI e.1) from ixt0 _ _, endM_rt]
    rfl
theorem q_ways_to (hn : 1 ≤ n ∧ n ≤ 50) (hw : m_ways_by_moment [Y n s rs most] = ok (iD cD st)) (w : Int) : m_ways_to_tell [Y n s rs most, .int w] = ok (nI (cN (valI st (n * w - s)))) := by
  show bd (g_ways_to_tell [.dat (Y n s rs most), .dat (.int w), .un, .un]) endM = _
  unfold g_ways_to_tell
  rw [seqM_e, start2 hn hw, bd_ok, nxt_nx, retM_e, ifV_e, m1_e, inDM_e]
  simp only [nDR_s, nDR_0, bd_ok, keyR_int, getOD_s, getOD_0, val_iD, asB_bool]
  cases hv : valI st (n * w - s) with
  | none => rfl
  | some e =>
    simp only [Option.map_some, Option.isSome_some, if_true]
    rw [m2_e, ixdM_d (ds := iD cD st) rfl rfl rfl (show valG (iD cD st) (.inl (n * w - s)) = some (cD e) by rw [val_iD, hv]; rfl)]
    simp only [kR_e, bd_ok, show ixR (cD e) (.int 1) = ok (nI e.2) from ixt1 _ _ _, endM_rt]
    rfl
theorem q_told (hn : 1 ≤ n ∧ n ≤ 50) (hw : m_ways_by_moment [Y n s rs most] = ok (iD cD st)) (hl : st.length ≤ 100000) : m_told_weights [Y n s rs most] = ok (tI (told n s (st.map (·.1)))) := by
  have l0 : lstR ([] : List D) = ok [] := lst_n (by simp)
  have i0 : ixR (Y n s rs most) (.int 0) = ok (.int n) := ixt0 _ _
  have i1 : ixR (Y n s rs most) (.int 1) = ok (.int s) := ixt1 _ _ _
  have dv : divOk n := ⟨by omega, .inl (by omega)⟩
  show bd (g_told_weights [.dat (Y n s rs most), .un, .un, .un]) endM = _
  unfold g_told_weights
  rw [seqM_e, setO_e, m1_e, nilR_e, bd_ok, l0]
  simp only [bd_ok, set_s, set_0, nxt_nx]
  let J : List Int → List Sl → Prop := fun dn ρ => ∃ w2 w3, ρ = [.dat (Y n s rs most), .own (((dn.filter fun m => decide (0 ≤ m + s) && decide ((m + s) % n = 0)).map fun m => (m + s) / n).map PyData.int), w2, w3]
  obtain ⟨ρ', e, w2, w3, rfl⟩ := forF_J (f := PyData.int) (g := gSet 2) (tb := tB) J (asc (st.map (·.1))) [] [.dat (Y n s rs most), .own [], .un, .un] (fun dn m ρ ⟨rr, hdn⟩ ⟨u2, u3, hρ⟩ => by
    subst hρ
    rw [List.nil_append] at hdn
    have hlen : dn.length ≤ 100000 := by
      have h1 := congrArg List.length hdn
      have h2 := (asc_perm (st.map (·.1))).length_eq
      rw [List.length_map] at h2
      simp at h1; omega
    have hfl := List.length_filter_le (fun m => decide (0 ≤ m + s) && decide ((m + s) % n = 0)) dn
    refine ⟨_, ?_, .dat (.int m), .dat (.int (m + s)), rfl⟩
    rw [gSet_e, bd_ok]
    simp only [set_s, set_0]
    unfold tB
    rw [seqM_e, setM_e]
    simp only [m2_e, nDR_s, nDR_0, kR_e, bd_ok, i1, addR_int, set_s, set_0, nxt_nx]
    rw [ifV_e, andT_e]
    have hfm : fmodR (.int (m + s)) (.int n) = ok (.int ((m + s) % n)) := by
      rw [fmodR_int (by omega), Int.fmod_eq_emod_of_nonneg _ (by omega)]
    have hfd : fdivR (.int (m + s)) (.int n) = ok (.int ((m + s) / n)) := by
      rw [fdivR_int dv, Int.fdiv_eq_ediv_of_nonneg _ (by omega)]
    simp only [m1_e, m2_e, nDR_s, nDR_0, kR_e, bd_ok, i0, geR_int, hfm, eqR_int, asB_bool]
    rw [List.filter_append]
    by_cases c1 : 0 ≤ m + s
    · by_cases c2 : (m + s) % n = 0
      · have hf : [m].filter (fun m => decide (0 ≤ m + s) && decide ((m + s) % n = 0)) = [m] := by simp [c1, c2]
        rw [decide_eq_true (show 0 ≤ m + s from c1), if_pos rfl, bd_ok, decide_eq_true c2, if_pos rfl, hf]
        simp only [mutM_e, getO_s, getO_0, bd_ok, m2_e, consR_e, nilR_e, nDR_s, nDR_0, kR_e, i0, hfd]
        rw [app_n (by rw [List.length_map, List.length_map]; omega), bd_ok, List.map_append, List.map_append]
        rfl
      · have hf : [m].filter (fun m => decide (0 ≤ m + s) && decide ((m + s) % n = 0)) = [] := by simp [c2]
        rw [decide_eq_true (show 0 ≤ m + s from c1), if_pos rfl, bd_ok, decide_eq_false c2, if_neg (by simp), hf, nilM_e, List.append_nil]
    · have hf : [m].filter (fun m => decide (0 ≤ m + s) && decide ((m + s) % n = 0)) = [] := by simp [c1]
      rw [decide_eq_false (show ¬ 0 ≤ m + s from c1), if_neg (by simp), bd_ok, if_neg (by simp), hf, nilM_e, List.append_nil]) ⟨.un, .un, rfl⟩
  rw [seqM_e, forM_e, itR_list (l := (asc (st.map (·.1))).map PyData.int) (by
    rw [frz_e]
    show bd (bd (m1 _ _ _) srtK_) _ = _
    simp only [m1_e, consR_e, nilR_e, nDR_0, bd_ok, callRD_1, hw, srt_iD]), bd_ok]
  show bd (bd (forF _ tB _ _) _) _ = _
  rw [e, bd_ok, nxt_nx, retM_e, m1_e, consR_e]
  simp only [nBR_s, nBR_0o, bd_ok, nilR_e, List.nil_append]
  rfl
end
end K51

namespace K51
open PySem PySem.Spec PyProof.Rows L2 Pu
/-! ### ratios -/
theorem q_divisor (a b : Int) : m_divisor_of [.int a, .int b] = ok (nI (Int.gcd a b)) := by
  show bd (g_divisor_of [.dat (.int a), .dat (.int b)]) endM = _
  have h0 : setsM [0, 1] (consR (rD (m1 (consR (nDR 0) nilR) absR)) (consR (rD (m1 (consR (nDR 1) nilR) absR)) nilR)) [.dat (.int a), .dat (.int b)] = ok (.nx [.dat (nI a.natAbs), .dat (nI b.natAbs)]) := by
    simp only [setsM, consR_e, nilR_e, rD, m1_e, nDR_s, nDR_0, bd_ok, absR_int]; rfl
  rw [g_divisor_of, seqM_e, h0, bd_ok, nxt_nx, seqM_e, gcd_while, bd_ok, nxt_nx, retM_e, nDR_0, bd_ok]
  rfl
abbrev S30 (i : Int) : Prop := i.natAbs < 1073741824
theorem gcd_s30 {p k : Int} (h : S30 k) (h0 : k ≠ 0) : (Int.gcd p k : Nat) < 1073741824 := by
  have : (Int.gcd p k : Nat) ∣ k.natAbs := Int.gcd_dvd_natAbs_right p k
  have := Nat.le_of_dvd (by omega) this
  have : k.natAbs < 1073741824 := h
  omega
theorem q_lowest {p k : Int} (hk : k ≠ 0) (hb : S30 k) : m_lowest [.int p, .int k] = ok (rd (Rt.q p k)) := by
  show bd (g_lowest [.dat (.int p), .dat (.int k), .un]) endM = _
  have hg := Rt.gcd_pos (p := p) (k := k) hk
  have hgb := gcd_s30 (p := p) hb hk
  rw [g_lowest, seqM_e, setM_e, ifV_e]
  by_cases h : 0 < k
  · have dv : divOk (Int.gcd p k : Int) := ⟨by omega, .inl (by simpa using hgb)⟩
    simp only [m1_e, m2_e, consR_e, nilR_e, nDR_s, nDR_0, kR_e, bd_ok, gtR_int, asB_bool, h, decide_true, if_true, callR_2, q_divisor, nI, set_s, set_0, nxt_nx, retM_e]
    rw [fdivR_int dv, bd_ok, fdivR_int dv, bd_ok, bd_ok, bd_ok, tup2, bd_ok, Rt.num_pos h, Rt.den_pos h]
    rfl
  · have dv : divOk (-(Int.gcd p k : Int)) := ⟨by omega, .inl (by simpa using hgb)⟩
    simp only [m1_e, m2_e, consR_e, nilR_e, nDR_s, nDR_0, kR_e, bd_ok, gtR_int, asB_bool, h, decide_false, Bool.false_eq_true, if_false, callR_2, q_divisor, nI, negR_int, set_s, set_0, nxt_nx, retM_e]
    rw [fdivR_int dv, bd_ok, fdivR_int dv, bd_ok, bd_ok, bd_ok, tup2, bd_ok, Rt.num_neg (by omega), Rt.den_neg (by omega)]
    rfl
theorem bt_s {i : Int} (h : S30 i) : Bt 8999 i := Nat.lt_of_lt_of_le (show i.natAbs < 2 ^ 30 from h) (Nat.pow_le_pow_right (by omega) (by omega))
theorem gcd_w : ∀ (b a : Nat), Bt 8999 a → Bt 8999 b → whileM (m1 (m2 (nDR 1) (kR (.int 0)) gtR) asB) (setsM [0, 1] (consR (rD (nDR 1)) (consR (rD (m2 (nDR 0) (m2 (m2 (nDR 0) (nDR 1) fdivR) (nDR 1) mulR) subR)) nilR))) [.dat (nI a), .dat (nI b)] = ok (.nx [.dat (nI (Nat.gcd a b)), .dat (nI 0)]) := by
  intro b
  induction b using Nat.strongRecOn with
  | _ b ih =>
    intro a ha hb
    by_cases h : b = 0
    · subst h
      rw [whileM_stop (by simp only [m1_e, m2_e, nDR_s, nDR_0, bd_ok, kR_e, nI, gtR_int, asB_bool]; rfl), Nat.gcd_zero_right]
    · have hs : setsM [0, 1] (consR (rD (nDR 1)) (consR (rD (m2 (nDR 0) (m2 (m2 (nDR 0) (nDR 1) fdivR) (nDR 1) mulR) subR)) nilR)) [.dat (nI a), .dat (nI b)] = ok (.nx [.dat (nI b), .dat (nI (a % b))]) := by
        simp only [setsM, consR_e, nilR_e, rD, m2_e, nDR_s, nDR_0, bd_ok]
        unfold nI
        rw [div_b (by omega) hb, bd_ok, Pu.mul_w (Bt.mono (B := 8999) (by
          unfold Bt at *
          rw [Int.fdiv_eq_ediv_of_nonneg _ (by omega)]
          have := Nat.div_le_self a b
          rw [show (a : Int) / (b : Int) = ((a / b : Nat) : Int) from rfl]
          simp only [Int.natAbs_natCast] at *; omega) (by omega)) (hb.mono (by omega)), bd_ok, subR_int, bd_ok, bd_ok]
        have e : (a : Int) - (a : Int).fdiv b * b = ((a % b : Nat) : Int) := by
          rw [Int.fdiv_eq_ediv_of_nonneg _ (by omega)]
          have := Int.mul_ediv_add_emod (a : Int) b
          have : (a : Int) % (b : Int) = ((a % b : Nat) : Int) := rfl
          grind
        rw [e]
        rfl
      rw [whileM_step (by simp only [m1_e, m2_e, nDR_s, nDR_0, bd_ok, kR_e, nI, gtR_int, asB_bool]; congr 1; simp; omega) hs]
      rw [ih (a % b) (Nat.mod_lt _ (by omega)) b hb (by
        unfold Bt at *
        have := Nat.mod_le a b
        simp only [Int.natAbs_natCast] at *; omega)]
      rw [Nat.gcd_comm b, ← Nat.gcd_rec b a, Nat.gcd_comm]
theorem q_law_divisor {a b : Int} (ha : S30 a) (hb : S30 b) : m_law_divisor [.int a, .int b] = ok (nI (Int.gcd a b)) := by
  show bd (g_law_divisor [.dat (.int a), .dat (.int b)]) endM = _
  have h0 : setsM [0, 1] (consR (rD (m1 (consR (nDR 0) nilR) absR)) (consR (rD (m1 (consR (nDR 1) nilR) absR)) nilR)) [.dat (.int a), .dat (.int b)] = ok (.nx [.dat (nI a.natAbs), .dat (nI b.natAbs)]) := by
    simp only [setsM, consR_e, nilR_e, rD, m1_e, nDR_s, nDR_0, bd_ok, absR_int]; rfl
  have ha' := bt_s ha
  have hb' := bt_s hb
  rw [g_law_divisor, seqM_e, h0, bd_ok, nxt_nx, seqM_e, gcd_w _ _ (by unfold Bt at *; rw [Int.natAbs_natCast]; exact ha') (by unfold Bt at *; rw [Int.natAbs_natCast]; exact hb'), bd_ok, nxt_nx, retM_e, nDR_0, bd_ok]
  rfl
theorem q_neg (p k : Int) : Rt.q (-p) (-k) = Rt.q p k := by
  unfold Rt.q
  rw [Rat.intCast_neg, Rat.intCast_neg]
  grind
theorem q_law_ratio {p k : Int} (hk : k ≠ 0) (hp : S30 p) (hb : S30 k) : m_law_ratio [.int p, .int k] = ok (rd (Rt.q p k)) := by
  have pos : ∀ p k : Int, 0 < k → S30 p → S30 k → bd (seqM (setM 2 (m1 (consR (nDR 0) (consR (nDR 1) nilR)) (callR 2 m_law_divisor))) (retM (m1 (consR (m2 (nDR 0) (nDR 2) fdivR) (consR (m2 (nDR 1) (nDR 2) fdivR) nilR)) tupR)) [.dat (.int p), .dat (.int k), .un]) endM = ok (rd (Rt.q p k)) := fun p k h hp hb => by
    have hg := Rt.gcd_pos (p := p) (k := k) (by omega)
    have hgb := gcd_s30 (p := p) hb (by omega)
    have dv : divOk (Int.gcd p k : Int) := ⟨by omega, .inl (by simpa using hgb)⟩
    simp only [seqM_e, setM_e, m1_e, m2_e, consR_e, nilR_e, nDR_s, nDR_0, bd_ok, callR_2, q_law_divisor hp hb, nI, set_s, set_0, nxt_nx, retM_e]
    rw [fdivR_int dv, bd_ok, fdivR_int dv, bd_ok, bd_ok, bd_ok, tup2, bd_ok, Rt.num_pos h, Rt.den_pos h]
    rfl
  show bd (g_law_ratio [.dat (.int p), .dat (.int k), .un]) endM = _
  rw [g_law_ratio, seqM_e, ifV_e]
  simp only [m1_e (h := asB), m2_e (h := ltR), nDR_s, nDR_0, kR_e, bd_ok, ltR_int, asB_bool]
  by_cases h : k < 0
  · simp only [h, decide_true, if_true]
    have h0 : setsM [0, 1] (consR (rD (m1 (nDR 0) negR)) (consR (rD (m1 (nDR 1) negR)) nilR)) [.dat (.int p), .dat (.int k), .un] = ok (.nx [.dat (.int (-p)), .dat (.int (-k)), .un]) := by
      simp only [setsM, consR_e, nilR_e, rD, m1_e, nDR_s, nDR_0, bd_ok, negR_int]; rfl
    rw [h0, bd_ok, nxt_nx, pos (-p) (-k) (by omega) (by show (-p).natAbs < _; rw [Int.natAbs_neg]; exact hp) (by show (-k).natAbs < _; rw [Int.natAbs_neg]; exact hb), q_neg]
  · simp only [h, decide_false, Bool.false_eq_true, if_false, nilM_e, bd_ok, nxt_nx]
    exact pos p k (by omega) hp hb
theorem den_pos (x : Rat) : (0 : Int) < (x.den : Int) := by have := x.den_pos; omega
theorem s30_mul {B C : Nat} (h : B + C ≤ 30) {i j : Int} (hi : Bt B i) (hj : Bt C j) : S30 (i * j) := (hi.mul hj).mono h
theorem mul_s {i j : Int} (hi : Bt 60 i) : mulR (.int i) (.int j) = ok (.int (i * j)) := mulR_int (.inl (by
  unfold Bt at hi
  constructor <;> omega))
theorem q_law_mul {x y : Rat} (hx : Sz 15 x) (hy : Sz 15 y) : m_law_mul [rd x, rd y] = ok (rd (x * y)) := by
  show bd (g_law_mul [.dat (rd x), .dat (rd y)]) endM = _
  have d1 := den_pos x
  have d2 := den_pos y
  rw [g_law_mul, retM_e]
  simp only [m1_e, m2_e, consR_e, nilR_e, nDR_s, nDR_0, kR_e, bd_ok, ix_rd0, ix_rd1, mul_s (hx.n.mono (by decide)), mul_s (hx.d.mono (by decide)), callR_2, endM_rt]
  rw [q_law_ratio (Int.ne_of_gt (Int.mul_pos d1 d2)) (s30_mul (by decide) hx.n hy.n) (s30_mul (by decide) hx.d hy.d), bd_ok, bd_ok, endM_rt, Rt.prod]
end K51

namespace K51
open PySem PySem.Spec PyProof.Rows L2 Pu
/-! ### one thing is the same as itself -/
def Pl : Nat → D → Prop
  | _, .none => True
  | _, .bool _ => True
  | _, .int _ => True
  | _, .str _ => True
  | n + 1, .tuple ds => ds.length < sizeLine ∧ ∀ x ∈ ds, Pl n x
  | _, _ => False
theorem eqR_strS (a b : Str) : eqR (.str a) (.str b) = ok (.bool (PyData.eqv (.str a) (.str b))) := by
  rw [eqR, bd_req (Nat.le_trans (Nat.min_le_left _ _) (by simp [PyData.depth]))]
theorem q_same : ∀ (n : Nat) (d : D), Pl n d → m_law_same (n + 1) [d, d] = ok (.bool true) := by
  intro n
  induction n with
  | zero =>
    intro d h
    show bd (g_law_same (m_law_same 0) [.dat d, .dat d, .un]) endM = _
    cases d with
    | none => simp [g_law_same, isiR, Pu.isTup, Pu.isLst, Pu.isBoo, Pu.isInt, Pu.isStr, isR, isV, Pu.isNon]
    | bool b => simp [g_law_same, isiR, Pu.isTup, Pu.isLst, Pu.isBoo, Pu.isInt, Pu.isStr, eqR_bool]
    | int i => simp [g_law_same, isiR, Pu.isTup, Pu.isLst, Pu.isBoo, Pu.isInt, Pu.isStr]
    | str s => simp [g_law_same, isiR, Pu.isTup, Pu.isLst, Pu.isBoo, Pu.isInt, Pu.isStr, eqR_strS, PyData.eqv]
    | list xs => exact h.elim
    | dict xs => exact h.elim
    | tuple ds => exact h.elim
  | succ n ih =>
    intro d h
    show bd (g_law_same (m_law_same (n + 1)) [.dat d, .dat d, .un]) endM = _
    cases d with
    | none => simp [g_law_same, isiR, Pu.isTup, Pu.isLst, Pu.isBoo, Pu.isInt, Pu.isStr, isR, isV, Pu.isNon]
    | bool b => simp [g_law_same, isiR, Pu.isTup, Pu.isLst, Pu.isBoo, Pu.isInt, Pu.isStr, eqR_bool]
    | int i => simp [g_law_same, isiR, Pu.isTup, Pu.isLst, Pu.isBoo, Pu.isInt, Pu.isStr]
    | str s => simp [g_law_same, isiR, Pu.isTup, Pu.isLst, Pu.isBoo, Pu.isInt, Pu.isStr, eqR_strS, PyData.eqv]
    | list xs => exact h.elim
    | dict xs => exact h.elim
    | tuple ds =>
      obtain ⟨hl, hx⟩ := h
      have hc : lcM [2] (m1 (consR (m1 (consR (nDR 0) nilR) lenR) nilR) range1R) (gSet 2) yesT (m1 (consR (m2 (nDR 0) (nDR 2) ixR) (consR (m2 (nDR 1) (nDR 2) ixR) nilR)) (callR 2 (m_law_same (n + 1)))) [.dat (.tuple ds), .dat (.tuple ds), .un] = ok ((List.range ds.length).map fun _ => .bool true) := by
        refine lcM_map (f := nI) ?_ fun k hk => ?_
        · have := range1_e (n := (ds.length : Int)) (by omega) (by omega)
          simp at this
          simp [this]
        · have hk' : k < ds.length := by simpa using hk
          have h1 : ixR (.tuple ds) (nI k) = ok ds[k] := ixR_at (Pu.atI_nat hk')
          simp [wipeS, h1, ih _ (hx _ (List.getElem_mem hk'))]
      have ha : Pu.allR [.list ((List.range ds.length).map fun _ => .bool true)] = ok (.bool ((List.range ds.length).all fun _ => true)) := allR_bools (p := fun _ => true)
      have ha2 : ((List.range ds.length).all fun _ => true) = true := by simp
      rw [ha2] at ha
      simp only [g_law_same, seqM_e, ifV_e, orT_e, andT_e, retM_e, andV_e, m1_e, m2_e, consR_e, nilR_e, nDR_s, nDR_0, bd_ok, isiR, Pu.isTup, truR_bool, if_true, lenR_tuple, eqR_int, decide_true, frz_e, hc, ha, nxt_rt, endM_rt]

theorem pl_int (n : Nat) (i : Int) : Pl n (.int i) := by cases n <;> trivial
theorem pl_str (n : Nat) (i : Str) : Pl n (.str i) := by cases n <;> trivial
theorem pl_none (n : Nat) : Pl n .none := by cases n <;> trivial
theorem pl_bool (n : Nat) (b : Bool) : Pl n (.bool b) := by cases n <;> trivial
theorem pl_tup {n : Nat} {l : List D} (h : l.length ≤ 1000) (hx : ∀ x ∈ l, Pl n x) : Pl (n + 1) (.tuple l) := ⟨Nat.lt_of_le_of_lt h (by decide), hx⟩
theorem pl_tu {n : Nat} {α : Type} {f : α → D} {l : List α} (h : l.length ≤ 1000) (hx : ∀ x ∈ l, Pl n (f x)) : Pl (n + 1) (tu f l) := pl_tup (by simpa using h) (fun x hx' => by
  obtain ⟨y, hy, rfl⟩ := List.mem_map.mp hx'
  exact hx y hy)
theorem pl_rd (n : Nat) (x : Rat) : Pl (n + 1) (rd x) := pl_tup (by simp) (fun y hy => by
  simp at hy; rcases hy with rfl | rfl <;> exact pl_int _ _)
theorem same_ok {d : D} (h : Pl 19 d) : m_law_same 20 [d, d] = ok (.bool true) := q_same 19 d h
end K51

namespace K51
open PySem PySem.Spec PyProof.Rows L2 Pu
/-! ### a value with one thing changed: small data again -/
abbrev Go (n : Nat) (d : D) : Prop := Gd 31 1002 n d
theorem vb_gd : ∀ {n : Nat} {d : D}, Vb n d → Go n d := by
  intro n
  induction n with
  | zero => intro d h; cases d <;> first | exact h.elim | exact gd_none | exact gd_int.mpr (Nat.lt_of_lt_of_le h (by decide))
  | succ n ih =>
    intro d h
    cases d with
    | int i => exact gd_int.mpr (Nat.lt_of_lt_of_le h (by decide))
    | none => exact gd_none
    | tuple ds => exact ⟨Nat.le_trans h.1 (by decide), fun x hx => ih (h.2 x hx)⟩
    | _ => exact h.elim
theorem go_up {n : Nat} {d : D} (h : Go n d) : Go (n + 1) d := h.mono (Nat.le_refl _) (Nat.le_refl _) (Nat.le_succ _)
theorem go_t {n : Nat} {l : List D} (hl : l.length ≤ 1002) (h : ∀ x ∈ l, Go n x) : Go (n + 1) (.tuple l) := ⟨hl, h⟩
theorem go_app {n : Nat} {x y : List D} (hl : x.length ≤ 500) (kl : y.length ≤ 502) (h : ∀ z ∈ x, Go n z) (k : ∀ z ∈ y, Go n z) : Go (n + 1) (.tuple (x ++ y)) := go_t (by rw [List.length_append]; omega) fun z hz => by
  rcases List.mem_append.mp hz with hz | hz
  · exact h z hz
  · exact k z hz
theorem go_i {n : Nat} {i : Int} (h : i.natAbs < 2 ^ 31) : Go n (.int i) := gd_int.mpr h
theorem bent_tail {n k : Nat} {l : List D} (hl : l.length ≤ 500) (hg : ∀ x ∈ l, Go n x) {post : D → Prop} (hp : ∀ d, Go (n + 2) d → post d) : bd (((seqM (setM 2 (callX 0 2 1 (consR (kR (.int 8)) nilR) m_law_draw))
 (seqM (ifV (m1 (m1 (nDR 1) (isiR isTup)) truR) (retM (m2 (frz (m1 (consR (m2 (nDR 1) (m3 (nDR 1) noR (m1 (kR (.int 1)) asI) slR) addR) (consR (m3 (nDR 1) (m1 (kR (.int 1)) asI) noR slR) (consR (m1 (nDR 1) revR) (consR (m2 (nDR 1) (m1 (consR (kR (.int 0)) nilR) tupR) addR) (consR (m1 (consR (nDR 1) nilR) tupR) (consR (m3 (nDR 1) noR (m1 (m1 (kR (.int 1)) negR) asI) slR) (consR (kR .none) (consR (m2 (nDR 1) (m1 (consR (m1 (consR (kR (.int 0)) (consR (kR (.int 1)) nilR)) tupR) nilR) tupR) addR) nilR)))))))) lstR)) (nDR 2) ixR)) nilM)
 (seqM (ifV (andT (m1 (m1 (nDR 1) (isiR isInt)) truR) (notT (m1 (m1 (nDR 1) (isiR isBoo)) truR))) (retM (m2 (frz (m1 (consR (m2 (nDR 1) (kR (.int 1)) addR) (consR (m2 (nDR 1) (kR (.int 1)) subR) (consR (kR (.int 0)) (consR (m2 (nDR 1) (kR (.int 1)) eqR) (consR (kR .none) (consR (m1 (consR (nDR 1) nilR) strR) (consR (m1 (consR (nDR 1) nilR) tupR) (consR (m2 (nDR 1) (kR (.int 2)) addR) nilR)))))))) lstR)) (nDR 2) ixR)) nilM)
 (seqM (ifV (m1 (m1 (nDR 1) (isiR isStr)) truR) (retM (m2 (frz (m1 (consR (m2 (nDR 1) (kR (.str "s")) addR) (consR (m3 (nDR 1) (m1 (kR (.int 1)) asI) noR slR) (consR (kR (.str "rod")) (consR (kR (.str "hook")) (consR (kR (.int 0)) (consR (kR .none) (consR (kR (.str "")) (consR (kR (.str "rope")) nilR)))))))) lstR)) (nDR 2) ixR)) nilM)
 (retM (m2 (frz (m1 (consR (kR (.int 0)) (consR (kR (.int 1)) (consR (kR .none) (consR (kR (.bool true)) (consR (kR (.str "a")) (consR (m1 nilR tupR) (consR (m1 (consR (kR (.int 0)) nilR) tupR) (consR (kR (.str "point")) nilR)))))))) lstR)) (nDR 2) ixR))))))) [.box 2, .dat (.tuple l), .un, .un]) endM post := by
  rw [seqM_e, setM_e]
  simp only [bd_bd]
  refine drwB (getX_0 _ _) rfl (by decide) (by decide) fun d hd => ?_
  have hc : ∀ a b : Option Int, (cutG l a b).length ≤ l.length := fun a b => cutG_len l a b
  have hm : ∀ (a b : Option Int), ∀ x ∈ cutG l a b, Go (n + 1) x := fun a b x hx => go_up (hg x (cutG_mem hx))
  have hg' : ∀ x ∈ l, Go (n + 1) x := fun x hx => go_up (hg x hx)
  have sl1 : ∀ a b : Option Int, slR (.tuple l) a b = ok (.tuple (cutG l a b)) := fun a b => rfl
  have rv : revR (.tuple l) = ok (.tuple l.reverse) := rfl
  have t1 : ∀ x : D, tupR [x] = ok (.tuple [x]) := fun x => tup_n (by simp)
  have t2 : ∀ x y : D, tupR [x, y] = ok (.tuple [x, y]) := fun x y => tup_n (by simp)
  have l8 : ∀ a b c d e f g h : D, lstR [a, b, c, d, e, f, g, h] = ok [a, b, c, d, e, f, g, h] := fun _ _ _ _ _ _ _ _ => lst_n (by simp)
  have a1 : ∀ a b : Option Int, addR (.tuple l) (.tuple (cutG l a b)) = ok (.tuple (l ++ cutG l a b)) := fun a b => addT_n (by have := hc a b; omega)
  have a3 : ∀ a b : Option Int, addR (.tuple (cutG l a b)) (.tuple l) = ok (.tuple (cutG l a b ++ l)) := fun a b => addT_n (by have := hc a b; omega)
  have a2 : ∀ x : D, addR (.tuple l) (.tuple [x]) = ok (.tuple (l ++ [x])) := fun x => addT_n (by simp; omega)
  have it : Pu.isTup (.tuple l) = true := rfl
  simp only [bd_ok, set_s, set_0, nxt_nx, seqM_e, ifV_e, m1_e, m2_e, m3_e, nDR_s, nDR_0, isiR, it, truR_bool, if_true, retM_e, frz_e, consR_e, nilR_e, kR_e, noR_e, asI_int, negR_int, sl1, rv, t1, t2, a1, a2, a3, l8, bd_bd]
  refine bd_ixd (by simpa using hd) fun x hx => ?_
  simp only [bd_ok, nxt_rt, endM_rt]
  refine hp x ?_
  simp only [List.mem_cons, List.not_mem_nil, or_false] at hx
  have o1 : ∀ d : D, Go (n + 1) d → ∀ z ∈ [d], Go (n + 1) z := fun d hd z hz => by
    rw [List.mem_singleton.mp hz]; exact hd
  have i0 : ∀ i : Int, i.natAbs < 2 ^ 31 → ∀ m, Go m (.int i) := fun i h m => go_i h
  have t01 : Go (n + 1) (.tuple [.int 0, .int 1]) := go_t (by simp) fun z hz => by
    simp at hz
    rcases hz with rfl | rfl
    · exact i0 _ (by decide) _
    · exact i0 _ (by decide) _
  have rl : (l.reverse).length ≤ 1002 := by rw [List.length_reverse]; omega
  rcases hx with rfl | rfl | rfl | rfl | rfl | rfl | rfl | rfl
  all_goals first
    | exact gd_none
    | exact go_app hl (Nat.le_trans (hc _ _) (by omega)) hg' (hm _ _)
    | exact go_app (Nat.le_trans (hc _ _) hl) (by omega) (hm _ _) hg'
    | exact go_app hl (by simp) hg' (o1 _ (i0 _ (by decide) _))
    | exact go_app hl (by simp) hg' (o1 _ t01)
    | exact go_t (Nat.le_trans (hc _ _) (by omega)) (hm _ _)
    | exact go_t rl fun z hz => hg' z (List.mem_reverse.mp hz)
    | exact go_t (by simp) (o1 _ (go_t (by omega) hg))
theorem bent_flat {d : D} {n : Nat} (hd : Pu.isTup d = false) (hi : ∀ i, d = .int i → i.natAbs < 2 ^ 30) (hs : ∀ s, d ≠ .str s) {post : D → Prop} (hp : ∀ d, Go 2 d → post d) : m_law_bent (n + 1) [d] post := by
  show bd (g_law_bent (m_law_bent n) [.box 2, .dat d, .un, .un]) endM post
  have l8 : ∀ a b c d e f g h : D, lstR [a, b, c, d, e, f, g, h] = ok [a, b, c, d, e, f, g, h] := fun _ _ _ _ _ _ _ _ => lst_n (by simp)
  have t0 : tupR [] = ok (.tuple []) := tup_n (by simp)
  have t1 : ∀ x : D, tupR [x] = ok (.tuple [x]) := fun x => tup_n (by simp)
  unfold g_law_bent
  rw [seqM_e, ifV_e, andT_e]
  simp only [m1_e, nDR_s, nDR_0, isiR, hd, truR_bool, bd_ok, Bool.false_eq_true, if_false, nilM_e, nxt_nx]
  rw [seqM_e, setM_e]
  simp only [bd_bd]
  refine drwB (getX_0 _ _) rfl (by decide) (by decide) fun k hk => ?_
  have o1 : ∀ d : D, Go 1 d → Go 2 (.tuple [d]) := fun d hd => go_t (by simp) fun z hz => by
    rw [List.mem_singleton.mp hz]; exact hd
  have te : Go 2 (.tuple []) := go_t (by simp) fun z hz => by cases hz
  cases d with
  | int i =>
    have hib := hi i rfl
    have hst := str_ok hib
    have it : Pu.isInt (.int i) = true := rfl
    have ib : Pu.isBoo (.int i) = false := rfl
    simp only [bd_ok, set_s, set_0, nxt_nx, seqM_e, ifV_e, andT_e, notT_e, m1_e, m2_e, nDR_s, nDR_0, isiR, hd, it, ib, truR_bool, Bool.false_eq_true, Bool.not_false, if_false, if_true, nilM_e, retM_e, frz_e, consR_e, nilR_e, kR_e, addR_int, subR_int, negR_int, eqR_int, hst, t1, l8, bd_bd]
    refine bd_ixd (by simpa using hk) fun x hx => ?_
    simp only [bd_ok, nxt_rt, endM_rt]
    refine hp x ?_
    simp only [List.mem_cons, List.not_mem_nil, or_false] at hx
    rcases hx with rfl | rfl | rfl | rfl | rfl | rfl | rfl | rfl
    all_goals first | exact gd_none | exact gd_bool | exact gd_str | exact go_i (by omega) | exact o1 _ (go_i (by omega))
  | str s => exact absurd rfl (hs s)
  | tuple l => exact Bool.noConfusion hd
  | _ =>
    simp only [bd_ok, set_s, set_0, nxt_nx, seqM_e, ifV_e, andT_e, m1_e, m2_e, nDR_s, nDR_0, isiR, hd, Pu.isInt, Pu.isBoo, Pu.isStr, truR_bool, Bool.false_eq_true, Bool.not_true, notT_e, if_false, if_true, nilM_e, retM_e, frz_e, consR_e, nilR_e, kR_e, negR_int, t0, t1, l8, bd_bd]
    refine bd_ixd (by simpa using hk) fun x hx => ?_
    simp only [bd_ok, nxt_rt, endM_rt]
    refine hp x ?_
    simp only [List.mem_cons, List.not_mem_nil, or_false] at hx
    rcases hx with rfl | rfl | rfl | rfl | rfl | rfl | rfl | rfl
    all_goals first | exact gd_none | exact gd_bool | exact gd_str | exact go_i (by decide) | exact te | exact o1 _ (go_i (by decide))
theorem q_bent : ∀ (n : Nat) (v : D) (f : Nat), Vb n v → n < f → ∀ (post : D → Prop), (∀ d, Go (n + 2) d → post d) → m_law_bent f [v] post := by
  intro n
  induction n with
  | zero =>
    intro v f hv hf post hp
    obtain ⟨f, rfl⟩ : ∃ k, f = k + 1 := ⟨f - 1, by omega⟩
    refine bent_flat ?_ ?_ ?_ hp
    · cases v <;> first | rfl | exact hv.elim
    · rintro i rfl; exact hv
    · rintro s rfl; exact hv.elim
  | succ n ih =>
    intro v f hv hf post hp
    obtain ⟨f, rfl⟩ : ∃ k, f = k + 1 := ⟨f - 1, by omega⟩
    have hp2 : ∀ d, Go 2 d → post d := fun d hd => hp d (hd.mono (Nat.le_refl _) (Nat.le_refl _) (by omega))
    cases v with
    | tuple l =>
      obtain ⟨hl, hx⟩ := hv
      have hgl : ∀ x ∈ l, Go n x := fun x h => vb_gd (hx x h)
      show bd (g_law_bent (m_law_bent f) [.box 2, .dat (.tuple l), .un, .un]) endM post
      have ht := fun post hp => bent_tail (n := n + 1) (k := f) (l := l) hl (fun x h => go_up (hgl x h)) (post := post) hp
      have it : Pu.isTup (.tuple l) = true := rfl
      unfold g_law_bent
      rw [seqM_e, ifV_e, andT_e]
      simp only [m1_e (h := truR), m1_e (h := isiR isTup), nDR_s, nDR_0, isiR, it, truR_bool, bd_ok, if_true]
      rw [andT_e]
      have hg : m1 (m2 (m1 (consR (nDR 1) nilR) lenR) (kR (.int 0)) gtR) asB [.box 2, .dat (.tuple l), .un, .un] = ok (decide (0 < l.length)) := by
        simp only [m1_e, m2_e, consR_e, nilR_e, kR_e, nDR_s, nDR_0, bd_ok, lenR_tuple, gtR_int, asB_bool]
        congr 1
        exact decide_eq_decide.mpr (by omega)
      rw [hg, bd_ok]
      by_cases h0 : 0 < l.length
      · rw [decide_eq_true h0, if_pos rfl, m1_e, m2_e]
        simp only [bd_bd]
        refine drwB (getX_0 _ _) rfl (by decide) (by decide) fun d hd => ?_
        simp only [kR_e, bd_ok, nI, gtR_int, asB_bool]
        by_cases hd : (0 : Int) < (d : Int)
        · rw [decide_eq_true hd, if_pos rfl, seqM_e, setM_e]
          simp only [bd_bd]
          refine drwB (n := (l.length : Int)) (getX_0 _ _) (by simp only [m1_e, consR_e, nilR_e, nDR_s, nDR_0, bd_ok, lenR_tuple]) (by omega) (by omega) fun k hk => ?_
          have hk : k < l.length := by omega
          simp only [bd_ok, set_s, set_0, nxt_nx]
          rw [retM_e, m2_e, m2_e, m3_e]
          have sl1 : ∀ a b : Option Int, slR (.tuple l) a b = ok (.tuple (cutG l a b)) := fun a b => rfl
          have ai : asI (nI k) = ok (some (k : Int)) := rfl
          simp only [nDR_s, nDR_0, bd_ok, noR_e, m1_e, ai, sl1, bd_bd]
          rw [consR_e, callX_e (j := 2) (n := 1) (ds := [l[k]]) (by simp only [consR_e, m2_e, nilR_e, nDR_s, nDR_0, bd_ok, ixt_n hk]) (getX_0 _ _) rfl]
          simp only [bd_bd]
          refine bd_i (ih l[k] f (hx _ (List.getElem_mem hk)) (by omega) _ fun y hy => ?_)
          have t1 : tupR [y] = ok (.tuple [y]) := tup_n (by simp)
          have c1 := cutG_len l none (some (k : Int))
          have c2 := cutG_len l (some ((k : Int) + 1)) none
          have e1 : addR (.tuple (cutG l none (some (k : Int)))) (.tuple [y]) = ok (.tuple (cutG l none (some (k : Int)) ++ [y])) := addT_n (by simp; omega)
          have e2 : addR (.tuple (cutG l none (some (k : Int)) ++ [y])) (.tuple (cutG l (some ((k : Int) + 1)) none)) = ok (.tuple (cutG l none (some (k : Int)) ++ [y] ++ cutG l (some ((k : Int) + 1)) none)) := addT_n (by simp; omega)
          have ad : addR (nI k) (.int 1) = ok (.int ((k : Int) + 1)) := rfl
          simp only [nilR_e, bd_ok, t1, e1, m3_e, nDR_s, nDR_0, m1_e, m2_e, kR_e, ad, asI_int, noR_e, sl1, e2, nxt_rt, endM_rt]
          refine hp _ (go_t ?_ fun z hz => ?_)
          · simp only [List.length_append, List.length_singleton]
            omega
          · rcases List.mem_append.mp hz with hz | hz
            · rcases List.mem_append.mp hz with hz | hz
              · exact go_up (go_up (hgl z (cutG_mem hz)))
              · rw [List.mem_singleton.mp hz]; exact hy
            · exact go_up (go_up (hgl z (cutG_mem hz)))
        · rw [decide_eq_false hd, if_neg (by simp), nilM_e, bd_ok, nxt_nx]
          exact ht post hp
      · rw [decide_eq_false h0, if_neg (by simp), bd_ok, if_neg (by simp), nilM_e, bd_ok, nxt_nx]
        exact ht post hp
    | int i => exact bent_flat rfl (fun j e => by cases e; exact hv) (fun s e => by cases e) hp2
    | none => exact bent_flat rfl (fun j e => by cases e) (fun s e => by cases e) hp2
    | _ => exact hv.elim
end K51

namespace K51
open PySem PySem.Spec PyProof.Rows L2 Pu
theorem ext_l2 {ds es : List D} (h : ds.length + es.length ≤ 1000000) : extAR ds [.list es] = ok (ds ++ es) := bd_req (Nat.le_trans h (by decide)) _
theorem q_flat {α : Type} (f : α → D) (l : List (List α)) (h : l.flatten.length ≤ 1000000) : m_law_flat [.list (l.map fun x => .list (x.map f))] = ok (.list (l.flatten.map f)) := by
  let d0 : D := .list (l.map fun x => .list (x.map f))
  show bd (g_law_flat [.dat d0, .un, .un]) endM = _
  have h0 : setO 1 (m1 nilR lstR) [.dat d0, .un, .un] = ok (.nx [.dat d0, .own [], .un]) := by
    show bd (m1 _ _ _) _ = _
    rw [m1_e, nilR_e, bd_ok, lst_n (by simp), bd_ok]; rfl
  let J : List (List α) → List Sl → Prop := fun dn ρ => ∃ v, ρ = [.dat d0, .own (dn.flatten.map f), v]
  obtain ⟨ρ', e, v, rfl⟩ := forF_J (f := fun x : List α => .list (x.map f)) (g := gSet 2) (tb := mutM 1 (consR (nDR 2) nilR) extAR) J l [] [.dat d0, .own [], .un] (fun dn x ρ ⟨r, hd⟩ ⟨v, hρ⟩ => by
    subst hρ
    have hlen : (dn.flatten ++ x).length ≤ 1000000 := by
      have : l = dn ++ x :: r := by simpa using hd.symm
      rw [this] at h
      simp only [List.flatten_append, List.flatten_cons, List.length_append] at h ⊢
      omega
    refine ⟨[.dat d0, .own ((dn ++ [x]).flatten.map f), .dat (.list (x.map f))], ?_, _, rfl⟩
    rw [gSet_e, bd_ok]
    show mutM _ _ _ [.dat d0, .own (dn.flatten.map f), .dat (.list (x.map f))] = _
    simp only [mutM_e, getO_s, getO_0, bd_ok, consR_e, nilR_e, nDR_s, nDR_0]
    rw [ext_l2 (by rw [List.length_map, List.length_map]; rw [List.length_append] at hlen; exact hlen), bd_ok]
    simp only [List.flatten_append, List.flatten_cons, List.flatten_nil, List.append_nil, List.map_append]
    rfl) ⟨_, rfl⟩
  rw [g_law_flat, seqM_e, h0, bd_ok, nxt_nx, seqM_e, forM_e, itR_list (l := l.map fun x => .list (x.map f)) rfl, bd_ok, e, bd_ok, nxt_nx, retM_e]
  simp only [nBR_s, nBR_0o, bd_ok, endM_rt, List.nil_append]
/-! ### the first weight that is not told -/
def fT : Unit → D := fun _ => .bool true
theorem dc_keys {x0 x1 : Sl} : ∀ (l : List Int) (acc : List (Int × Unit)), dcF (gSet 2) yesT (nDR 2) (kR (.bool true)) (l.map PyData.int) [x0, x1, .un] (iD fT acc) = ok (iD fT (l.foldl (fun a k => putI a k ()) acc))
  | [], acc => rfl
  | k :: l, acc => by
    rw [List.map_cons, dcF, gSet_e, bd_ok, yesT_e, bd_ok, if_pos rfl]
    simp only [set_s, set_0, nDR_s, nDR_0, kR_e, bd_ok, keyR_int]
    rw [show putG (iD fT acc) (.inl k) (.bool true) = iD fT (putI acc k ()) from put_iD fT acc k (), dc_keys l, List.foldl_cons]
theorem val_keys (j : Int) : ∀ (l : List Int) (acc : List (Int × Unit)), (valI (l.foldl (fun a k => putI a k ()) acc) j).isSome = (decide (j ∈ l) || (valI acc j).isSome)
  | [], acc => by simp
  | k :: l, acc => by
    rw [List.foldl_cons, val_keys j l, valI_put]
    by_cases h1 : j = k
    · simp [h1]
    · simp [h1]
def fuB : List Sl → R Out := augM 2 (kR (.int 1)) addIR
theorem fu_loop {x0 : Sl} {T : List Int} (hT : T.Pairwise (· < ·)) {st : List (Int × Unit)} (hst : ∀ j, (valI st j).isSome = decide (j ∈ T)) : ∀ (m v : Nat), T.length + 1 ≤ m + v → (∀ u : Nat, u < v → (u : Int) ∈ T) → ∃ w : Nat, (w : Int) ∉ T ∧ (∀ u : Nat, u < w → (u : Int) ∈ T) ∧ whileM (m1 (inDM 1 (nDR 2)) asB) fuB [x0, .od (iD fT st), .dat (nI v)] = ok (.nx [x0, .od (iD fT st), .dat (nI w)]) := by
  intro m
  induction m with
  | zero =>
    intro v hm hv
    exfalso
    have h1 := nodup_len (a := (List.range v).map fun u : Nat => (u : Int)) (b := T) (List.pairwise_map.mpr (List.nodup_range.imp fun h e => h (by omega))) (fun x hx => by
      obtain ⟨u, hu, rfl⟩ := List.mem_map.mp hx
      exact hv u (List.mem_range.mp hu))
    rw [List.length_map, List.length_range] at h1
    omega
  | succ m ih =>
    intro v hm hv
    have ht : m1 (inDM 1 (nDR 2)) asB [x0, .od (iD fT st), .dat (nI v)] = ok (decide ((v : Int) ∈ T)) := by
      rw [m1_e, inDM_e]
      simp only [nDR_s, nDR_0, bd_ok]
      rw [show keyR (nI v) = ok (.inl (v : Int)) from rfl]
      simp only [bd_ok, getOD_s, getOD_0, val_iD, asB_bool, Option.isSome_map, hst]
    by_cases hc : (v : Int) ∈ T
    · obtain ⟨w, h1, h2, e⟩ := ih (v + 1) (by omega) fun u hu => by
        rcases Nat.lt_or_ge u v with h | h
        · exact hv u h
        · rw [show u = v by omega]; exact hc
      refine ⟨w, h1, h2, ?_⟩
      rw [whileM_step (ρ' := [x0, .od (iD fT st), .dat (nI (v + 1))]) (by rw [ht, decide_eq_true hc]) rfl]
      exact e
    · exact ⟨v, hc, hv, whileM_stop (by rw [ht, decide_eq_false hc])⟩
theorem q_first {n s : Int} {rs : List Int} {most : Nat} {T : List Int} (hT : T.Pairwise (· < ·)) (ht : m_told_weights [Y n s rs most] = ok (tI T)) : ∃ w : Nat, (w : Int) ∉ T ∧ (∀ u : Nat, u < w → (u : Int) ∈ T) ∧ m_first_untold [Y n s rs most] = ok (nI w) := by
  have hst : ∀ j, (valI (T.foldl (fun a k => putI a k ()) []) j).isSome = decide (j ∈ T) := fun j => by rw [val_keys]; simp [valI]
  obtain ⟨w, h1, h2, e⟩ := fu_loop (x0 := .dat (Y n s rs most)) hT hst (T.length + 1) 0 (by omega) (fun u hu => absurd hu (by omega))
  refine ⟨w, h1, h2, ?_⟩
  show bd (g_first_untold [.dat (Y n s rs most), .un, .un]) endM = _
  unfold g_first_untold
  have h0 : setsM [1, 2] (consR (rOD (dcM [2] (itR (m1 (consR (nDR 0) nilR) (callR 1 m_told_weights))) (gSet 2) yesT (nDR 2) (kR (.bool true)))) (consR (rD (kR (.int 0))) nilR)) [.dat (Y n s rs most), .un, .un] = ok (.nx [.dat (Y n s rs most), .od (iD fT (T.foldl (fun a k => putI a k ()) [])), .dat (nI 0)]) := by
    have hd : dcM [2] (itR (m1 (consR (nDR 0) nilR) (callR 1 m_told_weights))) (gSet 2) yesT (nDR 2) (kR (.bool true)) [.dat (Y n s rs most), .un, .un] = ok (iD fT (T.foldl (fun a k => putI a k ()) [])) := by
      show bd (itR _ _) _ = _
      rw [itR_tuple (l := T.map PyData.int) (by simp only [m1_e, consR_e, nilR_e, nDR_0, bd_ok, callR_1, ht]), bd_ok]
      exact dc_keys T []
    simp only [setsM, consR_e, nilR_e, rD, rOD, hd, kR_e, bd_ok]
    rfl
  rw [seqM_e, h0, bd_ok, nxt_nx, seqM_e]
  show bd (bd (whileM _ fuB _) _) _ = _
  rw [e, bd_ok, nxt_nx, retM_e]
  simp only [nDR_s, nDR_0, bd_ok, endM_rt]
theorem q_mark {n s r : Int} {rs : List Int} {most : Nat} (hn : 1 ≤ n ∧ n ≤ 50) (hr : 1 ≤ r ∧ r ≤ 100) (p : Int) : m_mark_at [Y n s (r :: rs) most, .int p] = ok (rd (Rt.q (s + r * p) n)) := by
  show bd (g_mark_at [.dat (Y n s (r :: rs) most), .dat (.int p)]) endM = _
  have i0 : ixR (Y n s (r :: rs) most) (.int 0) = ok (.int n) := ixt0 _ _
  have i1 : ixR (Y n s (r :: rs) most) (.int 1) = ok (.int s) := ixt1 _ _ _
  have i2 : ixR (Y n s (r :: rs) most) (.int 2) = ok (tI (r :: rs)) := ixt2 _ _ _ _
  have j0 : ixR (tI (r :: rs)) (.int 0) = ok (.int r) := ixt0 _ _
  unfold g_mark_at
  simp only [retM_e, m1_e, m2_e, consR_e, nilR_e, nDR_s, nDR_0, kR_e, bd_ok, i0, i1, i2, j0, K51.mul_w (i := r) (show r.natAbs ≤ 1000000 by omega), addR_int, callR_2]
  rw [q_lowest (by omega) (show n.natAbs < 1073741824 by omega)]
  rfl
/-! ### which values are yards -/
theorem step_pw : ∀ H : List Int, ((List.range (H.length - 1)).all fun k => decide (H.getD k 0 ≤ H.getD (k + 1) 0)) = decide (H.Pairwise (· ≤ ·))
  | [] => by simp
  | [x] => by simp
  | x :: y :: l => by
    have ih := step_pw (y :: l)
    rw [show (x :: y :: l).length - 1 = ((y :: l).length - 1) + 1 by simp, List.range_succ_eq_map, List.all_cons, List.all_map]
    have e : ((fun k => decide ((x :: y :: l).getD k 0 ≤ (x :: y :: l).getD (k + 1) 0)) ∘ Nat.succ) = fun k => decide ((y :: l).getD k 0 ≤ (y :: l).getD (k + 1) 0) := by
      funext k; rfl
    rw [e, ih]
    show (decide (x ≤ y) && decide ((y :: l).Pairwise (· ≤ ·))) = _
    rw [← Bool.decide_and]
    refine decide_eq_decide.mpr ⟨fun ⟨h1, h2⟩ => List.pairwise_cons.mpr ⟨fun z hz => ?_, h2⟩, fun h => ⟨(List.pairwise_cons.mp h).1 y List.mem_cons_self, (List.pairwise_cons.mp h).2⟩⟩
    rcases List.mem_cons.mp hz with rfl | hz
    · exact h1
    · have := (List.pairwise_cons.mp h2).1 z hz; omega
def intsOf (l : List D) : List Int := l.filterMap fun d => match d with | .int i => some i | _ => none
theorem q_number (d : D) (lo hi : Int) : m_is_number [d, .int lo, .int hi] = ok (.bool (inB lo hi d)) := by
  show bd (g_is_number [.dat d, .dat (.int lo), .dat (.int hi)]) endM = _
  cases d with
  | int i =>
    simp only [g_is_number, retM_e, andV_e, notV_e, chain_e, m1_e, nDR_s, nDR_0, isiR, Pu.isInt, Pu.isBoo, bd_ok, truR_bool, if_true, Bool.not_false, leR_int, asB_bool]
    by_cases h : lo ≤ i
    · simp only [h, decide_true, if_true, bd_ok, inB, Bool.true_and]; rfl
    · simp only [h, decide_false, Bool.false_eq_true, if_false, bd_ok, inB, Bool.false_and]; rfl
  | _ => rfl
theorem q_lw (d : D) (lo hi : Int) : m_law_whole [d, .int lo, .int hi] = ok (.bool (inB lo hi d)) := by
  show bd (g_law_whole [.dat d, .dat (.int lo), .dat (.int hi)]) endM = _
  cases d with
  | int i =>
    simp only [g_law_whole, retM_e, andV_e, notV_e, m1_e, m2_e, nDR_s, nDR_0, isiR, Pu.isInt, Pu.isBoo, bd_ok, truR_bool, if_true, Bool.not_false, leR_int]
    by_cases h : lo ≤ i
    · simp only [h, decide_true, if_true, bd_ok, inB, Bool.true_and]; rfl
    · simp only [h, decide_false, Bool.false_eq_true, if_false, bd_ok, inB, Bool.false_and]; rfl
  | _ => rfl
def rdB (v : D) : Bool := match v with
  | .tuple l => (decide (1 ≤ l.length) && decide (l.length ≤ 3)) && l.all (inB 1 100) && decide (asc (intsOf l) = intsOf l)
  | _ => false
def ydB (v : D) : Bool := match v with
  | .tuple [a, b, r, c] => inB 1 50 a && inB (-1000) 1000 b && inB 1 50 c && rdB r
  | _ => false
theorem chain3' {a : List Sl → R D} {ρ : List Sl} {n : Nat} (h : a ρ = ok (.int (n : Int))) : chain ok leR leR (kR (.int 1)) a (kR (.int 3)) ρ = ok (.bool (decide (1 ≤ n) && decide (n ≤ 3))) := by
  simp only [chain_e, kR_e, h, bd_ok, leR_int, truR_bool]
  rw [show decide ((1 : Int) ≤ (n : Int)) = decide (1 ≤ n) from decide_eq_decide.mpr (by omega), show decide ((n : Int) ≤ 3) = decide (n ≤ 3) from decide_eq_decide.mpr (by omega)]
  cases decide (1 ≤ n) <;> simp
theorem ints_of' {l : List D} (h : l.all (inB 1 100) = true) : l = (intsOf l).map PyData.int := by
  induction l with
  | nil => rfl
  | cons d l ih =>
    rw [List.all_cons, Bool.and_eq_true] at h
    cases d with
    | int i =>
      show _ = PyData.int i :: (intsOf l).map PyData.int
      rw [← ih h.2]
    | _ => cases h.1
end K51

namespace K51
open PySem PySem.Spec PyProof.Rows L2 Pu
theorem asc_of {H L : List Int} (hp : H.Perm L) (hs : L.Pairwise (· ≤ ·)) : asc H = L := srt_uniq ((asc_perm H).trans hp) (asc_le H) hs
theorem asc_self {H : List Int} : asc H = H ↔ H.Pairwise (· ≤ ·) := ⟨fun h => by rw [← h]; exact asc_le H, fun h => asc_of (List.Perm.refl _) h⟩
theorem eq_ints (A B : List Int) : eqR (.list (A.map PyData.int)) (.list (B.map PyData.int)) = ok (.bool (decide (A = B))) := by
  have dep_ints : ∀ l : List Int, PyData.depthAll (l.map PyData.int) = 0 := fun l => by
    induction l with
    | nil => rfl
    | cons x l ih => rw [List.map_cons, PyData.depthAll, ih]; rfl
  have := dep_ints A
  rw [eqR, bd_req (by simp only [PyData.depth]; omega)]
  congr 2
  rw [PyData.eqv]
  have key : ∀ A B : List Int, PyData.eqvAll (A.map PyData.int) (B.map PyData.int) = decide (A = B) := by
    intro A
    induction A with
    | nil => intro B; cases B <;> simp [PyData.eqvAll]
    | cons x A ih =>
      intro B
      cases B with
      | nil => simp [PyData.eqvAll]
      | cons y B =>
        rw [List.map_cons, List.map_cons, PyData.eqvAll, ih B]
        by_cases h : x = y
        · subst h; simp [PyData.eqv]
        · simp [PyData.eqv, h]
  exact key A B
theorem sort_tints {H : List Int} (hl : H.length ≤ 1000000) : sortedR [tI H] = ok ((asc H).map PyData.int) := by
  show srtV (H.map PyData.int) = _
  have k := srtK_ints H
  unfold srtV
  rw [bd_req ⟨k.al, .inl k.so, k.dp, by rw [List.length_map]; exact Nat.le_trans hl (by decide)⟩, srt_asc]
theorem q_is_yard (v : D) : m_is_yard [v] = ok (.bool (ydB v)) := by
  show bd (g_is_yard [.dat v, .un, .un, .un]) endM = _
  unfold g_is_yard
  cases v with
  | tuple l =>
    have it : Pu.isTup (.tuple l) = true := rfl
    have ng : negR (.int 1000) = ok (.int (-1000)) := rfl
    by_cases hl : l.length = 4
    · match l, hl with
      | [a, b, r, c], _ =>
        have i0 : ixR (.tuple [a, b, r, c]) (.int 0) = ok a := ixt0 _ _
        have i1 : ixR (.tuple [a, b, r, c]) (.int 1) = ok b := ixt1 _ _ _
        have i2 : ixR (.tuple [a, b, r, c]) (.int 2) = ok r := ixt2 _ _ _ _
        have i3 : ixR (.tuple [a, b, r, c]) (.int 3) = ok c := ixR_at (Pu.atI_nat (k := 3) (by simp))
        have ln : lenR [.tuple [a, b, r, c]] = ok (.int 4) := rfl
        have it : Pu.isTup (.tuple [a, b, r, c]) = true := rfl
        rw [show ydB (.tuple [a, b, r, c]) = (inB 1 50 a && inB (-1000) 1000 b && inB 1 50 c && rdB r) from rfl]
        rw [seqM_e, ifV_e, orT_e, orT_e, notT_e, notT_e]
        simp only [m1_e, m2_e, consR_e, nilR_e, nDR_s, nDR_0, kR_e, bd_ok, isiR, it, truR_bool, Bool.not_true, Bool.false_eq_true, if_false, ln, neR_int, decide_true, asB_bool, i0, callR_3, q_number]
        cases ha : inB 1 50 a with
        | false => simp only [Bool.not_false, if_true, retM_e, kR_e, bd_ok, nxt_rt, endM_rt, Bool.false_and]
        | true =>
          simp only [Bool.not_true, Bool.false_eq_true, if_false, nilM_e, bd_ok, nxt_nx, Bool.true_and]
          rw [seqM_e, ifV_e, orT_e, notT_e, notT_e]
          simp only [m1_e, m2_e, consR_e, nilR_e, nDR_s, nDR_0, kR_e, bd_ok, i1, i3, ng, callR_3, q_number, truR_bool]
          cases hb : inB (-1000) 1000 b with
          | false => simp only [Bool.not_false, if_true, retM_e, kR_e, bd_ok, nxt_rt, endM_rt, Bool.false_and]
          | true =>
            simp only [Bool.not_true, Bool.false_eq_true, if_false, bd_ok, Bool.true_and]
            cases hc : inB 1 50 c with
            | false => simp only [Bool.not_false, if_true, retM_e, kR_e, bd_ok, nxt_rt, endM_rt, Bool.false_and]
            | true =>
              simp only [Bool.not_true, Bool.false_eq_true, if_false, nilM_e, bd_ok, nxt_nx, Bool.true_and]
              rw [seqM_e, setM_e]
              simp only [m2_e, nDR_s, nDR_0, kR_e, bd_ok, i2, set_s, set_0, nxt_nx]
              rw [seqM_e, ifV_e, orT_e, notT_e, notT_e]
              simp only [m1_e (h := truR), m1_e (h := isiR isTup), nDR_s, nDR_0, bd_ok, isiR, truR_bool]
              cases r with
              | tuple t =>
                have hch := chain3' (a := m1 (consR (nDR 1) nilR) lenR) (ρ := [.dat (.tuple [a, b, .tuple t, c]), .dat (.tuple t), .un, .un]) (n := t.length) (by simp only [m1_e, consR_e, nilR_e, nDR_s, nDR_0, bd_ok, lenR_tuple])
                rw [show Pu.isTup (.tuple t) = true from rfl, m1_e, hch, show rdB (.tuple t) = ((decide (1 ≤ t.length) && decide (t.length ≤ 3)) && t.all (inB 1 100) && decide (asc (intsOf t) = intsOf t)) from rfl]
                simp only [Bool.not_true, Bool.false_eq_true, if_false, bd_ok, asB_bool]
                cases h1 : (decide (1 ≤ t.length) && decide (t.length ≤ 3)) with
                | false => simp only [Bool.not_false, if_true, retM_e, kR_e, bd_ok, nxt_rt, endM_rt, Bool.false_and]
                | true =>
                  simp only [Bool.not_true, Bool.false_eq_true, if_false, nilM_e, bd_ok, nxt_nx, Bool.true_and]
                  rw [seqM_e, ifV_e, notT_e, m1_e, m1_e, consR_e, frz_e, lcM_d (l := t) (h := fun d => .bool (inB 1 100 d)) (itR_tuple rfl) (fun d _ => by
                    simp only [m1_e, consR_e, nilR_e, wipeS, set_s, set_0, nDR_s, nDR_0, kR_e, bd_ok, callR_3, q_number])]
                  simp only [bd_ok, nilR_e, allR_bools, truR_bool]
                  cases h2 : t.all (inB 1 100) with
                  | false =>
                    simp only [Bool.not_false, if_true, retM_e, kR_e, bd_ok, nxt_rt, endM_rt, Bool.false_and]
                  | true =>
                    simp only [Bool.not_true, Bool.false_eq_true, if_false, nilM_e, bd_ok, nxt_nx, Bool.true_and]
                    rw [Bool.and_eq_true] at h1
                    have hn : t.length ≤ 3 := of_decide_eq_true h1.2
                    have h0 : 1 ≤ t.length := of_decide_eq_true h1.1
                    have hi := ints_of' h2
                    generalize intsOf t = H at *
                    subst hi
                    rw [List.length_map] at hn h0
                    rw [retM_e, m1_e, consR_e, frz_e, lcM_map (f := nI) (l := List.range (H.length - 1)) (h := fun k => .bool (decide (H.getD k 0 ≤ H.getD (k + 1) 0))) (by
                      simp only [m1_e, m2_e, consR_e, nilR_e, nDR_s, nDR_0, kR_e, bd_ok, lenR_tuple, List.length_map, subR_int]
                      rw [show (H.length : Int) - 1 = ((H.length - 1 : Nat) : Int) by omega]
                      exact range_e _ (by omega)) (fun k hk => by
                      have hk := List.mem_range.mp hk
                      have e1 : ixR (.tuple (H.map PyData.int)) (nI k) = ok (.int (H.getD k 0)) := by
                        rw [ixt_n (by rw [List.length_map]; omega), List.getElem_map, List.getD_eq_getElem?_getD, List.getElem?_eq_getElem (by omega)]; rfl
                      have e2 : ixR (.tuple (H.map PyData.int)) (nI (k + 1)) = ok (.int (H.getD (k + 1) 0)) := by
                        rw [ixt_n (by rw [List.length_map]; omega), List.getElem_map, List.getD_eq_getElem?_getD, List.getElem?_eq_getElem (by omega)]; rfl
                      have e3 : addR (nI k) (.int 1) = ok (nI (k + 1)) := rfl
                      simp only [m1_e, m2_e, consR_e, nilR_e, wipeS, set_s, set_0, nDR_s, nDR_0, kR_e, bd_ok, e1, e3, e2, leR_int])]
                    simp only [bd_ok, nilR_e, allR_bools, endM_rt]
                    rw [step_pw, show decide (H.Pairwise (· ≤ ·)) = decide (asc H = H) from decide_eq_decide.mpr asc_self.symm]
              | _ => rfl
    · have hy : ydB (.tuple l) = false := by
        match l, hl with
        | [], _ => rfl
        | [_], _ => rfl
        | [_, _], _ => rfl
        | [_, _, _], _ => rfl
        | [_, _, _, _], h => exact absurd rfl h
        | _ :: _ :: _ :: _ :: _ :: _, _ => rfl
      rw [hy, seqM_e, ifV_e, orT_e, orT_e, notT_e]
      simp only [m1_e, m2_e, consR_e, nilR_e, nDR_s, nDR_0, kR_e, bd_ok, isiR, it, truR_bool, Bool.not_true, Bool.false_eq_true, if_false, lenR_tuple, neR_int]
      rw [decide_eq_false (by omega)]
      simp only [Bool.not_false, asB_bool, bd_ok, if_true, retM_e, kR_e, nxt_rt, endM_rt]
  | _ => rfl
theorem q_law_is (v : D) : m_law_is [v] = ok (.bool (ydB v)) := by
  show bd (g_law_is [.dat v, .un]) endM = _
  unfold g_law_is
  cases v with
  | tuple l =>
    have it : Pu.isTup (.tuple l) = true := rfl
    have ng : negR (.int 1000) = ok (.int (-1000)) := rfl
    by_cases hl : l.length = 4
    · match l, hl with
      | [a, b, r, c], _ =>
        have i0 : ixR (.tuple [a, b, r, c]) (.int 0) = ok a := ixt0 _ _
        have i1 : ixR (.tuple [a, b, r, c]) (.int 1) = ok b := ixt1 _ _ _
        have i2 : ixR (.tuple [a, b, r, c]) (.int 2) = ok r := ixt2 _ _ _ _
        have i3 : ixR (.tuple [a, b, r, c]) (.int 3) = ok c := ixR_at (Pu.atI_nat (k := 3) (by simp))
        have ln : lenR [.tuple [a, b, r, c]] = ok (.int 4) := rfl
        have it : Pu.isTup (.tuple [a, b, r, c]) = true := rfl
        rw [show ydB (.tuple [a, b, r, c]) = (inB 1 50 a && inB (-1000) 1000 b && inB 1 50 c && rdB r) from rfl]
        rw [seqM_e, ifV_e, orT_e, orT_e, orT_e, orT_e, notT_e, notT_e, notT_e, notT_e]
        simp only [m1_e, m2_e, consR_e, nilR_e, nDR_s, nDR_0, kR_e, bd_ok, isiR, it, truR_bool, Bool.not_true, Bool.false_eq_true, if_false, ln, neR_int, decide_true, asB_bool, i0, i1, i3, ng, callR_3, q_lw]
        cases ha : inB 1 50 a with
        | false => simp only [Bool.not_false, if_true, retM_e, kR_e, bd_ok, nxt_rt, endM_rt, Bool.false_and]
        | true =>
          simp only [Bool.not_true, Bool.false_eq_true, if_false, bd_ok, Bool.true_and]
          cases hb : inB (-1000) 1000 b with
          | false => simp only [Bool.not_false, if_true, retM_e, kR_e, bd_ok, nxt_rt, endM_rt, Bool.false_and]
          | true =>
            simp only [Bool.not_true, Bool.false_eq_true, if_false, bd_ok, Bool.true_and]
            cases hc : inB 1 50 c with
            | false => simp only [Bool.not_false, if_true, retM_e, kR_e, bd_ok, nxt_rt, endM_rt, Bool.false_and]
            | true =>
              simp only [Bool.not_true, Bool.false_eq_true, if_false, nilM_e, bd_ok, nxt_nx, Bool.true_and]
              rw [seqM_e, ifV_e, orT_e, orT_e, notT_e, notT_e, notT_e]
              simp only [m1_e (h := truR), m1_e (h := isiR isTup), m2_e, nDR_s, nDR_0, kR_e, i2, bd_ok, isiR, truR_bool]
              cases r with
              | tuple t =>
                have hch := chain3' (a := m1 (consR (m2 (nDR 0) (kR (.int 2)) ixR) nilR) lenR) (ρ := [.dat (.tuple [a, b, .tuple t, c]), .un]) (n := t.length) (by simp only [m1_e, m2_e, consR_e, nilR_e, nDR_s, nDR_0, kR_e, i2, bd_ok, lenR_tuple])
                rw [show Pu.isTup (.tuple t) = true from rfl, m1_e, hch, show rdB (.tuple t) = ((decide (1 ≤ t.length) && decide (t.length ≤ 3)) && t.all (inB 1 100) && decide (asc (intsOf t) = intsOf t)) from rfl]
                simp only [Bool.not_true, Bool.false_eq_true, if_false, bd_ok, asB_bool]
                cases h1 : (decide (1 ≤ t.length) && decide (t.length ≤ 3)) with
                | false => simp only [Bool.not_false, if_true, retM_e, kR_e, bd_ok, nxt_rt, endM_rt, Bool.false_and]
                | true =>
                  simp only [Bool.not_true, Bool.false_eq_true, if_false, bd_ok, Bool.true_and]
                  rw [m1_e, consR_e, frz_e, lcM_d (l := t) (h := fun d => .bool (inB 1 100 d)) (itR_tuple (by simp only [m2_e, nDR_s, nDR_0, kR_e, i2, bd_ok])) (fun d _ => by
                    simp only [m1_e, consR_e, nilR_e, wipeS, set_s, set_0, nDR_s, nDR_0, kR_e, bd_ok, callR_3, q_lw])]
                  simp only [bd_ok, nilR_e, allR_bools, truR_bool]
                  cases h2 : t.all (inB 1 100) with
                  | false =>
                    simp only [Bool.not_false, if_true, retM_e, kR_e, bd_ok, nxt_rt, endM_rt, Bool.false_and]
                  | true =>
                    simp only [Bool.not_true, Bool.false_eq_true, if_false, nilM_e, bd_ok, nxt_nx, Bool.true_and]
                    rw [Bool.and_eq_true] at h1
                    have hn : t.length ≤ 3 := of_decide_eq_true h1.2
                    have hi := ints_of' h2
                    generalize intsOf t = H at *
                    subst hi
                    rw [List.length_map] at hn
                    have e1 : lstOfR [tI H] = ok (H.map PyData.int) := rfl
                    rw [retM_e, m2_e, frz_e, frz_e]
                    simp only [m1_e, m2_e, consR_e, nilR_e, nDR_s, nDR_0, kR_e, i2, bd_ok, e1, sort_tints (H := H) (by omega), eq_ints, endM_rt]
                    rw [show decide (H = asc H) = decide (asc H = H) from decide_eq_decide.mpr eq_comm]
              | _ => rfl
    · have hy : ydB (.tuple l) = false := by
        match l, hl with
        | [], _ => rfl
        | [_], _ => rfl
        | [_, _], _ => rfl
        | [_, _, _], _ => rfl
        | [_, _, _, _], h => exact absurd rfl h
        | _ :: _ :: _ :: _ :: _ :: _, _ => rfl
      rw [hy, seqM_e, ifV_e, orT_e, orT_e, notT_e]
      simp only [m1_e, m2_e, consR_e, nilR_e, nDR_s, nDR_0, kR_e, bd_ok, isiR, it, truR_bool, Bool.not_true, Bool.false_eq_true, if_false, lenR_tuple, neR_int]
      rw [decide_eq_false (by omega)]
      simp only [Bool.not_false, asB_bool, bd_ok, if_true, retM_e, kR_e, nxt_rt, endM_rt]
  | _ => rfl
end K51

namespace K51
open PySem PySem.Spec PyProof.Rows L2 Pu
/-! ### the law's rows and weights -/
theorem getD_l {α : Type} {l m : List α} {k : Nat} {d : α} (h : k < l.length) : (l ++ m).getD k d = l.getD k d := by
  rw [List.getD_eq_getElem?_getD, List.getD_eq_getElem?_getD, List.getElem?_append_left h]
theorem getD_at {α : Type} {l : List α} {k : Nat} {x d : α} (h : l.length = k) : (l ++ [x]).getD k d = x := by
  rw [List.getD_eq_getElem?_getD, List.getElem?_append_right (by omega), h, Nat.sub_self]; rfl
def momF (rs : List Int) (row : List Nat) : Int := sI (fun k => rs.getD k 0 * ((row.getD k 0 : Nat) : Int)) rs.length
structure InvR (dn : List Int) (L : List MR) : Prop where
  m : ∀ q ∈ L, q.2.length = dn.length ∧ momF dn q.2 = q.1
theorem invR_ext {most : Nat} {dn : List Int} {L : List MR} (h : InvR dn L) (r : Int) : InvR (dn ++ [r]) (ext most L r) := ⟨fun q hq => by
  obtain ⟨x, hx, p, _, rfl⟩ := ext_mem.mp hq
  obtain ⟨h1, h2⟩ := h.m x hx
  refine ⟨by rw [List.length_append, List.length_append, h1]; rfl, ?_⟩
  show momF (dn ++ [r]) (x.2 ++ [p]) = x.1 + r * (p : Int)
  unfold momF at *
  rw [List.length_append, List.length_singleton, sI_succ, ← h2]
  congr 1
  · refine sI_congr fun k hk => ?_
    rw [getD_l hk, getD_l (by omega)]
  · rw [getD_at rfl, getD_at h1]⟩
theorem invR_fold {most : Nat} : ∀ (rs dn : List Int) (L : List MR), InvR dn L → InvR (dn ++ rs) (rs.foldl (ext most) L)
  | [], dn, L, h => by rw [List.append_nil]; exact h
  | r :: rs, dn, L, h => by
    have := invR_fold (most := most) rs (dn ++ [r]) (ext most L r) (invR_ext h r)
    rw [List.append_assoc] at this
    exact this
theorem invR_all (most : Nat) (rs : List Int) : InvR rs (allR most rs) := by
  have := invR_fold (most := most) rs [] [(0, [])] ⟨fun q hq => by rw [List.mem_singleton.mp hq]; exact ⟨rfl, rfl⟩⟩
  rw [List.nil_append] at this
  exact this
/-- the weight a moment tells -/
def tl (n s w : Int) (q : MR) : Bool := decide (0 ≤ w) && decide (q.1 = n * w - s)
def addF (n s : Int) (fd : List (Int × List (List Nat))) (q : MR) : List (Int × List (List Nat)) :=
  if 0 ≤ s + q.1 ∧ (s + q.1) / n * n = s + q.1 then putI fd ((s + q.1) / n) ((valI fd ((s + q.1) / n)).getD [] ++ [q.2]) else fd
def ofL (l : List (List Nat)) : Option (List (List Nat)) := match l with
  | [] => none
  | l => some l
structure OkF (n s : Int) (fd : List (Int × List (List Nat))) (L : List MR) : Prop where
  nd : (fd.map (·.1)).Nodup
  v : ∀ w, valI fd w = ofL ((L.filter (tl n s w)).map (·.2))
theorem ofL_getD (l : List (List Nat)) : (ofL l).getD [] = l := by cases l <;> rfl
theorem ofL_app (l : List (List Nat)) (x : List Nat) : ofL (l ++ [x]) = some (l ++ [x]) := by cases l <;> rfl
theorem okF_add {n s : Int} (hn : 1 ≤ n) {fd : List (Int × List (List Nat))} {L : List MR} (h : OkF n s fd L) (q : MR) : OkF n s (addF n s fd q) (L ++ [q]) := by
  have key : ∀ w, tl n s w q = true ↔ (0 ≤ s + q.1 ∧ (s + q.1) / n * n = s + q.1) ∧ w = (s + q.1) / n := fun w => by
    unfold tl
    rw [Bool.and_eq_true, decide_eq_true_eq, decide_eq_true_eq]
    constructor
    · rintro ⟨h0, h1⟩
      have e : s + q.1 = n * w := by omega
      have e2 : (s + q.1) / n = w := by rw [e]; exact Int.mul_ediv_cancel_left w (by omega)
      exact ⟨⟨by rw [e]; exact Int.mul_nonneg (by omega) h0, by rw [e2, e, Int.mul_comm]⟩, e2.symm⟩
    · rintro ⟨⟨h0, h1⟩, rfl⟩
      exact ⟨Int.ediv_nonneg h0 (by omega), by rw [Int.mul_comm]; omega⟩
  unfold addF
  by_cases hc : 0 ≤ s + q.1 ∧ (s + q.1) / n * n = s + q.1
  · rw [if_pos hc]
    refine ⟨keys_put _ _ _ h.nd, fun w => ?_⟩
    rw [valI_put, List.filter_append, List.map_append]
    by_cases hw : w = (s + q.1) / n
    · have ht : tl n s w q = true := (key w).mpr ⟨hc, hw⟩
      rw [if_pos hw, ← hw, h.v w, ofL_getD, show [q].filter (tl n s w) = [q] from by simp [ht]]
      exact (ofL_app _ _).symm
    · have ht : tl n s w q = false := by
        cases e : tl n s w q with
        | false => rfl
        | true => exact absurd ((key w).mp e).2 hw
      rw [if_neg hw, h.v w, show [q].filter (tl n s w) = [] from by simp [ht]]
      simp
  · rw [if_neg hc]
    refine ⟨h.nd, fun w => ?_⟩
    have ht : tl n s w q = false := by
      cases e : tl n s w q with
      | false => rfl
      | true => exact absurd ((key w).mp e).1 hc
    rw [List.filter_append, show [q].filter (tl n s w) = [] from by simp [ht], List.append_nil]
    exact h.v w
theorem okF_fold {n s : Int} (hn : 1 ≤ n) : ∀ (L dn : List MR) (fd : List (Int × List (List Nat))), OkF n s fd dn → OkF n s (L.foldl (addF n s) fd) (dn ++ L)
  | [], dn, fd, h => by rw [List.append_nil]; exact h
  | q :: L, dn, fd, h => by
    have := okF_fold hn L (dn ++ [q]) (addF n s fd q) (okF_add hn h q)
    rw [List.append_assoc] at this
    exact this
theorem okF_all {n s : Int} (hn : 1 ≤ n) (L : List MR) : OkF n s (L.foldl (addF n s) []) L := by
  have := okF_fold (n := n) (s := s) hn L [] [] ⟨by simp, fun w => by simp [valI, ofL]⟩
  rw [List.nil_append] at this
  exact this
section
variable {n s : Int} {st : List (Int × Ent)} {fd : List (Int × List (List Nat))} {L : List MR} {j : Nat}
theorem key_st (h : OkS j st L) {m : Int} : m ∈ st.map (·.1) ↔ ∃ q ∈ L, q.1 = m := by
  constructor
  · intro hm
    obtain ⟨e, he⟩ := valI_mem hm
    exact ⟨_, (h.so m e he).1, rfl⟩
  · rintro ⟨q, hq, rfl⟩
    cases hv : valI st q.1 with
    | none => exact absurd rfl (h.no q.1 hv q hq)
    | some e => exact List.mem_map_of_mem (f := fun p : Int × Ent => p.1) (mem_of_valI hv)
theorem key_fd (h : OkF n s fd L) {w : Int} : w ∈ fd.map (·.1) ↔ ∃ q ∈ L, tl n s w q = true := by
  have hv := h.v w
  constructor
  · intro hm
    obtain ⟨e, he⟩ := valI_mem hm
    rw [he] at hv
    cases hf : L.filter (tl n s w) with
    | nil => rw [hf] at hv; cases hv
    | cons q l =>
      have := List.mem_filter.mp (show q ∈ L.filter (tl n s w) by rw [hf]; exact List.mem_cons_self)
      exact ⟨q, this⟩
  · rintro ⟨q, hq, ht⟩
    cases hf : L.filter (tl n s w) with
    | nil => have := List.mem_filter.mpr ⟨hq, ht⟩; rw [hf] at this; cases this
    | cons q' l =>
      rw [hf] at hv
      exact List.mem_map_of_mem (f := fun p : Int × List (List Nat) => p.1) (mem_of_valI hv)
theorem told_fd (hn : 1 ≤ n) (h : OkS j st L) (hf : OkF n s fd L) : told n s (st.map (·.1)) = asc (fd.map (·.1)) := by
  refine asc_uniq (told_lt hn h.nd) (asc_lt hf.nd) fun w => ?_
  rw [told_mem hn, (asc_perm _).mem_iff, key_st h, key_fd hf]
  unfold tl
  constructor
  · rintro ⟨h0, q, hq, e⟩
    exact ⟨q, hq, by rw [Bool.and_eq_true, decide_eq_true_eq, decide_eq_true_eq]; exact ⟨h0, e⟩⟩
  · rintro ⟨q, hq, e⟩
    rw [Bool.and_eq_true, decide_eq_true_eq, decide_eq_true_eq] at e
    exact ⟨e.1, q, hq, e.2⟩
theorem here_e (h : OkS j st L) (hf : OkF n s fd L) (w : Nat) : (valI st (n * (w : Int) - s) = none ∧ (valI fd (w : Int)).getD [] = []) ∨ ∃ e, valI st (n * (w : Int) - s) = some e ∧ e.1 ∈ (valI fd (w : Int)).getD [] ∧ (∀ r ∈ (valI fd (w : Int)).getD [], lt r e.1 = false) ∧ e.2 = ((valI fd (w : Int)).getD []).length := by
  rw [hf.v w, ofL_getD]
  have ht : tl n s (w : Int) = fun q => decide (q.1 = n * (w : Int) - s) := by
    funext q
    unfold tl
    rw [decide_eq_true (show (0 : Int) ≤ (w : Int) by omega), Bool.true_and]
  rw [ht]
  cases hv : valI st (n * (w : Int) - s) with
  | none =>
    left
    refine ⟨rfl, ?_⟩
    rw [List.filter_eq_nil_iff.mpr fun q hq => by simpa using h.no _ hv q hq]; rfl
  | some e =>
    right
    obtain ⟨h1, h2, h3⟩ := h.so _ e hv
    refine ⟨e, rfl, List.mem_map.mpr ⟨_, List.mem_filter.mpr ⟨h1, by simp⟩, rfl⟩, fun r hr => ?_, ?_⟩
    · obtain ⟨q, hq, rfl⟩ := List.mem_map.mp hr
      obtain ⟨hq1, hq2⟩ := List.mem_filter.mp hq
      exact h2 q hq1 (of_decide_eq_true hq2)
    · rw [List.length_map, ← List.countP_eq_length_filter, h3]
end
theorem min_is {l : List (List Nat)} {m : List Nat} (hm : m ∈ l) (hl : ∀ r ∈ l, lt r m = false) : minR [.list (l.map (tu nI))] = ok (tu nI m) := by
  cases l with
  | nil => cases hm
  | cons a l =>
    obtain ⟨h1, h2⟩ := minD_spec (l.map (tu nI)) (tu nI a)
    rw [← List.map_cons] at h1 h2
    obtain ⟨m', hm', e⟩ := List.mem_map.mp h1
    have e2 : m' = m := lt_uniq (hl m' hm') (by
      have := h2 (tu nI m) (List.mem_map_of_mem hm)
      rw [← e] at this
      exact this)
    obtain ⟨z, hz, ez, _⟩ := min_rows a l
    have : minR [.list ((a :: l).map (tu nI))] = ok (W.minD (tu nI a) (l.map (tu nI))) := by
      show bd (req (W.AlikeAll (tu nI a :: l.map (tu nI)) ∧ PyData.depthAll (tu nI a :: l.map (tu nI)) ≤ 60)) (fun _ => ok (W.minD (tu nI a) (l.map (tu nI)))) = _
      rw [bd_req]
      refine ⟨⟨fun x hx y hy => ?_, fun x hx => ?_⟩, ?_⟩
      · rw [← List.map_cons] at hx hy
        obtain ⟨x, _, rfl⟩ := List.mem_map.mp hx
        obtain ⟨y, _, rfl⟩ := List.mem_map.mp hy
        exact alike_tu x y
      · rw [← List.map_cons] at hx
        obtain ⟨x, _, rfl⟩ := List.mem_map.mp hx
        intro h; cases h
      · have := depth_rows (a :: l)
        rw [List.map_cons] at this
        omega
    rw [this, ← e, e2]
theorem gap_e {T : List Int} (hT : T.Pairwise (· < ·)) {N w : Nat} (hN : T.length ≤ N) (h1 : (w : Int) ∉ T) (h2 : ∀ u : Nat, u < w → (u : Int) ∈ T) : ∃ r, (List.range (N + 1)).filter (fun k : Nat => !decide ((k : Int) ∈ T)) = w :: r := by
  have hw : w ≤ T.length := by
    have h := nodup_len (a := (List.range w).map fun u : Nat => (u : Int)) (b := T) (List.pairwise_map.mpr (List.nodup_range.imp fun h e => h (by omega))) (fun x hx => by
      obtain ⟨u, hu, rfl⟩ := List.mem_map.mp hx
      exact h2 u (List.mem_range.mp hu))
    rw [List.length_map, List.length_range] at h
    exact h
  have hf : (List.range (N + 1)).find? (fun k : Nat => !decide ((k : Int) ∈ T)) = some w := List.find?_range_eq_some.mpr ⟨by simpa using h1, List.mem_range.mpr (by omega), fun u hu => by simpa using h2 u hu⟩
  rw [← List.head?_filter] at hf
  cases hl : (List.range (N + 1)).filter (fun k : Nat => !decide ((k : Int) ∈ T)) with
  | nil => rw [hl] at hf; cases hf
  | cons x r => rw [hl] at hf; injection hf with hf; subst hf; exact ⟨r, rfl⟩
end K51

namespace K51
open PySem PySem.Spec PyProof.Rows L2 Pu
def x0 : List Sl → R Out := (setM 3 (m1 (consR (frz (m1 (consR (frz (lcM [23] (m1 (consR (m2 (kR (.int 1)) (callX 1 2 1 (consR (kR (.int 3)) nilR) m_law_draw) addR) nilR) range1R) (gSet 23) yesT (m2 (kR (.int 1)) (callX 1 2 1 (consR (kR (.int 12)) nilR) m_law_draw) addR))) nilR) sortedR)) nilR) tupOfR))
def x1 : List Sl → R Out := (setM 4 (m1 (consR (m2 (kR (.int 1)) (callX 1 2 1 (consR (kR (.int 6)) nilR) m_law_draw) addR) (consR (m2 (callX 1 2 1 (consR (kR (.int 21)) nilR) m_law_draw) (kR (.int 10)) subR) (consR (nDR 3) (consR (m2 (kR (.int 1)) (callX 1 2 1 (consR (kR (.int 8)) nilR) m_law_draw) addR) nilR)))) tupR))
def x2 : List Sl → R Out := (ifV (m1 (m2 (m1 (consR (nDR 4) nilR) (callR 1 m_is_yard)) (kR (.bool true)) isNotR) asB) (retM (kR (.bool false))) nilM)
def x3 : List Sl → R Out := (setM 5 (frz (m1 (consR (m1 nilR tupR) nilR) lstR)))
def i4 : List Sl → R (List D) := (itR (nDR 3))
def b4 : List Sl → R Out := (setM 5 (m1 (consR (frz (lcM [8] (itR (nDR 5)) (gSet 8) yesT (frz (lcM [12] (m1 (consR (m2 (m2 (nDR 4) (kR (.int 3)) ixR) (kR (.int 1)) addR) nilR) range1R) (gSet 12) yesT (m2 (nDR 8) (m1 (consR (nDR 12) nilR) tupR) addR))))) nilR) (callR 1 m_law_flat)))
def x4 : List Sl → R Out := (forM i4 (gSet 6) b4)
def x5 : List Sl → R Out := (setOD 7 emptyD)
def i6 : List Sl → R (List D) := (itR (nDR 5))
def b6 : List Sl → R Out := (seqM (setM 20 (m2 (m2 (nDR 4) (kR (.int 1)) ixR) (m1 (consR (frz (lcM [23] (m1 (consR (m1 (consR (nDR 3) nilR) lenR) nilR) range1R) (gSet 23) yesT (m2 (m2 (nDR 3) (nDR 23) ixR) (m2 (nDR 8) (nDR 23) ixR) mulR))) nilR) sumR) addR))
 (ifV (andT (m1 (m2 (nDR 20) (kR (.int 0)) geR) asB) (m1 (m2 (m2 (m2 (nDR 20) (m2 (nDR 4) (kR (.int 0)) ixR) fdivR) (m2 (nDR 4) (kR (.int 0)) ixR) mulR) (nDR 20) eqR) asB)) (putM 7 (m2 (nDR 20) (m2 (nDR 4) (kR (.int 0)) ixR) fdivR) (m2 (getM2 7 (m2 (nDR 20) (m2 (nDR 4) (kR (.int 0)) ixR) fdivR) (frz (m1 nilR lstR))) (frz (m1 (consR (nDR 8) nilR) lstR)) addR)) nilM))
def x6 : List Sl → R Out := (forM i6 (gSet 8) b6)
def x7 : List Sl → R Out := (ifV (notT (m1 (m1 (consR (m1 (consR (nDR 4) nilR) (callR 1 m_told_weights)) (consR (m1 (consR (frz (srtAM 7)) nilR) tupOfR) nilR)) (callR 2 (m_law_same 20))) truR)) (retM (kR (.bool false))) nilM)
def x8 : List Sl → R Out := (setM 9 (frz (lcM [10] (m1 (consR (m2 (lenDM 7) (kR (.int 1)) addR) nilR) range1R) (gSet 10) (m1 (notInDM 7 (nDR 10)) asB) (nDR 10))))
def x9 : List Sl → R Out := (ifV (notT (m1 (m1 (consR (m1 (consR (nDR 4) nilR) (callR 1 m_first_untold)) (consR (m2 (nDR 9) (kR (.int 0)) ixR) nilR)) (callR 2 (m_law_same 20))) truR)) (retM (kR (.bool false))) nilM)
def i10 : List Sl → R (List D) := (m1 (consR (kR (.int 0)) (consR (kR (.int 25)) nilR)) range2R)
def b10 : List Sl → R Out := (seqM (setM 21 (getM2 7 (nDR 10) (frz (m1 nilR lstR))))
 (ifV (notT (m1 (m1 (consR (m1 (consR (m1 (consR (nDR 4) (consR (nDR 10) nilR)) (callR 2 m_tells)) (consR (m1 (consR (nDR 4) (consR (nDR 10) nilR)) (callR 2 m_ways_to_tell)) nilR)) tupR) (consR (m1 (consR (ifV (m1 (m2 (m1 (consR (nDR 21) nilR) lenR) (kR (.int 0)) gtR) asB) (m1 (consR (nDR 21) nilR) minR) (kR .none)) (consR (m1 (consR (nDR 21) nilR) lenR) nilR)) tupR) nilR)) (callR 2 (m_law_same 20))) truR)) (retM (kR (.bool false))) nilM))
def x10 : List Sl → R Out := (forM i10 (gSet 10) b10)
def x11 : List Sl → R Out := (setM 11 (m2 (m3 (nDR 4) noR (m1 (kR (.int 2)) asI) slR) (m1 (consR (m3 (nDR 3) noR (m1 (kR (.int 1)) asI) slR) (consR (m2 (nDR 4) (kR (.int 3)) ixR) nilR)) tupR) addR))
def x12 : List Sl → R Out := (setM 12 (callX 1 2 1 (consR (m2 (m2 (nDR 4) (kR (.int 3)) ixR) (kR (.int 1)) addR) nilR) m_law_draw))
def x13 : List Sl → R Out := (setM 13 (m1 (consR (nDR 11) (consR (nDR 12) nilR)) (callR 2 m_mark_at)))
def x14 : List Sl → R Out := (ifV (notT (m1 (m1 (consR (m1 (consR (nDR 13) (consR (m1 (consR (m2 (nDR 4) (kR (.int 0)) ixR) (consR (kR (.int 1)) nilR)) tupR) nilR)) (callR 2 m_law_mul)) (consR (m1 (consR (m2 (m2 (nDR 4) (kR (.int 1)) ixR) (m2 (m2 (nDR 3) (kR (.int 0)) ixR) (nDR 12) mulR) addR) (consR (kR (.int 1)) nilR)) tupR) nilR)) (callR 2 (m_law_same 20))) truR)) (retM (kR (.bool false))) nilM)
def x15 : List Sl → R Out := (ifV (m1 (m2 (andV (m2 (m2 (nDR 13) (kR (.int 1)) ixR) (kR (.int 1)) eqR) (m2 (m2 (nDR 13) (kR (.int 0)) ixR) (kR (.int 0)) geR)) (ifV (m1 (m2 (m2 (nDR 13) (kR (.int 0)) ixR) (kR (.int 0)) geR) asB) (andV (m2 (m1 (consR (nDR 11) (consR (m2 (nDR 13) (kR (.int 0)) ixR) nilR)) (callR 2 m_tells)) (kR .none) isNotR) (m2 (m2 (nDR 13) (kR (.int 1)) ixR) (kR (.int 1)) eqR)) (kR (.bool false))) neR) asB) (retM (kR (.bool false))) nilM)
def x16 : List Sl → R Out := (setsM [14, 15] (consR (rD (m2 (kR (.int 2)) (callX 1 2 1 (consR (kR (.int 4)) nilR) m_law_draw) addR)) (consR (rD (m2 (kR (.int 1)) (callX 1 2 1 (consR (kR (.int 3)) nilR) m_law_draw) addR)) nilR)))
def x17 : List Sl → R Out := (setM 16 (m1 (consR (kR (.int 1)) (consR (kR (.int 0)) (consR (m1 (consR (frz (lcM [23] (m1 (consR (nDR 15) nilR) range1R) (gSet 23) yesT (m2 (frz (m1 (consR (kR (.int 1)) (consR (nDR 14) (consR (m2 (nDR 14) (nDR 14) mulR) nilR))) lstR)) (nDR 23) ixR))) nilR) tupOfR) (consR (m2 (nDR 14) (kR (.int 1)) subR) nilR)))) tupR))
def x18 : List Sl → R Out := (setM 17 (m2 (frz (m1 (consR (nDR 14) (consR (m2 (nDR 14) (nDR 14) mulR) (consR (m2 (m2 (nDR 14) (nDR 14) mulR) (nDR 14) mulR) nilR))) lstR)) (m2 (nDR 15) (kR (.int 1)) subR) ixR))
def x19 : List Sl → R Out := (ifV (orT (m1 (m2 (m1 (consR (nDR 16) nilR) (callR 1 m_first_untold)) (nDR 17) neR) asB) (notT (m1 (m1 (consR (frz (lcM [10] (itR (m1 (consR (kR (.int 0)) (consR (m2 (nDR 17) (kR (.int 1)) subR) (consR (callX 1 2 1 (consR (nDR 17) nilR) m_law_draw) nilR))) tupR)) (gSet 10) yesT (m2 (m1 (consR (nDR 16) (consR (nDR 10) nilR)) (callR 2 m_ways_to_tell)) (kR (.int 1)) eqR))) nilR) Pu.allR) truR))) (retM (kR (.bool false))) nilM)
def x20 : List Sl → R Out := (setM 18 (frz (m1 (consR (nDR 4) (consR (m3 (nDR 4) noR (m1 (kR (.int 3)) asI) slR) (consR (m1 (nDR 4) revR) (consR (m2 (m1 (consR (kR (.int 0)) nilR) tupR) (m3 (nDR 4) (m1 (kR (.int 1)) asI) noR slR) addR) (consR (m2 (m1 (consR (m2 (nDR 4) (kR (.int 0)) ixR) (consR (kR (.bool true)) nilR)) tupR) (m3 (nDR 4) (m1 (kR (.int 2)) asI) noR slR) addR) (consR (m2 (m3 (nDR 4) noR (m1 (kR (.int 2)) asI) slR) (m1 (consR (m1 nilR tupR) (consR (kR (.int 3)) nilR)) tupR) addR) (consR (m2 (m3 (nDR 4) noR (m1 (kR (.int 2)) asI) slR) (m1 (consR (m1 (consR (kR (.int 2)) (consR (kR (.int 1)) nilR)) tupR) (consR (kR (.int 3)) nilR)) tupR) addR) (consR (m2 (m3 (nDR 4) noR (m1 (kR (.int 2)) asI) slR) (m1 (consR (m1 (consR (kR (.int 1)) (consR (kR (.int 1)) (consR (kR (.int 1)) (consR (kR (.int 1)) nilR)))) tupR) (consR (kR (.int 3)) nilR)) tupR) addR) (consR (m2 (m3 (nDR 4) noR (m1 (kR (.int 3)) asI) slR) (m1 (consR (kR (.int 51)) nilR) tupR) addR) (consR (kR .none) (consR (kR (.int 0)) (consR (m1 nilR tupR) nilR)))))))))))) lstR)))
def i21 : List Sl → R (List D) := (itR (m2 (nDR 18) (frz (lcM [22] (m1 (consR (kR (.int 6)) nilR) range1R) (gSet 22) yesT (callX 1 2 1 (consR (nDR 4) nilR) (m_law_bent 6)))) addR))
def b21 : List Sl → R Out := (ifV (notT (m1 (m1 (consR (m1 (consR (nDR 19) nilR) (callR 1 m_is_yard)) (consR (m1 (consR (nDR 19) nilR) (callR 1 m_law_is)) nilR)) (callR 2 (m_law_same 20))) truR)) (retM (kR (.bool false))) nilM)
def x21 : List Sl → R Out := (forM i21 (gSet 19) b21)
def body_ : List Sl → R Out := (seqM x0 (seqM x1 (seqM x2 (seqM x3 (seqM x4 (seqM x5 (seqM x6 (seqM x7 (seqM x8 (seqM x9 (seqM x10 (seqM x11 (seqM x12 (seqM x13 (seqM x14 (seqM x15 (seqM x16 (seqM x17 (seqM x18 (seqM x19 (seqM x20 x21)))))))))))))))))))))
def y0 : List Sl → R Out := (forM (m1 (consR (kR (.int 5)) nilR) range1R) (gSet 2) body_)
def y1 : List Sl → R Out := (retM (m1 (consR (m1 (consR (m1 (consR (m1 (consR (kR (.int 2)) (consR (kR (.int 0)) (consR (m1 (consR (kR (.int 3)) nilR) tupR) (consR (kR (.int 6)) nilR)))) tupR) nilR) (callR 1 m_told_weights)) (consR (m1 (consR (m1 (consR (kR (.int 2)) (consR (kR (.int 0)) (consR (m1 (consR (kR (.int 3)) nilR) tupR) (consR (kR (.int 6)) nilR)))) tupR) (consR (kR (.int 6)) nilR)) (callR 2 m_tells)) (consR (m1 (consR (m1 (consR (kR (.int 1)) (consR (kR (.int 0)) (consR (m1 (consR (kR (.int 1)) (consR (kR (.int 10)) nilR)) tupR) (consR (kR (.int 9)) nilR)))) tupR) nilR) (callR 1 m_first_untold)) nilR))) tupR) (consR (m1 (consR (m1 (consR (kR (.int 0)) (consR (kR (.int 3)) (consR (kR (.int 6)) (consR (kR (.int 9)) nilR)))) tupR) (consR (m1 (consR (kR (.int 4)) nilR) tupR) (consR (kR (.int 100)) nilR))) tupR) nilR)) (callR 2 (m_law_same 20))))
theorem g_law_parts : g_law = (seqM y0 y1) := rfl
end K51

namespace K51
open PySem PySem.Spec PyProof.Rows L2 Pu
/-! ### the law's body -/
theorem ext_len (most : Nat) (rd : Int) : ∀ L : List MR, (ext most L rd).length = L.length * (most + 1)
  | [] => by simp [ext]
  | q :: L => by
    have ih := ext_len most rd L
    unfold ext at *
    rw [List.flatMap_cons, List.length_append, ih, List.length_cons, Nat.succ_mul, List.length_map, List.length_range]; omega
theorem fold_len2 (most : Nat) : ∀ (rs : List Int) (L : List MR), (rs.foldl (ext most) L).length = L.length * (most + 1) ^ rs.length
  | [], L => by simp
  | r :: rs, L => by rw [List.foldl_cons, fold_len2 most rs, ext_len, List.length_cons, Nat.pow_succ, Nat.mul_assoc, Nat.mul_comm (most + 1)]
theorem all_len {most : Nat} (rs : List Int) (hr : rs.length ≤ 3) (hm : most ≤ 9) : (allR most rs).length ≤ 1000 ∧ (most ≤ 8 → (allR most rs).length ≤ 729) := by
  unfold allR
  rw [fold_len2, List.length_singleton, Nat.one_mul]
  have key : ∀ b : Nat, 1 ≤ b → b ^ rs.length ≤ b ^ 3 := fun b hb => Nat.pow_le_pow_right hb hr
  refine ⟨Nat.le_trans (key _ (by omega)) (Nat.le_trans (Nat.pow_le_pow_left (show most + 1 ≤ 10 by omega) 3) (by decide)), fun h => Nat.le_trans (key _ (by omega)) (Nat.le_trans (Nat.pow_le_pow_left (show most + 1 ≤ 9 by omega) 3) (by decide))⟩
theorem st_len {j : Nat} {st : List (Int × Ent)} {L : List MR} (h : OkS j st L) : st.length ≤ L.length := by
  have h1 := nodup_len (b := L.map (·.1)) h.nd fun x hx => by
    obtain ⟨q, hq, rfl⟩ := (key_st h).mp hx
    exact List.mem_map_of_mem hq
  rw [List.length_map, List.length_map] at h1
  exact h1
theorem fd_len {n s : Int} : ∀ (L : List MR) (fd : List (Int × List (List Nat))), (L.foldl (addF n s) fd).length ≤ fd.length + L.length
  | [], fd => Nat.le_refl _
  | q :: L, fd => by
    have ih := fd_len (n := n) (s := s) L (addF n s fd q)
    have : (addF n s fd q).length ≤ fd.length + 1 := by
      unfold addF
      split
      · exact putI_len _ _ _
      · omega
    rw [List.foldl_cons, List.length_cons]; omega
/-- what the program tells of a yard -/
structure Told (n s : Int) (rs : List Int) (most : Nat) (st : List (Int × Ent)) : Prop where
  oks : OkS rs.length st (allR most rs)
  tells : ∀ w : Int, m_tells [Y n s rs most, .int w] = ok (tD (valI st (n * w - s)))
  ways : ∀ w : Int, m_ways_to_tell [Y n s rs most, .int w] = ok (nI (cN (valI st (n * w - s))))
  tolds : m_told_weights [Y n s rs most] = ok (tI (told n s (st.map (·.1))))
theorem q_yard {n s : Int} {rs : List Int} {most : Nat} (hY : Yd n s rs most) : ∃ st, Told n s rs most st := by
  obtain ⟨st, h, hw⟩ := q_ways hY
  have := (all_len rs hY.rl hY.mo).1
  have := st_len h
  exact ⟨st, h, q_tells hY.n1 hw, q_ways_to hY.n1 hw, q_told hY.n1 hw (by omega)⟩
def lD (l : List (List Nat)) : D := .list (l.map (tu nI))
theorem rng25 : range2R [.int 0, .int 25] = ok ((List.range 25).map nI) := by
  show bd (req (rgOk 0 25)) (fun _ => ok (rngD 0 25)) = _
  rw [bd_req (by unfold rgOk; decide)]
  rfl
theorem ints_in' {l : List D} (h : l.all (inB 1 100) = true) : ∀ x ∈ intsOf l, 1 ≤ x ∧ x ≤ 100 := fun x hx => by
  have h2 : PyData.int x ∈ l := by rw [ints_of' h]; exact List.mem_map_of_mem hx
  have := List.all_eq_true.mp h _ h2
  simpa [inB] using this
theorem sort_ints {H : List Int} (hl : H.length ≤ 1000000) : sortedR [.list (H.map PyData.int)] = ok ((asc H).map PyData.int) := sort_tints hl
/-- a yard of the law -/
structure YL (n s : Int) (rs : List Int) (most : Nat) : Prop where
  y : Yd n s rs most
  p : 1 ≤ rs.length
  srt : asc rs = rs
  mo : 1 ≤ most ∧ most ≤ 8
  n1 : n ≤ 6
  s1 : -10 ≤ s ∧ s ≤ 10
theorem yd_true {n s : Int} {rs : List Int} {most : Nat} (h : YL n s rs most) : ydB (Y n s rs most) = true := by
  have a := h.y.n1
  have b := h.y.s1
  have c := h.mo
  have e : ydB (Y n s rs most) = (inB 1 50 (.int n) && inB (-1000) 1000 (.int s) && inB 1 50 (nI most) && rdB (tI rs)) := rfl
  have hi : intsOf (rs.map PyData.int) = rs := by
    have : ∀ l : List Int, intsOf (l.map PyData.int) = l := fun l => by
      induction l with
      | nil => rfl
      | cons x l ih => show x :: intsOf (l.map PyData.int) = _; rw [ih]
    exact this rs
  have r : rdB (tI rs) = true := by
    show ((decide (1 ≤ (rs.map PyData.int).length) && decide ((rs.map PyData.int).length ≤ 3)) && (rs.map PyData.int).all (inB 1 100) && decide (asc (intsOf (rs.map PyData.int)) = intsOf (rs.map PyData.int))) = true
    rw [hi, h.srt, List.length_map, decide_eq_true h.p, decide_eq_true h.y.rl, decide_eq_true rfl]
    rw [List.all_map]
    rw [List.all_eq_true.mpr fun x hx => by
      have := h.y.rw x hx
      simp [inB, this]]
    rfl
  rw [e, r]
  simp [inB, nI]
  omega
section
variable {a2 a3 a4 a5 a6 a7 a8 a9 a10 a11 a12 a13 a14 a15 a16 a17 a18 a19 a20 a21 a22 a23 : Sl} {post : Out → Prop}
theorem r_x0 (hp : ∀ rs : List Int, 1 ≤ rs.length → rs.length ≤ 3 → (∀ r ∈ rs, 1 ≤ r ∧ r ≤ 100) → asc rs = rs → post (.nx [.un, .box 2, a2, .dat (tI rs), a4, a5, a6, a7, a8, a9, a10, a11, a12, a13, a14, a15, a16, a17, a18, a19, a20, a21, a22, a23])) : x0 [.un, .box 2, a2, a3, a4, a5, a6, a7, a8, a9, a10, a11, a12, a13, a14, a15, a16, a17, a18, a19, a20, a21, a22, a23] post := by
  unfold x0
  rw [setM_e, m1_e, consR_e, frz_e, m1_e, consR_e, frz_e]
  simp only [bd_bd]
  refine bd_i ?_
  rw [lcM_e, m1_e, consR_e, m2_e, kR_e, bd_ok]
  simp only [bd_bd]
  refine drwB (n := 3) (getX_1 _ _ _) rfl (by decide) (by decide) fun k hk => ?_
  have hr : range1R [nI (1 + k)] = ok ((List.range (1 + k)).map nI) := range_e (1 + k) (by omega)
  rw [show addR (.int 1) (nI k) = ok (nI (1 + k)) from rfl]
  simp only [nilR_e, bd_ok, hr]
  refine lcM_dem (vs := [23]) (i := 23) (fi := fun _ => ok ((List.range (1 + k)).map nI)) (ρ := [.un, .box 2, a2, a3, a4, a5, a6, a7, a8, a9, a10, a11, a12, a13, a14, a15, a16, a17, a18, a19, a20, a21, a22, a23]) (te := m2 (kR (.int 1)) (callX 1 2 1 (consR (kR (.int 12)) nilR) m_law_draw) addR) (P := fun y => inB 1 100 y = true) rfl (fun d _ post hq => ?_) _ fun ys hl hw => ?_
  · rw [m2_e, kR_e, bd_ok]
    refine drwB (n := 12) (getX_1 _ _ _) rfl (by decide) (by decide) fun u hu => ?_
    refine hq _ ?_
    show inB 1 100 (.int (1 + (u : Int))) = true
    simp [inB]; omega
  · have hall : ys.all (inB 1 100) = true := List.all_eq_true.mpr hw
    have e := ints_of' hall
    have hin := ints_in' hall
    have hle := congrArg List.length e
    rw [List.length_map, hl, List.length_map, List.length_range] at hle
    generalize intsOf ys = M at *
    subst e
    have hal := (asc_perm M).length_eq
    simp only [bd_ok, nilR_e, sort_ints (H := M) (by omega)]
    rw [show tupOfR [.list ((asc M).map PyData.int)] = ok (tI (asc M)) from rfl, bd_ok]
    simp only [set_s, set_0]
    exact hp (asc M) (by omega) (by omega) (fun r hr => hin r ((asc_perm M).mem_iff.mp hr)) (asc_of (List.Perm.refl _) (asc_le _))
theorem r_x1 {rs : List Int} (h1 : 1 ≤ rs.length) (h3 : rs.length ≤ 3) (hw : ∀ r ∈ rs, 1 ≤ r ∧ r ≤ 100) (hs : asc rs = rs) (hp : ∀ n s most, YL n s rs most → post (.nx [.un, .box 2, a2, .dat (tI rs), .dat (Y n s rs most), a5, a6, a7, a8, a9, a10, a11, a12, a13, a14, a15, a16, a17, a18, a19, a20, a21, a22, a23])) : x1 [.un, .box 2, a2, .dat (tI rs), a4, a5, a6, a7, a8, a9, a10, a11, a12, a13, a14, a15, a16, a17, a18, a19, a20, a21, a22, a23] post := by
  have t4 : ∀ a b c d : D, tupR [a, b, c, d] = ok (.tuple [a, b, c, d]) := fun a b c d => tup_n (by simp)
  unfold x1
  rw [setM_e, m1_e, consR_e, m2_e, kR_e, bd_ok]
  simp only [bd_bd]
  refine drwB (n := 6) (getX_1 _ _ _) rfl (by decide) (by decide) fun a ha => ?_
  rw [show addR (.int 1) (nI a) = ok (.int (1 + (a : Int))) from rfl, bd_ok, consR_e, m2_e]
  simp only [bd_bd]
  refine drwB (n := 21) (getX_1 _ _ _) rfl (by decide) (by decide) fun b hb => ?_
  rw [kR_e, bd_ok, show subR (nI b) (.int 10) = ok (.int ((b : Int) - 10)) from rfl, bd_ok, consR_e]
  simp only [nDR_s, nDR_0, bd_ok]
  rw [consR_e, m2_e, kR_e, bd_ok]
  simp only [bd_bd]
  refine drwB (n := 8) (getX_1 _ _ _) rfl (by decide) (by decide) fun c hc => ?_
  rw [show addR (.int 1) (nI c) = ok (nI (1 + c)) from rfl]
  simp only [bd_ok, nilR_e, t4, set_s, set_0]
  exact hp (1 + (a : Int)) ((b : Int) - 10) (1 + c) ⟨⟨h3, hw, by omega, by omega, by omega⟩, h1, hs, by omega, by omega, by omega⟩
section
variable {n s : Int} {rs : List Int} {most : Nat}
theorem iy0 : ixR (Y n s rs most) (.int 0) = ok (.int n) := ixt0 _ _
theorem iy1 : ixR (Y n s rs most) (.int 1) = ok (.int s) := ixt1 _ _ _
theorem iy3 : ixR (Y n s rs most) (.int 3) = ok (nI most) := ixR_at (Pu.atI_nat (k := 3) (by simp))
theorem r_x2 (h : YL n s rs most) : x2 [.un, .box 2, a2, .dat (tI rs), .dat (Y n s rs most), a5, a6, a7, a8, a9, a10, a11, a12, a13, a14, a15, a16, a17, a18, a19, a20, a21, a22, a23] = ok (.nx [.un, .box 2, a2, .dat (tI rs), .dat (Y n s rs most), a5, a6, a7, a8, a9, a10, a11, a12, a13, a14, a15, a16, a17, a18, a19, a20, a21, a22, a23]) := by
  unfold x2
  simp only [ifV_e, m1_e, m2_e, consR_e, nilR_e, nDR_s, nDR_0, kR_e, bd_ok, callR_1, q_is_yard, yd_true h]
  rfl
def rwD (L : List MR) : D := .list ((L.map (·.2)).map (tu nI))
theorem r_x3 : x3 [.un, .box 2, a2, .dat (tI rs), .dat (Y n s rs most), a5, a6, a7, a8, a9, a10, a11, a12, a13, a14, a15, a16, a17, a18, a19, a20, a21, a22, a23] = ok (.nx [.un, .box 2, a2, .dat (tI rs), .dat (Y n s rs most), .dat (rwD [(0, [])]), a6, a7, a8, a9, a10, a11, a12, a13, a14, a15, a16, a17, a18, a19, a20, a21, a22, a23]) := by
  have t0 : tupR ([] : List D) = ok (.tuple []) := tup_n (by simp)
  unfold x3
  simp only [setM_e, frz_e, m1_e, consR_e, nilR_e, bd_ok, t0, lst1, set_s, set_0]
  rfl
theorem r_b4 {L : List MR} (hmo : most ≤ 8) (hl : L.length ≤ 1000) (hr : ∀ q ∈ L, q.2.length ≤ 10) (rd : Int) : b4 [.un, .box 2, a2, .dat (tI rs), .dat (Y n s rs most), .dat (rwD L), a6, a7, a8, a9, a10, a11, a12, a13, a14, a15, a16, a17, a18, a19, a20, a21, a22, a23] = ok (.nx [.un, .box 2, a2, .dat (tI rs), .dat (Y n s rs most), .dat (rwD (ext most L rd)), a6, a7, a8, a9, a10, a11, a12, a13, a14, a15, a16, a17, a18, a19, a20, a21, a22, a23]) := by
  have hin : ∀ row : List Nat, row.length ≤ 10 → frz (lcM [12] (m1 (consR (m2 (m2 (nDR 4) (kR (.int 3)) ixR) (kR (.int 1)) addR) nilR) range1R) (gSet 12) yesT (m2 (nDR 8) (m1 (consR (nDR 12) nilR) tupR) addR)) [.un, .box 2, a2, .dat (tI rs), .dat (Y n s rs most), .dat (rwD L), a6, a7, .dat (tu nI row), a9, a10, a11, a12, a13, a14, a15, a16, a17, a18, a19, a20, a21, a22, a23] = ok (.list (((List.range (most + 1)).map fun p => row ++ [p]).map (tu nI))) := fun row hrow => by
    rw [frz_e, lcM_map (f := nI) (l := List.range (most + 1)) (h := fun p => tu nI (row ++ [p])) (by
      simp only [m1_e, m2_e, consR_e, nilR_e, nDR_s, nDR_0, kR_e, bd_ok, iy3]
      exact range_e (most + 1) (by omega)) (fun p _ => by
      have ha : addR (tu nI row) (.tuple [nI p]) = ok (tu nI (row ++ [p])) := by
        show addR (.tuple (row.map nI)) (.tuple ([p].map nI)) = _
        rw [addT_n (by simp; omega), ← List.map_append]; rfl
      simp only [m1_e, m2_e, consR_e, nilR_e, wipeS, set_s, set_0, nDR_s, nDR_0, bd_ok, tup1, ha])]
    rw [bd_ok, List.map_map]; rfl
  unfold b4
  rw [setM_e, m1_e, consR_e, frz_e, lcM_map (f := tu nI) (l := L.map (·.2)) (h := fun row => .list (((List.range (most + 1)).map fun p => row ++ [p]).map (tu nI))) (itR_list rfl) (fun row hrow => by
    obtain ⟨q, hq, rfl⟩ := List.mem_map.mp hrow
    exact hin q.2 (hr q hq))]
  have e1 : ((L.map (·.2)).map fun row : List Nat => PyData.list (((List.range (most + 1)).map fun p => row ++ [p]).map (tu nI))) = ((L.map (·.2)).map fun row : List Nat => (List.range (most + 1)).map fun p => row ++ [p]).map fun x => PyData.list (x.map (tu nI)) := by rw [List.map_map (l := L.map (·.2))]; rfl
  have e2 : ((L.map (·.2)).map fun row : List Nat => (List.range (most + 1)).map fun p => row ++ [p]).flatten = (ext most L rd).map (·.2) := by
    unfold ext
    rw [List.map_flatMap, List.map_map, List.flatMap_def]
    congr 2
    funext q
    show _ = ((List.range (most + 1)).map fun p : Nat => (q.1 + rd * (p : Int), q.2 ++ [p])).map (·.2)
    rw [List.map_map]; rfl
  simp only [bd_ok, nilR_e, callR_1]
  rw [e1, q_flat (tu nI) _ (by rw [e2, List.length_map, ext_len]; exact Nat.le_trans (Nat.mul_le_mul hl (show most + 1 ≤ 10 by omega)) (by decide)), e2]
  simp only [bd_ok, set_s, set_0]
  rfl
theorem r_x4 (h : YL n s rs most) : ∃ v6, x4 [.un, .box 2, a2, .dat (tI rs), .dat (Y n s rs most), .dat (rwD [(0, [])]), a6, a7, a8, a9, a10, a11, a12, a13, a14, a15, a16, a17, a18, a19, a20, a21, a22, a23] = ok (.nx [.un, .box 2, a2, .dat (tI rs), .dat (Y n s rs most), .dat (rwD (allR most rs)), v6, a7, a8, a9, a10, a11, a12, a13, a14, a15, a16, a17, a18, a19, a20, a21, a22, a23]) := by
  let J : List Int → List Sl → Prop := fun dn ρ => ∃ v6, ρ = [.un, .box 2, a2, .dat (tI rs), .dat (Y n s rs most), .dat (rwD (allR most dn)), v6, a7, a8, a9, a10, a11, a12, a13, a14, a15, a16, a17, a18, a19, a20, a21, a22, a23]
  obtain ⟨ρ', e, v6, rfl⟩ := forF_J (f := PyData.int) (g := gSet 6) (tb := b4) J rs [] [.un, .box 2, a2, .dat (tI rs), .dat (Y n s rs most), .dat (rwD [(0, [])]), a6, a7, a8, a9, a10, a11, a12, a13, a14, a15, a16, a17, a18, a19, a20, a21, a22, a23] (fun dn r ρ ⟨rr, hdn⟩ ⟨u6, hρ⟩ => by
    subst hρ
    rw [List.nil_append] at hdn
    have hlen : dn.length ≤ 3 := by
      have := congrArg List.length hdn
      have := h.y.rl
      simp at *; omega
    have hal := (all_len (most := most) dn hlen h.y.mo).1
    refine ⟨_, ?_, .dat (.int r), rfl⟩
    rw [gSet_e, bd_ok]
    simp only [set_s, set_0]
    rw [r_b4 h.mo.2 hal (fun q hq => by rw [((invR_all most dn).m q hq).1]; omega) r]
    have : allR most (dn ++ [r]) = ext most (allR most dn) r := by unfold allR; rw [List.foldl_append]; rfl
    rw [this]) ⟨a6, rfl⟩
  refine ⟨v6, ?_⟩
  unfold x4
  rw [forM_e, show i4 [.un, .box 2, a2, .dat (tI rs), .dat (Y n s rs most), .dat (rwD [(0, [])]), a6, a7, a8, a9, a10, a11, a12, a13, a14, a15, a16, a17, a18, a19, a20, a21, a22, a23] = ok (rs.map PyData.int) from itR_tuple rfl, bd_ok, e, List.nil_append]
end
end
end K51

namespace K51
open PySem PySem.Spec PyProof.Rows L2 Pu
/-! ### the law's dict of weights -/
theorem l0 : lstR ([] : List D) = ok [] := lst_n (by simp)
theorem sub_len {n s : Int} {L : List MR} {fd : List (Int × List (List Nat))} (h : OkF n s fd L) (w : Int) : ((valI fd w).getD []).length ≤ L.length := by
  rw [h.v w, ofL_getD, List.length_map]
  exact List.length_filter_le _ _
section
variable {a2 a3 a4 a5 a6 a7 a8 a9 a10 a11 a12 a13 a14 a15 a16 a17 a18 a19 a20 a21 a22 a23 : Sl} {post : Out → Prop} {n s : Int} {rs : List Int} {most : Nat}
def foundD (n s : Int) (L : List MR) : List (Int × List (List Nat)) := L.foldl (addF n s) []
theorem r_x5 {w5 : Sl} : x5 [.un, .box 2, a2, .dat (tI rs), .dat (Y n s rs most), w5, a6, a7, a8, a9, a10, a11, a12, a13, a14, a15, a16, a17, a18, a19, a20, a21, a22, a23] = ok (.nx [.un, .box 2, a2, .dat (tI rs), .dat (Y n s rs most), w5, a6, .od (iD lD []), a8, a9, a10, a11, a12, a13, a14, a15, a16, a17, a18, a19, a20, a21, a22, a23]) := by
  unfold x5
  rw [setOD_e, emptyD_e, bd_ok]
  rfl
theorem r_b6 (h : YL n s rs most) {w5 : Sl} {L : List MR} (hL : L.length ≤ 1000) {q : MR} (hq : q.2.length = rs.length) (hm : momF rs q.2 = q.1) : ∃ v20, b6 [.un, .box 2, a2, .dat (tI rs), .dat (Y n s rs most), w5, a6, .od (iD lD (foundD n s L)), .dat (tu nI q.2), a9, a10, a11, a12, a13, a14, a15, a16, a17, a18, a19, a20, a21, a22, a23] = ok (.nx [.un, .box 2, a2, .dat (tI rs), .dat (Y n s rs most), w5, a6, .od (iD lD (foundD n s (L ++ [q]))), .dat (tu nI q.2), a9, a10, a11, a12, a13, a14, a15, a16, a17, a18, a19, v20, a21, a22, a23]) := by
  refine ⟨.dat (.int (s + q.1)), ?_⟩
  have hn := h.y.n1
  have dv : divOk n := ⟨by omega, .inl (by omega)⟩
  have hrl := h.y.rl
  have hf := okF_all (n := n) (s := s) hn.1 L
  have hfl := fd_len (n := n) (s := s) L []
  rw [List.length_nil, Nat.zero_add] at hfl
  have hfold : foundD n s (L ++ [q]) = addF n s (foundD n s L) q := by unfold foundD; rw [List.foldl_append]; rfl
  have hfd : fdivR (.int (s + q.1)) (.int n) = ok (.int ((s + q.1) / n)) := by rw [fdivR_int dv, Int.fdiv_eq_ediv_of_nonneg _ (by omega)]
  unfold b6
  rw [seqM_e, setM_e, m2_e, m2_e, m1_e, consR_e, frz_e, lcM_map (f := nI) (l := List.range rs.length) (h := fun k => .int (rs.getD k 0 * ((q.2.getD k 0 : Nat) : Int))) (by
    simp only [m1_e, consR_e, nilR_e, nDR_s, nDR_0, bd_ok, lenR_tuple, List.length_map]
    exact range_e _ (by omega)) (fun k hk => by
    have hk := List.mem_range.mp hk
    have e1 : ixR (tI rs) (nI k) = ok (.int (rs.getD k 0)) := by
      rw [ixt_n (by rw [List.length_map]; omega), List.getElem_map, List.getD_eq_getElem?_getD, List.getElem?_eq_getElem hk]; rfl
    have e2 : ixR (tu nI q.2) (nI k) = ok (nI (q.2.getD k 0)) := by
      show ixR (.tuple (q.2.map nI)) (nI k) = _
      rw [ixt_n (by rw [List.length_map]; omega), List.getElem_map, List.getD_eq_getElem?_getD, List.getElem?_eq_getElem (by omega)]; rfl
    have hb : (rs.getD k 0).natAbs ≤ 1000000 := by
      rw [List.getD_eq_getElem?_getD, List.getElem?_eq_getElem hk]
      have := h.y.rw _ (List.getElem_mem hk)
      simp; omega
    have e3 : mulR (.int (rs.getD k 0)) (nI (q.2.getD k 0)) = ok (.int (rs.getD k 0 * ((q.2.getD k 0 : Nat) : Int))) := K51.mul_w hb
    simp only [m1_e, m2_e, consR_e, nilR_e, wipeS, set_s, set_0, nDR_s, nDR_0, bd_ok, e1, e2, e3])]
  have hsum : sumR [.list ((List.range rs.length).map fun k => .int (rs.getD k 0 * ((q.2.getD k 0 : Nat) : Int)))] = ok (.int q.1) := by
    rw [sumR_li]
    show ok (PyData.int (momF rs q.2)) = _
    rw [hm]
  simp only [nDR_s, nDR_0, kR_e, bd_ok, iy1, nilR_e, hsum, addR_int, set_s, set_0, nxt_nx]
  rw [ifV_e, andT_e]
  simp only [m1_e (h := asB), m2_e, nDR_s, nDR_0, kR_e, bd_ok, iy0, geR_int, hfd, asB_bool]
  rw [mulR_int (.inr (.inl ⟨by omega, by omega⟩))]
  simp only [bd_ok, eqR_int, asB_bool]
  rw [hfold]
  unfold addF
  by_cases c1 : 0 ≤ s + q.1
  · rw [decide_eq_true c1, if_pos rfl, bd_ok]
    by_cases c2 : (s + q.1) / n * n = s + q.1
    · rw [decide_eq_true c2, if_pos rfl, if_pos ⟨c1, c2⟩, putM_e]
      have hg : (valG (iD lD (foundD n s L)) (.inl ((s + q.1) / n))).getD (.list []) = lD ((valI (foundD n s L) ((s + q.1) / n)).getD []) := by
        rw [val_iD]
        cases valI (foundD n s L) ((s + q.1) / n) <;> rfl
      have hsl := sub_len hf ((s + q.1) / n)
      have ha : addR (lD ((valI (foundD n s L) ((s + q.1) / n)).getD [])) (.list [tu nI q.2]) = ok (lD ((valI (foundD n s L) ((s + q.1) / n)).getD [] ++ [q.2])) := by
        show addR (.list (((valI (foundD n s L) ((s + q.1) / n)).getD []).map (tu nI))) (.list ([q.2].map (tu nI))) = _
        rw [addL_n (by
          rw [List.length_map, List.length_map, List.length_singleton]
          have h2 : ((valI (foundD n s L) ((s + q.1) / n)).getD []).length ≤ L.length := hsl
          omega), ← List.map_append]
        rfl
      rw [m2_e, getM2_e]
      simp only [frz_e, m1_e, m2_e, consR_e, nilR_e, nDR_s, nDR_0, kR_e, bd_ok, getOD_s, getOD_0, iy0, hfd, l0, keyR_int, hg, lst1, ha]
      rw [bd_req (by rw [show (iD lD (foundD n s L)).length = (foundD n s L).length from by simp [iD]]; exact Nat.lt_of_le_of_lt (Nat.le_trans hfl hL) (by decide)), put_iD]
      rfl
    · rw [decide_eq_false c2, if_neg (by simp), if_neg (fun z => c2 z.2), nilM_e]
  · rw [decide_eq_false c1, if_neg (by simp), bd_ok, if_neg (by simp), if_neg (fun z => c1 z.1), nilM_e]
theorem r_x6 (h : YL n s rs most) : ∃ v8 v20, x6 [.un, .box 2, a2, .dat (tI rs), .dat (Y n s rs most), .dat (rwD (allR most rs)), a6, .od (iD lD []), a8, a9, a10, a11, a12, a13, a14, a15, a16, a17, a18, a19, a20, a21, a22, a23] = ok (.nx [.un, .box 2, a2, .dat (tI rs), .dat (Y n s rs most), .dat (rwD (allR most rs)), a6, .od (iD lD (foundD n s (allR most rs))), v8, a9, a10, a11, a12, a13, a14, a15, a16, a17, a18, a19, v20, a21, a22, a23]) := by
  have hal := (all_len (most := most) rs h.y.rl h.y.mo).1
  let J : List MR → List Sl → Prop := fun dn ρ => ∃ v8 v20, ρ = [.un, .box 2, a2, .dat (tI rs), .dat (Y n s rs most), .dat (rwD (allR most rs)), a6, .od (iD lD (foundD n s dn)), v8, a9, a10, a11, a12, a13, a14, a15, a16, a17, a18, a19, v20, a21, a22, a23]
  obtain ⟨ρ', e, v8, v20, rfl⟩ := forF_J (f := fun q : MR => tu nI q.2) (g := gSet 8) (tb := b6) J (allR most rs) [] [.un, .box 2, a2, .dat (tI rs), .dat (Y n s rs most), .dat (rwD (allR most rs)), a6, .od (iD lD []), a8, a9, a10, a11, a12, a13, a14, a15, a16, a17, a18, a19, a20, a21, a22, a23] (fun dn q ρ ⟨rr, hdn⟩ ⟨u8, u20, hρ⟩ => by
    subst hρ
    rw [List.nil_append] at hdn
    have hq : q ∈ allR most rs := by rw [← hdn]; simp
    have hlen : dn.length ≤ 1000 := by
      have := congrArg List.length hdn
      simp at this; omega
    obtain ⟨h1, h2⟩ := (invR_all most rs).m q hq
    obtain ⟨v20, e⟩ := r_b6 (a2 := a2) (a6 := a6) (a9 := a9) (a10 := a10) (a11 := a11) (a12 := a12) (a13 := a13) (a14 := a14) (a15 := a15) (a16 := a16) (a17 := a17) (a18 := a18) (a19 := a19) (a20 := u20) (a21 := a21) (a22 := a22) (a23 := a23) h (w5 := .dat (rwD (allR most rs))) hlen h1 h2
    refine ⟨_, ?_, .dat (tu nI q.2), v20, rfl⟩
    rw [gSet_e, bd_ok]
    simp only [set_s, set_0]
    exact e) ⟨a8, a20, rfl⟩
  refine ⟨v8, v20, ?_⟩
  unfold x6
  rw [forM_e, show i6 [.un, .box 2, a2, .dat (tI rs), .dat (Y n s rs most), .dat (rwD (allR most rs)), a6, .od (iD lD []), a8, a9, a10, a11, a12, a13, a14, a15, a16, a17, a18, a19, a20, a21, a22, a23] = ok ((allR most rs).map fun q : MR => tu nI q.2) from by
    unfold i6
    rw [itR_list (l := ((allR most rs).map (·.2)).map (tu nI)) rfl, List.map_map]; rfl, bd_ok, e, List.nil_append]
theorem pl_told {T : List Int} (h : T.length ≤ 1000) : Pl 19 (tI T) := pl_tup (n := 18) (by rw [List.length_map]; exact h) fun x hx => by
  obtain ⟨i, _, rfl⟩ := List.mem_map.mp hx
  exact pl_int _ _
theorem fdl (h : YL n s rs most) : (foundD n s (allR most rs)).length ≤ 729 := by
  have h1 := fd_len (n := n) (s := s) (allR most rs) []
  rw [List.length_nil, Nat.zero_add] at h1
  exact Nat.le_trans h1 ((all_len (most := most) rs h.y.rl h.y.mo).2 h.mo.2)
theorem r_x7 (h : YL n s rs most) {st : List (Int × Ent)} (ht : Told n s rs most st) : x7 [.un, .box 2, a2, .dat (tI rs), .dat (Y n s rs most), a5, a6, .od (iD lD (foundD n s (allR most rs))), a8, a9, a10, a11, a12, a13, a14, a15, a16, a17, a18, a19, a20, a21, a22, a23] = ok (.nx [.un, .box 2, a2, .dat (tI rs), .dat (Y n s rs most), a5, a6, .od (iD lD (foundD n s (allR most rs))), a8, a9, a10, a11, a12, a13, a14, a15, a16, a17, a18, a19, a20, a21, a22, a23]) := by
  have hf := okF_all (n := n) (s := s) h.y.n1.1 (allR most rs)
  have e1 : told n s (st.map (·.1)) = asc ((foundD n s (allR most rs)).map (·.1)) := told_fd h.y.n1.1 ht.oks hf
  have e2 := ht.tolds
  rw [e1] at e2
  have e3 : m_law_same 20 [tI (asc ((foundD n s (allR most rs)).map (·.1))), tI (asc ((foundD n s (allR most rs)).map (·.1)))] = ok (.bool true) := same_ok (pl_told (by
    rw [(asc_perm _).length_eq, List.length_map]
    exact Nat.le_trans (fdl h) (by decide)))
  unfold x7
  rw [ifV_e, notT_e, m1_e, m1_e, consR_e, m1_e, consR_e, consR_e, m1_e, consR_e, frz_e, show srtAM 7 [.un, .box 2, a2, .dat (tI rs), .dat (Y n s rs most), a5, a6, .od (iD lD (foundD n s (allR most rs))), a8, a9, a10, a11, a12, a13, a14, a15, a16, a17, a18, a19, a20, a21, a22, a23] = ok ((asc ((foundD n s (allR most rs)).map (·.1))).map PyData.int) from srt_iD lD _]
  simp only [nDR_s, nDR_0, nilR_e, bd_ok, callR_1, e2, show ∀ l : List D, tupOfR [.list l] = ok (.tuple l) from fun _ => rfl, callR_2, e3, truR_bool, Bool.not_true, Bool.false_eq_true, if_false, nilM_e]
theorem val_some {α : Type} (l : List (Int × α)) (k : Int) : (valI l k).isSome = decide (k ∈ l.map (·.1)) := by
  by_cases h : k ∈ l.map (·.1)
  · obtain ⟨a, ha⟩ := valI_mem h
    rw [ha, decide_eq_true h]; rfl
  · rw [decide_eq_false h]
    cases hv : valI l k with
    | none => rfl
    | some a => exact absurd (List.mem_map_of_mem (f := fun p : Int × α => p.1) (mem_of_valI hv)) h
def gaps (n s : Int) (L : List MR) : List Nat := (List.range ((foundD n s L).length + 1)).filter fun k : Nat => !decide ((k : Int) ∈ (foundD n s L).map (·.1))
theorem r_x8 (h : YL n s rs most) : x8 [.un, .box 2, a2, .dat (tI rs), .dat (Y n s rs most), a5, a6, .od (iD lD (foundD n s (allR most rs))), a8, a9, a10, a11, a12, a13, a14, a15, a16, a17, a18, a19, a20, a21, a22, a23] = ok (.nx [.un, .box 2, a2, .dat (tI rs), .dat (Y n s rs most), a5, a6, .od (iD lD (foundD n s (allR most rs))), a8, .dat (.list ((gaps n s (allR most rs)).map nI)), a10, a11, a12, a13, a14, a15, a16, a17, a18, a19, a20, a21, a22, a23]) := by
  have hl := fdl h
  generalize allR most rs = L at *
  have hd : ∀ ρ : List Sl, getOD ρ 7 = ok (iD lD (foundD n s L)) → lenDM 7 ρ = ok (nI (foundD n s L).length) := fun ρ hρ => by
    show bd (getOD ρ 7) (fun ds => ok (PyData.int ds.length)) = _
    rw [hρ, bd_ok, show (iD lD (foundD n s L)).length = (foundD n s L).length from by simp [iD]]
    rfl
  have hni : ∀ (ρ : List Sl) (k : Nat), getOD ρ 7 = ok (iD lD (foundD n s L)) → nDR 10 ρ = ok (nI k) → notInDM 7 (nDR 10) ρ = ok (.bool (!decide ((k : Int) ∈ (foundD n s L).map (·.1)))) := fun ρ k hρ hk => by
    show bd (nDR 10 ρ) (fun d => bd (keyR d) fun kk => bd (getOD ρ 7) fun ds => ok (PyData.bool (!(valG ds kk).isSome))) = _
    rw [hk, bd_ok, show keyR (nI k) = ok (.inl (k : Int)) from rfl, bd_ok, hρ, bd_ok, val_iD, Option.isSome_map, val_some]
  unfold x8
  rw [setM_e, frz_e, lcM_set (f := nI) (l := List.range ((foundD n s L).length + 1)) (p := fun k : Nat => !decide ((k : Int) ∈ (foundD n s L).map (·.1))) (h := nI) (by
    rw [m1_e, consR_e, m2_e, hd _ rfl]
    simp only [kR_e, nilR_e, bd_ok]
    rw [show addR (nI (foundD n s L).length) (.int 1) = ok (nI ((foundD n s L).length + 1)) from rfl, bd_ok, bd_ok]
    exact range_e _ (by omega)) (fun k _ => by
    rw [m1_e, hni _ k rfl rfl, bd_ok, asB_bool]) (fun k _ _ => rfl)]
  simp only [bd_ok, set_s, set_0]
  rfl
theorem r_x9 (h : YL n s rs most) {st : List (Int × Ent)} (ht : Told n s rs most st) {w7 : Sl} : x9 [.un, .box 2, a2, .dat (tI rs), .dat (Y n s rs most), a5, a6, w7, a8, .dat (.list ((gaps n s (allR most rs)).map nI)), a10, a11, a12, a13, a14, a15, a16, a17, a18, a19, a20, a21, a22, a23] = ok (.nx [.un, .box 2, a2, .dat (tI rs), .dat (Y n s rs most), a5, a6, w7, a8, .dat (.list ((gaps n s (allR most rs)).map nI)), a10, a11, a12, a13, a14, a15, a16, a17, a18, a19, a20, a21, a22, a23]) := by
  have hf := okF_all (n := n) (s := s) h.y.n1.1 (allR most rs)
  have e1 : told n s (st.map (·.1)) = asc ((foundD n s (allR most rs)).map (·.1)) := told_fd h.y.n1.1 ht.oks hf
  have hT := told_lt (s := s) h.y.n1.1 ht.oks.nd
  obtain ⟨w, h1, h2, e⟩ := q_first hT ht.tolds
  rw [e1] at h1 h2 hT
  obtain ⟨r, hg⟩ := gap_e hT (N := (foundD n s (allR most rs)).length) (by rw [(asc_perm _).length_eq, List.length_map]; exact Nat.le_refl _) h1 h2
  have hg' : gaps n s (allR most rs) = w :: r := by
    rw [← hg]
    unfold gaps
    refine List.filter_congr fun k _ => ?_
    rw [show decide ((k : Int) ∈ (foundD n s (allR most rs)).map (·.1)) = decide ((k : Int) ∈ asc ((foundD n s (allR most rs)).map (·.1))) from decide_eq_decide.mpr (asc_perm _).mem_iff.symm]
  rw [hg']
  have e3 : m_law_same 20 [nI w, nI w] = ok (.bool true) := same_ok (pl_int _ _)
  unfold x9
  rw [ifV_e, notT_e, m1_e, m1_e, consR_e, m1_e, consR_e, consR_e, m2_e]
  simp only [nDR_s, nDR_0, kR_e, nilR_e, bd_ok, callR_1, e, List.map_cons, ixl0, callR_2, e3, truR_bool, Bool.not_true, Bool.false_eq_true, if_false, nilM_e]
theorem pl_tD (o : Option Ent) (h : ∀ e, o = some e → e.1.length ≤ 1000) : Pl 18 (tD o) := by
  cases o with
  | none => exact pl_none _
  | some e => exact pl_tu (n := 17) (h e rfl) fun x _ => pl_int _ _
theorem r_b10 (h : YL n s rs most) {st : List (Int × Ent)} (ht : Told n s rs most st) {w9 : Sl} (w : Nat) : ∃ v21, b10 [.un, .box 2, a2, .dat (tI rs), .dat (Y n s rs most), a5, a6, .od (iD lD (foundD n s (allR most rs))), a8, w9, .dat (nI w), a11, a12, a13, a14, a15, a16, a17, a18, a19, a20, a21, a22, a23] = ok (.nx [.un, .box 2, a2, .dat (tI rs), .dat (Y n s rs most), a5, a6, .od (iD lD (foundD n s (allR most rs))), a8, w9, .dat (nI w), a11, a12, a13, a14, a15, a16, a17, a18, a19, a20, v21, a22, a23]) := by
  have hf := okF_all (n := n) (s := s) h.y.n1.1 (allR most rs)
  have hh := here_e ht.oks hf w
  have hlen : ∀ e, valI st (n * (w : Int) - s) = some e → e.1.length ≤ 1000 := fun e he => by
    have h1 := (ht.oks.so _ e he).1
    have h2 : e.1.length = rs.length := ht.oks.len _ h1
    have h3 := h.y.rl
    omega
  have et := ht.tells (w : Int)
  have ew := ht.ways (w : Int)
  have hg : (valG (iD lD (foundD n s (allR most rs))) (.inl (w : Int))).getD (.list []) = lD ((valI (foundD n s (allR most rs)) (w : Int)).getD []) := by
    rw [val_iD]
    cases valI (foundD n s (allR most rs)) (w : Int) <;> rfl
  refine ⟨.dat (lD ((valI (foundD n s (allR most rs)) (w : Int)).getD [])), ?_⟩
  unfold b10
  rw [seqM_e, setM_e, getM2_e]
  simp only [frz_e, m1_e, nilR_e, nDR_s, nDR_0, bd_ok, getOD_s, getOD_0, l0, show keyR (nI w) = ok (.inl (w : Int)) from rfl, hg, set_s, set_0, nxt_nx]
  have hh' : (valI st (n * (w : Int) - s) = none ∧ (valI (foundD n s (allR most rs)) (w : Int)).getD [] = []) ∨ ∃ e, valI st (n * (w : Int) - s) = some e ∧ e.1 ∈ (valI (foundD n s (allR most rs)) (w : Int)).getD [] ∧ (∀ r ∈ (valI (foundD n s (allR most rs)) (w : Int)).getD [], lt r e.1 = false) ∧ e.2 = ((valI (foundD n s (allR most rs)) (w : Int)).getD []).length := hh
  generalize (valI (foundD n s (allR most rs)) (w : Int)).getD [] = l at *
  have hln : lenR [lD l] = ok (nI l.length) := by show ok (PyData.int ((l.map (tu nI)).length : Int)) = _; rw [List.length_map]; rfl
  have h2 : (ifV (m1 (m2 (m1 (consR (nDR 21) nilR) lenR) (kR (.int 0)) gtR) asB) (m1 (consR (nDR 21) nilR) minR) (kR .none)) [.un, .box 2, a2, .dat (tI rs), .dat (Y n s rs most), a5, a6, .od (iD lD (foundD n s (allR most rs))), a8, w9, .dat (nI w), a11, a12, a13, a14, a15, a16, a17, a18, a19, a20, .dat (lD l), a22, a23] = ok (tD (valI st (n * (w : Int) - s))) := by
    rw [ifV_e]
    simp only [m1_e, m2_e, consR_e, nilR_e, nDR_s, nDR_0, kR_e, bd_ok, hln]
    rw [show gtR (nI l.length) (.int 0) = ok (.bool (decide (0 < l.length))) from by
      show gtR (.int _) (.int 0) = _
      rw [gtR_int]
      congr 2
      exact decide_eq_decide.mpr (by omega)]
    rw [bd_ok, asB_bool, bd_ok]
    rcases hh' with ⟨e1, e2⟩ | ⟨e, e1, e2, e3, _⟩
    · rw [e1, e2]; rfl
    · rw [decide_eq_true (List.length_pos_of_mem e2), if_pos rfl, e1]
      exact min_is e2 e3
  have h3 : l.length = cN (valI st (n * (w : Int) - s)) := by
    rcases hh' with ⟨e1, e2⟩ | ⟨e, e1, _, _, e4⟩
    · rw [e1, e2]; rfl
    · rw [e1]; exact e4.symm
  have e5 : m_law_same 20 [.tuple [tD (valI st (n * (w : Int) - s)), nI (cN (valI st (n * (w : Int) - s)))], .tuple [tD (valI st (n * (w : Int) - s)), nI (cN (valI st (n * (w : Int) - s)))]] = ok (.bool true) := same_ok (pl_tup (n := 18) (by simp) fun x hx => by
    simp only [List.mem_cons, List.not_mem_nil, or_false] at hx
    rcases hx with rfl | rfl
    · exact pl_tD _ hlen
    · exact pl_int _ _)
  rw [ifV_e, notT_e, m1_e, m1_e, consR_e, m1_e, consR_e, m1_e, consR_e, consR_e, consR_e, m1_e, consR_e, consR_e, consR_e, m1_e, consR_e, h2, consR_e, m1_e, consR_e]
  have et' : m_tells [Y n s rs most, nI w] = ok (tD (valI st (n * (w : Int) - s))) := et
  have ew' : m_ways_to_tell [Y n s rs most, nI w] = ok (nI (cN (valI st (n * (w : Int) - s)))) := ew
  simp only [nDR_s, nDR_0, nilR_e, bd_ok, callR_2, et', ew', tup2, hln, h3, e5, truR_bool, Bool.not_true, Bool.false_eq_true, if_false, nilM_e]
theorem r_x10 (h : YL n s rs most) {st : List (Int × Ent)} (ht : Told n s rs most st) {w9 : Sl} : ∃ v10 v21, x10 [.un, .box 2, a2, .dat (tI rs), .dat (Y n s rs most), a5, a6, .od (iD lD (foundD n s (allR most rs))), a8, w9, a10, a11, a12, a13, a14, a15, a16, a17, a18, a19, a20, a21, a22, a23] = ok (.nx [.un, .box 2, a2, .dat (tI rs), .dat (Y n s rs most), a5, a6, .od (iD lD (foundD n s (allR most rs))), a8, w9, v10, a11, a12, a13, a14, a15, a16, a17, a18, a19, a20, v21, a22, a23]) := by
  let J : List Nat → List Sl → Prop := fun dn ρ => ∃ v10 v21, ρ = [.un, .box 2, a2, .dat (tI rs), .dat (Y n s rs most), a5, a6, .od (iD lD (foundD n s (allR most rs))), a8, w9, v10, a11, a12, a13, a14, a15, a16, a17, a18, a19, a20, v21, a22, a23]
  obtain ⟨ρ', e, v10, v21, rfl⟩ := forF_J (f := nI) (g := gSet 10) (tb := b10) J (List.range 25) [] [.un, .box 2, a2, .dat (tI rs), .dat (Y n s rs most), a5, a6, .od (iD lD (foundD n s (allR most rs))), a8, w9, a10, a11, a12, a13, a14, a15, a16, a17, a18, a19, a20, a21, a22, a23] (fun dn w ρ _ ⟨u10, u21, hρ⟩ => by
    subst hρ
    obtain ⟨v21, e⟩ := r_b10 (a2 := a2) (a5 := a5) (a6 := a6) (a8 := a8) (a11 := a11) (a12 := a12) (a13 := a13) (a14 := a14) (a15 := a15) (a16 := a16) (a17 := a17) (a18 := a18) (a19 := a19) (a20 := a20) (a21 := u21) (a22 := a22) (a23 := a23) h ht (w9 := w9) w
    refine ⟨_, ?_, .dat (nI w), v21, rfl⟩
    rw [gSet_e, bd_ok]
    simp only [set_s, set_0]
    exact e) ⟨a10, a21, rfl⟩
  refine ⟨v10, v21, ?_⟩
  unfold x10
  rw [forM_e]
  unfold i10
  simp only [m1_e, consR_e, nilR_e, kR_e, bd_ok, rng25]
  rw [e]
end
end K51

namespace K51
open PySem PySem.Spec PyProof.Rows L2 Pu
/-! ### marks, powers, values -/
theorem rd_int (n : Int) : PyData.tuple [.int n, .int 1] = rd ((n : Int) : Rat) := rfl
theorem sz_q {a n : Int} (hn : 1 ≤ n ∧ n ≤ 50) (ha : a.natAbs < 32000) : Sz 15 (Rt.q a n) := by
  have e1 := Rt.num_pos (p := a) (k := n) (by omega)
  have e2 := Rt.den_pos (p := a) (k := n) (by omega)
  have hg := Rt.gcd_pos (p := a) (k := n) (by omega)
  rw [Int.fdiv_eq_ediv_of_nonneg _ (by omega)] at e1 e2
  refine ⟨?_, ?_⟩
  · show (Rt.q a n).num.natAbs < 2 ^ 15
    rw [← e1]
    have := Int.natAbs_ediv_le_natAbs a (Int.gcd a n : Int)
    omega
  · show ((Rt.q a n).den : Int).natAbs < 2 ^ 15
    rw [← e2]
    have := Int.natAbs_ediv_le_natAbs n (Int.gcd a n : Int)
    omega
theorem sz_i {n : Int} (hn : 1 ≤ n ∧ n ≤ 50) : Sz 15 ((n : Int) : Rat) := ⟨show n.natAbs < 2 ^ 15 by omega, show ((1 : Nat) : Int).natAbs < 2 ^ 15 by decide⟩
theorem q_cancel {a n : Int} (hn : 1 ≤ n) : Rt.q a n * ((n : Int) : Rat) = ((a : Int) : Rat) := by
  unfold Rt.q
  exact Rat.div_mul_cancel (by intro e; have : n = 0 := (by exact_mod_cast e); omega)
def pr (B m : Nat) : List Int := ([1, (B : Int), (B : Int) * (B : Int)] : List Int).take m
def tp (B m : Nat) : Nat := B ^ m
def chk (B m : Nat) : Bool := ((List.range (tp B m)).all fun w : Nat => (allR (B - 1) (pr B m)).countP (fun q => decide (q.1 = (w : Int))) == 1) && (allR (B - 1) (pr B m)).all fun q => decide (q.1 < (tp B m : Int)) && (pr B m).all fun r => decide (1 ≤ r ∧ r ≤ 100)
theorem chk_all : ∀ B, B < 6 → 2 ≤ B → ∀ m, m < 4 → 1 ≤ m → chk B m = true := by decide +kernel
theorem pr_len {B m : Nat} (hm : m ≤ 3) : (pr B m).length = m := by unfold pr; rw [List.length_take]; simp; omega
theorem pr_w : ∀ B, B < 6 → 2 ≤ B → ∀ m, m < 4 → ∀ r ∈ pr B m, 1 ≤ r ∧ r ≤ 100 := by decide +kernel
theorem pow_facts {B m : Nat} (hB : 2 ≤ B ∧ B ≤ 5) (hm : 1 ≤ m ∧ m ≤ 3) : Yd 1 0 (pr B m) (B - 1) ∧ (∀ w : Nat, w < tp B m → (allR (B - 1) (pr B m)).countP (fun q => decide (q.1 = (w : Int))) = 1) ∧ ∀ q ∈ allR (B - 1) (pr B m), q.1 < (tp B m : Int) := by
  have h := chk_all B (by omega) hB.1 m (by omega) hm.1
  unfold chk at h
  rw [Bool.and_eq_true] at h
  refine ⟨⟨by rw [pr_len hm.2]; exact hm.2, pr_w B (by omega) hB.1 m (by omega), by omega, by omega, by omega⟩, fun w hw => ?_, fun q hq => ?_⟩
  · have := List.all_eq_true.mp h.1 w (List.mem_range.mpr hw)
    simpa using this
  · have := List.all_eq_true.mp h.2 q hq
    rw [Bool.and_eq_true, decide_eq_true_eq] at this
    exact this.1
theorem pow_first {B m : Nat} (hB : 2 ≤ B ∧ B ≤ 5) (hm : 1 ≤ m ∧ m ≤ 3) : ∃ st, Told 1 0 (pr B m) (B - 1) st ∧ m_first_untold [Y 1 0 (pr B m) (B - 1)] = ok (nI (tp B m)) ∧ ∀ w : Nat, w < tp B m → m_ways_to_tell [Y 1 0 (pr B m) (B - 1), nI w] = ok (nI 1) := by
  obtain ⟨hY, h1, h2⟩ := pow_facts hB hm
  obtain ⟨st, ht⟩ := q_yard hY
  obtain ⟨v, g1, g2, e⟩ := q_first (told_lt (s := 0) (by omega) ht.oks.nd) ht.tolds
  have mem : ∀ w : Nat, ((w : Int) ∈ told 1 0 (st.map (·.1))) ↔ ∃ q ∈ allR (B - 1) (pr B m), q.1 = (w : Int) := fun w => by
    rw [told_mem (by omega), key_st ht.oks]
    constructor
    · rintro ⟨_, q, hq, e⟩; exact ⟨q, hq, by omega⟩
    · rintro ⟨q, hq, e⟩; exact ⟨by omega, q, hq, by omega⟩
  have hv : v = tp B m := by
    rcases Nat.lt_trichotomy v (tp B m) with h | h | h
    · exfalso
      have hc := h1 v h
      have : 0 < (allR (B - 1) (pr B m)).countP fun q => decide (q.1 = (v : Int)) := by omega
      obtain ⟨q, hq, hqv⟩ := List.countP_pos_iff.mp this
      exact g1 ((mem v).mpr ⟨q, hq, of_decide_eq_true hqv⟩)
    · exact h
    · exfalso
      obtain ⟨q, hq, hqv⟩ := (mem (tp B m)).mp (g2 (tp B m) h)
      have := h2 q hq
      omega
  refine ⟨st, ht, by rw [e, hv], fun w hw => ?_⟩
  have e2 := ht.ways (w : Int)
  have e3 : cN (valI st (1 * (w : Int) - 0)) = 1 := by
    have hc := h1 w hw
    have hp : 0 < (allR (B - 1) (pr B m)).countP fun q => decide (q.1 = (w : Int)) := by omega
    obtain ⟨q, hq, hqv⟩ := List.countP_pos_iff.mp hp
    have hqv := of_decide_eq_true hqv
    rw [show 1 * (w : Int) - 0 = (w : Int) by omega]
    cases hvv : valI st (w : Int) with
    | none => exact absurd hqv (ht.oks.no _ hvv q hq)
    | some e => exact ((ht.oks.so _ e hvv).2.2).trans hc
  rw [e3] at e2
  exact e2
section
variable {a2 a3 a4 a5 a6 a7 a8 a9 a10 a11 a12 a13 a14 a15 a16 a17 a18 a19 a20 a21 a22 a23 : Sl} {post : Out → Prop} {n s : Int} {rs : List Int} {most : Nat}
theorem r_x11 (h : YL n s rs most) : ∃ r, 1 ≤ r ∧ r ≤ 100 ∧ ixR (tI rs) (.int 0) = ok (.int r) ∧ x11 [.un, .box 2, a2, .dat (tI rs), .dat (Y n s rs most), a5, a6, a7, a8, a9, a10, a11, a12, a13, a14, a15, a16, a17, a18, a19, a20, a21, a22, a23] = ok (.nx [.un, .box 2, a2, .dat (tI rs), .dat (Y n s rs most), a5, a6, a7, a8, a9, a10, .dat (Y n s [r] most), a12, a13, a14, a15, a16, a17, a18, a19, a20, a21, a22, a23]) := by
  have hp := h.p
  have hw := h.y.rw
  match rs, hp, hw with
  | r :: M, _, hw =>
    have hr := hw r List.mem_cons_self
    refine ⟨r, hr.1, hr.2, ixt0 _ _, ?_⟩
    have c1 : cutG [PyData.int n, .int s, tI (r :: M), nI most] none (some 2) = [.int n, .int s] := cut_lo (k := 2)
    have c2 : cutG ((r :: M).map PyData.int) none (some 1) = [.int r] := cut_lo (k := 1)
    have s1 : slR (Y n s (r :: M) most) none (some 2) = ok (.tuple [.int n, .int s]) := by rw [show Y n s (r :: M) most = .tuple [.int n, .int s, tI (r :: M), nI most] from rfl, slR_t, c1]
    have s2 : slR (tI (r :: M)) none (some 1) = ok (.tuple [.int r]) := by rw [slR_t, c2]
    have a1 : addR (.tuple [.int n, .int s]) (.tuple [.tuple [.int r], nI most]) = ok (Y n s [r] most) := addT_n (by simp)
    unfold x11
    simp only [setM_e, m1_e, m2_e, m3_e, consR_e, nilR_e, nDR_s, nDR_0, noR_e, kR_e, asI_int, bd_ok, s1, s2, iy3, tup2, a1, set_s, set_0]
theorem r_x12 (h : YL n s rs most) {w11 : Sl} (hp : ∀ p : Nat, p ≤ most → post (.nx [.un, .box 2, a2, .dat (tI rs), .dat (Y n s rs most), a5, a6, a7, a8, a9, a10, w11, .dat (nI p), a13, a14, a15, a16, a17, a18, a19, a20, a21, a22, a23])) : x12 [.un, .box 2, a2, .dat (tI rs), .dat (Y n s rs most), a5, a6, a7, a8, a9, a10, w11, a12, a13, a14, a15, a16, a17, a18, a19, a20, a21, a22, a23] post := by
  have hm := h.mo
  unfold x12
  rw [setM_e]
  refine drwB (n := ((most + 1 : Nat) : Int)) (getX_1 _ _ _) (by
    simp only [m2_e, consR_e, nilR_e, nDR_s, nDR_0, kR_e, bd_ok, iy3]
    rfl) (by omega) (by omega) fun p hpp => ?_
  simp only [set_s, set_0]
  exact hp p (by omega)
theorem r_x13 (h : YL n s rs most) {r : Int} (hr : 1 ≤ r ∧ r ≤ 100) (p : Nat) : x13 [.un, .box 2, a2, .dat (tI rs), .dat (Y n s rs most), a5, a6, a7, a8, a9, a10, .dat (Y n s [r] most), .dat (nI p), a13, a14, a15, a16, a17, a18, a19, a20, a21, a22, a23] = ok (.nx [.un, .box 2, a2, .dat (tI rs), .dat (Y n s rs most), a5, a6, a7, a8, a9, a10, .dat (Y n s [r] most), .dat (nI p), .dat (rd (Rt.q (s + r * (p : Int)) n)), a14, a15, a16, a17, a18, a19, a20, a21, a22, a23]) := by
  have e : m_mark_at [Y n s [r] most, nI p] = ok (rd (Rt.q (s + r * (p : Int)) n)) := q_mark h.y.n1 hr (p : Int)
  unfold x13
  simp only [setM_e, m1_e, consR_e, nilR_e, nDR_s, nDR_0, bd_ok, callR_2, e, set_s, set_0]
theorem r_x14 (h : YL n s rs most) {r : Int} (hr : 1 ≤ r ∧ r ≤ 100) (hx : ixR (tI rs) (.int 0) = ok (.int r)) {p : Nat} (hp : p ≤ most) {w11 : Sl} : x14 [.un, .box 2, a2, .dat (tI rs), .dat (Y n s rs most), a5, a6, a7, a8, a9, a10, w11, .dat (nI p), .dat (rd (Rt.q (s + r * (p : Int)) n)), a14, a15, a16, a17, a18, a19, a20, a21, a22, a23] = ok (.nx [.un, .box 2, a2, .dat (tI rs), .dat (Y n s rs most), a5, a6, a7, a8, a9, a10, w11, .dat (nI p), .dat (rd (Rt.q (s + r * (p : Int)) n)), a14, a15, a16, a17, a18, a19, a20, a21, a22, a23]) := by
  have hm := h.mo
  have hs := h.s1
  have hrp : r * (p : Int) ≤ 100 * 8 := Int.mul_le_mul hr.2 (by omega) (by omega) (by omega)
  have hrp0 : 0 ≤ r * (p : Int) := Int.mul_nonneg (by omega) (by omega)
  have e1 : m_law_mul [rd (Rt.q (s + r * (p : Int)) n), .tuple [.int n, .int 1]] = ok (.tuple [.int (s + r * (p : Int)), .int 1]) := by
    rw [rd_int, q_law_mul (sz_q h.y.n1 (by omega)) (sz_i h.y.n1), q_cancel h.y.n1.1, rd_int]
  have e2 : mulR (.int r) (nI p) = ok (.int (r * (p : Int))) := K51.mul_w (by omega)
  have e3 : m_law_same 20 [.tuple [.int (s + r * (p : Int)), .int 1], .tuple [.int (s + r * (p : Int)), .int 1]] = ok (.bool true) := same_ok (pl_tup (n := 18) (by simp) fun x hx => by
    simp only [List.mem_cons, List.not_mem_nil, or_false] at hx
    rcases hx with rfl | rfl <;> exact pl_int _ _)
  unfold x14
  rw [ifV_e, notT_e, m1_e, m1_e, consR_e, m1_e, consR_e, consR_e, m1_e, consR_e, m2_e, consR_e, consR_e, m1_e, consR_e, m2_e, m2_e, m2_e, m2_e]
  simp only [nDR_s, nDR_0, kR_e, nilR_e, bd_ok, iy0, iy1, hx, tup2, callR_2, e1, e2, addR_int, consR_e, e3, truR_bool, Bool.not_true, Bool.false_eq_true, if_false, nilM_e]
theorem r_x15 (h : YL n s rs most) {r : Int} (hr : 1 ≤ r ∧ r ≤ 100) {p : Nat} (hp : p ≤ most) : x15 [.un, .box 2, a2, .dat (tI rs), .dat (Y n s rs most), a5, a6, a7, a8, a9, a10, .dat (Y n s [r] most), .dat (nI p), .dat (rd (Rt.q (s + r * (p : Int)) n)), a14, a15, a16, a17, a18, a19, a20, a21, a22, a23] = ok (.nx [.un, .box 2, a2, .dat (tI rs), .dat (Y n s rs most), a5, a6, a7, a8, a9, a10, .dat (Y n s [r] most), .dat (nI p), .dat (rd (Rt.q (s + r * (p : Int)) n)), a14, a15, a16, a17, a18, a19, a20, a21, a22, a23]) := by
  have hY : Yd n s [r] most := ⟨by simp, fun x hx => by rw [List.mem_singleton.mp hx]; exact hr, h.y.mo, h.y.n1, h.y.s1⟩
  obtain ⟨st, ht⟩ := q_yard hY
  have hq := q_cancel (a := s + r * (p : Int)) (n := n) h.y.n1.1
  generalize Rt.q (s + r * (p : Int)) n = x at *
  have i0 : ixR (rd x) (.int 0) = ok (.int x.num) := ixt0 _ _
  have i1 : ixR (rd x) (.int 1) = ok (.int (x.den : Int)) := ixt1 _ _ _
  have et := ht.tells x.num
  have key : (x.den : Int) = 1 → Pu.isNon (tD (valI st (n * x.num - s))) = false := fun hd => by
    have hx : x = ((x.num : Int) : Rat) := by
      have : x.den = 1 := by omega
      exact Rat.ext rfl this
    have e : n * x.num = s + r * (p : Int) := by
      rw [hx] at hq
      have : ((x.num * n : Int) : Rat) = ((s + r * (p : Int) : Int) : Rat) := by rw [Rat.intCast_mul]; exact hq
      have := Rat.intCast_inj.mp this
      rw [Int.mul_comm]; exact this
    have hm : (r * (p : Int), [p]) ∈ allR most [r] := by
      show _ ∈ ext most [(0, [])] r
      exact ext_mem.mpr ⟨(0, []), List.mem_cons_self, p, hp, by simp⟩
    cases hv : valI st (n * x.num - s) with
    | none => exact absurd (show (r * (p : Int), [p]).1 = n * x.num - s by show r * (p : Int) = _; omega) (ht.oks.no _ hv _ hm)
    | some e => rfl
  have lhs : andV (m2 (m2 (nDR 13) (kR (.int 1)) ixR) (kR (.int 1)) eqR) (m2 (m2 (nDR 13) (kR (.int 0)) ixR) (kR (.int 0)) geR) [.un, .box 2, a2, .dat (tI rs), .dat (Y n s rs most), a5, a6, a7, a8, a9, a10, .dat (Y n s [r] most), .dat (nI p), .dat (rd x), a14, a15, a16, a17, a18, a19, a20, a21, a22, a23] = ok (.bool (decide ((x.den : Int) = 1) && decide (0 ≤ x.num))) := by
    rw [andV_e]
    simp only [m2_e, nDR_s, nDR_0, kR_e, bd_ok, i0, i1, eqR_int, geR_int, truR_bool]
    cases decide ((x.den : Int) = 1) <;> rfl
  have rhs : ifV (m1 (m2 (m2 (nDR 13) (kR (.int 0)) ixR) (kR (.int 0)) geR) asB) (andV (m2 (m1 (consR (nDR 11) (consR (m2 (nDR 13) (kR (.int 0)) ixR) nilR)) (callR 2 m_tells)) (kR .none) isNotR) (m2 (m2 (nDR 13) (kR (.int 1)) ixR) (kR (.int 1)) eqR)) (kR (.bool false)) [.un, .box 2, a2, .dat (tI rs), .dat (Y n s rs most), a5, a6, a7, a8, a9, a10, .dat (Y n s [r] most), .dat (nI p), .dat (rd x), a14, a15, a16, a17, a18, a19, a20, a21, a22, a23] = ok (.bool (decide ((x.den : Int) = 1) && decide (0 ≤ x.num))) := by
    rw [ifV_e, andV_e]
    simp only [m1_e, m2_e, consR_e, nilR_e, nDR_s, nDR_0, kR_e, bd_ok, i0, i1, eqR_int, geR_int, asB_bool, callR_2, et]
    by_cases c : 0 ≤ x.num
    · rw [decide_eq_true c, if_pos rfl, Bool.and_true, show isNotR (tD (valI st (n * x.num - s))) .none = ok (.bool (!Pu.isNon (tD (valI st (n * x.num - s))))) from rfl]
      simp only [bd_ok, truR_bool]
      by_cases d : (x.den : Int) = 1
      · rw [key d]; rfl
      · rw [decide_eq_false d]
        cases Pu.isNon (tD (valI st (n * x.num - s))) <;> rfl
    · rw [decide_eq_false c, if_neg (by simp), Bool.and_false]
  unfold x15
  rw [ifV_e, m1_e, m2_e, lhs, bd_ok, rhs]
  simp only [bd_ok, ne_bools, beq_self_eq_true, Bool.not_true, asB_bool, Bool.false_eq_true, if_false, nilM_e]
theorem r_x16 {w4 : Sl} (hp : ∀ B m : Nat, 2 ≤ B ∧ B ≤ 5 → 1 ≤ m ∧ m ≤ 3 → post (.nx [.un, .box 2, a2, a3, w4, a5, a6, a7, a8, a9, a10, a11, a12, a13, .dat (nI B), .dat (nI m), a16, a17, a18, a19, a20, a21, a22, a23])) : x16 [.un, .box 2, a2, a3, w4, a5, a6, a7, a8, a9, a10, a11, a12, a13, a14, a15, a16, a17, a18, a19, a20, a21, a22, a23] post := by
  unfold x16
  show bd (consR (rD _) _ _) _ post
  rw [consR_e]
  show bd (bd (bd (m2 _ _ _ _) _) _) _ post
  rw [m2_e, kR_e, bd_ok]
  simp only [bd_bd]
  refine drwB (n := 4) (getX_1 _ _ _) rfl (by decide) (by decide) fun a ha => ?_
  rw [show addR (.int 2) (nI a) = ok (nI (2 + a)) from rfl]
  simp only [bd_ok]
  rw [consR_e]
  show bd (bd (bd (m2 _ _ _ _) _) _) _ post
  rw [m2_e, kR_e, bd_ok]
  simp only [bd_bd]
  refine drwB (n := 3) (getX_1 _ _ _) rfl (by decide) (by decide) fun b hb => ?_
  rw [show addR (.int 1) (nI b) = ok (nI (1 + b)) from rfl]
  simp only [bd_ok, nilR_e]
  exact hp (2 + a) (1 + b) (by omega) (by omega)
theorem r_x17 {w4 : Sl} {B m : Nat} (hB : 2 ≤ B ∧ B ≤ 5) (hm : 1 ≤ m ∧ m ≤ 3) : x17 [.un, .box 2, a2, a3, w4, a5, a6, a7, a8, a9, a10, a11, a12, a13, .dat (nI B), .dat (nI m), a16, a17, a18, a19, a20, a21, a22, a23] = ok (.nx [.un, .box 2, a2, a3, w4, a5, a6, a7, a8, a9, a10, a11, a12, a13, .dat (nI B), .dat (nI m), .dat (Y 1 0 (pr B m) (B - 1)), a17, a18, a19, a20, a21, a22, a23]) := by
  have t4 : ∀ a b c d : D, tupR [a, b, c, d] = ok (.tuple [a, b, c, d]) := fun a b c d => tup_n (by simp)
  have l3 : ∀ a b c : D, lstR [a, b, c] = ok [a, b, c] := fun a b c => lst_n (by simp)
  have hmm : mulR (nI B) (nI B) = ok (.int ((B : Int) * (B : Int))) := K51.mul_w (i := (B : Int)) (by omega)
  have hsb : subR (nI B) (.int 1) = ok (nI (B - 1)) := by
    show ok (PyData.int ((B : Int) - 1)) = ok (PyData.int ((B - 1 : Nat) : Int))
    congr 2; omega
  have hmap : (List.range m).map (fun k => PyData.int (([1, (B : Int), (B : Int) * (B : Int)] : List Int).getD k 0)) = (pr B m).map PyData.int := by
    have : m = 1 ∨ m = 2 ∨ m = 3 := by omega
    rcases this with rfl | rfl | rfl <;> rfl
  unfold x17
  rw [setM_e, m1_e, consR_e, kR_e, bd_ok, consR_e, kR_e, bd_ok, consR_e, m1_e, consR_e, frz_e, lcM_map (f := nI) (l := List.range m) (h := fun k => .int (([1, (B : Int), (B : Int) * (B : Int)] : List Int).getD k 0)) (by
    simp only [m1_e, consR_e, nilR_e, nDR_s, nDR_0, bd_ok]
    exact range_e m (by omega)) (fun k hk => by
    have hk := List.mem_range.mp hk
    simp only [frz_e, m1_e, m2_e, consR_e, nilR_e, wipeS, set_s, set_0, nDR_s, nDR_0, kR_e, bd_ok, hmm, l3]
    have : k = 0 ∨ k = 1 ∨ k = 2 := by omega
    rcases this with rfl | rfl | rfl
    · exact ixl_n (l := [.int 1, nI B, .int ((B : Int) * (B : Int))]) (k := 0) (by simp)
    · exact ixl_n (l := [.int 1, nI B, .int ((B : Int) * (B : Int))]) (k := 1) (by simp)
    · exact ixl_n (l := [.int 1, nI B, .int ((B : Int) * (B : Int))]) (k := 2) (by simp)), hmap]
  simp only [bd_ok, nilR_e, show ∀ l : List D, tupOfR [.list l] = ok (.tuple l) from fun _ => rfl, consR_e, m2_e, nDR_s, nDR_0, kR_e, hsb, t4, set_s, set_0]
theorem r_x18 {w4 w16 : Sl} {B m : Nat} (hB : 2 ≤ B ∧ B ≤ 5) (hm : 1 ≤ m ∧ m ≤ 3) : x18 [.un, .box 2, a2, a3, w4, a5, a6, a7, a8, a9, a10, a11, a12, a13, .dat (nI B), .dat (nI m), w16, a17, a18, a19, a20, a21, a22, a23] = ok (.nx [.un, .box 2, a2, a3, w4, a5, a6, a7, a8, a9, a10, a11, a12, a13, .dat (nI B), .dat (nI m), w16, .dat (nI (tp B m)), a18, a19, a20, a21, a22, a23]) := by
  have l3 : ∀ a b c : D, lstR [a, b, c] = ok [a, b, c] := fun a b c => lst_n (by simp)
  have hmm : mulR (nI B) (nI B) = ok (nI (B * B)) := K51.mul_w (i := (B : Int)) (by omega)
  have hB2 : B * B ≤ 25 := Nat.mul_le_mul hB.2 hB.2
  have hmm2 : mulR (nI (B * B)) (nI B) = ok (nI (B * B * B)) := K51.mul_w (i := ((B * B : Nat) : Int)) (by omega)
  have hsb : subR (nI m) (.int 1) = ok (nI (m - 1)) := by
    show ok (PyData.int ((m : Int) - 1)) = ok (PyData.int ((m - 1 : Nat) : Int))
    congr 2; omega
  unfold x18
  simp only [setM_e, frz_e, m1_e, m2_e, consR_e, nilR_e, nDR_s, nDR_0, kR_e, bd_ok, hmm, hmm2, l3, hsb]
  have hix : ixR (.list [nI B, nI (B * B), nI (B * B * B)]) (nI (m - 1)) = ok (nI (tp B m)) := by
    have : m = 1 ∨ m = 2 ∨ m = 3 := by omega
    rcases this with rfl | rfl | rfl
    · rw [show tp B 1 = B from by simp [tp]]
      exact ixl_n (l := [nI B, nI (B * B), nI (B * B * B)]) (k := 0) (by simp)
    · rw [show tp B 2 = B * B from by simp [tp, Nat.pow_succ]]
      exact ixl_n (l := [nI B, nI (B * B), nI (B * B * B)]) (k := 1) (by simp)
    · rw [show tp B 3 = B * B * B from by simp [tp, Nat.pow_succ]]
      exact ixl_n (l := [nI B, nI (B * B), nI (B * B * B)]) (k := 2) (by simp)
  simp only [hix, bd_ok, set_s, set_0]
end
end K51

namespace K51
open PySem PySem.Spec PyProof.Rows L2 Pu
section
variable {a2 a3 a4 a5 a6 a7 a8 a9 a10 a11 a12 a13 a14 a15 a16 a17 a18 a19 a20 a21 a22 a23 : Sl} {post : Out → Prop}
theorem r_x19 {w4 w14 w15 : Sl} {B m : Nat} (hB : 2 ≤ B ∧ B ≤ 5) (hm : 1 ≤ m ∧ m ≤ 3) (hp : post (.nx [.un, .box 2, a2, a3, w4, a5, a6, a7, a8, a9, a10, a11, a12, a13, w14, w15, .dat (Y 1 0 (pr B m) (B - 1)), .dat (nI (tp B m)), a18, a19, a20, a21, a22, a23])) : x19 [.un, .box 2, a2, a3, w4, a5, a6, a7, a8, a9, a10, a11, a12, a13, w14, w15, .dat (Y 1 0 (pr B m) (B - 1)), .dat (nI (tp B m)), a18, a19, a20, a21, a22, a23] post := by
  obtain ⟨st, ht, hf, hw⟩ := pow_first hB hm
  have htp : 1 ≤ tp B m ∧ tp B m ≤ 125 := by
    unfold tp
    refine ⟨Nat.pow_pos (by omega), Nat.le_trans (Nat.pow_le_pow_right (by omega) hm.2) (Nat.le_trans (Nat.pow_le_pow_left hB.2 3) (by decide))⟩
  generalize tp B m = T at *
  generalize Y 1 0 (pr B m) (B - 1) = P at *
  have t3 : ∀ a b c : D, tupR [a, b, c] = ok (.tuple [a, b, c]) := fun a b c => tup_n (by simp)
  have hne : neR (nI T) (nI T) = ok (.bool false) := by
    show neR (.int _) (.int _) = _
    rw [neR_int]; simp
  have hsb : subR (nI T) (.int 1) = ok (nI (T - 1)) := by
    show ok (PyData.int ((T : Int) - 1)) = ok (PyData.int ((T - 1 : Nat) : Int))
    congr 2; omega
  unfold x19
  rw [ifV_e, orT_e, m1_e, m2_e, m1_e, consR_e]
  simp only [nDR_s, nDR_0, nilR_e, bd_ok, callR_1, hf, hne, asB_bool, Bool.false_eq_true, if_false]
  rw [notT_e, m1_e, m1_e, consR_e, frz_e]
  simp only [bd_bd]
  refine bd_i ?_
  rw [lcM_e]
  unfold itR
  simp only [bd_bd]
  rw [m1_e, consR_e, kR_e, bd_ok, consR_e, m2_e]
  simp only [nDR_s, nDR_0, kR_e, bd_ok, hsb, bd_bd]
  rw [consR_e]
  simp only [bd_bd]
  refine drwB (n := (T : Int)) (getX_1 _ _ _) (by simp only [consR_e, nilR_e, nDR_s, nDR_0, bd_ok]; rfl) (by omega) (by omega) fun d hd => ?_
  simp only [nilR_e, bd_ok, t3]
  have hl : ∀ k ∈ [0, T - 1, d], k < T := fun k hk => by
    simp only [List.mem_cons, List.not_mem_nil, or_false] at hk
    omega
  have hlc : lcM [10] (fun _ => ok ([0, T - 1, d].map nI)) (gSet 10) yesT (m2 (m1 (consR (nDR 16) (consR (nDR 10) nilR)) (callR 2 m_ways_to_tell)) (kR (.int 1)) eqR) [.un, .box 2, a2, a3, w4, a5, a6, a7, a8, a9, a10, a11, a12, a13, w14, w15, .dat P, .dat (nI T), a18, a19, a20, a21, a22, a23] = ok ([0, T - 1, d].map fun _ => .bool true) := lcM_map (f := nI) (l := [0, T - 1, d]) rfl fun k hk => by
    simp only [m1_e, m2_e, consR_e, nilR_e, wipeS, set_s, set_0, nDR_s, nDR_0, kR_e, bd_ok, callR_2, hw k (hl k hk)]
    show eqR (.int _) (.int _) = _
    rw [eqR_int]; rfl
  rw [show itemsR (.tuple [.int 0, nI (T - 1), nI d]) = ok ([0, T - 1, d].map nI) from rfl, bd_ok, bd_req (.inr (fun z e => by cases e))]
  have hlc' : lcF (gSet 10) yesT (m2 (m1 (consR (nDR 16) (consR (nDR 10) nilR)) (callR 2 m_ways_to_tell)) (kR (.int 1)) eqR) ([0, T - 1, d].map nI) (wipeS [.un, .box 2, a2, a3, w4, a5, a6, a7, a8, a9, a10, a11, a12, a13, w14, w15, .dat P, .dat (nI T), a18, a19, a20, a21, a22, a23] [10]) = ok ([0, T - 1, d].map fun _ => .bool true) := by
    rw [lcM_e, bd_ok] at hlc
    exact hlc
  rw [hlc', ok_ap]
  rw [allR_bools (p := fun _ => true)]
  simp only [bd_ok, truR_bool, List.all_cons, List.all_nil, Bool.and_self, Bool.not_true, Bool.false_eq_true, if_false, nilM_e]
  exact hp
end
end K51

namespace K51
open PySem PySem.Spec PyProof.Rows L2 Pu
/-! ### the law -/
theorem vb_y {n s : Int} {rs : List Int} {most : Nat} (h : YL n s rs most) : Vb 2 (Y n s rs most) := by
  have a := h.n1
  have b := h.y.n1
  have c := h.s1
  have d := h.mo
  refine ⟨by simp, fun x hx => ?_⟩
  simp only [List.mem_cons, List.not_mem_nil, or_false] at hx
  rcases hx with rfl | rfl | rfl | rfl
  · show n.natAbs < 2 ^ 30; omega
  · show s.natAbs < 2 ^ 30; omega
  · refine ⟨by rw [List.length_map]; have := h.y.rl; omega, fun y hy => ?_⟩
    obtain ⟨i, hi, rfl⟩ := List.mem_map.mp hy
    have := h.y.rw i hi
    show i.natAbs < 2 ^ 30
    omega
  · show (most : Int).natAbs < 2 ^ 30; omega
theorem yf1 : Yd 2 0 [3] 6 := ⟨by decide, by decide, by decide, by decide, by decide⟩
theorem yf2 : Yd 1 0 [1, 10] 9 := ⟨by decide, by decide, by decide, by decide, by decide⟩
theorem f_told : m_told_weights [Y 2 0 [3] 6] = ok (tI [0, 3, 6, 9]) ∧ m_tells [Y 2 0 [3] 6, .int 6] = ok (tu nI [4]) := by
  obtain ⟨st, ht⟩ := q_yard yf1
  have hL : ∀ q : MR, q ∈ allR 6 [3] ↔ ∃ p : Nat, p ≤ 6 ∧ q = (3 * (p : Int), [p]) := fun q => by
    show q ∈ ext 6 [(0, [])] 3 ↔ _
    rw [ext_mem]
    constructor
    · rintro ⟨r, hr, p, hp, rfl⟩
      rw [List.mem_singleton.mp hr]
      exact ⟨p, hp, by simp⟩
    · rintro ⟨p, hp, rfl⟩
      exact ⟨(0, []), List.mem_cons_self, p, hp, by simp⟩
  constructor
  · rw [ht.tolds]
    congr 2
    have : told 2 0 (st.map (·.1)) = [0, 3, 6, 9] := by
      refine asc_uniq (told_lt (by omega) ht.oks.nd) (by decide) fun w => ?_
      rw [told_mem (by omega), key_st ht.oks]
      constructor
      · rintro ⟨h0, q, hq, e⟩
        obtain ⟨p, hp, rfl⟩ := (hL q).mp hq
        have e : 3 * (p : Int) = 2 * w - 0 := e
        have : w = 0 ∨ w = 3 ∨ w = 6 ∨ w = 9 := by omega
        simpa using this
      · intro hw
        have hw : w = 0 ∨ w = 3 ∨ w = 6 ∨ w = 9 := by simpa using hw
        rcases hw with rfl | rfl | rfl | rfl
        · exact ⟨by omega, _, (hL _).mpr ⟨0, by omega, rfl⟩, by decide⟩
        · exact ⟨by omega, _, (hL _).mpr ⟨2, by omega, rfl⟩, by decide⟩
        · exact ⟨by omega, _, (hL _).mpr ⟨4, by omega, rfl⟩, by decide⟩
        · exact ⟨by omega, _, (hL _).mpr ⟨6, by omega, rfl⟩, by decide⟩
    rw [this]
  · rw [ht.tells]
    cases hv : valI st (2 * 6 - 0) with
    | none => exact absurd (show ((3 * ((4 : Nat) : Int), [4]) : MR).1 = 2 * 6 - 0 by decide) (ht.oks.no _ hv _ ((hL _).mpr ⟨4, by omega, rfl⟩))
    | some e =>
      obtain ⟨p, hp, e1⟩ := (hL _).mp (ht.oks.so _ e hv).1
      injection e1 with e1 e2
      have : p = 4 := by omega
      subst this
      show ok (tu nI e.1) = _
      rw [e2]
def chk10 : Bool := ((List.range 100).all fun w : Nat => (allR 9 [1, 10]).any fun q => decide (q.1 = (w : Int))) && (allR 9 [1, 10]).all fun q => decide (q.1 < 100)
theorem chk10_t : chk10 = true := by decide +kernel
theorem f_first : m_first_untold [Y 1 0 [1, 10] 9] = ok (nI 100) := by
  obtain ⟨st, ht⟩ := q_yard yf2
  obtain ⟨v, g1, g2, e⟩ := q_first (told_lt (s := 0) (by omega) ht.oks.nd) ht.tolds
  have h := chk10_t
  unfold chk10 at h
  rw [Bool.and_eq_true] at h
  have mem : ∀ w : Nat, ((w : Int) ∈ told 1 0 (st.map (·.1))) ↔ ∃ q ∈ allR 9 [1, 10], q.1 = (w : Int) := fun w => by
    rw [told_mem (by omega), key_st ht.oks]
    constructor
    · rintro ⟨_, q, hq, e⟩; exact ⟨q, hq, by omega⟩
    · rintro ⟨q, hq, e⟩; exact ⟨by omega, q, hq, by omega⟩
  have hv : v = 100 := by
    rcases Nat.lt_trichotomy v 100 with hh | hh | hh
    · exfalso
      have := List.all_eq_true.mp h.1 v (List.mem_range.mpr hh)
      obtain ⟨q, hq, hqv⟩ := List.any_eq_true.mp this
      exact g1 ((mem v).mpr ⟨q, hq, of_decide_eq_true hqv⟩)
    · exact hh
    · exfalso
      obtain ⟨q, hq, hqv⟩ := (mem 100).mp (g2 100 hh)
      have := of_decide_eq_true (List.all_eq_true.mp h.2 q hq)
      omega
  rw [e, hv]
section
variable {a2 a3 a4 a5 a6 a7 a8 a9 a10 a11 a12 a13 a14 a15 a16 a17 a18 a19 a20 a21 a22 a23 : Sl} {post : Out → Prop} {n s : Int} {rs : List Int} {most : Nat}
theorem r_x20 (h : YL n s rs most) : ∃ V : List D, V.length = 12 ∧ x20 [.un, .box 2, a2, a3, .dat (Y n s rs most), a5, a6, a7, a8, a9, a10, a11, a12, a13, a14, a15, a16, a17, a18, a19, a20, a21, a22, a23] = ok (.nx [.un, .box 2, a2, a3, .dat (Y n s rs most), a5, a6, a7, a8, a9, a10, a11, a12, a13, a14, a15, a16, a17, .dat (.list V), a19, a20, a21, a22, a23]) := by
  have t0 : tupR ([] : List D) = ok (.tuple []) := tup_n (by simp)
  have t4 : ∀ a b c d : D, tupR [a, b, c, d] = ok (.tuple [a, b, c, d]) := fun a b c d => tup_n (by simp)
  have c1 : cutG [PyData.int n, .int s, tI rs, nI most] none (some 3) = [.int n, .int s, tI rs] := cut_lo (k := 3)
  have c2 : cutG [PyData.int n, .int s, tI rs, nI most] (some 1) none = [.int s, tI rs, nI most] := cut_hi (k := 1)
  have c3 : cutG [PyData.int n, .int s, tI rs, nI most] (some 2) none = [tI rs, nI most] := cut_hi (k := 2)
  have c4 : cutG [PyData.int n, .int s, tI rs, nI most] none (some 2) = [.int n, .int s] := cut_lo (k := 2)
  have s1 : slR (Y n s rs most) none (some 3) = ok (.tuple [.int n, .int s, tI rs]) := by rw [show Y n s rs most = .tuple [.int n, .int s, tI rs, nI most] from rfl, slR_t, c1]
  have s2 : slR (Y n s rs most) (some 1) none = ok (.tuple [.int s, tI rs, nI most]) := by rw [show Y n s rs most = .tuple [.int n, .int s, tI rs, nI most] from rfl, slR_t, c2]
  have s3 : slR (Y n s rs most) (some 2) none = ok (.tuple [tI rs, nI most]) := by rw [show Y n s rs most = .tuple [.int n, .int s, tI rs, nI most] from rfl, slR_t, c3]
  have s4 : slR (Y n s rs most) none (some 2) = ok (.tuple [.int n, .int s]) := by rw [show Y n s rs most = .tuple [.int n, .int s, tI rs, nI most] from rfl, slR_t, c4]
  have rv : revR (Y n s rs most) = ok (.tuple [nI most, tI rs, .int s, .int n]) := rfl
  have ad : ∀ x y : List D, x.length ≤ 4 → y.length ≤ 4 → addR (.tuple x) (.tuple y) = ok (.tuple (x ++ y)) := fun x y hx hy => addT_n (by omega)
  have a1 := ad [.int 0] [.int s, tI rs, nI most] (by simp) (by simp)
  have a2 := ad [.int n, .bool true] [tI rs, nI most] (by simp) (by simp)
  have a3 := ad [.int n, .int s] [.tuple [], .int 3] (by simp) (by simp)
  have a4 := ad [.int n, .int s] [.tuple [.int 2, .int 1], .int 3] (by simp) (by simp)
  have a5 := ad [.int n, .int s] [.tuple [.int 1, .int 1, .int 1, .int 1], .int 3] (by simp) (by simp)
  have a6 := ad [.int n, .int s, tI rs] [.int 51] (by simp) (by simp)
  unfold x20
  simp only [setM_e, frz_e, m1_e, m2_e, m3_e, consR_e, nilR_e, nDR_s, nDR_0, noR_e, kR_e, asI_int, bd_ok, s1, s2, s3, s4, rv, iy0, tup1, tup2, t0, t4, a1, a2, a3, a4, a5, a6]
  rw [lst_n (by simp)]
  simp only [bd_ok, set_s, set_0]
  exact ⟨_, by simp, rfl⟩
theorem r_b21 {w4 w18 : Sl} (v : D) : b21 [.un, .box 2, a2, a3, w4, a5, a6, a7, a8, a9, a10, a11, a12, a13, a14, a15, a16, a17, w18, .dat v, a20, a21, a22, a23] = ok (.nx [.un, .box 2, a2, a3, w4, a5, a6, a7, a8, a9, a10, a11, a12, a13, a14, a15, a16, a17, w18, .dat v, a20, a21, a22, a23]) := by
  have e3 : m_law_same 20 [.bool (ydB v), .bool (ydB v)] = ok (.bool true) := same_ok (pl_bool _ _)
  unfold b21
  rw [ifV_e, notT_e, m1_e, m1_e, consR_e, m1_e, consR_e, consR_e, m1_e, consR_e]
  simp only [nDR_s, nDR_0, nilR_e, bd_ok, callR_1, q_is_yard, q_law_is, callR_2, e3, truR_bool, Bool.not_true, Bool.false_eq_true, if_false, nilM_e]
theorem r_x21 (h : YL n s rs most) {V : List D} (hV : V.length = 12) (hp : ∀ v19, post (.nx [.un, .box 2, a2, a3, .dat (Y n s rs most), a5, a6, a7, a8, a9, a10, a11, a12, a13, a14, a15, a16, a17, .dat (.list V), v19, a20, a21, a22, a23])) : x21 [.un, .box 2, a2, a3, .dat (Y n s rs most), a5, a6, a7, a8, a9, a10, a11, a12, a13, a14, a15, a16, a17, .dat (.list V), a19, a20, a21, a22, a23] post := by
  have hb := fun v => r_b21 (a2 := a2) (a3 := a3) (a5 := a5) (a6 := a6) (a7 := a7) (a8 := a8) (a9 := a9) (a10 := a10) (a11 := a11) (a12 := a12) (a13 := a13) (a14 := a14) (a15 := a15) (a16 := a16) (a17 := a17) (a20 := a20) (a21 := a21) (a22 := a22) (a23 := a23) (w4 := .dat (Y n s rs most)) (w18 := .dat (.list V)) v
  unfold x21
  rw [forM_e]
  refine bd_i ?_
  unfold i21 itR
  rw [m2_e]
  simp only [frz_e, nDR_s, nDR_0, bd_ok, bd_bd]
  refine lcM_dem (ds := (List.range 6).map nI) (P := fun _ => True) (range_e 6 (by omega)) (fun k hk post hq => ?_) _ fun ys hl _ => ?_
  · simp only [wipeS, set_s, set_0]
    rw [callX_e (j := 2) (n := 1) (ds := [Y n s rs most]) rfl (getX_1 _ _ _) rfl]
    exact q_bent 2 (Y n s rs most) 6 (vb_y h) (by omega) post fun d _ => hq d trivial
  · rw [List.length_map, List.length_range] at hl
    obtain ⟨v, e⟩ := forF_chk (i := 19) (tb := b21) (fun _ => True) (V ++ ys) [.un, .box 2, a2, a3, .dat (Y n s rs most), a5, a6, a7, a8, a9, a10, a11, a12, a13, a14, a15, a16, a17, .dat (.list V), a19, a20, a21, a22, a23] (fun v _ => hb v) (by simp) (fun x hx => trivial)
    show bd (addR (.list V) (.list ys)) (fun d => bd (itemsR d) fun ds => bd (req (ds.length ≤ sizeLine ∨ ∀ z : Str, d ≠ .str z)) fun _ => ok ds) (fun a => forF (gSet 19) b21 a [.un, .box 2, a2, a3, .dat (Y n s rs most), a5, a6, a7, a8, a9, a10, a11, a12, a13, a14, a15, a16, a17, .dat (.list V), a19, a20, a21, a22, a23] post)
    rw [addL_n (by omega), bd_ok, show itemsR (.list (V ++ ys)) = ok (V ++ ys) from rfl, bd_ok, bd_req (.inr (fun z e => by cases e)), ok_ap, e]
    exact hp v
theorem r_y1 : y1 [.un, .box 2, a2, a3, a4, a5, a6, a7, a8, a9, a10, a11, a12, a13, a14, a15, a16, a17, a18, a19, a20, a21, a22, a23] = ok (.rt (.bool true)) := by
  have t3 : ∀ a b c : D, tupR [a, b, c] = ok (.tuple [a, b, c]) := fun a b c => tup_n (by simp)
  have t4 : ∀ a b c d : D, tupR [a, b, c, d] = ok (.tuple [a, b, c, d]) := fun a b c d => tup_n (by simp)
  have h1 : m_told_weights [.tuple [.int 2, .int 0, .tuple [.int 3], .int 6]] = ok (.tuple [.int 0, .int 3, .int 6, .int 9]) := f_told.1
  have h2 : m_tells [.tuple [.int 2, .int 0, .tuple [.int 3], .int 6], .int 6] = ok (.tuple [.int 4]) := f_told.2
  have h3 : m_first_untold [.tuple [.int 1, .int 0, .tuple [.int 1, .int 10], .int 9]] = ok (.int 100) := f_first
  have e3 : m_law_same 20 [.tuple [.tuple [.int 0, .int 3, .int 6, .int 9], .tuple [.int 4], .int 100], .tuple [.tuple [.int 0, .int 3, .int 6, .int 9], .tuple [.int 4], .int 100]] = ok (.bool true) := same_ok (pl_tup (n := 18) (by simp) fun x hx => by
    simp only [List.mem_cons, List.not_mem_nil, or_false] at hx
    rcases hx with rfl | rfl | rfl
    · exact pl_tup (n := 17) (by simp) fun y hy => by
        simp only [List.mem_cons, List.not_mem_nil, or_false] at hy
        rcases hy with rfl | rfl | rfl | rfl <;> exact pl_int _ _
    · exact pl_tup (n := 17) (by simp) fun y hy => by rw [List.mem_singleton.mp hy]; exact pl_int _ _
    · exact pl_int _ _)
  unfold y1
  simp only [retM_e, m1_e, consR_e, nilR_e, kR_e, bd_ok, t3, t4, tup1, tup2, callR_1, callR_2, h1, h2, h3, e3]
def Sh (ρ : List Sl) : Prop := ∃ a2 a3 a4 a5 a6 a7 a8 a9 a10 a11 a12 a13 a14 a15 a16 a17 a18 a19 a20 a21 a22 a23, ρ = [.un, .box 2, a2, a3, a4, a5, a6, a7, a8, a9, a10, a11, a12, a13, a14, a15, a16, a17, a18, a19, a20, a21, a22, a23]
theorem r_body {x : D} {ρ : List Sl} (hs : Sh ρ) (hp : ∀ ρ', Sh ρ' → post (.nx ρ')) : body_ (ρ.set 2 (.dat x)) post := by
  obtain ⟨a2, a3, a4, a5, a6, a7, a8, a9, a10, a11, a12, a13, a14, a15, a16, a17, a18, a19, a20, a21, a22, a23, rfl⟩ := hs
  simp only [set_s, set_0]
  unfold body_
  refine seq_d (r_x0 fun rs h1 h3 hw hs => ?_)
  rw [nxt_nx]
  refine seq_d (r_x1 h1 h3 hw hs fun n s most h => ?_)
  rw [nxt_nx]
  refine seq_s (r_x2 h) ?_
  refine seq_s r_x3 ?_
  obtain ⟨v6, e4⟩ := r_x4 (a2 := .dat x) (a6 := a6) (a7 := a7) (a8 := a8) (a9 := a9) (a10 := a10) (a11 := a11) (a12 := a12) (a13 := a13) (a14 := a14) (a15 := a15) (a16 := a16) (a17 := a17) (a18 := a18) (a19 := a19) (a20 := a20) (a21 := a21) (a22 := a22) (a23 := a23) h
  refine seq_s e4 ?_
  refine seq_s r_x5 ?_
  obtain ⟨v8, v20, e6⟩ := r_x6 (a2 := .dat x) (a6 := v6) (a8 := a8) (a9 := a9) (a10 := a10) (a11 := a11) (a12 := a12) (a13 := a13) (a14 := a14) (a15 := a15) (a16 := a16) (a17 := a17) (a18 := a18) (a19 := a19) (a20 := a20) (a21 := a21) (a22 := a22) (a23 := a23) h
  refine seq_s e6 ?_
  obtain ⟨st, ht⟩ := q_yard h.y
  refine seq_s (r_x7 h ht) ?_
  refine seq_s (r_x8 h) ?_
  refine seq_s (r_x9 h ht) ?_
  obtain ⟨v10, v21, e10⟩ := r_x10 (a2 := .dat x) (a5 := .dat (rwD (allR most rs))) (a6 := v6) (a8 := v8) (a10 := a10) (a11 := a11) (a12 := a12) (a13 := a13) (a14 := a14) (a15 := a15) (a16 := a16) (a17 := a17) (a18 := a18) (a19 := a19) (a20 := v20) (a21 := a21) (a22 := a22) (a23 := a23) h ht (w9 := .dat (.list ((gaps n s (allR most rs)).map nI)))
  refine seq_s e10 ?_
  obtain ⟨r, r1, r2, hx, e11⟩ := r_x11 (a2 := .dat x) (a5 := .dat (rwD (allR most rs))) (a6 := v6) (a7 := .od (iD lD (foundD n s (allR most rs)))) (a8 := v8) (a9 := .dat (.list ((gaps n s (allR most rs)).map nI))) (a10 := v10) (a11 := a11) (a12 := a12) (a13 := a13) (a14 := a14) (a15 := a15) (a16 := a16) (a17 := a17) (a18 := a18) (a19 := a19) (a20 := v20) (a21 := v21) (a22 := a22) (a23 := a23) h
  refine seq_s e11 ?_
  refine seq_d (r_x12 h fun p hpm => ?_)
  rw [nxt_nx]
  refine seq_s (r_x13 h ⟨r1, r2⟩ p) ?_
  refine seq_s (r_x14 h ⟨r1, r2⟩ hx hpm) ?_
  refine seq_s (r_x15 h ⟨r1, r2⟩ hpm) ?_
  refine seq_d (r_x16 fun B m hB hm => ?_)
  rw [nxt_nx]
  refine seq_s (r_x17 hB hm) ?_
  refine seq_s (r_x18 hB hm) ?_
  refine seq_d (r_x19 hB hm ?_)
  rw [nxt_nx]
  obtain ⟨V, hV, e20⟩ := r_x20 (a2 := .dat x) (a3 := .dat (tI rs)) (a5 := .dat (rwD (allR most rs))) (a6 := v6) (a7 := .od (iD lD (foundD n s (allR most rs)))) (a8 := v8) (a9 := .dat (.list ((gaps n s (allR most rs)).map nI))) (a10 := v10) (a11 := .dat (Y n s [r] most)) (a12 := .dat (nI p)) (a13 := .dat (rd (Rt.q (s + r * (p : Int)) n))) (a14 := .dat (nI B)) (a15 := .dat (nI m)) (a16 := .dat (Y 1 0 (pr B m) (B - 1))) (a17 := .dat (nI (tp B m))) (a18 := a18) (a19 := a19) (a20 := v20) (a21 := v21) (a22 := a22) (a23 := a23) h
  refine seq_s e20 ?_
  exact r_x21 h hV fun v19 => hp _ ⟨_, _, _, _, _, _, _, _, _, _, _, _, _, _, _, _, _, _, _, _, _, _, rfl⟩
end
theorem law_true : g_law (.un :: .box 2 :: List.replicate 22 .un) fun o => o = .rt (.bool true) := by
  rw [g_law_parts]
  refine seq_d ?_
  unfold y0
  rw [forM_e]
  have hr : range1R [.int 5] = ok ((List.range 5).map nI) := range_e 5 (by omega)
  simp only [m1_e, consR_e, kR_e, nilR_e, bd_ok, hr]
  refine forF_dem (f := nI) (fun _ ρ => Sh ρ) (fun x r ρ post j hq => ?_) _ _ _ ⟨_, _, _, _, _, _, _, _, _, _, _, _, _, _, _, _, _, _, _, _, _, _, rfl⟩ fun ρ' ⟨a2, a3, a4, a5, a6, a7, a8, a9, a10, a11, a12, a13, a14, a15, a16, a17, a18, a19, a20, a21, a22, a23, hρ⟩ => ?_
  · exact r_body j hq
  · rw [nxt_nx, hρ, r_y1]
    rfl
end K51

namespace K51
open PySem PySem.Spec PyProof.Rows L2 Pu
theorem facts_mk {K : PySem.W.Frag} {h : Heap} {mg : Str → Option Value} (X : K.In h) (G : h.Ns mainGlobals mg)
  {f0 : Addr} {oc0 kV0 dc0 pm0 cd0 ct0 : Value} {od0 an0 : Option Addr} {sl0 : Array (Option Value)} {f1 : Addr} {oc1 kV1 dc1 pm1 cd1 ct1 : Value} {od1 an1 : Option Addr} {sl1 : Array (Option Value)} {f2 : Addr} {oc2 kV2 dc2 pm2 cd2 ct2 : Value} {od2 an2 : Option Addr} {sl2 : Array (Option Value)} {f3 : Addr} {oc3 kV3 dc3 pm3 cd3 ct3 : Value} {od3 an3 : Option Addr} {sl3 : Array (Option Value)} {f4 : Addr} {oc4 kV4 dc4 pm4 cd4 ct4 : Value} {od4 an4 : Option Addr} {sl4 : Array (Option Value)} {f5 : Addr} {oc5 kV5 dc5 pm5 cd5 ct5 : Value} {od5 an5 : Option Addr} {sl5 : Array (Option Value)} {f6 : Addr} {oc6 kV6 dc6 pm6 cd6 ct6 : Value} {od6 an6 : Option Addr} {sl6 : Array (Option Value)} {f7 : Addr} {oc7 kV7 dc7 pm7 cd7 ct7 : Value} {od7 an7 : Option Addr} {sl7 : Array (Option Value)} {f8 : Addr} {oc8 kV8 dc8 pm8 cd8 ct8 : Value} {od8 an8 : Option Addr} {sl8 : Array (Option Value)} {f9 : Addr} {oc9 kV9 dc9 pm9 cd9 ct9 : Value} {od9 an9 : Option Addr} {sl9 : Array (Option Value)} {f10 : Addr} {oc10 kV10 dc10 pm10 cd10 ct10 : Value} {od10 an10 : Option Addr} {sl10 : Array (Option Value)} {f11 : Addr} {oc11 kV11 dc11 pm11 cd11 ct11 : Value} {od11 an11 : Option Addr} {sl11 : Array (Option Value)} {f12 : Addr} {oc12 kV12 dc12 pm12 cd12 ct12 : Value} {od12 an12 : Option Addr} {sl12 : Array (Option Value)} {f13 : Addr} {oc13 kV13 dc13 pm13 cd13 ct13 : Value} {od13 an13 : Option Addr} {sl13 : Array (Option Value)} {f14 : Addr} {oc14 kV14 dc14 pm14 cd14 ct14 : Value} {od14 an14 : Option Addr} {sl14 : Array (Option Value)} {f15 : Addr} {oc15 kV15 dc15 pm15 cd15 ct15 : Value} {od15 an15 : Option Addr} {sl15 : Array (Option Value)} {f16 : Addr} {oc16 kV16 dc16 pm16 cd16 ct16 : Value} {od16 an16 : Option Addr} {sl16 : Array (Option Value)} {f17 : Addr} {oc17 kV17 dc17 pm17 cd17 ct17 : Value} {od17 an17 : Option Addr} {sl17 : Array (Option Value)} {f18 : Addr} {oc18 kV18 dc18 pm18 cd18 ct18 : Value} {od18 an18 : Option Addr} {sl18 : Array (Option Value)} {f19 : Addr} {oc19 kV19 dc19 pm19 cd19 ct19 : Value} {od19 an19 : Option Addr} {sl19 : Array (Option Value)} {f20 : Addr} {oc20 kV20 dc20 pm20 cd20 ct20 : Value} {od20 an20 : Option Addr} {sl20 : Array (Option Value)} {f21 : Addr} {oc21 kV21 dc21 pm21 cd21 ct21 : Value} {od21 an21 : Option Addr} {sl21 : Array (Option Value)} {f22 : Addr} {oc22 kV22 dc22 pm22 cd22 ct22 : Value} {od22 an22 : Option Addr} {sl22 : Array (Option Value)} {t0 : Tok} {t1 : Tok} {t2 : Tok} {t3 : Tok}
  (a0 : PySem.W.nsIn K mainGlobals "is_number" = some (some (.ref f0))) (l0 : K.lookup f0 = some ⟨oc0, od0, .func (PySem.W.fnOf "is_number" "is_number" (defArgs s_is_number) (defBody s_is_number) (defScope s_is_number) .none kV0 dc0 pm0 an0 cd0 ct0), sl0⟩) (c0 : PySem.W.codeIn K cd0 "is_number" = true) (k0 : PySem.W.keepIn K (.ref f0) = true)
  (a1 : PySem.W.nsIn K mainGlobals "divisor_of" = some (some (.ref f1))) (l1 : K.lookup f1 = some ⟨oc1, od1, .func (PySem.W.fnOf "divisor_of" "divisor_of" (defArgs s_divisor_of) (defBody s_divisor_of) (defScope s_divisor_of) .none kV1 dc1 pm1 an1 cd1 ct1), sl1⟩) (c1 : PySem.W.codeIn K cd1 "divisor_of" = true) (k1 : PySem.W.keepIn K (.ref f1) = true)
  (a2 : PySem.W.nsIn K mainGlobals "lowest" = some (some (.ref f2))) (l2 : K.lookup f2 = some ⟨oc2, od2, .func (PySem.W.fnOf "lowest" "lowest" (defArgs s_lowest) (defBody s_lowest) (defScope s_lowest) .none kV2 dc2 pm2 an2 cd2 ct2), sl2⟩) (c2 : PySem.W.codeIn K cd2 "lowest" = true) (k2 : PySem.W.keepIn K (.ref f2) = true)
  (a3 : PySem.W.nsIn K mainGlobals "is_yard" = some (some (.ref f3))) (l3 : K.lookup f3 = some ⟨oc3, od3, .func (PySem.W.fnOf "is_yard" "is_yard" (defArgs s_is_yard) (defBody s_is_yard) (defScope s_is_yard) .none kV3 dc3 pm3 an3 cd3 ct3), sl3⟩) (c3 : PySem.W.codeIn K cd3 "is_yard" = true) (k3 : PySem.W.keepIn K (.ref f3) = true)
  (a4 : PySem.W.nsIn K mainGlobals "ways_by_moment" = some (some (.ref f4))) (l4 : K.lookup f4 = some ⟨oc4, od4, .func (PySem.W.fnOf "ways_by_moment" "ways_by_moment" (defArgs s_ways_by_moment) (defBody s_ways_by_moment) (defScope s_ways_by_moment) .none kV4 dc4 pm4 an4 cd4 ct4), sl4⟩) (c4 : PySem.W.codeIn K cd4 "ways_by_moment" = true) (k4 : PySem.W.keepIn K (.ref f4) = true)
  (a5 : PySem.W.nsIn K mainGlobals "moment_for" = some (some (.ref f5))) (l5 : K.lookup f5 = some ⟨oc5, od5, .func (PySem.W.fnOf "moment_for" "moment_for" (defArgs s_moment_for) (defBody s_moment_for) (defScope s_moment_for) .none kV5 dc5 pm5 an5 cd5 ct5), sl5⟩) (c5 : PySem.W.codeIn K cd5 "moment_for" = true) (k5 : PySem.W.keepIn K (.ref f5) = true)
  (a6 : PySem.W.nsIn K mainGlobals "tells" = some (some (.ref f6))) (l6 : K.lookup f6 = some ⟨oc6, od6, .func (PySem.W.fnOf "tells" "tells" (defArgs s_tells) (defBody s_tells) (defScope s_tells) .none kV6 dc6 pm6 an6 cd6 ct6), sl6⟩) (c6 : PySem.W.codeIn K cd6 "tells" = true) (k6 : PySem.W.keepIn K (.ref f6) = true)
  (a7 : PySem.W.nsIn K mainGlobals "ways_to_tell" = some (some (.ref f7))) (l7 : K.lookup f7 = some ⟨oc7, od7, .func (PySem.W.fnOf "ways_to_tell" "ways_to_tell" (defArgs s_ways_to_tell) (defBody s_ways_to_tell) (defScope s_ways_to_tell) .none kV7 dc7 pm7 an7 cd7 ct7), sl7⟩) (c7 : PySem.W.codeIn K cd7 "ways_to_tell" = true) (k7 : PySem.W.keepIn K (.ref f7) = true)
  (a8 : PySem.W.nsIn K mainGlobals "told_weights" = some (some (.ref f8))) (l8 : K.lookup f8 = some ⟨oc8, od8, .func (PySem.W.fnOf "told_weights" "told_weights" (defArgs s_told_weights) (defBody s_told_weights) (defScope s_told_weights) .none kV8 dc8 pm8 an8 cd8 ct8), sl8⟩) (c8 : PySem.W.codeIn K cd8 "told_weights" = true) (k8 : PySem.W.keepIn K (.ref f8) = true)
  (a9 : PySem.W.nsIn K mainGlobals "first_untold" = some (some (.ref f9))) (l9 : K.lookup f9 = some ⟨oc9, od9, .func (PySem.W.fnOf "first_untold" "first_untold" (defArgs s_first_untold) (defBody s_first_untold) (defScope s_first_untold) .none kV9 dc9 pm9 an9 cd9 ct9), sl9⟩) (c9 : PySem.W.codeIn K cd9 "first_untold" = true) (k9 : PySem.W.keepIn K (.ref f9) = true)
  (a10 : PySem.W.nsIn K mainGlobals "mark_at" = some (some (.ref f10))) (l10 : K.lookup f10 = some ⟨oc10, od10, .func (PySem.W.fnOf "mark_at" "mark_at" (defArgs s_mark_at) (defBody s_mark_at) (defScope s_mark_at) .none kV10 dc10 pm10 an10 cd10 ct10), sl10⟩) (c10 : PySem.W.codeIn K cd10 "mark_at" = true) (k10 : PySem.W.keepIn K (.ref f10) = true)
  (a11 : PySem.W.nsIn K mainGlobals "_law_flat" = some (some (.ref f11))) (l11 : K.lookup f11 = some ⟨oc11, od11, .func (PySem.W.fnOf "_law_flat" "_law_flat" (defArgs s_law_flat) (defBody s_law_flat) (defScope s_law_flat) .none kV11 dc11 pm11 an11 cd11 ct11), sl11⟩) (c11 : PySem.W.codeIn K cd11 "_law_flat" = true) (k11 : PySem.W.keepIn K (.ref f11) = true)
  (a12 : PySem.W.nsIn K mainGlobals "_law_box" = some (some (.ref f12))) (l12 : K.lookup f12 = some ⟨oc12, od12, .func (PySem.W.fnOf "_law_box" "_law_box" (defArgs s_law_box) (defBody s_law_box) (defScope s_law_box) .none kV12 dc12 pm12 an12 cd12 ct12), sl12⟩) (c12 : PySem.W.codeIn K cd12 "_law_box" = true) (k12 : PySem.W.keepIn K (.ref f12) = true)
  (a13 : PySem.W.nsIn K mainGlobals "_law_load" = some (some (.ref f13))) (l13 : K.lookup f13 = some ⟨oc13, od13, .func (PySem.W.fnOf "_law_load" "_law_load" (defArgs s_law_load) (defBody s_law_load) (defScope s_law_load) .none kV13 dc13 pm13 an13 cd13 ct13), sl13⟩) (c13 : PySem.W.codeIn K cd13 "_law_load" = true) (k13 : PySem.W.keepIn K (.ref f13) = true)
  (a14 : PySem.W.nsIn K mainGlobals "_law_draw" = some (some (.ref f14))) (l14 : K.lookup f14 = some ⟨oc14, od14, .func (PySem.W.fnOf "_law_draw" "_law_draw" (defArgs s_law_draw) (defBody s_law_draw) (defScope s_law_draw) .none kV14 dc14 pm14 an14 cd14 ct14), sl14⟩) (c14 : PySem.W.codeIn K cd14 "_law_draw" = true) (k14 : PySem.W.keepIn K (.ref f14) = true)
  (a15 : PySem.W.nsIn K mainGlobals "_law_same" = some (some (.ref f15))) (l15 : K.lookup f15 = some ⟨oc15, od15, .func (PySem.W.fnOf "_law_same" "_law_same" (defArgs s_law_same) (defBody s_law_same) (defScope s_law_same) .none kV15 dc15 pm15 an15 cd15 ct15), sl15⟩) (c15 : PySem.W.codeIn K cd15 "_law_same" = true) (k15 : PySem.W.keepIn K (.ref f15) = true)
  (a16 : PySem.W.nsIn K mainGlobals "_law_divisor" = some (some (.ref f16))) (l16 : K.lookup f16 = some ⟨oc16, od16, .func (PySem.W.fnOf "_law_divisor" "_law_divisor" (defArgs s_law_divisor) (defBody s_law_divisor) (defScope s_law_divisor) .none kV16 dc16 pm16 an16 cd16 ct16), sl16⟩) (c16 : PySem.W.codeIn K cd16 "_law_divisor" = true) (k16 : PySem.W.keepIn K (.ref f16) = true)
  (a17 : PySem.W.nsIn K mainGlobals "_law_ratio" = some (some (.ref f17))) (l17 : K.lookup f17 = some ⟨oc17, od17, .func (PySem.W.fnOf "_law_ratio" "_law_ratio" (defArgs s_law_ratio) (defBody s_law_ratio) (defScope s_law_ratio) .none kV17 dc17 pm17 an17 cd17 ct17), sl17⟩) (c17 : PySem.W.codeIn K cd17 "_law_ratio" = true) (k17 : PySem.W.keepIn K (.ref f17) = true)
  (a18 : PySem.W.nsIn K mainGlobals "_law_mul" = some (some (.ref f18))) (l18 : K.lookup f18 = some ⟨oc18, od18, .func (PySem.W.fnOf "_law_mul" "_law_mul" (defArgs s_law_mul) (defBody s_law_mul) (defScope s_law_mul) .none kV18 dc18 pm18 an18 cd18 ct18), sl18⟩) (c18 : PySem.W.codeIn K cd18 "_law_mul" = true) (k18 : PySem.W.keepIn K (.ref f18) = true)
  (a19 : PySem.W.nsIn K mainGlobals "_law_bent" = some (some (.ref f19))) (l19 : K.lookup f19 = some ⟨oc19, od19, .func (PySem.W.fnOf "_law_bent" "_law_bent" (defArgs s_law_bent) (defBody s_law_bent) (defScope s_law_bent) .none kV19 dc19 pm19 an19 cd19 ct19), sl19⟩) (c19 : PySem.W.codeIn K cd19 "_law_bent" = true) (k19 : PySem.W.keepIn K (.ref f19) = true)
  (a20 : PySem.W.nsIn K mainGlobals "_law_whole" = some (some (.ref f20))) (l20 : K.lookup f20 = some ⟨oc20, od20, .func (PySem.W.fnOf "_law_whole" "_law_whole" (defArgs s_law_whole) (defBody s_law_whole) (defScope s_law_whole) .none kV20 dc20 pm20 an20 cd20 ct20), sl20⟩) (c20 : PySem.W.codeIn K cd20 "_law_whole" = true) (k20 : PySem.W.keepIn K (.ref f20) = true)
  (a21 : PySem.W.nsIn K mainGlobals "_law_is" = some (some (.ref f21))) (l21 : K.lookup f21 = some ⟨oc21, od21, .func (PySem.W.fnOf "_law_is" "_law_is" (defArgs s_law_is) (defBody s_law_is) (defScope s_law_is) .none kV21 dc21 pm21 an21 cd21 ct21), sl21⟩) (c21 : PySem.W.codeIn K cd21 "_law_is" = true) (k21 : PySem.W.keepIn K (.ref f21) = true)
  (a22 : PySem.W.nsIn K mainGlobals "law" = some (some (.ref f22))) (l22 : K.lookup f22 = some ⟨oc22, od22, .func (PySem.W.fnOf "law" "law" (defArgs s_law) (defBody s_law) (defScope s_law) .none kV22 dc22 pm22 an22 cd22 ct22), sl22⟩) (c22 : PySem.W.codeIn K cd22 "law" = true) (k22 : PySem.W.keepIn K (.ref f22) = true)
  (z0 : PySem.W.nsIn K mainGlobals "abs" = some none)
  (z1 : PySem.W.nsIn K mainGlobals "all" = some none)
  (z2 : PySem.W.nsIn K mainGlobals "bool" = some none)
  (z3 : PySem.W.nsIn K mainGlobals "int" = some none)
  (z4 : PySem.W.nsIn K mainGlobals "isinstance" = some none)
  (z5 : PySem.W.nsIn K mainGlobals "len" = some none)
  (z6 : PySem.W.nsIn K mainGlobals "list" = some none)
  (z7 : PySem.W.nsIn K mainGlobals "min" = some none)
  (z8 : PySem.W.nsIn K mainGlobals "range" = some none)
  (z9 : PySem.W.nsIn K mainGlobals "sorted" = some none)
  (z10 : PySem.W.nsIn K mainGlobals "str" = some none)
  (z11 : PySem.W.nsIn K mainGlobals "sum" = some none)
  (z12 : PySem.W.nsIn K mainGlobals "tuple" = some none)
  (y0 : PySem.W.nsIn K mainGlobals "MOST_PLACE" = some (some (.int (50) t0)))
  (y1 : PySem.W.nsIn K mainGlobals "MOST_RIDER" = some (some (.int (100) t1)))
  (y2 : PySem.W.nsIn K mainGlobals "MOST_RIDERS" = some (some (.int (3) t2)))
  (y3 : PySem.W.nsIn K mainGlobals "MOST_STILL" = some (some (.int (1000) t3))) : Facts K mg where
  f_is_number := ⟨f0, _, PySem.W.mg_of X G a0, fun_mk (st := s_is_number) l0 c0 k0, (fun_mk (st := s_is_number) l0 c0 k0).binds (ps := ["value", "least", "most"]) fun _ _ _ _ _ _ us hl => match us, hl with | [_, _, _], _ => rfl⟩
  f_divisor_of := ⟨f1, _, PySem.W.mg_of X G a1, fun_mk (st := s_divisor_of) l1 c1 k1, (fun_mk (st := s_divisor_of) l1 c1 k1).binds (ps := ["a", "b"]) fun _ _ _ _ _ _ us hl => match us, hl with | [_, _], _ => rfl⟩
  f_lowest := ⟨f2, _, PySem.W.mg_of X G a2, fun_mk (st := s_lowest) l2 c2 k2, (fun_mk (st := s_lowest) l2 c2 k2).binds (ps := ["p", "q"]) fun _ _ _ _ _ _ us hl => match us, hl with | [_, _], _ => rfl⟩
  f_is_yard := ⟨f3, _, PySem.W.mg_of X G a3, fun_mk (st := s_is_yard) l3 c3 k3, (fun_mk (st := s_is_yard) l3 c3 k3).binds (ps := ["value"]) fun _ _ _ _ _ _ us hl => match us, hl with | [_], _ => rfl⟩
  f_ways_by_moment := ⟨f4, _, PySem.W.mg_of X G a4, fun_mk (st := s_ways_by_moment) l4 c4 k4, (fun_mk (st := s_ways_by_moment) l4 c4 k4).binds (ps := ["yard"]) fun _ _ _ _ _ _ us hl => match us, hl with | [_], _ => rfl⟩
  f_moment_for := ⟨f5, _, PySem.W.mg_of X G a5, fun_mk (st := s_moment_for) l5 c5 k5, (fun_mk (st := s_moment_for) l5 c5 k5).binds (ps := ["yard", "weight"]) fun _ _ _ _ _ _ us hl => match us, hl with | [_, _], _ => rfl⟩
  f_tells := ⟨f6, _, PySem.W.mg_of X G a6, fun_mk (st := s_tells) l6 c6 k6, (fun_mk (st := s_tells) l6 c6 k6).binds (ps := ["yard", "weight"]) fun _ _ _ _ _ _ us hl => match us, hl with | [_, _], _ => rfl⟩
  f_ways_to_tell := ⟨f7, _, PySem.W.mg_of X G a7, fun_mk (st := s_ways_to_tell) l7 c7 k7, (fun_mk (st := s_ways_to_tell) l7 c7 k7).binds (ps := ["yard", "weight"]) fun _ _ _ _ _ _ us hl => match us, hl with | [_, _], _ => rfl⟩
  f_told_weights := ⟨f8, _, PySem.W.mg_of X G a8, fun_mk (st := s_told_weights) l8 c8 k8, (fun_mk (st := s_told_weights) l8 c8 k8).binds (ps := ["yard"]) fun _ _ _ _ _ _ us hl => match us, hl with | [_], _ => rfl⟩
  f_first_untold := ⟨f9, _, PySem.W.mg_of X G a9, fun_mk (st := s_first_untold) l9 c9 k9, (fun_mk (st := s_first_untold) l9 c9 k9).binds (ps := ["yard"]) fun _ _ _ _ _ _ us hl => match us, hl with | [_], _ => rfl⟩
  f_mark_at := ⟨f10, _, PySem.W.mg_of X G a10, fun_mk (st := s_mark_at) l10 c10 k10, (fun_mk (st := s_mark_at) l10 c10 k10).binds (ps := ["yard", "place"]) fun _ _ _ _ _ _ us hl => match us, hl with | [_, _], _ => rfl⟩
  f_law_flat := ⟨f11, _, PySem.W.mg_of X G a11, fun_mk (st := s_law_flat) l11 c11 k11, (fun_mk (st := s_law_flat) l11 c11 k11).binds (ps := ["rows"]) fun _ _ _ _ _ _ us hl => match us, hl with | [_], _ => rfl⟩
  f_law_box := ⟨f12, _, PySem.W.mg_of X G a12, fun_mk (st := s_law_box) l12 c12 k12, (fun_mk (st := s_law_box) l12 c12 k12).binds (ps := ["script"]) fun _ _ _ _ _ _ us hl => match us, hl with | [_], _ => rfl⟩
  f_law_load := ⟨f13, _, PySem.W.mg_of X G a13, fun_mk (st := s_law_load) l13 c13 k13, (fun_mk (st := s_law_load) l13 c13 k13).binds (ps := ["box"]) fun _ _ _ _ _ _ us hl => match us, hl with | [_], _ => rfl⟩
  f_law_draw := ⟨f14, _, PySem.W.mg_of X G a14, fun_mk (st := s_law_draw) l14 c14 k14, (fun_mk (st := s_law_draw) l14 c14 k14).binds (ps := ["box", "many"]) fun _ _ _ _ _ _ us hl => match us, hl with | [_, _], _ => rfl⟩
  f_law_same := ⟨f15, _, PySem.W.mg_of X G a15, fun_mk (st := s_law_same) l15 c15 k15, (fun_mk (st := s_law_same) l15 c15 k15).binds (ps := ["a", "b"]) fun _ _ _ _ _ _ us hl => match us, hl with | [_, _], _ => rfl⟩
  f_law_divisor := ⟨f16, _, PySem.W.mg_of X G a16, fun_mk (st := s_law_divisor) l16 c16 k16, (fun_mk (st := s_law_divisor) l16 c16 k16).binds (ps := ["a", "b"]) fun _ _ _ _ _ _ us hl => match us, hl with | [_, _], _ => rfl⟩
  f_law_ratio := ⟨f17, _, PySem.W.mg_of X G a17, fun_mk (st := s_law_ratio) l17 c17 k17, (fun_mk (st := s_law_ratio) l17 c17 k17).binds (ps := ["p", "q"]) fun _ _ _ _ _ _ us hl => match us, hl with | [_, _], _ => rfl⟩
  f_law_mul := ⟨f18, _, PySem.W.mg_of X G a18, fun_mk (st := s_law_mul) l18 c18 k18, (fun_mk (st := s_law_mul) l18 c18 k18).binds (ps := ["one", "other"]) fun _ _ _ _ _ _ us hl => match us, hl with | [_, _], _ => rfl⟩
  f_law_bent := ⟨f19, _, PySem.W.mg_of X G a19, fun_mk (st := s_law_bent) l19 c19 k19, (fun_mk (st := s_law_bent) l19 c19 k19).binds (ps := ["box", "value"]) fun _ _ _ _ _ _ us hl => match us, hl with | [_, _], _ => rfl⟩
  f_law_whole := ⟨f20, _, PySem.W.mg_of X G a20, fun_mk (st := s_law_whole) l20 c20 k20, (fun_mk (st := s_law_whole) l20 c20 k20).binds (ps := ["value", "low", "high"]) fun _ _ _ _ _ _ us hl => match us, hl with | [_, _, _], _ => rfl⟩
  f_law_is := ⟨f21, _, PySem.W.mg_of X G a21, fun_mk (st := s_law_is) l21 c21 k21, (fun_mk (st := s_law_is) l21 c21 k21).binds (ps := ["value"]) fun _ _ _ _ _ _ us hl => match us, hl with | [_], _ => rfl⟩
  f_law := ⟨f22, _, PySem.W.mg_of X G a22, fun_mk (st := s_law) l22 c22 k22, (fun_mk (st := s_law) l22 c22 k22).binds (ps := ["script"]) fun _ _ _ _ _ _ us hl => match us, hl with | [_], _ => rfl⟩
  b_abs := PySem.W.mg_none_of X G z0
  b_all := PySem.W.mg_none_of X G z1
  b_bool := PySem.W.mg_none_of X G z2
  b_int := PySem.W.mg_none_of X G z3
  b_isinstance := PySem.W.mg_none_of X G z4
  b_len := PySem.W.mg_none_of X G z5
  b_list := PySem.W.mg_none_of X G z6
  b_min := PySem.W.mg_none_of X G z7
  b_range := PySem.W.mg_none_of X G z8
  b_sorted := PySem.W.mg_none_of X G z9
  b_str := PySem.W.mg_none_of X G z10
  b_sum := PySem.W.mg_none_of X G z11
  b_tuple := PySem.W.mg_none_of X G z12
  c_MOST_PLACE := ⟨t0, PySem.W.mg_of X G y0⟩
  c_MOST_RIDER := ⟨t1, PySem.W.mg_of X G y1⟩
  c_MOST_RIDERS := ⟨t2, PySem.W.mg_of X G y2⟩
  c_MOST_STILL := ⟨t3, PySem.W.mg_of X G y3⟩

section
variable {P : Program} {w : World} {K : PySem.W.Frag} {mg : Str → Option Value} {base : Heap}
theorem all_walks (T : Facts K mg) (hlaw : g_law (.un :: .box 2 :: List.replicate 22 .un) fun o => o = .rt (.bool true)) {f : Addr} {fd : FuncData} (F : Fun K "law" "law" s_law f fd) : FnOk P w K mg base CX0 22 f fd ["script"] (spLaw K) :=
  have d_is_number : Def P w K mg base "is_number" ["value", "least", "most"] 1 (spR K 3 m_is_number) := w_is_number T
  have d_divisor_of : Def P w K mg base "divisor_of" ["a", "b"] 1 (spR K 2 m_divisor_of) := w_divisor_of T
  have d_lowest : Def P w K mg base "lowest" ["p", "q"] 2 (spR K 2 m_lowest) := w_lowest T d_divisor_of
  have d_is_yard : Def P w K mg base "is_yard" ["value"] 2 (spR K 1 m_is_yard) := w_is_yard T d_is_number
  have d_ways_by_moment : Def P w K mg base "ways_by_moment" ["yard"] 1 (spRD K 1 m_ways_by_moment) := w_ways_by_moment T
  have d_moment_for : Def P w K mg base "moment_for" ["yard", "weight"] 1 (spR K 2 m_moment_for) := w_moment_for T
  have d_tells : Def P w K mg base "tells" ["yard", "weight"] 2 (spR K 2 m_tells) := w_tells T d_ways_by_moment d_moment_for
  have d_ways_to_tell : Def P w K mg base "ways_to_tell" ["yard", "weight"] 2 (spR K 2 m_ways_to_tell) := w_ways_to_tell T d_ways_by_moment d_moment_for
  have d_told_weights : Def P w K mg base "told_weights" ["yard"] 2 (spR K 1 m_told_weights) := w_told_weights T d_ways_by_moment
  have d_first_untold : Def P w K mg base "first_untold" ["yard"] 3 (spR K 1 m_first_untold) := w_first_untold T d_told_weights
  have d_mark_at : Def P w K mg base "mark_at" ["yard", "place"] 3 (spR K 2 m_mark_at) := w_mark_at T d_lowest
  have d_law_flat : Def P w K mg base "_law_flat" ["rows"] 1 (spR K 1 m_law_flat) := w_law_flat T
  have d_law_box : Def P w K mg base "_law_box" ["script"] 1 (spBox K) := w_law_box T
  have d_law_load : Def P w K mg base "_law_load" ["box"] 1 spLoad := w_law_load T
  have d_law_draw : Def P w K mg base "_law_draw" ["box", "many"] 2 (spX K 2 1 drawM) := w_law_draw T d_law_load
  have d_law_same : ∀ i, Def P w K mg base "_law_same" ["a", "b"] (0 + i) (spR K 2 (m_law_same i)) := w_law_same T
  have d_law_divisor : Def P w K mg base "_law_divisor" ["a", "b"] 1 (spR K 2 m_law_divisor) := w_law_divisor T
  have d_law_ratio : Def P w K mg base "_law_ratio" ["p", "q"] 2 (spR K 2 m_law_ratio) := w_law_ratio T d_law_divisor
  have d_law_mul : Def P w K mg base "_law_mul" ["one", "other"] 3 (spR K 2 m_law_mul) := w_law_mul T d_law_ratio
  have d_law_bent : ∀ i, Def P w K mg base "_law_bent" ["box", "value"] (2 + i) (spX K 2 1 (m_law_bent i)) := w_law_bent T d_law_draw
  have d_law_whole : Def P w K mg base "_law_whole" ["value", "low", "high"] 1 (spR K 3 m_law_whole) := w_law_whole T
  have d_law_is : Def P w K mg base "_law_is" ["value"] 2 (spR K 1 m_law_is) := w_law_is T d_law_whole
  w_law T d_law_box d_law_draw d_is_yard d_law_flat d_law_same d_told_weights d_first_untold d_ways_to_tell d_tells d_mark_at d_law_mul d_law_bent d_law_is hlaw F
end
theorem fin_mk {l : PySem.W.OpenLaw} {w : World} {K : PySem.W.Frag} {h : Heap} {mg : Str → Option Value} {fa : Addr} (X : K.In h) (G : h.Ns mainGlobals mg) (hmg : mg "law" = some (.ref fa))
  {f0 : Addr} {oc0 kV0 dc0 pm0 cd0 ct0 : Value} {od0 an0 : Option Addr} {sl0 : Array (Option Value)} {f1 : Addr} {oc1 kV1 dc1 pm1 cd1 ct1 : Value} {od1 an1 : Option Addr} {sl1 : Array (Option Value)} {f2 : Addr} {oc2 kV2 dc2 pm2 cd2 ct2 : Value} {od2 an2 : Option Addr} {sl2 : Array (Option Value)} {f3 : Addr} {oc3 kV3 dc3 pm3 cd3 ct3 : Value} {od3 an3 : Option Addr} {sl3 : Array (Option Value)} {f4 : Addr} {oc4 kV4 dc4 pm4 cd4 ct4 : Value} {od4 an4 : Option Addr} {sl4 : Array (Option Value)} {f5 : Addr} {oc5 kV5 dc5 pm5 cd5 ct5 : Value} {od5 an5 : Option Addr} {sl5 : Array (Option Value)} {f6 : Addr} {oc6 kV6 dc6 pm6 cd6 ct6 : Value} {od6 an6 : Option Addr} {sl6 : Array (Option Value)} {f7 : Addr} {oc7 kV7 dc7 pm7 cd7 ct7 : Value} {od7 an7 : Option Addr} {sl7 : Array (Option Value)} {f8 : Addr} {oc8 kV8 dc8 pm8 cd8 ct8 : Value} {od8 an8 : Option Addr} {sl8 : Array (Option Value)} {f9 : Addr} {oc9 kV9 dc9 pm9 cd9 ct9 : Value} {od9 an9 : Option Addr} {sl9 : Array (Option Value)} {f10 : Addr} {oc10 kV10 dc10 pm10 cd10 ct10 : Value} {od10 an10 : Option Addr} {sl10 : Array (Option Value)} {f11 : Addr} {oc11 kV11 dc11 pm11 cd11 ct11 : Value} {od11 an11 : Option Addr} {sl11 : Array (Option Value)} {f12 : Addr} {oc12 kV12 dc12 pm12 cd12 ct12 : Value} {od12 an12 : Option Addr} {sl12 : Array (Option Value)} {f13 : Addr} {oc13 kV13 dc13 pm13 cd13 ct13 : Value} {od13 an13 : Option Addr} {sl13 : Array (Option Value)} {f14 : Addr} {oc14 kV14 dc14 pm14 cd14 ct14 : Value} {od14 an14 : Option Addr} {sl14 : Array (Option Value)} {f15 : Addr} {oc15 kV15 dc15 pm15 cd15 ct15 : Value} {od15 an15 : Option Addr} {sl15 : Array (Option Value)} {f16 : Addr} {oc16 kV16 dc16 pm16 cd16 ct16 : Value} {od16 an16 : Option Addr} {sl16 : Array (Option Value)} {f17 : Addr} {oc17 kV17 dc17 pm17 cd17 ct17 : Value} {od17 an17 : Option Addr} {sl17 : Array (Option Value)} {f18 : Addr} {oc18 kV18 dc18 pm18 cd18 ct18 : Value} {od18 an18 : Option Addr} {sl18 : Array (Option Value)} {f19 : Addr} {oc19 kV19 dc19 pm19 cd19 ct19 : Value} {od19 an19 : Option Addr} {sl19 : Array (Option Value)} {f20 : Addr} {oc20 kV20 dc20 pm20 cd20 ct20 : Value} {od20 an20 : Option Addr} {sl20 : Array (Option Value)} {f21 : Addr} {oc21 kV21 dc21 pm21 cd21 ct21 : Value} {od21 an21 : Option Addr} {sl21 : Array (Option Value)} {f22 : Addr} {oc22 kV22 dc22 pm22 cd22 ct22 : Value} {od22 an22 : Option Addr} {sl22 : Array (Option Value)} {t0 : Tok} {t1 : Tok} {t2 : Tok} {t3 : Tok}
  (a0 : PySem.W.nsIn K mainGlobals "is_number" = some (some (.ref f0))) (l0 : K.lookup f0 = some ⟨oc0, od0, .func (PySem.W.fnOf "is_number" "is_number" (defArgs s_is_number) (defBody s_is_number) (defScope s_is_number) .none kV0 dc0 pm0 an0 cd0 ct0), sl0⟩) (c0 : PySem.W.codeIn K cd0 "is_number" = true) (k0 : PySem.W.keepIn K (.ref f0) = true)
  (a1 : PySem.W.nsIn K mainGlobals "divisor_of" = some (some (.ref f1))) (l1 : K.lookup f1 = some ⟨oc1, od1, .func (PySem.W.fnOf "divisor_of" "divisor_of" (defArgs s_divisor_of) (defBody s_divisor_of) (defScope s_divisor_of) .none kV1 dc1 pm1 an1 cd1 ct1), sl1⟩) (c1 : PySem.W.codeIn K cd1 "divisor_of" = true) (k1 : PySem.W.keepIn K (.ref f1) = true)
  (a2 : PySem.W.nsIn K mainGlobals "lowest" = some (some (.ref f2))) (l2 : K.lookup f2 = some ⟨oc2, od2, .func (PySem.W.fnOf "lowest" "lowest" (defArgs s_lowest) (defBody s_lowest) (defScope s_lowest) .none kV2 dc2 pm2 an2 cd2 ct2), sl2⟩) (c2 : PySem.W.codeIn K cd2 "lowest" = true) (k2 : PySem.W.keepIn K (.ref f2) = true)
  (a3 : PySem.W.nsIn K mainGlobals "is_yard" = some (some (.ref f3))) (l3 : K.lookup f3 = some ⟨oc3, od3, .func (PySem.W.fnOf "is_yard" "is_yard" (defArgs s_is_yard) (defBody s_is_yard) (defScope s_is_yard) .none kV3 dc3 pm3 an3 cd3 ct3), sl3⟩) (c3 : PySem.W.codeIn K cd3 "is_yard" = true) (k3 : PySem.W.keepIn K (.ref f3) = true)
  (a4 : PySem.W.nsIn K mainGlobals "ways_by_moment" = some (some (.ref f4))) (l4 : K.lookup f4 = some ⟨oc4, od4, .func (PySem.W.fnOf "ways_by_moment" "ways_by_moment" (defArgs s_ways_by_moment) (defBody s_ways_by_moment) (defScope s_ways_by_moment) .none kV4 dc4 pm4 an4 cd4 ct4), sl4⟩) (c4 : PySem.W.codeIn K cd4 "ways_by_moment" = true) (k4 : PySem.W.keepIn K (.ref f4) = true)
  (a5 : PySem.W.nsIn K mainGlobals "moment_for" = some (some (.ref f5))) (l5 : K.lookup f5 = some ⟨oc5, od5, .func (PySem.W.fnOf "moment_for" "moment_for" (defArgs s_moment_for) (defBody s_moment_for) (defScope s_moment_for) .none kV5 dc5 pm5 an5 cd5 ct5), sl5⟩) (c5 : PySem.W.codeIn K cd5 "moment_for" = true) (k5 : PySem.W.keepIn K (.ref f5) = true)
  (a6 : PySem.W.nsIn K mainGlobals "tells" = some (some (.ref f6))) (l6 : K.lookup f6 = some ⟨oc6, od6, .func (PySem.W.fnOf "tells" "tells" (defArgs s_tells) (defBody s_tells) (defScope s_tells) .none kV6 dc6 pm6 an6 cd6 ct6), sl6⟩) (c6 : PySem.W.codeIn K cd6 "tells" = true) (k6 : PySem.W.keepIn K (.ref f6) = true)
  (a7 : PySem.W.nsIn K mainGlobals "ways_to_tell" = some (some (.ref f7))) (l7 : K.lookup f7 = some ⟨oc7, od7, .func (PySem.W.fnOf "ways_to_tell" "ways_to_tell" (defArgs s_ways_to_tell) (defBody s_ways_to_tell) (defScope s_ways_to_tell) .none kV7 dc7 pm7 an7 cd7 ct7), sl7⟩) (c7 : PySem.W.codeIn K cd7 "ways_to_tell" = true) (k7 : PySem.W.keepIn K (.ref f7) = true)
  (a8 : PySem.W.nsIn K mainGlobals "told_weights" = some (some (.ref f8))) (l8 : K.lookup f8 = some ⟨oc8, od8, .func (PySem.W.fnOf "told_weights" "told_weights" (defArgs s_told_weights) (defBody s_told_weights) (defScope s_told_weights) .none kV8 dc8 pm8 an8 cd8 ct8), sl8⟩) (c8 : PySem.W.codeIn K cd8 "told_weights" = true) (k8 : PySem.W.keepIn K (.ref f8) = true)
  (a9 : PySem.W.nsIn K mainGlobals "first_untold" = some (some (.ref f9))) (l9 : K.lookup f9 = some ⟨oc9, od9, .func (PySem.W.fnOf "first_untold" "first_untold" (defArgs s_first_untold) (defBody s_first_untold) (defScope s_first_untold) .none kV9 dc9 pm9 an9 cd9 ct9), sl9⟩) (c9 : PySem.W.codeIn K cd9 "first_untold" = true) (k9 : PySem.W.keepIn K (.ref f9) = true)
  (a10 : PySem.W.nsIn K mainGlobals "mark_at" = some (some (.ref f10))) (l10 : K.lookup f10 = some ⟨oc10, od10, .func (PySem.W.fnOf "mark_at" "mark_at" (defArgs s_mark_at) (defBody s_mark_at) (defScope s_mark_at) .none kV10 dc10 pm10 an10 cd10 ct10), sl10⟩) (c10 : PySem.W.codeIn K cd10 "mark_at" = true) (k10 : PySem.W.keepIn K (.ref f10) = true)
  (a11 : PySem.W.nsIn K mainGlobals "_law_flat" = some (some (.ref f11))) (l11 : K.lookup f11 = some ⟨oc11, od11, .func (PySem.W.fnOf "_law_flat" "_law_flat" (defArgs s_law_flat) (defBody s_law_flat) (defScope s_law_flat) .none kV11 dc11 pm11 an11 cd11 ct11), sl11⟩) (c11 : PySem.W.codeIn K cd11 "_law_flat" = true) (k11 : PySem.W.keepIn K (.ref f11) = true)
  (a12 : PySem.W.nsIn K mainGlobals "_law_box" = some (some (.ref f12))) (l12 : K.lookup f12 = some ⟨oc12, od12, .func (PySem.W.fnOf "_law_box" "_law_box" (defArgs s_law_box) (defBody s_law_box) (defScope s_law_box) .none kV12 dc12 pm12 an12 cd12 ct12), sl12⟩) (c12 : PySem.W.codeIn K cd12 "_law_box" = true) (k12 : PySem.W.keepIn K (.ref f12) = true)
  (a13 : PySem.W.nsIn K mainGlobals "_law_load" = some (some (.ref f13))) (l13 : K.lookup f13 = some ⟨oc13, od13, .func (PySem.W.fnOf "_law_load" "_law_load" (defArgs s_law_load) (defBody s_law_load) (defScope s_law_load) .none kV13 dc13 pm13 an13 cd13 ct13), sl13⟩) (c13 : PySem.W.codeIn K cd13 "_law_load" = true) (k13 : PySem.W.keepIn K (.ref f13) = true)
  (a14 : PySem.W.nsIn K mainGlobals "_law_draw" = some (some (.ref f14))) (l14 : K.lookup f14 = some ⟨oc14, od14, .func (PySem.W.fnOf "_law_draw" "_law_draw" (defArgs s_law_draw) (defBody s_law_draw) (defScope s_law_draw) .none kV14 dc14 pm14 an14 cd14 ct14), sl14⟩) (c14 : PySem.W.codeIn K cd14 "_law_draw" = true) (k14 : PySem.W.keepIn K (.ref f14) = true)
  (a15 : PySem.W.nsIn K mainGlobals "_law_same" = some (some (.ref f15))) (l15 : K.lookup f15 = some ⟨oc15, od15, .func (PySem.W.fnOf "_law_same" "_law_same" (defArgs s_law_same) (defBody s_law_same) (defScope s_law_same) .none kV15 dc15 pm15 an15 cd15 ct15), sl15⟩) (c15 : PySem.W.codeIn K cd15 "_law_same" = true) (k15 : PySem.W.keepIn K (.ref f15) = true)
  (a16 : PySem.W.nsIn K mainGlobals "_law_divisor" = some (some (.ref f16))) (l16 : K.lookup f16 = some ⟨oc16, od16, .func (PySem.W.fnOf "_law_divisor" "_law_divisor" (defArgs s_law_divisor) (defBody s_law_divisor) (defScope s_law_divisor) .none kV16 dc16 pm16 an16 cd16 ct16), sl16⟩) (c16 : PySem.W.codeIn K cd16 "_law_divisor" = true) (k16 : PySem.W.keepIn K (.ref f16) = true)
  (a17 : PySem.W.nsIn K mainGlobals "_law_ratio" = some (some (.ref f17))) (l17 : K.lookup f17 = some ⟨oc17, od17, .func (PySem.W.fnOf "_law_ratio" "_law_ratio" (defArgs s_law_ratio) (defBody s_law_ratio) (defScope s_law_ratio) .none kV17 dc17 pm17 an17 cd17 ct17), sl17⟩) (c17 : PySem.W.codeIn K cd17 "_law_ratio" = true) (k17 : PySem.W.keepIn K (.ref f17) = true)
  (a18 : PySem.W.nsIn K mainGlobals "_law_mul" = some (some (.ref f18))) (l18 : K.lookup f18 = some ⟨oc18, od18, .func (PySem.W.fnOf "_law_mul" "_law_mul" (defArgs s_law_mul) (defBody s_law_mul) (defScope s_law_mul) .none kV18 dc18 pm18 an18 cd18 ct18), sl18⟩) (c18 : PySem.W.codeIn K cd18 "_law_mul" = true) (k18 : PySem.W.keepIn K (.ref f18) = true)
  (a19 : PySem.W.nsIn K mainGlobals "_law_bent" = some (some (.ref f19))) (l19 : K.lookup f19 = some ⟨oc19, od19, .func (PySem.W.fnOf "_law_bent" "_law_bent" (defArgs s_law_bent) (defBody s_law_bent) (defScope s_law_bent) .none kV19 dc19 pm19 an19 cd19 ct19), sl19⟩) (c19 : PySem.W.codeIn K cd19 "_law_bent" = true) (k19 : PySem.W.keepIn K (.ref f19) = true)
  (a20 : PySem.W.nsIn K mainGlobals "_law_whole" = some (some (.ref f20))) (l20 : K.lookup f20 = some ⟨oc20, od20, .func (PySem.W.fnOf "_law_whole" "_law_whole" (defArgs s_law_whole) (defBody s_law_whole) (defScope s_law_whole) .none kV20 dc20 pm20 an20 cd20 ct20), sl20⟩) (c20 : PySem.W.codeIn K cd20 "_law_whole" = true) (k20 : PySem.W.keepIn K (.ref f20) = true)
  (a21 : PySem.W.nsIn K mainGlobals "_law_is" = some (some (.ref f21))) (l21 : K.lookup f21 = some ⟨oc21, od21, .func (PySem.W.fnOf "_law_is" "_law_is" (defArgs s_law_is) (defBody s_law_is) (defScope s_law_is) .none kV21 dc21 pm21 an21 cd21 ct21), sl21⟩) (c21 : PySem.W.codeIn K cd21 "_law_is" = true) (k21 : PySem.W.keepIn K (.ref f21) = true)
  (a22 : PySem.W.nsIn K mainGlobals "law" = some (some (.ref f22))) (l22 : K.lookup f22 = some ⟨oc22, od22, .func (PySem.W.fnOf "law" "law" (defArgs s_law) (defBody s_law) (defScope s_law) .none kV22 dc22 pm22 an22 cd22 ct22), sl22⟩) (c22 : PySem.W.codeIn K cd22 "law" = true) (k22 : PySem.W.keepIn K (.ref f22) = true)
  (z0 : PySem.W.nsIn K mainGlobals "abs" = some none)
  (z1 : PySem.W.nsIn K mainGlobals "all" = some none)
  (z2 : PySem.W.nsIn K mainGlobals "bool" = some none)
  (z3 : PySem.W.nsIn K mainGlobals "int" = some none)
  (z4 : PySem.W.nsIn K mainGlobals "isinstance" = some none)
  (z5 : PySem.W.nsIn K mainGlobals "len" = some none)
  (z6 : PySem.W.nsIn K mainGlobals "list" = some none)
  (z7 : PySem.W.nsIn K mainGlobals "min" = some none)
  (z8 : PySem.W.nsIn K mainGlobals "range" = some none)
  (z9 : PySem.W.nsIn K mainGlobals "sorted" = some none)
  (z10 : PySem.W.nsIn K mainGlobals "str" = some none)
  (z11 : PySem.W.nsIn K mainGlobals "sum" = some none)
  (z12 : PySem.W.nsIn K mainGlobals "tuple" = some none)
  (y0 : PySem.W.nsIn K mainGlobals "MOST_PLACE" = some (some (.int (50) t0)))
  (y1 : PySem.W.nsIn K mainGlobals "MOST_RIDER" = some (some (.int (100) t1)))
  (y2 : PySem.W.nsIn K mainGlobals "MOST_RIDERS" = some (some (.int (3) t2)))
  (y3 : PySem.W.nsIn K mainGlobals "MOST_STILL" = some (some (.int (1000) t3))) :
  ∃ fd : FuncData, (∀ (s : Shared) (v : Value), BindsTo s fd ⟨[v], []⟩ [("script", v)]) ∧ ∀ base : Heap, K.In base → base.Ns mainGlobals mg → FnOk l.prog w K mg base CX0 22 fa fd ["script"] (spLaw K) := by
  have T : Facts K mg := facts_mk X G a0 l0 c0 k0 a1 l1 c1 k1 a2 l2 c2 k2 a3 l3 c3 k3 a4 l4 c4 k4 a5 l5 c5 k5 a6 l6 c6 k6 a7 l7 c7 k7 a8 l8 c8 k8 a9 l9 c9 k9 a10 l10 c10 k10 a11 l11 c11 k11 a12 l12 c12 k12 a13 l13 c13 k13 a14 l14 c14 k14 a15 l15 c15 k15 a16 l16 c16 k16 a17 l17 c17 k17 a18 l18 c18 k18 a19 l19 c19 k19 a20 l20 c20 k20 a21 l21 c21 k21 a22 l22 c22 k22 z0 z1 z2 z3 z4 z5 z6 z7 z8 z9 z10 z11 z12 y0 y1 y2 y3
  obtain ⟨f, fd, gf, FF, bf⟩ := T.f_law
  have e : f = fa := Value.ref.inj (Option.some.inj (gf.symm.trans hmg))
  subst e
  refine ⟨fd, fun s v => ?_, fun base _ _ => all_walks T law_true FF⟩
  obtain ⟨oc, od, kV, doc, pm, an, cdv, ct, osl, rfl, _⟩ := FF.ex
  exact .of_eq rfl

end K51
open PySem PySem.W PyProof.Rows
set_option maxHeartbeats 0 in
theorem PySem.Challenge.cw_hangseven_k51_whole_riders_on_yards_holds : PySem.Challenge.rw_hangseven_k51_whole_riders_on_yards.Holds := by
  w_on; o_law; k_head; (case hw => w_witness2)
  k_fill
  refine L2.walk_of (l := PySem.Challenge.rw_hangseven_k51_whole_riders_on_yards) (n := 63) (k := 22) (x := "script") (CX := fun _ => L2.CX0) (sp := fun w => Pu.spLaw _) rfl (by decide) rfl ⟨rfl, by decide, by decide⟩ (fun w h Y => PySem.W.kIn_of Y) ?F (fun _ _ a ns hl _ hS => ⟨a, ns, rfl, hS, hl, fun _ => rfl⟩) (fun _ _ _ _ _ h => h)
  case F =>
    intro w mg fa h KX G hmg
    refine' K51.fin_mk KX G hmg ?a0 ?l0 ?c0 ?k0 ?a1 ?l1 ?c1 ?k1 ?a2 ?l2 ?c2 ?k2 ?a3 ?l3 ?c3 ?k3 ?a4 ?l4 ?c4 ?k4 ?a5 ?l5 ?c5 ?k5 ?a6 ?l6 ?c6 ?k6 ?a7 ?l7 ?c7 ?k7 ?a8 ?l8 ?c8 ?k8 ?a9 ?l9 ?c9 ?k9 ?a10 ?l10 ?c10 ?k10 ?a11 ?l11 ?c11 ?k11 ?a12 ?l12 ?c12 ?k12 ?a13 ?l13 ?c13 ?k13 ?a14 ?l14 ?c14 ?k14 ?a15 ?l15 ?c15 ?k15 ?a16 ?l16 ?c16 ?k16 ?a17 ?l17 ?c17 ?k17 ?a18 ?l18 ?c18 ?k18 ?a19 ?l19 ?c19 ?k19 ?a20 ?l20 ?c20 ?k20 ?a21 ?l21 ?c21 ?k21 ?a22 ?l22 ?c22 ?k22 ?z0 ?z1 ?z2 ?z3 ?z4 ?z5 ?z6 ?z7 ?z8 ?z9 ?z10 ?z11 ?z12 ?y0 ?y1 ?y2 ?y3
    (case a0 => k_is); (case l0 => k_is); (case c0 => k_is); (case k0 => k_is); (case a1 => k_is); (case l1 => k_is); (case c1 => k_is); (case k1 => k_is); (case a2 => k_is); (case l2 => k_is); (case c2 => k_is); (case k2 => k_is); (case a3 => k_is); (case l3 => k_is); (case c3 => k_is); (case k3 => k_is); (case a4 => k_is); (case l4 => k_is); (case c4 => k_is); (case k4 => k_is); (case a5 => k_is); (case l5 => k_is); (case c5 => k_is); (case k5 => k_is); (case a6 => k_is); (case l6 => k_is); (case c6 => k_is); (case k6 => k_is); (case a7 => k_is); (case l7 => k_is); (case c7 => k_is); (case k7 => k_is); (case a8 => k_is); (case l8 => k_is); (case c8 => k_is); (case k8 => k_is); (case a9 => k_is); (case l9 => k_is); (case c9 => k_is); (case k9 => k_is); (case a10 => k_is); (case l10 => k_is); (case c10 => k_is); (case k10 => k_is); (case a11 => k_is); (case l11 => k_is); (case c11 => k_is); (case k11 => k_is); (case a12 => k_is); (case l12 => k_is); (case c12 => k_is); (case k12 => k_is); (case a13 => k_is); (case l13 => k_is); (case c13 => k_is); (case k13 => k_is); (case a14 => k_is); (case l14 => k_is); (case c14 => k_is); (case k14 => k_is); (case a15 => k_is); (case l15 => k_is); (case c15 => k_is); (case k15 => k_is); (case a16 => k_is); (case l16 => k_is); (case c16 => k_is); (case k16 => k_is); (case a17 => k_is); (case l17 => k_is); (case c17 => k_is); (case k17 => k_is); (case a18 => k_is); (case l18 => k_is); (case c18 => k_is); (case k18 => k_is); (case a19 => k_is); (case l19 => k_is); (case c19 => k_is); (case k19 => k_is); (case a20 => k_is); (case l20 => k_is); (case c20 => k_is); (case k20 => k_is); (case a21 => k_is); (case l21 => k_is); (case c21 => k_is); (case k21 => k_is); (case a22 => k_is); (case l22 => k_is); (case c22 => k_is); (case k22 => k_is); (case z0 => k_is); (case z1 => k_is); (case z2 => k_is); (case z3 => k_is); (case z4 => k_is); (case z5 => k_is); (case z6 => k_is); (case z7 => k_is); (case z8 => k_is); (case z9 => k_is); (case z10 => k_is); (case z11 => k_is); (case z12 => k_is); (case y0 => k_is); (case y1 => k_is); (case y2 => k_is); (case y3 => k_is)
