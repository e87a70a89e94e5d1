import PyProof.Rows.All
import Wide.All
import OpenK.AllK
import Wide.FinOn
import HandS.ForMost
import HandS.Wide
import HandS.Style
import HandS.Flow
import KE.DataEq
import KE.DataCmp
import KE.DataMinMax
import KE.DataMinKey
import KE.DataFind
import KE.SortCalls
import KE.SortKeyed
import HandS.TupAny
import HandS.IsInst
import HandS.Text
import KE.DataAny
import KE.KTupSum
import HandS.TupMul
import KE.SortData
import PySem.Challenge.RW_hangseven_k58_whole_cords_pulled
set_option Elab.async false
set_option linter.all false
set_option maxRecDepth 100000
set_option maxHeartbeats 4000000
/-! A layer of pure data over the hand layer: what a def computes is a function of data (PyData) into wishes. -/
namespace Pu
open PySem PySem.Spec PyProof.Rows L2

abbrev D := PyData
/-- a computation: from what is wanted of its value to what must hold -/
abbrev R (α : Type) := (α → Prop) → Prop
def ok {α : Type} (a : α) : R α := fun p => p a
def fail {α : Type} : R α := fun _ => False
def bd {α β : Type} (m : R α) (k : α → R β) : R β := fun p => m (fun a => k a p)
def req (c : Prop) : R Unit := fun p => c ∧ p ()
@[simp] theorem bd_ok {α β : Type} (a : α) (k : α → R β) : bd (ok a) k = k a := (rfl)
@[simp] theorem bd_fail {α β : Type} (k : α → R β) : bd fail k = fail := (rfl)
@[simp] theorem bd_bd {α β γ : Type} (m : R α) (k : α → R β) (l : β → R γ) : bd (bd m k) l = bd m (fun a => bd (k a) l) := (rfl)
@[simp] theorem bd_ret {α : Type} (m : R α) : bd m ok = m := (rfl)
theorem bd_req {c : Prop} {β : Type} (h : c) (k : Unit → R β) : bd (req c) k = k () := by
  funext p; exact propext ⟨fun q => q.2, fun q => ⟨h, q⟩⟩
@[simp] theorem bd_req_true {β : Type} (k : Unit → R β) : bd (req True) k = k () := bd_req trivial k

/-- the one thing that is changed by the law's draws: a list at b of a list at c and k numbers -/
inductive Ef where
  | no
  | bx (k : Nat) (b c : Addr)
def Ef.vol : Ef → Addr → Prop
  | .no, _ => False
  | .bx _ b c, a => a = b ∨ a = c
def BxInts (_ : List Int) : Prop := True
def Ef.inv : Ef → Hp → Prop
  | .no, _ => True
  | .bx k b c, H => b ≠ c ∧ ∃ (ns is : List Int), is.length = k ∧ BxInts is ∧ ns.length ≤ 1000 ∧ H b = some (.lst (.ref c :: is.map V.int)) ∧ H c = some (.lst (ns.map V.int))
def Ef.box : Ef → Nat → V → Prop
  | .no, _, _ => False
  | .bx k b _, j, v => k = j ∧ v = .ref b
theorem Ef.there : ∀ {E : Ef} {H : Hp} {a : Addr}, E.inv H → E.vol a → ∃ o, H a = some o
  | .bx k b c, H, a, h, v => by
    obtain ⟨_, ns, is, _, _, _, e1, e2⟩ := h
    rcases v with rfl | rfl
    · exact ⟨_, e1⟩
    · exact ⟨_, e2⟩
theorem Ef.loc : ∀ {E : Ef} {H H' : Hp}, E.inv H → (∀ a, E.vol a → H' a = H a) → E.inv H'
  | .no, _, _, _, _ => trivial
  | .bx k b c, H, H', h, q => by
    obtain ⟨n, ns, is, h1, h2, h3, e1, e2⟩ := h
    exact ⟨n, ns, is, h1, h2, h3, (q b (.inl rfl)).trans e1, (q c (.inr rfl)).trans e2⟩

structure Ext (E : Ef) (G H G' H' : Hp) : Prop where
  g : ∀ a o, G a = some o → G' a = some o
  h : ∀ a o, H a = some o → ¬ E.vol a → H' a = some o
  n : ∀ a o, H a = some o → ¬ E.vol a → G a = none → G' a = none
theorem Ext.refl {E : Ef} {G H : Hp} : Ext E G H G H := ⟨fun _ _ h => h, fun _ _ h _ => h, fun _ _ _ _ h => h⟩
theorem Ext.trans {E : Ef} {G H G1 H1 G2 H2 : Hp} (a : Ext E G H G1 H1) (b : Ext E G1 H1 G2 H2) : Ext E G H G2 H2 :=
  ⟨fun p o h => b.g p o (a.g p o h), fun p o h v => b.h p o (a.h p o h v) v, fun p o h v g => b.n p o (a.h p o h v) v (a.n p o h v g)⟩

/-- the frozen part G lies in the heap H, apart from the box -/
structure W0 (E : Ef) (G H : Hp) : Prop where
  sub : ∀ a o, G a = some o → H a = some o
  vol : ∀ a, E.vol a → G a = none
  inv : E.inv H
theorem W0.fresh {E : Ef} {G H : Hp} (w : W0 E G H) {p : Addr} (h : H p = none) : G p = none ∧ ¬ E.vol p := by
  refine ⟨?_, fun v => ?_⟩
  · cases e : G p with
    | none => rfl
    | some o => rw [w.sub p o e] at h; cases h
  · obtain ⟨o, e⟩ := Ef.there w.inv v
    rw [e] at h; cases h
/-- a new object, not frozen -/
theorem W0.new {E : Ef} {G H : Hp} (w : W0 E G H) {p : Addr} (h : H p = none) (o : HO) : W0 E G (upd H p o) ∧ Ext E G H G (upd H p o) := by
  obtain ⟨g, v⟩ := w.fresh h
  have k : ∀ a u, H a = some u → (upd H p o) a = some u := fun a u e => by rw [upd_ne (ne_of_none e h)]; exact e
  refine ⟨⟨fun a u e => k a u (w.sub a u e), w.vol, Ef.loc w.inv fun a va => ?_⟩, ⟨fun _ _ e => e, fun a u e _ => k a u e, fun _ _ _ _ e => e⟩⟩
  rw [upd_ne]
  rintro rfl; exact v va
/-- a new object, frozen -/
theorem W0.newF {E : Ef} {G H : Hp} (w : W0 E G H) {p : Addr} (h : H p = none) (o : HO) : W0 E (upd G p o) (upd H p o) ∧ Ext E G H (upd G p o) (upd H p o) := by
  obtain ⟨g, v⟩ := w.fresh h
  obtain ⟨w1, e1⟩ := w.new h o
  refine ⟨⟨fun a u e => ?_, fun a va => ?_, w1.inv⟩, ⟨fun a u e => ?_, e1.h, fun a u e _ q => ?_⟩⟩
  · by_cases ha : a = p
    · subst ha; rw [upd_same] at e; rw [upd_same]; exact e
    · rw [upd_ne ha] at e; exact w1.sub a u e
  · rw [upd_ne (by rintro rfl; exact v va)]; exact w.vol a va
  · rw [upd_ne (ne_of_none e g)]; exact e
  · rw [upd_ne (ne_of_none e h)]; exact q
/-- an object that stands unfrozen is frozen -/
theorem W0.freeze {E : Ef} {G H : Hp} (w : W0 E G H) {p : Addr} {o : HO} (h : H p = some o) (g : G p = none) (v : ¬ E.vol p) : W0 E (upd G p o) H := by
  refine ⟨fun a u e => ?_, fun a va => ?_, w.inv⟩
  · by_cases ha : a = p
    · subst ha; rw [upd_same] at e; cases e; exact h
    · rw [upd_ne ha] at e; exact w.sub a u e
  · rw [upd_ne (by rintro rfl; exact v va)]; exact w.vol a va

/-! ### data in the heap -/
abbrev Le (G G' : Hp) : Prop := ∀ a o, G a = some o → G' a = some o
theorem rd_mono {G G' : Hp} (h : Le G G') {a : Addr} {u : HO} : Rd G a u → Rd G' a u
  | .inl e => .inl (h a _ e)
  | .inr ⟨o, e⟩ => .inr ⟨o, h a _ e⟩
theorem sqL_mono {K : PySem.W.Frag} {G G' : Hp} (h : Le G G') {a : Addr} {xs : List V} : SqL K G a xs → SqL K G' a xs
  | .inl e => .inl (rd_mono h e)
  | .inr e => .inr e
theorem sqT_mono {K : PySem.W.Frag} {G G' : Hp} (h : Le G G') {a : Addr} {xs : List V} : SqT K G a xs → SqT K G' a xs
  | .inl e => .inl (rd_mono h e)
  | .inr e => .inr e
mutual
/-- a value stands for data: lists are tracked ones -/
inductive Dq (K : PySem.W.Frag) (H : Hp) : V → PyData → Prop
  | non : Dq K H .non .none
  | bl (b : Bool) : Dq K H (.bl b) (.bool b)
  | int (i : Int) : Dq K H (.int i) (.int i)
  | str (x : Str) : Dq K H (.str x) (.str x)
  | lst {a : Addr} {xs : List V} {ds : List PyData} : H a = some (.lst xs) → DqAll K H xs ds → Dq K H (.ref a) (.list ds)
  | tup {a : Addr} {xs : List V} {ds : List PyData} : SqT K H a xs → DqAll K H xs ds → Dq K H (.ref a) (.tuple ds)
inductive DqAll (K : PySem.W.Frag) (H : Hp) : List V → List PyData → Prop
  | nil : DqAll K H [] []
  | cons {v : V} {vs : List V} {d : PyData} {ds : List PyData} : Dq K H v d → DqAll K H vs ds → DqAll K H (v :: vs) (d :: ds)
end
mutual
theorem Dq.mono {K : PySem.W.Frag} {G G' : Hp} (h : Le G G') : ∀ {v : V} {d : D}, Dq K G v d → Dq K G' v d
  | _, _, .non => .non
  | _, _, .bl b => .bl b
  | _, _, .int i => .int i
  | _, _, .str x => .str x
  | _, _, .lst e q => .lst (h _ _ e) (DqAll.mono h q)
  | _, _, .tup e q => .tup (sqT_mono h e) (DqAll.mono h q)
theorem DqAll.mono {K : PySem.W.Frag} {G G' : Hp} (h : Le G G') : ∀ {vs : List V} {ds : List D}, DqAll K G vs ds → DqAll K G' vs ds
  | _, _, .nil => .nil
  | _, _, .cons e q => .cons (Dq.mono h e) (DqAll.mono h q)
end
mutual
theorem Dq.dp {K : PySem.W.Frag} {G : Hp} : ∀ {v : V} {d : D}, Dq K G v d → Dp K G v d
  | _, _, .non => .non
  | _, _, .bl b => .bl b
  | _, _, .int i => .int i
  | _, _, .str x => .str x
  | _, _, .lst e q => .lst (.of e) (DqAll.dp q)
  | _, _, .tup e q => .tup e (DqAll.dp q)
theorem DqAll.dp {K : PySem.W.Frag} {G : Hp} : ∀ {vs : List V} {ds : List D}, DqAll K G vs ds → DpAll K G vs ds
  | _, _, .nil => .nil
  | _, _, .cons e q => .cons (Dq.dp e) (DqAll.dp q)
end
theorem DqAll.length {K : PySem.W.Frag} {G : Hp} : ∀ {vs : List V} {ds : List D}, DqAll K G vs ds → vs.length = ds.length
  | _, _, .nil => rfl
  | _, _, .cons _ q => by rw [List.length_cons, List.length_cons, DqAll.length q]
theorem DqAll.get {K : PySem.W.Frag} {G : Hp} : ∀ {vs : List V} {ds : List D}, DqAll K G vs ds → ∀ {i : Nat} {d : D}, ds[i]? = some d → ∃ v, vs[i]? = some v ∧ Dq K G v d
  | _, _, .nil, _, _, e => by simp at e
  | _, _, .cons r _, 0, _, e => by simp at e; subst e; exact ⟨_, rfl, r⟩
  | _, _, .cons _ q, i + 1, _, e => by
    obtain ⟨v, h1, h2⟩ := DqAll.get q (i := i) (by simpa using e)
    exact ⟨v, by simpa using h1, h2⟩
theorem DqAll.append {K : PySem.W.Frag} {G : Hp} : ∀ {vs ws : List V} {ds es : List D}, DqAll K G vs ds → DqAll K G ws es → DqAll K G (vs ++ ws) (ds ++ es)
  | _, _, _, _, .nil, s => s
  | _, _, _, _, .cons r t, s => .cons r (DqAll.append t s)
theorem DqAll.take {K : PySem.W.Frag} {G : Hp} : ∀ {vs : List V} {ds : List D} (n : Nat), DqAll K G vs ds → DqAll K G (vs.take n) (ds.take n)
  | _, _, 0, _ => .nil
  | _, _, _ + 1, .nil => .nil
  | _, _, n + 1, .cons r t => .cons r (DqAll.take n t)
theorem DqAll.drop {K : PySem.W.Frag} {G : Hp} : ∀ {vs : List V} {ds : List D} (n : Nat), DqAll K G vs ds → DqAll K G (vs.drop n) (ds.drop n)
  | _, _, 0, r => r
  | _, _, _ + 1, .nil => .nil
  | _, _, n + 1, .cons _ t => DqAll.drop n t
theorem DqAll.set {K : PySem.W.Frag} {G : Hp} {x : V} {d : D} (r : Dq K G x d) : ∀ {vs : List V} {ds : List D} (i : Nat), DqAll K G vs ds → DqAll K G (vs.set i x) (ds.set i d)
  | _, _, _, .nil => .nil
  | _, _, 0, .cons _ t => .cons r t
  | _, _, i + 1, .cons q t => .cons q (DqAll.set r i t)
theorem DqAll.reverse {K : PySem.W.Frag} {G : Hp} : ∀ {vs : List V} {ds : List D}, DqAll K G vs ds → DqAll K G vs.reverse ds.reverse
  | _, _, .nil => .nil
  | _, _, .cons r t => by
    rw [List.reverse_cons, List.reverse_cons]
    exact DqAll.append (DqAll.reverse t) (.cons r .nil)
theorem DqAll.ints {K : PySem.W.Frag} {G : Hp} : ∀ {vs : List V} {ns : List Int}, DqAll K G vs (ns.map .int) → vs = ns.map V.int
  | _, [], .nil => rfl
  | _, _ :: _, .cons (.int _) q => by rw [List.map_cons, DqAll.ints q]
theorem DqAll.bools {K : PySem.W.Frag} {G : Hp} : ∀ {vs : List V} {ns : List Bool}, DqAll K G vs (ns.map .bool) → vs = ns.map V.bl
  | _, [], .nil => rfl
  | _, _ :: _, .cons (.bl _) q => by rw [List.map_cons, DqAll.bools q]
theorem DqAll.ofInts {K : PySem.W.Frag} {G : Hp} : ∀ (ns : List Int), DqAll K G (ns.map V.int) (ns.map .int)
  | [] => .nil
  | n :: r => .cons (.int n) (DqAll.ofInts r)
mutual
theorem Dq.plain {K : PySem.W.Frag} {G : Hp} : ∀ {v : V} {d : D}, Dq K G v d → d.plain = true
  | _, _, .non => rfl
  | _, _, .bl b => rfl
  | _, _, .int i => rfl
  | _, _, .str x => rfl
  | _, _, .lst e q => DqAll.plain q
  | _, _, .tup e q => DqAll.plain q
theorem DqAll.plain {K : PySem.W.Frag} {G : Hp} : ∀ {vs : List V} {ds : List D}, DqAll K G vs ds → PyData.plainAll ds = true
  | _, _, .nil => rfl
  | _, _, .cons e q => by
    show (PyData.plain _ && PyData.plainAll _) = true
    rw [Dq.plain e, DqAll.plain q]; rfl
end

/-! ### slots -/
inductive Sl where
  | un
  | dat (d : D)
  | own (ds : List D)
  | box (k : Nat)
/-- where a def was entered: the box, the frozen part and the heap then -/
structure Ct where
  E : Ef
  G0 : Hp
  H0 : Hp
structure Wd (c : Ct) (G H : Hp) : Prop where
  w : W0 c.E G H
  e : Ext c.E c.G0 c.H0 G H
theorem Wd.step {c : Ct} {G H G' H' : Hp} (w : Wd c G H) (w' : W0 c.E G' H') (e : Ext c.E G H G' H') : Wd c G' H' := ⟨w', w.e.trans e⟩
/-- an unfrozen list of its own -/
structure Own (K : PySem.W.Frag) (c : Ct) (G H : Hp) (a : Addr) (ds : List D) : Prop where
  at_ : ∃ vs, H a = some (.lst vs) ∧ DqAll K G vs ds
  g : G a = none
  h0 : c.H0 a = none
  v : ¬ c.E.vol a
def SlOk (K : PySem.W.Frag) (c : Ct) (G H : Hp) : Sl → V → Prop
  | .un, _ => True
  | .dat d, v => Dq K G v d
  | .own ds, v => ∃ a, v = .ref a ∧ Own K c G H a ds
  | .box k, v => c.E.box k v
structure RS (K : PySem.W.Frag) (c : Ct) (G H : Hp) (σ : L2.St) (ρ : List Sl) : Prop where
  len : σ.length = ρ.length
  at_ : ∀ (i : Nat) (x : Sl), ρ[i]? = some x → x = .un ∨ ∃ v, σ[i]? = some (some v) ∧ SlOk K c G H x v
  dis : ∀ (i j : Nat) (ds es : List D) (v : V), ρ[i]? = some (.own ds) → ρ[j]? = some (.own es) → σ[i]? = some (some v) → σ[j]? = some (some v) → i = j
theorem Own.ext {K : PySem.W.Frag} {c : Ct} {G H G' H' : Hp} {a : Addr} {ds : List D} (o : Own K c G H a ds) (e : Ext c.E G H G' H') : Own K c G' H' a ds := by
  obtain ⟨vs, h, q⟩ := o.at_
  exact ⟨⟨vs, e.h a _ h o.v, DqAll.mono e.g q⟩, e.n a _ h o.v o.g, o.h0, o.v⟩
theorem SlOk.ext {K : PySem.W.Frag} {c : Ct} {G H G' H' : Hp} (e : Ext c.E G H G' H') : ∀ {x : Sl} {v : V}, SlOk K c G H x v → SlOk K c G' H' x v
  | .un, _, _ => trivial
  | .dat _, _, h => Dq.mono e.g h
  | .own _, _, ⟨a, h, o⟩ => ⟨a, h, o.ext e⟩
  | .box _, _, h => h
theorem RS.ext {K : PySem.W.Frag} {c : Ct} {G H G' H' : Hp} {σ : L2.St} {ρ : List Sl} (r : RS K c G H σ ρ) (e : Ext c.E G H G' H') : RS K c G' H' σ ρ :=
  ⟨r.len, fun i x h => (r.at_ i x h).imp id fun ⟨v, q, s⟩ => ⟨v, q, s.ext e⟩, r.dis⟩
theorem set_get {α : Type} {l : List α} {i j : Nat} {x y : α} (h : (l.set i x)[j]? = some y) : (j = i ∧ y = x) ∨ (j ≠ i ∧ l[j]? = some y) := by
  by_cases e : j = i
  · subst e
    have hl : j < l.length := by
      have := (List.getElem?_eq_some_iff.mp h).1
      simpa using this
    rw [List.getElem?_set_self hl] at h
    exact .inl ⟨rfl, (Option.some.inj h).symm⟩
  · rw [List.getElem?_set_ne (Ne.symm e)] at h
    exact .inr ⟨e, h⟩
/-- a slot is set to data -/
theorem RS.setD {K : PySem.W.Frag} {c : Ct} {G H : Hp} {σ : L2.St} {ρ : List Sl} (r : RS K c G H σ ρ) {i : Nat} {v : V} {d : D} (q : Dq K G v d) : RS K c G H (σ.set i (some v)) (ρ.set i (.dat d)) := by
  refine ⟨by simp [r.len], fun j x h => ?_, fun j l ds es u h1 h2 h3 h4 => ?_⟩
  · rcases set_get h with ⟨rfl, rfl⟩ | ⟨hj, h⟩
    · have hl : j < σ.length := by
        rw [r.len]; have := (List.getElem?_eq_some_iff.mp h).1; simpa using this
      exact .inr ⟨v, List.getElem?_set_self hl, q⟩
    · rcases r.at_ j x h with e | ⟨u, e, s⟩
      · exact .inl e
      · exact .inr ⟨u, by rw [List.getElem?_set_ne (Ne.symm hj)]; exact e, s⟩
  · rcases set_get h1 with ⟨_, e⟩ | ⟨n1, e1⟩
    · cases e
    · rcases set_get h2 with ⟨_, e⟩ | ⟨n2, e2⟩
      · cases e
      · rw [List.getElem?_set_ne (Ne.symm n1)] at h3
        rw [List.getElem?_set_ne (Ne.symm n2)] at h4
        exact r.dis j l ds es u e1 e2 h3 h4
/-- a slot is wiped -/
theorem RS.wipe1 {K : PySem.W.Frag} {c : Ct} {G H : Hp} {σ : L2.St} {ρ : List Sl} (r : RS K c G H σ ρ) (i : Nat) (o : Option V) : RS K c G H (σ.set i o) (ρ.set i .un) := by
  refine ⟨by simp [r.len], fun j x h => ?_, fun j l ds es u h1 h2 h3 h4 => ?_⟩
  · rcases set_get h with ⟨rfl, rfl⟩ | ⟨hj, h⟩
    · exact .inl rfl
    · rcases r.at_ j x h with e | ⟨u, e, s⟩
      · exact .inl e
      · exact .inr ⟨u, by rw [List.getElem?_set_ne (Ne.symm hj)]; exact e, s⟩
  · rcases set_get h1 with ⟨_, e⟩ | ⟨n1, e1⟩
    · cases e
    · rcases set_get h2 with ⟨_, e⟩ | ⟨n2, e2⟩
      · cases e
      · rw [List.getElem?_set_ne (Ne.symm n1)] at h3
        rw [List.getElem?_set_ne (Ne.symm n2)] at h4
        exact r.dis j l ds es u e1 e2 h3 h4
def wipeS (ρ : List Sl) : List Nat → List Sl
  | [] => ρ
  | v :: vs => (wipeS ρ vs).set v .un
theorem RS.wipe {K : PySem.W.Frag} {c : Ct} {G H : Hp} {σ : L2.St} {ρ : List Sl} (r : RS K c G H σ ρ) : ∀ vs : List Nat, RS K c G H (L2.wipe σ vs) (wipeS ρ vs)
  | [] => r
  | v :: vs => (RS.wipe r vs).wipe1 v none
/-- a slot is set to a new list of its own -/
theorem RS.setO {K : PySem.W.Frag} {c : Ct} {G H : Hp} {σ : L2.St} {ρ : List Sl} (r : RS K c G H σ ρ) {i : Nat} {a : Addr} {ds : List D} (q : Own K c G H a ds)
    (new : ∀ (j : Nat) (es : List D), ρ[j]? = some (.own es) → σ[j]? ≠ some (some (.ref a))) : RS K c G H (σ.set i (some (.ref a))) (ρ.set i (.own ds)) := by
  refine ⟨by simp [r.len], fun j x h => ?_, fun j l ds es u h1 h2 h3 h4 => ?_⟩
  · rcases set_get h with ⟨rfl, rfl⟩ | ⟨hj, h⟩
    · have hl : j < σ.length := by
        rw [r.len]; have := (List.getElem?_eq_some_iff.mp h).1; simpa using this
      exact .inr ⟨.ref a, List.getElem?_set_self hl, a, rfl, q⟩
    · rcases r.at_ j x h with e | ⟨u, e, s⟩
      · exact .inl e
      · exact .inr ⟨u, by rw [List.getElem?_set_ne (Ne.symm hj)]; exact e, s⟩
  · rcases set_get h1 with ⟨rfl, e⟩ | ⟨n1, e1⟩
    · rcases set_get h2 with ⟨rfl, e⟩ | ⟨n2, e2⟩
      · rfl
      · rw [List.getElem?_set_ne (Ne.symm n2)] at h4
        rcases set_get h3 with ⟨_, e3⟩ | ⟨n3, _⟩
        · cases e3; exact absurd h4 (new l es e2)
        · exact absurd rfl n3
    · rcases set_get h2 with ⟨rfl, e⟩ | ⟨n2, e2⟩
      · rw [List.getElem?_set_ne (Ne.symm n1)] at h3
        rcases set_get h4 with ⟨_, e3⟩ | ⟨n3, _⟩
        · cases e3; exact absurd h3 (new j ds e1)
        · exact absurd rfl n3
      · rw [List.getElem?_set_ne (Ne.symm n1)] at h3
        rw [List.getElem?_set_ne (Ne.symm n2)] at h4
        exact r.dis j l ds es u e1 e2 h3 h4
/-- the own list in a slot is changed -/
theorem Wd.mut {K : PySem.W.Frag} {c : Ct} {G H : Hp} {a : Addr} {ds es : List D} (w : Wd c G H) (o : Own K c G H a ds) {ws : List V} (q : DqAll K G ws es) : Wd c G (upd H a (.lst ws)) ∧ Own K c G (upd H a (.lst ws)) a es := by
  have h0 : ∀ p u, c.H0 p = some u → p ≠ a := fun p u e z => by subst z; rw [o.h0] at e; cases e
  refine ⟨⟨⟨fun p u e => ?_, w.w.vol, Ef.loc w.w.inv fun p vp => ?_⟩, ⟨w.e.g, fun p u e v => ?_, w.e.n⟩⟩, ⟨⟨ws, upd_same, q⟩, o.g, o.h0, o.v⟩⟩
  · rw [upd_ne (by rintro rfl; rw [o.g] at e; cases e)]; exact w.w.sub p u e
  · rw [upd_ne (by rintro rfl; exact o.v vp)]
  · rw [upd_ne (h0 p u e)]; exact w.e.h p u e v
theorem RS.mut {K : PySem.W.Frag} {c : Ct} {G H : Hp} {σ : L2.St} {ρ : List Sl} (r : RS K c G H σ ρ) {i : Nat} {a : Addr} {ds es : List D} (hi : ρ[i]? = some (.own ds)) (hs : σ[i]? = some (some (.ref a)))
    (o : Own K c G H a ds) {ws : List V} (q : DqAll K G ws es) : RS K c G (upd H a (.lst ws)) σ (ρ.set i (.own es)) := by
  refine ⟨by simp [r.len], fun j x h => ?_, fun j l ds' es' u h1 h2 h3 h4 => ?_⟩
  · rcases set_get h with ⟨rfl, rfl⟩ | ⟨hj, h⟩
    · exact .inr ⟨_, hs, a, rfl, ⟨⟨ws, upd_same, q⟩, o.g, o.h0, o.v⟩⟩
    · rcases r.at_ j x h with e | ⟨u, e, s⟩
      · exact .inl e
      · refine .inr ⟨u, e, ?_⟩
        cases x with
        | un => trivial
        | dat d => exact s
        | box k => exact s
        | own fs =>
          obtain ⟨b, rfl, ob⟩ := s
          have hb : b ≠ a := fun z => by subst z; exact hj (r.dis j i fs ds _ h hi e hs)
          obtain ⟨vs, e1, e2⟩ := ob.at_
          exact ⟨b, rfl, ⟨vs, by rw [upd_ne hb]; exact e1, e2⟩, ob.g, ob.h0, ob.v⟩
  · have f : ∀ (j : Nat) (ds' : List D), (ρ.set i (.own es))[j]? = some (.own ds') → ∃ ds'' : List D, ρ[j]? = some (.own ds'') := fun j ds' h => by
      rcases set_get h with ⟨rfl, _⟩ | ⟨_, h⟩
      · exact ⟨_, hi⟩
      · exact ⟨_, h⟩
    obtain ⟨_, g1⟩ := f j ds' h1
    obtain ⟨_, g2⟩ := f l es' h2
    exact r.dis j l _ _ u g1 g2 h3 h4
/-- the own list in a slot is frozen -/
theorem Wd.freeze {K : PySem.W.Frag} {c : Ct} {G H : Hp} {a : Addr} {ds : List D} (w : Wd c G H) (o : Own K c G H a ds) : ∃ G', Wd c G' H ∧ Le G G' ∧ Dq K G' (.ref a) (.list ds) ∧ (∀ p, p ≠ a → G' p = G p) := by
  obtain ⟨vs, h, q⟩ := o.at_
  have le : Le G (upd G a (.lst vs)) := fun p u e => by rw [upd_ne (ne_of_none e o.g)]; exact e
  refine ⟨upd G a (.lst vs), ⟨w.w.freeze h o.g o.v, ⟨fun p u e => le p u (w.e.g p u e), w.e.h, fun p u e v g => ?_⟩⟩, le, .lst upd_same (DqAll.mono le q), fun p hp => upd_ne hp⟩
  rw [upd_ne (by rintro rfl; rw [o.h0] at e; cases e)]
  exact w.e.n p u e v g
theorem RS.freeze {K : PySem.W.Frag} {c : Ct} {G G' H : Hp} {σ : L2.St} {ρ : List Sl} (r : RS K c G H σ ρ) {i : Nat} {a : Addr} {ds : List D} (hi : ρ[i]? = some (.own ds)) (hs : σ[i]? = some (some (.ref a)))
    (le : Le G G') (hd : Dq K G' (.ref a) (.list ds)) (ne : ∀ p, p ≠ a → G' p = G p) : RS K c G' H σ (ρ.set i (.dat (.list ds))) := by
  refine ⟨by simp [r.len], fun j x h => ?_, fun j l ds' es' u h1 h2 h3 h4 => ?_⟩
  · rcases set_get h with ⟨rfl, rfl⟩ | ⟨hj, h⟩
    · exact .inr ⟨_, hs, hd⟩
    · rcases r.at_ j x h with e | ⟨u, e, s⟩
      · exact .inl e
      · refine .inr ⟨u, e, ?_⟩
        cases x with
        | un => trivial
        | dat d => exact Dq.mono le s
        | box k => exact s
        | own fs =>
          obtain ⟨b, rfl, ob⟩ := s
          have hb : b ≠ a := fun z => by subst z; exact hj (r.dis j i fs ds _ h hi e hs)
          obtain ⟨vs, e1, e2⟩ := ob.at_
          exact ⟨b, rfl, ⟨vs, e1, DqAll.mono le e2⟩, by rw [ne b hb]; exact ob.g, ob.h0, ob.v⟩
  · rcases set_get h1 with ⟨_, e⟩ | ⟨n1, e1⟩
    · cases e
    · rcases set_get h2 with ⟨_, e⟩ | ⟨n2, e2⟩
      · cases e
      · exact r.dis j l ds' es' u e1 e2 h3 h4
end Pu

namespace Pu
open PySem PySem.Spec PyProof.Rows L2
/-! ### values that are only looked at -/
def Bv (K : PySem.W.Frag) (c : Ct) (G H : Hp) (v : V) (d : D) : Prop := Dq K G v d ∨ ∃ a ds, v = .ref a ∧ d = .list ds ∧ Own K c G H a ds
inductive BvAll (K : PySem.W.Frag) (c : Ct) (G H : Hp) : List V → List D → Prop
  | nil : BvAll K c G H [] []
  | cons {v : V} {vs : List V} {d : D} {ds : List D} : Bv K c G H v d → BvAll K c G H vs ds → BvAll K c G H (v :: vs) (d :: ds)
section
variable {K : PySem.W.Frag} {c : Ct} {G H G' H' : Hp} {v : V} {d : D}
theorem Bv.ext (b : Bv K c G H v d) (e : Ext c.E G H G' H') : Bv K c G' H' v d := by
  rcases b with b | ⟨a, ds, rfl, rfl, o⟩
  · exact .inl (b.mono e.g)
  · exact .inr ⟨a, ds, rfl, rfl, o.ext e⟩
theorem BvAll.ext : ∀ {vs : List V} {ds : List D}, BvAll K c G H vs ds → Ext c.E G H G' H' → BvAll K c G' H' vs ds
  | _, _, .nil, _ => .nil
  | _, _, .cons b q, e => .cons (b.ext e) (q.ext e)
theorem Bv.dq (w : W0 c.E G H) (b : Bv K c G H v d) : Dq K H v d := by
  rcases b with b | ⟨a, ds, rfl, rfl, o⟩
  · exact b.mono w.sub
  · obtain ⟨vs, h, q⟩ := o.at_
    exact .lst h (q.mono w.sub)
theorem Bv.int {i : Int} (b : Bv K c G H v (.int i)) : v = .int i := by
  rcases b with b | ⟨a, ds, rfl, e, o⟩
  · cases b; rfl
  · cases e
theorem Bv.bool {i : Bool} (b : Bv K c G H v (.bool i)) : v = .bl i := by
  rcases b with b | ⟨a, ds, rfl, e, o⟩
  · cases b; rfl
  · cases e
theorem Bv.str {i : Str} (b : Bv K c G H v (.str i)) : v = .str i := by
  rcases b with b | ⟨a, ds, rfl, e, o⟩
  · cases b; rfl
  · cases e
theorem Bv.none (b : Bv K c G H v .none) : v = .non := by
  rcases b with b | ⟨a, ds, rfl, e, o⟩
  · cases b; rfl
  · cases e
theorem Bv.tup {ds : List D} (b : Bv K c G H v (.tuple ds)) : ∃ a vs, v = .ref a ∧ SqT K G a vs ∧ DqAll K G vs ds := by
  rcases b with b | ⟨a, ds, rfl, e, o⟩
  · cases b with | tup e q => exact ⟨_, _, rfl, e, q⟩
  · cases e
theorem Bv.lst {ds : List D} (w : W0 c.E G H) (b : Bv K c G H v (.list ds)) : ∃ a vs, v = .ref a ∧ H a = some (.lst vs) ∧ DqAll K G vs ds ∧ ¬ c.E.vol a := by
  rcases b with b | ⟨a, ds, rfl, e, o⟩
  · cases b with | lst e q =>
    refine ⟨_, _, rfl, w.sub _ _ e, q, fun z => ?_⟩
    rw [w.vol _ z] at e; cases e
  · cases e
    obtain ⟨vs, h, q⟩ := o.at_
    exact ⟨a, vs, rfl, h, q, o.v⟩
end

/-! ### the readings -/
section
variable (K : PySem.W.Frag)
/-- .. gives frozen data -/
def tP (f : List Sl → R D) : TE := fun σ H Q => ∃ (c : Ct) (G : Hp) (ρ : List Sl) (post : D → Prop), Wd c G H ∧ RS K c G H σ ρ ∧ f ρ post ∧
  ∀ r, post r → ∀ v G' H', Ext c.E G H G' H' → W0 c.E G' H' → Dq K G' v r → Q v H'
/-- .. gives data that may be the own list of a slot -/
def tB (f : List Sl → R D) : TE := fun σ H Q => ∃ (c : Ct) (G : Hp) (ρ : List Sl) (post : D → Prop), Wd c G H ∧ RS K c G H σ ρ ∧ f ρ post ∧
  ∀ r, post r → ∀ v G' H', Ext c.E G H G' H' → W0 c.E G' H' → Bv K c G' H' v r → Q v H'
/-- .. gives a new list, not frozen -/
def tF (f : List Sl → R (List D)) : TE := fun σ H Q => ∃ (c : Ct) (G : Hp) (ρ : List Sl) (post : List D → Prop), Wd c G H ∧ RS K c G H σ ρ ∧ f ρ post ∧
  ∀ r, post r → ∀ a G' H', H a = none → Ext c.E G H G' H' → W0 c.E G' H' → Own K c G' H' a r → Q (.ref a) H'
def tT (f : List Sl → R Bool) : TT := fun σ H Q => ∃ (c : Ct) (G : Hp) (ρ : List Sl) (post : Bool → Prop), Wd c G H ∧ RS K c G H σ ρ ∧ f ρ post ∧
  ∀ r, post r → ∀ G' H', Ext c.E G H G' H' → W0 c.E G' H' → Q r H'
def tAB (f : List Sl → R (List D)) : TA := fun σ H Q => ∃ (c : Ct) (G : Hp) (ρ : List Sl) (post : List D → Prop), Wd c G H ∧ RS K c G H σ ρ ∧ f ρ post ∧
  ∀ r, post r → ∀ vs G' H', Ext c.E G H G' H' → W0 c.E G' H' → BvAll K c G' H' vs r → Q vs H'
def tAF (f : List Sl → R (List D)) : TA := fun σ H Q => ∃ (c : Ct) (G : Hp) (ρ : List Sl) (post : List D → Prop), Wd c G H ∧ RS K c G H σ ρ ∧ f ρ post ∧
  ∀ r, post r → ∀ vs G' H', Ext c.E G H G' H' → W0 c.E G' H' → DqAll K G' vs r → Q vs H'
end
section
variable {X : Cx} {e a b : Expr} {es : List Expr} {pos : Pos}
theorem PE.wk {t t' : TE} (h : PE X e t) (w : ∀ σ H Q, t' σ H Q → t σ H Q) : PE X e t' := ⟨fun pins s σ H Q I q => h.run pins s σ H Q I (w σ H Q q)⟩
theorem PT.wk {t t' : TT} (h : PT X e t) (w : ∀ σ H Q, t' σ H Q → t σ H Q) : PT X e t' := ⟨fun pins s σ H Q I q => h.run pins s σ H Q I (w σ H Q q)⟩
theorem PW.wk {t t' : TT} (h : PW X e t) (w : ∀ σ H Q, t' σ H Q → t σ H Q) : PW X e t' := ⟨fun wh pins s σ H Q I q => h.run wh pins s σ H Q I (w σ H Q q)⟩
theorem PA.wk {t t' : TA} (h : PA X es t) (w : ∀ σ H Q, t' σ H Q → t σ H Q) : PA X es t' := ⟨fun pos pins s σ H Q I q => h.run pos pins s σ H Q I (w σ H Q q)⟩
/-- frozen data may be looked at -/
theorem pb {f : List Sl → R D} (h : PE X e (tP X.K f)) : PE X e (tB X.K f) := PE.wk h fun σ H Q ⟨c, G, ρ, post, w, r, hf, q⟩ =>
  ⟨c, G, ρ, post, w, r, hf, fun d hd v G' H' e' w' k => q d hd v G' H' e' w' (.inl k)⟩
/-- a new list is frozen -/
theorem pf {f : List Sl → R (List D)} (h : PE X e (tF X.K f)) : PE X e (tP X.K fun ρ => bd (f ρ) fun ds => ok (.list ds)) := PE.wk h fun σ H Q ⟨c, G, ρ, post, w, r, hf, q⟩ =>
  ⟨c, G, ρ, fun ds => post (.list ds), w, r, hf, fun d hd a G' H' na e' w' o => by
    obtain ⟨vs, h, k⟩ := o.at_
    have le : Le G' (upd G' a (.lst vs)) := fun p u e => by rw [upd_ne (ne_of_none e o.g)]; exact e
    refine q (.list d) hd (.ref a) (upd G' a (.lst vs)) H' ⟨fun p u e => le p u (e'.g p u e), e'.h, fun p u e v g => ?_⟩ (w'.freeze h o.g o.v) (.lst upd_same (k.mono le))
    rw [upd_ne (ne_of_none e na)]; exact e'.n p u e v g⟩
theorem pbf {f : List Sl → R (List D)} (h : PE X e (tF X.K f)) : PE X e (tB X.K fun ρ => bd (f ρ) fun ds => ok (.list ds)) := pb (pf h)

/-! ### names, constants -/
def getD (ρ : List Sl) (i : Nat) : R D := match ρ[i]? with
  | some (.dat d) => ok d
  | _ => fail
def getB (ρ : List Sl) (i : Nat) : R D := match ρ[i]? with
  | some (.dat d) => ok d
  | some (.own ds) => ok (.list ds)
  | _ => fail
theorem getD_inv {ρ : List Sl} {i : Nat} {post : D → Prop} (h : getD ρ i post) : ∃ d, ρ[i]? = some (.dat d) ∧ post d := by
  unfold getD at h
  cases e : ρ[i]? with
  | none => rw [e] at h; exact h.elim
  | some x =>
    rw [e] at h
    cases x with
    | dat d => exact ⟨d, rfl, h⟩
    | _ => exact h.elim
theorem getB_inv {ρ : List Sl} {i : Nat} {post : D → Prop} (h : getB ρ i post) : (∃ d, ρ[i]? = some (.dat d) ∧ post d) ∨ ∃ ds, ρ[i]? = some (.own ds) ∧ post (.list ds) := by
  unfold getB at h
  cases e : ρ[i]? with
  | none => rw [e] at h; exact h.elim
  | some x =>
    rw [e] at h
    cases x with
    | dat d => exact .inl ⟨d, rfl, h⟩
    | own ds => exact .inr ⟨ds, rfl, h⟩
    | _ => exact h.elim
theorem nD (i : Nat) {x : Str} (hN : X.N[i]? = some x := by rfl) (hv : Vis X.env.scope x := by first | exact Or.inl rfl | exact Or.inr (Or.inl rfl) | exact Or.inr (Or.inr rfl)) (hd : (x == ("__debug__" : Str)) = false := by decide)
    (hcd : (x == ("__classdict__" : Str)) = false := by decide) : PE X (.Name x pos) (tP X.K fun ρ => getD ρ i) := PE.wk (pe_var hN hv hd hcd) fun σ H Q ⟨c, G, ρ, post, w, r, hf, q⟩ => by
  obtain ⟨d, e, hp⟩ := getD_inv hf
  rcases r.at_ i _ e with z | ⟨v, e1, s⟩
  · cases z
  · exact ⟨v, e1, q d hp v G H .refl w.w s⟩
theorem nB (i : Nat) {x : Str} (hN : X.N[i]? = some x := by rfl) (hv : Vis X.env.scope x := by first | exact Or.inl rfl | exact Or.inr (Or.inl rfl) | exact Or.inr (Or.inr rfl)) (hd : (x == ("__debug__" : Str)) = false := by decide)
    (hcd : (x == ("__classdict__" : Str)) = false := by decide) : PE X (.Name x pos) (tB X.K fun ρ => getB ρ i) := PE.wk (pe_var hN hv hd hcd) fun σ H Q ⟨c, G, ρ, post, w, r, hf, q⟩ => by
  rcases getB_inv hf with ⟨d, e, hp⟩ | ⟨ds, e, hp⟩
  · rcases r.at_ i _ e with z | ⟨v, e1, s⟩
    · cases z
    · exact ⟨v, e1, q d hp v G H .refl w.w (.inl s)⟩
  · rcases r.at_ i _ e with z | ⟨v, e1, a, rfl, s⟩
    · cases z
    · exact ⟨_, e1, q _ hp _ G H .refl w.w (.inr ⟨a, ds, rfl, rfl, s⟩)⟩
theorem pcst {v : V} {d : D} (h : PE X e (tC v)) (k : ∀ G : Hp, Dq X.K G v d) : PE X e (tP X.K fun _ => ok d) := PE.wk h fun σ H Q ⟨c, G, ρ, post, w, r, hf, q⟩ => q d hf v G H .refl w.w (k G)
theorem cI {i j} : PE X (.Constant (.int i) j pos) (tP X.K fun _ => ok (.int i)) := pcst pe_int fun _ => .int i
theorem cT {b j} : PE X (.Constant (.bool b) j pos) (tP X.K fun _ => ok (.bool b)) := pcst pe_bl fun _ => .bl b
theorem cN {j} : PE X (.Constant .none j pos) (tP X.K fun _ => ok .none) := pcst pe_non fun _ => .non
theorem cS {x j} : PE X (.Constant (.str x) j pos) (tP X.K fun _ => ok (.str x)) := pcst pe_str fun _ => .str x
/-- a module's constant -/
theorem gC {x : Str} {v : V} {u : Value} {d : D} (k : ∀ G : Hp, Dq X.K G v d) (hm : X.mg x = some u) (r : RelV v u) (hg : Gl X x := by rfl) (hd : (x == ("__debug__" : Str)) = false := by decide) : PE X (.Name x pos) (tP X.K fun _ => ok d) :=
  pcst (pe_glob hg hm r hd) k

/-! ### two operands -/
def Bop (K : PySem.W.Frag) (r : R2) (h : D → D → R D) : Prop := ∀ (c : Ct) (G H : Hp) (x y : V) (d e : D) (post : D → Prop) (Q : VK), W0 c.E G H → Bv K c G H x d → Bv K c G H y e → h d e post →
  (∀ z, post z → ∀ v G' H', Ext c.E G H G' H' → W0 c.E G' H' → Dq K G' v z → Q v H') → r x y H Q
def m2 {α β γ : Type} (f : List Sl → R α) (g : List Sl → R β) (h : α → β → R γ) : List Sl → R γ := fun ρ => bd (f ρ) fun x => bd (g ρ) fun y => h x y
def m1 {α γ : Type} (f : List Sl → R α) (h : α → R γ) : List Sl → R γ := fun ρ => bd (f ρ) fun x => h x
theorem bop2 {K : PySem.W.Frag} {r : R2} {h : D → D → R D} (hr : Bop K r h) {f g : List Sl → R D} {σ : L2.St} {H : Hp} {Q : VK} (q : tP K (m2 f g h) σ H Q) : tOp r (tB K f) (tB K g) σ H Q := by
  obtain ⟨c, G, ρ, post, w, r, hf, q⟩ := q
  refine ⟨c, G, ρ, fun x => bd (g ρ) (fun y => h x y) post, w, r, hf, fun x hx v G1 H1 e1 w1 b1 => ?_⟩
  refine ⟨c, G1, ρ, fun y => h x y post, w.step w1 e1, r.ext e1, hx, fun y hy u G2 H2 e2 w2 b2 => ?_⟩
  exact hr c G2 H2 v u x y post Q w2 (b1.ext e2) b2 hy fun z hz v' G' H' e3 w3 d3 => q z hz v' G' H' ((e1.trans e2).trans e3) w3 d3
theorem pOp {op : Operator} {r : R2} {h : D → D → R D} (ho : OpR X (binaryOp op) r) (hr : Bop X.K r h) {f g : List Sl → R D} (ha : PE X a (tB X.K f)) (hb : PE X b (tB X.K g)) : PE X (.BinOp a op b pos) (tP X.K (m2 f g h)) :=
  PE.wk (pe_op ho ha hb) fun _ _ _ q => bop2 hr q
theorem pCmp {op : CmpOp} {r : R2} {h : D → D → R D} (ho : OpR X (compareOp op) r) (hr : Bop X.K r h) {f g : List Sl → R D} (ha : PE X a (tB X.K f)) (hb : PE X b (tB X.K g)) (hm : behindInMarks op b = false) : PE X (.Compare a [op] [b] pos) (tP X.K (m2 f g h)) :=
  PE.wk (pe_cmpR ho ha hb hm) fun _ _ _ q => bop2 hr q
theorem Bop.or1 {K : PySem.W.Frag} {r r' : R2} {h : D → D → R D} (k : Bop K r h) : Bop K (fun x y H Q => r x y H Q ∨ r' x y H Q) h := fun c G H x y d e post Q w b1 b2 hp q => .inl (k c G H x y d e post Q w b1 b2 hp q)
/-- the answer is a bool: as a test -/
def asB : D → R Bool
  | .bool b => ok b
  | _ => fail
@[simp] theorem asB_bool (b : Bool) : asB (.bool b) = ok b := (rfl)
theorem asB_inv {d : D} {post : Bool → Prop} (h : asB d post) : ∃ b, d = .bool b ∧ post b := by
  cases d <;> first | exact h.elim | exact ⟨_, rfl, h⟩
theorem tTest_of {K : PySem.W.Frag} {t : TE} {f : List Sl → R D} (ht : ∀ σ H Q, tP K f σ H Q → t σ H Q) {σ : L2.St} {H : Hp} {Q : Bool → Hp → Prop} (q : tT K (m1 f asB) σ H Q) : tTest t σ H Q := by
  obtain ⟨c, G, ρ, post, w, r, hf, q⟩ := q
  refine ht σ H _ ⟨c, G, ρ, fun d => asB d post, w, r, hf, fun d hd v G' H' e' w' k => ?_⟩
  obtain ⟨b, rfl, hb⟩ := asB_inv hd
  cases k
  exact ⟨b, rfl, q b hb G' H' e' w'⟩
theorem pCmpT {op : CmpOp} {r : R2} {h : D → D → R D} (ho : OpR X (compareOp op) r) (hr : Bop X.K r h) {f g : List Sl → R D} (ha : PE X a (tB X.K f)) (hb : PE X b (tB X.K g)) (hm : behindInMarks op b = false) : PT X (.Compare a [op] [b] pos) (tT X.K (m1 (m2 f g h) asB)) :=
  PT.wk (pt_cmpR ho ha hb hm) fun _ _ _ q => tTest_of (fun _ _ _ z => bop2 hr z) q

/-! ### numbers, texts, tuples -/
def addR : D → D → R D
  | .int i, .int j => ok (.int (i + j))
  | .str x, .str y => bd (req (x.length + y.length ≤ sizeLine)) fun _ => ok (.str (x ++ y))
  | .tuple x, .tuple y => bd (req (x.length + y.length ≤ sizeLine)) fun _ => ok (.tuple (x ++ y))
  | .list x, .list y => bd (req (x.length + y.length ≤ sizeLine)) fun _ => ok (.list (x ++ y))
  | _, _ => fail
def subR : D → D → R D
  | .int i, .int j => ok (.int (i - j))
  | _, _ => fail
def mulOk (i j : Int) : Prop := (-(2 ^ 64) < i ∧ i < 2 ^ 64) ∨ (-(2 ^ 64) < j ∧ j < 2 ^ 64) ∨ i.natAbs.log2 + j.natAbs.log2 < 1000000
def mulZ : D → D → R D
  | .int i, .int j => bd (req (mulOk i j)) fun _ => ok (.int (i * j))
  | _, _ => fail
def divOk (j : Int) : Prop := j ≠ 0 ∧ (j.natAbs < 1073741824 ∨ (0 < j ∧ j.natAbs.log2 < 9000))
def fdivR : D → D → R D
  | .int i, .int j => bd (req (divOk j)) fun _ => ok (.int (i.fdiv j))
  | _, _ => fail
def fmodR : D → D → R D
  | .int i, .int j => bd (req (j ≠ 0)) fun _ => ok (.int (i.fmod j))
  | _, _ => fail
def powR : D → D → R D
  | .int i, .int j => bd (req (0 ≤ j ∧ j ≤ 1000000 ∧ i.natAbs < 2 ^ 64)) fun _ => ok (.int (i ^ j.toNat))
  | _, _ => fail
theorem bop_add : Bop X.K (fun x y H Q => ((∃ i j, x = V.int i ∧ y = V.int j ∧ Q (.int (i + j)) H) ∨ (∃ i j, x = V.str i ∧ y = V.str j ∧ i.length + j.length ≤ sizeLine ∧ Q (.str (i ++ j)) H)) ∨ (rCatA X.K x y H Q ∨ rCat x y H Q)) addR := by
  intro c G H x y d e post Q w b1 b2 hp q
  cases d <;> cases e <;> try exact hp.elim
  · exact .inl (.inl ⟨_, _, b1.int, b2.int, q _ hp _ G H .refl w (.int _)⟩)
  · exact .inl (.inr ⟨_, _, b1.str, b2.str, hp.1, q _ hp.2 _ G H .refl w (.str _)⟩)
  · obtain ⟨t1, xs, rfl, s1, k1, _⟩ := b1.lst w
    obtain ⟨t2, ys, rfl, s2, k2, _⟩ := b2.lst w
    obtain ⟨hs, hp⟩ := hp
    refine .inr (.inr ⟨t1, t2, xs, ys, rfl, rfl, s1, s2, by rw [k1.length, k2.length]; exact hs, fun p np => ?_⟩)
    obtain ⟨w1, e1⟩ := w.newF np (.lst (xs ++ ys))
    exact q _ hp _ _ _ e1 w1 (.lst upd_same ((k1.mono e1.g).append (k2.mono e1.g)))
  · obtain ⟨t1, xs, rfl, s1, k1⟩ := b1.tup
    obtain ⟨t2, ys, rfl, s2, k2⟩ := b2.tup
    obtain ⟨hs, hp⟩ := hp
    rename_i ds es
    refine .inr (.inl ⟨t1, t2, xs, ys, rfl, rfl, sqT_mono w.sub s1, sqT_mono w.sub s2, by rw [k1.length, k2.length]; exact hs, fun h => ?_, fun _ h => ?_, fun _ _ p np => ?_⟩)
    · subst h; cases k1
      exact q _ hp _ G H .refl w (.tup s2 k2)
    · subst h; cases k2
      have hp' : post (.tuple ds) := by rw [List.append_nil] at hp; exact hp
      exact q _ hp' _ G H .refl w (.tup s1 k1)
    · obtain ⟨w1, e1⟩ := w.newF np (.tup (xs ++ ys))
      exact q _ hp _ _ _ e1 w1 (.tup (.of upd_same) ((k1.mono e1.g).append (k2.mono e1.g)))
theorem oAdd {f g : List Sl → R D} (ha : PE X a (tB X.K f)) (hb : PE X b (tB X.K g)) : PE X (.BinOp a .Add b pos) (tP X.K (m2 f g addR)) := pOp ((op_add.or op_add_str).or (op_catA.or op_cat)) bop_add ha hb
theorem bop_sub : Bop X.K (rI0 fun i j => .int (i - j)) subR := by
  intro c G H x y d e post Q w b1 b2 hp q
  cases d <;> cases e <;> try exact hp.elim
  exact ⟨_, _, b1.int, b2.int, q _ hp _ G H .refl w (.int _)⟩
theorem oSub {f g : List Sl → R D} (ha : PE X a (tB X.K f)) (hb : PE X b (tB X.K g)) : PE X (.BinOp a .Sub b pos) (tP X.K (m2 f g subR)) := pOp op_sub bop_sub ha hb
theorem bop_mul : Bop X.K (fun x y H Q => rI CMul (fun i j => .int (i * j)) x y H Q ∨ rI CMulW (fun i j => .int (i * j)) x y H Q) mulZ := by
  intro c G H x y d e post Q w b1 b2 hp q
  cases d <;> cases e <;> try exact hp.elim
  obtain ⟨h, hp⟩ := hp
  have fin := q _ hp _ G H .refl w (.int _)
  rcases h with h | h | h
  · exact .inl ⟨_, _, b1.int, b2.int, .inl h, fin⟩
  · exact .inl ⟨_, _, b1.int, b2.int, .inr h, fin⟩
  · exact .inr ⟨_, _, b1.int, b2.int, h, fin⟩
theorem oMulZ {f g : List Sl → R D} (ha : PE X a (tB X.K f)) (hb : PE X b (tB X.K g)) : PE X (.BinOp a .Mult b pos) (tP X.K (m2 f g mulZ)) := pOp (op_mul.or op_mulW) bop_mul ha hb
theorem bop_fdiv : Bop X.K (fun x y H Q => rI CDivN (fun i j => .int (i.fdiv j)) x y H Q ∨ rI CDivW (fun i j => .int (i / j)) x y H Q) fdivR := by
  intro c G H x y d e post Q w b1 b2 hp q
  cases d <;> cases e <;> try exact hp.elim
  obtain ⟨⟨h0, h⟩, hp⟩ := hp
  have fin := q _ hp _ G H .refl w (.int _)
  rcases h with h | h
  · exact .inl ⟨_, _, b1.int, b2.int, ⟨h0, h⟩, fin⟩
  · refine .inr ⟨_, _, b1.int, b2.int, h, ?_⟩
    show Q (.int (_ / _)) H
    rw [← Int.fdiv_eq_ediv_of_nonneg _ (Int.le_of_lt h.1)]
    exact fin
theorem oFdiv {f g : List Sl → R D} (ha : PE X a (tB X.K f)) (hb : PE X b (tB X.K g)) : PE X (.BinOp a .FloorDiv b pos) (tP X.K (m2 f g fdivR)) := pOp (op_fdivN.or op_fdivW) bop_fdiv ha hb
theorem bop_fmod : Bop X.K (rI (fun _ j => j ≠ 0) fun i j => .int (i.fmod j)) fmodR := by
  intro c G H x y d e post Q w b1 b2 hp q
  cases d <;> cases e <;> try exact hp.elim
  exact ⟨_, _, b1.int, b2.int, hp.1, q _ hp.2 _ G H .refl w (.int _)⟩
theorem oMod {f g : List Sl → R D} (ha : PE X a (tB X.K f)) (hb : PE X b (tB X.K g)) : PE X (.BinOp a .Mod b pos) (tP X.K (m2 f g fmodR)) := pOp op_modN bop_fmod ha hb
theorem bop_pow : Bop X.K (rI CPow fun i j => .int (i ^ j.toNat)) powR := by
  intro c G H x y d e post Q w b1 b2 hp q
  cases d <;> cases e <;> try exact hp.elim
  exact ⟨_, _, b1.int, b2.int, hp.1, q _ hp.2 _ G H .refl w (.int _)⟩
theorem oPow {f g : List Sl → R D} (ha : PE X a (tB X.K f)) (hb : PE X b (tB X.K g)) : PE X (.BinOp a .Pow b pos) (tP X.K (m2 f g powR)) := pOp op_pow bop_pow ha hb
def negR : D → R D
  | .int i => ok (.int (-i))
  | _ => fail
theorem oNeg {f : List Sl → R D} (ha : PE X a (tB X.K f)) : PE X (.UnaryOp .USub a pos) (tP X.K (m1 f negR)) := PE.wk (pe_un un_neg ha) fun σ H Q ⟨c, G, ρ, post, w, r, hf, q⟩ => by
  refine ⟨c, G, ρ, fun d => negR d post, w, r, hf, fun d hd v G1 H1 e1 w1 b1 => ?_⟩
  cases d <;> try exact hd.elim
  exact ⟨_, b1.int, q _ hd _ G1 H1 e1 w1 (.int _)⟩

/-! ### comparisons -/
def eqR (d e : D) : R D := bd (req (min d.depth e.depth ≤ 60)) fun _ => ok (.bool (PyData.eqv d e))
def neR (d e : D) : R D := bd (req (min d.depth e.depth ≤ 60)) fun _ => ok (.bool (!PyData.eqv d e))
def ordOk (d e : D) : Prop := W.alike d e = true ∧ d ≠ .none ∧ min d.depth e.depth ≤ 60
def ltR (d e : D) : R D := bd (req (ordOk d e)) fun _ => ok (.bool (W.dataLt d e))
def gtR (d e : D) : R D := bd (req (ordOk d e)) fun _ => ok (.bool (W.dataLt e d))
def leR (d e : D) : R D := bd (req (ordOk d e)) fun _ => ok (.bool (!W.dataLt e d))
def geR (d e : D) : R D := bd (req (ordOk d e)) fun _ => ok (.bool (!W.dataLt d e))
def rDat (K : PySem.W.Frag) (C : D → D → Prop) (g : D → D → Bool) : R2 := fun x y H Q => ∃ d e, Dq K H x d ∧ Dq K H y e ∧ C d e ∧ Q (.bl (g d e)) H
theorem op_dat {op : CmpOp} {C : D → D → Prop} {g : D → D → Bool}
    (rule : ∀ {A : Around} {E : Value → Shared → Prop} {s : Shared} {a b : Value} {da db : PyData} {as bs : List Addr} {Q : Value → Shared → Prop}, Reads s.heap a da as → Reads s.heap b db bs → da.plain = true → db.plain = true → A.units + 64 < cLine → C da db →
      Q (.bool (g da db)) s → wpAny (model X.prog X.w) A (compareOp op a b) Q E s) (hu : X.A.units + 64 < cLine) : OpR X (compareOp op) (rDat X.K C g) := by
  intro pins s σ H x y v u Q I rx ry h
  obtain ⟨d, e, hd, he, hc, q⟩ := h
  obtain ⟨as, r1⟩ := Dp.reads I d x v hd.dp rx
  obtain ⟨bs, r2⟩ := Dp.reads I e y u he.dp ry
  exact rule r1 r2 hd.plain he.plain hu hc ⟨.bl _, H, I, rfl, q⟩
theorem bop_dat {C : D → D → Prop} {g : D → D → Bool} {h : D → D → R D} (hh : ∀ d e, h d e = bd (req (C d e)) fun _ => ok (.bool (g d e))) : Bop X.K (rDat X.K C g) h := by
  intro c G H x y d e post Q w b1 b2 hp q
  rw [hh] at hp
  exact ⟨d, e, b1.dq w, b2.dq w, hp.1, q _ hp.2 _ G H .refl w (.bl _)⟩
abbrev dpOk (d e : D) : Prop := min d.depth e.depth ≤ 60
theorem op_eqQ (hu : X.A.units + 64 < cLine) : OpR X (compareOp .Eq) (rDat X.K dpOk PyData.eqv) := op_dat (fun r1 r2 p1 p2 hu hc q => SeqAt.eq_plain r1 r2 p1 p2 (by unfold dpOk at hc; omega) q) hu
theorem op_neQ (hu : X.A.units + 64 < cLine) : OpR X (compareOp .NotEq) (rDat X.K dpOk fun d e => !PyData.eqv d e) := op_dat (fun r1 r2 p1 p2 hu hc q => SeqAt.ne_plain r1 r2 p1 p2 (by unfold dpOk at hc; omega) q) hu
theorem op_ltQ (hu : X.A.units + 64 < cLine) : OpR X (compareOp .Lt) (rDat X.K ordOk W.dataLt) := op_dat (fun r1 r2 p1 p2 hu hc q => W.lt_data r1 r2 hc.1 hc.2.1 (by have := hc.2.2; omega) q) hu
theorem op_gtQ (hu : X.A.units + 64 < cLine) : OpR X (compareOp .Gt) (rDat X.K ordOk fun d e => W.dataLt e d) := op_dat (fun r1 r2 p1 p2 hu hc q => W.gt_data r1 r2 hc.1 hc.2.1 (by have := hc.2.2; omega) q) hu
theorem op_leQ (hu : X.A.units + 64 < cLine) : OpR X (compareOp .LtE) (rDat X.K ordOk fun d e => !W.dataLt e d) := op_dat (fun r1 r2 p1 p2 hu hc q => W.le_data r1 r2 hc.1 hc.2.1 (by have := hc.2.2; omega) q) hu
theorem op_geQ (hu : X.A.units + 64 < cLine) : OpR X (compareOp .GtE) (rDat X.K ordOk fun d e => !W.dataLt d e) := op_dat (fun r1 r2 p1 p2 hu hc q => W.ge_data r1 r2 hc.1 hc.2.1 (by have := hc.2.2; omega) q) hu
theorem bop_eq : Bop X.K (rDat X.K dpOk PyData.eqv) eqR := bop_dat fun _ _ => rfl
theorem bop_ne : Bop X.K (rDat X.K dpOk fun d e => !PyData.eqv d e) neR := bop_dat fun _ _ => rfl
theorem bop_lt : Bop X.K (rDat X.K ordOk W.dataLt) ltR := bop_dat fun _ _ => rfl
theorem bop_gt : Bop X.K (rDat X.K ordOk fun d e => W.dataLt e d) gtR := bop_dat fun _ _ => rfl
theorem bop_le : Bop X.K (rDat X.K ordOk fun d e => !W.dataLt e d) leR := bop_dat fun _ _ => rfl
theorem bop_ge : Bop X.K (rDat X.K ordOk fun d e => !W.dataLt d e) geR := bop_dat fun _ _ => rfl
/-- is None, is True, is False -/
def isNon : D → Bool
  | .none => true
  | _ => false
def isV (d e : D) : Option Bool := match e with
  | .none => some (isNon d)
  | .bool b => (match d with | .bool a => some (decide (a = b)) | _ => none)
  | _ => none
def isR (d e : D) : R D := match isV d e with | some b => ok (.bool b) | none => fail
def isNotR (d e : D) : R D := match isV d e with | some b => ok (.bool (!b)) | none => fail
theorem non_iff {K : PySem.W.Frag} {H : Hp} {v : V} {d : D} (h : Dq K H v d) : decide (v = .non) = isNon d := by cases h <;> rfl
theorem isV_inv {K : PySem.W.Frag} {c : Ct} {G H : Hp} {x y : V} {d e : D} {b : Bool} (w : W0 c.E G H) (b1 : Bv K c G H x d) (b2 : Bv K c G H y e) (h : isV d e = some b) : (y = .non ∧ decide (x = .non) = b) ∨ ∃ p q : Bool, x = .bl p ∧ y = .bl q ∧ decide (p = q) = b := by
  cases e with
  | none =>
    refine .inl ⟨b2.none, ?_⟩
    rw [non_iff (b1.dq w)]; exact Option.some.inj h
  | bool q =>
    cases d with
    | bool p => exact .inr ⟨_, _, b1.bool, b2.bool, Option.some.inj h⟩
    | _ => cases h
  | _ => cases h
theorem bop_is : Bop X.K (fun x y H Q => (y = V.non ∧ Q (.bl (decide (x = .non))) H) ∨ rIsB x y H Q) isR := by
  intro c G H x y d e post Q w b1 b2 hp q
  unfold isR at hp
  cases hb : isV d e with
  | none => rw [hb] at hp; exact hp.elim
  | some b =>
    rw [hb] at hp
    have fin := q _ hp _ G H .refl w (.bl _)
    rcases isV_inv w b1 b2 hb with ⟨h1, h2⟩ | ⟨p, r, h1, h2, h3⟩
    · exact .inl ⟨h1, by rw [h2]; exact fin⟩
    · exact .inr ⟨p, r, h1, h2, by rw [h3]; exact fin⟩
theorem bop_isnot : Bop X.K (fun x y H Q => (y = V.non ∧ Q (.bl (!decide (x = .non))) H) ∨ rNotB x y H Q) isNotR := by
  intro c G H x y d e post Q w b1 b2 hp q
  unfold isNotR at hp
  cases hb : isV d e with
  | none => rw [hb] at hp; exact hp.elim
  | some b =>
    rw [hb] at hp
    have fin := q _ hp _ G H .refl w (.bl _)
    rcases isV_inv w b1 b2 hb with ⟨h1, h2⟩ | ⟨p, r, h1, h2, h3⟩
    · exact .inl ⟨h1, by rw [h2]; exact fin⟩
    · exact .inr ⟨p, r, h1, h2, by rw [h3]; exact fin⟩
theorem op_isQ : OpR X (compareOp .Is) (fun x y H Q => (y = V.non ∧ Q (.bl (decide (x = .non))) H) ∨ rIsB x y H Q) := op_isN.or op_isBl
theorem op_isnotQ : OpR X (compareOp .IsNot) (fun x y H Q => (y = V.non ∧ Q (.bl (!decide (x = .non))) H) ∨ rNotB x y H Q) := op_notN.or op_notBl
/-- x in c -/
def strIn (x z : Str) : Bool := !(Builtin.Str.occurrences z x 0 z.length 1).isEmpty
def inV (d e : D) : Option Bool := match e with
  | .list xs => if min (PyData.depthAll xs) d.depth ≤ 60 then some (xs.any fun y => PyData.eqv y d) else none
  | .tuple xs => if min (PyData.depthAll xs) d.depth ≤ 60 then some (xs.any fun y => PyData.eqv y d) else none
  | .str z => (match d with | .str x => some (strIn x z) | _ => none)
  | _ => none
def inR (d e : D) : R D := match inV d e with | some b => ok (.bool b) | none => fail
def notInR (d e : D) : R D := match inV d e with | some b => ok (.bool (!b)) | none => fail
def rInQ (K : PySem.W.Frag) (neg : Bool) : R2 := fun x y H Q => ∃ d e b, Dq K H x d ∧ Dq K H y e ∧ inV d e = some b ∧ Q (.bl (if neg then !b else b)) H
theorem op_inQ (hu : X.A.units + 64 < cLine) : OpR X (compareOp .In) (rInQ X.K false) := by
  intro pins s σ H x y v u Q I rx ry h
  obtain ⟨d, e, b, hd, he, hc, q⟩ := h
  obtain ⟨as, r1⟩ := Dp.reads I d x v hd.dp rx
  obtain ⟨bs, r2⟩ := Dp.reads I e y u he.dp ry
  unfold inV at hc
  split at hc
  · split at hc
    · cases hc
      have hp := he.plain
      exact SeqAt.in_list_data r2 r1 hp hd.plain (by omega) ⟨.bl _, H, I, rfl, q⟩
    · cases hc
  · split at hc
    · cases hc
      have hp := he.plain
      exact SeqAt.in_tuple_data r2 r1 hp hd.plain (by omega) ⟨.bl _, H, I, rfl, q⟩
    · cases hc
  · split at hc
    · cases hc
      cases hd; cases he
      exact op_in_str pins s σ H _ _ v u Q I rx ry ⟨_, _, rfl, rfl, q⟩
    · cases hc
  · cases hc
theorem op_notInQ (hu : X.A.units + 64 < cLine) : OpR X (compareOp .NotIn) (rInQ X.K true) := by
  intro pins s σ H x y v u Q I rx ry h
  obtain ⟨d, e, b, hd, he, hc, q⟩ := h
  obtain ⟨as, r1⟩ := Dp.reads I d x v hd.dp rx
  obtain ⟨bs, r2⟩ := Dp.reads I e y u he.dp ry
  unfold inV at hc
  split at hc
  · split at hc
    · cases hc
      have hp := he.plain
      exact SeqAt.notIn_list_data r2 r1 hp hd.plain (by omega) ⟨.bl _, H, I, rfl, q⟩
    · cases hc
  · split at hc
    · cases hc
      have hp := he.plain
      exact SeqAt.notIn_tuple_data r2 r1 hp hd.plain (by omega) ⟨.bl _, H, I, rfl, q⟩
    · cases hc
  · split at hc
    · cases hc
      cases hd; cases he
      exact op_notIn_str pins s σ H _ _ v u Q I rx ry ⟨_, _, rfl, rfl, q⟩
    · cases hc
  · cases hc
theorem bop_in : Bop X.K (rInQ X.K false) inR := by
  intro c G H x y d e post Q w b1 b2 hp q
  unfold inR at hp
  cases hb : inV d e with
  | none => rw [hb] at hp; exact hp.elim
  | some b =>
    rw [hb] at hp
    exact ⟨d, e, b, b1.dq w, b2.dq w, hb, q _ hp _ G H .refl w (.bl _)⟩
theorem bop_notIn : Bop X.K (rInQ X.K true) notInR := by
  intro c G H x y d e post Q w b1 b2 hp q
  unfold notInR at hp
  cases hb : inV d e with
  | none => rw [hb] at hp; exact hp.elim
  | some b =>
    rw [hb] at hp
    exact ⟨d, e, b, b1.dq w, b2.dq w, hb, q _ hp _ G H .refl w (.bl _)⟩
/-- a comparison's rule, packed: which operator, what it asks of the stack -/
structure CmpQ (X : Cx) (op : CmpOp) (h : D → D → R D) : Prop where
  ex : ∃ r : R2, OpR X (compareOp op) r ∧ Bop X.K r h
theorem qEq (hu : X.A.units + 64 < cLine) : CmpQ X .Eq eqR := ⟨_, op_eqQ hu, bop_eq⟩
theorem qNe (hu : X.A.units + 64 < cLine) : CmpQ X .NotEq neR := ⟨_, op_neQ hu, bop_ne⟩
theorem qLt (hu : X.A.units + 64 < cLine) : CmpQ X .Lt ltR := ⟨_, op_ltQ hu, bop_lt⟩
theorem qGt (hu : X.A.units + 64 < cLine) : CmpQ X .Gt gtR := ⟨_, op_gtQ hu, bop_gt⟩
theorem qLe (hu : X.A.units + 64 < cLine) : CmpQ X .LtE leR := ⟨_, op_leQ hu, bop_le⟩
theorem qGe (hu : X.A.units + 64 < cLine) : CmpQ X .GtE geR := ⟨_, op_geQ hu, bop_ge⟩
theorem qIs (hu : X.A.units + 64 < cLine) : CmpQ X .Is isR := ⟨_, op_isQ, bop_is⟩
theorem qIsNot (hu : X.A.units + 64 < cLine) : CmpQ X .IsNot isNotR := ⟨_, op_isnotQ, bop_isnot⟩
theorem qIn (hu : X.A.units + 64 < cLine) : CmpQ X .In inR := ⟨_, op_inQ hu, bop_in⟩
theorem qNotIn (hu : X.A.units + 64 < cLine) : CmpQ X .NotIn notInR := ⟨_, op_notInQ hu, bop_notIn⟩
theorem cmp {op : CmpOp} {h : D → D → R D} (k : CmpQ X op h) {f g : List Sl → R D} (ha : PE X a (tB X.K f)) (hb : PE X b (tB X.K g)) (hm : behindInMarks op b = false := by first | exact nomark _ | rfl) : PE X (.Compare a [op] [b] pos) (tP X.K (m2 f g h)) := let ⟨_, o, q⟩ := k.ex; pCmp o q ha hb hm
theorem cmpT {op : CmpOp} {h : D → D → R D} (k : CmpQ X op h) {f g : List Sl → R D} (ha : PE X a (tB X.K f)) (hb : PE X b (tB X.K g)) (hm : behindInMarks op b = false := by first | exact nomark _ | rfl) : PT X (.Compare a [op] [b] pos) (tT X.K (m1 (m2 f g h) asB)) := let ⟨_, o, q⟩ := k.ex; pCmpT o q ha hb hm
/-- a chain of two -/
def chain {α : Type} (fin : D → R α) (h h' : D → D → R D) (f g k : List Sl → R D) : List Sl → R α := fun ρ => bd (f ρ) fun x => bd (g ρ) fun y => bd (h x y) fun z => bd (asB z) fun t => bd (if t = true then bd (k ρ) fun w => h' y w else ok (.bool false)) fin
theorem chain_of {K : PySem.W.Frag} {r r' : R2} {h h' : D → D → R D} (hr : Bop K r h) (hr' : Bop K r' h') {f g k : List Sl → R D} {σ : L2.St} {H : Hp} {Q : VK} (q : tP K (chain ok h h' f g k) σ H Q) : tChain r r' (tB K f) (tB K g) (tB K k) σ H Q := by
  obtain ⟨c, G, ρ, post, w, rs, hf, q⟩ := q
  refine ⟨c, G, ρ, _, w, rs, hf, fun x hx v G1 H1 e1 w1 b1 => ?_⟩
  refine ⟨c, G1, ρ, _, w.step w1 e1, rs.ext e1, hx, fun y hy u G2 H2 e2 w2 b2 => ?_⟩
  refine hr c G2 H2 v u x y _ _ w2 (b1.ext e2) b2 hy fun z hz v' G3 H3 e3 w3 d3 => ?_
  obtain ⟨t, rfl, ht⟩ := asB_inv hz
  cases d3
  refine ⟨t, rfl, ?_⟩
  cases t with
  | false => exact q _ ht _ G3 H3 ((e1.trans e2).trans e3) w3 (.bl _)
  | true =>
    rw [if_pos rfl]
    have w3' : Wd c G3 H3 := ((w.step w1 e1).step w2 e2).step w3 e3
    refine ⟨c, G3, ρ, fun w => h' y w post, w3', ((rs.ext e1).ext e2).ext e3, ht, fun z hz v' G4 H4 e4 w4 b4 => ?_⟩
    exact hr' c G4 H4 u v' y z post Q w4 ((b2.ext e3).ext e4) b4 hz fun z hz v' G' H' e5 w5 d5 => q z hz v' G' H' ((((e1.trans e2).trans e3).trans e4).trans e5) w5 d5
theorem cmp2 {op op' : CmpOp} {h h' : D → D → R D} {d : Expr} (k : CmpQ X op h) (k' : CmpQ X op' h') {f g l : List Sl → R D} (ha : PE X a (tB X.K f)) (hb : PE X b (tB X.K g)) (hc : PE X d (tB X.K l)) (hm : lastMarks [op, op'] [b, d] = false := by with_unfolding_all rfl) :
    PE X (.Compare a [op, op'] [b, d] pos) (tP X.K (chain ok h h' f g l)) := let ⟨_, o, z⟩ := k.ex; let ⟨_, o', z'⟩ := k'.ex; PE.wk (pe_chain o o' ha hb hc hm) fun _ _ _ q => chain_of z z' q
theorem cmp2T {op op' : CmpOp} {h h' : D → D → R D} {d : Expr} (k : CmpQ X op h) (k' : CmpQ X op' h') {f g l : List Sl → R D} (ha : PE X a (tB X.K f)) (hb : PE X b (tB X.K g)) (hc : PE X d (tB X.K l)) (hm : lastMarks [op, op'] [b, d] = false := by with_unfolding_all rfl) :
    PT X (.Compare a [op, op'] [b, d] pos) (tT X.K (m1 (chain ok h h' f g l) asB)) := let ⟨_, o, z⟩ := k.ex; let ⟨_, o', z'⟩ := k'.ex; PT.wk (pt_chain o o' ha hb hc hm) fun _ _ _ q => tTest_of (fun _ _ _ y => chain_of z z' y) q
end
end Pu

namespace Pu
open PySem PySem.Spec PyProof.Rows L2
section
variable {X : Cx} {e a b : Expr} {es : List Expr} {pos : Pos}
/-! ### truth, and, or, not -/
def truR : D → R Bool
  | .none => ok false
  | .bool b => ok b
  | .int i => ok (i != 0)
  | .str s => bd (req (s.length ≤ sizeLine)) fun _ => ok ((s.length : Int) != 0)
  | .list xs => ok (!xs.isEmpty)
  | .tuple xs => ok (!xs.isEmpty)
  | .dict _ => fail
theorem isEmpty_all {K : PySem.W.Frag} {G : Hp} {vs : List V} {ds : List D} (h : DqAll K G vs ds) : vs.isEmpty = ds.isEmpty := by cases h <;> rfl
theorem truR_inv {K : PySem.W.Frag} {c : Ct} {G H : Hp} {v : V} {d : D} {post : Bool → Prop} (w : W0 c.E G H) (b : Bv K c G H v d) (h : truR d post) : ∃ k, TruV K v H k ∧ post k := by
  cases d with
  | none => rw [b.none]; exact ⟨_, rfl, h⟩
  | bool k => rw [b.bool]; exact ⟨_, rfl, h⟩
  | int i => rw [b.int]; exact ⟨_, rfl, h⟩
  | str s => rw [b.str]; exact ⟨_, ⟨h.1, rfl⟩, h.2⟩
  | list xs =>
    obtain ⟨a, vs, rfl, h1, h2, _⟩ := b.lst w
    exact ⟨_, .inl ⟨vs, .of h1, rfl⟩, by rw [isEmpty_all h2]; exact h⟩
  | tuple xs =>
    obtain ⟨a, vs, rfl, h1, h2⟩ := b.tup
    exact ⟨_, .inr (.inl ⟨vs, sqT_mono w.sub h1, rfl⟩), by rw [isEmpty_all h2]; exact h⟩
  | dict _ => exact h.elim
theorem tst {f : List Sl → R D} (ha : PE X a (tB X.K f)) (he : ∀ whole, isTrue a X.env whole = (do let v ← whole; standAt a.pos; holding [v] (truthy v)) := by intro _; rfl) : PT X a (tT X.K (m1 f truR)) :=
  PT.wk (pt_truth ha he) fun σ H Q ⟨c, G, ρ, post, w, r, hf, q⟩ => ⟨c, G, ρ, fun d => truR d post, w, r, hf, fun d hd v G' H' e' w' bv => by
    obtain ⟨k, hk, hp⟩ := truR_inv w' bv hd
    exact ⟨k, hk, q k hp G' H' e' w'⟩⟩
def andT (f g : List Sl → R Bool) : List Sl → R Bool := fun ρ => bd (f ρ) fun b => if b = true then g ρ else ok false
def orT (f g : List Sl → R Bool) : List Sl → R Bool := fun ρ => bd (f ρ) fun b => if b = true then ok true else g ρ
def notT (f : List Sl → R Bool) : List Sl → R Bool := fun ρ => bd (f ρ) fun b => ok (!b)
theorem and1 {f : List Sl → R Bool} (ha : PT X a (tT X.K f)) : PW X (.BoolOp .And [a] pos) (tT X.K f) := pw_and1 ha
theorem or1 {f : List Sl → R Bool} (ha : PT X a (tT X.K f)) : PW X (.BoolOp .Or [a] pos) (tT X.K f) := pw_or1 ha
theorem andW {f g : List Sl → R Bool} {rest : List Expr} (ha : PT X a (tT X.K f)) (hb : PW X (.BoolOp .And (b :: rest) pos) (tT X.K g)) : PW X (.BoolOp .And (a :: b :: rest) pos) (tT X.K (andT f g)) :=
  PW.wk (pw_and ha hb) fun σ H Q ⟨c, G, ρ, post, w, r, hf, q⟩ => ⟨c, G, ρ, fun k => (if k = true then g ρ else ok false) post, w, r, hf, fun k hk G' H' e' w' => by
    cases k with
    | true => exact ⟨c, G', ρ, post, w.step w' e', r.ext e', hk, fun k hk G2 H2 e2 w2 => q k hk G2 H2 (e'.trans e2) w2⟩
    | false => exact q false hk G' H' e' w'⟩
theorem orW {f g : List Sl → R Bool} {rest : List Expr} (ha : PT X a (tT X.K f)) (hb : PW X (.BoolOp .Or (b :: rest) pos) (tT X.K g)) : PW X (.BoolOp .Or (a :: b :: rest) pos) (tT X.K (orT f g)) :=
  PW.wk (pw_or ha hb) fun σ H Q ⟨c, G, ρ, post, w, r, hf, q⟩ => ⟨c, G, ρ, fun k => (if k = true then ok true else g ρ) post, w, r, hf, fun k hk G' H' e' w' => by
    cases k with
    | false => exact ⟨c, G', ρ, post, w.step w' e', r.ext e', hk, fun k hk G2 H2 e2 w2 => q k hk G2 H2 (e'.trans e2) w2⟩
    | true => exact q true hk G' H' e' w'⟩
theorem notP {f : List Sl → R Bool} (ha : PT X a (tT X.K f)) : PT X (.UnaryOp .Not a pos) (tT X.K (notT f)) :=
  PT.wk (pt_not ha) fun σ H Q ⟨c, G, ρ, post, w, r, hf, q⟩ => ⟨c, G, ρ, fun k => post (!k), w, r, hf, fun k hk G' H' e' w' => q _ hk G' H' e' w'⟩
/-- .. as values -/
def andV (f g : List Sl → R D) : List Sl → R D := fun ρ => bd (f ρ) fun d => bd (truR d) fun b => if b = true then g ρ else ok d
def orV (f g : List Sl → R D) : List Sl → R D := fun ρ => bd (f ρ) fun d => bd (truR d) fun b => if b = true then ok d else g ρ
def notV (f : List Sl → R D) : List Sl → R D := fun ρ => bd (f ρ) fun d => bd (truR d) fun b => ok (.bool (!b))
theorem v1 {op} {f : List Sl → R D} (ha : PE X a (tP X.K f)) : PE X (.BoolOp op [a] pos) (tP X.K f) := pe_one ha
theorem andP {f g : List Sl → R D} {rest : List Expr} (ha : PE X a (tP X.K f)) (hb : PE X (.BoolOp .And (b :: rest) pos) (tP X.K g)) : PE X (.BoolOp .And (a :: b :: rest) pos) (tP X.K (andV f g)) :=
  PE.wk (pe_andT ha hb) fun σ H Q ⟨c, G, ρ, post, w, r, hf, q⟩ => ⟨c, G, ρ, fun d => bd (truR d) (fun b => if b = true then g ρ else ok d) post, w, r, hf, fun d hd v G' H' e' w' k => by
    obtain ⟨t, ht, hp⟩ := truR_inv w' (.inl k : Bv X.K c G' H' v d) hd
    refine ⟨t, ht, ?_⟩
    cases t with
    | true => rw [if_pos rfl]; exact ⟨c, G', ρ, post, w.step w' e', r.ext e', hp, fun k hk v G2 H2 e2 w2 => q k hk v G2 H2 (e'.trans e2) w2⟩
    | false => exact q d hp v G' H' e' w' k⟩
theorem orP {f g : List Sl → R D} {rest : List Expr} (ha : PE X a (tP X.K f)) (hb : PE X (.BoolOp .Or (b :: rest) pos) (tP X.K g)) : PE X (.BoolOp .Or (a :: b :: rest) pos) (tP X.K (orV f g)) :=
  PE.wk (pe_orT ha hb) fun σ H Q ⟨c, G, ρ, post, w, r, hf, q⟩ => ⟨c, G, ρ, fun d => bd (truR d) (fun b => if b = true then ok d else g ρ) post, w, r, hf, fun d hd v G' H' e' w' k => by
    obtain ⟨t, ht, hp⟩ := truR_inv w' (.inl k : Bv X.K c G' H' v d) hd
    refine ⟨t, ht, ?_⟩
    cases t with
    | false => exact ⟨c, G', ρ, post, w.step w' e', r.ext e', hp, fun k hk v G2 H2 e2 w2 => q k hk v G2 H2 (e'.trans e2) w2⟩
    | true => rw [if_pos rfl]; exact q d hp v G' H' e' w' k⟩
theorem notVP {f : List Sl → R D} (ha : PE X a (tB X.K f)) : PE X (.UnaryOp .Not a pos) (tP X.K (notV f)) :=
  PE.wk (pe_notT ha) fun σ H Q ⟨c, G, ρ, post, w, r, hf, q⟩ => ⟨c, G, ρ, _, w, r, hf, fun d hd v G' H' e' w' k => by
    obtain ⟨t, ht, hp⟩ := truR_inv w' k hd
    exact ⟨t, ht, q _ hp _ G' H' e' w' (.bl _)⟩⟩
def ifV {α : Type} (t : List Sl → R Bool) (f g : List Sl → R α) : List Sl → R α := fun ρ => bd (t ρ) fun b => if b = true then f ρ else g ρ
theorem ifP {t : List Sl → R Bool} {f g : List Sl → R D} {cnd : Expr} (hc : PT X cnd (tT X.K t)) (ha : PE X a (tP X.K f)) (hb : PE X b (tP X.K g)) : PE X (.IfExp cnd a b pos) (tP X.K (ifV t f g)) :=
  PE.wk (pe_ifExp hc ha hb) fun σ H Q ⟨c, G, ρ, post, w, r, hf, q⟩ => ⟨c, G, ρ, fun k => (if k = true then f ρ else g ρ) post, w, r, hf, fun k hk G' H' e' w' => by
    cases k with
    | true => rw [if_pos rfl]; exact ⟨c, G', ρ, post, w.step w' e', r.ext e', hk, fun k hk v G2 H2 e2 w2 => q k hk v G2 H2 (e'.trans e2) w2⟩
    | false => exact ⟨c, G', ρ, post, w.step w' e', r.ext e', hk, fun k hk v G2 H2 e2 w2 => q k hk v G2 H2 (e'.trans e2) w2⟩⟩
theorem ifF {t : List Sl → R Bool} {f g : List Sl → R (List D)} {cnd : Expr} (hc : PT X cnd (tT X.K t)) (ha : PE X a (tF X.K f)) (hb : PE X b (tF X.K g)) : PE X (.IfExp cnd a b pos) (tF X.K (ifV t f g)) :=
  PE.wk (pe_ifExp hc ha hb) fun σ H Q ⟨c, G, ρ, post, w, r, hf, q⟩ => ⟨c, G, ρ, fun k => (if k = true then f ρ else g ρ) post, w, r, hf, fun k hk G' H' e' w' => by
    have ne : ∀ p, H' p = none → ¬ c.E.vol p → H p = none := fun p e v => by
      cases q : H p with
      | none => rfl
      | some o => rw [e'.h p o q v] at e; cases e
    cases k with
    | true =>
      exact ⟨c, G', ρ, post, w.step w' e', r.ext e', hk, fun k hk p G2 H2 n e2 w2 o => q k hk p G2 H2 (ne p n o.v) (e'.trans e2) w2 o⟩
    | false =>
      exact ⟨c, G', ρ, post, w.step w' e', r.ext e', hk, fun k hk p G2 H2 n e2 w2 o => q k hk p G2 H2 (ne p n o.v) (e'.trans e2) w2 o⟩⟩

/-! ### subscripts, slices -/
theorem DqAll.atI {K : PySem.W.Frag} {G : Hp} {vs : List V} {ds : List D} (h : DqAll K G vs ds) {i : Int} {d : D} (e : L2.atI ds i = some d) : ∃ v, L2.atI vs i = some v ∧ Dq K G v d := by
  unfold L2.atI at e ⊢
  rw [h.length]
  cases q : L2.ixN ds.length i with
  | none => rw [q] at e; cases e
  | some j =>
    rw [q] at e
    obtain ⟨v, h1, h2⟩ := h.get (i := j) (d := d) e
    exact ⟨v, h1, h2⟩
def ixR : D → D → R D
  | .list xs, .int i => (match L2.atI xs i with | some x => ok x | none => fail)
  | .tuple xs, .int i => (match L2.atI xs i with | some x => ok x | none => fail)
  | .str z, .int i => (match L2.atI z.cps.toList i with | some x => bd (req (z.length ≤ sizeLine)) fun _ => ok (.str ⟨#[x]⟩) | none => fail)
  | _, _ => fail
theorem bop_ix : Bop X.K (rIx X.K) ixR := by
  intro c G H x y d e post Q w b1 b2 hp q
  cases d <;> cases e <;> try exact hp.elim
  · rename_i s i
    simp only [ixR] at hp
    cases hx : L2.atI s.cps.toList i with
    | none => rw [hx] at hp; exact hp.elim
    | some z =>
      rw [hx] at hp
      exact .inr (.inr ⟨s, i, z, b1.str, b2.int, hp.1, hx, q _ hp.2 _ G H .refl w (.str _)⟩)
  · rename_i xs i
    simp only [ixR] at hp
    cases hx : L2.atI xs i with
    | none => rw [hx] at hp; exact hp.elim
    | some z =>
      rw [hx] at hp
      obtain ⟨p, vs, rfl, h1, h2, _⟩ := b1.lst w
      obtain ⟨v, h3, h4⟩ := h2.atI hx
      exact .inl ⟨p, vs, i, v, rfl, b2.int, .of h1, h3, q _ hp _ G H .refl w h4⟩
  · rename_i xs i
    simp only [ixR] at hp
    cases hx : L2.atI xs i with
    | none => rw [hx] at hp; exact hp.elim
    | some z =>
      rw [hx] at hp
      obtain ⟨p, vs, rfl, h1, h2⟩ := b1.tup
      obtain ⟨v, h3, h4⟩ := h2.atI hx
      exact .inr (.inl ⟨p, vs, i, v, rfl, b2.int, sqT_mono w.sub h1, h3, q _ hp _ G H .refl w h4⟩)
theorem ix {f g : List Sl → R D} (ha : PE X a (tB X.K f)) (hb : PE X b (tB X.K g)) (hs : PlainIx b := by exact fun _ _ => rfl) : PE X (.Subscript a b pos) (tP X.K (m2 f g ixR)) := PE.wk (pe_ix ix_seq ha hb hs) fun _ _ _ q => bop2 bop_ix q
/-- the parts of a slice -/
def tO (K : PySem.W.Frag) (f : List Sl → R (Option Int)) : TO := fun σ H Q => ∃ (c : Ct) (G : Hp) (ρ : List Sl) (post : Option Int → Prop), Wd c G H ∧ RS K c G H σ ρ ∧ f ρ post ∧
  ∀ r, post r → ∀ G' H', Ext c.E G H G' H' → W0 c.E G' H' → Q r H'
def asI : D → R (Option Int)
  | .int i => ok (some i)
  | _ => fail
theorem PO.wk {o : Option Expr} {t t' : TO} (h : PO X o t) (w : ∀ σ H Q, t' σ H Q → t σ H Q) : PO X o t' := ⟨fun pins s σ H Q I q => h.run pins s σ H Q I (w σ H Q q)⟩
theorem sN : PO X none (tO X.K fun _ => ok none) := PO.wk po_none fun σ H Q ⟨c, G, ρ, post, w, r, hf, q⟩ => q none hf G H .refl w.w
theorem sE {f : List Sl → R D} (ha : PE X a (tB X.K f)) : PO X (some a) (tO X.K (m1 f asI)) := PO.wk (po_some ha) fun σ H Q ⟨c, G, ρ, post, w, r, hf, q⟩ =>
  ⟨c, G, ρ, fun d => asI d post, w, r, hf, fun d hd v G' H' e' w' k => by
    cases d <;> try exact hd.elim
    exact ⟨_, k.int, q _ hd G' H' e' w'⟩⟩
def cutG {α : Type} (xs : List α) (lo hi : Option Int) : List α := (xs.drop (HT.sIx xs.length 0 lo)).take (HT.sIx xs.length xs.length hi - HT.sIx xs.length 0 lo)
theorem DqAll.cut {K : PySem.W.Frag} {G : Hp} {vs : List V} {ds : List D} (h : DqAll K G vs ds) (lo hi : Option Int) : DqAll K G (cutV vs lo hi) (cutG ds lo hi) := by
  unfold cutV cutG
  rw [h.length]
  exact (h.drop _).take _
theorem cut_all {α : Type} {xs : List α} {lo hi : Option Int} (h : HT.sIx xs.length 0 lo = 0 ∧ HT.sIx xs.length xs.length hi = xs.length) : cutG xs lo hi = xs := by
  unfold cutG; rw [h.1, h.2]; simp
def slR (d : D) (lo hi : Option Int) : R D := match d with
  | .list xs => ok (.list (cutG xs lo hi))
  | .tuple xs => ok (.tuple (cutG xs lo hi))
  | .str z => bd (req (z.length ≤ sizeLine)) fun _ => ok (.str (cutS z lo hi))
  | _ => fail
def slF (d : D) (lo hi : Option Int) : R (List D) := match d with
  | .list xs => ok (cutG xs lo hi)
  | _ => fail
def m3 {α β γ δ : Type} (f : List Sl → R α) (g : List Sl → R β) (l : List Sl → R γ) (h : α → β → γ → R δ) : List Sl → R δ := fun ρ => bd (f ρ) fun x => bd (g ρ) fun y => bd (l ρ) fun z => h x y z
theorem sl {f : List Sl → R D} {g l : List Sl → R (Option Int)} {lo hi : Option Expr} {p2 : Pos} (ha : PE X a (tB X.K f)) (hl : PO X lo (tO X.K g)) (hu : PO X hi (tO X.K l)) : PE X (.Subscript a (.Slice lo hi none p2) pos) (tP X.K (m3 f g l slR)) :=
  PE.wk (pe_slice ((sl_list.or sl_tupA).or sl_str) ha hl hu) fun σ H Q ⟨c, G, ρ, post, w, r, hf, q⟩ => by
    refine ⟨c, G, ρ, _, w, r, hf, fun d hd v G1 H1 e1 w1 b1 => ?_⟩
    refine ⟨c, G1, ρ, _, w.step w1 e1, r.ext e1, hd, fun lo hlo G2 H2 e2 w2 => ?_⟩
    refine ⟨c, G2, ρ, _, (w.step w1 e1).step w2 e2, (r.ext e1).ext e2, hlo, fun hi hhi G3 H3 e3 w3 => ?_⟩
    have e13 := (e1.trans e2).trans e3
    have b3 := (b1.ext e2).ext e3
    cases d <;> try exact hhi.elim
    · exact .inr ⟨_, b3.str, hhi.1, q _ hhi.2 _ G3 H3 e13 w3 (.str _)⟩
    · obtain ⟨p, vs, rfl, h1, h2, _⟩ := b3.lst w3
      refine .inl (.inl ⟨p, vs, rfl, .of h1, fun n hn => ?_⟩)
      obtain ⟨w4, e4⟩ := w3.newF hn (.lst (cutV vs lo hi))
      exact q _ hhi _ _ _ (e13.trans e4) w4 (.lst upd_same ((h2.cut lo hi).mono e4.g))
    · obtain ⟨p, vs, rfl, h1, h2⟩ := b3.tup
      refine .inl (.inr ⟨p, vs, rfl, sqT_mono w3.sub h1, fun hw => ?_, fun hw n hn => ?_⟩)
      · have hp := hhi
        unfold slR at hp
        rw [h2.length] at hw
        simp only [cut_all hw] at hp
        exact q _ hp _ G3 H3 e13 w3 (.tup h1 h2)
      · obtain ⟨w4, e4⟩ := w3.newF hn (.tup (cutV vs lo hi))
        exact q _ hhi _ _ _ (e13.trans e4) w4 (.tup (.of upd_same) ((h2.cut lo hi).mono e4.g))
theorem Wd.newO {K : PySem.W.Frag} {c : Ct} {G0 H0 G H : Hp} {p : Addr} (w : Wd c G H) (n : H p = none) {vs : List V} {ds : List D} (q : DqAll K G vs ds) : W0 c.E G (upd H p (.lst vs)) ∧ Ext c.E G H G (upd H p (.lst vs)) ∧ Own K c G (upd H p (.lst vs)) p ds := by
  obtain ⟨g, v⟩ := w.w.fresh n
  obtain ⟨w1, e1⟩ := w.w.new n (.lst vs)
  refine ⟨w1, e1, ⟨vs, upd_same, q⟩, g, ?_, v⟩
  cases e : c.H0 p with
  | none => rfl
  | some o => rw [w.e.h p o e v] at n; cases n
theorem Ext.none {E : Ef} {G H G' H' : Hp} (e : Ext E G H G' H') {p : Addr} (n : H' p = none) (v : ¬ E.vol p) : H p = none := by
  cases q : H p with
  | none => rfl
  | some o => rw [e.h p o q v] at n; cases n
/-- a new list at a new place -/
theorem fin_new {K : PySem.W.Frag} {c : Ct} {G H G1 H1 : Hp} {p : Addr} {vs : List V} {ds : List D} {post : List D → Prop} {Q : VK} (w : Wd c G1 H1) (e : Ext c.E G H G1 H1) (n : H1 p = none) (k : DqAll K G1 vs ds) (hp : post ds)
    (q : ∀ r, post r → ∀ a G' H', H a = none → Ext c.E G H G' H' → W0 c.E G' H' → Own K c G' H' a r → Q (.ref a) H') : Q (.ref p) (upd H1 p (.lst vs)) := by
  obtain ⟨w1, e1, o⟩ := w.newO (G0 := G) (H0 := H) n k
  exact q ds hp p G1 _ (e.none n (w.w.fresh n).2) (e.trans e1) w1 o
theorem slL {f : List Sl → R D} {g l : List Sl → R (Option Int)} {lo hi : Option Expr} {p2 : Pos} (ha : PE X a (tB X.K f)) (hl : PO X lo (tO X.K g)) (hu : PO X hi (tO X.K l)) : PE X (.Subscript a (.Slice lo hi none p2) pos) (tF X.K (m3 f g l slF)) :=
  PE.wk (pe_slice sl_list ha hl hu) fun σ H Q ⟨c, G, ρ, post, w, r, hf, q⟩ => by
    refine ⟨c, G, ρ, _, w, r, hf, fun d hd v G1 H1 e1 w1 b1 => ?_⟩
    refine ⟨c, G1, ρ, _, w.step w1 e1, r.ext e1, hd, fun lo hlo G2 H2 e2 w2 => ?_⟩
    refine ⟨c, G2, ρ, _, (w.step w1 e1).step w2 e2, (r.ext e1).ext e2, hlo, fun hi hhi G3 H3 e3 w3 => ?_⟩
    have e13 := (e1.trans e2).trans e3
    have b3 := (b1.ext e2).ext e3
    cases d <;> try exact hhi.elim
    obtain ⟨p, vs, rfl, h1, h2, _⟩ := b3.lst w3
    exact ⟨p, vs, rfl, .of h1, fun n hn => fin_new (w.step w3 e13) e13 hn (h2.cut lo hi) hhi q⟩
/-- xs[::-1] of a list -/
def revF : D → R (List D)
  | .list xs => ok xs.reverse
  | _ => fail
theorem revL {f : List Sl → R D} {k : Nat} {p1 p2 p3 : Pos} (ha : PE X a (tB X.K f)) : PE X (.Subscript a (.Slice none none (some (.UnaryOp .USub (.Constant (.int 1) k p1) p2)) p3) pos) (tF X.K (m1 f revF)) :=
  PE.wk (pe_revL ha) fun σ H Q ⟨c, G, ρ, post, w, r, hf, q⟩ => ⟨c, G, ρ, _, w, r, hf, fun d hd v G1 H1 e1 w1 b1 => by
    cases d <;> try exact hd.elim
    obtain ⟨p, vs, rfl, h1, h2, _⟩ := b1.lst w1
    exact ⟨p, vs, rfl, .of h1, fun n hn => fin_new (w.step w1 e1) e1 hn h2.reverse hd q⟩⟩

/-! ### arguments, displays -/
def consR {α : Type} (f : List Sl → R α) (g : List Sl → R (List α)) : List Sl → R (List α) := fun ρ => bd (f ρ) fun x => bd (g ρ) fun xs => ok (x :: xs)
def nilR {α : Type} : List Sl → R (List α) := fun _ => ok []
theorem aN : PA X [] (tAB X.K nilR) := PA.wk pa_nil fun σ H Q ⟨c, G, ρ, post, w, r, hf, q⟩ => q [] hf [] G H .refl w.w .nil
theorem aC {f : List Sl → R D} {g : List Sl → R (List D)} (ha : PE X a (tB X.K f)) (hr : PA X es (tAB X.K g)) (hs : starEach (a :: es) X.env = (false, eval a X.env) :: starEach es X.env := by rfl) : PA X (a :: es) (tAB X.K (consR f g)) :=
  PA.wk (pa_cons ha hr hs) fun σ H Q ⟨c, G, ρ, post, w, r, hf, q⟩ => by
    refine ⟨c, G, ρ, _, w, r, hf, fun d hd v G1 H1 e1 w1 b1 => ?_⟩
    exact ⟨c, G1, ρ, _, w.step w1 e1, r.ext e1, hd, fun ds hds vs G2 H2 e2 w2 b2 => q (d :: ds) hds _ G2 H2 (e1.trans e2) w2 (.cons (b1.ext e2) b2)⟩
theorem fN : PA X [] (tAF X.K nilR) := PA.wk pa_nil fun σ H Q ⟨c, G, ρ, post, w, r, hf, q⟩ => q [] hf [] G H .refl w.w .nil
theorem fC {f : List Sl → R D} {g : List Sl → R (List D)} (ha : PE X a (tP X.K f)) (hr : PA X es (tAF X.K g)) (hs : starEach (a :: es) X.env = (false, eval a X.env) :: starEach es X.env := by rfl) : PA X (a :: es) (tAF X.K (consR f g)) :=
  PA.wk (pa_cons ha hr hs) fun σ H Q ⟨c, G, ρ, post, w, r, hf, q⟩ => by
    refine ⟨c, G, ρ, _, w, r, hf, fun d hd v G1 H1 e1 w1 b1 => ?_⟩
    exact ⟨c, G1, ρ, _, w.step w1 e1, r.ext e1, hd, fun ds hds vs G2 H2 e2 w2 b2 => q (d :: ds) hds _ G2 H2 (e1.trans e2) w2 (.cons (b1.mono e2.g) b2)⟩
def tupR (ds : List D) : R D := bd (req (ds.length ≤ sizeLine)) fun _ => ok (.tuple ds)
def lstR (ds : List D) : R (List D) := bd (req (ds.length ≤ sizeLine)) fun _ => ok ds
theorem tup {f : List Sl → R (List D)} {k} (h : PA X es (tAF X.K f)) : PE X (.Tuple es k pos) (tP X.K (m1 f tupR)) := PE.wk (pe_tup h) fun σ H Q ⟨c, G, ρ, post, w, r, hf, q⟩ =>
  ⟨c, G, ρ, _, w, r, hf, fun ds hd vs G1 H1 e1 w1 b1 => ⟨by rw [b1.length]; exact hd.1, fun n hn => by
    obtain ⟨w4, e4⟩ := w1.newF hn (.tup vs)
    exact q _ hd.2 _ _ _ (e1.trans e4) w4 (.tup (.of upd_same) (b1.mono e4.g))⟩⟩
theorem lst {f : List Sl → R (List D)} (h : PA X es (tAF X.K f)) : PE X (.List es pos) (tF X.K (m1 f lstR)) := PE.wk (pe_lst h) fun σ H Q ⟨c, G, ρ, post, w, r, hf, q⟩ =>
  ⟨c, G, ρ, _, w, r, hf, fun ds hd vs G1 H1 e1 w1 b1 => ⟨by rw [b1.length]; exact hd.1, fun n hn => fin_new (w.step w1 e1) e1 hn b1 hd.2 q⟩⟩
/-- xs + ys, lists -/
def catF : D → D → R (List D)
  | .list x, .list y => bd (req (x.length + y.length ≤ sizeLine)) fun _ => ok (x ++ y)
  | _, _ => fail
theorem catL {f g : List Sl → R D} (ha : PE X a (tB X.K f)) (hb : PE X b (tB X.K g)) : PE X (.BinOp a .Add b pos) (tF X.K (m2 f g catF)) := PE.wk (pe_op op_cat ha hb) fun σ H Q ⟨c, G, ρ, post, w, r, hf, q⟩ => by
  refine ⟨c, G, ρ, _, w, r, hf, fun d hd v G1 H1 e1 w1 b1 => ?_⟩
  refine ⟨c, G1, ρ, _, w.step w1 e1, r.ext e1, hd, fun y hy u G2 H2 e2 w2 b2 => ?_⟩
  cases d <;> cases y <;> try exact hy.elim
  obtain ⟨p, vs, rfl, h1, h2, _⟩ := (b1.ext e2).lst w2
  obtain ⟨p', us, rfl, h1', h2', _⟩ := b2.lst w2
  have e12 := e1.trans e2
  exact ⟨p, p', vs, us, rfl, rfl, h1, h1', by rw [h2.length, h2'.length]; exact hy.1, fun n hn => fin_new (w.step w2 e12) e12 hn (h2.append h2') hy.2 q⟩

/-! ### built-ins by name -/
def Bcl (K : PySem.W.Frag) (r : List V → Hp → VK → Prop) (h : List D → R D) : Prop := ∀ (c : Ct) (G H : Hp) (vs : List V) (ds : List D) (post : D → Prop) (Q : VK), W0 c.E G H → BvAll K c G H vs ds → h ds post →
  (∀ z, post z → ∀ v G' H', Ext c.E G H G' H' → W0 c.E G' H' → Dq K G' v z → Q v H') → r vs H Q
def BclF (K : PySem.W.Frag) (r : List V → Hp → VK → Prop) (h : List D → R (List D)) : Prop := ∀ (c : Ct) (G H : Hp) (vs : List V) (ds : List D) (post : List D → Prop) (Q : VK), Wd c G H → BvAll K c G H vs ds → h ds post →
  (∀ r, post r → ∀ a G' H', H a = none → Ext c.E G H G' H' → W0 c.E G' H' → Own K c G' H' a r → Q (.ref a) H') → r vs H Q
structure CalQ (X : Cx) (u : Value) (h : List D → R D) : Prop where
  ex : ∃ r, CallR X u r ∧ Bcl X.K r h
structure CalF (X : Cx) (u : Value) (h : List D → R (List D)) : Prop where
  ex : ∃ r, CallR X u r ∧ BclF X.K r h
section
variable {x : Str} {p : Pos} {id T : String}
theorem cal {f : List Sl → R (List D)} {h : List D → R D} (k : CalQ X (.builtin id) h) (hm : X.mg x = none) (ha : PA X (e :: es) (tAB X.K f)) (hg : Gl X x := by rfl) (hv : bootBuiltins x = some (.builtin id) := by decide +kernel) (hn : x ≠ "__name__" := by decide) (hdb : (x == ("__debug__" : Str)) = false := by decide)
    (he : starEach (e :: es) X.env = (false, eval e X.env) :: starEach es X.env := by rfl) (hpl : (backTo pos (starEach es X.env)).any (·.1) = false := by rfl) : PE X (.Call (.Name x p) (e :: es) [] pos) (tP X.K (m1 f h)) :=
  let ⟨_, k1, k2⟩ := k.ex
  PE.wk (pe_callB k1 hg hm hv ha hn hdb he hpl) fun σ H Q ⟨c, G, ρ, post, w, r, hf, q⟩ => ⟨c, G, ρ, _, w, r, hf, fun ds hd vs G1 H1 e1 w1 b1 => k2 c G1 H1 vs ds post Q w1 b1 hd fun z hz v G' H' e2 w2 d2 => q z hz v G' H' (e1.trans e2) w2 d2⟩
theorem calT {f : List Sl → R (List D)} {h : List D → R D} (k : CalQ X (.type T) h) (hm : X.mg x = none) (ha : PA X (e :: es) (tAB X.K f)) (hg : Gl X x := by rfl) (hv : bootBuiltins x = some (.type T) := by decide +kernel) (hn : x ≠ "__name__" := by decide) (hdb : (x == ("__debug__" : Str)) = false := by decide)
    (he : starEach (e :: es) X.env = (false, eval e X.env) :: starEach es X.env := by rfl) (hpl : (backTo pos (starEach es X.env)).any (·.1) = false := by rfl) : PE X (.Call (.Name x p) (e :: es) [] pos) (tP X.K (m1 f h)) :=
  let ⟨_, k1, k2⟩ := k.ex
  PE.wk (pe_callTy k1 hg hm hv ha hn hdb he hpl) fun σ H Q ⟨c, G, ρ, post, w, r, hf, q⟩ => ⟨c, G, ρ, _, w, r, hf, fun ds hd vs G1 H1 e1 w1 b1 => k2 c G1 H1 vs ds post Q w1 b1 hd fun z hz v G' H' e2 w2 d2 => q z hz v G' H' (e1.trans e2) w2 d2⟩
theorem calF {f : List Sl → R (List D)} {h : List D → R (List D)} (k : CalF X (.builtin id) h) (hm : X.mg x = none) (ha : PA X (e :: es) (tAB X.K f)) (hg : Gl X x := by rfl) (hv : bootBuiltins x = some (.builtin id) := by decide +kernel) (hn : x ≠ "__name__" := by decide) (hdb : (x == ("__debug__" : Str)) = false := by decide)
    (he : starEach (e :: es) X.env = (false, eval e X.env) :: starEach es X.env := by rfl) (hpl : (backTo pos (starEach es X.env)).any (·.1) = false := by rfl) : PE X (.Call (.Name x p) (e :: es) [] pos) (tF X.K (m1 f h)) :=
  let ⟨_, k1, k2⟩ := k.ex
  PE.wk (pe_callB k1 hg hm hv ha hn hdb he hpl) fun σ H Q ⟨c, G, ρ, post, w, r, hf, q⟩ => ⟨c, G, ρ, _, w, r, hf, fun ds hd vs G1 H1 e1 w1 b1 => k2 c G1 H1 vs ds post Q (w.step w1 e1) b1 hd fun z hz a G' H' n e2 w2 d2 => q z hz a G' H' (e1.none n d2.v) (e1.trans e2) w2 d2⟩
theorem calTF {f : List Sl → R (List D)} {h : List D → R (List D)} (k : CalF X (.type T) h) (hm : X.mg x = none) (ha : PA X (e :: es) (tAB X.K f)) (hg : Gl X x := by rfl) (hv : bootBuiltins x = some (.type T) := by decide +kernel) (hn : x ≠ "__name__" := by decide) (hdb : (x == ("__debug__" : Str)) = false := by decide)
    (he : starEach (e :: es) X.env = (false, eval e X.env) :: starEach es X.env := by rfl) (hpl : (backTo pos (starEach es X.env)).any (·.1) = false := by rfl) : PE X (.Call (.Name x p) (e :: es) [] pos) (tF X.K (m1 f h)) :=
  let ⟨_, k1, k2⟩ := k.ex
  PE.wk (pe_callTy k1 hg hm hv ha hn hdb he hpl) fun σ H Q ⟨c, G, ρ, post, w, r, hf, q⟩ => ⟨c, G, ρ, _, w, r, hf, fun ds hd vs G1 H1 e1 w1 b1 => k2 c G1 H1 vs ds post Q (w.step w1 e1) b1 hd fun z hz a G' H' n e2 w2 d2 => q z hz a G' H' (e1.none n d2.v) (e1.trans e2) w2 d2⟩
end
theorem BvAll.one {K : PySem.W.Frag} {c : Ct} {G H : Hp} {vs : List V} {d : D} (h : BvAll K c G H vs [d]) : ∃ v, vs = [v] ∧ Bv K c G H v d := by
  cases h with | cons b t => cases t; exact ⟨_, rfl, b⟩
theorem BvAll.two {K : PySem.W.Frag} {c : Ct} {G H : Hp} {vs : List V} {d e : D} (h : BvAll K c G H vs [d, e]) : ∃ v u, vs = [v, u] ∧ Bv K c G H v d ∧ Bv K c G H u e := by
  cases h with | cons b t => cases t with | cons b' t' => cases t'; exact ⟨_, _, rfl, b, b'⟩
def lenR : List D → R D
  | [.list xs] => ok (.int xs.length)
  | [.tuple xs] => ok (.int xs.length)
  | [.str s] => bd (req (s.length ≤ sizeLine)) fun _ => ok (.int s.length)
  | _ => fail
theorem kLen : CalQ X (.builtin "len") lenR := ⟨_, call_len, by
  intro c G H vs ds post Q w bs hp q
  match ds, bs, hp with
  | [.list xs], bs, hp =>
    obtain ⟨v, rfl, b⟩ := bs.one
    obtain ⟨p, us, rfl, h1, h2, _⟩ := b.lst w
    exact ⟨_, _, rfl, .inl ⟨us, .of h1, rfl⟩, by rw [h2.length]; exact q _ hp _ G H .refl w (.int _)⟩
  | [.tuple xs], bs, hp =>
    obtain ⟨v, rfl, b⟩ := bs.one
    obtain ⟨p, us, rfl, h1, h2⟩ := b.tup
    exact ⟨_, _, rfl, .inr ⟨us, sqT_mono w.sub h1, rfl⟩, by rw [h2.length]; exact q _ hp _ G H .refl w (.int _)⟩
  | [.str s], bs, hp =>
    obtain ⟨v, rfl, b⟩ := bs.one
    rw [b.str]
    exact ⟨_, _, rfl, ⟨hp.1, rfl⟩, q _ hp.2 _ G H .refl w (.int _)⟩⟩
def absR : List D → R D
  | [.int i] => ok (.int (if i < 0 then -i else i))
  | _ => fail
theorem kAbs : CalQ X (.builtin "abs") absR := ⟨_, call_abs, by
  intro c G H vs ds post Q w bs hp q
  match ds, bs, hp with
  | [.int i], bs, hp =>
    obtain ⟨v, rfl, b⟩ := bs.one
    rw [b.int]
    exact ⟨_, rfl, q _ hp _ G H .refl w (.int _)⟩⟩
def intR : List D → R D
  | [.int i] => ok (.int i)
  | [.bool b] => ok (.int (if b then 1 else 0))
  | _ => fail
theorem kInt : CalQ X (.type "int") intR := ⟨_, call_int1, by
  intro c G H vs ds post Q w bs hp q
  match ds, bs, hp with
  | [.int i], bs, hp =>
    obtain ⟨v, rfl, b⟩ := bs.one
    rw [b.int]
    exact .inl ⟨_, rfl, q _ hp _ G H .refl w (.int _)⟩
  | [.bool i], bs, hp =>
    obtain ⟨v, rfl, b⟩ := bs.one
    rw [b.bool]
    exact .inr ⟨_, rfl, q _ hp _ G H .refl w (.int _)⟩⟩
def tupOfR : List D → R D
  | [.list xs] => ok (.tuple xs)
  | [.tuple xs] => ok (.tuple xs)
  | _ => fail
theorem kTup : CalQ X (.type "tuple") tupOfR := ⟨_, call_tuple_of, by
  intro c G H vs ds post Q w bs hp q
  match ds, bs, hp with
  | [.list xs], bs, hp =>
    obtain ⟨v, rfl, b⟩ := bs.one
    obtain ⟨p, us, rfl, h1, h2, _⟩ := b.lst w
    refine ⟨_, _, rfl, .inl ⟨.of h1, fun n hn => ?_⟩⟩
    obtain ⟨w4, e4⟩ := w.newF hn (.tup us)
    exact q _ hp _ _ _ e4 w4 (.tup (.of upd_same) (h2.mono e4.g))
  | [.tuple xs], bs, hp =>
    obtain ⟨v, rfl, b⟩ := bs.one
    obtain ⟨p, us, rfl, h1, h2⟩ := b.tup
    exact ⟨_, _, rfl, .inr ⟨sqT_mono w.sub h1, q _ hp _ G H .refl w (.tup h1 h2)⟩⟩⟩
def lstOfR : List D → R (List D)
  | [.list xs] => ok xs
  | [.tuple xs] => ok xs
  | _ => fail
theorem kLst : CalF X (.type "list") lstOfR := ⟨_, call_list_of, by
  intro c G H vs ds post Q w bs hp q
  match ds, bs, hp with
  | [.list xs], bs, hp =>
    obtain ⟨v, rfl, b⟩ := bs.one
    obtain ⟨p, us, rfl, h1, h2, _⟩ := b.lst w.w
    exact ⟨_, _, rfl, .inl (.of h1), fun n hn => fin_new w .refl hn h2 hp q⟩
  | [.tuple xs], bs, hp =>
    obtain ⟨v, rfl, b⟩ := bs.one
    obtain ⟨p, us, rfl, h1, h2⟩ := b.tup
    exact ⟨_, _, rfl, .inr (sqT_mono w.w.sub h1), fun n hn => fin_new w .refl hn h2 hp q⟩⟩
end
end Pu

namespace Pu
open PySem PySem.Spec PyProof.Rows L2
/-! ### statements -/
inductive Out where
  | nx (ρ : List Sl)
  | rt (d : D)
  | bk (ρ : List Sl)
  | ct (ρ : List Sl)
def EndsOk (K : PySem.W.Frag) (c : Ct) (G : Hp) (D : Ends) : Out → Prop
  | .nx ρ => ∀ σ G' H', Le G G' → Wd c G' H' → RS K c G' H' σ ρ → D.nx σ H'
  | .rt d => ∀ v G' H', Le G G' → Wd c G' H' → Dq K G' v d → D.rt v H'
  | .bk ρ => ∀ σ G' H', Le G G' → Wd c G' H' → RS K c G' H' σ ρ → D.bk σ H'
  | .ct ρ => ∀ σ G' H', Le G G' → Wd c G' H' → RS K c G' H' σ ρ → D.ct σ H'
theorem EndsOk.le {K : PySem.W.Frag} {c : Ct} {G G1 : Hp} {D : Ends} (h : Le G G1) : ∀ {o : Out}, EndsOk K c G D o → EndsOk K c G1 D o
  | .nx _, k => fun σ G' H' l => k σ G' H' fun a o e => l a o (h a o e)
  | .rt _, k => fun σ G' H' l => k σ G' H' fun a o e => l a o (h a o e)
  | .bk _, k => fun σ G' H' l => k σ G' H' fun a o e => l a o (h a o e)
  | .ct _, k => fun σ G' H' l => k σ G' H' fun a o e => l a o (h a o e)
def tS (K : PySem.W.Frag) (g : List Sl → R Out) : TS := fun D σ H => ∃ (c : Ct) (G : Hp) (ρ : List Sl) (post : Out → Prop), Wd c G H ∧ RS K c G H σ ρ ∧ g ρ post ∧ ∀ o, post o → EndsOk K c G D o
def nxt (k : List Sl → R Out) : Out → R Out
  | .nx ρ => k ρ
  | o => ok o
@[simp] theorem nxt_nx (k : List Sl → R Out) (ρ : List Sl) : nxt k (.nx ρ) = k ρ := (rfl)
@[simp] theorem nxt_rt (k : List Sl → R Out) (d : D) : nxt k (.rt d) = ok (.rt d) := (rfl)
@[simp] theorem nxt_bk (k : List Sl → R Out) (ρ : List Sl) : nxt k (.bk ρ) = ok (.bk ρ) := (rfl)
@[simp] theorem nxt_ct (k : List Sl → R Out) (ρ : List Sl) : nxt k (.ct ρ) = ok (.ct ρ) := (rfl)
def seqM (g h : List Sl → R Out) : List Sl → R Out := fun ρ => bd (g ρ) (nxt h)
def nilM : List Sl → R Out := fun ρ => ok (.nx ρ)
section
variable {X : Cx} {e a b : Expr} {es : List Expr} {pos : Pos} {st : Stmt} {rest sts : List Stmt}
theorem PS.wk {t t' : TS} (h : PS X st t) (w : ∀ D σ H, t' D σ H → t D σ H) : PS X st t' := ⟨fun pins s σ H D I q => h.run pins s σ H D I (w D σ H q)⟩
theorem PSs.wk {t t' : TS} (h : PSs X sts t) (w : ∀ D σ H, t' D σ H → t D σ H) : PSs X sts t' := ⟨fun pins s σ H D I q => h.run pins s σ H D I (w D σ H q)⟩
theorem sNil : PSs X [] (tS X.K nilM) := PSs.wk pss_nil fun D σ H ⟨c, G, ρ, post, w, r, hg, q⟩ => q _ hg σ G H (fun _ _ e => e) w r
theorem sCons {g h : List Sl → R Out} (h1 : PS X st (tS X.K g)) (h2 : PSs X rest (tS X.K h)) : PSs X (st :: rest) (tS X.K (seqM g h)) := PSs.wk (pss_cons h1 h2) fun D σ H ⟨c, G, ρ, post, w, r, hg, q⟩ =>
  ⟨c, G, ρ, _, w, r, hg, fun o ho => by
    cases o with
    | nx ρ' => exact fun σ' G' H' l w' r' => ⟨c, G', ρ', post, w', r', ho, fun o ho => (q o ho).le l⟩
    | rt d => exact q _ ho
    | bk ρ' => exact q _ ho
    | ct ρ' => exact q _ ho⟩
theorem sOne {g : List Sl → R Out} (h1 : PS X st (tS X.K g)) : PSs X [st] (tS X.K g) := pss_one h1
def retM (f : List Sl → R D) : List Sl → R Out := fun ρ => bd (f ρ) fun d => ok (.rt d)
theorem sRet {f : List Sl → R D} (h : PE X e (tB X.K f)) : PS X (.Return (some e) pos) (tS X.K (retM f)) := PS.wk (ps_ret h) fun D σ H ⟨c, G, ρ, post, w, r, hg, q⟩ =>
  ⟨c, G, ρ, _, w, r, hg, fun d hd v G' H' e' w' b => by
    rcases b with b | ⟨a, ds, rfl, rfl, o⟩
    · exact q _ hd v G' H' e'.g (w.step w' e') b
    · obtain ⟨G2, w2, l2, d2, _⟩ := (w.step w' e').freeze o
      exact q _ hd _ G2 H' (fun a o e => l2 a o (e'.g a o e)) w2 d2⟩
theorem sRetN : PS X (.Return none pos) (tS X.K fun _ => ok (.rt .none)) := PS.wk ps_retN fun D σ H ⟨c, G, ρ, post, w, r, hg, q⟩ => q _ hg .non G H (fun _ _ e => e) w .non
theorem sPass : PS X (.Pass pos) (tS X.K nilM) := PS.wk ps_pass fun D σ H ⟨c, G, ρ, post, w, r, hg, q⟩ => q _ hg σ G H (fun _ _ e => e) w r
theorem sBrk : PS X (.Break pos) (tS X.K fun ρ => ok (.bk ρ)) := PS.wk ps_break fun D σ H ⟨c, G, ρ, post, w, r, hg, q⟩ => q _ hg σ G H (fun _ _ e => e) w r
theorem sCnt : PS X (.Continue pos) (tS X.K fun ρ => ok (.ct ρ)) := PS.wk ps_continue fun D σ H ⟨c, G, ρ, post, w, r, hg, q⟩ => q _ hg σ G H (fun _ _ e => e) w r
theorem sIf {t : List Sl → R Bool} {g h : List Sl → R Out} {cnd : Expr} {sa sb : List Stmt} (hc : PT X cnd (tT X.K t)) (ha : PSs X sa (tS X.K g)) (hb : PSs X sb (tS X.K h)) : PS X (.If cnd sa sb pos) (tS X.K (ifV t g h)) :=
  PS.wk (ps_if hc ha hb) fun D σ H ⟨c, G, ρ, post, w, r, hg, q⟩ => ⟨c, G, ρ, _, w, r, hg, fun k hk G' H' e' w' => by
    cases k with
    | true => exact ⟨c, G', ρ, post, w.step w' e', r.ext e', hk, fun o ho => (q o ho).le e'.g⟩
    | false => exact ⟨c, G', ρ, post, w.step w' e', r.ext e', hk, fun o ho => (q o ho).le e'.g⟩⟩
/-! ### targets -/
/-- but for the slots at is, nothing is touched -/
def Tch (js : List Nat) (σ σ' : L2.St) : Prop := σ'.length = σ.length ∧ ∀ j, j ∉ js → σ'[j]? = σ[j]?
theorem Tch.refl {js : List Nat} {σ : L2.St} : Tch js σ σ := ⟨rfl, fun _ _ => rfl⟩
def tG (K : PySem.W.Frag) (js : List Nat) (g : D → List Sl → R (List Sl)) : TG := fun v σ H Q => ∃ (c : Ct) (G : Hp) (ρ : List Sl) (d : D) (post : List Sl → Prop), Wd c G H ∧ RS K c G H σ ρ ∧ Dq K G v d ∧ g d ρ post ∧ ∀ ρ', post ρ' → ∀ σ', RS K c G H σ' ρ' → Tch js σ σ' → Q σ' H
def tGs (K : PySem.W.Frag) (js : List Nat) (g : List D → List Sl → R (List Sl)) : TGs := fun vs σ H Q => ∃ (c : Ct) (G : Hp) (ρ : List Sl) (ds : List D) (post : List Sl → Prop), Wd c G H ∧ RS K c G H σ ρ ∧ DqAll K G vs ds ∧ g ds ρ post ∧ ∀ ρ', post ρ' → ∀ σ', RS K c G H σ' ρ' → Tch js σ σ' → Q σ' H
theorem PG.wk {tg : Expr} {t t' : TG} (h : PG X tg t) (w : ∀ v σ H Q, t' v σ H Q → t v σ H Q) : PG X tg t' := ⟨fun pins s σ H v u Q I r q => h.run pins s σ H v u Q I r (w v σ H Q q)⟩
theorem PGs.wk {tg : List Expr} {t t' : TGs} (h : PGs X tg t) (w : ∀ v σ H Q, t' v σ H Q → t v σ H Q) : PGs X tg t' := ⟨fun pins s σ H v u Q I r q => h.run pins s σ H v u Q I r (w v σ H Q q)⟩
def gSet (i : Nat) : D → List Sl → R (List Sl) := fun d ρ => ok (ρ.set i (.dat d))
theorem gN (i : Nat) {x : Str} (hN : X.N.Nodup) (hi : X.N[i]? = some x := by rfl) (hx : Loc X.env.scope x := by first | exact Or.inl rfl | exact Or.inr rfl) (hf : X.fn x = true ∨ X.env.scope.names.lookup x = some .local := by first | exact .inl rfl | exact .inr rfl) : PG X (.Name x pos) (tG X.K [i] (gSet i)) :=
  PG.wk (pg_name hN hi hx hf) fun v σ H Q ⟨c, G, ρ, d, post, w, r, k, hg, q⟩ => q _ hg _ (r.setD k) ⟨by simp, fun j hj => by rw [List.getElem?_set_ne (fun z => hj (by simp [z]))]⟩
def gNilR : List D → List Sl → R (List Sl)
  | [], ρ => ok ρ
  | _, _ => fail
def gConsR (g : D → List Sl → R (List Sl)) (h : List D → List Sl → R (List Sl)) : List D → List Sl → R (List Sl)
  | d :: ds, ρ => bd (g d ρ) (h ds)
  | _, _ => fail
theorem gsN : PGs X [] (tGs X.K [] gNilR) := PGs.wk pgs_nil fun v σ H Q ⟨c, G, ρ, ds, post, w, r, k, hg, q⟩ => by
  cases k with
  | nil => exact ⟨rfl, q _ hg σ r .refl⟩
  | cons => exact hg.elim
theorem gsC {is js : List Nat} {g : D → List Sl → R (List Sl)} {h : List D → List Sl → R (List Sl)} (h1 : PG X e (tG X.K is g)) (h2 : PGs X es (tGs X.K js h)) (hs : (assignEach (e :: es) X.env).map (·.2) = assign e X.env :: (assignEach es X.env).map (·.2) := by rfl) : PGs X (e :: es) (tGs X.K (is ++ js) (gConsR g h)) :=
  PGs.wk (pgs_cons h1 h2 hs) fun v σ H Q ⟨c, G, ρ, ds, post, w, r, k, hg, q⟩ => by
    cases k with
    | nil => exact hg.elim
    | cons k1 k2 => exact ⟨_, _, rfl, c, G, ρ, _, _, w, r, k1, hg, fun ρ' hρ σ' r' t1 => ⟨c, G, ρ', _, post, w, r', k2, hρ, fun ρ2 h2 σ2 r2 t2 => q ρ2 h2 σ2 r2 ⟨t2.1.trans t1.1, fun j hj => (t2.2 j fun z => hj (List.mem_append_right _ z)).trans (t1.2 j fun z => hj (List.mem_append_left _ z))⟩⟩⟩
def gTupR (n : Nat) (g : List D → List Sl → R (List Sl)) : D → List Sl → R (List Sl)
  | .tuple ds, ρ => bd (req (ds.length = n)) fun _ => g ds ρ
  | _, _ => fail
theorem gT {k n : Nat} {js : List Nat} {g : List D → List Sl → R (List Sl)} (h : PGs X es (tGs X.K js g)) (hc : X.calm = true := by rfl) (hn : (assignEach es X.env).length = n := by rfl) (hst : (assignEach es X.env).findIdx? (·.1) = none := by rfl) : PG X (.Tuple es k pos) (tG X.K js (gTupR n g)) :=
  PG.wk (pg_tup hc h hn hst) fun v σ H Q ⟨c, G, ρ, d, post, w, r, k, hg, q⟩ => by
    cases k with
    | tup e1 e2 => exact ⟨_, _, rfl, sqT_mono w.w.sub e1, by rw [e2.length]; exact hg.1, c, G, ρ, _, post, w, r, e2, hg.2, q⟩
    | _ => exact hg.elim
/-! ### assignments -/
def asgM (f : List Sl → R D) (g : D → List Sl → R (List Sl)) : List Sl → R Out := fun ρ => bd (f ρ) fun d => bd (g d ρ) fun ρ' => ok (.nx ρ')
theorem sAsg {tg : Expr} {f : List Sl → R D} {js : List Nat} {g : D → List Sl → R (List Sl)} (he : PE X e (tP X.K f)) (hg : PG X tg (tG X.K js g)) (hs : swapsWithSole [tg] e pos.line X.env = pure false := by rfl) (hw : swappedStores [tg] e X.env = pure none := by rfl)
    (h1 : (assignEach [tg] X.env).map (·.2) = [assign tg X.env] := by rfl) : PS X (.Assign [tg] e pos) (tS X.K (asgM f g)) :=
  PS.wk (ps_asg he hg hs hw h1) fun D σ H ⟨c, G, ρ, post, w, r, hg, q⟩ => ⟨c, G, ρ, _, w, r, hg, fun d hd v G' H' e' w' k =>
    ⟨c, G', ρ, d, _, w.step w' e', r.ext e', k, hd, fun ρ' hρ σ' r' _ => q _ hρ σ' G' H' e'.g (w.step w' e') r'⟩⟩
def setM (i : Nat) (f : List Sl → R D) : List Sl → R Out := fun ρ => bd (f ρ) fun d => ok (.nx (ρ.set i (.dat d)))
theorem sSet (i : Nat) {x : Str} {pos' : Pos} {f : List Sl → R D} (hN : X.N.Nodup) (he : PE X e (tP X.K f)) (hi : X.N[i]? = some x := by rfl) (hx : Loc X.env.scope x := by first | exact Or.inl rfl | exact Or.inr rfl) (hs : swapsWith e (some (.Name x pos')) pos.line X.env = pure false := by rfl)
    (hf : X.fn x = true ∨ X.env.scope.names.lookup x = some .local := by first | exact .inl rfl | exact .inr rfl) : PS X (.Assign [.Name x pos'] e pos) (tS X.K (setM i f)) :=
  PS.wk (ps_set hN hi hx he hs hf) fun D σ H ⟨c, G, ρ, post, w, r, hg, q⟩ => ⟨c, G, ρ, _, w, r, hg, fun d hd v G' H' e' w' k => q _ hd _ G' H' e'.g (w.step w' e') ((r.ext e').setD k)⟩
def setO (i : Nat) (f : List Sl → R (List D)) : List Sl → R Out := fun ρ => bd (f ρ) fun ds => ok (.nx (ρ.set i (.own ds)))
/-- what is said of a new address: no slot holds it -/
theorem RS.new {K : PySem.W.Frag} {c : Ct} {G H : Hp} {σ : L2.St} {ρ : List Sl} (r : RS K c G H σ ρ) {a : Addr} (n : H a = none) (j : Nat) (es : List D) (hj : ρ[j]? = some (.own es)) : σ[j]? ≠ some (some (.ref a)) := by
  intro z
  rcases r.at_ j _ hj with q | ⟨v, e1, b, rfl, o⟩
  · cases q
  · rw [z] at e1; cases e1
    obtain ⟨vs, h, _⟩ := o.at_
    rw [n] at h; cases h
theorem sSetO (i : Nat) {x : Str} {pos' : Pos} {f : List Sl → R (List D)} (hN : X.N.Nodup) (he : PE X e (tF X.K f)) (hi : X.N[i]? = some x := by rfl) (hx : Loc X.env.scope x := by first | exact Or.inl rfl | exact Or.inr rfl) (hs : swapsWith e (some (.Name x pos')) pos.line X.env = pure false := by rfl)
    (hf : X.fn x = true ∨ X.env.scope.names.lookup x = some .local := by first | exact .inl rfl | exact .inr rfl) : PS X (.Assign [.Name x pos'] e pos) (tS X.K (setO i f)) :=
  PS.wk (ps_set hN hi hx he hs hf) fun D σ H ⟨c, G, ρ, post, w, r, hg, q⟩ => ⟨c, G, ρ, _, w, r, hg, fun d hd a G' H' n e' w' o => q _ hd _ G' H' e'.g (w.step w' e') ((r.ext e').setO o (r.new n))⟩
/-- the own list in a slot -/
def getO (ρ : List Sl) (i : Nat) : R (List D) := match ρ[i]? with
  | some (.own ds) => ok ds
  | _ => fail
theorem getO_inv {ρ : List Sl} {i : Nat} {post : List D → Prop} (h : getO ρ i post) : ∃ ds, ρ[i]? = some (.own ds) ∧ post ds := by
  unfold getO at h
  cases e : ρ[i]? with
  | none => rw [e] at h; exact h.elim
  | some x =>
    rw [e] at h
    cases x with
    | own ds => exact ⟨ds, rfl, h⟩
    | _ => exact h.elim
/-- .. is frozen (where it is from then on only read) -/
def frzM (i : Nat) (g : List Sl → R Out) : List Sl → R Out := fun ρ => bd (getO ρ i) fun ds => g (ρ.set i (.dat (.list ds)))
theorem sFrz (i : Nat) {g : List Sl → R Out} (h : PS X st (tS X.K g)) : PS X st (tS X.K (frzM i g)) := PS.wk h fun D σ H ⟨c, G, ρ, post, w, r, hg, q⟩ => by
  obtain ⟨ds, e, hg⟩ := getO_inv hg
  rcases r.at_ i _ e with z | ⟨v, e1, a, rfl, o⟩
  · cases z
  · obtain ⟨G', w', l, d, ne⟩ := w.freeze o
    exact ⟨c, G', _, post, w', r.freeze e e1 l d ne, hg, fun o ho => (q o ho).le l⟩
/-- a change of the own list in slot i by a method with arguments, as a statement -/
def mutM (i : Nat) (f : List Sl → R (List D)) (h : List D → List D → R (List D)) : List Sl → R Out := fun ρ => bd (getO ρ i) fun _ => bd (f ρ) fun args => bd (getO ρ i) fun ds => bd (h ds args) fun es => ok (.nx (ρ.set i (.own es)))
def Mut1 (K : PySem.W.Frag) (r : V → List V → Hp → VK → Prop) (h : List D → List D → R (List D)) : Prop := ∀ (c : Ct) (G H : Hp) (a : Addr) (ds : List D) (vs xs : List V) (args : List D) (post : List D → Prop) (Q : VK), W0 c.E G H → H a = some (.lst vs) → DqAll K G vs ds → DqAll K G xs args → h ds args post →
  (∀ es, post es → ∀ u ws, DqAll K G ws es → Q u (upd H a (.lst ws))) → r (.ref a) xs H Q
def appR : List D → List D → R (List D)
  | ds, [d] => bd (req (ds.length < sizeLine)) fun _ => ok (ds ++ [d])
  | _, _ => fail
theorem mut_app {K : PySem.W.Frag} : Mut1 K rAppend appR := by
  intro c G H a ds vs xs args post Q w h k ka hp q
  match args, ka, hp with
  | [d], .cons k1 .nil, hp => exact ⟨a, vs, _, rfl, rfl, h, by rw [k.length]; exact hp.1, q _ hp.2 _ _ (k.append (.cons k1 .nil))⟩
/-- x.append(d) and its like: the arguments are frozen data -/
theorem sMut {r0 : V → List V → Hp → VK → Prop} {h : List D → List D → R (List D)} {i : Nat} {f : List Sl → R (List D)} (k : Mut1 X.K r0 h) (hc : PE X e (tBM X.K "list" r0 (tVar i) (tAF X.K f))) (hs : swapsWith e none pos.line X.env = pure false := by rfl) :
    PS X (.Expr e pos) (tS X.K (mutM i f h)) := PS.wk (ps_expr hc hs) fun D σ H ⟨c, G, ρ, post, w, r, hg, q⟩ => by
  obtain ⟨ds, e0, hg⟩ := getO_inv hg
  rcases r.at_ i _ e0 with z | ⟨v, e1, a, rfl, o⟩
  · cases z
  · obtain ⟨vs0, h0, _⟩ := o.at_
    refine ⟨_, e1, .inl ⟨rfl, _, .of h0⟩, c, G, ρ, _, w, r, hg, fun args hargs xs G' H' e' w' ka => ?_⟩
    obtain ⟨ds', e0', hargs⟩ := getO_inv hargs
    rw [e0] at e0'; cases e0'
    have o' := o.ext e'
    obtain ⟨vs, hv, kv⟩ := o'.at_
    refine k c G' H' a ds vs xs args _ _ w' hv kv ka hargs fun es hes u ws kw => ?_
    exact q _ hes _ G' _ e'.g (Wd.mut (w.step w' e') o' kw).1 ((r.ext e').mut e0 e1 o' kw)
/-- .. the argument is looked at (extend) -/
def MutB (K : PySem.W.Frag) (r : V → List V → Hp → VK → Prop) (h : List D → List D → R (List D)) : Prop := ∀ (c : Ct) (G H : Hp) (a : Addr) (ds : List D) (vs xs : List V) (args : List D) (post : List D → Prop) (Q : VK), W0 c.E G H → H a = some (.lst vs) → DqAll K G vs ds → BvAll K c G H xs args → h ds args post →
  (∀ es, post es → ∀ u ws, DqAll K G ws es → Q u (upd H a (.lst ws))) → r (.ref a) xs H Q
theorem sMutB {r0 : V → List V → Hp → VK → Prop} {h : List D → List D → R (List D)} {i : Nat} {f : List Sl → R (List D)} (k : MutB X.K r0 h) (hc : PE X e (tBM X.K "list" r0 (tVar i) (tAB X.K f))) (hs : swapsWith e none pos.line X.env = pure false := by rfl) :
    PS X (.Expr e pos) (tS X.K (mutM i f h)) := PS.wk (ps_expr hc hs) fun D σ H ⟨c, G, ρ, post, w, r, hg, q⟩ => by
  obtain ⟨ds, e0, hg⟩ := getO_inv hg
  rcases r.at_ i _ e0 with z | ⟨v, e1, a, rfl, o⟩
  · cases z
  · obtain ⟨vs0, h0, _⟩ := o.at_
    refine ⟨_, e1, .inl ⟨rfl, _, .of h0⟩, c, G, ρ, _, w, r, hg, fun args hargs xs G' H' e' w' ka => ?_⟩
    obtain ⟨ds', e0', hargs⟩ := getO_inv hargs
    rw [e0] at e0'; cases e0'
    have o' := o.ext e'
    obtain ⟨vs, hv, kv⟩ := o'.at_
    refine k c G' H' a ds vs xs args _ _ w' hv kv ka hargs fun es hes u ws kw => ?_
    exact q _ hes _ G' _ e'.g (Wd.mut (w.step w' e') o' kw).1 ((r.ext e').mut e0 e1 o' kw)
def extR : List D → List D → R (List D)
  | ds, [.list es] => bd (req (ds.length + es.length ≤ sizeLine)) fun _ => ok (ds ++ es)
  | _, _ => fail
theorem mut_ext {K : PySem.W.Frag} : MutB K rExtend extR := by
  intro c G H a ds vs xs args post Q w h k ka hp q
  match args, ka, hp with
  | [.list es], ka, hp =>
    obtain ⟨v, rfl, b⟩ := ka.one
    obtain ⟨p, us, rfl, h1, h2, _⟩ := b.lst w
    exact ⟨a, p, vs, us, rfl, rfl, h, h1, by rw [k.length, h2.length]; exact hp.1, q _ hp.2 _ _ (k.append h2)⟩
/-- tg = x.pop(..): what is taken out, what is left -/
def popM (i : Nat) (f : List Sl → R (List D)) (h : List D → List D → R (D × List D)) (g : D → List Sl → R (List Sl)) : List Sl → R Out := fun ρ => bd (getO ρ i) fun _ => bd (f ρ) fun args => bd (getO ρ i) fun ds => bd (h ds args) fun p => bd (g p.1 (ρ.set i (.own p.2))) fun ρ' => ok (.nx ρ')
def Pop1 (K : PySem.W.Frag) (r : V → List V → Hp → VK → Prop) (h : List D → List D → R (D × List D)) : Prop := ∀ (c : Ct) (G H : Hp) (a : Addr) (ds : List D) (vs xs : List V) (args : List D) (post : D × List D → Prop) (Q : VK), W0 c.E G H → H a = some (.lst vs) → DqAll K G vs ds → DqAll K G xs args → h ds args post →
  (∀ p, post p → ∀ u ws, Dq K G u p.1 → DqAll K G ws p.2 → Q u (upd H a (.lst ws))) → r (.ref a) xs H Q
theorem sPop {tg : Expr} {r0 : V → List V → Hp → VK → Prop} {h : List D → List D → R (D × List D)} {i : Nat} {f : List Sl → R (List D)} {js : List Nat} {g : D → List Sl → R (List Sl)} (k : Pop1 X.K r0 h) (hc : PE X e (tBM X.K "list" r0 (tVar i) (tAF X.K f))) (hg : PG X tg (tG X.K js g))
    (hs : swapsWithSole [tg] e pos.line X.env = pure false := by rfl) (hw : swappedStores [tg] e X.env = pure none := by rfl) (h1 : (assignEach [tg] X.env).map (·.2) = [assign tg X.env] := by rfl) :
    PS X (.Assign [tg] e pos) (tS X.K (popM i f h g)) := PS.wk (ps_asg hc hg hs hw h1) fun D σ H ⟨c, G, ρ, post, w, r, hg, q⟩ => by
  obtain ⟨ds, e0, hg⟩ := getO_inv hg
  rcases r.at_ i _ e0 with z | ⟨v, e1, a, rfl, o⟩
  · cases z
  · obtain ⟨vs0, h0, _⟩ := o.at_
    refine ⟨_, e1, .inl ⟨rfl, _, .of h0⟩, c, G, ρ, _, w, r, hg, fun args hargs xs G' H' e' w' ka => ?_⟩
    obtain ⟨ds', e0', hargs⟩ := getO_inv hargs
    rw [e0] at e0'; cases e0'
    have o' := o.ext e'
    obtain ⟨vs, hv, kv⟩ := o'.at_
    refine k c G' H' a ds vs xs args _ _ w' hv kv ka hargs fun p hp u ws ku kw => ?_
    obtain ⟨w2, _⟩ := Wd.mut (w.step w' e') o' kw
    exact ⟨c, G', _, _, _, w2, (r.ext e').mut e0 e1 o' kw, ku, hp, fun ρ' hρ σ' r' _ => q _ hρ σ' G' _ e'.g w2 r'⟩
theorem sPop0 {tg : Expr} {r0 : V → List V → Hp → VK → Prop} {h : List D → List D → R (D × List D)} {i : Nat} {js : List Nat} {g : D → List Sl → R (List Sl)} (k : Pop1 X.K r0 h) (hc : PE X e (tBM0 X.K "list" r0 (tVar i))) (hg : PG X tg (tG X.K js g))
    (hs : swapsWithSole [tg] e pos.line X.env = pure false := by rfl) (hw : swappedStores [tg] e X.env = pure none := by rfl) (h1 : (assignEach [tg] X.env).map (·.2) = [assign tg X.env] := by rfl) :
    PS X (.Assign [tg] e pos) (tS X.K (popM i nilR h g)) := PS.wk (ps_asg hc hg hs hw h1) fun D σ H ⟨c, G, ρ, post, w, r, hg, q⟩ => by
  obtain ⟨ds, e0, hg⟩ := getO_inv hg
  rcases r.at_ i _ e0 with z | ⟨v, e1, a, rfl, o⟩
  · cases z
  · obtain ⟨vs, hv, kv⟩ := o.at_
    obtain ⟨ds', e0', hargs⟩ := getO_inv hg
    rw [e0] at e0'; cases e0'
    refine ⟨_, e1, .inl ⟨rfl, _, .of hv⟩, ?_⟩
    refine k c G H a ds vs [] [] _ _ w.w hv kv .nil hargs fun p hp u ws ku kw => ?_
    obtain ⟨w2, _⟩ := Wd.mut w o kw
    exact ⟨c, G, _, _, _, w2, r.mut e0 e1 o kw, ku, hp, fun ρ' hρ σ' r' _ => q _ hρ σ' G _ (fun _ _ e => e) w2 r'⟩
/-- x.pop() as a statement -/
theorem sPopE {r0 : V → List V → Hp → VK → Prop} {h : List D → List D → R (D × List D)} {i : Nat} (k : Pop1 X.K r0 h) (hc : PE X e (tBM0 X.K "list" r0 (tVar i))) (hs : swapsWith e none pos.line X.env = pure false := by rfl) :
    PS X (.Expr e pos) (tS X.K (popM i nilR h fun _ ρ => ok ρ)) := PS.wk (ps_expr hc hs) fun D σ H ⟨c, G, ρ, post, w, r, hg, q⟩ => by
  obtain ⟨ds, e0, hg⟩ := getO_inv hg
  rcases r.at_ i _ e0 with z | ⟨v, e1, a, rfl, o⟩
  · cases z
  · obtain ⟨vs, hv, kv⟩ := o.at_
    obtain ⟨ds', e0', hargs⟩ := getO_inv hg
    rw [e0] at e0'; cases e0'
    refine ⟨_, e1, .inl ⟨rfl, _, .of hv⟩, ?_⟩
    refine k c G H a ds vs [] [] _ _ w.w hv kv .nil hargs fun p hp u ws ku kw => ?_
    obtain ⟨w2, _⟩ := Wd.mut w o kw
    exact q _ hp _ G _ (fun _ _ e => e) w2 (r.mut e0 e1 o kw)
def popR : List D → List D → R (D × List D)
  | ds, [] => (match ds.getLast? with | some d => ok (d, ds.dropLast) | none => fail)
  | _, _ => fail
def popAtR : List D → List D → R (D × List D)
  | ds, [.int i] => (match L2.ixN ds.length i with | some k => (match ds[k]? with | some d => bd (req (-(2 ^ 63) ≤ i ∧ i < 2 ^ 63)) fun _ => ok (d, ds.eraseIdx k) | none => fail) | none => fail)
  | _, _ => fail
theorem DqAll.dropLast {K : PySem.W.Frag} {G : Hp} {vs : List V} {ds : List D} (h : DqAll K G vs ds) : DqAll K G vs.dropLast ds.dropLast := by
  rw [List.dropLast_eq_take, List.dropLast_eq_take, h.length]
  exact h.take _
theorem DqAll.eraseIdx {K : PySem.W.Frag} {G : Hp} : ∀ {vs : List V} {ds : List D} (i : Nat), DqAll K G vs ds → DqAll K G (vs.eraseIdx i) (ds.eraseIdx i)
  | _, _, _, .nil => .nil
  | _, _, 0, .cons _ t => t
  | _, _, i + 1, .cons q t => .cons q (DqAll.eraseIdx i t)
theorem pop_last {K : PySem.W.Frag} : Pop1 K rPop popR := by
  intro c G H a ds vs xs args post Q w h k ka hp q
  match args, ka, hp with
  | [], .nil, hp =>
    simp only [popR] at hp
    cases e : ds.getLast? with
    | none => rw [e] at hp; exact hp.elim
    | some d =>
      rw [e] at hp
      rw [List.getLast?_eq_getElem?] at e
      obtain ⟨v, h1, h2⟩ := k.get e
      rw [← k.length] at h1
      exact ⟨a, vs, v, rfl, rfl, h, h1, q _ hp _ _ h2 k.dropLast⟩
theorem pop_at {K : PySem.W.Frag} : Pop1 K rPopAt popAtR := by
  intro c G H a ds vs xs args post Q w h k ka hp q
  match args, ka, hp with
  | [.int i], .cons (.int _) .nil, hp =>
    simp only [popAtR] at hp
    cases e : L2.ixN ds.length i with
    | none => rw [e] at hp; exact hp.elim
    | some j =>
      rw [e] at hp
      simp only at hp
      cases e2 : ds[j]? with
      | none => rw [e2] at hp; exact hp.elim
      | some d =>
        rw [e2] at hp
        obtain ⟨v, h1, h2⟩ := k.get e2
        exact ⟨a, vs, i, j, v, rfl, rfl, h, hp.1.1, hp.1.2, by rw [k.length]; exact (ixN_seq e).1, h1, q _ hp.2 _ _ h2 (k.eraseIdx j)⟩
/-! ### x[i] = v, x op= v -/
def setIxM (i : Nat) (f g : List Sl → R D) (h : List D → D → D → R (List D)) : List Sl → R Out := fun ρ => bd (f ρ) fun v => bd (getO ρ i) fun _ => bd (g ρ) fun k => bd (getO ρ i) fun ds => bd (h ds k v) fun es => ok (.nx (ρ.set i (.own es)))
def setR : List D → D → D → R (List D)
  | ds, .int k, v => (match L2.ixN ds.length k with | some j => ok (ds.set j v) | none => fail)
  | _, _, _ => fail
theorem sSetIx {i : Nat} {x : Str} {f g : List Sl → R D} {npos spos : Pos} {ix : Expr} (he : PE X e (tP X.K f)) (hv : PE X (.Name x npos) (tVar i)) (hi : PE X ix (tB X.K g))
    (ha : ∀ v, assign (.Subscript (.Name x npos) ix spos) X.env v = (do
      let ov ← holding [v] (eval (.Name x npos) X.env)
      let iv ← holding [v, ov] (eval ix X.env)
      standAt spos
      holding [v, ov, iv] (setItem ov iv v)
      release [v, ov, iv] []) := by intro _; rfl)
    (hs : swapsWithSole [.Subscript (.Name x npos) ix spos] e pos.line X.env = pure false := by rfl) (hw : swappedStores [.Subscript (.Name x npos) ix spos] e X.env = pure none := by rfl)
    (h1 : (assignEach [.Subscript (.Name x npos) ix spos] X.env).map (·.2) = [assign (.Subscript (.Name x npos) ix spos) X.env] := by rfl) :
    PS X (.Assign [.Subscript (.Name x npos) ix spos] e pos) (tS X.K (setIxM i f g setR)) :=
  PS.wk (ps_asg he (pg_sub hv hi set_list ha) hs hw h1) fun D σ H ⟨c, G, ρ, post, w, r, hg, q⟩ => ⟨c, G, ρ, _, w, r, hg, fun d hd v G1 H1 e1 w1 k1 => by
    obtain ⟨ds, e0, hd⟩ := getO_inv hd
    rcases r.at_ i _ e0 with z | ⟨u, es, a, rfl, o⟩
    · cases z
    · refine ⟨_, es, c, G1, ρ, _, w.step w1 e1, r.ext e1, hd, fun k hk kv G2 H2 e2 w2 k2 => ?_⟩
      obtain ⟨ds', e0', hk⟩ := getO_inv hk
      rw [e0] at e0'; cases e0'
      have e12 := e1.trans e2
      have o' := o.ext e12
      obtain ⟨vs, hv, kv⟩ := o'.at_
      cases k with
      | int ki =>
        simp only [setR] at hk
        cases ej : L2.ixN ds.length ki with
        | none => rw [ej] at hk; exact hk.elim
        | some j =>
          rw [ej] at hk
          have kw : DqAll X.K G2 (vs.set j v) (ds.set j d) := DqAll.set (k1.mono e2.g) j kv
          exact ⟨a, vs, ki, j, rfl, k2.int, hv, by rw [kv.length]; exact ej, q _ hk σ G2 _ e12.g (Wd.mut (w.step w2 e12) o' kw).1 ((r.ext e12).mut e0 es o' kw)⟩
      | _ => exact hk.elim⟩
def augM (i : Nat) (f : List Sl → R D) (h : D → D → R D) : List Sl → R Out := fun ρ => bd (getD ρ i) fun d => bd (f ρ) fun e => bd (h d e) fun z => ok (.nx (ρ.set i (.dat z)))
theorem sAug (i : Nat) {x : Str} {op : Operator} {pos' : Pos} {f : List Sl → R D} {r0 : R2} {h : D → D → R D} (ho : OpR X (inplaceOp op) r0) (hb : Bop X.K r0 h) (hN : X.N.Nodup) (he : PE X e (tB X.K f)) (hi : X.N[i]? = some x := by rfl) (hx : Loc X.env.scope x := by first | exact Or.inl rfl | exact Or.inr rfl)
    (hf : X.fn x = true ∨ X.env.scope.names.lookup x = some .local := by first | exact .inl rfl | exact .inr rfl) : PS X (.AugAssign (.Name x pos') op e pos) (tS X.K (augM i f h)) :=
  PS.wk (ps_aug hN hi hx he (fun pins s σ H x y v u Q I rx ry q => ho pins s σ H x y v u Q I rx ry q) hf) fun D σ H ⟨c, G, ρ, post, w, r, hg, q⟩ => by
    obtain ⟨d, e0, hg⟩ := getD_inv hg
    rcases r.at_ i _ e0 with z | ⟨u, es, k⟩
    · cases z
    · refine ⟨u, es, c, G, ρ, _, w, r, hg, fun y hy v G1 H1 e1 w1 b1 => ?_⟩
      refine hb c G1 H1 u v d y _ _ w1 (.inl (k.mono e1.g)) b1 hy fun z hz z' G2 H2 e2 w2 k2 => ?_
      have e12 := e1.trans e2
      exact q _ hz _ G2 H2 e12.g (w.step w2 e12) ((r.ext e12).setD k2)
theorem bop_mulI : Bop X.K (rI CMul fun i j => .int (i * j)) (fun d e => match d, e with | .int i, .int j => bd (req (CMul i j)) fun _ => ok (.int (i * j)) | _, _ => fail) := by
  intro c G H x y d e post Q w b1 b2 hp q
  cases d <;> cases e <;> try exact hp.elim
  exact ⟨_, _, b1.int, b2.int, hp.1, q _ hp.2 _ G H .refl w (.int _)⟩
def addIR : D → D → R D
  | .int i, .int j => ok (.int (i + j))
  | _, _ => fail
theorem bop_addI : Bop X.K (rI0 fun i j => .int (i + j)) addIR := by
  intro c G H x y d e post Q w b1 b2 hp q
  cases d <;> cases e <;> try exact hp.elim
  exact ⟨_, _, b1.int, b2.int, q _ hp _ G H .refl w (.int _)⟩
/-! ### while -/
def lpO (k : List Sl → R Out) : Out → R Out
  | .nx ρ => k ρ
  | .ct ρ => k ρ
  | .bk ρ => ok (.nx ρ)
  | .rt d => ok (.rt d)
@[simp] theorem lpO_nx (k : List Sl → R Out) (ρ : List Sl) : lpO k (.nx ρ) = k ρ := (rfl)
@[simp] theorem lpO_ct (k : List Sl → R Out) (ρ : List Sl) : lpO k (.ct ρ) = k ρ := (rfl)
@[simp] theorem lpO_bk (k : List Sl → R Out) (ρ : List Sl) : lpO k (.bk ρ) = ok (.nx ρ) := (rfl)
@[simp] theorem lpO_rt (k : List Sl → R Out) (d : D) : lpO k (.rt d) = ok (.rt d) := (rfl)
def whileF (t : List Sl → R Bool) (g : List Sl → R Out) : Nat → List Sl → R Out
  | 0, _ => fail
  | n + 1, ρ => bd (t ρ) fun b => if b = true then bd (g ρ) (lpO (whileF t g n)) else ok (.nx ρ)
def whileM (t : List Sl → R Bool) (g : List Sl → R Out) : List Sl → R Out := fun ρ post => ∃ n, whileF t g n ρ post
theorem sWhile {t : List Sl → R Bool} {g : List Sl → R Out} {cnd : Expr} {body : List Stmt} (hp : PassesOwn (model X.prog X.w) X.A X.env X.xe) (hc : PT X cnd (tT X.K t)) (hb : PSs X body (tS X.K g)) : PS X (.While cnd body [] pos) (tS X.K (whileM t g)) :=
  PS.wk (ps_while hp hc hb) fun D σ H ⟨c, G, ρ, post, w, r, ⟨n, hg⟩, q⟩ => by
    refine ⟨fun m σ H => ∃ G' ρ', Le G G' ∧ Wd c G' H ∧ RS X.K c G' H σ ρ' ∧ whileF t g m ρ' post, ⟨n, G, ρ, fun _ _ e => e, w, r, hg⟩, fun m σ H ⟨G1, ρ1, l1, w1, r1, h1⟩ => ?_⟩
    cases m with
    | zero => exact h1.elim
    | succ m =>
      refine ⟨c, G1, ρ1, _, w1, r1, h1, fun b hb G2 H2 e2 w2 => ?_⟩
      have l2 : Le G G2 := fun a o e => e2.g a o (l1 a o e)
      cases b with
      | false => exact q _ hb σ G2 H2 l2 (w1.step w2 e2) (r1.ext e2)
      | true =>
        refine ⟨fun σ' H' => ∃ G' ρ', Le G G' ∧ Wd c G' H' ∧ RS X.K c G' H' σ' ρ' ∧ whileF t g m ρ' post, fun σ' H' h => ⟨m, Nat.lt_succ_self m, h⟩, c, G2, ρ1, _, w1.step w2 e2, r1.ext e2, hb, fun o ho => ?_⟩
        cases o with
        | nx ρ' => exact fun σ' G' H' l w' r' => ⟨G', ρ', fun a o e => l a o (l2 a o e), w', r', ho⟩
        | ct ρ' => exact fun σ' G' H' l w' r' => ⟨G', ρ', fun a o e => l a o (l2 a o e), w', r', ho⟩
        | bk ρ' => exact fun σ' G' H' l w' r' => q _ ho σ' G' H' (fun a o e => l a o (l2 a o e)) w' r'
        | rt d => exact fun v G' H' l w' k => q _ ho v G' H' (fun a o e => l a o (l2 a o e)) w' k
/-! ### what is walked -/
/-- the iterator's items are data, as long as the state is related to that where it began -/
def Wks (K : PySem.W.Frag) (c : Ct) (J : It) (Rel : Hp → Hp → Prop) (ds : List D) : Prop := ∀ i G H, Rel G H → W0 c.E G H →
  (∀ d, ds[i]? = some d → J.go i H ∧ ∀ x H1, J.yld i H x H1 → ∃ G1, Ext c.E G H G1 H1 ∧ W0 c.E G1 H1 ∧ Dq K G1 x d) ∧ (ds.length ≤ i → J.stop i H)
/-- .. for a statement's loop: the frozen part grows -/
def tIs (K : PySem.W.Frag) (f : List Sl → R (List D)) : TI := fun σ H R' => ∃ (c : Ct) (G : Hp) (ρ : List Sl) (post : List D → Prop), Wd c G H ∧ RS K c G H σ ρ ∧ f ρ post ∧
  ∀ ds, post ds → ds.length ≤ sizeLine → ∀ J G' H', Ext c.E G H G' H' → W0 c.E G' H' → Wks K c J (fun G2 _ => Le G' G2) ds → R' J H'
/-- .. for a comprehension's -/
def tIw (K : PySem.W.Frag) (f : List Sl → R (List D)) : TI := fun σ H R' => ∃ (c : Ct) (G : Hp) (ρ : List Sl) (post : List D → Prop), Wd c G H ∧ RS K c G H σ ρ ∧ f ρ post ∧
  ∀ ds, post ds → ds.length ≤ sizeLine → ∀ J G' H', Ext c.E G H G' H' → W0 c.E G' H' → Wks K c J (fun G2 H2 => Ext c.E G' H' G2 H2) ds → R' J H'
theorem PI.wk {tg iter : Expr} {t t' : TI} (h : PI X tg iter t) (w : ∀ σ H R, t' σ H R → t σ H R) : PI X tg iter t' := ⟨fun pins s σ H R I q => h.run pins s σ H R I (w σ H R q)⟩
theorem iW {tg iter : Expr} {f : List Sl → R (List D)} (h : PI X tg iter (tIs X.K f)) : PI X tg iter (tIw X.K f) := PI.wk h fun σ H R' ⟨c, G, ρ, post, w, r, hf, q⟩ =>
  ⟨c, G, ρ, post, w, r, hf, fun ds hds hl J G' H' e' w' k => q ds hds hl J G' H' e' w' fun i G2 H2 l w2 => k i G2 H2 l.g w2⟩
/-! ### for -/
def forF (g : D → List Sl → R (List Sl)) (tb : List Sl → R Out) : List D → List Sl → R Out
  | [], ρ => ok (.nx ρ)
  | d :: ds, ρ => bd (g d ρ) fun ρ1 => bd (tb ρ1) (lpO (forF g tb ds))
def forM (fi : List Sl → R (List D)) (g : D → List Sl → R (List Sl)) (tb : List Sl → R Out) : List Sl → R Out := fun ρ => bd (fi ρ) fun ds => forF g tb ds ρ
theorem sFor {js : List Nat} {tg iter : Expr} {body : List Stmt} {fi : List Sl → R (List D)} {g : D → List Sl → R (List Sl)} {tb : List Sl → R Out} (hp : PassesOwn (model X.prog X.w) X.A X.env X.xe) (hi : PI X tg iter (tIs X.K fi)) (hg : PG X tg (tG X.K js g)) (hb : PSs X body (tS X.K tb)) (hc : X.calm = true := by rfl)
    (hs : ∀ x, foldedSetIterable iter X.env x = pure x := by intro _; rfl) : PS X (.For tg iter body [] pos) (tS X.K (forM fi g tb)) :=
  PS.wk (ps_for hp hc hi hg hb hs) fun D σ H ⟨c, G, ρ, post, w, r, hf, q⟩ => ⟨c, G, ρ, _, w, r, hf, fun ds hds hl J G1 H1 e1 w1 wk => by
    refine ⟨fun i m σ H => i + m = ds.length ∧ ∃ G' ρ', Le G1 G' ∧ Wd c G' H ∧ RS X.K c G' H σ ρ' ∧ forF g tb (ds.drop i) ρ' post, ⟨ds.length, by omega, G1, ρ, fun _ _ e => e, w.step w1 e1, r.ext e1, hds⟩, fun i m σ H ⟨him, G2, ρ2, l2, w2, r2, h2⟩ => ?_⟩
    obtain ⟨go, stop⟩ := wk i G2 H l2 w2.w
    have l02 : Le G G2 := fun a o e => l2 a o (e1.g a o e)
    cases hd : ds[i]? with
    | none =>
      have hle : ds.length ≤ i := List.getElem?_eq_none_iff.mp hd
      rw [List.drop_eq_nil_of_le hle] at h2
      exact .inl ⟨stop hle, q _ h2 σ G2 H l02 w2 r2⟩
    | some d =>
      obtain ⟨hlt, hget⟩ := List.getElem?_eq_some_iff.mp hd
      obtain ⟨g1, y1⟩ := go d hd
      rw [List.drop_eq_getElem_cons hlt, hget] at h2
      refine .inr ⟨g1, fun σ' H' => ∃ G' ρ', Le G1 G' ∧ Wd c G' H' ∧ RS X.K c G' H' σ' ρ' ∧ forF g tb (ds.drop (i + 1)) ρ' post, fun σ' H' h => ⟨m - 1, by omega, by omega, h⟩, fun x H3 hy => ?_⟩
      obtain ⟨G3, e3, w3, k3⟩ := y1 x H3 hy
      have l03 : Le G G3 := fun a o e => e3.g a o (l02 a o e)
      have l13 : Le G1 G3 := fun a o e => e3.g a o (l2 a o e)
      refine ⟨c, G3, ρ2, d, _, w2.step w3 e3, r2.ext e3, k3, h2, fun ρ4 h4 σ4 r4 _ => ?_⟩
      refine ⟨c, G3, ρ4, _, w2.step w3 e3, r4, h4, fun o ho => ?_⟩
      cases o with
      | nx ρ' => exact fun σ' G' H' l w' r' => ⟨G', ρ', fun a o e => l a o (l13 a o e), w', r', ho⟩
      | ct ρ' => exact fun σ' G' H' l w' r' => ⟨G', ρ', fun a o e => l a o (l13 a o e), w', r', ho⟩
      | bk ρ' => exact fun σ' G' H' l w' r' => q _ ho σ' G' H' (fun a o e => l a o (l03 a o e)) w' r'
      | rt d => exact fun v G' H' l w' k => q _ ho v G' H' (fun a o e => l a o (l03 a o e)) w' k⟩
end
end Pu

namespace Pu
open PySem PySem.Spec PyProof.Rows L2
section
variable {X : Cx} {e a b : Expr} {es : List Expr} {pos : Pos} {st : Stmt} {rest sts : List Stmt} {tg iter elt : Expr}
/-! ### lists, tuples, texts walked -/
def itemsR : D → R (List D)
  | .list xs => ok xs
  | .tuple xs => ok xs
  | .str z => ok (z.cps.toList.map fun c => .str ⟨#[c]⟩)
  | _ => fail
/-- the three ways to begin a walk -/
theorem iter_any {pins : List (Addr × Obj)} {s1 : Shared} {σ : L2.St} {H1 : Hp} {R' : It → Hp → Prop} {v : Value} {x : V} (I1 : Inv X pins σ H1 s1) (r1 : RelV x v)
    (q : (∃ a xs, x = .ref a ∧ SqL X.K H1 a xs ∧ (xs.length ≤ sizeLine → R' (Itl X.K a) H1)) ∨ (∃ a xs, x = .ref a ∧ SqT X.K H1 a xs ∧ (xs.length ≤ sizeLine → R' (Itt X.K a) H1)) ∨ ∃ z, x = .str z ∧ R' (Its z) H1) :
    wpAny (model X.prog X.w) X.A (pyIter v) (PIE X pins σ tg R') X.xe s1 := by
  rcases q with ⟨a, xs, rfl, hq, q⟩ | ⟨a, xs, rfl, hq, q⟩ | ⟨z, rfl, q⟩
  · cases r1
    obtain ⟨its, rv, p, hz⟩ := I1.list hq
    refine wpAny_pyIter_list p.isList ?_
    refine ⟨s1.heap.objs.size, [s1.heap.objs.size], _, _, H1, rfl, I1.kept (t' := s1.toks) fun b o e => Heap.get?_push_of_some _ e, turn_list a _, ⟨_, Heap.get?_push_size _ rfl, rfl, rfl⟩, fun b hb => ?_, q hz⟩
    have e : b = s1.heap.objs.size := by simpa using hb
    subst e
    exact I1.fpOk (Nat.le_refl _) (I1.hok.fresh (Nat.le_refl _))
  · cases r1
    obtain ⟨its, rv, p, hz⟩ := I1.tuple hq
    refine wpAny_pyIter_tuple (show s1.heap.IsTuple a its.toArray from p) ?_
    refine ⟨s1.heap.objs.size, [s1.heap.objs.size], _, _, H1, rfl, I1.kept (t' := s1.toks) fun b o e => Heap.get?_push_of_some _ e, turn_tuple a _, ⟨_, Heap.get?_push_size _ rfl, rfl, rfl⟩, fun b hb => ?_, q hz⟩
    have e : b = s1.heap.objs.size := by simpa using hb
    subst e
    exact I1.fpOk (Nat.le_refl _) (I1.hok.fresh (Nat.le_refl _))
  · obtain ⟨t, rfl⟩ := r1
    cases ha : z.cps.all (· < 128)
    · exact wpAny_pyIter_wide ha (pi_one (tk := s1.toks) I1 _ (turn_str _ z t "str_iterator" (.inr rfl)) ⟨_, Heap.get?_push_size _ rfl, rfl, rfl⟩ q)
    · exact wpAny_pyIter_ascii ha (pi_one (tk := s1.toks) I1 _ (turn_str _ z t "str_ascii_iterator" (.inl rfl)) ⟨_, Heap.get?_push_size _ rfl, rfl, rfl⟩ q)
theorem itl_get {K : PySem.W.Frag} {H : Hp} {a : Addr} {vs : List V} {i : Nat} {v x : V} {H1 : Hp} (h : SqL K H a vs) (e : vs[i]? = some v) (y : (Itl K a).yld i H x H1) : H1 = H ∧ x = v := by
  obtain ⟨rfl, f⟩ := y
  exact ⟨rfl, Option.some.inj ((f _ h).symm.trans e)⟩
theorem itt_get {K : PySem.W.Frag} {H : Hp} {a : Addr} {vs : List V} {i : Nat} {v x : V} {H1 : Hp} (h : SqT K H a vs) (e : vs[i]? = some v) (y : (Itt K a).yld i H x H1) : H1 = H ∧ x = v := by
  obtain ⟨rfl, f⟩ := y
  exact ⟨rfl, Option.some.inj ((f _ h).symm.trans e)⟩
theorem wks_list {K : PySem.W.Frag} {c : Ct} {a : Addr} {vs : List V} {ds : List D} {Rel : Hp → Hp → Prop} (h : ∀ G H, Rel G H → W0 c.E G H → H a = some (.lst vs) ∧ DqAll K G vs ds) : Wks K c (Itl K a) Rel ds := by
  intro i G H r w
  obtain ⟨h1, k⟩ := h G H r w
  refine ⟨fun d hd => ?_, fun hl => ⟨vs, .of h1, by rw [k.length]; exact hl⟩⟩
  obtain ⟨v, e, kv⟩ := k.get hd
  refine ⟨⟨vs, v, .of h1, e⟩, fun x H1 y => ?_⟩
  obtain ⟨rfl, rfl⟩ := itl_get (.of h1) e y
  exact ⟨G, .refl, w, kv⟩
theorem wks_tup {K : PySem.W.Frag} {c : Ct} {a : Addr} {vs : List V} {ds : List D} {Rel : Hp → Hp → Prop} (h : ∀ G H, Rel G H → W0 c.E G H → SqT K H a vs ∧ DqAll K G vs ds) : Wks K c (Itt K a) Rel ds := by
  intro i G H r w
  obtain ⟨h1, k⟩ := h G H r w
  refine ⟨fun d hd => ?_, fun hl => ⟨vs, h1, by rw [k.length]; exact hl⟩⟩
  obtain ⟨v, e, kv⟩ := k.get hd
  refine ⟨⟨vs, v, h1, e⟩, fun x H1 y => ?_⟩
  obtain ⟨rfl, rfl⟩ := itt_get h1 e y
  exact ⟨G, .refl, w, kv⟩
theorem wks_str {K : PySem.W.Frag} {c : Ct} {z : Str} {Rel : Hp → Hp → Prop} : Wks K c (Its z) Rel (z.cps.toList.map fun c => .str ⟨#[c]⟩) := by
  intro i G H r w
  refine ⟨fun d hd => ?_, fun hl => by show z.cps.size ≤ i; simpa using hl⟩
  rw [List.getElem?_map] at hd
  cases e : z.cps.toList[i]? with
  | none => rw [e] at hd; cases hd
  | some cc =>
    rw [e] at hd; cases hd
    have e' : z.cps[i]? = some cc := by simpa using e
    have hlt : i < z.cps.size := (Array.getElem?_eq_some_iff.mp e').1
    refine ⟨hlt, fun x H1 y => ?_⟩
    obtain ⟨rfl, c2, h2, rfl⟩ := y
    rw [e'] at h2; cases h2
    exact ⟨G, .refl, w, .str _⟩
/-- the length of a text that is walked: no list is made of it -/
theorem iS {f : List Sl → R D} (h : PE X iter (tP X.K f)) : PI X tg iter (tIs X.K fun ρ => bd (f ρ) fun d => bd (itemsR d) fun ds => bd (req (ds.length ≤ sizeLine ∨ ∀ z, d ≠ .str z)) fun _ => ok ds) := by
  refine ⟨fun pins s σ H R' I ⟨c, G, ρ, post, w, r, hf, q⟩ => ?_⟩
  refine thn (h.run pins s σ H (fun v H' => ∃ d G', (bd (itemsR d) fun ds => bd (req (ds.length ≤ sizeLine ∨ ∀ z, d ≠ .str z)) fun _ => ok ds) post ∧ Ext c.E G H G' H' ∧ W0 c.E G' H' ∧ Dq X.K G' v d) I ⟨c, G, ρ, _, w, r, hf, fun d hd v G' H' e' w' k => ⟨d, G', hd, e', w', k⟩⟩) fun v s1 ⟨x, H1, I1, r1, d, G1, hd, e1, w1, k⟩ => ?_
  refine iter_any I1 r1 ?_
  cases k with
  | @lst a vs ds e kv =>
    have hd' : post ds := hd.2
    exact .inl ⟨a, vs, rfl, .of (w1.sub _ _ e), fun hz => q ds hd' (by rw [← kv.length]; exact hz) _ G1 H1 e1 w1 (wks_list fun G2 H2 l w2 => ⟨w2.sub _ _ (l _ _ e), kv.mono l⟩)⟩
  | @tup a vs ds e kv =>
    have hd' : post ds := hd.2
    exact .inr (.inl ⟨a, vs, rfl, sqT_mono w1.sub e, fun hz => q ds hd' (by rw [← kv.length]; exact hz) _ G1 H1 e1 w1 (wks_tup fun G2 H2 l w2 => ⟨sqT_mono w2.sub (sqT_mono l e), kv.mono l⟩)⟩)
  | str z =>
    obtain ⟨hz, hp⟩ := hd
    rcases hz with hz | hz
    · exact .inr (.inr ⟨z, rfl, q _ hp hz _ G1 H1 e1 w1 wks_str⟩)
    · exact absurd rfl (hz z)
  | _ => exact hd.elim
/-- .. looked at only, for a comprehension -/
theorem iB {f : List Sl → R D} (h : PE X iter (tB X.K f)) : PI X tg iter (tIw X.K fun ρ => bd (f ρ) fun d => bd (itemsR d) fun ds => bd (req (ds.length ≤ sizeLine ∨ ∀ z, d ≠ .str z)) fun _ => ok ds) := by
  refine ⟨fun pins s σ H R' I ⟨c, G, ρ, post, w, r, hf, q⟩ => ?_⟩
  refine thn (h.run pins s σ H (fun v H' => ∃ d G', (bd (itemsR d) fun ds => bd (req (ds.length ≤ sizeLine ∨ ∀ z, d ≠ .str z)) fun _ => ok ds) post ∧ Ext c.E G H G' H' ∧ W0 c.E G' H' ∧ Bv X.K c G' H' v d) I ⟨c, G, ρ, _, w, r, hf, fun d hd v G' H' e' w' k => ⟨d, G', hd, e', w', k⟩⟩) fun v s1 ⟨x, H1, I1, r1, d, G1, hd, e1, w1, k⟩ => ?_
  refine iter_any I1 r1 ?_
  cases d with
  | list ds =>
    obtain ⟨a, vs, rfl, h1, kv, nv⟩ := k.lst w1
    exact .inl ⟨a, vs, rfl, .of h1, fun hz => q ds hd.2 (by rw [← kv.length]; exact hz) _ G1 H1 e1 w1 (wks_list fun G2 H2 l w2 => ⟨l.h _ _ h1 nv, kv.mono l.g⟩)⟩
  | tuple ds =>
    obtain ⟨a, vs, rfl, h1, kv⟩ := k.tup
    exact .inr (.inl ⟨a, vs, rfl, sqT_mono w1.sub h1, fun hz => q ds hd.2 (by rw [← kv.length]; exact hz) _ G1 H1 e1 w1 (wks_tup fun G2 H2 l w2 => ⟨sqT_mono w2.sub (sqT_mono l.g h1), kv.mono l.g⟩)⟩)
  | str z =>
    obtain ⟨hz, hp⟩ := hd
    rcases hz with hz | hz
    · exact .inr (.inr ⟨z, k.str, q _ hp hz _ G1 H1 e1 w1 wks_str⟩)
    · exact absurd rfl (hz z)
  | _ => exact hd.elim
/-! ### ranges -/
def rngD (lo hi : Int) : List D := (List.range (hi - lo).toNat).map fun (i : Nat) => .int (lo + (i : Int))
theorem rngD_length (lo hi : Int) : (rngD lo hi).length = (hi - lo).toNat := by simp [rngD]
def rgOk (lo hi : Int) : Prop := -(2 ^ 62) ≤ lo ∧ lo < 2 ^ 62 ∧ -(2 ^ 62) ≤ hi ∧ hi < 2 ^ 62 ∧ (hi - lo).toNat ≤ sizeLine
def range1R : List D → R (List D)
  | [.int j] => bd (req (rgOk 0 j)) fun _ => ok (rngD 0 j)
  | _ => fail
def range2R : List D → R (List D)
  | [.int i, .int j] => bd (req (rgOk i j)) fun _ => ok (rngD i j)
  | _ => fail
theorem wks_rng {K : PySem.W.Frag} {c : Ct} {lo hi : Int} {Rel : Hp → Hp → Prop} : Wks K c (Itr lo (hi - lo).toNat) Rel (rngD lo hi) := by
  intro i G H r w
  refine ⟨fun d hd => ?_, fun hl => by rw [rngD_length] at hl; exact hl⟩
  have hlt : i < (hi - lo).toNat := by rw [← rngD_length lo hi]; exact (List.getElem?_eq_some_iff.mp hd).1
  have ed : d = .int (lo + (i : Int)) := by
    unfold rngD at hd
    rw [List.getElem?_map, List.getElem?_range hlt] at hd
    exact (Option.some.inj hd).symm
  subst ed
  refine ⟨hlt, fun x H1 ⟨h1, h2⟩ => ?_⟩
  subst h1 h2
  exact ⟨G, .refl, w, .int _⟩
theorem iR1 {p : Pos} {f : List Sl → R (List D)} (hm : X.mg "range" = none) (ha : PA X [a] (tAB X.K f)) (hg : Gl X "range" := by rfl) (hs : starEach [a] X.env = [(false, eval a X.env)] := by rfl) : PI X tg (.Call (.Name "range" p) [a] [] pos) (tIs X.K (m1 f range1R)) :=
  PI.wk (pi_range1 hg hm ha hs) fun σ H R' ⟨c, G, ρ, post, w, r, hf, q⟩ => ⟨c, G, ρ, _, w, r, hf, fun ds hds vs G1 H1 e1 w1 b1 => by
    match ds, b1, hds with
    | [.int j], b1, hds =>
      obtain ⟨v, rfl, b⟩ := b1.one
      rw [b.int]
      obtain ⟨h, hp⟩ := hds
      refine ⟨j, rfl, h.2.2.1, h.2.2.2.1, ?_⟩
      have e0 : j.toNat = (j - 0).toNat := by omega
      rw [e0]
      exact q _ hp (by rw [rngD_length]; exact h.2.2.2.2) _ G1 H1 e1 w1 wks_rng⟩
theorem iR2 {p : Pos} {f : List Sl → R (List D)} (hm : X.mg "range" = none) (ha : PA X [a, b] (tAB X.K f)) (hg : Gl X "range" := by rfl) (hs : starEach [a, b] X.env = [(false, eval a X.env), (false, eval b X.env)] := by rfl) (hs2 : starEach [b] X.env = [(false, eval b X.env)] := by rfl) : PI X tg (.Call (.Name "range" p) [a, b] [] pos) (tIs X.K (m1 f range2R)) :=
  PI.wk (pi_range2 hg hm ha hs hs2) fun σ H R' ⟨c, G, ρ, post, w, r, hf, q⟩ => ⟨c, G, ρ, _, w, r, hf, fun ds hds vs G1 H1 e1 w1 b1 => by
    match ds, b1, hds with
    | [.int i, .int j], b1, hds =>
      obtain ⟨v, u, rfl, b, b'⟩ := b1.two
      rw [b.int, b'.int]
      obtain ⟨h, hp⟩ := hds
      exact ⟨i, j, rfl, ⟨h.1, h.2.1, h.2.2.1, h.2.2.2.1⟩, q _ hp (by rw [rngD_length]; exact h.2.2.2.2) _ G1 H1 e1 w1 wks_rng⟩⟩
/-! ### comprehensions -/
theorem wipe_eq {σ σ' : L2.St} {vs : List Nat} (hl : σ'.length = σ.length) (h : ∀ j, j ∉ vs → σ'[j]? = σ[j]?) : L2.wipe σ' vs = L2.wipe σ vs := by
  have key : ∀ (τ : L2.St) (vs : List Nat) (j : Nat), (L2.wipe τ vs)[j]? = if j ∈ vs then (if j < τ.length then some none else none) else τ[j]? := by
    intro τ vs
    induction vs with
    | nil => intro j; simp [L2.wipe]
    | cons v r ih =>
      intro j
      show ((L2.wipe τ r).set v none)[j]? = _
      by_cases hj : j = v
      · subst hj
        by_cases hlt : j < τ.length
        · rw [List.getElem?_set_self (by rw [wipe_length]; exact hlt)]; simp [hlt]
        · have : ((L2.wipe τ r).set j none)[j]? = none := List.getElem?_eq_none_iff.mpr (by simp [wipe_length]; omega)
          rw [this]; simp [hlt]
      · rw [List.getElem?_set_ne (Ne.symm hj), ih j]; simp [hj]
  apply List.ext_getElem?
  intro j
  rw [key, key]
  by_cases hj : j ∈ vs
  · simp [hj, hl]
  · simp [hj, h j hj]
theorem wipe_wipe (σ : L2.St) (vs : List Nat) : L2.wipe (L2.wipe σ vs) vs = L2.wipe σ vs := wipe_eq (wipe_length _ _) fun j hj => wipe_out hj
def lcF (g : D → List Sl → R (List Sl)) (tt : List Sl → R Bool) (te : List Sl → R D) : List D → List Sl → R (List D)
  | [], _ => ok []
  | d :: ds, ρ => bd (g d ρ) fun ρ1 => bd (tt ρ1) fun b => if b = true then bd (te ρ1) fun y => bd (lcF g tt te ds ρ) fun ys => ok (y :: ys) else lcF g tt te ds ρ
def lcM (vs : List Nat) (fi : List Sl → R (List D)) (g : D → List Sl → R (List Sl)) (tt : List Sl → R Bool) (te : List Sl → R D) : List Sl → R (List D) := fun ρ => bd (fi ρ) fun ds => lcF g tt te ds (wipeS ρ vs)
def yesT : List Sl → R Bool := fun _ => ok true
theorem PTs.wk {ifs : List Expr} {t t' : TT} (h : PTs X ifs t) (w : ∀ σ H Q, t' σ H Q → t σ H Q) : PTs X ifs t' := ⟨fun pins s σ H Q I q => h.run pins s σ H Q I (w σ H Q q)⟩
theorem tN : PTs X [] (tT X.K yesT) := PTs.wk pts_nil fun σ H Q ⟨c, G, ρ, post, w, r, hf, q⟩ => q true hf G H .refl w.w
theorem tO1 {f : List Sl → R Bool} (h : PT X a (tT X.K f)) : PTs X [a] (tT X.K f) := pts_one h
theorem lc_of {K : PySem.W.Frag} {vs js : List Nat} {fi : List Sl → R (List D)} {g : D → List Sl → R (List Sl)} {tt : List Sl → R Bool} {te : List Sl → R D} (hjs : ∀ j ∈ js, j ∈ vs) {σ : L2.St} {H : Hp} {Q : VK}
    (q : tF K (lcM vs fi g tt te) σ H Q) : tLc (tIw K fi) (tG K js g) (tT K tt) (tP K te) vs σ H Q := by
  obtain ⟨c, G, ρ, post, w, r, hf, q⟩ := q
  refine ⟨c, G, ρ, _, w, r, hf, fun ds hds hl J G1 H1 e1 w1 wk D0 hD => ?_⟩
  have wd1 := w.step w1 e1
  obtain ⟨wn, en, on⟩ := wd1.newO (K := K) (G0 := G) (H0 := H) (p := D0) hD (vs := []) (ds := []) .nil
  have nv : ¬ c.E.vol D0 := (w1.fresh hD).2
  have nD : H D0 = none := e1.none hD nv
  refine ⟨fun i m H' => i + m = ds.length ∧ ∃ G' accd acc, Ext c.E G1 (upd H1 D0 (.lst [])) G' (upd H' D0 (.lst [])) ∧ W0 c.E G' H' ∧ H' D0 = some (.lst acc) ∧ G' D0 = none ∧ DqAll K G' acc accd ∧ accd.length ≤ i ∧ lcF g tt te (ds.drop i) (wipeS ρ vs) (fun ys => post (accd ++ ys)),
    ⟨ds.length, by omega, G1, [], [], by rw [upd_upd]; exact .refl, wn, upd_same, (w1.fresh hD).1, .nil, Nat.le_refl _, by simpa using hds⟩, fun i m H' ⟨him, G', accd, acc, ex, w', hacc, gD, kacc, hlen, hlc⟩ => ?_⟩
  -- the state now, seen from the beginning
  have ext1 : Ext c.E G1 H1 G' H' := by
    refine ⟨ex.g, fun p o hp v => ?_, fun p o hp v g0 => ?_⟩
    · have hne : p ≠ D0 := ne_of_none hp hD
      have := ex.h p o (by rw [upd_ne hne]; exact hp) v
      rw [upd_ne hne] at this; exact this
    · have hne : p ≠ D0 := ne_of_none hp hD
      exact ex.n p o (by rw [upd_ne hne]; exact hp) v g0
  have extO : Ext c.E G H G' H' := e1.trans ext1
  have wd' : Wd c G' H' := w.step w' extO
  obtain ⟨go, stop⟩ := wk i G' H' ext1 w'
  cases hd : ds[i]? with
  | none =>
    have hle : ds.length ≤ i := List.getElem?_eq_none_iff.mp hd
    rw [List.drop_eq_nil_of_le hle] at hlc
    have hp : post accd := by have : post (accd ++ []) := hlc; rwa [List.append_nil] at this
    refine .inl ⟨stop hle, q accd hp D0 G' H' nD extO w' ⟨⟨acc, hacc, kacc⟩, gD, ?_, nv⟩⟩
    exact on.h0
  | some d =>
    obtain ⟨hlt, hget⟩ := List.getElem?_eq_some_iff.mp hd
    obtain ⟨g1, y1⟩ := go d hd
    rw [List.drop_eq_getElem_cons hlt, hget] at hlc
    refine .inr ⟨g1, fun H'' => ∃ G'' accd' acc', Ext c.E G1 (upd H1 D0 (.lst [])) G'' (upd H'' D0 (.lst [])) ∧ W0 c.E G'' H'' ∧ H'' D0 = some (.lst acc') ∧ G'' D0 = none ∧ DqAll K G'' acc' accd' ∧ accd'.length ≤ i + 1 ∧ lcF g tt te (ds.drop (i + 1)) (wipeS ρ vs) (fun ys => post (accd' ++ ys)),
      fun H'' h => ⟨m - 1, by omega, by omega, h⟩, fun x H3 hy => ?_⟩
    obtain ⟨G3, e3, w3, k3⟩ := y1 x H3 hy
    have wd3 := wd'.step w3 e3
    have rw3 : RS K c G3 H3 (L2.wipe σ vs) (wipeS ρ vs) := ((r.ext extO).ext e3).wipe vs
    refine ⟨c, G3, wipeS ρ vs, d, _, wd3, rw3, k3, hlc, fun ρ4 h4 σ4 r4 t4 => ?_⟩
    have hwipe : L2.wipe σ4 vs = L2.wipe σ vs := by
      rw [← wipe_wipe σ vs]
      exact wipe_eq t4.1 fun j hj => t4.2 j fun z => hj (hjs j z)
    refine ⟨hwipe, c, G3, ρ4, _, wd3, r4, h4, fun b hb G5 H5 e5 w5 => ?_⟩
    -- what the accumulator is behind some steps
    have later : ∀ G6 H6, Ext c.E G' H' G6 H6 → W0 c.E G6 H6 → H6 D0 = some (.lst acc) ∧ G6 D0 = none ∧ DqAll K G6 acc accd ∧ Ext c.E G1 (upd H1 D0 (.lst [])) G6 (upd H6 D0 (.lst [])) := fun G6 H6 e6 w6 => by
      refine ⟨e6.h _ _ hacc nv, e6.n _ _ hacc nv gD, kacc.mono e6.g, ex.trans ⟨e6.g, fun p o hp v => ?_, fun p o hp v g0 => ?_⟩⟩
      · by_cases hpD : p = D0
        · subst hpD; rw [upd_same] at hp ⊢; exact hp
        · rw [upd_ne hpD] at hp ⊢; exact e6.h p o hp v
      · by_cases hpD : p = D0
        · subst hpD; exact e6.n _ _ hacc nv gD
        · rw [upd_ne hpD] at hp; exact e6.n p o hp v g0
    cases b with
    | false =>
      obtain ⟨a1, a2, a3, a4⟩ := later G5 H5 (e3.trans e5) w5
      exact ⟨G5, accd, acc, a4, w5, a1, a2, a3, by omega, hb⟩
    | true =>
      refine ⟨c, G5, ρ4, _, wd3.step w5 e5, r4.ext e5, hb, fun y hy v G6 H6 e6 w6 k6 => ?_⟩
      obtain ⟨a1, a2, a3, a4⟩ := later G6 H6 ((e3.trans e5).trans e6) w6
      refine ⟨acc, a1, by rw [kacc.length]; omega, G6, accd ++ [y], acc ++ [v], by rw [upd_upd]; exact a4, ⟨fun p o hp => ?_, w6.vol, Ef.loc w6.inv fun p vp => ?_⟩, upd_same, a2, a3.append (.cons k6 .nil), by simp; omega, ?_⟩
      · rw [upd_ne (by rintro rfl; rw [a2] at hp; cases hp)]; exact w6.sub p o hp
      · rw [upd_ne (by rintro rfl; exact nv vp)]
      · have : lcF g tt te (ds.drop (i + 1)) (wipeS ρ vs) (fun ys => post (accd ++ (y :: ys))) := hy
        simpa [List.append_assoc] using this
theorem lc {scope : Scope} {own : List (Str × Nat)} {ifs : List Expr} {js : List Nat} {fi : List Sl → R (List D)} {g : D → List Sl → R (List Sl)} {tt : List Sl → R Bool} {te : List Sl → R D} (hN : X.N.Nodup) (okb : blkC X.N X.env.scope scope own = true) (hi : PI X tg iter (tIw X.K fi))
    (hg : ∀ (s : Shared) (H : Hp) (C : Addr) (cl : List (Str × Addr)) (fp : List Addr), PG (X.blk s H scope (compEnvC scope cl C X.env) fp) tg (tG X.K js g)) (ht : ∀ (s : Shared) (H : Hp) (C : Addr) (cl : List (Str × Addr)) (fp : List Addr), PTs (X.blk s H scope (compEnvC scope cl C X.env) fp) ifs (tT X.K tt))
    (he : ∀ (s : Shared) (H : Hp) (C : Addr) (cl : List (Str × Addr)) (fp : List Addr), PE (X.blk s H scope (compEnvC scope cl C X.env) fp) elt (tP X.K te)) (hjs : ∀ j ∈ js, j ∈ own.map (·.2) := by decide) (hc : X.calm = true := by rfl) (hs : ∀ x, foldedSetIterable iter X.env x = pure x := by intro _; rfl) :
    PE X (.ListComp elt [⟨tg, iter, ifs, 0⟩] scope pos) (tF X.K (lcM (own.map (·.2)) fi g tt te)) := PE.wk (pe_lc hc hN hi (blkOk_by okb) hg ht he hs) fun _ _ _ q => lc_of hjs q
/-- y = [..] -/
theorem sLc (i : Nat) {y : Str} {py spos : Pos} {scope : Scope} {own : List (Str × Nat)} {ifs : List Expr} {js : List Nat} {fi : List Sl → R (List D)} {g : D → List Sl → R (List Sl)} {tt : List Sl → R Bool} {te : List Sl → R D} (hN : X.N.Nodup) (okb : blkC X.N X.env.scope scope own = true) (hi : PI X tg iter (tIw X.K fi))
    (hg : ∀ (s : Shared) (H : Hp) (C : Addr) (cl : List (Str × Addr)) (fp : List Addr), PG (X.blk s H scope (compEnvC scope cl C X.env) fp) tg (tG X.K js g)) (ht : ∀ (s : Shared) (H : Hp) (C : Addr) (cl : List (Str × Addr)) (fp : List Addr), PTs (X.blk s H scope (compEnvC scope cl C X.env) fp) ifs (tT X.K tt))
    (he : ∀ (s : Shared) (H : Hp) (C : Addr) (cl : List (Str × Addr)) (fp : List Addr), PE (X.blk s H scope (compEnvC scope cl C X.env) fp) elt (tP X.K te)) (hsw : swapsWith (.ListComp elt [⟨tg, iter, ifs, 0⟩] scope pos) (some (.Name y py)) spos.line X.env = pure true)
    (hy : X.N[i]? = some y := by rfl) (hyl : X.env.scope.names.lookup y = some .local := by rfl) (hjs : ∀ j ∈ js, j ∈ own.map (·.2) := by decide) (hc : X.calm = true := by rfl) (hs : ∀ x, foldedSetIterable iter X.env x = pure x := by intro _; rfl) :
    PS X (.Assign [.Name y py] (.ListComp elt [⟨tg, iter, ifs, 0⟩] scope pos) spos) (tS X.K (setO i (lcM (own.map (·.2)) fi g tt te))) :=
  PS.wk (ps_setLc hc hN hy hyl hsw hi (blkOk_by okb) hg ht he hs) fun D σ H ⟨c, G, ρ, post, w, r, hf, q⟩ => lc_of hjs ⟨c, G, ρ, _, w, r, hf, fun d hd a G' H' n e' w' o => q _ hd _ G' H' e'.g (w.step w' e') ((r.ext e').setO o (r.new n))⟩
/-- .. and frozen at once -/
theorem sLcD (i : Nat) {y : Str} {py spos : Pos} {scope : Scope} {own : List (Str × Nat)} {ifs : List Expr} {js : List Nat} {fi : List Sl → R (List D)} {g : D → List Sl → R (List Sl)} {tt : List Sl → R Bool} {te : List Sl → R D} (hN : X.N.Nodup) (okb : blkC X.N X.env.scope scope own = true) (hi : PI X tg iter (tIw X.K fi))
    (hg : ∀ (s : Shared) (H : Hp) (C : Addr) (cl : List (Str × Addr)) (fp : List Addr), PG (X.blk s H scope (compEnvC scope cl C X.env) fp) tg (tG X.K js g)) (ht : ∀ (s : Shared) (H : Hp) (C : Addr) (cl : List (Str × Addr)) (fp : List Addr), PTs (X.blk s H scope (compEnvC scope cl C X.env) fp) ifs (tT X.K tt))
    (he : ∀ (s : Shared) (H : Hp) (C : Addr) (cl : List (Str × Addr)) (fp : List Addr), PE (X.blk s H scope (compEnvC scope cl C X.env) fp) elt (tP X.K te)) (hsw : swapsWith (.ListComp elt [⟨tg, iter, ifs, 0⟩] scope pos) (some (.Name y py)) spos.line X.env = pure true)
    (hy : X.N[i]? = some y := by rfl) (hyl : X.env.scope.names.lookup y = some .local := by rfl) (hjs : ∀ j ∈ js, j ∈ own.map (·.2) := by decide) (hc : X.calm = true := by rfl) (hs : ∀ x, foldedSetIterable iter X.env x = pure x := by intro _; rfl) :
    PS X (.Assign [.Name y py] (.ListComp elt [⟨tg, iter, ifs, 0⟩] scope pos) spos) (tS X.K (setM i fun ρ => bd (lcM (own.map (·.2)) fi g tt te ρ) fun ds => ok (.list ds))) :=
  PS.wk (ps_setLc hc hN hy hyl hsw hi (blkOk_by okb) hg ht he hs) fun D σ H ⟨c, G, ρ, post, w, r, hf, q⟩ => lc_of hjs ⟨c, G, ρ, _, w, r, hf, fun d hd a G' H' n e' w' o => by
    obtain ⟨G2, w2, l2, k2, ne⟩ := (w.step w' e').freeze o
    refine q _ hd _ G2 H' (fun p u e => l2 p u (e'.g p u e)) w2 (RS.setD ?_ k2)
    have r' := r.ext e'
    refine ⟨r'.len, fun j x h => ?_, r'.dis⟩
    rcases r'.at_ j x h with z | ⟨v, e1, s1⟩
    · exact .inl z
    · refine .inr ⟨v, e1, ?_⟩
      cases x with
      | un => trivial
      | dat d => exact Dq.mono l2 s1
      | box k => exact s1
      | own fs =>
        obtain ⟨b, rfl, ob⟩ := s1
        have hb : b ≠ a := fun z => r.new n j fs h (by rw [← z]; exact e1)
        obtain ⟨vs1, e2, k3⟩ := ob.at_
        exact ⟨b, rfl, ⟨vs1, e2, k3.mono l2⟩, by rw [ne b hb]; exact ob.g, ob.h0, ob.v⟩⟩
end
end Pu

namespace Pu
open PySem PySem.Spec PyProof.Rows L2
/-! ### defs: what they compute of data -/
def spR (K : PySem.W.Frag) (n : Nat) (m : List D → R D) : Sp := fun vs H Q _ => ∃ (E : Ef) (G : Hp) (ds : List D) (post : D → Prop), W0 E G H ∧ DqAll K G vs ds ∧ ds.length = n ∧ m ds post ∧
  ∀ r, post r → ∀ v G' H', Ext E G H G' H' → W0 E G' H' → Dq K G' v r → Q v H'
/-- .. of the box, the first argument, and data -/
def spX (K : PySem.W.Frag) (j n : Nat) (m : List D → R D) : Sp := fun vs H Q _ => ∃ (E : Ef) (G : Hp) (bv : V) (vs' : List V) (ds : List D) (post : D → Prop), vs = bv :: vs' ∧ E.box j bv ∧ W0 E G H ∧ DqAll K G vs' ds ∧ ds.length = n ∧ m ds post ∧
  ∀ r, post r → ∀ v G' H', Ext E G H G' H' → W0 E G' H' → Dq K G' v r → Q v H'
def env0 (ds : List D) (n : Nat) : List Sl := ds.map .dat ++ List.replicate (n - ds.length) .un
def endM : Out → R D
  | .rt d => ok d
  | .nx _ => ok .none
  | _ => fail
@[simp] theorem endM_rt (d : D) : endM (.rt d) = ok d := (rfl)
@[simp] theorem endM_nx (ρ : List Sl) : endM (.nx ρ) = ok .none := (rfl)
def fnM (n : Nat) (g : List Sl → R Out) : List D → R D := fun ds => bd (g (env0 ds n)) endM
def fnX (j n : Nat) (g : List Sl → R Out) : List D → R D := fun ds => bd (g (.box j :: env0 ds (n - 1))) endM
theorem rs_start {K : PySem.W.Frag} {c : Ct} {G H : Hp} : ∀ {vs : List V} {ds : List D} (N : Nat), DqAll K G vs ds → RS K c G H (vs.map some ++ List.replicate (N - vs.length) none) (env0 ds N) := by
  intro vs ds N h
  have hl := h.length
  refine ⟨by simp [env0, hl], fun i x hx => ?_, fun i j es fs v h1 => ?_⟩
  · unfold env0 at hx
    by_cases hi : i < ds.length
    · rw [List.getElem?_append_left (by simpa using hi), List.getElem?_map] at hx
      cases e : ds[i]? with
      | none => rw [e] at hx; cases hx
      | some d =>
        rw [e] at hx; cases hx
        obtain ⟨v, e1, k⟩ := h.get e
        refine .inr ⟨v, ?_, k⟩
        rw [List.getElem?_append_left (by simpa [hl] using hi), List.getElem?_map, e1]; rfl
    · rw [List.getElem?_append_right (by simpa using hi)] at hx
      rw [List.getElem?_replicate] at hx
      split at hx
      · cases hx; exact .inl rfl
      · cases hx
  · unfold env0 at h1
    by_cases hi : i < ds.length
    · rw [List.getElem?_append_left (by simpa using hi), List.getElem?_map] at h1
      cases e : ds[i]? with
      | none => rw [e] at h1; cases h1
      | some d => rw [e] at h1; cases h1
    · rw [List.getElem?_append_right (by simpa using hi), List.getElem?_replicate] at h1
      split at h1 <;> cases h1
theorem rs_cons {K : PySem.W.Frag} {c : Ct} {G H : Hp} {σ : L2.St} {ρ : List Sl} {v : V} {j : Nat} (r : RS K c G H σ ρ) (b : c.E.box j v) : RS K c G H (some v :: σ) (.box j :: ρ) := by
  refine ⟨by simp [r.len], fun i x h => ?_, fun i l ds es u h1 h2 h3 h4 => ?_⟩
  · cases i with
    | zero => cases h; exact .inr ⟨v, rfl, b⟩
    | succ i => exact r.at_ i x h
  · cases i with
    | zero => cases h1
    | succ i =>
      cases l with
      | zero => cases h2
      | succ l => rw [r.dis i l ds es u h1 h2 h3 h4]
section
variable {P : Program} {w : World} {K : PySem.W.Frag} {mg : Str → Option Value} {base : Heap}
theorem fn_ok {x qual : Str} {st : Stmt} {f : Addr} {fd : FuncData} {N ps : List Str} {k : Nat} {g : List Sl → R Out} (F : Fun K x qual st f fd) (S : FnScope N ps (defScope st))
    (hb : ∀ (cdv : Value) (A : Around) (outer : List Env) (s : Shared) (H : Hp) (E : XK), Room k (A.deeper (envOfC qual (defScope st) s.heap.objs.size f cdv)) → PSs (cxOf CX0 P w K mg base N qual (defScope st) f cdv A outer s H E).nox (defBody st) (tS K g)) :
    FnOk P w K mg base CX0 (k + 1) f fd ps (spR K ps.length (fnM N.length g)) := by
  refine F.ok S (fun vs H Q E h => ?_) (fun cdv A outer s H vs Q E hr h => ?_)
  · obtain ⟨_, _, ds, _, _, hd, hl, _⟩ := h
    rw [hd.length, hl]
  · obtain ⟨Ef, G, ds, post, w0, hd, hl, hm, q⟩ := h
    refine ⟨_, hb cdv A outer s H E hr, ⟨Ef, G, H⟩, G, env0 ds N.length, _, ⟨w0, .refl⟩, rs_start N.length hd, hm, fun o ho => ?_⟩
    cases o with
    | nx ρ => exact fun σ G' H' l w' r' => q _ ho .non G' H' w'.e w'.w .non
    | rt d => exact fun v G' H' l w' k => q _ ho v G' H' w'.e w'.w k
    | bk ρ => exact ho.elim
    | ct ρ => exact ho.elim
theorem fn_okX {x qual : Str} {st : Stmt} {f : Addr} {fd : FuncData} {N ps : List Str} {k j : Nat} {p : Str} {g : List Sl → R Out} (F : Fun K x qual st f fd) (S : FnScope N (p :: ps) (defScope st))
    (hb : ∀ (cdv : Value) (A : Around) (outer : List Env) (s : Shared) (H : Hp) (E : XK), Room k (A.deeper (envOfC qual (defScope st) s.heap.objs.size f cdv)) → PSs (cxOf CX0 P w K mg base N qual (defScope st) f cdv A outer s H E).nox (defBody st) (tS K g)) :
    FnOk P w K mg base CX0 (k + 1) f fd (p :: ps) (spX K j ps.length (fnX j N.length g)) := by
  refine F.ok S (fun vs H Q E h => ?_) (fun cdv A outer s H vs Q E hr h => ?_)
  · obtain ⟨_, _, _, _, ds, _, rfl, _, _, hd, hl, _⟩ := h
    rw [List.length_cons, List.length_cons, hd.length, hl]
  · obtain ⟨Ef, G, bv, vs', ds, post, rfl, hbx, w0, hd, hl, hm, q⟩ := h
    have e : L2.start N (bv :: vs') = some bv :: (vs'.map some ++ List.replicate ((N.length - 1) - vs'.length) none) := by
      unfold L2.start
      simp only [List.map_cons, List.length_cons, List.cons_append]
      congr 3; omega
    refine ⟨_, hb cdv A outer s H E hr, ⟨Ef, G, H⟩, G, _, _, ⟨w0, .refl⟩, by rw [e]; exact rs_cons (rs_start (N.length - 1) hd) hbx, hm, fun o ho => ?_⟩
    cases o with
    | nx ρ => exact fun σ G' H' l w' r' => q _ ho .non G' H' w'.e w'.w .non
    | rt d => exact fun v G' H' l w' k => q _ ho v G' H' w'.e w'.w k
    | bk ρ => exact ho.elim
    | ct ρ => exact ho.elim
/-- a def that calls itself: by the depth -/
theorem fn_rec {f : Addr} {fd : FuncData} {ps : List Str} {n k : Nat} {m : Nat → List D → R D} (h0 : ∀ ds post, ¬ m 0 ds post) (hn : n = ps.length) (step : ∀ i, FnOk P w K mg base CX0 (k + i) f fd ps (spR K n (m i)) → FnOk P w K mg base CX0 (k + i + 1) f fd ps (spR K n (m (i + 1)))) :
    ∀ i, FnOk P w K mg base CX0 (k + i) f fd ps (spR K n (m i))
  | 0 => ⟨fun vs H Q E h => by obtain ⟨_, _, ds, _, _, hd, hl, _⟩ := h; rw [hd.length, hl, hn], fun A outer s H args us vs Q E hr e0 hb r h => by obtain ⟨_, _, ds, _, _, _, _, hm, _⟩ := h; exact (h0 _ _ hm).elim⟩
  | i + 1 => step i (fn_rec h0 hn step i)
theorem fn_recX {f : Addr} {fd : FuncData} {ps : List Str} {p : Str} {n k j : Nat} {m : Nat → List D → R D} (h0 : ∀ ds post, ¬ m 0 ds post) (hn : n = ps.length) (step : ∀ i, FnOk P w K mg base CX0 (k + i) f fd (p :: ps) (spX K j n (m i)) → FnOk P w K mg base CX0 (k + i + 1) f fd (p :: ps) (spX K j n (m (i + 1)))) :
    ∀ i, FnOk P w K mg base CX0 (k + i) f fd (p :: ps) (spX K j n (m i))
  | 0 => ⟨fun vs H Q E h => by obtain ⟨_, _, _, _, ds, _, rfl, _, _, hd, hl, _⟩ := h; rw [List.length_cons, List.length_cons, hd.length, hl, hn], fun A outer s H args us vs Q E hr e0 hb r h => by obtain ⟨_, _, _, _, ds, _, _, _, _, _, _, hm, _⟩ := h; exact (h0 _ _ hm).elim⟩
  | i + 1 => step i (fn_recX h0 hn step i)
end
section
variable {X : Cx} {k n j : Nat} {f : Addr} {fd : FuncData} {ps : List Str} {m : List D → R D} {x : Str} {p pos : Pos} {e : Expr} {es : List Expr}
/-- a call asks for as many arguments as there are parameters -/
def callR (n : Nat) (m : List D → R D) : List D → R D := fun ds => bd (req (ds.length = n)) fun _ => m ds
@[simp] theorem callR_0 (m : List D → R D) : callR 0 m [] = m [] := bd_req rfl _
@[simp] theorem callR_1 (m : List D → R D) (a : D) : callR 1 m [a] = m [a] := bd_req rfl _
@[simp] theorem callR_2 (m : List D → R D) (a b : D) : callR 2 m [a, b] = m [a, b] := bd_req rfl _
@[simp] theorem callR_3 (m : List D → R D) (a b c : D) : callR 3 m [a, b, c] = m [a, b, c] := bd_req rfl _
@[simp] theorem callR_4 (m : List D → R D) (a b c d : D) : callR 4 m [a, b, c, d] = m [a, b, c, d] := bd_req rfl _
@[simp] theorem callR_5 (m : List D → R D) (a b c d e : D) : callR 5 m [a, b, c, d, e] = m [a, b, c, d, e] := bd_req rfl _
theorem call {g : List Sl → R (List D)} (F : FnOk X.prog X.w X.K X.mg X.base CX0 k f fd ps (spR X.K n m)) (hr : Room k X.A) (hm : X.mg x = some (.ref f)) (hk : PySem.W.keepIn X.K (.ref f) = true) (hb : Binds X.K fd ps []) (ha : PA X (e :: es) (tAF X.K g))
    (hg : Gl X x := by rfl) (hdb : (x == ("__debug__" : Str)) = false := by decide) (he : starEach (e :: es) X.env = (false, eval e X.env) :: starEach es X.env := by rfl) (hpl : (backTo pos (starEach es X.env)).any (·.1) = false := by rfl) : PE X (.Call (.Name x p) (e :: es) [] pos) (tP X.K (m1 g (callR n m))) :=
  PE.wk (pe_call F hr hg hm hk hb .nil pass0 ha hdb he hpl) fun σ H Q ⟨c, G, ρ, post, w, r, hf, q⟩ => ⟨c, G, ρ, _, w, r, hf, fun ds hds vs G1 H1 e1 w1 b1 => by
    show spR X.K n m (vs ++ []) H1 Q E0
    rw [List.append_nil]
    exact ⟨c.E, G1, ds, post, w1, b1, hds.1, hds.2, fun r hr v G' H' e2 w2 k2 => q r hr v G' H' (e1.trans e2) w2 k2⟩⟩
theorem call0 (F : FnOk X.prog X.w X.K X.mg X.base CX0 k f fd ps (spR X.K 0 m)) (hr : Room k X.A) (hm : X.mg x = some (.ref f)) (hk : PySem.W.keepIn X.K (.ref f) = true) (hb : Binds X.K fd ps [])
    (hg : Gl X x := by rfl) (hdb : (x == ("__debug__" : Str)) = false := by decide) : PE X (.Call (.Name x p) [] [] pos) (tP X.K (m1 nilR (callR 0 m))) :=
  PE.wk (pe_call0 F hr hg hm hk hb .nil pass0 hdb) fun σ H Q ⟨c, G, ρ, post, w, r, hf, q⟩ => ⟨c.E, G, [], post, w.w, .nil, rfl, hf.2, fun r hr v G' H' e2 w2 k2 => q r hr v G' H' e2 w2 k2⟩
/-- a call with the box as first argument -/
def getX (ρ : List Sl) (i j : Nat) : R Unit := match ρ[i]? with
  | some (.box k) => bd (req (k = j)) ok
  | _ => fail
theorem getX_inv {ρ : List Sl} {i j : Nat} {post : Unit → Prop} (h : getX ρ i j post) : ρ[i]? = some (.box j) ∧ post () := by
  unfold getX at h
  cases e : ρ[i]? with
  | none => rw [e] at h; exact h.elim
  | some x =>
    rw [e] at h
    cases x with
    | box k => obtain ⟨rfl, h⟩ := h; exact ⟨rfl, h⟩
    | _ => exact h.elim
def callX (i j n : Nat) (g : List Sl → R (List D)) (m : List D → R D) : List Sl → R D := fun ρ => bd (getX ρ i j) fun _ => bd (g ρ) (callR n m)
theorem callBx (i : Nat) {y : Str} {q1 : Pos} {g : List Sl → R (List D)} {pp : Str} (F : FnOk X.prog X.w X.K X.mg X.base CX0 k f fd (pp :: ps) (spX X.K j n m)) (hr : Room k X.A) (hm : X.mg x = some (.ref f)) (hk : PySem.W.keepIn X.K (.ref f) = true) (hb : Binds X.K fd (pp :: ps) []) (ha : PA X es (tAF X.K g))
    (hN : X.N[i]? = some y := by rfl) (hv : Vis X.env.scope y := by first | exact Or.inl rfl | exact Or.inr (Or.inl rfl) | exact Or.inr (Or.inr rfl)) (hd : (y == ("__debug__" : Str)) = false := by decide) (hcd : (y == ("__classdict__" : Str)) = false := by decide)
    (hg : Gl X x := by rfl) (hdb : (x == ("__debug__" : Str)) = false := by decide) (hs : starEach (.Name y q1 :: es) X.env = (false, eval (.Name y q1) X.env) :: starEach es X.env := by rfl) (hpl : (backTo pos (starEach es X.env)).any (·.1) = false := by rfl) : PE X (.Call (.Name x p) (.Name y q1 :: es) [] pos) (tP X.K (callX i j n g m)) :=
  PE.wk (pe_call F hr hg hm hk hb .nil pass0 (pa_cons (pe_var hN hv hd hcd) ha hs) hdb hs hpl) fun σ H Q ⟨c, G, ρ, post, w, r, hf, q⟩ => by
    obtain ⟨e0, hf⟩ := getX_inv hf
    rcases r.at_ i _ e0 with z | ⟨v, e1, b⟩
    · cases z
    · refine ⟨v, e1, c, G, ρ, _, w, r, hf, fun ds hds vs G1 H1 x1 w1 b1 => ?_⟩
      show spX X.K j n m ((v :: vs) ++ []) H1 Q E0
      rw [List.append_nil]
      exact ⟨c.E, G1, v, vs, ds, post, rfl, b, w1, b1, hds.1, hds.2, fun r hr v G' H' e2 w2 k2 => q r hr v G' H' (x1.trans e2) w2 k2⟩
end
/-- what a body's walk needs of its context: exceptions are none of ours -/
theorem nvr {M : Model} {A : Around} {env : Env} : PassesOwn M A env (fun _ _ => False) := PassesOwn.never
end Pu

namespace Pu
open PySem PySem.Spec PyProof.Rows L2
section
variable {X : Cx} {e a b : Expr} {es : List Expr} {pos : Pos}
/-! ### isinstance -/
def tyName : D → String
  | .none => "NoneType"
  | .bool _ => "bool"
  | .int _ => "int"
  | .str _ => "str"
  | .list _ => "list"
  | .tuple _ => "tuple"
  | .dict _ => "dict"
def isInt : D → Bool | .int _ => true | .bool _ => true | _ => false
def isBoo : D → Bool | .bool _ => true | _ => false
def isStr : D → Bool | .str _ => true | _ => false
def isTup : D → Bool | .tuple _ => true | _ => false
def isLst : D → Bool | .list _ => true | _ => false
theorem Dq.ty {K : PySem.W.Frag} {H : Hp} {v : V} {d : D} (h : Dq K H v d) : TyX K H v (.type (tyName d)) := by
  cases h with
  | non => exact .base .non
  | bl b => exact .base (.bl b)
  | int i => exact .base (.int i)
  | str x => exact .base (.str x)
  | lst e q => exact .base (.lst e)
  | tup e q =>
    rcases e with (e | ⟨o, e⟩) | ⟨o, its, n, e, c, _⟩
    · exact .base (.tup e)
    · exact .fTuple e
    · exact .kTuple e c
def isiR (t : D → Bool) (d : D) : R D := ok (.bool (t d))
theorem isi_of {T : String} {t : D → Bool} (ht : ∀ (K : PySem.W.Frag) (H : Hp) (v : V) (d : D), Dq K H v d → kitB (tyName d) T = some (t d)) {y : Str} {p q : Pos} {f : List Sl → R D} (hm : X.mg "isinstance" = none) (hmT : X.mg y = none) (ha : PE X a (tB X.K f)) (hT : bootBuiltins y = some (.type T))
    (hn : y ≠ "__name__") (hdb : (y == ("__debug__" : Str)) = false) (hg : Gl X "isinstance") (hgT : Gl X y) (hs : starEach [a, .Name y q] X.env = (false, eval a X.env) :: starEach [.Name y q] X.env) (hs2 : starEach [.Name y q] X.env = (false, eval (.Name y q) X.env) :: starEach [] X.env)
    (hpl : (backTo pos (starEach [.Name y q] X.env)).any (·.1) = false) : PE X (.Call (.Name "isinstance" p) [a, .Name y q] [] pos) (tP X.K (m1 f (isiR t))) :=
  PE.wk (pe_callB call_isi hg hm (by decide +kernel) (pa_cons ha (pa_cons (pe_bltn hgT hmT hT (show RelV (.ty T) (.type T) from rfl) hn hdb) pa_nil hs2) hs) (by decide) (by decide) hs hpl) fun σ H Q ⟨c, G, ρ, post, w, r, hf, q⟩ =>
    ⟨c, G, ρ, _, w, r, hf, fun d hd v G1 H1 e1 w1 b1 => ⟨v, .ty T, _, _, t d, rfl, .ty T, (b1.dq w1).ty, kit_ty (ht _ _ _ _ (b1.dq w1)), q _ hd _ G1 H1 e1 w1 (.bl _)⟩⟩
theorem ki_int (K : PySem.W.Frag) (H : Hp) (v : V) (d : D) (h : Dq K H v d) : kitB (tyName d) "int" = some (isInt d) := by cases h <;> (simp only [tyName, isInt]; decide +kernel)
theorem ki_boo (K : PySem.W.Frag) (H : Hp) (v : V) (d : D) (h : Dq K H v d) : kitB (tyName d) "bool" = some (isBoo d) := by cases h <;> (simp only [tyName, isBoo]; decide +kernel)
theorem ki_str (K : PySem.W.Frag) (H : Hp) (v : V) (d : D) (h : Dq K H v d) : kitB (tyName d) "str" = some (isStr d) := by cases h <;> (simp only [tyName, isStr]; decide +kernel)
theorem ki_tup (K : PySem.W.Frag) (H : Hp) (v : V) (d : D) (h : Dq K H v d) : kitB (tyName d) "tuple" = some (isTup d) := by cases h <;> (simp only [tyName, isTup]; decide +kernel)
theorem ki_lst (K : PySem.W.Frag) (H : Hp) (v : V) (d : D) (h : Dq K H v d) : kitB (tyName d) "list" = some (isLst d) := by cases h <;> (simp only [tyName, isLst]; decide +kernel)
section
variable {p q : Pos} {f : List Sl → R D}
theorem isiInt (hm : X.mg "isinstance" = none) (hT : X.mg "int" = none) (ha : PE X a (tB X.K f)) (hg : Gl X "isinstance" := by rfl) (hgT : Gl X "int" := by rfl) (hs : starEach [a, .Name "int" q] X.env = (false, eval a X.env) :: starEach [.Name "int" q] X.env := by rfl) (hs2 : starEach [.Name "int" q] X.env = (false, eval (.Name "int" q) X.env) :: starEach [] X.env := by rfl)
    (hpl : (backTo pos (starEach [.Name "int" q] X.env)).any (·.1) = false := by rfl) : PE X (.Call (.Name "isinstance" p) [a, .Name "int" q] [] pos) (tP X.K (m1 f (isiR isInt))) := isi_of ki_int hm hT ha (by decide +kernel) (by decide) (by decide) hg hgT hs hs2 hpl
theorem isiBoo (hm : X.mg "isinstance" = none) (hT : X.mg "bool" = none) (ha : PE X a (tB X.K f)) (hg : Gl X "isinstance" := by rfl) (hgT : Gl X "bool" := by rfl) (hs : starEach [a, .Name "bool" q] X.env = (false, eval a X.env) :: starEach [.Name "bool" q] X.env := by rfl) (hs2 : starEach [.Name "bool" q] X.env = (false, eval (.Name "bool" q) X.env) :: starEach [] X.env := by rfl)
    (hpl : (backTo pos (starEach [.Name "bool" q] X.env)).any (·.1) = false := by rfl) : PE X (.Call (.Name "isinstance" p) [a, .Name "bool" q] [] pos) (tP X.K (m1 f (isiR isBoo))) := isi_of ki_boo hm hT ha (by decide +kernel) (by decide) (by decide) hg hgT hs hs2 hpl
theorem isiStr (hm : X.mg "isinstance" = none) (hT : X.mg "str" = none) (ha : PE X a (tB X.K f)) (hg : Gl X "isinstance" := by rfl) (hgT : Gl X "str" := by rfl) (hs : starEach [a, .Name "str" q] X.env = (false, eval a X.env) :: starEach [.Name "str" q] X.env := by rfl) (hs2 : starEach [.Name "str" q] X.env = (false, eval (.Name "str" q) X.env) :: starEach [] X.env := by rfl)
    (hpl : (backTo pos (starEach [.Name "str" q] X.env)).any (·.1) = false := by rfl) : PE X (.Call (.Name "isinstance" p) [a, .Name "str" q] [] pos) (tP X.K (m1 f (isiR isStr))) := isi_of ki_str hm hT ha (by decide +kernel) (by decide) (by decide) hg hgT hs hs2 hpl
theorem isiTup (hm : X.mg "isinstance" = none) (hT : X.mg "tuple" = none) (ha : PE X a (tB X.K f)) (hg : Gl X "isinstance" := by rfl) (hgT : Gl X "tuple" := by rfl) (hs : starEach [a, .Name "tuple" q] X.env = (false, eval a X.env) :: starEach [.Name "tuple" q] X.env := by rfl) (hs2 : starEach [.Name "tuple" q] X.env = (false, eval (.Name "tuple" q) X.env) :: starEach [] X.env := by rfl)
    (hpl : (backTo pos (starEach [.Name "tuple" q] X.env)).any (·.1) = false := by rfl) : PE X (.Call (.Name "isinstance" p) [a, .Name "tuple" q] [] pos) (tP X.K (m1 f (isiR isTup))) := isi_of ki_tup hm hT ha (by decide +kernel) (by decide) (by decide) hg hgT hs hs2 hpl
theorem isiLst (hm : X.mg "isinstance" = none) (hT : X.mg "list" = none) (ha : PE X a (tB X.K f)) (hg : Gl X "isinstance" := by rfl) (hgT : Gl X "list" := by rfl) (hs : starEach [a, .Name "list" q] X.env = (false, eval a X.env) :: starEach [.Name "list" q] X.env := by rfl) (hs2 : starEach [.Name "list" q] X.env = (false, eval (.Name "list" q) X.env) :: starEach [] X.env := by rfl)
    (hpl : (backTo pos (starEach [.Name "list" q] X.env)).any (·.1) = false := by rfl) : PE X (.Call (.Name "isinstance" p) [a, .Name "list" q] [] pos) (tP X.K (m1 f (isiR isLst))) := isi_of ki_lst hm hT ha (by decide +kernel) (by decide) (by decide) hg hgT hs hs2 hpl
end
/-! ### sum, any, all, min, max -/
theorem dqAll_reads {pins : List (Addr × Obj)} {σ : L2.St} {H : Hp} {s : Shared} (I : Inv X pins σ H s) {vs : List V} {ds : List D} (h : DqAll X.K H vs ds) {us : List Value} (r : Vals vs us) : ∃ as, ReadsAll s.heap us ds as := Dp.readsAll I ds vs us h.dp r
theorem DqAll.intsOf {K : PySem.W.Frag} {G : Hp} : ∀ {vs : List V} {ds : List D} {ns : List Int}, DqAll K G vs ds → ds = ns.map .int → vs = ns.map V.int
  | _, _, _, h, rfl => h.ints
/-- the ints of a list of data, if they are all ints -/
def intL : List D → Option (List Int)
  | [] => some []
  | .int i :: r => (intL r).map (i :: ·)
  | _ => none
theorem intL_eq : ∀ {ds : List D} {ns : List Int}, intL ds = some ns → ds = ns.map .int
  | [], ns, h => by cases h; rfl
  | .int i :: r, ns, h => by
    unfold intL at h
    cases e : intL r with
    | none => rw [e] at h; cases h
    | some ms => rw [e] at h; cases h; rw [List.map_cons, ← intL_eq e]
  | .none :: _, _, h => by cases h
  | .bool _ :: _, _, h => by cases h
  | .str _ :: _, _, h => by cases h
  | .list _ :: _, _, h => by cases h
  | .tuple _ :: _, _, h => by cases h
  | .dict _ :: _, _, h => by cases h
@[simp] theorem intL_map : ∀ ns : List Int, intL (ns.map .int) = some ns
  | [] => rfl
  | n :: r => by rw [List.map_cons]; unfold intL; rw [intL_map r]; rfl
def sumV (xs : List D) : R D := match intL xs with | some ns => ok (.int ns.sum) | none => fail
@[simp] theorem sumV_ints (ns : List Int) : sumV (ns.map .int) = ok (.int ns.sum) := by unfold sumV; rw [intL_map]
def sumR : List D → R D
  | [.list xs] => sumV xs
  | [.tuple xs] => sumV xs
  | _ => fail
theorem call_sumT (hh : X.calm = true) : CallR X (.builtin "sum") (fun xs H Q => ∃ (a : Addr) (ns : List Int), xs = [V.ref a] ∧ SqT X.K H a (ns.map V.int) ∧ Q (.int ns.sum) H) := by
  intro pins s σ H xs us Q I r h
  obtain ⟨a, ns, rfl, hq, q⟩ := h
  cases r with | cons r rr =>
  cases rr; cases r
  obtain ⟨its, rv, p, hz⟩ := I.tuple hq
  have hi : IntsAre its ns := rv.ints
  have hl : s.heap.IsTuple a its.toArray := p
  obtain ⟨xs, hx⟩ := hi.allInts.items
  have hn : numsOf its.toArray.toList = ns := by rw [show its.toArray.toList = its from rfl, hi.numsOf]
  rw [hx] at hl hn
  rw [nums_intItems] at hn
  refine PySem.W.ktm_sumG (I.ok.hd hh) hl fun h' tk t' hk => ?_
  rw [preSum_eq, List.take_of_length_le (by simp), hn]
  exact ⟨.int _, H, I.kept hk, ⟨_, rfl⟩, q⟩
theorem kSum (hh : X.calm = true) : CalQ X (.builtin "sum") sumR := ⟨_, (cr_sum hh).or (call_sumT hh), by
  intro c G H vs ds post Q w bs hp q
  have key : ∀ {xs : List D}, sumV xs post → ∃ ns : List Int, xs = ns.map .int ∧ post (.int ns.sum) := fun {xs} h => by
    unfold sumV at h
    cases e : intL xs with
    | none => rw [e] at h; exact h.elim
    | some ns => rw [e] at h; exact ⟨ns, intL_eq e, h⟩
  match ds, bs, hp with
  | [.list xs], bs, hp =>
    obtain ⟨v, rfl, b⟩ := bs.one
    obtain ⟨p, us, rfl, h1, h2, _⟩ := b.lst w
    obtain ⟨ns, e, hp⟩ := key hp
    have eu := h2.intsOf e
    exact .inl ⟨p, ns, rfl, by rw [← eu]; exact .of h1, q _ hp _ G H .refl w (.int _)⟩
  | [.tuple xs], bs, hp =>
    obtain ⟨v, rfl, b⟩ := bs.one
    obtain ⟨p, us, rfl, h1, h2⟩ := b.tup
    obtain ⟨ns, e, hp⟩ := key hp
    have eu := h2.intsOf e
    exact .inr ⟨p, ns, rfl, by rw [← eu]; exact sqT_mono w.sub h1, q _ hp _ G H .refl w (.int _)⟩⟩
/-- any, all: truth values, numbers, None -/
def smallT : D → Bool
  | .none => true
  | .bool _ => true
  | .int _ => true
  | _ => false
theorem fits_of {xs : List D} (h : xs.all smallT = true) : ∀ x ∈ xs, PyData.fits63 x := fun x hx => by
  have := List.all_eq_true.mp h x hx
  cases x <;> first | trivial | cases this
def rSeqP (K : PySem.W.Frag) (g : List D → Bool) : List V → Hp → VK → Prop := fun xs H Q => ∃ (p : Addr) (vs : List V) (ds : List D), xs = [V.ref p] ∧ (H p = some (.lst vs) ∨ SqT K H p vs) ∧ DqAll K H vs ds ∧ ds.all smallT = true ∧ Q (.bl (g ds)) H
theorem call_anyQ (hh : X.calm = true) : CallR X (.builtin "any") (rSeqP X.K fun ds => ds.any PyData.truthy) := by
  intro pins s σ H xs us Q I r h
  obtain ⟨p, vs, ds, rfl, hq, k, hf, q⟩ := h
  cases r with | cons r rr =>
  cases rr; cases r
  rcases hq with hq | hq
  · obtain ⟨its, rv, pl, hz⟩ := I.list (.of hq)
    obtain ⟨as, ra⟩ := dqAll_reads I k rv
    exact PySem.W.any_list_data (I.ok.hd hh) pl.isList ra k.plain (fits_of hf) fun h' tk hk => ⟨.bl _, H, I.kept hk, rfl, q⟩
  · obtain ⟨its, rv, pl, hz⟩ := I.tuple hq
    obtain ⟨as, ra⟩ := dqAll_reads I k rv
    exact PySem.W.any_tuple_data (I.ok.hd hh) pl ra k.plain (fits_of hf) fun h' tk hk => ⟨.bl _, H, I.kept hk, rfl, q⟩
theorem call_allQ (hh : X.calm = true) : CallR X (.builtin "all") (rSeqP X.K fun ds => ds.all PyData.truthy) := by
  intro pins s σ H xs us Q I r h
  obtain ⟨p, vs, ds, rfl, hq, k, hf, q⟩ := h
  cases r with | cons r rr =>
  cases rr; cases r
  rcases hq with hq | hq
  · obtain ⟨its, rv, pl, hz⟩ := I.list (.of hq)
    obtain ⟨as, ra⟩ := dqAll_reads I k rv
    exact PySem.W.all_list_data (I.ok.hd hh) pl.isList ra k.plain (fits_of hf) fun h' tk hk => ⟨.bl _, H, I.kept hk, rfl, q⟩
  · obtain ⟨its, rv, pl, hz⟩ := I.tuple hq
    obtain ⟨as, ra⟩ := dqAll_reads I k rv
    exact PySem.W.all_tuple_data (I.ok.hd hh) pl ra k.plain (fits_of hf) fun h' tk hk => ⟨.bl _, H, I.kept hk, rfl, q⟩
def qV (g : List D → Bool) (xs : List D) : R D := bd (req (xs.all smallT = true)) fun _ => ok (.bool (g xs))
def anyR : List D → R D
  | [.list xs] => qV (fun ds => ds.any PyData.truthy) xs
  | [.tuple xs] => qV (fun ds => ds.any PyData.truthy) xs
  | _ => fail
def allR : List D → R D
  | [.list xs] => qV (fun ds => ds.all PyData.truthy) xs
  | [.tuple xs] => qV (fun ds => ds.all PyData.truthy) xs
  | _ => fail
theorem bcl_seq {g : List D → Bool} {h : List D → R D} (h1 : ∀ xs, h [.list xs] = qV g xs) (h2 : ∀ xs, h [.tuple xs] = qV g xs) (h3 : ∀ ds post, h ds post → (∃ xs, ds = [.list xs]) ∨ ∃ xs, ds = [.tuple xs]) : Bcl X.K (rSeqP X.K g) h := by
  intro c G H vs ds post Q w bs hp q
  rcases h3 _ _ hp with ⟨xs, rfl⟩ | ⟨xs, rfl⟩
  · rw [h1] at hp
    obtain ⟨v, rfl, b⟩ := bs.one
    obtain ⟨p, us, rfl, e1, e2, _⟩ := b.lst w
    exact ⟨p, us, xs, rfl, .inl e1, e2.mono w.sub, hp.1, q _ hp.2 _ G H .refl w (.bl _)⟩
  · rw [h2] at hp
    obtain ⟨v, rfl, b⟩ := bs.one
    obtain ⟨p, us, rfl, e1, e2⟩ := b.tup
    exact ⟨p, us, xs, rfl, .inr (sqT_mono w.sub e1), e2.mono w.sub, hp.1, q _ hp.2 _ G H .refl w (.bl _)⟩
theorem kAny (hh : X.calm = true) : CalQ X (.builtin "any") anyR := ⟨_, call_anyQ hh, bcl_seq (fun _ => rfl) (fun _ => rfl) fun ds post h => by
  match ds, h with
  | [.list xs], _ => exact .inl ⟨_, rfl⟩
  | [.tuple xs], _ => exact .inr ⟨_, rfl⟩⟩
theorem kAll (hh : X.calm = true) : CalQ X (.builtin "all") allR := ⟨_, call_allQ hh, bcl_seq (fun _ => rfl) (fun _ => rfl) fun ds post h => by
  match ds, h with
  | [.list xs], _ => exact .inl ⟨_, rfl⟩
  | [.tuple xs], _ => exact .inr ⟨_, rfl⟩⟩
/-! ### min, max -/
def rBest (K : PySem.W.Frag) (g : D → List D → D) : List V → Hp → VK → Prop := fun xs H Q => ∃ (p : Addr) (vs : List V) (x : D) (ds : List D), xs = [V.ref p] ∧ (H p = some (.lst vs) ∨ SqT K H p vs) ∧ DqAll K H vs (x :: ds) ∧ PySem.W.AlikeAll (x :: ds) ∧ PyData.depthAll (x :: ds) ≤ 60 ∧
  ∀ (i : Nat) v, vs[i]? = some v → (x :: ds)[i]? = some (g x ds) → Q v H
theorem vals_back {vs : List V} {us : List Value} (r : Vals vs us) {i : Nat} {u : Value} (h : us[i]? = some u) : ∃ v, vs[i]? = some v ∧ RelV v u := by
  have hl : i < vs.length := by rw [r.length]; exact (List.getElem?_eq_some_iff.mp h).1
  obtain ⟨u', h1, h2⟩ := r.get (List.getElem?_eq_getElem hl)
  rw [h] at h1; cases h1
  exact ⟨_, List.getElem?_eq_getElem hl, h2⟩
theorem reads_same {h h' : Heap} {us : List Value} {ds : List D} {as bs : List Addr} {i : Nat} {u : Value} {d : D} (ra : ReadsAll h us ds as) (hp : PyData.plainAll ds = true) (hu : us[i]? = some u) (r : Reads h' u d bs) (hk : ∀ b o, h.get? b = some o → h'.get? b = some o) : ds[i]? = some d := by
  obtain ⟨bs2, r2, hlt, _, _⟩ := PySem.W.readsAll_at ra i u hu
  have e : ds[i]? = some (ds.getD i .none) := by rw [List.getD_eq_getElem?_getD, List.getElem?_eq_getElem hlt]; rfl
  have pl : (ds.getD i .none).plain = true := PySem.W.plain_mem hp (by rw [List.getD_eq_getElem?_getD, List.getElem?_eq_getElem hlt]; exact List.getElem_mem hlt)
  have r3 := PyProof.Rows.Reads.keeps hk r2
  rw [e, SeqAt.plain_unique _ _ _ _ _ pl r3 r]
theorem call_minQ (hh : X.calm = true) (hu : X.A.units + 64 < cLine) : CallR X (.builtin "min") (rBest X.K PySem.W.minD) := by
  intro pins s σ H xs us Q I r h
  obtain ⟨p, vs, x, ds, rfl, hq, k, ha, hd, q⟩ := h
  cases r with | cons r rr =>
  cases rr; cases r
  rcases hq with hq | hq
  · obtain ⟨its, rv, pl, hz⟩ := I.list (.of hq)
    obtain ⟨as, ra⟩ := dqAll_reads I k rv
    refine PySem.W.min_list_data (I.ok.hd hh) pl.isList ra ha (by omega) fun i v h' tk bs hv hr hk => ?_
    obtain ⟨y, e1, e2⟩ := vals_back rv (by simpa using hv)
    exact ⟨y, H, I.kept hk, e2, q i y e1 (reads_same ra k.plain (by simpa using hv) hr hk)⟩
  · obtain ⟨its, rv, pl, hz⟩ := I.tuple hq
    obtain ⟨as, ra⟩ := dqAll_reads I k rv
    refine PySem.W.min_tuple_data (I.ok.hd hh) pl ra ha (by omega) fun i v h' tk bs hv hr hk => ?_
    obtain ⟨y, e1, e2⟩ := vals_back rv (by simpa using hv)
    exact ⟨y, H, I.kept hk, e2, q i y e1 (reads_same ra k.plain (by simpa using hv) hr hk)⟩
theorem call_maxQ (hh : X.calm = true) (hu : X.A.units + 64 < cLine) : CallR X (.builtin "max") (rBest X.K PySem.W.maxD) := by
  intro pins s σ H xs us Q I r h
  obtain ⟨p, vs, x, ds, rfl, hq, k, ha, hd, q⟩ := h
  cases r with | cons r rr =>
  cases rr; cases r
  rcases hq with hq | hq
  · obtain ⟨its, rv, pl, hz⟩ := I.list (.of hq)
    obtain ⟨as, ra⟩ := dqAll_reads I k rv
    refine PySem.W.max_list_data (I.ok.hd hh) pl.isList ra ha (by omega) fun i v h' tk bs hv hr hk => ?_
    obtain ⟨y, e1, e2⟩ := vals_back rv (by simpa using hv)
    exact ⟨y, H, I.kept hk, e2, q i y e1 (reads_same ra k.plain (by simpa using hv) hr hk)⟩
  · obtain ⟨its, rv, pl, hz⟩ := I.tuple hq
    obtain ⟨as, ra⟩ := dqAll_reads I k rv
    refine PySem.W.max_tuple_data (I.ok.hd hh) pl ra ha (by omega) fun i v h' tk bs hv hr hk => ?_
    obtain ⟨y, e1, e2⟩ := vals_back rv (by simpa using hv)
    exact ⟨y, H, I.kept hk, e2, q i y e1 (reads_same ra k.plain (by simpa using hv) hr hk)⟩
/-- the least, the greatest of some data -/
def bestV (g : D → List D → D) : List D → R D
  | [] => fail
  | x :: ds => bd (req (PySem.W.AlikeAll (x :: ds) ∧ PyData.depthAll (x :: ds) ≤ 60)) fun _ => ok (g x ds)
def minR : List D → R D
  | [.list xs] => bestV PySem.W.minD xs
  | [.tuple xs] => bestV PySem.W.minD xs
  | [.int i, .int j] => ok (.int (if j < i then j else i))
  | _ => fail
def maxR : List D → R D
  | [.list xs] => bestV PySem.W.maxD xs
  | [.tuple xs] => bestV PySem.W.maxD xs
  | [.int i, .int j] => ok (.int (if j > i then j else i))
  | _ => fail
theorem bestV_inv {g : D → List D → D} {xs : List D} {post : D → Prop} (h : bestV g xs post) : ∃ x ds, xs = x :: ds ∧ PySem.W.AlikeAll (x :: ds) ∧ PyData.depthAll (x :: ds) ≤ 60 ∧ post (g x ds) := by
  cases xs with
  | nil => exact h.elim
  | cons x ds => exact ⟨x, ds, rfl, h.1.1, h.1.2, h.2⟩
theorem best_fin {K : PySem.W.Frag} {g : D → List D → D} {c : Ct} {G H : Hp} {vs : List V} {x : D} {ds : List D} {post : D → Prop} {Q : VK} (w : W0 c.E G H) (k : DqAll K G vs (x :: ds)) (hp : post (g x ds)) (q : ∀ z, post z → ∀ v G' H', Ext c.E G H G' H' → W0 c.E G' H' → Dq K G' v z → Q v H') : ∀ (i : Nat) v, vs[i]? = some v → (x :: ds)[i]? = some (g x ds) → Q v H := fun i v h1 h2 => by
  obtain ⟨v', e1, e2⟩ := k.get h2
  rw [h1] at e1; cases e1
  exact q _ hp v G H .refl w e2
theorem kMin (hh : X.calm = true) (hu : X.A.units + 64 < cLine) : CalQ X (.builtin "min") minR := ⟨_, (call_minQ hh hu).or (call_min2 hh), by
  intro c G H vs ds post Q w bs hp q
  match ds, bs, hp with
  | [.list xs], bs, hp =>
    obtain ⟨v, rfl, b⟩ := bs.one
    obtain ⟨p, us, rfl, e1, e2, _⟩ := b.lst w
    obtain ⟨x, ds, rfl, a1, a2, a3⟩ := bestV_inv hp
    exact .inl ⟨p, us, x, ds, rfl, .inl e1, e2.mono w.sub, a1, a2, best_fin w e2 a3 q⟩
  | [.tuple xs], bs, hp =>
    obtain ⟨v, rfl, b⟩ := bs.one
    obtain ⟨p, us, rfl, e1, e2⟩ := b.tup
    obtain ⟨x, ds, rfl, a1, a2, a3⟩ := bestV_inv hp
    exact .inl ⟨p, us, x, ds, rfl, .inr (sqT_mono w.sub e1), e2.mono w.sub, a1, a2, best_fin w e2 a3 q⟩
  | [.int i, .int j], bs, hp =>
    obtain ⟨v, u, rfl, b, b'⟩ := bs.two
    rw [b.int, b'.int]
    exact .inr ⟨i, j, rfl, q _ hp _ G H .refl w (.int _)⟩⟩
theorem kMax (hh : X.calm = true) (hu : X.A.units + 64 < cLine) : CalQ X (.builtin "max") maxR := ⟨_, (call_maxQ hh hu).or (call_max2 hh), by
  intro c G H vs ds post Q w bs hp q
  match ds, bs, hp with
  | [.list xs], bs, hp =>
    obtain ⟨v, rfl, b⟩ := bs.one
    obtain ⟨p, us, rfl, e1, e2, _⟩ := b.lst w
    obtain ⟨x, ds, rfl, a1, a2, a3⟩ := bestV_inv hp
    exact .inl ⟨p, us, x, ds, rfl, .inl e1, e2.mono w.sub, a1, a2, best_fin w e2 a3 q⟩
  | [.tuple xs], bs, hp =>
    obtain ⟨v, rfl, b⟩ := bs.one
    obtain ⟨p, us, rfl, e1, e2⟩ := b.tup
    obtain ⟨x, ds, rfl, a1, a2, a3⟩ := bestV_inv hp
    exact .inl ⟨p, us, x, ds, rfl, .inr (sqT_mono w.sub e1), e2.mono w.sub, a1, a2, best_fin w e2 a3 q⟩
  | [.int i, .int j], bs, hp =>
    obtain ⟨v, u, rfl, b, b'⟩ := bs.two
    rw [b.int, b'.int]
    exact .inr ⟨i, j, rfl, q _ hp _ G H .refl w (.int _)⟩⟩
end
end Pu

namespace Pu
open PySem PySem.Spec PyProof.Rows L2 HT
/-! ### t[::-1] -/
section
variable {prog : Program} {w : World} {A : Around} {E : Value → Shared → Prop} {s : Shared}
theorem sliceApplied_rev {sl : Addr} {vl vu vs : Value} {n : Nat} {Q : Int × Int × Nat → Shared → Prop} (hs : s.heap.IsSliceOf sl vl vu vs) (pl : IsPart vl none) (pu : IsPart vu none) (ps : IsPart vs (some (-1)))
    (h : Q ((n : Int) - 1, -1, n) s) : wpAny (model prog w) A (Builtin.Slice.sliceApplied (.ref sl) (pure (n : Int))) Q E s := by
  obtain ⟨os, hos, hcs, hds⟩ := id hs
  unfold Builtin.Slice.sliceApplied Builtin.Slice.sliceFields
  refine wpAny_bind (wpAny_bind (wpAny_field hos hds (x := vl) rfl (wpAny_bind (wpAny_field hos hds (x := vu) rfl (wpAny_bind (wpAny_field hos hds (x := vs) rfl (wpAny_pure ?_)))))))
  refine wpAny_bind (slicePart_ ps ?_)
  show wpAny _ _ (if ((-1 : Int) == 0) = true then _ else _) _ _ s
  rw [if_neg (by decide)]
  refine wpAny_bind (slicePart_ pl (wpAny_bind (slicePart_ pu (wpAny_bind (wpAny_pure ?_)))))
  have e : Builtin.Slice.sliceAdjust none none (-1) (n : Int) = ((n : Int) - 1, -1) := by
    unfold Builtin.Slice.sliceAdjust
    simp
  show wpAny _ _ (match Builtin.Slice.sliceAdjust none none (-1) (n : Int) with | (lo, hi) => pure (lo, (-1 : Int), Builtin.Slice.slicePlaces lo hi (-1))) _ _ s
  rw [e]
  have e2 : Builtin.Slice.slicePlaces ((n : Int) - 1) (-1) (-1) = n := by
    unfold Builtin.Slice.slicePlaces
    cases n with
    | zero => simp
    | succ n => simp; omega
  show wpAny _ _ (pure ((n : Int) - 1, (-1 : Int), Builtin.Slice.slicePlaces ((n : Int) - 1) (-1) (-1))) _ _ s
  rw [e2]
  exact wpAny_pure h
theorem rev_pick (xs : Array Value) : ((List.range xs.size).filterMap fun (m : Nat) => xs[(((xs.size : Int) - 1) + (m : Int) * (-1)).toNat]?).toArray = xs.toList.reverse.toArray := by
  have h : ((List.range xs.size).filterMap fun (m : Nat) => xs[(((xs.size : Int) - 1) + (m : Int) * (-1)).toNat]?) = ((List.range xs.size).map fun k => xs.size - 1 - k).filterMap (xs[·]?) := by
    rw [List.filterMap_map]
    congr 1
    funext m
    show xs[(((xs.size : Int) - 1) + (m : Int) * (-1)).toNat]? = xs[xs.size - 1 - m]?
    have e : (((xs.size : Int) - 1) + (m : Int) * (-1)).toNat = xs.size - 1 - m := by omega
    rw [e]
  rw [h, PySem.W.krv_range, List.filterMap_reverse, PySem.W.krv_all]
theorem getItem_tuple_rev {t sl : Addr} {items : Array Value} {vl vu vs : Value} {Q : Value → Shared → Prop} (ht : IsTup s.heap t items) (hs : s.heap.IsSliceOf sl vl vu vs) (pl : IsPart vl none) (pu : IsPart vu none) (ps : IsPart vs (some (-1)))
    (h : Q (.ref s.heap.objs.size) { s with heap := s.heap.push { cls := .type "tuple", data := .seq items.toList.reverse.toArray } })
    (hsz : items.size ≤ sizeLine) : wpAny (model prog w) A (getItem (.ref t) (.ref sl)) Q E s := by
  have htake : sizeOk (.seq items.toList.reverse.toArray) := by
    show items.toList.reverse.toArray.size ≤ sizeLine
    rw [List.size_toArray, List.length_reverse, Array.length_toList]
    omega
  obtain ⟨os, hos, hcs, hds⟩ := id hs
  have hTs : s.TypeIs (.ref sl) "slice" := ⟨os, hos, hcs⟩
  unfold getItem
  try with_reducible refine wpAny_holding ?_
  first | refine wpAny_bind (wpAny_pure ?_) | skip
  refine wpAny_bind (wpAny_sequenceKey ht.typeIs (by decide) ?_)
  refine wpAny_bind (wpAny_callSpecial?_slot (name := Str.ofString "__getitem__") ht.typeIs PyProof.Rows.slot_tuple_getitem
    (wpAny_call_entry PyProof.Rows.slot_tuple_getitem ht.typeIs entry_tuple_getitem ?_ (args_tuple_getitem _ _)))
  show wpAny _ _ (Builtin.Tuple.tupleItemsOf (.ref t) >>= _) _ _ s
  refine wpAny_bind (tupleItemsOf_ ht ?_)
  refine wpAny_bind (wpAny_typeOf hTs ?_)
  rw [if_pos (by decide)]
  refine wpAny_bind (sliceApplied_rev hs pl pu ps ?_)
  have hno : ¬ ((((items.size : Int) - 1) == 0 && (-1 : Int) == 1 && items.size == items.size) = true) := by
    intro q
    rw [Bool.and_eq_true, Bool.and_eq_true] at q
    exact absurd (eq_of_beq q.1.2) (by decide)
  show wpAny _ _ (if (((items.size : Int) - 1) == 0 && (-1 : Int) == 1 && items.size == items.size) = true then _ else _) _ _ s
  rw [if_neg hno, rev_pick]
  first
    | exact wpAny_bind (m := Builtin.Tuple.tupleExact _) (wpAny_newObj_type (wpAny_pure ⟨_, rfl, wpAny_pure h⟩) htake)
    | exact wpAny_bind (m := Builtin.Tuple.tupleExact _) (wpAny_newObj_type (wpAny_bind (wpAny_pure (wpAny_pure ⟨_, rfl, wpAny_pure h⟩))) htake)
    | exact wpAny_bind (wpAny_bind (m := Builtin.Tuple.tupleExact _) (wpAny_newObj_type (wpAny_pure (wpAny_pure ⟨_, rfl, wpAny_pure h⟩)) htake))
    | exact wpAny_bind (wpAny_bind (m := Builtin.Tuple.tupleExact _) (wpAny_newObj_type (wpAny_pure ⟨_, rfl, wpAny_pure h⟩) htake))
end
/-- what x[::-1] gives: of a list a new list, of a tuple a new tuple -/
def tRevA (K : PySem.W.Frag) (te : TE) : TE := fun σ H Q => te σ H fun x H1 => (∃ a xs, x = .ref a ∧ SqL K H1 a xs ∧ ∀ p, H1 p = none → Q (.ref p) (upd H1 p (.lst xs.reverse))) ∨ (∃ a xs, x = .ref a ∧ SqT K H1 a xs ∧ ∀ p, H1 p = none → Q (.ref p) (upd H1 p (.tup xs.reverse)))
section
variable {X : Cx}
theorem pe_revA {e : Expr} {te : TE} {k : Nat} {p1 p2 p3 pos : Pos} (he : PE X e te) : PE X (.Subscript e (.Slice none none (some (.UnaryOp .USub (.Constant (.int 1) k p1) p2)) p3) pos) (tRevA X.K te) := by
  refine ⟨fun pins s σ H Q I h => ?_⟩
  refine Subscript_ (thn (he.run pins s σ H _ I h) fun v s1 ⟨x, H1, I1, r1, q1⟩ => ?_)
  have hst : PO X (some (.UnaryOp .USub (.Constant (.int 1) k p1) p2)) (tPart (tUn (rU fun i => .int (-i)) (tC (.int 1)))) := po_some (pe_un un_neg pe_int)
  refine wpAny_Slice (thn (po_none.run pins s1 σ H1 (fun o H2 => o = none ∧ H2 = H1) I1 ⟨rfl, rfl⟩) fun vl s2 ⟨l, H2, I2, pl, el, e2⟩ => ?_)
  subst el e2
  refine thn (po_none.run pins s2 σ H2 (fun o H3 => o = none ∧ H3 = H2) I2 ⟨rfl, rfl⟩) fun vu s3 ⟨u, H3, I3, pu, eu, e3⟩ => ?_
  subst eu e3
  refine thn (hst.run pins s3 σ H3 (fun o H4 => o = some (-1) ∧ H4 = H3) I3 ⟨1, rfl, -1, rfl, rfl, rfl⟩) fun vs s4 ⟨o, H4, I4, ps, eo, e4⟩ => ?_
  subst eo e4
  have I5 : Inv X pins σ H4 { s4 with heap := s4.heap.push { cls := .type "slice", data := .fields #[vl, vu, vs] } } := I4.kept (t' := s4.toks) fun b ob q => Heap.get?_push_of_some _ q
  rcases q1 with ⟨a, xs, ex, hx, q⟩ | ⟨a, xs, ex, hx, q⟩
  · subst ex
    cases r1
    obtain ⟨its, r, ht, hz⟩ := I5.list hx
    have hlen := r.length
    show wpAny (model X.prog X.w) X.A (subscriptTail e (.Slice none none (some (.UnaryOp .USub (.Constant (.int 1) k p1) p2)) p3) (.ref a) (.ref s4.heap.objs.size)) (EP X pins σ Q) X.xe { s4 with heap := s4.heap.push { cls := .type "slice", data := .fields #[vl, vu, vs] } }
    refine tail_any (ops := [.ref a, .ref s4.heap.objs.size]) ht.isList.typeIs (PySem.slot_list_getitem.lookup) ?_ (by with_unfolding_all rfl)
    refine wpAny_getItem_list_slice ht.isList (Heap.IsSliceOf.new _ vl vu vs) pl pu ps (by decide) ?_ (by rw [List.size_toArray]; omega)
    rw [PySem.W.krv_pick]
    refine ⟨.ref _, _, I5.laid (t' := s4.toks) (o := .lst xs.reverse) (fun b ob q => Heap.get?_push_of_some _ q) (Nat.le_refl _) ?_, rfl, q _ (I5.hok.fresh (Nat.le_refl _))⟩
    exact ⟨by rw [List.length_reverse]; exact hz, _, 0, r.reverse, Heap.get?_push_size _ rfl⟩
  · subst ex
    cases r1
    obtain ⟨its, r, ht, hz⟩ := I5.tuple hx
    have hlen := r.length
    show wpAny (model X.prog X.w) X.A (subscriptTail e (.Slice none none (some (.UnaryOp .USub (.Constant (.int 1) k p1) p2)) p3) (.ref a) (.ref s4.heap.objs.size)) (EP X pins σ Q) X.xe { s4 with heap := s4.heap.push { cls := .type "slice", data := .fields #[vl, vu, vs] } }
    refine tail_any (ops := [.ref a, .ref s4.heap.objs.size]) ht.typeIs (PyProof.Rows.slot_tuple_getitem.lookup) ?_ (by with_unfolding_all rfl)
    refine getItem_tuple_rev ht (Heap.IsSliceOf.new _ vl vu vs) pl pu ps ?_ (by rw [List.size_toArray]; omega)
    refine ⟨.ref _, _, I5.laid (t' := s4.toks) (o := .tup xs.reverse) (fun b ob q => Heap.get?_push_of_some _ q) (Nat.le_refl _) ?_, rfl, q _ (I5.hok.fresh (Nat.le_refl _))⟩
    exact ⟨by rw [List.length_reverse]; exact hz, its.reverse, r.reverse, _, Heap.get?_push_size _ rfl, rfl, 0, by simp⟩
variable {e a b : Expr} {es : List Expr} {pos : Pos} {st : Stmt}
def revR : D → R D
  | .list xs => ok (.list xs.reverse)
  | .tuple xs => ok (.tuple xs.reverse)
  | _ => fail
theorem revP {f : List Sl → R D} {k : Nat} {p1 p2 p3 : Pos} (ha : PE X a (tB X.K f)) : PE X (.Subscript a (.Slice none none (some (.UnaryOp .USub (.Constant (.int 1) k p1) p2)) p3) pos) (tP X.K (m1 f revR)) :=
  PE.wk (pe_revA ha) fun σ H Q ⟨c, G, ρ, post, w, r, hf, q⟩ => ⟨c, G, ρ, _, w, r, hf, fun d hd v G1 H1 e1 w1 b1 => by
    cases d <;> try exact hd.elim
    · obtain ⟨p, vs, rfl, h1, h2, _⟩ := b1.lst w1
      refine .inl ⟨p, vs, rfl, .of h1, fun n hn => ?_⟩
      obtain ⟨w4, e4⟩ := w1.newF hn (.lst vs.reverse)
      exact q _ hd _ _ _ (e1.trans e4) w4 (.lst upd_same (h2.reverse.mono e4.g))
    · obtain ⟨p, vs, rfl, h1, h2⟩ := b1.tup
      refine .inr ⟨p, vs, rfl, sqT_mono w1.sub h1, fun n hn => ?_⟩
      obtain ⟨w4, e4⟩ := w1.newF hn (.tup vs.reverse)
      exact q _ hd _ _ _ (e1.trans e4) w4 (.tup (.of upd_same) (h2.reverse.mono e4.g))⟩
/-! ### short words for the mirrors -/
def nDR (i : Nat) : List Sl → R D := fun ρ => getD ρ i
def nBR (i : Nat) : List Sl → R D := fun ρ => getB ρ i
def kR (d : D) : List Sl → R D := fun _ => ok d
def noR : List Sl → R (Option Int) := fun _ => ok none
def frz (f : List Sl → R (List D)) : List Sl → R D := fun ρ => bd (f ρ) fun ds => ok (.list ds)
def itR (f : List Sl → R D) : List Sl → R (List D) := fun ρ => bd (f ρ) fun d => bd (itemsR d) fun ds => bd (req (ds.length ≤ sizeLine ∨ ∀ z, d ≠ .str z)) fun _ => ok ds
/-! ### constants of the modules -/
theorem gcI {x : Str} {i : Int} (h : ∃ t, X.mg x = some (.int i t)) (hg : Gl X x := by rfl) (hd : (x == ("__debug__" : Str)) = false := by decide) : PE X (.Name x pos) (tP X.K (kR (.int i))) := let ⟨_, e⟩ := h; gC (v := .int i) (fun _ => .int i) e ⟨_, rfl⟩ hg hd
theorem gcS {x : Str} {i : Str} (h : ∃ t, X.mg x = some (.str i t)) (hg : Gl X x := by rfl) (hd : (x == ("__debug__" : Str)) = false := by decide) : PE X (.Name x pos) (tP X.K (kR (.str i))) := let ⟨_, e⟩ := h; gC (v := .str i) (fun _ => .str i) e ⟨_, rfl⟩ hg hd
/-! ### further statements -/
theorem sNever {g : List Sl → R Out} : PS X st (tS X.K fun _ => fail) := PS.wk ps_never fun D σ H ⟨c, G, ρ, post, w, r, hg, q⟩ => hg
theorem sDoc {x j pos'} : PS X (.Expr (.Constant (.str x) j pos) pos') (tS X.K nilM) := PS.wk ps_doc fun D σ H ⟨c, G, ρ, post, w, r, hg, q⟩ => q _ hg σ G H (fun _ _ e => e) w r
def mulIR : D → D → R D
  | .int i, .int j => bd (req (CMul i j)) fun _ => ok (.int (i * j))
  | _, _ => fail
theorem bop_mulI2 : Bop X.K (rI CMul fun i j => .int (i * j)) mulIR := by
  intro c G H x y d e post Q w b1 b2 hp q
  cases d <;> cases e <;> try exact hp.elim
  exact ⟨_, _, b1.int, b2.int, hp.1, q _ hp.2 _ G H .refl w (.int _)⟩
section
variable {x : Str} {pos' : Pos} {f : List Sl → R D}
theorem sAugAdd (i : Nat) (hN : X.N.Nodup) (he : PE X e (tB X.K f)) (hi : X.N[i]? = some x := by rfl) (hx : Loc X.env.scope x := by first | exact Or.inl rfl | exact Or.inr rfl) (hf : X.fn x = true ∨ X.env.scope.names.lookup x = some .local := by first | exact .inl rfl | exact .inr rfl) : PS X (.AugAssign (.Name x pos') .Add e pos) (tS X.K (augM i f addIR)) := sAug i iop_add bop_addI hN he hi hx hf
theorem sAugSub (i : Nat) (hN : X.N.Nodup) (he : PE X e (tB X.K f)) (hi : X.N[i]? = some x := by rfl) (hx : Loc X.env.scope x := by first | exact Or.inl rfl | exact Or.inr rfl) (hf : X.fn x = true ∨ X.env.scope.names.lookup x = some .local := by first | exact .inl rfl | exact .inr rfl) : PS X (.AugAssign (.Name x pos') .Sub e pos) (tS X.K (augM i f subR)) := sAug i iop_sub bop_sub hN he hi hx hf
theorem sAugMul (i : Nat) (hN : X.N.Nodup) (he : PE X e (tB X.K f)) (hi : X.N[i]? = some x := by rfl) (hx : Loc X.env.scope x := by first | exact Or.inl rfl | exact Or.inr rfl) (hf : X.fn x = true ∨ X.env.scope.names.lookup x = some .local := by first | exact .inl rfl | exact .inr rfl) : PS X (.AugAssign (.Name x pos') .Mult e pos) (tS X.K (augM i f mulIR)) := sAug i iop_mul bop_mulI2 hN he hi hx hf
end
/-! ### several names at once: each its own kind of value -/
def rD (f : List Sl → R D) : List Sl → R Sl := fun ρ => bd (f ρ) fun d => ok (.dat d)
def rO (f : List Sl → R (List D)) : List Sl → R Sl := fun ρ => bd (f ρ) fun ds => ok (.own ds)
inductive SlAll (K : PySem.W.Frag) (c : Ct) (G H : Hp) : List V → List Sl → Prop
  | nil : SlAll K c G H [] []
  | cons {v : V} {vs : List V} {x : Sl} {xs : List Sl} : SlOk K c G H x v → (∀ es, x = .own es → ∀ (j : Nat) fs, xs[j]? = some (.own fs) → vs[j]? ≠ some v) → SlAll K c G H vs xs → SlAll K c G H (v :: vs) (x :: xs)
theorem SlAll.ext {K : PySem.W.Frag} {c : Ct} {G H G' H' : Hp} (e : Ext c.E G H G' H') : ∀ {vs : List V} {xs : List Sl}, SlAll K c G H vs xs → SlAll K c G' H' vs xs
  | _, _, .nil => .nil
  | _, _, .cons s d t => .cons (s.ext e) d (SlAll.ext e t)
/-- new: the own ones among them are at places where nothing stood -/
def tM (K : PySem.W.Frag) (f : List Sl → R (List Sl)) : TA := fun σ H Q => ∃ (c : Ct) (G : Hp) (ρ : List Sl) (post : List Sl → Prop), Wd c G H ∧ RS K c G H σ ρ ∧ f ρ post ∧
  ∀ xs, post xs → ∀ vs G' H', Ext c.E G H G' H' → W0 c.E G' H' → SlAll K c G' H' vs xs → (∀ (j : Nat) es a, xs[j]? = some (.own es) → vs[j]? = some (.ref a) → H a = none) → Q vs H'
theorem mN : PA X [] (tM X.K nilR) := PA.wk pa_nil fun σ H Q ⟨c, G, ρ, post, w, r, hf, q⟩ => q [] hf [] G H .refl w.w .nil fun j _ _ h => by simp at h
theorem mD {f : List Sl → R D} {g : List Sl → R (List Sl)} (ha : PE X a (tP X.K f)) (hr : PA X es (tM X.K g)) (hs : starEach (a :: es) X.env = (false, eval a X.env) :: starEach es X.env := by rfl) : PA X (a :: es) (tM X.K (consR (rD f) g)) :=
  PA.wk (pa_cons ha hr hs) fun σ H Q ⟨c, G, ρ, post, w, r, hf, q⟩ => by
    refine ⟨c, G, ρ, _, w, r, hf, fun d hd v G1 H1 e1 w1 b1 => ?_⟩
    refine ⟨c, G1, ρ, _, w.step w1 e1, r.ext e1, hd, fun xs hxs vs G2 H2 e2 w2 b2 n2 => q (.dat d :: xs) hxs _ G2 H2 (e1.trans e2) w2 (.cons (SlOk.ext (x := .dat d) e2 b1) (fun es h => by cases h) b2) fun j es a h1 h2 => ?_⟩
    cases j with
    | zero => cases h1
    | succ j =>
      have hn := n2 j es a h1 h2
      exact e1.none hn (w1.fresh hn).2
theorem mO {f : List Sl → R (List D)} {g : List Sl → R (List Sl)} (ha : PE X a (tF X.K f)) (hr : PA X es (tM X.K g)) (hs : starEach (a :: es) X.env = (false, eval a X.env) :: starEach es X.env := by rfl) : PA X (a :: es) (tM X.K (consR (rO f) g)) :=
  PA.wk (pa_cons ha hr hs) fun σ H Q ⟨c, G, ρ, post, w, r, hf, q⟩ => by
    refine ⟨c, G, ρ, _, w, r, hf, fun d hd p G1 H1 n1 e1 w1 o1 => ?_⟩
    refine ⟨c, G1, ρ, _, w.step w1 e1, r.ext e1, hd, fun xs hxs vs G2 H2 e2 w2 b2 n2 => q (.own d :: xs) hxs _ G2 H2 (e1.trans e2) w2 (.cons ⟨p, rfl, o1.ext e2⟩ (fun es h j fs h1 h2 => ?_) b2) fun j es a h1 h2 => ?_⟩
    · obtain ⟨vs1, hv, _⟩ := o1.at_
      have hn := n2 j fs p h1 h2
      rw [hn] at hv; cases hv
    · cases j with
      | zero => cases h2; exact n1
      | succ j =>
        have hn := n2 j es a h1 h2
        exact e1.none hn (w1.fresh hn).2
def setsR : List Nat → List Sl → List Sl → R (List Sl)
  | [], [], ρ => ok ρ
  | i :: is, x :: xs, ρ => setsR is xs (ρ.set i x)
  | _, _, _ => fail
def setsM (is : List Nat) (f : List Sl → R (List Sl)) : List Sl → R Out := fun ρ => bd (f ρ) fun xs => bd (setsR is xs ρ) fun ρ' => ok (.nx ρ')
/-- a slot is set to a value of any kind that is at no other slot -/
theorem RS.setA {K : PySem.W.Frag} {c : Ct} {G H : Hp} {σ : L2.St} {ρ : List Sl} (r : RS K c G H σ ρ) {i : Nat} {v : V} {x : Sl} (q : SlOk K c G H x v) (new : ∀ es, x = .own es → ∀ (j : Nat) fs, ρ[j]? = some (.own fs) → σ[j]? ≠ some (some v)) : RS K c G H (σ.set i (some v)) (ρ.set i x) := by
  cases x with
  | un => exact r.wipe1 i _
  | dat d => exact r.setD q
  | own es =>
    obtain ⟨a, rfl, o⟩ := q
    exact r.setO o fun j fs h => new es rfl j fs h
  | box k =>
    refine ⟨by simp [r.len], fun j y h => ?_, fun j l ds es u h1 h2 h3 h4 => ?_⟩
    · rcases set_get h with ⟨rfl, rfl⟩ | ⟨hj, h⟩
      · have hl : j < σ.length := by
          rw [r.len]; have := (List.getElem?_eq_some_iff.mp h).1; simpa using this
        exact .inr ⟨v, List.getElem?_set_self hl, q⟩
      · rcases r.at_ j y h with e | ⟨u, e, s⟩
        · exact .inl e
        · exact .inr ⟨u, by rw [List.getElem?_set_ne (Ne.symm hj)]; exact e, s⟩
    · rcases set_get h1 with ⟨_, e⟩ | ⟨n1, e1⟩
      · cases e
      · rcases set_get h2 with ⟨_, e⟩ | ⟨n2, e2⟩
        · cases e
        · rw [List.getElem?_set_ne (Ne.symm n1)] at h3
          rw [List.getElem?_set_ne (Ne.symm n2)] at h4
          exact r.dis j l ds es u e1 e2 h3 h4
def setV : List Nat → List V → L2.St → L2.St
  | i :: is, v :: vs, σ => setV is vs (σ.set i (some v))
  | _, _, σ => σ
theorem rs_sets {K : PySem.W.Frag} {c : Ct} {G H : Hp} {post : List Sl → Prop} : ∀ {is : List Nat} {vs : List V} {xs : List Sl} {σ : L2.St} {ρ : List Sl}, RS K c G H σ ρ → SlAll K c G H vs xs → (∀ (j : Nat) es v, xs[j]? = some (.own es) → vs[j]? = some v → ∀ (l : Nat) fs, ρ[l]? = some (.own fs) → σ[l]? ≠ some (some v)) →
    setsR is xs ρ post → ∃ ρ', post ρ' ∧ RS K c G H (setV is vs σ) ρ' ∧ is.length = vs.length
  | [], _, [], σ, ρ, r, .nil, _, h => ⟨ρ, h, r, rfl⟩
  | [], _, _ :: _, _, _, _, _, _, h => h.elim
  | _ :: _, _, [], _, _, _, _, _, h => h.elim
  | i :: is, _, x :: xs, σ, ρ, r, .cons (v := v) (vs := vs) s d t, n, h => by
    obtain ⟨ρ', h1, h2, h3⟩ := rs_sets (is := is) (vs := vs) (xs := xs) (σ := σ.set i (some v)) (ρ := ρ.set i x) (r.setA s fun es he j fs hj => n 0 es v (by rw [he]; rfl) rfl j fs hj) t (fun j es u h1 h2 l fs hl hσ => by
      rcases set_get hl with ⟨rfl, hx⟩ | ⟨hne, hl⟩
      · have hls : l < σ.length := by
          have := (List.getElem?_eq_some_iff.mp hσ).1; simpa using this
        rw [List.getElem?_set_self hls] at hσ
        have : v = u := by simpa using hσ
        subst this
        exact d fs hx.symm j es h1 h2
      · rw [List.getElem?_set_ne (Ne.symm hne)] at hσ
        exact n (j + 1) es u h1 h2 l fs hl hσ) h
    exact ⟨ρ', h1, h2, by simp [h3]⟩
theorem tm_new {K : PySem.W.Frag} {c : Ct} {G H G' H' : Hp} {σ : L2.St} {ρ : List Sl} (r : RS K c G H σ ρ) {vs : List V} {xs : List Sl} (k : SlAll K c G' H' vs xs) (n : ∀ (j : Nat) es a, xs[j]? = some (.own es) → vs[j]? = some (.ref a) → H a = none) :
    ∀ (j : Nat) es v, xs[j]? = some (.own es) → vs[j]? = some v → ∀ (l : Nat) fs, ρ[l]? = some (.own fs) → σ[l]? ≠ some (some v) := by
  intro j es v h1 h2 l fs hl hσ
  have key : ∀ {vs : List V} {xs : List Sl}, SlAll K c G' H' vs xs → ∀ (j : Nat) es v, xs[j]? = some (.own es) → vs[j]? = some v → ∃ a, v = .ref a := by
    intro vs xs k
    induction k with
    | nil => intro j es v h; simp at h
    | cons s d t ih =>
      intro j es v h1 h2
      cases j with
      | zero => cases h1; cases h2; obtain ⟨a, rfl, _⟩ := s; exact ⟨a, rfl⟩
      | succ j => exact ih j es v h1 h2
  obtain ⟨a, rfl⟩ := key k j es v h1 h2
  exact r.new (n j es a h1 h2) l fs hl hσ
theorem sPar2 (i j : Nat) {x y : Str} {px py pt : Pos} {kt k2 pt2} {g : List Sl → R (List Sl)} (hN : X.N.Nodup) (ha : PA X [a, b] (tM X.K g)) (hi : X.N[i]? = some x := by rfl) (hj : X.N[j]? = some y := by rfl) (hij : i ≠ j := by decide) (hx : X.env.scope.names.lookup x = some .local := by rfl) (hy : X.env.scope.names.lookup y = some .local := by rfl)
    (hc : X.calm = true := by rfl) (hw : swappedStores [.Tuple [.Name x px, .Name y py] kt pt] (.Tuple [a, b] k2 pt2) X.env = pure (some [x, y]) := by rfl) (hs : swapsWithSole [.Tuple [.Name x px, .Name y py] kt pt] (.Tuple [a, b] k2 pt2) pos.line X.env = pure false := by rfl) :
    PS X (.Assign [.Tuple [.Name x px, .Name y py] kt pt] (.Tuple [a, b] k2 pt2) pos) (tS X.K (setsM [i, j] g)) := PS.wk (ps_par hc hN hi hj hij hx hy ha hw hs) fun D σ H ⟨c, G, ρ, post, w, r, hg, q⟩ =>
  ⟨c, G, ρ, _, w, r, hg, fun xs hxs vs G' H' e' w' k n => by
    obtain ⟨ρ', h1, h2, h3⟩ := rs_sets (r.ext e') k (tm_new r k n) hxs
    match vs, h3, h2 with
    | [v, u], _, h2 => exact ⟨v, u, rfl, q _ h1 _ G' H' e'.g (w.step w' e') h2⟩⟩
theorem sPar3 (i j l : Nat) {x y z : Str} {c : Expr} {px py pz pt : Pos} {kt k2 pt2} {g : List Sl → R (List Sl)} (hN : X.N.Nodup) (ha : PA X [a, b, c] (tM X.K g)) (hi : X.N[i]? = some x := by rfl) (hj : X.N[j]? = some y := by rfl) (hl : X.N[l]? = some z := by rfl) (hij : i ≠ j := by decide) (hil : i ≠ l := by decide) (hjl : j ≠ l := by decide)
    (hx : X.env.scope.names.lookup x = some .local := by rfl) (hy : X.env.scope.names.lookup y = some .local := by rfl) (hz : X.env.scope.names.lookup z = some .local := by rfl)
    (hc : X.calm = true := by rfl) (hw : swappedStores [.Tuple [.Name x px, .Name y py, .Name z pz] kt pt] (.Tuple [a, b, c] k2 pt2) X.env = pure (some [x, y, z]) := by rfl) (hs : swapsWithSole [.Tuple [.Name x px, .Name y py, .Name z pz] kt pt] (.Tuple [a, b, c] k2 pt2) pos.line X.env = pure false := by rfl) :
    PS X (.Assign [.Tuple [.Name x px, .Name y py, .Name z pz] kt pt] (.Tuple [a, b, c] k2 pt2) pos) (tS X.K (setsM [i, j, l] g)) := PS.wk (ps_par3 hc hN hi hj hl hij hil hjl hx hy hz ha hw hs) fun D σ H ⟨c, G, ρ, post, w, r, hg, q⟩ =>
  ⟨c, G, ρ, _, w, r, hg, fun xs hxs vs G' H' e' w' k n => by
    obtain ⟨ρ', h1, h2, h3⟩ := rs_sets (r.ext e') k (tm_new r k n) hxs
    match vs, h3, h2 with
    | [v, u, t], _, h2 => exact ⟨v, u, t, rfl, q _ h1 _ G' H' e'.g (w.step w' e') h2⟩⟩
/-- by the tuple itself -/
def gSets : List Nat → TGs
  | [] => gNil
  | i :: is => gCons (gName i) (gSets is)
theorem gsets_ok : ∀ {is : List Nat} {vs : List V} {σ : L2.St} {H : Hp} {Q : L2.St → Hp → Prop}, is.length = vs.length → Q (setV is vs σ) H → gSets is vs σ H Q
  | [], [], _, _, _, _, q => ⟨rfl, q⟩
  | i :: is, v :: vs, σ, H, Q, h, q => ⟨v, vs, rfl, gsets_ok (by simpa using h) q⟩
theorem mgN : PGs X [] (gSets []) := pgs_nil
theorem mgC (i : Nat) {x : Str} {p : Pos} {is : List Nat} (hN : X.N.Nodup) (h : PGs X es (gSets is)) (hi : X.N[i]? = some x := by rfl) (hx : Loc X.env.scope x := by first | exact Or.inl rfl | exact Or.inr rfl) (hf : X.fn x = true ∨ X.env.scope.names.lookup x = some .local := by first | exact .inl rfl | exact .inr rfl)
    (hs : (assignEach (.Name x p :: es) X.env).map (·.2) = assign (.Name x p) X.env :: (assignEach es X.env).map (·.2) := by rfl) : PGs X (.Name x p :: es) (gSets (i :: is)) := pgs_cons (pg_name hN hi hx hf) h hs
theorem SlAll.length {K : PySem.W.Frag} {c : Ct} {G H : Hp} {vs : List V} {xs : List Sl} (h : SlAll K c G H vs xs) : vs.length = xs.length := by
  induction h with
  | nil => rfl
  | cons _ _ _ ih => simp [ih]
theorem sTup {ts : List Expr} {is : List Nat} {n : Nat} {kt k2 : Nat} {pt pt2 : Pos} {g : List Sl → R (List Sl)} (hg : PGs X ts (gSets is)) (ha : PA X es (tM X.K g)) (hn : (assignEach ts X.env).length = n := by rfl) (hst : (assignEach ts X.env).findIdx? (·.1) = none := by rfl) (hc : X.calm = true := by rfl) (hni : is.length = n := by rfl) (hn2 : is.length ≤ 100 := by decide)
    (hs : swapsWithSole [.Tuple ts kt pt] (.Tuple es k2 pt2) pos.line X.env = pure false := by rfl) (hw : swappedStores [.Tuple ts kt pt] (.Tuple es k2 pt2) X.env = pure none := by rfl) (h1 : (assignEach [.Tuple ts kt pt] X.env).map (·.2) = [assign (.Tuple ts kt pt) X.env] := by rfl) :
    PS X (.Assign [.Tuple ts kt pt] (.Tuple es k2 pt2) pos) (tS X.K (setsM is g)) := PS.wk (ps_asg (pe_tup ha) (pg_tup hc hg hn hst) hs hw h1) fun D σ H ⟨c, G, ρ, post, w, r, hg, q⟩ =>
  ⟨c, G, ρ, _, w, r, hg, fun xs hxs vs G' H' e' w' k nn => by
    obtain ⟨ρ', h1, h2, h3⟩ := rs_sets (r.ext e') k (tm_new r k nn) hxs
    refine ⟨Nat.le_trans (by omega : vs.length ≤ 100) (by decide), fun p hp => ?_⟩
    refine ⟨p, vs, rfl, .of upd_same, by omega, gsets_ok h3 ?_⟩
    obtain ⟨w3, e3⟩ := w'.new hp (.tup vs)
    exact q _ h1 _ G' _ e'.g ((w.step w' e').step w3 e3) (h2.ext e3)⟩
/-- x += [..], x an own list -/
theorem sAugExt (i : Nat) {x : Str} {pos' : Pos} {f : List Sl → R D} (hN : X.N.Nodup) (he : PE X e (tB X.K f)) (hi : X.N[i]? = some x := by rfl) (hx : Loc X.env.scope x := by first | exact Or.inl rfl | exact Or.inr rfl) (hf : X.fn x = true ∨ X.env.scope.names.lookup x = some .local := by first | exact .inl rfl | exact .inr rfl) :
    PS X (.AugAssign (.Name x pos') .Add e pos) (tS X.K (mutM i (consR f nilR) extR)) :=
  PS.wk (ps_aug hN hi hx he (fun pins s σ H x y v u Q I rx ry q => iop_ext pins s σ H x y v u Q I rx ry q) hf) fun D σ H ⟨c, G, ρ, post, w, r, hg, q⟩ => by
    obtain ⟨ds, e0, hg⟩ := getO_inv hg
    rcases r.at_ i _ e0 with z | ⟨v, e1, a, rfl, o⟩
    · cases z
    · refine ⟨_, e1, c, G, ρ, _, w, r, hg, fun y hy u G' H' e' w' b => ?_⟩
      obtain ⟨ds', e0', hy⟩ := getO_inv hy
      rw [e0] at e0'; cases e0'
      have o' := o.ext e'
      obtain ⟨vs, hv, kv⟩ := o'.at_
      cases y with
      | list ys =>
        obtain ⟨p, us, rfl, h1, h2, _⟩ := b.lst w'
        have kw := kv.append h2
        refine ⟨a, p, vs, us, rfl, rfl, hv, h1, by rw [kv.length, h2.length]; exact hy.1, ?_⟩
        have r2 := (r.ext e').mut e0 e1 o' kw
        have e3 : σ.set i (some (.ref a)) = σ := by
          apply List.ext_getElem?
          intro j
          by_cases hj : j = i
          · subst hj
            have hl : j < σ.length := (List.getElem?_eq_some_iff.mp e1).1
            rw [List.getElem?_set_self hl, e1]
          · rw [List.getElem?_set_ne (Ne.symm hj)]
        show D.nx (σ.set i (some (.ref a))) _
        rw [e3]
        exact q _ hy.2 σ G' _ e'.g (Wd.mut (w.step w' e') o' kw).1 r2
      | _ => exact hy.elim
end
/-! ### a def of the text, with what it computes -/
structure Def (P : Program) (w : World) (K : PySem.W.Frag) (mg : Str → Option Value) (base : Heap) (x : Str) (ps : List Str) (k : Nat) (sp : Sp) : Prop where
  ex : ∃ f fd, mg x = some (.ref f) ∧ PySem.W.keepIn K (.ref f) = true ∧ L2.Binds K fd ps [] ∧ FnOk P w K mg base CX0 k f fd ps sp
section
variable {X : Cx} {k n j : Nat} {ps : List Str} {m : List D → R D} {x : Str} {p pos : Pos} {e : Expr} {es : List Expr}
theorem callD {g : List Sl → R (List D)} (F : Def X.prog X.w X.K X.mg X.base x ps k (spR X.K n m)) (hr : Room k X.A) (ha : PA X (e :: es) (tAF X.K g))
    (hg : Gl X x := by rfl) (hdb : (x == ("__debug__" : Str)) = false := by decide) (he : starEach (e :: es) X.env = (false, eval e X.env) :: starEach es X.env := by rfl) (hpl : (backTo pos (starEach es X.env)).any (·.1) = false := by rfl) : PE X (.Call (.Name x p) (e :: es) [] pos) (tP X.K (m1 g (callR n m))) :=
  let ⟨_, _, hm, hk, hb, F⟩ := F.ex
  call F hr hm hk hb ha hg hdb he hpl
theorem callD_0 (F : Def X.prog X.w X.K X.mg X.base x ps k (spR X.K 0 m)) (hr : Room k X.A)
    (hg : Gl X x := by rfl) (hdb : (x == ("__debug__" : Str)) = false := by decide) : PE X (.Call (.Name x p) [] [] pos) (tP X.K (m1 nilR (callR 0 m))) :=
  let ⟨_, _, hm, hk, hb, F⟩ := F.ex
  call0 F hr hm hk hb hg hdb
theorem callD_X (i : Nat) {y : Str} {q1 : Pos} {g : List Sl → R (List D)} {pp : Str} (F : Def X.prog X.w X.K X.mg X.base x (pp :: ps) k (spX X.K j n m)) (hr : Room k X.A) (ha : PA X es (tAF X.K g))
    (hN : X.N[i]? = some y := by rfl) (hv : Vis X.env.scope y := by first | exact Or.inl rfl | exact Or.inr (Or.inl rfl) | exact Or.inr (Or.inr rfl)) (hd : (y == ("__debug__" : Str)) = false := by decide) (hcd : (y == ("__classdict__" : Str)) = false := by decide)
    (hg : Gl X x := by rfl) (hdb : (x == ("__debug__" : Str)) = false := by decide) (hs : starEach (.Name y q1 :: es) X.env = (false, eval (.Name y q1) X.env) :: starEach es X.env := by rfl) (hpl : (backTo pos (starEach es X.env)).any (·.1) = false := by rfl) : PE X (.Call (.Name x p) (.Name y q1 :: es) [] pos) (tP X.K (callX i j n g m)) :=
  let ⟨_, _, hm, hk, hb, F⟩ := F.ex
  callBx i F hr hm hk hb ha hN hv hd hcd hg hdb hs hpl
end
end Pu

namespace Pu
open PySem PySem.Spec PyProof.Rows L2 HT
/-! ### t * k -/
theorem tuple_mul_same (l : Addr) (items : Array Value) (n : Nat) (sl : Array (Option Value)) (x : Int) (u : Tok) (c0 : (decide (x < -(2 ^ 63)) || decide (x ≥ 2 ^ 63)) = false) (c1 : (items.isEmpty || x == 1) = true) (dd : Option Addr) :
    Meets (Builtin.«tuple.__mul__» ⟨[.ref l, .int x u], []⟩) (fun _ R s => s.heap.get? l = some { cls := .type "tuple", dict := dd, data := .seq items n, slots := sl } ∧
      R (.ok (.ret (Value.ref l))) s) :=
  .of_wp fun prog w A R s h => by
    obtain ⟨hp, g, d, tk, os⟩ := s
    obtain ⟨hl, h⟩ := h
    have f1 := AutoSeq1.idx_int
    wp_walk using wpAny_loadPart' hl
    repeat (first
      | (refine wpAny_ite_false (decide_eq_false (by rw [c0]; exact Bool.false_ne_true)) ?_; wp_walk using wpAny_loadPart' hl)
      | (refine wpAny_ite_true (decide_eq_true (by rw [c1])) ?_; wp_walk using wpAny_loadPart' hl))
    exact ⟨_, rfl, h⟩
theorem tuple_mul_none (l : Addr) (items : Array Value) (n : Nat) (sl : Array (Option Value)) (x : Int) (u : Tok) (c0 : (decide (x < -(2 ^ 63)) || decide (x ≥ 2 ^ 63)) = false) (c1 : (items.isEmpty || x == 1) = false) (c2 : (decide (x ≤ 0) || items.isEmpty) = true) (dd : Option Addr) :
    Meets (Builtin.«tuple.__mul__» ⟨[.ref l, .int x u], []⟩) (fun _ R s => s.heap.get? l = some { cls := .type "tuple", dict := dd, data := .seq items n, slots := sl } ∧
      R (.ok (.ret (Value.ref s.heap.objs.size))) { s with heap := s.heap.push { cls := Value.type "tuple", data := Data.seq #[] }, toks := s.toks }) :=
  .of_wp fun prog w A R s h => by
    obtain ⟨hp, g, d, tk, os⟩ := s
    obtain ⟨hl, h⟩ := h
    have f1 := AutoSeq1.idx_int
    have hz : ¬ (#[] : Array Value).size > sizeLine := by decide
    wp_walk using wpAny_loadPart' hl
    repeat (first
      | (refine wpAny_ite_false (decide_eq_false (by rw [c0]; exact Bool.false_ne_true)) ?_; wp_walk using wpAny_loadPart' hl)
      | (refine wpAny_ite_false (decide_eq_false (by rw [c1]; exact Bool.false_ne_true)) ?_; wp_walk using wpAny_loadPart' hl)
      | (refine wpAny_ite_true (decide_eq_true (by rw [c2])) ?_; wp_walk using wpAny_loadPart' hl)
      | (refine wpAny_ite_false (decide_eq_false hz) ?_; wp_walk using wpAny_loadPart' hl))
    exact ⟨_, rfl, h⟩
def rRepA (K : PySem.W.Frag) : R2 := fun x y H Q => ∃ l k xs, x = .ref l ∧ y = .int k ∧ SqT K H l xs ∧ -(2 ^ 63) ≤ k ∧ k < 2 ^ 63 ∧ xs.length * k.toNat ≤ sizeLine ∧ ((xs = [] ∨ k = 1) → Q (.ref l) H) ∧ (¬ (xs = [] ∨ k = 1) → ∀ p, H p = none → Q (.ref p) (upd H p (.tup (List.replicate k.toNat xs).flatten)))
section
variable {X : Cx}
theorem op_repA : OpR X (binaryOp .Mult) (rRepA X.K) := by
  intro pins s σ H x y v u Q I rx ry h
  obtain ⟨l, k, xs, rfl, rfl, hT, h1, h2, hz, q1, q2⟩ := h
  cases rx
  obtain ⟨t, rfl⟩ := ry
  obtain ⟨its, r, ⟨⟨cls, dd, data, sl⟩, ho, hc, n, hd⟩, hs⟩ := I.tuple hT
  simp only at hc hd
  subst hc hd
  have hle : its.length = xs.length := r.length.symm
  have hi : its.toArray.isEmpty = xs.isEmpty := by
    cases its with
    | nil => cases xs with
      | nil => rfl
      | cons a b => simp at hle
    | cons a b => cases xs with
      | nil => simp at hle
      | cons a b => rfl
  have hsz0 : its.toArray.size = xs.length := by rw [List.size_toArray, hle]
  have c0 : (decide (k < -(2 ^ 63)) || decide (k ≥ 2 ^ 63)) = false := by
    rw [decide_eq_false (by omega), decide_eq_false (by omega)] <;> rfl
  by_cases hsame : xs = [] ∨ k = 1
  · have c1 : (its.toArray.isEmpty || k == 1) = true := by
      rw [hi]
      rcases hsame with e | e
      · rw [e]; rfl
      · rw [e]; simp
    refine wpAny_binaryOp_repeat_ref (T := "tuple") (U := "int") (by decide) ⟨_, ho, rfl⟩ (fun s' => typeIs_int s' k t) noFill_tuple_mul F.fills_int_mul F.slot_int_rmul repeat_tuple F.slot_int_index.lookup
      (call_meets F.slot_int_rmul (typeIs_int s k t) F.entry_int_rmul (F.args_int_rmul_2 _ _) (int_rmul_tuple k t l its.toArray n dd sl)
        ⟨ho, rfl, ⟨_, ho, rfl⟩, call_meets F.slot_tuple_mul ⟨_, ho, rfl⟩ F.entry_tuple_mul (F.args_tuple_mul_2 _ _) (tuple_mul_same l its.toArray n sl k t c0 c1 dd) ⟨ho, ?_⟩⟩)
    exact ⟨.ref l, H, I, rfl, q1 hsame⟩
  · have c1 : (its.toArray.isEmpty || k == 1) = false := by
      rw [hi]
      cases xs with
      | nil => exact absurd (.inl rfl) hsame
      | cons a b =>
        rw [show (a :: b).isEmpty = false from rfl, Bool.false_or]
        exact beq_eq_false_iff_ne.mpr fun e => hsame (.inr e)
    have he : its.toArray.isEmpty = false := by
      cases hq : its.toArray.isEmpty with
      | false => rfl
      | true => rw [hq, Bool.true_or] at c1; cases c1
    have flen : (List.replicate k.toNat xs).flatten.length ≤ sizeLine := by
      rw [PyProof.Rows.lm_len_rep_flat, Nat.mul_comm]; exact hz
    have flen2 : (List.replicate k.toNat its).flatten.length ≤ sizeLine := by
      rw [PyProof.Rows.lm_len_rep_flat, Nat.mul_comm, hle]; exact hz
    by_cases hk : k ≤ 0
    · have c2 : (decide (k ≤ 0) || its.toArray.isEmpty) = true := by rw [decide_eq_true hk]; rfl
      refine wpAny_binaryOp_repeat_ref (T := "tuple") (U := "int") (by decide) ⟨_, ho, rfl⟩ (fun s' => typeIs_int s' k t) noFill_tuple_mul F.fills_int_mul F.slot_int_rmul repeat_tuple F.slot_int_index.lookup
        (call_meets F.slot_int_rmul (typeIs_int s k t) F.entry_int_rmul (F.args_int_rmul_2 _ _) (int_rmul_tuple k t l its.toArray n dd sl)
          ⟨ho, rfl, ⟨_, ho, rfl⟩, call_meets F.slot_tuple_mul ⟨_, ho, rfl⟩ F.entry_tuple_mul (F.args_tuple_mul_2 _ _) (tuple_mul_none l its.toArray n sl k t c0 c1 c2 dd) ⟨ho, ?_⟩⟩)
      have e0 : (List.replicate k.toNat xs).flatten = [] := by rw [show k.toNat = 0 by omega]; rfl
      have q3 := q2 hsame _ (I.hok.fresh (Nat.le_refl _))
      rw [e0] at q3
      refine ⟨.ref s.heap.objs.size, _, I.laid (t' := s.toks) (o := .tup []) (fun b ob q => Heap.get?_push_of_some _ q) (Nat.le_refl _) ?_, rfl, q3⟩
      exact ⟨Nat.zero_le _, [], .nil, IsTup.new _ _⟩
    · have c2 : (decide (k ≤ 0) || its.toArray.isEmpty) = false := by
        rw [he, Bool.or_false]; exact decide_eq_false hk
      have hm : ((its.toArray.size : Nat) : Int) * k ≤ (sizeLine : Nat) := by
        rw [hsz0]
        have hk2 : ((k.toNat : Nat) : Int) = k := by omega
        rw [← hk2, ← Int.natCast_mul]
        exact Int.ofNat_le.mpr hz
      have c4 : Builtin.Tuple.tupleTooMany (((its.toArray.size : Nat) : Int) * k) = false := by
        unfold Builtin.Tuple.tupleTooMany
        exact decide_eq_false (by omega)
      have c3 : ¬ ((its.toArray.size : Nat) : Int) * k > (2 ^ 63 - 1) / 8 := by
        rw [sizeLine_eq] at hm
        omega
      refine wpAny_binaryOp_repeat_ref (T := "tuple") (U := "int") (by decide) ⟨_, ho, rfl⟩ (fun s' => typeIs_int s' k t) noFill_tuple_mul F.fills_int_mul F.slot_int_rmul repeat_tuple F.slot_int_index.lookup
        (call_meets F.slot_int_rmul (typeIs_int s k t) F.entry_int_rmul (F.args_int_rmul_2 _ _) (int_rmul_tuple k t l its.toArray n dd sl)
          ⟨ho, rfl, ⟨_, ho, rfl⟩, call_meets F.slot_tuple_mul ⟨_, ho, rfl⟩ F.entry_tuple_mul (F.args_tuple_mul_2 _ _) (tuple_mulW l its.toArray n dd sl k t c0 c1 c2 c3 c4 (by rw [size_rep, List.size_toArray]; exact flen2)) ⟨ho, ?_⟩⟩)
      rw [size_rep]
      refine ⟨.ref s.heap.objs.size, _, I.laid (t' := s.toks) (o := .tup (List.replicate k.toNat xs).flatten) (fun b ob q => Heap.get?_push_of_some _ q) (Nat.le_refl _) ?_, rfl, q2 hsame _ (I.hok.fresh (Nat.le_refl _))⟩
      exact ⟨flen, _, r.rep k.toNat, IsTup.new _ _⟩
/-- a * b: numbers; a tuple, a list some times -/
def repOk (xs : List D) (k : Int) : Prop := -(2 ^ 63) ≤ k ∧ k < 2 ^ 63 ∧ xs.length * k.toNat ≤ sizeLine
def mulR : D → D → R D
  | .int i, .int j => bd (req (mulOk i j)) fun _ => ok (.int (i * j))
  | .tuple xs, .int k => bd (req (repOk xs k)) fun _ => ok (.tuple (List.replicate k.toNat xs).flatten)
  | .list xs, .int k => bd (req (repOk xs k)) fun _ => ok (.list (List.replicate k.toNat xs).flatten)
  | _, _ => fail
theorem DqAll.rep {K : PySem.W.Frag} {G : Hp} {vs : List V} {ds : List D} (h : DqAll K G vs ds) : ∀ k : Nat, DqAll K G (List.replicate k vs).flatten (List.replicate k ds).flatten
  | 0 => .nil
  | k + 1 => by
    rw [List.replicate_succ, List.replicate_succ, List.flatten_cons, List.flatten_cons]
    exact h.append (DqAll.rep h k)
theorem bop_mulA : Bop X.K (fun x y H Q => (rI CMul (fun i j => .int (i * j)) x y H Q ∨ rI CMulW (fun i j => .int (i * j)) x y H Q) ∨ (rRepA X.K x y H Q ∨ rRep x y H Q)) mulR := by
  intro c G H x y d e post Q w b1 b2 hp q
  match d, e, hp with
  | .int i, .int j, hp => exact .inl (bop_mul (X := X) c G H x y (.int i) (.int j) post Q w b1 b2 hp q)
  | .tuple xs, .int k, hp =>
    obtain ⟨t1, vs, rfl, s1, k1⟩ := b1.tup
    obtain ⟨hs, hp⟩ := hp
    refine .inr (.inl ⟨t1, k, vs, rfl, b2.int, sqT_mono w.sub s1, hs.1, hs.2.1, by rw [k1.length]; exact hs.2.2, fun h => ?_, fun _ p np => ?_⟩)
    · have e0 : (List.replicate k.toNat xs).flatten = xs := by
        rcases h with h | h
        · subst h; cases k1
          cases k.toNat <;> simp [List.replicate_succ]
        · subst h; simp
      have hp2 : post (.tuple xs) := by rw [← e0]; exact hp
      exact q _ hp2 _ G H .refl w (.tup s1 k1)
    · obtain ⟨w1, e1⟩ := w.newF np (.tup (List.replicate k.toNat vs).flatten)
      exact q _ hp _ _ _ e1 w1 (.tup (.of upd_same) ((k1.mono e1.g).rep _))
  | .list xs, .int k, hp =>
    obtain ⟨t1, vs, rfl, s1, k1, _⟩ := b1.lst w
    obtain ⟨hs, hp⟩ := hp
    refine .inr (.inr ⟨t1, k, vs, rfl, b2.int, s1, hs.1, hs.2.1, by rw [k1.length]; exact hs.2.2, fun p np => ?_⟩)
    obtain ⟨w1, e1⟩ := w.newF np (.lst (List.replicate k.toNat vs).flatten)
    exact q _ hp _ _ _ e1 w1 (.lst upd_same ((k1.mono e1.g).rep _))
theorem oMul {a b : Expr} {pos : Pos} {f g : List Sl → R D} (ha : PE X a (tB X.K f)) (hb : PE X b (tB X.K g)) : PE X (.BinOp a .Mult b pos) (tP X.K (m2 f g mulR)) := pOp ((op_mul.or op_mulW).or (op_repA.or op_rep)) bop_mulA ha hb
/-! ### str(n) -/
def strR : List D → R D
  | [.int i] => bd (req (i.natAbs.log2 < 1920)) fun _ => ok (.str (toString i))
  | _ => fail
theorem kStr : CalQ X (.type "str") strR := ⟨_, call_str_int, by
  intro c G H vs ds post Q w bs hp q
  match ds, bs, hp with
  | [.int i], bs, hp =>
    obtain ⟨v, rfl, b⟩ := bs.one
    rw [b.int]
    exact ⟨_, rfl, hp.1, q _ hp.2 _ G H .refl w (.str _)⟩⟩
end
end Pu

namespace Pu
open PySem PySem.Spec PyProof.Rows L2
/-! ### the law's draws -/
def drawM : List D → R D
  | [.int n] => bd (req (0 < n ∧ n < 1073741824)) fun _ => fun post => ∀ d : Int, 0 ≤ d → d < n → post (.int d)
  | _ => fail
theorem drawM_inv {ds : List D} {post : D → Prop} (h : drawM ds post) : ∃ n : Int, ds = [.int n] ∧ 0 < n ∧ n < 1073741824 ∧ ∀ d : Int, 0 ≤ d → d < n → post (.int d) := by
  match ds, h with
  | [.int n], h => exact ⟨n, rfl, h.1.1, h.1.2, h.2⟩
/-- the box as it stands: two numbers -/
structure BxAt (H : Hp) (b c : Addr) (ns : List Int) (n s : Int) : Prop where
  ne : b ≠ c
  hb : H b = some (.lst [.ref c, .int n, .int s])
  hc : H c = some (.lst (ns.map V.int))
/-- but for the box and its cells nothing is changed -/
def Only2 (b c : Addr) (H H' : Hp) : Prop := ∀ a, a ≠ b → a ≠ c → H' a = H a
theorem Only2.refl {b c : Addr} {H : Hp} : Only2 b c H H := fun _ _ _ => rfl
theorem Only2.trans {b c : Addr} {H H1 H2 : Hp} (x : Only2 b c H H1) (y : Only2 b c H1 H2) : Only2 b c H H2 := fun a h1 h2 => (y a h1 h2).trans (x a h1 h2)
theorem Only2.upd1 {b c : Addr} {H : Hp} {o : HO} : Only2 b c H (upd H b o) := fun a h _ => upd_ne h
theorem Only2.upd2 {b c : Addr} {H : Hp} {o : HO} : Only2 b c H (upd H c o) := fun a _ h => upd_ne h
theorem BxAt.setB {H : Hp} {b c : Addr} {ns : List Int} {n s n' s' : Int} (x : BxAt H b c ns n s) : BxAt (upd H b (.lst [.ref c, .int n', .int s'])) b c ns n' s' := ⟨x.ne, upd_same, by rw [upd_ne x.ne.symm]; exact x.hc⟩
theorem BxAt.setC {H : Hp} {b c : Addr} {ns ns' : List Int} {n s : Int} (x : BxAt H b c ns n s) : BxAt (upd H c (.lst (ns'.map V.int))) b c ns' n s := ⟨x.ne, by rw [upd_ne x.ne]; exact x.hb, upd_same⟩
/-- what _law_load promises -/
def spLoad : Sp := fun vs H Q _ => ∃ (b c : Addr) (ns : List Int) (n s : Int), vs = [.ref b] ∧ BxAt H b c ns n s ∧ ∀ (r : Int) H' ns' n' s', ns'.length ≤ ns.length → BxAt H' b c ns' n' s' → Only2 b c H H' → Q (.int r) H'
/-- what stands behind the cell's part -/
def tLoad2 (b c : Addr) (m : Nat) (H0 : Hp) (x1 : Nat) : TS := fun D σ H => ∃ (ns : List Int) (n s : Int), σ[0]? = some (some (.ref b)) ∧ BxAt H b c ns n s ∧ ns.length ≤ m ∧ Only2 b c H0 H ∧ σ.length = 6 ∧
  ∀ (r : Int) H' ns' n' s', ns'.length ≤ m → BxAt H' b c ns' n' s' → Only2 b c H0 H' → D.rt (.int r) H'
/-- .. of the data's side: a draw -/
theorem draw_ext {k : Nat} {b c : Addr} {G H H' : Hp} {ns ns' : List Int} {n s n' s' : Int} (w : W0 (.bx 2 b c) G H) (o : Only2 b c H H') (x : BxAt H' b c ns' n' s') (hl : ns'.length ≤ 1000) : W0 (.bx 2 b c) G H' ∧ Ext (.bx 2 b c) G H G H' := by
  have hv : ∀ p, ¬ (Ef.bx 2 b c).vol p → H' p = H p := fun p h => o p (fun e => h (.inl e)) (fun e => h (.inr e))
  refine ⟨⟨fun p u e => ?_, w.vol, ⟨x.ne, ns', [n', s'], rfl, trivial, hl, x.hb, x.hc⟩⟩, ⟨fun _ _ e => e, fun p u e v => by rw [hv p v]; exact e, fun _ _ _ _ e => e⟩⟩
  have nv : ¬ (Ef.bx 2 b c).vol p := fun v => by rw [w.vol p v] at e; cases e
  rw [hv p nv]; exact w.sub p u e
/-- a def that draws: from the box's own promise to that over data -/
def spDraw0 : Sp := fun vs H Q _ => ∃ (b c : Addr) (ns : List Int) (n s m : Int), vs = [.ref b, .int m] ∧ BxAt H b c ns n s ∧ 0 < m ∧ m < 1073741824 ∧ ∀ (r : Int) H' ns' n' s', 0 ≤ r → r < m → ns'.length ≤ ns.length → BxAt H' b c ns' n' s' → Only2 b c H H' → Q (.int r) H'
theorem spDraw_of {K : PySem.W.Frag} {vs : List V} {H : Hp} {Q : VK} {E : XK} (h : spX K 2 1 drawM vs H Q E) : spDraw0 vs H Q E := by
  obtain ⟨E, G, bv, vs', ds, post, rfl, hbx, w, hd, hl, hm, q⟩ := h
  obtain ⟨m, rfl, h0, h1, hp⟩ := drawM_inv hm
  cases E with
  | no => exact hbx.elim
  | bx k b c =>
    obtain ⟨rfl, rfl⟩ := hbx
    obtain ⟨ne, ns, is, hi, _, hns, hb, hc⟩ := w.inv
    match is, hi, hb with
    | [n, s], _, hb =>
      cases hd with
      | cons d1 d2 =>
        cases d1; cases d2
        refine ⟨b, c, ns, n, s, m, rfl, ⟨ne, hb, hc⟩, h0, h1, fun r H' ns' n' s' hr0 hr1 hl' x o => ?_⟩
        obtain ⟨w', e'⟩ := draw_ext (k := 2) (ns := ns) (n := n) (s := s) w o x (by omega)
        exact q _ (hp r hr0 hr1) _ G H' e' w' (.int _)
/-- what _law_box promises -/
def spBox (K : PySem.W.Frag) : Sp := fun vs H Q _ => ∃ (a : Addr) (ns : List Int), vs = [.ref a] ∧ SqL K H a (ns.map V.int) ∧ ns.length ≤ 63 ∧ ∀ b c H' ns' n s, H b = none → H c = none → BxAt H' b c ns' n s → ns'.length ≤ 1000 → Q (.ref b) H'
/-- what the law itself promises -/
def spLaw (K : PySem.W.Frag) : Sp := fun vs H Q _ => ∃ (a : Addr) (ns : List Int), vs = [.ref a] ∧ SqL K H a (ns.map V.int) ∧ ns.length ≤ 63 ∧ ∀ H', Q (.bl true) H'
/-- behind the box's making: all the rest is data -/
theorem law_rest {K : PySem.W.Frag} {g : List Sl → R Out} {n : Nat} {Q : VK} {H' : Hp} {b c : Addr} {ns : List Int} {k s : Int} {v : V} (hg : g (.un :: .box 2 :: List.replicate n .un) fun o => o = .rt (.bool true)) (x : BxAt H' b c ns k s) (hl : ns.length ≤ 1000) (q : ∀ H', Q (.bl true) H') {D : Ends} (hD : D.rt = Q) :
    tS K g D (some v :: some (.ref b) :: List.replicate n none) H' := by
  refine ⟨⟨.bx 2 b c, fun _ => none, H'⟩, fun _ => none, _, _, ⟨⟨fun _ _ e => (nomatch e), fun _ _ => rfl, ⟨x.ne, ns, [k, s], rfl, trivial, hl, x.hb, x.hc⟩⟩, .refl⟩, ⟨by simp, fun i y h => ?_, fun i j ds es u h1 => ?_⟩, hg, fun o ho => ?_⟩
  · match i, h with
    | 0, h => exact .inl (Option.some.inj h).symm
    | 1, h => cases h; exact .inr ⟨.ref b, rfl, rfl, rfl⟩
    | i + 2, h =>
      have h' : (List.replicate n Sl.un)[i]? = some y := h
      rw [List.getElem?_replicate] at h'
      split at h'
      · cases h'; exact .inl rfl
      · cases h'
  · match i, h1 with
    | 0, h => cases h
    | 1, h => cases h
    | i + 2, h =>
      have h' : (List.replicate n Sl.un)[i]? = some (.own ds) := h
      rw [List.getElem?_replicate] at h'
      split at h' <;> cases h'
  · subst ho
    intro v G' H2 l w k
    rw [hD]
    cases k
    exact q H2
end Pu

namespace K58
open PySem PySem.Spec PyProof.Rows L2 Pu

def topS (i : Nat) : Stmt := PySem.Challenge.pw_hangseven_k58_whole_cords_pulled.main.body.getD i (.Pass ⟨0, 0, 0, 0⟩)
abbrev s_is_whole : Stmt := topS 1
abbrev n_is_whole : List Str := ["value"]
theorem sc_is_whole : FnScope n_is_whole ["value"] (defScope s_is_whole) := ⟨rfl, rfl, rfl, by decide +kernel, rfl, by decide +kernel, by decide +kernel⟩
abbrev s_is_number : Stmt := topS 2
abbrev n_is_number : List Str := ["value", "least", "most"]
theorem sc_is_number : FnScope n_is_number ["value", "least", "most"] (defScope s_is_number) := ⟨rfl, rfl, rfl, by decide +kernel, rfl, by decide +kernel, by decide +kernel⟩
abbrev s_is_turn : Stmt := topS 6
abbrev n_is_turn : List Str := ["value"]
theorem sc_is_turn : FnScope n_is_turn ["value"] (defScope s_is_turn) := ⟨rfl, rfl, rfl, by decide +kernel, rfl, by decide +kernel, by decide +kernel⟩
abbrev s_is_nail_cord : Stmt := topS 7
abbrev n_is_nail_cord : List Str := ["value", "turn"]
theorem sc_is_nail_cord : FnScope n_is_nail_cord ["value"] (defScope s_is_nail_cord) := ⟨rfl, rfl, rfl, by decide +kernel, rfl, by decide +kernel, by decide +kernel⟩
abbrev s_pulled_cord : Stmt := topS 8
abbrev n_pulled_cord : List Str := ["cord", "found", "turn"]
theorem sc_pulled_cord : FnScope n_pulled_cord ["cord"] (defScope s_pulled_cord) := ⟨rfl, rfl, rfl, by decide +kernel, rfl, by decide +kernel, by decide +kernel⟩
abbrev s_back_cord : Stmt := topS 9
abbrev n_back_cord : List Str := ["cord", "turn"]
theorem sc_back_cord : FnScope n_back_cord ["cord"] (defScope s_back_cord) := ⟨rfl, rfl, rfl, by decide +kernel, rfl, by decide +kernel, by decide +kernel⟩
abbrev s_does_fall : Stmt := topS 10
abbrev n_does_fall : List Str := ["cord"]
theorem sc_does_fall : FnScope n_does_fall ["cord"] (defScope s_does_fall) := ⟨rfl, rfl, rfl, by decide +kernel, rfl, by decide +kernel, by decide +kernel⟩
abbrev s_first_pulls : Stmt := topS 11
abbrev n_first_pulls : List Str := ["cord", "found", "k"]
theorem sc_first_pulls : FnScope n_first_pulls ["cord"] (defScope s_first_pulls) := ⟨rfl, rfl, rfl, by decide +kernel, rfl, by decide +kernel, by decide +kernel⟩
abbrev s_are_pulls : Stmt := topS 12
abbrev n_are_pulls : List Str := ["cord", "value", "k"]
theorem sc_are_pulls : FnScope n_are_pulls ["cord", "value"] (defScope s_are_pulls) := ⟨rfl, rfl, rfl, by decide +kernel, rfl, by decide +kernel, by decide +kernel⟩
abbrev s_turn_matrix : Stmt := topS 13
abbrev n_turn_matrix : List Str := ["turn", "k"]
theorem sc_turn_matrix : FnScope n_turn_matrix ["turn"] (defScope s_turn_matrix) := ⟨rfl, rfl, rfl, by decide +kernel, rfl, by decide +kernel, by decide +kernel⟩
abbrev s_times_matrix : Stmt := topS 14
abbrev n_times_matrix : List Str := ["one", "other", "columns", "row", "column"]
theorem sc_times_matrix : FnScope n_times_matrix ["one", "other"] (defScope s_times_matrix) := ⟨rfl, rfl, rfl, by decide +kernel, rfl, by decide +kernel, by decide +kernel⟩
abbrev s_matrix_of : Stmt := topS 15
abbrev n_matrix_of : List Str := ["cord", "found", "turn"]
theorem sc_matrix_of : FnScope n_matrix_of ["cord"] (defScope s_matrix_of) := ⟨rfl, rfl, rfl, by decide +kernel, rfl, by decide +kernel, by decide +kernel⟩
abbrev s_without_nails : Stmt := topS 16
abbrev n_without_nails : List Str := ["cord", "nails", "turn"]
theorem sc_without_nails : FnScope n_without_nails ["cord", "nails"] (defScope s_without_nails) := ⟨rfl, rfl, rfl, by decide +kernel, rfl, by decide +kernel, by decide +kernel⟩
abbrev s_law_box : Stmt := topS 18
abbrev n_law_box : List Str := ["script"]
theorem sc_law_box : FnScope n_law_box ["script"] (defScope s_law_box) := ⟨rfl, rfl, rfl, by decide +kernel, rfl, by decide +kernel, by decide +kernel⟩
abbrev s_law_load : Stmt := topS 19
abbrev n_law_load : List Str := ["box", "cells", "first", "second", "cell", "size"]
theorem sc_law_load : FnScope n_law_load ["box"] (defScope s_law_load) := ⟨rfl, rfl, rfl, by decide +kernel, rfl, by decide +kernel, by decide +kernel⟩
abbrev s_law_draw : Stmt := topS 20
abbrev n_law_draw : List Str := ["box", "many", "digit"]
theorem sc_law_draw : FnScope n_law_draw ["box", "many"] (defScope s_law_draw) := ⟨rfl, rfl, rfl, by decide +kernel, rfl, by decide +kernel, by decide +kernel⟩
abbrev s_law_same : Stmt := topS 21
abbrev n_law_same : List Str := ["a", "b", "k"]
theorem sc_law_same : FnScope n_law_same ["a", "b"] (defScope s_law_same) := ⟨rfl, rfl, rfl, by decide +kernel, rfl, by decide +kernel, by decide +kernel⟩
abbrev s_law_pulled : Stmt := topS 22
abbrev n_law_pulled : List Str := ["cord", "left", "step", "spots", "k"]
theorem sc_law_pulled : FnScope n_law_pulled ["cord"] (defScope s_law_pulled) := ⟨rfl, rfl, rfl, by decide +kernel, rfl, by decide +kernel, by decide +kernel⟩
abbrev s_law_cord : Stmt := topS 23
abbrev n_law_cord : List Str := ["box", "many", "most", "found", "step", "k", "at", "turn"]
theorem sc_law_cord : FnScope n_law_cord ["box", "many", "most"] (defScope s_law_cord) := ⟨rfl, rfl, rfl, by decide +kernel, rfl, by decide +kernel, by decide +kernel⟩
abbrev s_law_left : Stmt := topS 24
abbrev n_law_left : List Str := ["cord", "nails", "turn"]
theorem sc_law_left : FnScope n_law_left ["cord", "nails"] (defScope s_law_left) := ⟨rfl, rfl, rfl, by decide +kernel, rfl, by decide +kernel, by decide +kernel⟩
abbrev s_law_bent : Stmt := topS 25
abbrev n_law_bent : List Str := ["box", "value", "pick", "at"]
theorem sc_law_bent : FnScope n_law_bent ["box", "value"] (defScope s_law_bent) := ⟨rfl, rfl, rfl, by decide +kernel, rfl, by decide +kernel, by decide +kernel⟩
abbrev s_law_times : Stmt := topS 26
abbrev n_law_times : List Str := ["a", "b"]
theorem sc_law_times : FnScope n_law_times ["a", "b"] (defScope s_law_times) := ⟨rfl, rfl, rfl, by decide +kernel, rfl, by decide +kernel, by decide +kernel⟩
abbrev s_law_matrix : Stmt := topS 27
abbrev n_law_matrix : List Str := ["cord", "found", "turn", "k", "part"]
theorem sc_law_matrix : FnScope n_law_matrix ["cord"] (defScope s_law_matrix) := ⟨rfl, rfl, rfl, by decide +kernel, rfl, by decide +kernel, by decide +kernel⟩
abbrev s_law_are_pulls : Stmt := topS 28
abbrev n_law_are_pulls : List Str := ["cord", "value", "left", "k"]
theorem sc_law_are_pulls : FnScope n_law_are_pulls ["cord", "value"] (defScope s_law_are_pulls) := ⟨rfl, rfl, rfl, by decide +kernel, rfl, by decide +kernel, by decide +kernel⟩
abbrev s_law : Stmt := topS 29
abbrev n_law : List Str := ["script", "box", "turn", "cord", "due", "back", "nails", "told", "rows", "left", "step", "drawn", "paper", "value", "spots", "fine", "part", "k", "x"]
theorem sc_law : FnScope n_law ["script"] (defScope s_law) := ⟨rfl, rfl, rfl, by decide +kernel, rfl, by decide +kernel, by decide +kernel⟩
/-- what the top has written -/
structure Facts (K : PySem.W.Frag) (mg : Str → Option Value) : Prop where
  f_is_whole : ∃ f fd, mg "is_whole" = some (.ref f) ∧ Fun K "is_whole" "is_whole" s_is_whole f fd ∧ L2.Binds K fd ["value"] []
  f_is_number : ∃ f fd, mg "is_number" = some (.ref f) ∧ Fun K "is_number" "is_number" s_is_number f fd ∧ L2.Binds K fd ["value", "least", "most"] []
  f_is_turn : ∃ f fd, mg "is_turn" = some (.ref f) ∧ Fun K "is_turn" "is_turn" s_is_turn f fd ∧ L2.Binds K fd ["value"] []
  f_is_nail_cord : ∃ f fd, mg "is_nail_cord" = some (.ref f) ∧ Fun K "is_nail_cord" "is_nail_cord" s_is_nail_cord f fd ∧ L2.Binds K fd ["value"] []
  f_pulled_cord : ∃ f fd, mg "pulled_cord" = some (.ref f) ∧ Fun K "pulled_cord" "pulled_cord" s_pulled_cord f fd ∧ L2.Binds K fd ["cord"] []
  f_back_cord : ∃ f fd, mg "back_cord" = some (.ref f) ∧ Fun K "back_cord" "back_cord" s_back_cord f fd ∧ L2.Binds K fd ["cord"] []
  f_does_fall : ∃ f fd, mg "does_fall" = some (.ref f) ∧ Fun K "does_fall" "does_fall" s_does_fall f fd ∧ L2.Binds K fd ["cord"] []
  f_first_pulls : ∃ f fd, mg "first_pulls" = some (.ref f) ∧ Fun K "first_pulls" "first_pulls" s_first_pulls f fd ∧ L2.Binds K fd ["cord"] []
  f_are_pulls : ∃ f fd, mg "are_pulls" = some (.ref f) ∧ Fun K "are_pulls" "are_pulls" s_are_pulls f fd ∧ L2.Binds K fd ["cord", "value"] []
  f_turn_matrix : ∃ f fd, mg "turn_matrix" = some (.ref f) ∧ Fun K "turn_matrix" "turn_matrix" s_turn_matrix f fd ∧ L2.Binds K fd ["turn"] []
  f_times_matrix : ∃ f fd, mg "times_matrix" = some (.ref f) ∧ Fun K "times_matrix" "times_matrix" s_times_matrix f fd ∧ L2.Binds K fd ["one", "other"] []
  f_matrix_of : ∃ f fd, mg "matrix_of" = some (.ref f) ∧ Fun K "matrix_of" "matrix_of" s_matrix_of f fd ∧ L2.Binds K fd ["cord"] []
  f_without_nails : ∃ f fd, mg "without_nails" = some (.ref f) ∧ Fun K "without_nails" "without_nails" s_without_nails f fd ∧ L2.Binds K fd ["cord", "nails"] []
  f_law_box : ∃ f fd, mg "_law_box" = some (.ref f) ∧ Fun K "_law_box" "_law_box" s_law_box f fd ∧ L2.Binds K fd ["script"] []
  f_law_load : ∃ f fd, mg "_law_load" = some (.ref f) ∧ Fun K "_law_load" "_law_load" s_law_load f fd ∧ L2.Binds K fd ["box"] []
  f_law_draw : ∃ f fd, mg "_law_draw" = some (.ref f) ∧ Fun K "_law_draw" "_law_draw" s_law_draw f fd ∧ L2.Binds K fd ["box", "many"] []
  f_law_same : ∃ f fd, mg "_law_same" = some (.ref f) ∧ Fun K "_law_same" "_law_same" s_law_same f fd ∧ L2.Binds K fd ["a", "b"] []
  f_law_pulled : ∃ f fd, mg "_law_pulled" = some (.ref f) ∧ Fun K "_law_pulled" "_law_pulled" s_law_pulled f fd ∧ L2.Binds K fd ["cord"] []
  f_law_cord : ∃ f fd, mg "_law_cord" = some (.ref f) ∧ Fun K "_law_cord" "_law_cord" s_law_cord f fd ∧ L2.Binds K fd ["box", "many", "most"] []
  f_law_left : ∃ f fd, mg "_law_left" = some (.ref f) ∧ Fun K "_law_left" "_law_left" s_law_left f fd ∧ L2.Binds K fd ["cord", "nails"] []
  f_law_bent : ∃ f fd, mg "_law_bent" = some (.ref f) ∧ Fun K "_law_bent" "_law_bent" s_law_bent f fd ∧ L2.Binds K fd ["box", "value"] []
  f_law_times : ∃ f fd, mg "_law_times" = some (.ref f) ∧ Fun K "_law_times" "_law_times" s_law_times f fd ∧ L2.Binds K fd ["a", "b"] []
  f_law_matrix : ∃ f fd, mg "_law_matrix" = some (.ref f) ∧ Fun K "_law_matrix" "_law_matrix" s_law_matrix f fd ∧ L2.Binds K fd ["cord"] []
  f_law_are_pulls : ∃ f fd, mg "_law_are_pulls" = some (.ref f) ∧ Fun K "_law_are_pulls" "_law_are_pulls" s_law_are_pulls f fd ∧ L2.Binds K fd ["cord", "value"] []
  f_law : ∃ f fd, mg "law" = some (.ref f) ∧ Fun K "law" "law" s_law f fd ∧ L2.Binds K fd ["script"] []
  b_abs : mg "abs" = none
  b_all : mg "all" = none
  b_bool : mg "bool" = none
  b_int : mg "int" = none
  b_isinstance : mg "isinstance" = none
  b_len : mg "len" = none
  b_list : mg "list" = none
  b_range : mg "range" = none
  b_str : mg "str" = none
  b_tuple : mg "tuple" = none
  c_MOST_NAILS : ∃ t, mg "MOST_NAILS" = some (.int (8) t)
  c_MOST_TURNS : ∃ t, mg "MOST_TURNS" = some (.int (400) t)

section
variable {P : Program} {w : World} {K : PySem.W.Frag} {mg : Str → Option Value} {base : Heap}

abbrev m_law_draw := drawM
theorem w_law_load (T : Facts K mg) : Def P w K mg base "_law_load" ["box"] 1 spLoad :=
 let ⟨f, fd, gF, F, b⟩ := T.f_law_load
 ⟨f, fd, gF, F.kp, b, by
  refine F.ok sc_law_load (fun vs H Q E h => ?_) (fun cdv A outer s H vs Q E hr h => ?_)
  · obtain ⟨_, _, _, _, _, rfl, _⟩ := h; rfl
  · obtain ⟨b, c, ns, n, s, rfl, x, q⟩ := h
    refine ⟨_, pss_cons (ps_set (i := 1) sc_law_load.nd rfl (.inl rfl) (pe_ix ix_list (pv 0) pe_int (fun _ _ => rfl)))
      (pss_cons (ps_if (pt_cmpR op_gt (pe_callB call_len_seq (by rfl) T.b_len PySem.boot_len (pa_cons (pv 1) pa_nil)) pe_int (nomark _))
          (pss_cons (ps_set (i := 4) sc_law_load.nd rfl (.inl rfl) (pe_callTy call_int1 (by rfl) T.b_int (by decide +kernel) (pa_cons (pe_bm PySem.F.plainAttrs_list PySem.F.slot_list_pop PySem.F.type_list_pop mt_popAt (pv 1) (pa_cons pe_int pa_nil)) pa_nil)))
          (pss_cons (ps_set (i := 5) sc_law_load.nd rfl (.inl rfl) (pe_ifExp (pt_cmpR op_ge (pv 4) pe_int (nomark _)) (pe_op op_mul pe_int (pv 4)) (pe_op op_sub (pe_op op_mul (pe_un un_neg pe_int) (pv 4)) pe_int)))
          (pss_cons (ps_if (pt_cmpR op_ge (pv 5) pe_int (nomark _)) (pss_one (ps_ret (pv 5))) pss_nil)
          (pss_one (ps_asg (pe_op op_mod (pe_callTy call_int1 (by rfl) T.b_int (by decide +kernel) (pa_cons (pe_op op_add (pe_op op_add (pe_op op_mul (pe_ix ix_list (pv 0) pe_int (fun _ _ => rfl)) pe_int) (pe_op op_mul (pv 5) pe_int)) pe_int) pa_nil)) pe_int) (pg_sub (pv 0) pe_int set_list))))))
          pss_nil)
      (PSs.wk (t' := tLoad2 b c ns.length H 0) (pss_cons (ps_set (i := 2) sc_law_load.nd rfl (.inl rfl) (pe_op op_mod (pe_callTy call_int1 (by rfl) T.b_int (by decide +kernel) (pa_cons (pe_op op_add (pe_op op_mul (pe_ix ix_list (pv 0) pe_int (fun _ _ => rfl)) pe_int) pe_int) pa_nil)) pe_int))
        (pss_cons (ps_set (i := 3) sc_law_load.nd rfl (.inl rfl) (pe_op op_mod (pe_callTy call_int1 (by rfl) T.b_int (by decide +kernel) (pa_cons (pe_op op_add (pe_op op_mul (pv 2) pe_int) pe_int) pa_nil)) pe_int))
        (pss_cons (ps_asg (pe_op op_mod (pe_callTy call_int1 (by rfl) T.b_int (by decide +kernel) (pa_cons (pe_op op_add (pe_op op_mul (pv 3) pe_int) pe_int) pa_nil)) pe_int) (pg_sub (pv 0) pe_int set_list))
        (pss_one (ps_ret (pe_op op_add (pe_op op_add (pe_op op_mul (pv 2) pe_int) (pe_op op_mul (pv 3) pe_int)) (pe_ix ix_list (pv 0) pe_int (fun _ _ => rfl)))))))) (fun D σ H1 h => by
          obtain ⟨ns1, n1, s1, e0, x1, hl1, o1, hlen, q1⟩ := h
          match σ, e0, hlen with
          | [_, y1, y2, y3, y4, y5], e0, _ =>
          cases e0
          refine ⟨_, rfl, b, _, 2, _, rfl, rfl, .of x1.hb, rfl, _, _, rfl, rfl, .inr ⟨by decide, by decide⟩, _, _, rfl, rfl, .inl ⟨_, rfl, _, _, rfl, rfl, (by show (0 : Int) < _; decide), ?_⟩⟩
          refine ⟨_, rfl, _, _, rfl, rfl, .inr ⟨by decide, by decide⟩, _, _, rfl, rfl, .inl ⟨_, rfl, _, _, rfl, rfl, (by show (0 : Int) < _; decide), ?_⟩⟩
          refine ⟨_, rfl, _, _, rfl, rfl, .inr ⟨by decide, by decide⟩, _, _, rfl, rfl, .inl ⟨_, rfl, _, _, rfl, rfl, (by show (0 : Int) < _; decide), ?_⟩⟩
          refine ⟨_, rfl, b, _, 2, 2, rfl, rfl, x1.hb, rfl, ?_⟩
          refine ⟨_, rfl, _, _, rfl, rfl, .inr ⟨by decide, by decide⟩, _, rfl, _, _, rfl, rfl, .inr ⟨by decide, by decide⟩, _, _, rfl, rfl, _, rfl, b, _, 2, _, rfl, rfl, .of upd_same, rfl, _, _, rfl, rfl, ?_⟩
          exact q1 _ _ _ _ _ hl1 x1.setB (o1.trans .upd1)))), ?_⟩
    -- cells = box[0]; if len(cells) > 0
    refine ⟨_, rfl, b, _, 0, _, rfl, rfl, .of x.hb, rfl, _, rfl, c, _, rfl, .inl (.of x.hc), _, _, rfl, rfl, _, rfl, ite2 (fun hpos => ?_) (fun _ => ?_)⟩
    · cases ns with
      | nil => exact absurd hpos (by decide)
      | cons i r =>
        refine ⟨_, rfl, .inl ⟨rfl, _, .of x.hc⟩, c, _, 0, 0, _, rfl, rfl, x.hc, by decide, by decide, (ixN_seq (show ixN (List.map V.int (i :: r)).length 0 = some 0 by simp [ixN])).1, rfl, .inl ⟨_, rfl, ?_⟩⟩
        have x1 : BxAt (upd H c (.lst (r.map V.int))) b c r n s := x.setC
        -- size
        refine ⟨_, rfl, _, _, rfl, rfl, _, rfl, ?_⟩
        refine ite2 (fun _ => ?_) (fun _ => ?_)
        · refine ⟨_, rfl, _, _, rfl, rfl, .inl ⟨by decide, by decide⟩, ?_⟩
          refine ⟨_, rfl, _, _, rfl, rfl, _, rfl, ite2 (fun _ => ?_) (fun _ => ?_)⟩
          · exact ⟨_, rfl, q _ _ _ _ _ (by simp) x1 .upd2⟩
          · refine ⟨_, rfl, b, _, 2, _, rfl, rfl, .of x1.hb, rfl, _, _, rfl, rfl, .inr ⟨by decide, by decide⟩, _, rfl, _, _, rfl, rfl, .inr ⟨by decide, by decide⟩, _, _, rfl, rfl, _, _, rfl, rfl, .inl ⟨_, rfl, _, _, rfl, rfl, (by show (0 : Int) < _; decide), ?_⟩⟩
            refine ⟨_, rfl, b, _, 2, 2, rfl, rfl, x1.hb, rfl, ?_⟩
            exact ⟨r, n, _, rfl, x1.setB, by simp, Only2.trans .upd2 .upd1, rfl, q⟩
        · refine ⟨_, rfl, _, rfl, _, _, rfl, rfl, .inl ⟨by decide, by decide⟩, _, _, rfl, rfl, ?_⟩
          refine ⟨_, rfl, _, _, rfl, rfl, _, rfl, ite2 (fun _ => ?_) (fun _ => ?_)⟩
          · exact ⟨_, rfl, q _ _ _ _ _ (by simp) x1 .upd2⟩
          · refine ⟨_, rfl, b, _, 2, _, rfl, rfl, .of x1.hb, rfl, _, _, rfl, rfl, .inr ⟨by decide, by decide⟩, _, rfl, _, _, rfl, rfl, .inr ⟨by decide, by decide⟩, _, _, rfl, rfl, _, _, rfl, rfl, .inl ⟨_, rfl, _, _, rfl, rfl, (by show (0 : Int) < _; decide), ?_⟩⟩
            refine ⟨_, rfl, b, _, 2, 2, rfl, rfl, x1.hb, rfl, ?_⟩
            exact ⟨r, n, _, rfl, x1.setB, by simp, Only2.trans .upd2 .upd1, rfl, q⟩
    · exact ⟨ns, n, s, rfl, x, Nat.le_refl _, .refl, rfl, q⟩⟩
theorem w_law_draw (T : Facts K mg) (d_law_load : Def P w K mg base "_law_load" ["box"] 1 spLoad) : Def P w K mg base "_law_draw" ["box", "many"] 2 (spX K 2 1 drawM) :=
 let ⟨f, fd, gF, F, b⟩ := T.f_law_draw
 ⟨f, fd, gF, F.kp, b, by
  obtain ⟨fl, fdl, gL, kL, bL, GL⟩ := d_law_load
  refine FnOk.imp (sp := spDraw0) ?_ (fun vs H Q E h => spDraw_of h)
  refine F.ok sc_law_draw (fun vs H Q E h => ?_) (fun cdv A outer s H vs Q E hr h => ?_)
  · obtain ⟨_, _, _, _, _, _, rfl, _⟩ := h; rfl
  · obtain ⟨b, c, ns, n, s, m, rfl, x, h0, h1, q⟩ := h
    refine ⟨_, pss_cons (ps_if (pt_cmpR op_lt (pe_ix ix_list (pv 0) pe_int (fun _ _ => rfl)) (pv 1) (nomark _)) (pss_one (ps_asg (pe_call GL hr (by rfl) gL kL bL .nil pass0 (pa_cons (pv 0) pa_nil)) (pg_sub (pv 0) pe_int set_list))) pss_nil)
      (PSs.wk (t' := fun D σ H1 => ∃ (ns1 : List Int) (n1 s1 : Int), σ = [some (.ref b), some (.int m), none] ∧ BxAt H1 b c ns1 n1 s1 ∧ ns1.length ≤ ns.length ∧ Only2 b c H H1 ∧ ∀ (r : Int) H' ns' n' s', 0 ≤ r → r < m → ns'.length ≤ ns.length → BxAt H' b c ns' n' s' → Only2 b c H H' → D.rt (.int r) H')
        (pss_cons (ps_set (i := 2) sc_law_draw.nd rfl (.inl rfl) (pe_op op_mod (pe_callTy call_int1 (by rfl) T.b_int (by decide +kernel) (pa_cons (pe_ix ix_list (pv 0) pe_int (fun _ _ => rfl)) pa_nil)) (pv 1)))
        (pss_cons (ps_asg (pe_op op_fdiv (pe_ix ix_list (pv 0) pe_int (fun _ _ => rfl)) (pv 1)) (pg_sub (pv 0) pe_int set_list))
        (pss_one (ps_ret (pv 2))))) (fun D σ H1 h => by
          obtain ⟨ns1, n1, s1, rfl, x1, hl1, o1, q1⟩ := h
          refine ⟨_, rfl, b, _, 1, _, rfl, rfl, .of x1.hb, rfl, .inl ⟨_, rfl, _, rfl, _, _, rfl, rfl, h0, ?_⟩⟩
          refine ⟨_, rfl, b, _, 1, _, rfl, rfl, .of x1.hb, rfl, _, rfl, _, _, rfl, rfl, ⟨h0, h1⟩, ?_⟩
          refine ⟨_, rfl, b, _, 1, 1, rfl, rfl, x1.hb, rfl, _, rfl, ?_⟩
          exact q1 _ _ _ _ _ (Int.emod_nonneg _ (by omega)) (Int.emod_lt_of_pos _ h0) hl1 x1.setB (o1.trans .upd1))), ?_⟩
    refine ⟨_, rfl, b, _, 1, _, rfl, rfl, .of x.hb, rfl, _, rfl, _, _, rfl, rfl, _, rfl, ite2 (fun _ => ?_) (fun _ => ?_)⟩
    · refine ⟨_, rfl, b, c, ns, n, s, rfl, x, fun r H' ns' n' s' hl' x' o' => ?_⟩
      refine ⟨_, rfl, b, _, 1, 1, rfl, rfl, x'.hb, rfl, ?_⟩
      exact ⟨ns', r, s', rfl, x'.setB, hl', o'.trans .upd1, q⟩
    · exact ⟨ns, n, s, rfl, x, Nat.le_refl _, .refl, q⟩⟩
theorem w_law_box (T : Facts K mg) : Def P w K mg base "_law_box" ["script"] 1 (spBox K) :=
 let ⟨f, fd, gF, F, b⟩ := T.f_law_box
 ⟨f, fd, gF, F.kp, b, by
  refine F.ok sc_law_box (fun vs H Q E h => ?_) (fun cdv A outer s H vs Q E hr h => ?_)
  · obtain ⟨_, _, rfl, _⟩ := h; rfl
  · obtain ⟨a, ns, rfl, hS, hl, q⟩ := h
    refine ⟨_, pss_one (ps_ret (pe_lst (pa_cons (pe_callTy call_list_of (by rfl) T.b_list (by decide +kernel) (pa_cons (pe_slice sl_list (pv 0) po_none (po_some pe_int)) pa_nil)) (pa_cons pe_int (pa_cons (pe_op op_add pe_int (pe_callB call_len_seq (by rfl) T.b_len PySem.boot_len (pa_cons (pv 0) pa_nil))) pa_nil))))), ?_⟩
    refine ⟨_, rfl, 63, rfl, a, _, rfl, hS, fun p np => ?_⟩
    have s1 : Same H (upd H p (.lst (cutV (ns.map V.int) none (some 63)))) := fun b u e => by rw [upd_ne (ne_of_none e np)]; exact e
    refine ⟨p, _, rfl, .inl (.of upd_same), fun c nc => ?_⟩
    have s2 : Same H (upd (upd H p (.lst (cutV (ns.map V.int) none (some 63)))) c (.lst (cutV (ns.map V.int) none (some 63)))) := s1.trans fun b u e => by rw [upd_ne (ne_of_none e nc)]; exact e
    refine ⟨.ref a, rfl, a, _, rfl, .inl (s2.seq hS), _, _, rfl, rfl, (show 3 ≤ sizeLine by decide), fun bb nb => ?_⟩
    have e1 : cutV (ns.map V.int) none (some 63) = (ns.take 63).map V.int := by
      unfold cutV
      rw [HT.sIx_none, show HT.sIx (ns.map V.int).length (ns.map V.int).length (some 63) = min 63 (ns.map V.int).length from HT.sIx_nat _ _ 63]
      rw [List.length_map, Nat.min_eq_right (by omega)]
      simp
      omega
    have nH : ∀ q : Addr, (upd (upd H p (.lst (cutV (ns.map V.int) none (some 63)))) c (.lst (cutV (ns.map V.int) none (some 63)))) q = none → H q = none := fun q e => by
      cases z : H q with
      | none => rfl
      | some o => rw [s2 q o z] at e; cases e
    have n1 : H c = none := by
      cases z : H c with
      | none => rfl
      | some o => rw [s1 c o z] at nc; cases nc
    have ne : bb ≠ c := fun e => by rw [e, upd_same] at nb; cases nb
    refine q bb c _ (ns.take 63) 0 _ (nH bb nb) n1 ⟨ne, upd_same, ?_⟩ (by rw [List.length_take]; omega)
    rw [upd_ne ne.symm, upd_same, e1]⟩

def g_is_whole : List Sl → R Out := (retM (andV (m1 (nDR 0) (isiR isInt)) (notV (m1 (nDR 0) (isiR isBoo)))))
def m_is_whole : List D → R D := fnM 1 g_is_whole

theorem w_is_whole (T : Facts K mg) : Def P w K mg base "is_whole" ["value"] 1 (spR K 1 m_is_whole) :=
 let ⟨f, fd, gF, F, b⟩ := T.f_is_whole
 ⟨f, fd, gF, F.kp, b, fn_ok F sc_is_whole fun cdv A outer s H E hr =>
 (sOne (sRet (pb (andP (isiInt T.b_isinstance T.b_int (pb (nD 0))) (v1 (notVP (pb (isiBoo T.b_isinstance T.b_bool (pb (nD 0))))))))))⟩

def g_is_number : List Sl → R Out := (retM (andV (m1 (nDR 0) (isiR isInt)) (andV (notV (m1 (nDR 0) (isiR isBoo))) (chain ok leR leR (nDR 1) (nDR 0) (nDR 2)))))
def m_is_number : List D → R D := fnM 3 g_is_number

theorem w_is_number (T : Facts K mg) : Def P w K mg base "is_number" ["value", "least", "most"] 1 (spR K 3 m_is_number) :=
 let ⟨f, fd, gF, F, b⟩ := T.f_is_number
 ⟨f, fd, gF, F.kp, b, fn_ok F sc_is_number fun cdv A outer s H E hr =>
 (sOne (sRet (pb (andP (isiInt T.b_isinstance T.b_int (pb (nD 0))) (andP (notVP (pb (isiBoo T.b_isinstance T.b_bool (pb (nD 0))))) (v1 (cmp2 (qLe hr.units) (qLe hr.units) (pb (nD 1)) (pb (nD 0)) (pb (nD 2)))))))))⟩

def g_is_turn : List Sl → R Out := (retM (andV (m1 (consR (nDR 0) (consR (m1 (kR (.int 8)) negR) (consR (kR (.int 8)) nilR))) (callR 3 m_is_number)) (m2 (nDR 0) (kR (.int 0)) neR)))
def m_is_turn : List D → R D := fnM 1 g_is_turn

theorem w_is_turn (T : Facts K mg) (d_is_number : Def P w K mg base "is_number" ["value", "least", "most"] 1 (spR K 3 m_is_number)) : Def P w K mg base "is_turn" ["value"] 2 (spR K 1 m_is_turn) :=
 let ⟨f, fd, gF, F, b⟩ := T.f_is_turn
 ⟨f, fd, gF, F.kp, b, fn_ok F sc_is_turn fun cdv A outer s H E hr =>
 (sOne (sRet (pb (andP (callD d_is_number (hr.mono (by omega)) (fC (nD 0) (fC (oNeg (pb (gcI T.c_MOST_NAILS))) (fC (gcI T.c_MOST_NAILS) fN)))) (v1 (cmp (qNe hr.units) (pb (nD 0)) (pb cI)))))))⟩

def g_is_nail_cord : List Sl → R Out := (retM (andV (m1 (nDR 0) (isiR isTup)) (andV (m2 (m1 (consR (nDR 0) nilR) lenR) (kR (.int 400)) leR) (m1 (consR (frz (lcM [1] (itR (nDR 0)) (gSet 1) yesT (m1 (consR (nDR 1) nilR) (callR 1 m_is_turn)))) nilR) allR))))
def m_is_nail_cord : List D → R D := fnM 2 g_is_nail_cord

theorem w_is_nail_cord (T : Facts K mg) (d_is_turn : Def P w K mg base "is_turn" ["value"] 2 (spR K 1 m_is_turn)) : Def P w K mg base "is_nail_cord" ["value"] 3 (spR K 1 m_is_nail_cord) :=
 let ⟨f, fd, gF, F, b⟩ := T.f_is_nail_cord
 ⟨f, fd, gF, F.kp, b, fn_ok F sc_is_nail_cord fun cdv A outer s H E hr =>
 (sOne (sRet (pb (andP (isiTup T.b_isinstance T.b_tuple (pb (nD 0))) (andP (cmp (qLe hr.units) (pb (cal kLen T.b_len (aC (pb (nD 0)) aN))) (pb (gcI T.c_MOST_TURNS))) (v1 (cal (kAll rfl) T.b_all (aC (pb (pf (lc (own := [("turn", 1)]) sc_is_nail_cord.nd (by show blkC n_is_nail_cord (defScope s_is_nail_cord) _ _ = true; decide +kernel) (iB (pb (nD 0))) (fun _ _ _ _ _ => (gN 1 sc_is_nail_cord.nd)) (fun _ _ _ _ _ => tN) (fun _ _ _ _ _ => (callD d_is_turn (hr.mono (by omega)) (fC (nD 1) fN)))))) aN))))))))⟩

def g_pulled_cord : List Sl → R Out := (seqM (setO 1 (m1 nilR lstR))
 (seqM (forM (itR (nDR 0)) (gSet 2) (ifV (andT (m1 (nBR 1) truR) (m1 (m2 (m2 (nBR 1) (m1 (kR (.int 1)) negR) ixR) (m1 (nDR 2) negR) eqR) asB)) (popM 1 nilR popR (fun _ ρ => ok ρ)) (mutM 1 (consR (nDR 2) nilR) appR)))
 (retM (m1 (consR (nBR 1) nilR) tupOfR))))
def m_pulled_cord : List D → R D := fnM 3 g_pulled_cord

theorem w_pulled_cord (T : Facts K mg) : Def P w K mg base "pulled_cord" ["cord"] 1 (spR K 1 m_pulled_cord) :=
 let ⟨f, fd, gF, F, b⟩ := T.f_pulled_cord
 ⟨f, fd, gF, F.kp, b, fn_ok F sc_pulled_cord fun cdv A outer s H E hr =>
 (sCons (sSetO 1 sc_pulled_cord.nd (lst fN))
 (sCons (sFor nvr (iS (nD 0)) (gN 2 sc_pulled_cord.nd) (sOne (sIf (PW.pt (andW (tst (nB 1)) (and1 (cmpT (qEq hr.units) (pb (ix (nB 1) (pb (oNeg (pb cI))))) (pb (oNeg (pb (nD 2)))))))) (sOne (sPopE pop_last (pe_bm0 PySem.F.plainAttrs_list PySem.F.slot_list_pop PySem.F.type_list_pop mt_pop (pv 1)))) (sOne (sMut mut_app (pe_bm PySem.F.plainAttrs_list PySem.F.slot_list_append PySem.F.type_list_append mt_append (pv 1) (fC (nD 2) fN)))))))
 (sOne (sRet (pb (calT kTup T.b_tuple (aC (nB 1) aN)))))))⟩

def g_back_cord : List Sl → R Out := (retM (m1 (consR (frz (lcM [1] (itR (m1 (nDR 0) revR)) (gSet 1) yesT (m1 (nDR 1) negR))) nilR) tupOfR))
def m_back_cord : List D → R D := fnM 2 g_back_cord

theorem w_back_cord (T : Facts K mg) : Def P w K mg base "back_cord" ["cord"] 1 (spR K 1 m_back_cord) :=
 let ⟨f, fd, gF, F, b⟩ := T.f_back_cord
 ⟨f, fd, gF, F.kp, b, fn_ok F sc_back_cord fun cdv A outer s H E hr =>
 (sOne (sRet (pb (calT kTup T.b_tuple (aC (pb (pf (lc (own := [("turn", 1)]) sc_back_cord.nd (by show blkC n_back_cord (defScope s_back_cord) _ _ = true; decide +kernel) (iB (pb (revP (pb (nD 0))))) (fun _ _ _ _ _ => (gN 1 sc_back_cord.nd)) (fun _ _ _ _ _ => tN) (fun _ _ _ _ _ => (oNeg (pb (nD 1))))))) aN)))))⟩

def g_does_fall : List Sl → R Out := (retM (m2 (m1 (consR (nDR 0) nilR) (callR 1 m_pulled_cord)) (m1 nilR tupR) eqR))
def m_does_fall : List D → R D := fnM 1 g_does_fall

theorem w_does_fall (T : Facts K mg) (d_pulled_cord : Def P w K mg base "pulled_cord" ["cord"] 1 (spR K 1 m_pulled_cord)) : Def P w K mg base "does_fall" ["cord"] 2 (spR K 1 m_does_fall) :=
 let ⟨f, fd, gF, F, b⟩ := T.f_does_fall
 ⟨f, fd, gF, F.kp, b, fn_ok F sc_does_fall fun cdv A outer s H E hr =>
 (sOne (sRet (pb (cmp (qEq hr.units) (pb (callD d_pulled_cord (hr.mono (by omega)) (fC (nD 0) fN))) (pb (tup fN))))))⟩

def g_first_pulls : List Sl → R Out := (seqM (ifV (notT (m1 (m1 (consR (nDR 0) nilR) (callR 1 m_does_fall)) truR)) (retM (kR .none)) nilM)
 (seqM (setO 1 (m1 nilR lstR))
 (seqM (whileM (m1 (nDR 0) truR) (seqM (setM 2 (m2 (frz (lcM [2] (m1 (consR (m2 (m1 (consR (nDR 0) nilR) lenR) (kR (.int 1)) subR) nilR) range1R) (gSet 2) (m1 (m2 (m2 (nDR 0) (nDR 2) ixR) (m1 (m2 (nDR 0) (m2 (nDR 2) (kR (.int 1)) addR) ixR) negR) eqR) asB) (nDR 2))) (kR (.int 0)) ixR))
 (seqM (mutM 1 (consR (nDR 2) nilR) appR)
 (setM 0 (m2 (m3 (nDR 0) noR (m1 (nDR 2) asI) slR) (m3 (nDR 0) (m1 (m2 (nDR 2) (kR (.int 2)) addR) asI) noR slR) addR)))))
 (retM (m1 (consR (nBR 1) nilR) tupOfR)))))
def m_first_pulls : List D → R D := fnM 3 g_first_pulls

theorem w_first_pulls (T : Facts K mg) (d_does_fall : Def P w K mg base "does_fall" ["cord"] 2 (spR K 1 m_does_fall)) : Def P w K mg base "first_pulls" ["cord"] 3 (spR K 1 m_first_pulls) :=
 let ⟨f, fd, gF, F, b⟩ := T.f_first_pulls
 ⟨f, fd, gF, F.kp, b, fn_ok F sc_first_pulls fun cdv A outer s H E hr =>
 (sCons (sIf (notP (tst (pb (callD d_does_fall (hr.mono (by omega)) (fC (nD 0) fN))))) (sOne (sRet (pb cN))) sNil)
 (sCons (sSetO 1 sc_first_pulls.nd (lst fN))
 (sCons (sWhile nvr (tst (pb (nD 0))) (sCons (sSet 2 sc_first_pulls.nd (ix (pb (pf (lc (own := [("k", 2)]) sc_first_pulls.nd (by show blkC n_first_pulls (defScope s_first_pulls) _ _ = true; decide +kernel) (iW (iR1 T.b_range (aC (pb (oSub (pb (cal kLen T.b_len (aC (pb (nD 0)) aN))) (pb cI))) aN))) (fun _ _ _ _ _ => (gN 2 sc_first_pulls.nd)) (fun _ _ _ _ _ => (tO1 (cmpT (qEq hr.units) (pb (ix (pb (nD 0)) (pb (nD 2)))) (pb (oNeg (pb (ix (pb (nD 0)) (pb (oAdd (pb (nD 2)) (pb cI)))))))))) (fun _ _ _ _ _ => (nD 2))))) (pb cI)))
 (sCons (sMut mut_app (pe_bm PySem.F.plainAttrs_list PySem.F.slot_list_append PySem.F.type_list_append mt_append (pv 1) (fC (nD 2) fN)))
 (sOne (sSet 0 sc_first_pulls.nd (oAdd (pb (sl (pb (nD 0)) sN (sE (pb (nD 2))))) (pb (sl (pb (nD 0)) (sE (pb (oAdd (pb (nD 2)) (pb cI)))) sN))))))))
 (sOne (sRet (pb (calT kTup T.b_tuple (aC (nB 1) aN))))))))⟩

def g_are_pulls : List Sl → R Out := (seqM (ifV (orT (notT (m1 (m1 (nDR 1) (isiR isTup)) truR)) (notT (m1 (m1 (consR (frz (lcM [2] (itR (nDR 1)) (gSet 2) yesT (m1 (consR (nDR 2) nilR) (callR 1 m_is_whole)))) nilR) allR) truR))) (retM (kR (.bool false))) nilM)
 (seqM (forM (itR (nDR 1)) (gSet 2) (seqM (ifV (orT (notT (m1 (chain ok leR ltR (kR (.int 0)) (nDR 2) (m2 (m1 (consR (nDR 0) nilR) lenR) (kR (.int 1)) subR)) asB)) (m1 (m2 (m2 (nDR 0) (nDR 2) ixR) (m1 (m2 (nDR 0) (m2 (nDR 2) (kR (.int 1)) addR) ixR) negR) neR) asB)) (retM (kR (.bool false))) nilM)
 (setM 0 (m2 (m3 (nDR 0) noR (m1 (nDR 2) asI) slR) (m3 (nDR 0) (m1 (m2 (nDR 2) (kR (.int 2)) addR) asI) noR slR) addR))))
 (retM (m2 (nDR 0) (m1 nilR tupR) eqR))))
def m_are_pulls : List D → R D := fnM 3 g_are_pulls

theorem w_are_pulls (T : Facts K mg) (d_is_whole : Def P w K mg base "is_whole" ["value"] 1 (spR K 1 m_is_whole)) : Def P w K mg base "are_pulls" ["cord", "value"] 2 (spR K 2 m_are_pulls) :=
 let ⟨f, fd, gF, F, b⟩ := T.f_are_pulls
 ⟨f, fd, gF, F.kp, b, fn_ok F sc_are_pulls fun cdv A outer s H E hr =>
 (sCons (sIf (PW.pt (orW (notP (tst (pb (isiTup T.b_isinstance T.b_tuple (pb (nD 1)))))) (or1 (notP (tst (pb (cal (kAll rfl) T.b_all (aC (pb (pf (lc (own := [("k", 2)]) sc_are_pulls.nd (by show blkC n_are_pulls (defScope s_are_pulls) _ _ = true; decide +kernel) (iB (pb (nD 1))) (fun _ _ _ _ _ => (gN 2 sc_are_pulls.nd)) (fun _ _ _ _ _ => tN) (fun _ _ _ _ _ => (callD d_is_whole (hr.mono (by omega)) (fC (nD 2) fN)))))) aN)))))))) (sOne (sRet (pb cT))) sNil)
 (sCons (sFor nvr (iS (nD 1)) (gN 2 sc_are_pulls.nd) (sCons (sIf (PW.pt (orW (notP (cmp2T (qLe hr.units) (qLt hr.units) (pb cI) (pb (nD 2)) (pb (oSub (pb (cal kLen T.b_len (aC (pb (nD 0)) aN))) (pb cI))))) (or1 (cmpT (qNe hr.units) (pb (ix (pb (nD 0)) (pb (nD 2)))) (pb (oNeg (pb (ix (pb (nD 0)) (pb (oAdd (pb (nD 2)) (pb cI))))))))))) (sOne (sRet (pb cT))) sNil)
 (sOne (sSet 0 sc_are_pulls.nd (oAdd (pb (sl (pb (nD 0)) sN (sE (pb (nD 2))))) (pb (sl (pb (nD 0)) (sE (pb (oAdd (pb (nD 2)) (pb cI)))) sN)))))))
 (sOne (sRet (pb (cmp (qEq hr.units) (pb (nD 0)) (pb (tup fN))))))))⟩

def g_turn_matrix : List Sl → R Out := (seqM (setM 1 (m1 (consR (nDR 0) nilR) absR))
 (seqM (ifV (m1 (m2 (nDR 0) (kR (.int 0)) gtR) asB) (retM (m1 (consR (m1 (consR (m2 (kR (.int 1)) (m2 (kR (.int 4)) (nDR 1) mulR) addR) (consR (m2 (m2 (m1 (kR (.int 8)) negR) (nDR 1) mulR) (nDR 1) mulR) nilR)) tupR) (consR (m1 (consR (kR (.int 2)) (consR (m2 (kR (.int 1)) (m2 (kR (.int 4)) (nDR 1) mulR) subR) nilR)) tupR) nilR)) tupR)) nilM)
 (retM (m1 (consR (m1 (consR (m2 (kR (.int 1)) (m2 (kR (.int 4)) (nDR 1) mulR) subR) (consR (m2 (m2 (kR (.int 8)) (nDR 1) mulR) (nDR 1) mulR) nilR)) tupR) (consR (m1 (consR (m1 (kR (.int 2)) negR) (consR (m2 (kR (.int 1)) (m2 (kR (.int 4)) (nDR 1) mulR) addR) nilR)) tupR) nilR)) tupR))))
def m_turn_matrix : List D → R D := fnM 2 g_turn_matrix

theorem w_turn_matrix (T : Facts K mg) : Def P w K mg base "turn_matrix" ["turn"] 1 (spR K 1 m_turn_matrix) :=
 let ⟨f, fd, gF, F, b⟩ := T.f_turn_matrix
 ⟨f, fd, gF, F.kp, b, fn_ok F sc_turn_matrix fun cdv A outer s H E hr =>
 (sCons (sSet 1 sc_turn_matrix.nd (cal kAbs T.b_abs (aC (pb (nD 0)) aN)))
 (sCons (sIf (cmpT (qGt hr.units) (pb (nD 0)) (pb cI)) (sOne (sRet (pb (tup (fC (tup (fC (oAdd (pb cI) (pb (oMul (pb cI) (pb (nD 1))))) (fC (oMul (pb (oMul (pb (oNeg (pb cI))) (pb (nD 1)))) (pb (nD 1))) fN))) (fC (tup (fC cI (fC (oSub (pb cI) (pb (oMul (pb cI) (pb (nD 1))))) fN))) fN)))))) sNil)
 (sOne (sRet (pb (tup (fC (tup (fC (oSub (pb cI) (pb (oMul (pb cI) (pb (nD 1))))) (fC (oMul (pb (oMul (pb cI) (pb (nD 1)))) (pb (nD 1))) fN))) (fC (tup (fC (oNeg (pb cI)) (fC (oAdd (pb cI) (pb (oMul (pb cI) (pb (nD 1))))) fN))) fN))))))))⟩

def g_times_matrix : List Sl → R Out := (seqM (setM 2 (m1 (consR (m1 (consR (m2 (m2 (nDR 1) (kR (.int 0)) ixR) (kR (.int 0)) ixR) (consR (m2 (m2 (nDR 1) (kR (.int 1)) ixR) (kR (.int 0)) ixR) nilR)) tupR) (consR (m1 (consR (m2 (m2 (nDR 1) (kR (.int 0)) ixR) (kR (.int 1)) ixR) (consR (m2 (m2 (nDR 1) (kR (.int 1)) ixR) (kR (.int 1)) ixR) nilR)) tupR) nilR)) tupR))
 (retM (m1 (consR (frz (lcM [3] (itR (nDR 0)) (gSet 3) yesT (m1 (consR (frz (lcM [4] (itR (nDR 2)) (gSet 4) yesT (m2 (m2 (m2 (nDR 3) (kR (.int 0)) ixR) (m2 (nDR 4) (kR (.int 0)) ixR) mulR) (m2 (m2 (nDR 3) (kR (.int 1)) ixR) (m2 (nDR 4) (kR (.int 1)) ixR) mulR) addR))) nilR) tupOfR))) nilR) tupOfR)))
def m_times_matrix : List D → R D := fnM 5 g_times_matrix

theorem w_times_matrix (T : Facts K mg) : Def P w K mg base "times_matrix" ["one", "other"] 1 (spR K 2 m_times_matrix) :=
 let ⟨f, fd, gF, F, b⟩ := T.f_times_matrix
 ⟨f, fd, gF, F.kp, b, fn_ok F sc_times_matrix fun cdv A outer s H E hr =>
 (sCons (sSet 2 sc_times_matrix.nd (tup (fC (tup (fC (ix (pb (ix (pb (nD 1)) (pb cI))) (pb cI)) (fC (ix (pb (ix (pb (nD 1)) (pb cI))) (pb cI)) fN))) (fC (tup (fC (ix (pb (ix (pb (nD 1)) (pb cI))) (pb cI)) (fC (ix (pb (ix (pb (nD 1)) (pb cI))) (pb cI)) fN))) fN))))
 (sOne (sRet (pb (calT kTup T.b_tuple (aC (pb (pf (lc (own := [("row", 3)]) sc_times_matrix.nd (by show blkC n_times_matrix (defScope s_times_matrix) _ _ = true; decide +kernel) (iB (pb (nD 0))) (fun _ _ _ _ _ => (gN 3 sc_times_matrix.nd)) (fun _ _ _ _ _ => tN) (fun _ _ _ _ _ => (calT kTup T.b_tuple (aC (pb (pf (lc (own := [("column", 4)]) sc_times_matrix.nd (by show blkC n_times_matrix (relS _ (defScope s_times_matrix)) _ _ = true; decide +kernel) (iB (pb (nD 2))) (fun _ _ _ _ _ => (gN 4 sc_times_matrix.nd)) (fun _ _ _ _ _ => tN) (fun _ _ _ _ _ => (oAdd (pb (oMul (pb (ix (pb (nD 3)) (pb cI))) (pb (ix (pb (nD 4)) (pb cI))))) (pb (oMul (pb (ix (pb (nD 3)) (pb cI))) (pb (ix (pb (nD 4)) (pb cI)))))))))) aN)))))) aN))))))⟩

def g_matrix_of : List Sl → R Out := (seqM (setM 1 (m1 (consR (m1 (consR (kR (.int 1)) (consR (kR (.int 0)) nilR)) tupR) (consR (m1 (consR (kR (.int 0)) (consR (kR (.int 1)) nilR)) tupR) nilR)) tupR))
 (seqM (forM (itR (nDR 0)) (gSet 2) (setM 1 (m1 (consR (nDR 1) (consR (m1 (consR (nDR 2) nilR) (callR 1 m_turn_matrix)) nilR)) (callR 2 m_times_matrix))))
 (retM (nDR 1))))
def m_matrix_of : List D → R D := fnM 3 g_matrix_of

theorem w_matrix_of (T : Facts K mg) (d_times_matrix : Def P w K mg base "times_matrix" ["one", "other"] 1 (spR K 2 m_times_matrix)) (d_turn_matrix : Def P w K mg base "turn_matrix" ["turn"] 1 (spR K 1 m_turn_matrix)) : Def P w K mg base "matrix_of" ["cord"] 2 (spR K 1 m_matrix_of) :=
 let ⟨f, fd, gF, F, b⟩ := T.f_matrix_of
 ⟨f, fd, gF, F.kp, b, fn_ok F sc_matrix_of fun cdv A outer s H E hr =>
 (sCons (sSet 1 sc_matrix_of.nd (tup (fC (tup (fC cI (fC cI fN))) (fC (tup (fC cI (fC cI fN))) fN))))
 (sCons (sFor nvr (iS (nD 0)) (gN 2 sc_matrix_of.nd) (sOne (sSet 1 sc_matrix_of.nd (callD d_times_matrix (hr.mono (by omega)) (fC (nD 1) (fC (callD d_turn_matrix (hr.mono (by omega)) (fC (nD 2) fN)) fN))))))
 (sOne (sRet (pb (nD 1))))))⟩

def g_without_nails : List Sl → R Out := (retM (m1 (consR (frz (lcM [2] (itR (nDR 0)) (gSet 2) (m1 (m2 (m1 (consR (nDR 2) nilR) absR) (nDR 1) notInR) asB) (nDR 2))) nilR) (callR 1 m_pulled_cord)))
def m_without_nails : List D → R D := fnM 3 g_without_nails

theorem w_without_nails (T : Facts K mg) (d_pulled_cord : Def P w K mg base "pulled_cord" ["cord"] 1 (spR K 1 m_pulled_cord)) : Def P w K mg base "without_nails" ["cord", "nails"] 2 (spR K 2 m_without_nails) :=
 let ⟨f, fd, gF, F, b⟩ := T.f_without_nails
 ⟨f, fd, gF, F.kp, b, fn_ok F sc_without_nails fun cdv A outer s H E hr =>
 (sOne (sRet (pb (callD d_pulled_cord (hr.mono (by omega)) (fC (pf (lc (own := [("turn", 2)]) sc_without_nails.nd (by show blkC n_without_nails (defScope s_without_nails) _ _ = true; decide +kernel) (iB (pb (nD 0))) (fun _ _ _ _ _ => (gN 2 sc_without_nails.nd)) (fun _ _ _ _ _ => (tO1 (cmpT (qNotIn hr.units) (pb (cal kAbs T.b_abs (aC (pb (nD 2)) aN))) (pb (nD 1))))) (fun _ _ _ _ _ => (nD 2)))) fN)))))⟩

def g_law_same (self : List D → R D) : List Sl → R Out := (seqM (ifV (orT (andT (m1 (m1 (nDR 0) (isiR isTup)) truR) (m1 (m1 (nDR 1) (isiR isTup)) truR)) (andT (m1 (m1 (nDR 0) (isiR isLst)) truR) (m1 (m1 (nDR 1) (isiR isLst)) truR))) (retM (andV (m2 (m1 (consR (nDR 0) nilR) lenR) (m1 (consR (nDR 1) nilR) lenR) eqR) (m1 (consR (frz (lcM [2] (m1 (consR (m1 (consR (nDR 0) nilR) lenR) nilR) range1R) (gSet 2) yesT (m1 (consR (m2 (nDR 0) (nDR 2) ixR) (consR (m2 (nDR 1) (nDR 2) ixR) nilR)) (callR 2 self)))) nilR) allR))) nilM)
 (seqM (ifV (orT (m1 (m1 (nDR 0) (isiR isBoo)) truR) (m1 (m1 (nDR 1) (isiR isBoo)) truR)) (retM (andV (m1 (nDR 0) (isiR isBoo)) (andV (m1 (nDR 1) (isiR isBoo)) (m2 (nDR 0) (nDR 1) eqR)))) nilM)
 (seqM (ifV (orT (andT (m1 (m1 (nDR 0) (isiR isInt)) truR) (m1 (m1 (nDR 1) (isiR isInt)) truR)) (andT (m1 (m1 (nDR 0) (isiR isStr)) truR) (m1 (m1 (nDR 1) (isiR isStr)) truR))) (retM (m2 (nDR 0) (nDR 1) eqR)) nilM)
 (retM (andV (m2 (nDR 0) (kR .none) isR) (m2 (nDR 1) (kR .none) isR))))))
def m_law_same : Nat → List D → R D
  | 0 => fun _ => fail
  | i + 1 => fnM 3 (g_law_same (m_law_same i))

theorem w_law_same (T : Facts K mg) : ∀ i, Def P w K mg base "_law_same" ["a", "b"] (0 + i) (spR K 2 (m_law_same i)) :=
 let ⟨f, fd, gF, F, b⟩ := T.f_law_same
 fun i => ⟨f, fd, gF, F.kp, b, fn_rec (m := m_law_same) (fun _ _ h => h) rfl (fun i IH => fn_ok F sc_law_same (fun cdv A outer s H E hr => have d_law_same : Def P w K mg base "_law_same" ["a", "b"] (0 + i) (spR K 2 (m_law_same i)) := ⟨f, fd, gF, F.kp, b, IH⟩
 (sCons (sIf (PW.pt (orW (PW.pt (andW (tst (pb (isiTup T.b_isinstance T.b_tuple (pb (nD 0))))) (and1 (tst (pb (isiTup T.b_isinstance T.b_tuple (pb (nD 1)))))))) (or1 (PW.pt (andW (tst (pb (isiLst T.b_isinstance T.b_list (pb (nD 0))))) (and1 (tst (pb (isiLst T.b_isinstance T.b_list (pb (nD 1))))))))))) (sOne (sRet (pb (andP (cmp (qEq hr.units) (pb (cal kLen T.b_len (aC (pb (nD 0)) aN))) (pb (cal kLen T.b_len (aC (pb (nD 1)) aN)))) (v1 (cal (kAll rfl) T.b_all (aC (pb (pf (lc (own := [("k", 2)]) sc_law_same.nd (by show blkC n_law_same (defScope s_law_same) _ _ = true; decide +kernel) (iW (iR1 T.b_range (aC (pb (cal kLen T.b_len (aC (pb (nD 0)) aN))) aN))) (fun _ _ _ _ _ => (gN 2 sc_law_same.nd)) (fun _ _ _ _ _ => tN) (fun _ _ _ _ _ => (callD d_law_same hr (fC (ix (pb (nD 0)) (pb (nD 2))) (fC (ix (pb (nD 1)) (pb (nD 2))) fN))))))) aN))))))) sNil)
 (sCons (sIf (PW.pt (orW (tst (pb (isiBoo T.b_isinstance T.b_bool (pb (nD 0))))) (or1 (tst (pb (isiBoo T.b_isinstance T.b_bool (pb (nD 1)))))))) (sOne (sRet (pb (andP (isiBoo T.b_isinstance T.b_bool (pb (nD 0))) (andP (isiBoo T.b_isinstance T.b_bool (pb (nD 1))) (v1 (cmp (qEq hr.units) (pb (nD 0)) (pb (nD 1))))))))) sNil)
 (sCons (sIf (PW.pt (orW (PW.pt (andW (tst (pb (isiInt T.b_isinstance T.b_int (pb (nD 0))))) (and1 (tst (pb (isiInt T.b_isinstance T.b_int (pb (nD 1)))))))) (or1 (PW.pt (andW (tst (pb (isiStr T.b_isinstance T.b_str (pb (nD 0))))) (and1 (tst (pb (isiStr T.b_isinstance T.b_str (pb (nD 1))))))))))) (sOne (sRet (pb (cmp (qEq hr.units) (pb (nD 0)) (pb (nD 1)))))) sNil)
 (sOne (sRet (pb (andP (cmp (qIs hr.units) (pb (nD 0)) (pb cN)) (v1 (cmp (qIs hr.units) (pb (nD 1)) (pb cN)))))))))))) i⟩

def g_law_pulled : List Sl → R Out := (seqM (setM 1 (frz (m1 (consR (nDR 0) nilR) lstOfR)))
 (seqM (forM (m1 (consR (m1 (consR (nDR 0) nilR) lenR) nilR) range1R) (gSet 2) (seqM (setM 3 (frz (lcM [4] (m1 (consR (m2 (m1 (consR (nDR 1) nilR) lenR) (kR (.int 1)) subR) nilR) range1R) (gSet 4) (m1 (m2 (m2 (nDR 1) (nDR 4) ixR) (m1 (m2 (nDR 1) (m2 (nDR 4) (kR (.int 1)) addR) ixR) negR) eqR) asB) (nDR 4))))
 (ifV (m1 (m2 (m1 (consR (nDR 3) nilR) lenR) (kR (.int 0)) gtR) asB) (setM 1 (m2 (m3 (nDR 1) noR (m1 (m2 (nDR 3) (m1 (kR (.int 1)) negR) ixR) asI) slR) (m3 (nDR 1) (m1 (m2 (m2 (nDR 3) (m1 (kR (.int 1)) negR) ixR) (kR (.int 2)) addR) asI) noR slR) addR)) nilM)))
 (retM (m1 (consR (nDR 1) nilR) tupOfR))))
def m_law_pulled : List D → R D := fnM 5 g_law_pulled

theorem w_law_pulled (T : Facts K mg) : Def P w K mg base "_law_pulled" ["cord"] 1 (spR K 1 m_law_pulled) :=
 let ⟨f, fd, gF, F, b⟩ := T.f_law_pulled
 ⟨f, fd, gF, F.kp, b, fn_ok F sc_law_pulled fun cdv A outer s H E hr =>
 (sCons (sSet 1 sc_law_pulled.nd (pf (calTF kLst T.b_list (aC (pb (nD 0)) aN))))
 (sCons (sFor nvr (iR1 T.b_range (aC (pb (cal kLen T.b_len (aC (pb (nD 0)) aN))) aN)) (gN 2 sc_law_pulled.nd) (sCons (sLcD 3 (own := [("k", 4)]) sc_law_pulled.nd (by show blkC n_law_pulled (defScope s_law_pulled) _ _ = true; decide +kernel) (iW (iR1 T.b_range (aC (pb (oSub (pb (cal kLen T.b_len (aC (pb (nD 1)) aN))) (pb cI))) aN))) (fun _ _ _ _ _ => (gN 4 sc_law_pulled.nd)) (fun _ _ _ _ _ => (tO1 (cmpT (qEq hr.units) (pb (ix (pb (nD 1)) (pb (nD 4)))) (pb (oNeg (pb (ix (pb (nD 1)) (pb (oAdd (pb (nD 4)) (pb cI)))))))))) (fun _ _ _ _ _ => (nD 4)) (sw_true rfl rfl rfl (by decide +kernel)))
 (sOne (sIf (cmpT (qGt hr.units) (pb (cal kLen T.b_len (aC (pb (nD 3)) aN))) (pb cI)) (sOne (sSet 1 sc_law_pulled.nd (oAdd (pb (sl (pb (nD 1)) sN (sE (pb (ix (pb (nD 3)) (pb (oNeg (pb cI)))))))) (pb (sl (pb (nD 1)) (sE (pb (oAdd (pb (ix (pb (nD 3)) (pb (oNeg (pb cI))))) (pb cI)))) sN))))) sNil))))
 (sOne (sRet (pb (calT kTup T.b_tuple (aC (pb (nD 1)) aN)))))))⟩

def g_law_cord : List Sl → R Out := (seqM (setO 3 (m1 nilR lstR))
 (seqM (forM (m1 (consR (callX 0 2 1 (consR (nDR 2) nilR) m_law_draw) nilR) range1R) (gSet 4) (seqM (setM 5 (m2 (kR (.int 1)) (callX 0 2 1 (consR (nDR 1) nilR) m_law_draw) addR))
 (mutM 3 (consR (ifV (m1 (m2 (callX 0 2 1 (consR (kR (.int 2)) nilR) m_law_draw) (kR (.int 0)) eqR) asB) (nDR 5) (m1 (nDR 5) negR)) nilR) appR)))
 (seqM (ifV (m1 (m2 (callX 0 2 1 (consR (kR (.int 3)) nilR) m_law_draw) (kR (.int 0)) eqR) asB) (seqM (setM 6 (callX 0 2 1 (consR (m2 (m1 (consR (nBR 3) nilR) lenR) (kR (.int 1)) addR) nilR) m_law_draw))
 (setO 3 (m2 (m2 (m3 (nBR 3) noR (m1 (nDR 6) asI) slR) (frz (lcM [7] (itR (m1 (m3 (nBR 3) noR (m1 (nDR 6) asI) slR) revR)) (gSet 7) yesT (m1 (nDR 7) negR))) addR) (m3 (nBR 3) (m1 (nDR 6) asI) noR slR) catF))) nilM)
 (retM (m1 (consR (nBR 3) nilR) tupOfR)))))
def m_law_cord : List D → R D := fnX 2 8 g_law_cord

theorem w_law_cord (T : Facts K mg) (d_law_draw : Def P w K mg base "_law_draw" ["box", "many"] 2 (spX K 2 1 m_law_draw)) : Def P w K mg base "_law_cord" ["box", "many", "most"] 3 (spX K 2 2 m_law_cord) :=
 let ⟨f, fd, gF, F, b⟩ := T.f_law_cord
 ⟨f, fd, gF, F.kp, b, fn_okX F sc_law_cord fun cdv A outer s H E hr =>
 (sCons (sSetO 3 sc_law_cord.nd (lst fN))
 (sCons (sFor nvr (iR1 T.b_range (aC (pb (callD_X 0 d_law_draw (hr.mono (by omega)) (fC (nD 2) fN))) aN)) (gN 4 sc_law_cord.nd) (sCons (sSet 5 sc_law_cord.nd (oAdd (pb cI) (pb (callD_X 0 d_law_draw (hr.mono (by omega)) (fC (nD 1) fN)))))
 (sOne (sMut mut_app (pe_bm PySem.F.plainAttrs_list PySem.F.slot_list_append PySem.F.type_list_append mt_append (pv 3) (fC (ifP (cmpT (qEq hr.units) (pb (callD_X 0 d_law_draw (hr.mono (by omega)) (fC cI fN))) (pb cI)) (nD 5) (oNeg (pb (nD 5)))) fN))))))
 (sCons (sIf (cmpT (qEq hr.units) (pb (callD_X 0 d_law_draw (hr.mono (by omega)) (fC cI fN))) (pb cI)) (sCons (sSet 6 sc_law_cord.nd (callD_X 0 d_law_draw (hr.mono (by omega)) (fC (oAdd (pb (cal kLen T.b_len (aC (nB 3) aN))) (pb cI)) fN)))
 (sOne (sSetO 3 sc_law_cord.nd (catL (pb (oAdd (pb (sl (nB 3) sN (sE (pb (nD 6))))) (pb (pf (lc (own := [("turn", 7)]) sc_law_cord.nd (by show blkC n_law_cord (defScope s_law_cord) _ _ = true; decide +kernel) (iB (pb (revP (pb (sl (nB 3) sN (sE (pb (nD 6)))))))) (fun _ _ _ _ _ => (gN 7 sc_law_cord.nd)) (fun _ _ _ _ _ => tN) (fun _ _ _ _ _ => (oNeg (pb (nD 7))))))))) (pb (sl (nB 3) (sE (pb (nD 6))) sN)))))) sNil)
 (sOne (sRet (pb (calT kTup T.b_tuple (aC (nB 3) aN))))))))⟩

def g_law_left : List Sl → R Out := (retM (m1 (consR (frz (lcM [2] (itR (nDR 0)) (gSet 2) (m1 (m2 (m1 (consR (nDR 2) nilR) absR) (nDR 1) notInR) asB) (nDR 2))) nilR) (callR 1 m_law_pulled)))
def m_law_left : List D → R D := fnM 3 g_law_left

theorem w_law_left (T : Facts K mg) (d_law_pulled : Def P w K mg base "_law_pulled" ["cord"] 1 (spR K 1 m_law_pulled)) : Def P w K mg base "_law_left" ["cord", "nails"] 2 (spR K 2 m_law_left) :=
 let ⟨f, fd, gF, F, b⟩ := T.f_law_left
 ⟨f, fd, gF, F.kp, b, fn_ok F sc_law_left fun cdv A outer s H E hr =>
 (sOne (sRet (pb (callD d_law_pulled (hr.mono (by omega)) (fC (pf (lc (own := [("turn", 2)]) sc_law_left.nd (by show blkC n_law_left (defScope s_law_left) _ _ = true; decide +kernel) (iB (pb (nD 0))) (fun _ _ _ _ _ => (gN 2 sc_law_left.nd)) (fun _ _ _ _ _ => (tO1 (cmpT (qNotIn hr.units) (pb (cal kAbs T.b_abs (aC (pb (nD 2)) aN))) (pb (nD 1))))) (fun _ _ _ _ _ => (nD 2)))) fN)))))⟩

def g_law_bent (self : List D → R D) : List Sl → R Out := (seqM (ifV (andT (m1 (m1 (nDR 1) (isiR isTup)) truR) (andT (m1 (m2 (m1 (consR (nDR 1) nilR) lenR) (kR (.int 0)) gtR) asB) (m1 (m2 (callX 0 2 1 (consR (kR (.int 5)) nilR) m_law_draw) (kR (.int 0)) gtR) asB))) (seqM (setM 3 (callX 0 2 1 (consR (m1 (consR (nDR 1) nilR) lenR) nilR) m_law_draw))
 (retM (m2 (m2 (m3 (nDR 1) noR (m1 (nDR 3) asI) slR) (m1 (consR (callX 0 2 1 (consR (m2 (nDR 1) (nDR 3) ixR) nilR) self) nilR) tupR) addR) (m3 (nDR 1) (m1 (m2 (nDR 3) (kR (.int 1)) addR) asI) noR slR) addR))) nilM)
 (seqM (setM 2 (callX 0 2 1 (consR (kR (.int 8)) nilR) m_law_draw))
 (seqM (ifV (m1 (m1 (nDR 1) (isiR isTup)) truR) (retM (m2 (frz (m1 (consR (m2 (nDR 1) (m3 (nDR 1) noR (m1 (kR (.int 1)) asI) slR) addR) (consR (m3 (nDR 1) (m1 (kR (.int 1)) asI) noR slR) (consR (m1 (nDR 1) revR) (consR (m2 (nDR 1) (m1 (consR (kR (.int 0)) nilR) tupR) addR) (consR (m1 (consR (nDR 1) nilR) tupR) (consR (m3 (nDR 1) noR (m1 (m1 (kR (.int 1)) negR) asI) slR) (consR (kR .none) (consR (m2 (nDR 1) (m1 (consR (m1 (consR (kR (.int 0)) (consR (kR (.int 1)) nilR)) tupR) nilR) tupR) addR) nilR)))))))) lstR)) (nDR 2) ixR)) nilM)
 (seqM (ifV (andT (m1 (m1 (nDR 1) (isiR isInt)) truR) (notT (m1 (m1 (nDR 1) (isiR isBoo)) truR))) (retM (m2 (frz (m1 (consR (m2 (nDR 1) (kR (.int 1)) addR) (consR (m2 (nDR 1) (kR (.int 1)) subR) (consR (kR (.int 0)) (consR (m2 (nDR 1) (kR (.int 1)) eqR) (consR (kR .none) (consR (m1 (consR (nDR 1) nilR) strR) (consR (m1 (consR (nDR 1) nilR) tupR) (consR (m2 (nDR 1) (kR (.int 2)) addR) nilR)))))))) lstR)) (nDR 2) ixR)) nilM)
 (seqM (ifV (m1 (m1 (nDR 1) (isiR isStr)) truR) (retM (m2 (frz (m1 (consR (m2 (nDR 1) (kR (.str "s")) addR) (consR (m3 (nDR 1) (m1 (kR (.int 1)) asI) noR slR) (consR (kR (.str "rod")) (consR (kR (.str "hook")) (consR (kR (.int 0)) (consR (kR .none) (consR (kR (.str "")) (consR (kR (.str "rope")) nilR)))))))) lstR)) (nDR 2) ixR)) nilM)
 (retM (m2 (frz (m1 (consR (kR (.int 0)) (consR (kR (.int 1)) (consR (kR .none) (consR (kR (.bool true)) (consR (kR (.str "a")) (consR (m1 nilR tupR) (consR (m1 (consR (kR (.int 0)) nilR) tupR) (consR (kR (.str "point")) nilR)))))))) lstR)) (nDR 2) ixR)))))))
def m_law_bent : Nat → List D → R D
  | 0 => fun _ => fail
  | i + 1 => fnX 2 4 (g_law_bent (m_law_bent i))

theorem w_law_bent (T : Facts K mg) (d_law_draw : Def P w K mg base "_law_draw" ["box", "many"] 2 (spX K 2 1 m_law_draw)) : ∀ i, Def P w K mg base "_law_bent" ["box", "value"] (2 + i) (spX K 2 1 (m_law_bent i)) :=
 let ⟨f, fd, gF, F, b⟩ := T.f_law_bent
 fun i => ⟨f, fd, gF, F.kp, b, fn_recX (m := m_law_bent) (fun _ _ h => h) rfl (fun i IH => fn_okX F sc_law_bent (fun cdv A outer s H E hr => have d_law_bent : Def P w K mg base "_law_bent" ["box", "value"] (2 + i) (spX K 2 1 (m_law_bent i)) := ⟨f, fd, gF, F.kp, b, IH⟩
 (sCons (sIf (PW.pt (andW (tst (pb (isiTup T.b_isinstance T.b_tuple (pb (nD 1))))) (andW (cmpT (qGt hr.units) (pb (cal kLen T.b_len (aC (pb (nD 1)) aN))) (pb cI)) (and1 (cmpT (qGt hr.units) (pb (callD_X 0 d_law_draw (hr.mono (by omega)) (fC cI fN))) (pb cI)))))) (sCons (sSet 3 sc_law_bent.nd (callD_X 0 d_law_draw (hr.mono (by omega)) (fC (cal kLen T.b_len (aC (pb (nD 1)) aN)) fN)))
 (sOne (sRet (pb (oAdd (pb (oAdd (pb (sl (pb (nD 1)) sN (sE (pb (nD 3))))) (pb (tup (fC (callD_X 0 d_law_bent hr (fC (ix (pb (nD 1)) (pb (nD 3))) fN)) fN))))) (pb (sl (pb (nD 1)) (sE (pb (oAdd (pb (nD 3)) (pb cI)))) sN))))))) sNil)
 (sCons (sSet 2 sc_law_bent.nd (callD_X 0 d_law_draw (hr.mono (by omega)) (fC cI fN)))
 (sCons (sIf (tst (pb (isiTup T.b_isinstance T.b_tuple (pb (nD 1))))) (sOne (sRet (pb (ix (pb (pf (lst (fC (oAdd (pb (nD 1)) (pb (sl (pb (nD 1)) sN (sE (pb cI))))) (fC (sl (pb (nD 1)) (sE (pb cI)) sN) (fC (revP (pb (nD 1))) (fC (oAdd (pb (nD 1)) (pb (tup (fC cI fN)))) (fC (tup (fC (nD 1) fN)) (fC (sl (pb (nD 1)) sN (sE (pb (oNeg (pb cI))))) (fC cN (fC (oAdd (pb (nD 1)) (pb (tup (fC (tup (fC cI (fC cI fN))) fN)))) fN))))))))))) (pb (nD 2)))))) sNil)
 (sCons (sIf (PW.pt (andW (tst (pb (isiInt T.b_isinstance T.b_int (pb (nD 1))))) (and1 (notP (tst (pb (isiBoo T.b_isinstance T.b_bool (pb (nD 1))))))))) (sOne (sRet (pb (ix (pb (pf (lst (fC (oAdd (pb (nD 1)) (pb cI)) (fC (oSub (pb (nD 1)) (pb cI)) (fC cI (fC (cmp (qEq hr.units) (pb (nD 1)) (pb cI)) (fC cN (fC (calT kStr T.b_str (aC (pb (nD 1)) aN)) (fC (tup (fC (nD 1) fN)) (fC (oAdd (pb (nD 1)) (pb cI)) fN))))))))))) (pb (nD 2)))))) sNil)
 (sCons (sIf (tst (pb (isiStr T.b_isinstance T.b_str (pb (nD 1))))) (sOne (sRet (pb (ix (pb (pf (lst (fC (oAdd (pb (nD 1)) (pb cS)) (fC (sl (pb (nD 1)) (sE (pb cI)) sN) (fC cS (fC cS (fC cI (fC cN (fC cS (fC cS fN))))))))))) (pb (nD 2)))))) sNil)
 (sOne (sRet (pb (ix (pb (pf (lst (fC cI (fC cI (fC cN (fC cT (fC cS (fC (tup fN) (fC (tup (fC cI fN)) (fC cS fN))))))))))) (pb (nD 2))))))))))))) i⟩

def g_law_times : List Sl → R Out := (retM (m1 (consR (m1 (consR (m2 (m2 (m2 (m2 (nDR 0) (kR (.int 0)) ixR) (kR (.int 0)) ixR) (m2 (m2 (nDR 1) (kR (.int 0)) ixR) (kR (.int 0)) ixR) mulR) (m2 (m2 (m2 (nDR 0) (kR (.int 0)) ixR) (kR (.int 1)) ixR) (m2 (m2 (nDR 1) (kR (.int 1)) ixR) (kR (.int 0)) ixR) mulR) addR) (consR (m2 (m2 (m2 (m2 (nDR 0) (kR (.int 0)) ixR) (kR (.int 0)) ixR) (m2 (m2 (nDR 1) (kR (.int 0)) ixR) (kR (.int 1)) ixR) mulR) (m2 (m2 (m2 (nDR 0) (kR (.int 0)) ixR) (kR (.int 1)) ixR) (m2 (m2 (nDR 1) (kR (.int 1)) ixR) (kR (.int 1)) ixR) mulR) addR) nilR)) tupR) (consR (m1 (consR (m2 (m2 (m2 (m2 (nDR 0) (kR (.int 1)) ixR) (kR (.int 0)) ixR) (m2 (m2 (nDR 1) (kR (.int 0)) ixR) (kR (.int 0)) ixR) mulR) (m2 (m2 (m2 (nDR 0) (kR (.int 1)) ixR) (kR (.int 1)) ixR) (m2 (m2 (nDR 1) (kR (.int 1)) ixR) (kR (.int 0)) ixR) mulR) addR) (consR (m2 (m2 (m2 (m2 (nDR 0) (kR (.int 1)) ixR) (kR (.int 0)) ixR) (m2 (m2 (nDR 1) (kR (.int 0)) ixR) (kR (.int 1)) ixR) mulR) (m2 (m2 (m2 (nDR 0) (kR (.int 1)) ixR) (kR (.int 1)) ixR) (m2 (m2 (nDR 1) (kR (.int 1)) ixR) (kR (.int 1)) ixR) mulR) addR) nilR)) tupR) nilR)) tupR))
def m_law_times : List D → R D := fnM 2 g_law_times

theorem w_law_times (T : Facts K mg) : Def P w K mg base "_law_times" ["a", "b"] 1 (spR K 2 m_law_times) :=
 let ⟨f, fd, gF, F, b⟩ := T.f_law_times
 ⟨f, fd, gF, F.kp, b, fn_ok F sc_law_times fun cdv A outer s H E hr =>
 (sOne (sRet (pb (tup (fC (tup (fC (oAdd (pb (oMul (pb (ix (pb (ix (pb (nD 0)) (pb cI))) (pb cI))) (pb (ix (pb (ix (pb (nD 1)) (pb cI))) (pb cI))))) (pb (oMul (pb (ix (pb (ix (pb (nD 0)) (pb cI))) (pb cI))) (pb (ix (pb (ix (pb (nD 1)) (pb cI))) (pb cI)))))) (fC (oAdd (pb (oMul (pb (ix (pb (ix (pb (nD 0)) (pb cI))) (pb cI))) (pb (ix (pb (ix (pb (nD 1)) (pb cI))) (pb cI))))) (pb (oMul (pb (ix (pb (ix (pb (nD 0)) (pb cI))) (pb cI))) (pb (ix (pb (ix (pb (nD 1)) (pb cI))) (pb cI)))))) fN))) (fC (tup (fC (oAdd (pb (oMul (pb (ix (pb (ix (pb (nD 0)) (pb cI))) (pb cI))) (pb (ix (pb (ix (pb (nD 1)) (pb cI))) (pb cI))))) (pb (oMul (pb (ix (pb (ix (pb (nD 0)) (pb cI))) (pb cI))) (pb (ix (pb (ix (pb (nD 1)) (pb cI))) (pb cI)))))) (fC (oAdd (pb (oMul (pb (ix (pb (ix (pb (nD 0)) (pb cI))) (pb cI))) (pb (ix (pb (ix (pb (nD 1)) (pb cI))) (pb cI))))) (pb (oMul (pb (ix (pb (ix (pb (nD 0)) (pb cI))) (pb cI))) (pb (ix (pb (ix (pb (nD 1)) (pb cI))) (pb cI)))))) fN))) fN))))))⟩

def g_law_matrix : List Sl → R Out := (seqM (setM 1 (m1 (consR (m1 (consR (kR (.int 1)) (consR (kR (.int 0)) nilR)) tupR) (consR (m1 (consR (kR (.int 0)) (consR (kR (.int 1)) nilR)) tupR) nilR)) tupR))
 (seqM (forM (itR (nDR 0)) (gSet 2) (seqM (setM 3 (m1 (consR (nDR 2) nilR) absR))
 (forM (itR (m1 (consR (m1 (consR (m1 (consR (kR (.int 1)) (consR (m2 (kR (.int 2)) (nDR 3) mulR) nilR)) tupR) (consR (m1 (consR (kR (.int 0)) (consR (kR (.int 1)) nilR)) tupR) nilR)) tupR) (consR (m1 (consR (m1 (consR (kR (.int 1)) (consR (kR (.int 0)) nilR)) tupR) (consR (m1 (consR (ifV (m1 (m2 (nDR 2) (kR (.int 0)) gtR) asB) (kR (.int 2)) (m1 (kR (.int 2)) negR)) (consR (kR (.int 1)) nilR)) tupR) nilR)) tupR) (consR (m1 (consR (m1 (consR (kR (.int 1)) (consR (m2 (m1 (kR (.int 2)) negR) (nDR 3) mulR) nilR)) tupR) (consR (m1 (consR (kR (.int 0)) (consR (kR (.int 1)) nilR)) tupR) nilR)) tupR) nilR))) tupR)) (gSet 4) (setM 1 (m1 (consR (nDR 1) (consR (nDR 4) nilR)) (callR 2 m_law_times))))))
 (retM (nDR 1))))
def m_law_matrix : List D → R D := fnM 5 g_law_matrix

theorem w_law_matrix (T : Facts K mg) (d_law_times : Def P w K mg base "_law_times" ["a", "b"] 1 (spR K 2 m_law_times)) : Def P w K mg base "_law_matrix" ["cord"] 2 (spR K 1 m_law_matrix) :=
 let ⟨f, fd, gF, F, b⟩ := T.f_law_matrix
 ⟨f, fd, gF, F.kp, b, fn_ok F sc_law_matrix fun cdv A outer s H E hr =>
 (sCons (sSet 1 sc_law_matrix.nd (tup (fC (tup (fC cI (fC cI fN))) (fC (tup (fC cI (fC cI fN))) fN))))
 (sCons (sFor nvr (iS (nD 0)) (gN 2 sc_law_matrix.nd) (sCons (sSet 3 sc_law_matrix.nd (cal kAbs T.b_abs (aC (pb (nD 2)) aN)))
 (sOne (sFor nvr (iS (tup (fC (tup (fC (tup (fC cI (fC (oMul (pb cI) (pb (nD 3))) fN))) (fC (tup (fC cI (fC cI fN))) fN))) (fC (tup (fC (tup (fC cI (fC cI fN))) (fC (tup (fC (ifP (cmpT (qGt hr.units) (pb (nD 2)) (pb cI)) cI (oNeg (pb cI))) (fC cI fN))) fN))) (fC (tup (fC (tup (fC cI (fC (oMul (pb (oNeg (pb cI))) (pb (nD 3))) fN))) (fC (tup (fC cI (fC cI fN))) fN))) fN))))) (gN 4 sc_law_matrix.nd) (sOne (sSet 1 sc_law_matrix.nd (callD d_law_times (hr.mono (by omega)) (fC (nD 1) (fC (nD 4) fN)))))))))
 (sOne (sRet (pb (nD 1))))))⟩

def g_law_are_pulls : List Sl → R Out := (seqM (ifV (orT (notT (m1 (m1 (nDR 1) (isiR isTup)) truR)) (notT (m1 (m1 (consR (frz (lcM [3] (itR (nDR 1)) (gSet 3) yesT (andV (m1 (nDR 3) (isiR isInt)) (notV (m1 (nDR 3) (isiR isBoo)))))) nilR) allR) truR))) (retM (kR (.bool false))) nilM)
 (seqM (setM 2 (frz (m1 (consR (nDR 0) nilR) lstOfR)))
 (seqM (forM (itR (nDR 1)) (gSet 3) (seqM (ifV (orT (m1 (m2 (nDR 3) (kR (.int 0)) ltR) asB) (orT (m1 (m2 (m2 (nDR 3) (kR (.int 1)) addR) (m1 (consR (nDR 2) nilR) lenR) geR) asB) (m1 (m2 (m2 (m2 (nDR 2) (nDR 3) ixR) (m2 (nDR 2) (m2 (nDR 3) (kR (.int 1)) addR) ixR) addR) (kR (.int 0)) neR) asB))) (retM (kR (.bool false))) nilM)
 (setM 2 (m2 (m3 (nDR 2) noR (m1 (nDR 3) asI) slR) (m3 (nDR 2) (m1 (m2 (nDR 3) (kR (.int 2)) addR) asI) noR slR) addR))))
 (retM (m2 (m1 (consR (nDR 2) nilR) lenR) (kR (.int 0)) eqR)))))
def m_law_are_pulls : List D → R D := fnM 4 g_law_are_pulls

theorem w_law_are_pulls (T : Facts K mg) : Def P w K mg base "_law_are_pulls" ["cord", "value"] 1 (spR K 2 m_law_are_pulls) :=
 let ⟨f, fd, gF, F, b⟩ := T.f_law_are_pulls
 ⟨f, fd, gF, F.kp, b, fn_ok F sc_law_are_pulls fun cdv A outer s H E hr =>
 (sCons (sIf (PW.pt (orW (notP (tst (pb (isiTup T.b_isinstance T.b_tuple (pb (nD 1)))))) (or1 (notP (tst (pb (cal (kAll rfl) T.b_all (aC (pb (pf (lc (own := [("k", 3)]) sc_law_are_pulls.nd (by show blkC n_law_are_pulls (defScope s_law_are_pulls) _ _ = true; decide +kernel) (iB (pb (nD 1))) (fun _ _ _ _ _ => (gN 3 sc_law_are_pulls.nd)) (fun _ _ _ _ _ => tN) (fun _ _ _ _ _ => (andP (isiInt T.b_isinstance T.b_int (pb (nD 3))) (v1 (notVP (pb (isiBoo T.b_isinstance T.b_bool (pb (nD 3))))))))))) aN)))))))) (sOne (sRet (pb cT))) sNil)
 (sCons (sSet 2 sc_law_are_pulls.nd (pf (calTF kLst T.b_list (aC (pb (nD 0)) aN))))
 (sCons (sFor nvr (iS (nD 1)) (gN 3 sc_law_are_pulls.nd) (sCons (sIf (PW.pt (orW (cmpT (qLt hr.units) (pb (nD 3)) (pb cI)) (orW (cmpT (qGe hr.units) (pb (oAdd (pb (nD 3)) (pb cI))) (pb (cal kLen T.b_len (aC (pb (nD 2)) aN)))) (or1 (cmpT (qNe hr.units) (pb (oAdd (pb (ix (pb (nD 2)) (pb (nD 3)))) (pb (ix (pb (nD 2)) (pb (oAdd (pb (nD 3)) (pb cI))))))) (pb cI)))))) (sOne (sRet (pb cT))) sNil)
 (sOne (sSet 2 sc_law_are_pulls.nd (oAdd (pb (sl (pb (nD 2)) sN (sE (pb (nD 3))))) (pb (sl (pb (nD 2)) (sE (pb (oAdd (pb (nD 3)) (pb cI)))) sN)))))))
 (sOne (sRet (pb (cmp (qEq hr.units) (pb (cal kLen T.b_len (aC (pb (nD 2)) aN))) (pb cI))))))))⟩

end
end K58

namespace K58
open PySem PySem.Spec PyProof.Rows L2 Pu
section
variable {P : Program} {w : World} {K : PySem.W.Frag} {mg : Str → Option Value} {base : Heap}
def g_law : List Sl → R Out := (seqM (ifV (m1 (m2 (m1 (consR (kR (.int 8)) (consR (kR (.int 400)) nilR)) tupR) (m1 (consR (kR (.int 8)) (consR (kR (.int 400)) nilR)) tupR) neR) asB) (retM (kR (.bool false))) nilM)
 (seqM (forM (m1 (consR (kR (.int 6)) nilR) range1R) (gSet 2) (seqM (setM 3 (callX 1 2 2 (consR (m2 (frz (m1 (consR (kR (.int 2)) (consR (kR (.int 3)) (consR (kR (.int 8)) nilR))) lstR)) (callX 1 2 1 (consR (kR (.int 3)) nilR) m_law_draw) ixR) (consR (kR (.int 12)) nilR)) m_law_cord))
 (seqM (ifV (m1 (m2 (callX 1 2 1 (consR (kR (.int 3)) nilR) m_law_draw) (kR (.int 0)) eqR) asB) (setM 3 (m2 (nDR 3) (m1 (consR (frz (lcM [16] (itR (m1 (nDR 3) revR)) (gSet 16) yesT (m1 (nDR 16) negR))) nilR) tupOfR) addR)) nilM)
 (seqM (setM 4 (m1 (consR (nDR 3) nilR) (callR 1 m_law_pulled)))
 (seqM (ifV (orT (m1 (m2 (m1 (consR (nDR 3) nilR) (callR 1 m_is_nail_cord)) (kR (.bool true)) isNotR) asB) (notT (m1 (m1 (consR (m1 (consR (m1 (consR (nDR 3) nilR) (callR 1 m_pulled_cord)) (consR (m1 (consR (nDR 3) nilR) (callR 1 m_does_fall)) nilR)) tupR) (consR (m1 (consR (nDR 4) (consR (m2 (m1 (consR (nDR 4) nilR) lenR) (kR (.int 0)) eqR) nilR)) tupR) nilR)) (callR 2 (m_law_same 20))) truR))) (retM (kR (.bool false))) nilM)
 (seqM (ifV (orT (notT (m1 (m1 (consR (m1 (consR (nDR 3) nilR) (callR 1 m_matrix_of)) (consR (m1 (consR (nDR 3) nilR) (callR 1 m_law_matrix)) nilR)) (callR 2 (m_law_same 20))) truR)) (orT (m1 (m2 (m2 (m1 (consR (nDR 3) nilR) (callR 1 m_matrix_of)) (m1 (consR (m1 (consR (kR (.int 1)) (consR (kR (.int 0)) nilR)) tupR) (consR (m1 (consR (kR (.int 0)) (consR (kR (.int 1)) nilR)) tupR) nilR)) tupR) eqR) (m1 (consR (nDR 3) nilR) (callR 1 m_does_fall)) neR) asB) (m1 (m2 (m1 (consR (nDR 4) nilR) (callR 1 m_matrix_of)) (m1 (consR (nDR 3) nilR) (callR 1 m_matrix_of)) neR) asB))) (retM (kR (.bool false))) nilM)
 (seqM (setM 5 (m1 (consR (frz (lcM [16] (itR (m1 (nDR 3) revR)) (gSet 16) yesT (m1 (nDR 16) negR))) nilR) tupOfR))
 (seqM (ifV (orT (notT (m1 (m1 (consR (m1 (consR (nDR 3) nilR) (callR 1 m_back_cord)) (consR (nDR 5) nilR)) (callR 2 (m_law_same 20))) truR)) (orT (m1 (m2 (m1 (consR (m2 (nDR 3) (nDR 5) addR) nilR) (callR 1 m_does_fall)) (kR (.bool true)) isNotR) asB) (m1 (m2 (m1 (consR (nDR 5) nilR) (callR 1 m_pulled_cord)) (m1 (consR (nDR 4) nilR) (callR 1 m_back_cord)) neR) asB))) (retM (kR (.bool false))) nilM)
 (seqM (setM 6 (m1 (consR (frz (lcM [17] (m1 (consR (kR (.int 1)) (consR (kR (.int 9)) nilR)) range2R) (gSet 17) (m1 (m2 (callX 1 2 1 (consR (kR (.int 3)) nilR) m_law_draw) (kR (.int 0)) eqR) asB) (nDR 17))) nilR) tupOfR))
 (seqM (ifV (notT (m1 (m1 (consR (m1 (consR (nDR 3) (consR (nDR 6) nilR)) (callR 2 m_without_nails)) (consR (m1 (consR (nDR 3) (consR (nDR 6) nilR)) (callR 2 m_law_left)) nilR)) (callR 2 (m_law_same 20))) truR)) (retM (kR (.bool false))) nilM)
 (seqM (setM 7 (m1 (consR (nDR 3) nilR) (callR 1 m_first_pulls)))
 (seqM (setsM [8, 9] (consR (rO (m1 nilR lstR)) (consR (rD (frz (m1 (consR (nDR 3) nilR) lstOfR))) nilR)))
 (seqM (forM (m1 (consR (ifV (m1 (m2 (m1 (consR (nDR 4) nilR) lenR) (kR (.int 0)) eqR) asB) (m2 (m1 (consR (nDR 3) nilR) lenR) (kR (.int 2)) fdivR) (kR (.int 0))) nilR) range1R) (gSet 10) (seqM (setM 14 (frz (lcM [17] (m1 (consR (m2 (m1 (consR (nDR 9) nilR) lenR) (kR (.int 1)) subR) nilR) range1R) (gSet 17) (m1 (m2 (m2 (nDR 9) (nDR 17) ixR) (m1 (m2 (nDR 9) (m2 (nDR 17) (kR (.int 1)) addR) ixR) negR) eqR) asB) (nDR 17))))
 (seqM (mutM 8 (consR (m2 (nDR 14) (kR (.int 0)) ixR) nilR) appR)
 (setM 9 (m2 (m3 (nDR 9) noR (m1 (m2 (nDR 14) (kR (.int 0)) ixR) asI) slR) (m3 (nDR 9) (m1 (m2 (m2 (nDR 14) (kR (.int 0)) ixR) (kR (.int 2)) addR) asI) noR slR) addR)))))
 (seqM (ifV (notT (m1 (m1 (consR (nDR 7) (consR (ifV (m1 (m2 (m1 (consR (nDR 4) nilR) lenR) (kR (.int 0)) eqR) asB) (m1 (consR (nBR 8) nilR) tupOfR) (kR .none)) nilR)) (callR 2 (m_law_same 20))) truR)) (retM (kR (.bool false))) nilM)
 (seqM (setM 11 (m1 (consR (frz (lcM [10] (m1 (consR (m2 (m1 (consR (nDR 3) nilR) lenR) (kR (.int 2)) fdivR) nilR) range1R) (gSet 10) yesT (callX 1 2 1 (consR (m2 (m1 (consR (nDR 3) nilR) lenR) (kR (.int 1)) addR) nilR) m_law_draw))) nilR) tupOfR))
 (seqM (setM 12 (ifV (m1 (m2 (nDR 7) (kR .none) isNotR) asB) (nDR 7) (nDR 11)))
 (seqM (forM (itR (m2 (frz (m1 (consR (nDR 12) (consR (nDR 11) (consR (m3 (nDR 12) (m1 (kR (.int 1)) asI) noR slR) (consR (m1 (nDR 12) revR) (consR (m2 (nDR 12) (m1 (consR (kR (.int 0)) nilR) tupR) addR) (consR (m2 (m1 (consR (kR (.bool true)) nilR) tupR) (m1 (consR (nDR 12) nilR) lenR) mulR) (consR (kR .none) (consR (kR (.int 0)) (consR (m1 nilR tupR) nilR))))))))) lstR)) (frz (lcM [10] (m1 (consR (kR (.int 6)) nilR) range1R) (gSet 10) yesT (callX 1 2 1 (consR (nDR 12) nilR) (m_law_bent 6)))) addR)) (gSet 13) (seqM (setM 15 (m1 (consR (nDR 3) (consR (nDR 13) nilR)) (callR 2 m_law_are_pulls)))
 (ifV (orT (notT (m1 (m1 (consR (m1 (consR (nDR 3) (consR (nDR 13) nilR)) (callR 2 m_are_pulls)) (consR (nDR 15) nilR)) (callR 2 (m_law_same 20))) truR)) (andT (m1 (nDR 15) truR) (m1 (m2 (m1 (consR (nDR 4) nilR) lenR) (kR (.int 0)) gtR) asB))) (retM (kR (.bool false))) nilM)))
 (forM (itR (m2 (frz (m1 (consR (nDR 3) (consR (m2 (nDR 3) (m1 (consR (kR (.int 9)) nilR) tupR) addR) (consR (m2 (nDR 3) (m1 (consR (kR (.int 0)) nilR) tupR) addR) (consR (m2 (nDR 3) (m1 (consR (kR (.bool true)) nilR) tupR) addR) (consR (m2 (nDR 3) (m1 (consR (kR .none) nilR) tupR) addR) (consR (m2 (m1 (consR (kR (.int 1)) nilR) tupR) (kR (.int 400)) mulR) (consR (m2 (m1 (consR (kR (.int 1)) nilR) tupR) (kR (.int 401)) mulR) (consR (m1 (consR (m1 (kR (.int 8)) negR) nilR) tupR) (consR (m1 (consR (m1 (kR (.int 9)) negR) nilR) tupR) (consR (kR .none) (consR (kR (.int 5)) nilR))))))))))) lstR)) (frz (lcM [10] (m1 (consR (kR (.int 5)) nilR) range1R) (gSet 10) yesT (callX 1 2 1 (consR (nDR 3) nilR) (m_law_bent 6)))) addR)) (gSet 13) (seqM (setM 15 (andV (m1 (nDR 13) (isiR isTup)) (andV (m2 (m1 (consR (nDR 13) nilR) lenR) (kR (.int 400)) leR) (m1 (consR (frz (lcM [18] (itR (nDR 13)) (gSet 18) yesT (andV (m1 (nDR 18) (isiR isInt)) (andV (notV (m1 (nDR 18) (isiR isBoo))) (andV (m2 (nDR 18) (kR (.int 0)) neR) (andV (m2 (m1 (kR (.int 8)) negR) (nDR 18) leR) (m2 (nDR 18) (kR (.int 8)) leR))))))) nilR) allR))))
 (ifV (notT (m1 (m1 (consR (m1 (consR (nDR 13) nilR) (callR 1 m_is_nail_cord)) (consR (nDR 15) nilR)) (callR 2 (m_law_same 20))) truR)) (retM (kR (.bool false))) nilM))))))))))))))))))))
 (retM (m1 (consR (m1 (consR (m1 (consR (m1 (consR (kR (.int 1)) (consR (kR (.int 2)) (consR (m1 (kR (.int 2)) negR) (consR (kR (.int 3)) (consR (m1 (kR (.int 3)) negR) (consR (kR (.int 1)) nilR)))))) tupR) nilR) (callR 1 m_pulled_cord)) (consR (m1 (consR (m1 (consR (kR (.int 1)) (consR (kR (.int 2)) (consR (m1 (kR (.int 2)) negR) (consR (m1 (kR (.int 1)) negR) nilR)))) tupR) nilR) (callR 1 m_first_pulls)) (consR (m1 (consR (m1 (consR (kR (.int 1)) nilR) tupR) nilR) (callR 1 m_matrix_of)) nilR))) tupR) (consR (m1 (consR (m1 (consR (kR (.int 1)) (consR (kR (.int 1)) nilR)) tupR) (consR (m1 (consR (kR (.int 1)) (consR (kR (.int 0)) nilR)) tupR) (consR (m1 (consR (m1 (consR (kR (.int 5)) (consR (m1 (kR (.int 8)) negR) nilR)) tupR) (consR (m1 (consR (kR (.int 2)) (consR (m1 (kR (.int 3)) negR) nilR)) tupR) nilR)) tupR) nilR))) tupR) nilR)) (callR 2 (m_law_same 20))))))
theorem w_law (T : Facts K mg) (d_box : Def P w K mg base "_law_box" ["script"] 1 (spBox K)) (d_law_cord : Def P w K mg base "_law_cord" ["box", "many", "most"] 3 (spX K 2 2 m_law_cord)) (d_law_draw : Def P w K mg base "_law_draw" ["box", "many"] 2 (spX K 2 1 m_law_draw)) (d_law_pulled : Def P w K mg base "_law_pulled" ["cord"] 1 (spR K 1 m_law_pulled)) (d_is_nail_cord : Def P w K mg base "is_nail_cord" ["value"] 3 (spR K 1 m_is_nail_cord)) (d_law_same : ∀ i, Def P w K mg base "_law_same" ["a", "b"] (0 + i) (spR K 2 (m_law_same i))) (d_does_fall : Def P w K mg base "does_fall" ["cord"] 2 (spR K 1 m_does_fall)) (d_pulled_cord : Def P w K mg base "pulled_cord" ["cord"] 1 (spR K 1 m_pulled_cord)) (d_law_matrix : Def P w K mg base "_law_matrix" ["cord"] 2 (spR K 1 m_law_matrix)) (d_matrix_of : Def P w K mg base "matrix_of" ["cord"] 2 (spR K 1 m_matrix_of)) (d_back_cord : Def P w K mg base "back_cord" ["cord"] 1 (spR K 1 m_back_cord)) (d_law_left : Def P w K mg base "_law_left" ["cord", "nails"] 2 (spR K 2 m_law_left)) (d_without_nails : Def P w K mg base "without_nails" ["cord", "nails"] 2 (spR K 2 m_without_nails)) (d_first_pulls : Def P w K mg base "first_pulls" ["cord"] 3 (spR K 1 m_first_pulls)) (d_law_bent : ∀ i, Def P w K mg base "_law_bent" ["box", "value"] (2 + i) (spX K 2 1 (m_law_bent i))) (d_law_are_pulls : Def P w K mg base "_law_are_pulls" ["cord", "value"] 1 (spR K 2 m_law_are_pulls)) (d_are_pulls : Def P w K mg base "are_pulls" ["cord", "value"] 2 (spR K 2 m_are_pulls)) (hlaw : g_law (.un :: .box 2 :: List.replicate 17 .un) fun o => o = .rt (.bool true))  {f : Addr} {fd : FuncData} (F : Fun K "law" "law" s_law f fd) : FnOk P w K mg base CX0 22 f fd ["script"] (spLaw K) := by
  obtain ⟨fb, fdb, gB, kB, bB, GB⟩ := d_box
  refine F.ok sc_law (fun vs H Q E h => ?_) (fun cdv A outer s H vs Q E hr h => ?_)
  · obtain ⟨_, _, rfl, _⟩ := h; rfl
  · obtain ⟨a, ns, rfl, hS, hl, q⟩ := h
    refine ⟨_, pss_cons (ps_set (i := 1) sc_law.nd rfl (by first | exact Or.inl rfl | exact Or.inr rfl) (pe_call GB (hr.mono (by omega)) (by rfl) gB kB bB .nil pass0 (pa_cons (pv 0) pa_nil))) (t := _) (u := tS K g_law) ((sCons (sIf (cmpT (qNe hr.units) (pb (tup (fC (gcI T.c_MOST_NAILS) (fC (gcI T.c_MOST_TURNS) fN)))) (pb (tup (fC cI (fC cI fN))))) (sOne (sRet (pb cT))) sNil)
 (sCons (sFor nvr (iR1 T.b_range (aC (pb cI) aN)) (gN 2 sc_law.nd) (sCons (sSet 3 sc_law.nd (callD_X 1 d_law_cord (hr.mono (by omega)) (fC (ix (pb (pf (lst (fC cI (fC cI (fC cI fN)))))) (pb (callD_X 1 d_law_draw (hr.mono (by omega)) (fC cI fN)))) (fC cI fN))))
 (sCons (sIf (cmpT (qEq hr.units) (pb (callD_X 1 d_law_draw (hr.mono (by omega)) (fC cI fN))) (pb cI)) (sOne (sSet 3 sc_law.nd (oAdd (pb (nD 3)) (pb (calT kTup T.b_tuple (aC (pb (pf (lc (own := [("part", 16)]) sc_law.nd (by show blkC n_law (defScope s_law) _ _ = true; decide +kernel) (iB (pb (revP (pb (nD 3))))) (fun _ _ _ _ _ => (gN 16 sc_law.nd)) (fun _ _ _ _ _ => tN) (fun _ _ _ _ _ => (oNeg (pb (nD 16))))))) aN)))))) sNil)
 (sCons (sSet 4 sc_law.nd (callD d_law_pulled (hr.mono (by omega)) (fC (nD 3) fN)))
 (sCons (sIf (PW.pt (orW (cmpT (qIsNot hr.units) (pb (callD d_is_nail_cord (hr.mono (by omega)) (fC (nD 3) fN))) (pb cT)) (or1 (notP (tst (pb (callD (d_law_same 20) (hr.mono (by omega)) (fC (tup (fC (callD d_pulled_cord (hr.mono (by omega)) (fC (nD 3) fN)) (fC (callD d_does_fall (hr.mono (by omega)) (fC (nD 3) fN)) fN))) (fC (tup (fC (nD 4) (fC (cmp (qEq hr.units) (pb (cal kLen T.b_len (aC (pb (nD 4)) aN))) (pb cI)) fN))) fN))))))))) (sOne (sRet (pb cT))) sNil)
 (sCons (sIf (PW.pt (orW (notP (tst (pb (callD (d_law_same 20) (hr.mono (by omega)) (fC (callD d_matrix_of (hr.mono (by omega)) (fC (nD 3) fN)) (fC (callD d_law_matrix (hr.mono (by omega)) (fC (nD 3) fN)) fN)))))) (orW (cmpT (qNe hr.units) (pb (cmp (qEq hr.units) (pb (callD d_matrix_of (hr.mono (by omega)) (fC (nD 3) fN))) (pb (tup (fC (tup (fC cI (fC cI fN))) (fC (tup (fC cI (fC cI fN))) fN)))))) (pb (callD d_does_fall (hr.mono (by omega)) (fC (nD 3) fN)))) (or1 (cmpT (qNe hr.units) (pb (callD d_matrix_of (hr.mono (by omega)) (fC (nD 4) fN))) (pb (callD d_matrix_of (hr.mono (by omega)) (fC (nD 3) fN)))))))) (sOne (sRet (pb cT))) sNil)
 (sCons (sSet 5 sc_law.nd (calT kTup T.b_tuple (aC (pb (pf (lc (own := [("part", 16)]) sc_law.nd (by show blkC n_law (defScope s_law) _ _ = true; decide +kernel) (iB (pb (revP (pb (nD 3))))) (fun _ _ _ _ _ => (gN 16 sc_law.nd)) (fun _ _ _ _ _ => tN) (fun _ _ _ _ _ => (oNeg (pb (nD 16))))))) aN)))
 (sCons (sIf (PW.pt (orW (notP (tst (pb (callD (d_law_same 20) (hr.mono (by omega)) (fC (callD d_back_cord (hr.mono (by omega)) (fC (nD 3) fN)) (fC (nD 5) fN)))))) (orW (cmpT (qIsNot hr.units) (pb (callD d_does_fall (hr.mono (by omega)) (fC (oAdd (pb (nD 3)) (pb (nD 5))) fN))) (pb cT)) (or1 (cmpT (qNe hr.units) (pb (callD d_pulled_cord (hr.mono (by omega)) (fC (nD 5) fN))) (pb (callD d_back_cord (hr.mono (by omega)) (fC (nD 4) fN)))))))) (sOne (sRet (pb cT))) sNil)
 (sCons (sSet 6 sc_law.nd (calT kTup T.b_tuple (aC (pb (pf (lc (own := [("k", 17)]) sc_law.nd (by show blkC n_law (defScope s_law) _ _ = true; decide +kernel) (iW (iR2 T.b_range (aC (pb cI) (aC (pb cI) aN)))) (fun _ _ _ _ _ => (gN 17 sc_law.nd)) (fun _ _ _ _ _ => (tO1 (cmpT (qEq hr.units) (pb (callD_X 1 d_law_draw (hr.mono (by omega)) (fC cI fN))) (pb cI)))) (fun _ _ _ _ _ => (nD 17))))) aN)))
 (sCons (sIf (notP (tst (pb (callD (d_law_same 20) (hr.mono (by omega)) (fC (callD d_without_nails (hr.mono (by omega)) (fC (nD 3) (fC (nD 6) fN))) (fC (callD d_law_left (hr.mono (by omega)) (fC (nD 3) (fC (nD 6) fN))) fN)))))) (sOne (sRet (pb cT))) sNil)
 (sCons (sSet 7 sc_law.nd (callD d_first_pulls (hr.mono (by omega)) (fC (nD 3) fN)))
 (sCons (sTup (mgC 8 sc_law.nd (mgC 9 sc_law.nd mgN)) (mO (lst fN) (mD (pf (calTF kLst T.b_list (aC (pb (nD 3)) aN))) mN)))
 (sCons (sFor nvr (iR1 T.b_range (aC (pb (ifP (cmpT (qEq hr.units) (pb (cal kLen T.b_len (aC (pb (nD 4)) aN))) (pb cI)) (oFdiv (pb (cal kLen T.b_len (aC (pb (nD 3)) aN))) (pb cI)) cI)) aN)) (gN 10 sc_law.nd) (sCons (sLcD 14 (own := [("k", 17)]) sc_law.nd (by show blkC n_law (defScope s_law) _ _ = true; decide +kernel) (iW (iR1 T.b_range (aC (pb (oSub (pb (cal kLen T.b_len (aC (pb (nD 9)) aN))) (pb cI))) aN))) (fun _ _ _ _ _ => (gN 17 sc_law.nd)) (fun _ _ _ _ _ => (tO1 (cmpT (qEq hr.units) (pb (ix (pb (nD 9)) (pb (nD 17)))) (pb (oNeg (pb (ix (pb (nD 9)) (pb (oAdd (pb (nD 17)) (pb cI)))))))))) (fun _ _ _ _ _ => (nD 17)) (sw_true rfl rfl rfl (by decide +kernel)))
 (sCons (sMut mut_app (pe_bm PySem.F.plainAttrs_list PySem.F.slot_list_append PySem.F.type_list_append mt_append (pv 8) (fC (ix (pb (nD 14)) (pb cI)) fN)))
 (sOne (sSet 9 sc_law.nd (oAdd (pb (sl (pb (nD 9)) sN (sE (pb (ix (pb (nD 14)) (pb cI)))))) (pb (sl (pb (nD 9)) (sE (pb (oAdd (pb (ix (pb (nD 14)) (pb cI))) (pb cI)))) sN))))))))
 (sCons (sIf (notP (tst (pb (callD (d_law_same 20) (hr.mono (by omega)) (fC (nD 7) (fC (ifP (cmpT (qEq hr.units) (pb (cal kLen T.b_len (aC (pb (nD 4)) aN))) (pb cI)) (calT kTup T.b_tuple (aC (nB 8) aN)) cN) fN)))))) (sOne (sRet (pb cT))) sNil)
 (sCons (sSet 11 sc_law.nd (calT kTup T.b_tuple (aC (pb (pf (lc (own := [("step", 10)]) sc_law.nd (by show blkC n_law (defScope s_law) _ _ = true; decide +kernel) (iW (iR1 T.b_range (aC (pb (oFdiv (pb (cal kLen T.b_len (aC (pb (nD 3)) aN))) (pb cI))) aN))) (fun _ _ _ _ _ => (gN 10 sc_law.nd)) (fun _ _ _ _ _ => tN) (fun _ _ _ _ _ => (callD_X 1 d_law_draw (hr.mono (by omega)) (fC (oAdd (pb (cal kLen T.b_len (aC (pb (nD 3)) aN))) (pb cI)) fN)))))) aN)))
 (sCons (sSet 12 sc_law.nd (ifP (cmpT (qIsNot hr.units) (pb (nD 7)) (pb cN)) (nD 7) (nD 11)))
 (sCons (sFor nvr (iS (oAdd (pb (pf (lst (fC (nD 12) (fC (nD 11) (fC (sl (pb (nD 12)) (sE (pb cI)) sN) (fC (revP (pb (nD 12))) (fC (oAdd (pb (nD 12)) (pb (tup (fC cI fN)))) (fC (oMul (pb (tup (fC cT fN))) (pb (cal kLen T.b_len (aC (pb (nD 12)) aN)))) (fC cN (fC cI (fC (tup fN) fN)))))))))))) (pb (pf (lc (own := [("step", 10)]) sc_law.nd (by show blkC n_law (defScope s_law) _ _ = true; decide +kernel) (iW (iR1 T.b_range (aC (pb cI) aN))) (fun _ _ _ _ _ => (gN 10 sc_law.nd)) (fun _ _ _ _ _ => tN) (fun _ _ _ _ _ => (callD_X 1 (d_law_bent 6) (hr.mono (by omega)) (fC (nD 12) fN)))))))) (gN 13 sc_law.nd) (sCons (sSet 15 sc_law.nd (callD d_law_are_pulls (hr.mono (by omega)) (fC (nD 3) (fC (nD 13) fN))))
 (sOne (sIf (PW.pt (orW (notP (tst (pb (callD (d_law_same 20) (hr.mono (by omega)) (fC (callD d_are_pulls (hr.mono (by omega)) (fC (nD 3) (fC (nD 13) fN))) (fC (nD 15) fN)))))) (or1 (PW.pt (andW (tst (pb (nD 15))) (and1 (cmpT (qGt hr.units) (pb (cal kLen T.b_len (aC (pb (nD 4)) aN))) (pb cI)))))))) (sOne (sRet (pb cT))) sNil))))
 (sOne (sFor nvr (iS (oAdd (pb (pf (lst (fC (nD 3) (fC (oAdd (pb (nD 3)) (pb (tup (fC cI fN)))) (fC (oAdd (pb (nD 3)) (pb (tup (fC cI fN)))) (fC (oAdd (pb (nD 3)) (pb (tup (fC cT fN)))) (fC (oAdd (pb (nD 3)) (pb (tup (fC cN fN)))) (fC (oMul (pb (tup (fC cI fN))) (pb cI)) (fC (oMul (pb (tup (fC cI fN))) (pb cI)) (fC (tup (fC (oNeg (pb cI)) fN)) (fC (tup (fC (oNeg (pb cI)) fN)) (fC cN (fC cI fN)))))))))))))) (pb (pf (lc (own := [("step", 10)]) sc_law.nd (by show blkC n_law (defScope s_law) _ _ = true; decide +kernel) (iW (iR1 T.b_range (aC (pb cI) aN))) (fun _ _ _ _ _ => (gN 10 sc_law.nd)) (fun _ _ _ _ _ => tN) (fun _ _ _ _ _ => (callD_X 1 (d_law_bent 6) (hr.mono (by omega)) (fC (nD 3) fN)))))))) (gN 13 sc_law.nd) (sCons (sSet 15 sc_law.nd (andP (isiTup T.b_isinstance T.b_tuple (pb (nD 13))) (andP (cmp (qLe hr.units) (pb (cal kLen T.b_len (aC (pb (nD 13)) aN))) (pb cI)) (v1 (cal (kAll rfl) T.b_all (aC (pb (pf (lc (own := [("x", 18)]) sc_law.nd (by show blkC n_law (defScope s_law) _ _ = true; decide +kernel) (iB (pb (nD 13))) (fun _ _ _ _ _ => (gN 18 sc_law.nd)) (fun _ _ _ _ _ => tN) (fun _ _ _ _ _ => (andP (isiInt T.b_isinstance T.b_int (pb (nD 18))) (andP (notVP (pb (isiBoo T.b_isinstance T.b_bool (pb (nD 18))))) (andP (cmp (qNe hr.units) (pb (nD 18)) (pb cI)) (andP (cmp (qLe hr.units) (pb (oNeg (pb cI))) (pb (nD 18))) (v1 (cmp (qLe hr.units) (pb (nD 18)) (pb cI))))))))))) aN))))))
 (sOne (sIf (notP (tst (pb (callD (d_law_same 20) (hr.mono (by omega)) (fC (callD d_is_nail_cord (hr.mono (by omega)) (fC (nD 13) fN)) (fC (nD 15) fN)))))) (sOne (sRet (pb cT))) sNil))))))))))))))))))))))
 (sOne (sRet (pb (callD (d_law_same 20) (hr.mono (by omega)) (fC (tup (fC (callD d_pulled_cord (hr.mono (by omega)) (fC (tup (fC cI (fC cI (fC (oNeg (pb cI)) (fC cI (fC (oNeg (pb cI)) (fC cI fN))))))) fN)) (fC (callD d_first_pulls (hr.mono (by omega)) (fC (tup (fC cI (fC cI (fC (oNeg (pb cI)) (fC (oNeg (pb cI)) fN))))) fN)) (fC (callD d_matrix_of (hr.mono (by omega)) (fC (tup (fC cI fN)) fN)) fN)))) (fC (tup (fC (tup (fC cI (fC cI fN))) (fC (tup (fC cI (fC cI fN))) (fC (tup (fC (tup (fC cI (fC (oNeg (pb cI)) fN))) (fC (tup (fC cI (fC (oNeg (pb cI)) fN))) fN))) fN)))) fN))))))))), ?_⟩
    exact ⟨.ref a, rfl, a, ns, rfl, hS, hl, fun b c H' ns' n s hb hc x hl' => law_rest hlaw x hl' q rfl⟩
end
end K58

namespace Pu
open PySem PySem.Spec PyProof.Rows L2
/-! ### what the words of a mirror come to, as equations -/
def tu {α : Type} (f : α → D) (l : List α) : D := .tuple (l.map f)
def li {α : Type} (f : α → D) (l : List α) : D := .list (l.map f)
section
variable {α β : Type} {f : α → D} {ρ : List Sl}
@[simp] theorem nDR_0 (d : D) (ρ : List Sl) : nDR 0 (.dat d :: ρ) = ok d := (rfl)
@[simp] theorem nDR_s (i : Nat) (s : Sl) (ρ : List Sl) : nDR (i + 1) (s :: ρ) = nDR i ρ := (rfl)
@[simp] theorem nBR_0 (d : D) (ρ : List Sl) : nBR 0 (.dat d :: ρ) = ok d := (rfl)
@[simp] theorem nBR_0o (ds : List D) (ρ : List Sl) : nBR 0 (.own ds :: ρ) = ok (.list ds) := (rfl)
@[simp] theorem nBR_s (i : Nat) (s : Sl) (ρ : List Sl) : nBR (i + 1) (s :: ρ) = nBR i ρ := (rfl)
@[simp] theorem getO_0 (ds : List D) (ρ : List Sl) : getO (.own ds :: ρ) 0 = ok ds := (rfl)
@[simp] theorem getO_s (i : Nat) (s : Sl) (ρ : List Sl) : getO (s :: ρ) (i + 1) = getO ρ i := (rfl)
@[simp] theorem kR_e (d : D) : kR d ρ = ok d := (rfl)
@[simp] theorem m1_e {γ : Type} (g : List Sl → R β) (h : β → R γ) : m1 g h ρ = bd (g ρ) h := (rfl)
@[simp] theorem m2_e {γ δ : Type} (g : List Sl → R β) (k : List Sl → R γ) (h : β → γ → R δ) : m2 g k h ρ = bd (g ρ) fun x => bd (k ρ) fun y => h x y := (rfl)
@[simp] theorem m3_e {γ δ ε : Type} (g : List Sl → R β) (k : List Sl → R γ) (l : List Sl → R δ) (h : β → γ → δ → R ε) : m3 g k l h ρ = bd (g ρ) fun x => bd (k ρ) fun y => bd (l ρ) fun z => h x y z := (rfl)
@[simp] theorem consR_e (g : List Sl → R β) (h : List Sl → R (List β)) : consR g h ρ = bd (g ρ) fun x => bd (h ρ) fun xs => ok (x :: xs) := (rfl)
@[simp] theorem nilR_e : (nilR : List Sl → R (List β)) ρ = ok [] := (rfl)
@[simp] theorem seqM_e (g h : List Sl → R Out) : seqM g h ρ = bd (g ρ) (nxt h) := (rfl)
@[simp] theorem setM_e (i : Nat) (g : List Sl → R D) : setM i g ρ = bd (g ρ) fun d => ok (.nx (ρ.set i (.dat d))) := (rfl)
@[simp] theorem setO_e (i : Nat) (g : List Sl → R (List D)) : setO i g ρ = bd (g ρ) fun d => ok (.nx (ρ.set i (.own d))) := (rfl)
@[simp] theorem retM_e (g : List Sl → R D) : retM g ρ = bd (g ρ) fun d => ok (.rt d) := (rfl)
@[simp] theorem ifV_e (t : List Sl → R Bool) (g h : List Sl → R β) : ifV t g h ρ = bd (t ρ) fun b => if b = true then g ρ else h ρ := (rfl)
@[simp] theorem nilM_e : nilM ρ = ok (.nx ρ) := (rfl)
@[simp] theorem frz_e (g : List Sl → R (List D)) : frz g ρ = bd (g ρ) fun ds => ok (.list ds) := (rfl)
@[simp] theorem noR_e : noR ρ = ok none := (rfl)
@[simp] theorem yesT_e : yesT ρ = ok true := (rfl)
@[simp] theorem andT_e (g h : List Sl → R Bool) : andT g h ρ = bd (g ρ) fun b => if b = true then h ρ else ok false := (rfl)
@[simp] theorem orT_e (g h : List Sl → R Bool) : orT g h ρ = bd (g ρ) fun b => if b = true then ok true else h ρ := (rfl)
@[simp] theorem notT_e (g : List Sl → R Bool) : notT g ρ = bd (g ρ) fun b => ok (!b) := (rfl)
@[simp] theorem andV_e (g h : List Sl → R D) : andV g h ρ = bd (g ρ) fun d => bd (truR d) fun b => if b = true then h ρ else ok d := (rfl)
@[simp] theorem orV_e (g h : List Sl → R D) : orV g h ρ = bd (g ρ) fun d => bd (truR d) fun b => if b = true then ok d else h ρ := (rfl)
@[simp] theorem notV_e (g : List Sl → R D) : notV g ρ = bd (g ρ) fun d => bd (truR d) fun b => ok (.bool (!b)) := (rfl)
@[simp] theorem chain_e {γ : Type} (fin : D → R γ) (h h' : D → D → R D) (a b c : List Sl → R D) : chain fin h h' a b c ρ = bd (a ρ) fun x => bd (b ρ) fun y => bd (h x y) fun z => bd (asB z) fun t => bd (if t = true then bd (c ρ) fun w => h' y w else ok (.bool false)) fin := (rfl)
theorem forM_e (fi : List Sl → R (List D)) (g : D → List Sl → R (List Sl)) (tb : List Sl → R Out) : forM fi g tb ρ = bd (fi ρ) fun ds => forF g tb ds ρ := rfl
theorem lcM_e (vs : List Nat) (fi : List Sl → R (List D)) (g : D → List Sl → R (List Sl)) (tt : List Sl → R Bool) (te : List Sl → R D) : lcM vs fi g tt te ρ = bd (fi ρ) fun ds => lcF g tt te ds (wipeS ρ vs) := rfl
@[simp] theorem mutM_e (i : Nat) (g : List Sl → R (List D)) (h : List D → List D → R (List D)) : mutM i g h ρ = bd (getO ρ i) fun _ => bd (g ρ) fun args => bd (getO ρ i) fun ds => bd (h ds args) fun es => ok (.nx (ρ.set i (.own es))) := (rfl)
@[simp] theorem popM_e (i : Nat) (f : List Sl → R (List D)) (h : List D → List D → R (D × List D)) (g : D → List Sl → R (List Sl)) : popM i f h g ρ = bd (getO ρ i) fun _ => bd (f ρ) fun args => bd (getO ρ i) fun ds => bd (h ds args) fun p => bd (g p.1 (ρ.set i (.own p.2))) fun ρ' => ok (.nx ρ') := (rfl)
theorem fnM_e (n : Nat) (g : List Sl → R Out) (ds : List D) : fnM n g ds = bd (g (env0 ds n)) endM := rfl
theorem fnX_e (j n : Nat) (g : List Sl → R Out) (ds : List D) : fnX j n g ds = bd (g (.box j :: env0 ds (n - 1))) endM := rfl
@[simp] theorem gSet_e (i : Nat) (d : D) : gSet i d ρ = ok (ρ.set i (.dat d)) := (rfl)
theorem ite_ok {b : Bool} {x y : β} : (if b = true then (ok x : R β) else ok y) = ok (if b = true then x else y) := by cases b <;> rfl
/-- truth -/
@[simp] theorem truR_bool (b : Bool) : truR (.bool b) = ok b := (rfl)
@[simp] theorem truR_int (i : Int) : truR (.int i) = ok (i != 0) := (rfl)
@[simp] theorem truR_none : truR .none = ok false := (rfl)
@[simp] theorem truR_tup (l : List α) : truR (tu f l) = ok (!l.isEmpty) := by cases l <;> rfl
@[simp] theorem truR_tuple (l : List D) : truR (.tuple l) = ok (!l.isEmpty) := (rfl)
@[simp] theorem truR_list (l : List D) : truR (.list l) = ok (!l.isEmpty) := (rfl)
/-- numbers -/
@[simp] theorem addR_int (i j : Int) : addR (.int i) (.int j) = ok (.int (i + j)) := (rfl)
@[simp] theorem subR_int (i j : Int) : subR (.int i) (.int j) = ok (.int (i - j)) := (rfl)
@[simp] theorem negR_int (i : Int) : negR (.int i) = ok (.int (-i)) := (rfl)
@[simp] theorem absR_int (i : Int) : absR [.int i] = ok (.int (i.natAbs : Int)) := by
  show ok (PyData.int (if i < 0 then -i else i)) = ok (PyData.int (i.natAbs : Int))
  congr 2; split <;> omega
@[simp] theorem asI_int (i : Int) : asI (.int i) = ok (some i) := (rfl)
theorem mulR_int {i j : Int} (h : mulOk i j) : mulR (.int i) (.int j) = ok (.int (i * j)) := bd_req h _
theorem fdivR_int {i j : Int} (h : divOk j) : fdivR (.int i) (.int j) = ok (.int (i.fdiv j)) := bd_req h _
theorem dpI (i : Int) (d : D) : min (PyData.int i).depth d.depth ≤ 60 := Nat.le_trans (Nat.min_le_left _ _) (by simp [PyData.depth])
theorem dpR (i : Int) (d : D) : min d.depth (PyData.int i).depth ≤ 60 := Nat.le_trans (Nat.min_le_right _ _) (by simp [PyData.depth])
@[simp] theorem eqR_int (i j : Int) : eqR (.int i) (.int j) = ok (.bool (decide (i = j))) := by
  rw [eqR, bd_req (dpI _ _)]; congr 2
@[simp] theorem neR_int (i j : Int) : neR (.int i) (.int j) = ok (.bool (!decide (i = j))) := by
  rw [neR, bd_req (dpI _ _)]; congr 2
theorem ordI (i j : Int) : ordOk (.int i) (.int j) := ⟨by simp [W.alike], by simp, dpI _ _⟩
@[simp] theorem ltR_int (i j : Int) : ltR (.int i) (.int j) = ok (.bool (decide (i < j))) := by
  rw [ltR, bd_req (ordI _ _), W.dataLt_int]
@[simp] theorem gtR_int (i j : Int) : gtR (.int i) (.int j) = ok (.bool (decide (j < i))) := by
  rw [gtR, bd_req (ordI _ _), W.dataLt_int]
@[simp] theorem leR_int (i j : Int) : leR (.int i) (.int j) = ok (.bool (decide (i ≤ j))) := by
  rw [leR, bd_req (ordI _ _), W.dataLt_int]; congr 2; by_cases h : j < i <;> simp [h] <;> omega
@[simp] theorem geR_int (i j : Int) : geR (.int i) (.int j) = ok (.bool (decide (j ≤ i))) := by
  rw [geR, bd_req (ordI _ _), W.dataLt_int]; congr 2; by_cases h : i < j <;> simp [h] <;> omega
/-- rows -/
@[simp] theorem lenR_tup (l : List α) : lenR [tu f l] = ok (.int l.length) := by simp [tu, lenR]
@[simp] theorem lenR_lst (l : List α) : lenR [li f l] = ok (.int l.length) := by simp [li, lenR]
@[simp] theorem lenR_list (l : List D) : lenR [.list l] = ok (.int l.length) := (rfl)
@[simp] theorem lenR_tuple (l : List D) : lenR [.tuple l] = ok (.int l.length) := (rfl)
@[simp] theorem revR_tup (l : List α) : revR (tu f l) = ok (tu f l.reverse) := by simp [tu, revR]
@[simp] theorem tupOfR_list (l : List α) : tupOfR [.list (l.map f)] = ok (tu f l) := (rfl)
@[simp] theorem tupOfR_lst (l : List α) : tupOfR [li f l] = ok (tu f l) := (rfl)
@[simp] theorem tupOfR_tup (l : List α) : tupOfR [tu f l] = ok (tu f l) := (rfl)
@[simp] theorem lstOfR_tup (l : List α) : lstOfR [tu f l] = ok (l.map f) := (rfl)
@[simp] theorem lstOfR_lst (l : List α) : lstOfR [li f l] = ok (l.map f) := (rfl)
theorem cutG_map (l : List α) (lo hi : Option Int) : cutG (l.map f) lo hi = (cutG l lo hi).map f := by simp [cutG, List.map_take, List.map_drop]
@[simp] theorem slR_tup (l : List α) (lo hi : Option Int) : slR (tu f l) lo hi = ok (tu f (cutG l lo hi)) := by
  show ok (PyData.tuple (cutG (l.map f) lo hi)) = _; rw [cutG_map]; rfl
@[simp] theorem slR_lst (l : List α) (lo hi : Option Int) : slR (li f l) lo hi = ok (li f (cutG l lo hi)) := by
  show ok (PyData.list (cutG (l.map f) lo hi)) = _; rw [cutG_map]; rfl
theorem addR_tup {l k : List α} (h : l.length + k.length ≤ sizeLine) : addR (tu f l) (tu f k) = ok (tu f (l ++ k)) := by
  show bd (req _) _ = _
  rw [bd_req (by simpa using h)]; simp [tu]
theorem addR_lst {l k : List α} (h : l.length + k.length ≤ sizeLine) : addR (li f l) (li f k) = ok (li f (l ++ k)) := by
  show bd (req _) _ = _
  rw [bd_req (by simpa using h)]; simp [li]
theorem cut_lo {l : List α} {k : Nat} : cutG l none (some (k : Int)) = l.take k := by
  unfold cutG; rw [HT.sIx_none, HT.sIx_nat]; simp
theorem cut_hi {l : List α} {k : Nat} : cutG l (some (k : Int)) none = l.drop k := by
  unfold cutG; rw [HT.sIx_none, HT.sIx_nat]
  rcases Nat.le_total k l.length with h | h
  · rw [Nat.min_eq_left h]; apply List.take_of_length_le; simp
  · rw [Nat.min_eq_right h, List.drop_of_length_le (Nat.le_refl _), List.drop_of_length_le h]; simp
theorem atI_nat {l : List α} {k : Nat} (h : k < l.length) : L2.atI l (k : Int) = some l[k] := by
  unfold L2.atI L2.ixN
  rw [if_pos (by omega), if_pos (by omega)]
  simp [h]
theorem atI_last (l : List α) : L2.atI l (-1) = l.getLast? := by
  unfold L2.atI L2.ixN
  rw [if_neg (by omega)]
  cases l with
  | nil => simp
  | cons a l =>
    rw [if_pos (by simp; omega)]
    rw [List.getLast?_eq_getElem?]
    show (a :: l)[_]? = _
    congr 1
    simp; omega
theorem atI_map (l : List α) (i : Int) : L2.atI (l.map f) i = (L2.atI l i).map f := by
  unfold L2.atI
  rw [List.length_map]
  cases L2.ixN l.length i <;> simp
theorem ixR_tup {l : List α} {k : Nat} (h : k < l.length) : ixR (tu f l) (.int k) = ok (f l[k]) := by
  show (match L2.atI (l.map f) k with | some x => ok x | none => fail) = _
  rw [atI_map, atI_nat h]; rfl
theorem ixR_lst {l : List α} {k : Nat} (h : k < l.length) : ixR (li f l) (.int k) = ok (f l[k]) := by
  show (match L2.atI (l.map f) k with | some x => ok x | none => fail) = _
  rw [atI_map, atI_nat h]; rfl
theorem ixR_at {l : List D} {i : Int} {d : D} (h : L2.atI l i = some d) : ixR (.tuple l) (.int i) = ok d := by
  show (match L2.atI l i with | some x => ok x | none => fail) = _; rw [h]
theorem ixR_atl {l : List D} {i : Int} {d : D} (h : L2.atI l i = some d) : ixR (.list l) (.int i) = ok d := by
  show (match L2.atI l i with | some x => ok x | none => fail) = _; rw [h]
theorem tupR_e {l : List D} (h : l.length ≤ sizeLine) : tupR l = ok (.tuple l) := bd_req h _
theorem lstR_e {l : List D} (h : l.length ≤ sizeLine) : lstR l = ok l := bd_req h _
@[simp] theorem itR_tup {g : List Sl → R D} {l : List α} (h : g ρ = ok (tu f l)) : itR g ρ = ok (l.map f) := by
  unfold itR; rw [h, bd_ok, show itemsR (tu f l) = ok (l.map f) from rfl, bd_ok, bd_req (.inr (fun z e => by cases e))]
@[simp] theorem itR_lst {g : List Sl → R D} {l : List α} (h : g ρ = ok (li f l)) : itR g ρ = ok (l.map f) := by
  unfold itR; rw [h, bd_ok, show itemsR (li f l) = ok (l.map f) from rfl, bd_ok, bd_req (.inr (fun z e => by cases e))]
theorem itR_tuple {g : List Sl → R D} {l : List D} (h : g ρ = ok (.tuple l)) : itR g ρ = ok l := by
  unfold itR; rw [h, bd_ok, show itemsR (.tuple l) = ok (l) from rfl, bd_ok, bd_req (.inr (fun z e => by cases e))]
theorem itR_list {g : List Sl → R D} {l : List D} (h : g ρ = ok (.list l)) : itR g ρ = ok l := by
  unfold itR; rw [h, bd_ok, show itemsR (.list l) = ok (l) from rfl, bd_ok, bd_req (.inr (fun z e => by cases e))]
def nI (k : Nat) : D := .int (k : Int)
theorem range1_e {n : Int} (h : n ≤ sizeLine) (h' : -1000 ≤ n) : range1R [.int n] = ok ((List.range n.toNat).map nI) := by
  have h2 : (sizeLine : Int) < 2 ^ 62 := by decide
  show bd (req _) _ = _
  rw [bd_req ⟨by omega, by omega, by omega, by omega, by omega⟩]
  show ok (rngD 0 n) = _
  congr 1
  simp [rngD]; intro a _; rfl
/-- a comprehension -/
theorem lcM_set {vs : List Nat} {i : Nat} {fi : List Sl → R (List D)} {tt : List Sl → R Bool} {te : List Sl → R D} {l : List α} {p : α → Bool} {h : α → D} (hi : fi ρ = ok (l.map f))
    (ht : ∀ x ∈ l, tt ((wipeS ρ vs).set i (.dat (f x))) = ok (p x)) (he : ∀ x ∈ l, p x = true → te ((wipeS ρ vs).set i (.dat (f x))) = ok (h x)) : lcM vs fi (gSet i) tt te ρ = ok ((l.filter p).map h) := by
  rw [lcM_e, hi, bd_ok]
  generalize wipeS ρ vs = σ at ht he
  clear hi
  induction l with
  | nil => rfl
  | cons x l ih =>
    have ih := ih (fun y hy => ht y (List.mem_cons_of_mem _ hy)) (fun y hy => he y (List.mem_cons_of_mem _ hy))
    rw [List.map_cons, lcF, gSet_e, bd_ok, ht x List.mem_cons_self, bd_ok]
    cases hp : p x with
    | false => rw [if_neg (by simp), ih, List.filter_cons_of_neg (by simp [hp])]
    | true => rw [if_pos rfl, he x List.mem_cons_self hp, bd_ok, ih, bd_ok, List.filter_cons_of_pos hp]; rfl
theorem lcM_map {vs : List Nat} {i : Nat} {fi : List Sl → R (List D)} {te : List Sl → R D} {l : List α} {h : α → D} (hi : fi ρ = ok (l.map f))
    (he : ∀ x ∈ l, te ((wipeS ρ vs).set i (.dat (f x))) = ok (h x)) : lcM vs fi (gSet i) yesT te ρ = ok (l.map h) := by
  rw [lcM_set (p := fun _ => true) hi (fun x hx => rfl) (fun x hx _ => he x hx), List.filter_eq_self.mpr (fun _ _ => rfl)]
theorem forF_set {i : Nat} {tb : List Sl → R Out} {l : List α} (st : β → List Sl) (step : β → α → β) (h : ∀ b, ∀ x ∈ l, tb ((st b).set i (.dat (f x))) = ok (.nx (st (step b x)))) (b : β) : forF (gSet i) tb (l.map f) (st b) = ok (.nx (st (l.foldl step b))) := by
  induction l generalizing b with
  | nil => rfl
  | cons x l ih =>
    rw [List.map_cons, forF, gSet_e, bd_ok, h b x List.mem_cons_self, bd_ok, lpO_nx, ih fun b y hy => h b y (List.mem_cons_of_mem _ hy)]
    rfl
theorem forF_inv {i : Nat} {tb : List Sl → R Out} (st : β → List Sl) (step : β → α → β) (J : β → List α → Prop) (h : ∀ b x r, J b (x :: r) → tb ((st b).set i (.dat (f x))) = ok (.nx (st (step b x))) ∧ J (step b x) r) : ∀ (l : List α) (b : β), J b l → forF (gSet i) tb (l.map f) (st b) = ok (.nx (st (l.foldl step b)))
  | [], b, _ => rfl
  | x :: l, b, j => by
    obtain ⟨h1, h2⟩ := h b x l j
    rw [List.map_cons, forF, gSet_e, bd_ok, h1, bd_ok, lpO_nx, forF_inv st step J h l _ h2]
    rfl
theorem ixR_last {l : List α} {x : α} (h : l.getLast? = some x) : ixR (.list (l.map f)) (.int (-1)) = ok (f x) := ixR_atl (by rw [atI_map, atI_last, h]; rfl)
theorem whileM_step {t : List Sl → R Bool} {g : List Sl → R Out} {ρ' : List Sl} (ht : t ρ = ok true) (hg : g ρ = ok (.nx ρ')) : whileM t g ρ = whileM t g ρ' := by
  funext post
  apply propext
  constructor
  · rintro ⟨n, h⟩
    cases n with
    | zero => exact h.elim
    | succ n => rw [whileF, ht, bd_ok, if_pos rfl, hg] at h; exact ⟨n, h⟩
  · rintro ⟨n, h⟩
    exact ⟨n + 1, by rw [whileF, ht, bd_ok, if_pos rfl, hg]; exact h⟩
theorem whileM_stop {t : List Sl → R Bool} {g : List Sl → R Out} (ht : t ρ = ok false) : whileM t g ρ = ok (.nx ρ) := by
  funext post
  apply propext
  constructor
  · rintro ⟨n, h⟩
    cases n with
    | zero => exact h.elim
    | succ n => rw [whileF, ht, bd_ok, if_neg (by simp)] at h; exact h
  · intro h
    exact ⟨1, by rw [whileF, ht, bd_ok, if_neg (by simp)]; exact h⟩
theorem allR_bools {l : List α} {p : α → Bool} : allR [.list (l.map fun x => .bool (p x))] = ok (.bool (l.all p)) := by
  show qV (fun ds => ds.all PyData.truthy) (l.map fun x => .bool (p x)) = _
  unfold qV
  rw [bd_req (by simp [List.all_eq_true, smallT])]
  congr 2
  simp only [List.all_map]; rfl
theorem eqvAll_map {f : α → D} (hf : ∀ x y, PyData.eqv (f x) (f y) = true ↔ x = y) : ∀ l k : List α, PyData.eqvAll (l.map f) (k.map f) = true ↔ l = k
  | [], [] => by simp [PyData.eqvAll]
  | [], _ :: _ => by simp [PyData.eqvAll]
  | _ :: _, [] => by simp [PyData.eqvAll]
  | x :: l, y :: k => by
    rw [List.map_cons, List.map_cons, W.eqv_all_cons, Bool.and_eq_true, hf, eqvAll_map hf l k]; simp
theorem eqv_int (i j : Int) : PyData.eqv (.int i) (.int j) = true ↔ i = j := by simp [PyData.eqv]
@[simp] theorem set_0 (s t : Sl) (ρ : List Sl) : (s :: ρ).set 0 t = t :: ρ := (rfl)
@[simp] theorem set_s (s t : Sl) (i : Nat) (ρ : List Sl) : (s :: ρ).set (i + 1) t = s :: ρ.set i t := (rfl)
theorem eqR_tup {l k : List Int} : eqR (tu PyData.int l) (tu PyData.int k) = ok (.bool (decide (l = k))) := by
  have hd : ∀ l : List Int, PyData.depth (tu PyData.int l) ≤ 60 := by
    intro l
    have : ∀ l : List Int, PyData.depthAll (l.map PyData.int) ≤ 1 := by
      intro l
      induction l with
      | nil => simp [PyData.depthAll]
      | cons x l ih => simp [PyData.depthAll, PyData.depth]; omega
    have := this l
    simp only [tu, PyData.depth]; omega
  rw [eqR, bd_req (Nat.le_trans (Nat.min_le_left _ _) (hd _))]
  congr 2
  have : PyData.eqv (tu PyData.int l) (tu PyData.int k) = true ↔ l = k := by
    show PyData.eqv (.tuple (l.map .int)) (.tuple (k.map .int)) = true ↔ _
    simp only [PyData.eqv]
    exact eqvAll_map eqv_int l k
  by_cases h : l = k
  · rw [decide_eq_true h]; exact this.mpr h
  · rw [decide_eq_false h]; exact Bool.eq_false_iff.mpr fun e => h (this.mp e)
theorem neR_of {d e : D} {b : Bool} (h : eqR d e = ok (.bool b)) (hd : min d.depth e.depth ≤ 60) : neR d e = ok (.bool (!b)) := by
  rw [eqR, bd_req hd] at h
  rw [neR, bd_req hd]
  have := congrFun h (fun z => z = .bool b)
  have e2 : PyData.bool (PyData.eqv d e) = .bool b := by
    have : (PyData.bool (PyData.eqv d e) = .bool b) = (PyData.bool b = .bool b) := this
    rw [this]
  injection e2 with e2
  rw [e2]
end
end Pu

namespace Cd
/-! ### cords: plain lists of numbers -/
def push (s : List Int) (x : Int) : List Int := if s.getLast? = some (-x) then s.dropLast else s ++ [x]
def red (l : List Int) : List Int := l.foldl push []
def back (l : List Int) : List Int := l.reverse.map (- ·)
/-- no two neighbours undo each other -/
def Fine (l : List Int) : Prop := ∀ a x y b, l = a ++ x :: y :: b → x ≠ -y
inductive Rm : List Int → List Int → Prop
  | refl (l) : Rm l l
  | step {a b c : List Int} {x : Int} (h : Rm (a ++ b) c) : Rm (a ++ x :: -x :: b) c
theorem push_pop {s : List Int} {x : Int} (h : s.getLast? = some (-x)) : push s x = s.dropLast := if_pos h
theorem push_app {s : List Int} {x : Int} (h : ¬ s.getLast? = some (-x)) : push s x = s ++ [x] := if_neg h
theorem fine_nil : Fine [] := fun a x y b h => by cases a <;> cases h
theorem snoc_of_last {s : List Int} {x : Int} (h : s.getLast? = some x) : s = s.dropLast ++ [x] := by
  obtain ⟨ys, rfl⟩ := List.getLast?_eq_some_iff.mp h
  simp
theorem fine_pre {s t : List Int} (h : Fine (s ++ t)) : Fine s := fun a x y b e => h a x y (b ++ t) (by rw [e]; simp)
theorem fine_suf {s t : List Int} (h : Fine (s ++ t)) : Fine t := fun a x y b e => h (s ++ a) x y b (by rw [e]; simp)
theorem fine_push {s : List Int} (h : Fine s) (x : Int) : Fine (push s x) := by
  unfold push
  split
  · rename_i e
    have := snoc_of_last e
    rw [this] at h
    exact fine_pre h
  · rename_i ne
    intro a y z b e
    rcases List.eq_nil_or_concat b with rfl | ⟨b', w, rfl⟩
    · have e2 : s ++ [x] = (a ++ [y]) ++ [z] := by rw [e]; simp
      obtain ⟨e3, e4⟩ := List.append_inj' e2 rfl
      simp at e4
      intro e5
      apply ne
      rw [e3, e4, e5]; simp
    · have e2 : s ++ [x] = (a ++ y :: z :: b') ++ [w] := by rw [e]; simp
      obtain ⟨e3, _⟩ := List.append_inj' e2 rfl
      exact h a y z b' e3
theorem fine_fold : ∀ (l s : List Int), Fine s → Fine (l.foldl push s)
  | [], _, h => h
  | x :: l, s, h => fine_fold l _ (fine_push h x)
theorem fine_red (l : List Int) : Fine (red l) := fine_fold l [] fine_nil
theorem push_push {s : List Int} (h : Fine s) (x : Int) : push (push s x) (-x) = s := by
  unfold push
  by_cases e : s.getLast? = some (-x)
  · rw [if_pos e]
    have e1 := snoc_of_last e
    rw [if_neg]
    · exact e1.symm
    · intro e2
      have e3 := snoc_of_last e2
      rw [e3] at e1
      exact h s.dropLast.dropLast (- -x) (-x) [] (by rw [e1]; simp) rfl
  · rw [if_neg e, if_pos (by simp)]; simp
theorem red_cut (a b : List Int) (x : Int) : red (a ++ x :: -x :: b) = red (a ++ b) := by
  unfold red
  rw [List.foldl_append, List.foldl_append, List.foldl_cons, List.foldl_cons, push_push (s := a.foldl push []) (fine_red a)]
theorem fold_fine : ∀ (l s : List Int), Fine (s ++ l) → l.foldl push s = s ++ l
  | [], s, _ => by simp
  | x :: l, s, h => by
    have e : push s x = s ++ [x] := by
      unfold push
      rw [if_neg]
      intro e
      have e1 := snoc_of_last e
      exact h s.dropLast (-x) x l (by rw [e1]; simp) rfl
    rw [List.foldl_cons, e, fold_fine l _ (by simpa using h)]; simp
theorem red_fine {l : List Int} (h : Fine l) : red l = l := fold_fine l [] h
theorem rm_red {l c : List Int} (h : Rm l c) : red l = red c := by
  induction h with
  | refl l => rfl
  | step h ih => rw [red_cut, ih]
theorem rm_fold : ∀ (l s : List Int), Rm (s ++ l) (l.foldl push s)
  | [], s => by simp; exact .refl _
  | x :: l, s => by
    rw [List.foldl_cons]
    by_cases e : s.getLast? = some (-x)
    · rw [push_pop e]
      have e1 := snoc_of_last e
      have := Rm.step (x := -x) (rm_fold l s.dropLast)
      rw [Int.neg_neg] at this
      conv => arg 1; rw [e1]
      simpa using this
    · rw [push_app e]
      have := rm_fold l (s ++ [x])
      simpa using this
theorem rm_l (l : List Int) : Rm l (red l) := rm_fold l []
theorem rm_trans {a b c : List Int} (h : Rm a b) (k : Rm b c) : Rm a c := by
  induction h with
  | refl => exact k
  | step h ih => exact .step (ih k)
theorem rm_in {a b : List Int} (h : Rm a b) (p q : List Int) : Rm (p ++ a ++ q) (p ++ b ++ q) := by
  induction h with
  | refl => exact .refl _
  | @step a b c x h ih =>
    have e : p ++ (a ++ x :: -x :: b) ++ q = (p ++ a) ++ x :: -x :: (b ++ q) := by simp
    rw [e]
    refine .step ?_
    simpa using ih
theorem back_app (a b : List Int) : back (a ++ b) = back b ++ back a := by simp [back]
theorem rm_back {a b : List Int} (h : Rm a b) : Rm (back a) (back b) := by
  induction h with
  | refl => exact .refl _
  | @step a b c x h ih =>
    have e : back (a ++ x :: -x :: b) = back b ++ x :: -x :: back a := by simp [back]
    rw [e]
    refine .step ?_
    rw [← back_app]; exact ih
theorem fine_back {l : List Int} (h : Fine l) : Fine (back l) := by
  intro a x y b e
  have e2 : l = back (back l) := by simp [back, Function.comp_def]
  rw [e] at e2
  have e3 : l = back b ++ -y :: -x :: back a := by rw [e2]; simp [back]
  have := h _ _ _ _ e3
  omega
theorem red_back (l : List Int) : red (back l) = back (red l) := by
  rw [rm_red (rm_back (rm_l l))]
  exact red_fine (fine_back (fine_red l))
theorem red_with_back (l : List Int) : red (l ++ back l) = [] := by
  have : Rm (l ++ back l) [] := by
    induction l with
    | nil => exact .refl _
    | cons x l ih =>
      have e : (x :: l) ++ back (x :: l) = [x] ++ (l ++ back l) ++ [-x] := by simp [back]
      rw [e]
      refine rm_trans (rm_in ih [x] [-x]) ?_
      have := Rm.step (a := []) (b := []) (x := x) (.refl _)
      simpa using this
  rw [rm_red this]; rfl
theorem red_len_le (l : List Int) : (red l).length ≤ l.length := by
  have : ∀ l s : List Int, (l.foldl push s).length ≤ s.length + l.length := by
    intro l
    induction l with
    | nil => simp
    | cons x l ih =>
      intro s
      rw [List.foldl_cons]
      refine Nat.le_trans (ih _) ?_
      unfold push
      split
      · simp; omega
      · simp; omega
  have := this l []
  simpa [red] using this
theorem rm_mem {a b : List Int} (h : Rm a b) : ∀ x ∈ b, x ∈ a := by
  induction h with
  | refl => exact fun x h => h
  | step h ih =>
    intro y hy
    have := ih y hy
    simp at this ⊢
    rcases this with h | h
    · exact .inl h
    · exact .inr (.inr (.inr h))
theorem red_mem (l : List Int) : ∀ x ∈ red l, x ∈ l := rm_mem (rm_l l)

/-! ### spots -/
def cut (l : List Int) (k : Nat) : List Int := l.take k ++ l.drop (k + 2)
def isSpot (l : List Int) (k : Nat) : Bool := decide (l.getD k 0 = -l.getD (k + 1) 0)
def spots (l : List Int) : List Nat := (List.range (l.length - 1)).filter (isSpot l)
theorem spot_split {l : List Int} {k : Nat} (h : k + 1 < l.length) (e : isSpot l k = true) : ∃ a b x, l = a ++ x :: -x :: b ∧ cut l k = a ++ b ∧ a.length = k := by
  refine ⟨l.take k, l.drop (k + 2), l[k], ?_, rfl, by simp [Nat.le_of_lt (Nat.lt_of_succ_lt h)]⟩
  have e1 : l[k] = -l[k+1] := by
    have : l.getD k 0 = -l.getD (k + 1) 0 := by simpa [isSpot] using e
    simpa [List.getD, h, Nat.lt_of_succ_lt h] using this
  have e2 : -l[k] = l[k+1] := by omega
  rw [e2]
  conv => lhs; rw [← List.take_append_drop k l, List.drop_eq_getElem_cons (by omega), List.drop_eq_getElem_cons h]
theorem mem_spots {l : List Int} {k : Nat} (h : k ∈ spots l) : k + 1 < l.length ∧ isSpot l k = true := by
  simp [spots] at h
  exact ⟨by omega, h.2⟩
theorem fine_of_spots {l : List Int} (h : spots l = []) : Fine l := by
  intro a x y b e exy
  have : a.length ∈ spots l := by
    simp [spots]
    refine ⟨by rw [e]; simp, ?_⟩
    simp [isSpot, e, List.getD]
    exact exy
  rw [h] at this; cases this
theorem red_cutk {l : List Int} {k : Nat} (h : k + 1 < l.length) (e : isSpot l k = true) : red (cut l k) = red l ∧ (cut l k).length + 2 = l.length := by
  obtain ⟨a, b, x, h1, h2, _⟩ := spot_split h e
  rw [h2, h1, red_cut]
  exact ⟨rfl, by simp; omega⟩
/-- from the other end, again and again -/
def lastStep (l : List Int) : List Int := match (spots l).getLast? with | some k => cut l k | none => l
theorem lastStep_red (l : List Int) : red (lastStep l) = red l := by
  unfold lastStep
  split
  · rename_i k e
    have := mem_spots (List.mem_of_getLast? e)
    exact (red_cutk this.1 this.2).1
  · rfl
theorem lastStep_some {l : List Int} {k : Nat} (h : (spots l).getLast? = some k) : lastStep l = cut l k := by unfold lastStep; rw [h]
theorem lastStep_none {l : List Int} (h : (spots l).getLast? = none) : lastStep l = l := by unfold lastStep; rw [h]
theorem lastSteps {α : Type} : ∀ (ks : List α) (l : List Int), l.length ≤ ks.length → ks.foldl (fun l _ => lastStep l) l = red l
  | [], l, h => by cases l; rfl; simp at h
  | _ :: ks, l, h => by
    rw [List.foldl_cons]
    cases e : (spots l).getLast? with
    | some k =>
      have := mem_spots (List.mem_of_getLast? e)
      have := red_cutk this.1 this.2
      rw [lastStep_some e, ← this.1]
      apply lastSteps
      simp at h; omega
    | none =>
      have hf := fine_of_spots (List.getLast?_eq_none_iff.mp e)
      have : ∀ ks : List α, ks.foldl (fun l _ => lastStep l) l = l := by
        intro ks
        induction ks with
        | nil => rfl
        | cons k ks ih =>
          rw [List.foldl_cons]
          rw [lastStep_none e, ih]
      rw [lastStep_none e, this, red_fine hf]
/-- the first pulls -/
def fp : Nat → List Int → List Nat
  | 0, _ => []
  | n + 1, l => match (spots l).head? with
    | none => []
    | some k => k :: fp n (cut l k)
theorem spot_of_falls {l : List Int} (h : red l = []) (ne : l ≠ []) : ∃ k, (spots l).head? = some k := by
  cases e : spots l with
  | nil => exact absurd (by rw [red_fine (fine_of_spots e)] at h; exact h) ne
  | cons k ks => exact ⟨k, rfl⟩
theorem fp_small : ∀ (n : Nat) (l : List Int), ∀ k ∈ fp n l, k < l.length
  | 0, _, k, h => by cases h
  | n + 1, l, k, h => by
    unfold fp at h
    split at h
    · cases h
    · rename_i j e
      have m := mem_spots (List.mem_of_head? e)
      rcases List.mem_cons.mp h with rfl | h
      · omega
      · have := fp_small n _ k h
        have := (red_cutk m.1 m.2).2
        omega
theorem fp_len : ∀ (n : Nat) (l : List Int), 2 * (fp n l).length ≤ l.length
  | 0, _ => by simp [fp]
  | n + 1, l => by
    unfold fp
    split
    · simp
    · rename_i j e
      have m := mem_spots (List.mem_of_head? e)
      have := fp_len n (cut l j)
      have := (red_cutk m.1 m.2).2
      simp; omega
/-- a row of pulls -/
def okAt (l : List Int) (k : Int) : Bool := decide (0 ≤ k) && decide (k < (l.length : Int) - 1) && isSpot l k.toNat
def ap : List Int → List Int → Bool
  | l, [] => l.isEmpty
  | l, k :: ks => if okAt l k = true then ap (cut l k.toNat) ks else false
theorem ap_nil (l : List Int) : ap l [] = l.isEmpty := by rw [ap]
theorem ap_cons (l ks : List Int) (k : Int) : ap l (k :: ks) = if okAt l k = true then ap (cut l k.toNat) ks else false := by rw [ap]
theorem ap_nat {l ks : List Int} {k : Nat} (h : (k : Int) < (l.length : Int) - 1) : ap l ((k : Int) :: ks) = if isSpot l k = true then ap (cut l k) ks else false := by
  rw [ap_cons]; unfold okAt; simp [h]
theorem ap_hi {l ks : List Int} {k : Int} (h : ¬ k < (l.length : Int) - 1) : ap l (k :: ks) = false := by rw [ap_cons]; unfold okAt; simp [h]
theorem ap_lo {l ks : List Int} {k : Int} (h : ¬ 0 ≤ k) : ap l (k :: ks) = false := by rw [ap_cons]; unfold okAt; simp [h]
theorem ap_falls : ∀ (ks l : List Int), ap l ks = true → red l = []
  | [], l, h => by cases l; rfl; cases h
  | k :: ks, l, h => by
    unfold ap at h
    split at h
    · rename_i e
      simp only [okAt, Bool.and_eq_true, decide_eq_true_eq] at e
      rw [← (red_cutk (k := k.toNat) (by omega) e.2).1]
      exact ap_falls ks _ h
    · cases h

theorem rm_par {a b : List Int} (h : Rm a b) : a.length % 2 = b.length % 2 := by
  induction h with
  | refl => rfl
  | step h ih => rw [← ih]; simp; omega
theorem fp_fuel : ∀ (n m : Nat) (l : List Int), l.length = 2 * n → n ≤ m → fp m l = fp n l
  | 0, m, l, h, _ => by
    have : l = [] := by cases l; rfl; simp at h
    subst this
    cases m <;> rfl
  | n + 1, 0, l, h, hm => by omega
  | n + 1, m + 1, l, h, hm => by
    cases e : (spots l).head? with
    | none => unfold fp; rw [e]
    | some k =>
      have ms := mem_spots (List.mem_of_head? e)
      have hc := red_cutk ms.1 ms.2
      unfold fp; rw [e]
      show k :: fp m (cut l k) = k :: fp n (cut l k)
      rw [fp_fuel n m _ (by omega) (by omega)]
theorem fp_head {n : Nat} {l : List Int} {k : Nat} (h : (spots l).head? = some k) : fp (n + 1) l = k :: fp n (cut l k) := by
  conv => lhs; unfold fp
  rw [h]
/-! ### matrices -/
structure Mat where
  a : Int
  b : Int
  c : Int
  d : Int
  deriving DecidableEq
def Mat.mul (m n : Mat) : Mat := ⟨m.a * n.a + m.b * n.c, m.a * n.b + m.b * n.d, m.c * n.a + m.d * n.c, m.c * n.b + m.d * n.d⟩
def Mat.one : Mat := ⟨1, 0, 0, 1⟩
theorem Mat.mul_assoc (x y z : Mat) : (x.mul y).mul z = x.mul (y.mul z) := by
  simp only [Mat.mul, Mat.mk.injEq]; refine ⟨?_, ?_, ?_, ?_⟩ <;> grind
theorem Mat.one_mul (x : Mat) : Mat.one.mul x = x := by
  cases x; simp [Mat.mul, Mat.one]
theorem Mat.mul_one (x : Mat) : x.mul Mat.one = x := by
  cases x; simp [Mat.mul, Mat.one]
def T (t : Int) : Mat := if 0 < t then ⟨1 + 4 * t, -8 * t * t, 2, 1 - 4 * t⟩ else ⟨1 - 4 * -t, 8 * t * t, -2, 1 + 4 * -t⟩
def MM (l : List Int) : Mat := l.foldl (fun m t => m.mul (T t)) Mat.one
theorem MM_fold : ∀ (l : List Int) (m : Mat), l.foldl (fun m t => m.mul (T t)) m = m.mul (MM l)
  | [], m => by simp [MM, Mat.mul_one]
  | x :: l, m => by
    unfold MM
    rw [List.foldl_cons, List.foldl_cons, MM_fold l, MM_fold l (Mat.one.mul _), Mat.one_mul, Mat.mul_assoc]
theorem MM_app (a b : List Int) : MM (a ++ b) = (MM a).mul (MM b) := by
  conv => lhs; unfold MM; rw [List.foldl_append]
  rw [MM_fold b]; rfl
theorem MM_cons (x : Int) (l : List Int) : MM (x :: l) = (T x).mul (MM l) := by
  conv => lhs; unfold MM; rw [List.foldl_cons, Mat.one_mul]
  rw [MM_fold l]
theorem T_inv {t : Int} (h : t ≠ 0) : (T t).mul (T (-t)) = Mat.one := by
  unfold T
  by_cases hp : 0 < t
  · rw [if_pos hp, if_neg (by omega)]
    simp only [Mat.mul, Mat.one, Mat.mk.injEq]; refine ⟨?_, ?_, ?_, ?_⟩ <;> grind
  · rw [if_neg hp, if_pos (by omega)]
    simp only [Mat.mul, Mat.one, Mat.mk.injEq]; refine ⟨?_, ?_, ?_, ?_⟩ <;> grind
theorem MM_rm {a b : List Int} (h : Rm a b) (nz : ∀ x ∈ a, x ≠ 0) : MM a = MM b := by
  induction h with
  | refl => rfl
  | @step a b c x h ih =>
    rw [← ih (fun y hy => nz y (by simp at hy ⊢; rcases hy with h | h <;> simp [h]))]
    have hx : x ≠ 0 := nz x (by simp)
    rw [MM_app, MM_app, MM_cons, MM_cons, ← Mat.mul_assoc (T x), T_inv hx, Mat.one_mul]
/-- where a turn leads -/
def InR (t : Int) (m : Mat) : Prop := (0 < t ∧ ((0 < m.a - 2 * t * m.c ∧ m.a - 2 * t * m.c < m.c) ∨ (m.a - 2 * t * m.c < 0 ∧ m.c < m.a - 2 * t * m.c))) ∨ (t < 0 ∧ ((0 < m.a + 2 * t * m.c ∧ m.a + 2 * t * m.c < -m.c) ∨ (m.a + 2 * t * m.c < 0 ∧ -m.c < m.a + 2 * t * m.c)))
theorem inR_one {t : Int} (h : t ≠ 0) : InR t (T t) := by
  unfold InR T
  by_cases hp : 0 < t
  · rw [if_pos hp]; left; refine ⟨hp, ?_⟩
    simp only
    omega
  · rw [if_neg hp]; right; refine ⟨by omega, ?_⟩
    simp only
    omega
theorem col_p {t : Int} (h : 0 < t) (m : Mat) : ((T t).mul m).a - 2 * t * ((T t).mul m).c = m.a - 2 * t * m.c ∧ ((T t).mul m).c = m.c + 2 * (m.a - 2 * t * m.c) := by
  unfold T; rw [if_pos h]; simp only [Mat.mul]; constructor <;> grind
theorem col_n {t : Int} (h : ¬ 0 < t) (m : Mat) : ((T t).mul m).a + 2 * t * ((T t).mul m).c = m.a + 2 * t * m.c ∧ ((T t).mul m).c = m.c - 2 * (m.a + 2 * t * m.c) := by
  unfold T; rw [if_neg h]; simp only [Mat.mul]; constructor <;> grind
theorem far {d c : Int} (h : d ≠ 0) : (0 < c → c ≤ d * c ∨ d * c ≤ -c) ∧ (c < 0 → d * c ≤ c ∨ -c ≤ d * c) := by
  rcases Int.lt_or_gt_of_ne h with h | h
  · constructor
    · intro hc
      have := Int.mul_le_mul_of_nonneg_right (show d ≤ -1 by omega) (show 0 ≤ c by omega)
      omega
    · intro hc
      have := Int.mul_le_mul_of_nonneg_right (show d ≤ -1 by omega) (show 0 ≤ -c by omega)
      simp only [Int.mul_neg] at this
      omega
  · constructor
    · intro hc
      have := Int.mul_le_mul_of_nonneg_right (show 1 ≤ d by omega) (show 0 ≤ c by omega)
      omega
    · intro hc
      have := Int.mul_le_mul_of_nonneg_right (show 1 ≤ d by omega) (show 0 ≤ -c by omega)
      simp only [Int.mul_neg] at this
      omega
theorem inR_cons {t u : Int} {m : Mat} (ht : t ≠ 0) (h : InR u m) (ne : t ≠ -u) : InR t ((T t).mul m) := by
  unfold InR at h ⊢
  by_cases hp : 0 < t
  · left; refine ⟨hp, ?_⟩
    rw [(col_p hp m).1, (col_p hp m).2]
    rcases h with ⟨hu, h⟩ | ⟨hu, h⟩
    · by_cases e : u = t
      · subst e; omega
      · have f := far (d := u - t) (c := m.c) (by omega)
        have e2 : m.a - 2 * t * m.c = (m.a - 2 * u * m.c) + 2 * ((u - t) * m.c) := by grind
        rw [e2]
        generalize m.a - 2 * u * m.c = V at *
        generalize (u - t) * m.c = p at *
        omega
    · have f := far (d := -u - t) (c := m.c) (by omega)
      have e2 : m.a - 2 * t * m.c = (m.a + 2 * u * m.c) + 2 * ((-u - t) * m.c) := by grind
      rw [e2]
      generalize m.a + 2 * u * m.c = V at *
      generalize (-u - t) * m.c = p at *
      omega
  · right; refine ⟨by omega, ?_⟩
    rw [(col_n hp m).1, (col_n hp m).2]
    rcases h with ⟨hu, h⟩ | ⟨hu, h⟩
    · have f := far (d := u + t) (c := m.c) (by omega)
      have e2 : m.a + 2 * t * m.c = (m.a - 2 * u * m.c) + 2 * ((u + t) * m.c) := by grind
      rw [e2]
      generalize m.a - 2 * u * m.c = V at *
      generalize (u + t) * m.c = p at *
      omega
    · by_cases e : u = t
      · subst e; omega
      · have f := far (d := t - u) (c := m.c) (by omega)
        have e2 : m.a + 2 * t * m.c = (m.a + 2 * u * m.c) + 2 * ((t - u) * m.c) := by grind
        rw [e2]
        generalize m.a + 2 * u * m.c = V at *
        generalize (t - u) * m.c = p at *
        omega
theorem inR_MM : ∀ (l : List Int) (t : Int), Fine (t :: l) → (∀ x ∈ t :: l, x ≠ 0) → InR t (MM (t :: l))
  | [], t, _, nz => by
    rw [MM_cons]
    show InR t ((T t).mul Mat.one)
    rw [Mat.mul_one]
    exact inR_one (nz t (by simp))
  | u :: l, t, h, nz => by
    rw [MM_cons]
    refine inR_cons (nz t (by simp)) (inR_MM l u (fine_suf (s := [t]) h) fun x hx => nz x (List.mem_cons_of_mem _ hx)) (h [] t u l rfl)
theorem MM_one_iff {l : List Int} (nz : ∀ x ∈ l, x ≠ 0) : MM l = Mat.one ↔ red l = [] := by
  have e := MM_rm (rm_l l) nz
  constructor
  · intro h
    rw [e] at h
    cases hr : red l with
    | nil => rfl
    | cons t r =>
      exfalso
      have f := fine_red l
      have n2 : ∀ x ∈ red l, x ≠ 0 := fun x hx => nz x (red_mem l x hx)
      rw [hr] at h f n2
      have := inR_MM r t f n2
      rw [h] at this
      unfold InR Mat.one at this
      simp only at this
      omega
  · intro h
    rw [e, h]; rfl
end Cd

namespace K58
open PySem PySem.Spec PyProof.Rows L2 Pu Cd
abbrev tI (l : List Int) : D := tu PyData.int l
abbrev iI (i : Int) : D := PyData.int i
/-! ### judges of values -/
def isW : D → Bool
  | .int _ => true
  | _ => false
theorem q_is_whole (d : D) : m_is_whole [d] = ok (.bool (isW d)) := by
  cases d <;> rfl
def isT : D → Bool
  | .int i => decide (-8 ≤ i) && decide (i ≤ 8) && !decide (i = 0)
  | _ => false
theorem q_is_number (d : D) (a b : Int) : m_is_number [d, .int a, .int b] = ok (.bool (match d with | .int i => decide (a ≤ i) && decide (i ≤ b) | _ => false)) := by
  cases d <;> try rfl
  rename_i i
  show bd (g_is_number [.dat (.int i), .dat (.int a), .dat (.int b)]) endM = _
  simp [g_is_number, isiR, Pu.isInt, Pu.isBoo]
  by_cases h : a ≤ i <;> simp [h]
theorem q_is_turn (d : D) : m_is_turn [d] = ok (.bool (isT d)) := by
  show bd (g_is_turn [.dat d]) endM = _
  simp [g_is_turn, q_is_number]
  cases d <;> try (simp [isT]; done)
  rename_i i
  simp only [isT]
  cases (decide (-8 ≤ i) && decide (i ≤ 8)) <;> simp
def isNC : D → Bool
  | .tuple ds => decide (ds.length ≤ 400) && ds.all isT
  | _ => false
theorem q_is_nail_cord (d : D) : m_is_nail_cord [d] = ok (.bool (isNC d)) := by
  show bd (g_is_nail_cord [.dat d, .un]) endM = _
  cases d <;> try rfl
  rename_i ds
  have hc : lcM [1] (itR (nDR 0)) (gSet 1) yesT (m1 (consR (nDR 1) nilR) (callR 1 m_is_turn)) [.dat (.tuple ds), .un] = ok (ds.map fun x => .bool (isT x)) :=
    lcM_map (f := id) (by rw [List.map_id]; exact itR_tuple rfl) (fun x _ => by simp [wipeS, q_is_turn])
  simp [g_is_nail_cord, isiR, Pu.isTup, hc, isNC]
  have e : ((ds.length : Int) ≤ 400) ↔ ds.length ≤ 400 := by omega
  by_cases h : ds.length ≤ 400 <;> simp [h, e, allR_bools]
/-! ### pulled cords -/
theorem q_pulled_any (c : D) (l : List Int) (hc : itR (nDR 0) [.dat c, .own [], .un] = ok (l.map .int)) (h : l.length < sizeLine) : m_pulled_cord [c] = ok (tI (red l)) := by
  show bd (g_pulled_cord [.dat c, .un, .un]) endM = _
  let st : List Int × Sl → List Sl := fun b => [.dat c, .own (b.1.map .int), b.2]
  have key : ∀ b, b.1.length + l.length < sizeLine → forF (gSet 2) (ifV (andT (m1 (nBR 1) truR) (m1 (m2 (m2 (nBR 1) (m1 (kR (.int 1)) negR) ixR) (m1 (nDR 2) negR) eqR) asB)) (popM 1 nilR popR (fun _ ρ => ok ρ)) (mutM 1 (consR (nDR 2) nilR) appR)) (l.map .int) (st b) = ok (.nx (st (l.foldl (fun b x => (push b.1 x, .dat (.int x))) b))) := by
    intro b hb
    refine forF_inv st (fun b x => (push b.1 x, .dat (.int x))) (fun b r => b.1.length + r.length < sizeLine) (fun b x r j => ⟨?_, ?_⟩) l b hb
    · obtain ⟨s, t⟩ := b
      by_cases e : s.getLast? = some (-x)
      · have hne : s ≠ [] := by rintro rfl; cases e
        simp [st, ixR_last e, push_pop e, hne, popR, e]
      · have happ : appR (s.map PyData.int) [.int x] = ok ((s ++ [x]).map .int) := by
          show bd (req _) _ = _
          rw [bd_req (by simp at j ⊢; omega)]; simp
        cases e2 : s.getLast? with
        | none =>
          have : s = [] := List.getLast?_eq_none_iff.mp e2
          subst this
          have happ' : appR [] [PyData.int x] = ok [PyData.int x] := by simpa using happ
          simp [st, push_app e, happ']
        | some y =>
          have hne : s ≠ [] := by rintro rfl; cases e2
          have hy : ¬ y = -x := fun q => e (by rw [e2, q])
          simp [st, ixR_last e2, push_app e, hne, hy, happ]
    · have : (push b.1 x).length ≤ b.1.length + 1 := by
        unfold push; split <;> simp <;> omega
      simp at j ⊢; omega
  have h0 := key ([], .un) (by simpa using h)
  have hf : ∀ (l : List Int) (b : List Int × Sl), (l.foldl (fun (b : List Int × Sl) x => (push b.1 x, Sl.dat (.int x))) b).1 = l.foldl push b.1 := by
    intro l
    induction l with
    | nil => simp
    | cons x l ih => intro b; rw [List.foldl_cons, ih]; rfl
  simp only [g_pulled_cord, seqM_e, setO_e, m1_e, nilR_e, bd_ok, lstR_e (show ([] : List D).length ≤ sizeLine from Nat.zero_le _), nxt_nx, set_s, set_0, forM_e, hc]
  show bd (bd (bd (forF _ _ _ (st ([], .un))) _) _) _ = _
  rw [h0]
  simp [st, hf]
  rfl
theorem q_pulled (l : List Int) (h : l.length < sizeLine) : m_pulled_cord [tI l] = ok (tI (red l)) := q_pulled_any _ l (itR_tup rfl) h
theorem q_pulled_l (l : List Int) (h : l.length < sizeLine) : m_pulled_cord [.list (l.map .int)] = ok (tI (red l)) := q_pulled_any _ l (itR_list rfl) h
theorem q_back (l : List Int) : m_back_cord [tI l] = ok (tI (back l)) := by
  show bd (g_back_cord [.dat (tI l), .un]) endM = _
  have hc : lcM [1] (itR (m1 (nDR 0) revR)) (gSet 1) yesT (m1 (nDR 1) negR) [.dat (tI l), .un] = ok (l.reverse.map fun x => .int (-x)) :=
    lcM_map (f := PyData.int) (itR_tup (by simp)) (fun x _ => by simp [wipeS])
  have e : (l.reverse.map fun x => PyData.int (-x)) = (back l).map .int := by simp [back]
  simp [g_back_cord, hc, e]
theorem q_falls (l : List Int) (h : l.length < sizeLine) : m_does_fall [tI l] = ok (.bool (decide (red l = []))) := by
  show bd (g_does_fall [.dat (tI l)]) endM = _
  have : eqR (tI (red l)) (.tuple []) = ok (.bool (decide (red l = []))) := eqR_tup (k := [])
  simp [g_does_fall, q_pulled l h, tupR_e (show ([] : List D).length ≤ sizeLine from Nat.zero_le _), this]
end K58

namespace K58
open PySem PySem.Spec PyProof.Rows L2 Pu Cd
/-! ### spots, by the program and by the law -/
abbrev lI (l : List Int) : D := li PyData.int l
theorem spot_t {ρ : List Sl} {a b : List Sl → R D} {l : List Int} {k : Nat} {w : List Int → D} (hw : ∀ {l : List Int} {k : Nat} (h : k < l.length), ixR (w l) (.int k) = ok (.int l[k])) (ha : a ρ = ok (w l)) (hb : b ρ = ok (nI k)) (h : k ∈ List.range (l.length - 1)) :
    m1 (m2 (m2 a b ixR) (m1 (m2 a (m2 b (kR (.int 1)) addR) ixR) negR) eqR) asB ρ = ok (isSpot l k) := by
  have hk : k + 1 < l.length := by simp at h; omega
  have h1 := hw (Nat.lt_of_succ_lt hk)
  have h2 := hw hk
  rw [Int.natCast_add] at h2
  simp [ha, hb, nI] at h1 h2 ⊢
  simp [h1, h2, isSpot, List.getD, hk, Nat.lt_of_succ_lt hk]
theorem range_len (l : List Int) (h : l.length < sizeLine) : range1R [.int ((l.length : Int) - 1)] = ok ((List.range (l.length - 1)).map nI) := by
  rw [range1_e (by omega) (by omega)]
  congr 4; omega
theorem cut_e {w : List Int → D} {l : List Int} {k : Nat} (hs : ∀ lo hi, slR (w l) lo hi = ok (w (cutG l lo hi))) (ha : ∀ {l k : List Int}, l.length + k.length ≤ sizeLine → addR (w l) (w k) = ok (w (l ++ k))) (h : l.length < sizeLine) {ρ : List Sl} {a b : List Sl → R D} (h1 : a ρ = ok (w l)) (h2 : b ρ = ok (nI k)) :
    m2 (m3 a noR (m1 b asI) slR) (m3 a (m1 (m2 b (kR (.int 2)) addR) asI) noR slR) addR ρ = ok (w (cut l k)) := by
  have e : cutG l (some ((k : Int) + 2)) none = l.drop (k + 2) := cut_hi (k := k + 2)
  simp [h1, h2, nI, hs, cut_lo, e]
  rw [ha (by simp; omega)]; rfl
theorem q_law_pulled_any (c : D) (l : List Int) (hc : lstOfR [c] = ok (l.map .int)) (hl : lenR [c] = ok (.int l.length)) (h : l.length < sizeLine) : m_law_pulled [c] = ok (tI (red l)) := by
  show bd (g_law_pulled [.dat c, .un, .un, .un, .un]) endM = _
  let st : List Int × Sl × Sl → List Sl := fun b => [.dat c, .dat (lI b.1), b.2.1, b.2.2, .un]
  let step : List Int × Sl × Sl → Nat → List Int × Sl × Sl := fun b x => (lastStep b.1, .dat (nI x), .dat (li nI (spots b.1)))
  have hr : range1R [.int l.length] = ok ((List.range l.length).map nI) := by rw [range1_e (by omega) (by omega)]; simp
  have key := forF_inv (f := nI) (i := 2) (tb := (seqM (setM 3 (frz (lcM [4] (m1 (consR (m2 (m1 (consR (nDR 1) nilR) lenR) (kR (.int 1)) subR) nilR) range1R) (gSet 4) (m1 (m2 (m2 (nDR 1) (nDR 4) ixR) (m1 (m2 (nDR 1) (m2 (nDR 4) (kR (.int 1)) addR) ixR) negR) eqR) asB) (nDR 4))))
 (ifV (m1 (m2 (m1 (consR (nDR 3) nilR) lenR) (kR (.int 0)) gtR) asB) (setM 1 (m2 (m3 (nDR 1) noR (m1 (m2 (nDR 3) (m1 (kR (.int 1)) negR) ixR) asI) slR) (m3 (nDR 1) (m1 (m2 (m2 (nDR 3) (m1 (kR (.int 1)) negR) ixR) (kR (.int 2)) addR) asI) noR slR) addR)) nilM))) st step (fun b r => b.1.length < sizeLine) (fun b x r j => ?_) (List.range l.length) (l, .un, .un) h
  · have hf : ∀ (r : List Nat) (b : List Int × Sl × Sl), (r.foldl step b).1 = r.foldl (fun l _ => lastStep l) b.1 := by
      intro r
      induction r with
      | nil => simp
      | cons x r ih => intro b; rw [List.foldl_cons, ih]; rfl
    have hfin := lastSteps (List.range l.length) l (by simp)
    simp only [g_law_pulled, seqM_e, setM_e, frz_e, m1_e, consR_e, nilR_e, nDR_0, bd_ok, hc, nxt_nx, set_s, set_0, forM_e, hl, hr, bd_bd]
    show bd (forF _ _ _ (st (l, .un, .un))) _ = _
    rw [key]
    simp [st, hf, hfin]
  · obtain ⟨l, t, u⟩ := b
    have hj : l.length < sizeLine := j
    refine ⟨?_, ?_⟩
    · have hlc : lcM [4] (m1 (consR (m2 (m1 (consR (nDR 1) nilR) lenR) (kR (.int 1)) subR) nilR) range1R) (gSet 4) (m1 (m2 (m2 (nDR 1) (nDR 4) ixR) (m1 (m2 (nDR 1) (m2 (nDR 4) (kR (.int 1)) addR) ixR) negR) eqR) asB) (nDR 4) [.dat c, .dat (lI l), .dat (nI x), u, .un] = ok ((spots l).map nI) :=
        lcM_set (f := nI) (by simp [range_len l hj]) (fun k hk => spot_t (w := lI) ixR_lst (by simp [wipeS]) (by simp [wipeS]) hk) (fun k hk _ => by simp [wipeS])
      simp only [st, step, seqM_e, setM_e, frz_e, set_s, set_0, hlc, bd_ok, nxt_nx]
      cases e : (spots l).getLast? with
      | none =>
        have e2 : spots l = [] := List.getLast?_eq_none_iff.mp e
        simp [e2, lastStep_none e, li]
      | some k =>
        have hne : 0 < (spots l).length := by cases e2 : spots l <;> simp_all
        have hx : ixR (.list ((spots l).map nI)) (.int (-1)) = ok (nI k) := ixR_last e
        have hcut := cut_e (w := lI) (l := l) (k := k) (fun lo hi => slR_lst _ _ _) addR_lst hj (ρ := [.dat c, .dat (lI l), .dat (nI x), .dat (.list ((spots l).map nI)), .un]) (a := nDR 1) (b := m2 (nDR 3) (m1 (kR (.int 1)) negR) ixR) (by simp) (by simp [hx])
        have ht : m1 (m2 (m1 (consR (nDR 3) nilR) lenR) (kR (.int 0)) gtR) asB [.dat c, .dat (lI l), .dat (nI x), .dat (.list ((spots l).map nI)), .un] = ok true := by simp [hne]
        rw [ifV_e, ht, bd_ok, if_pos rfl, setM_e, hcut, lastStep_some e]
        rfl
    · show (lastStep l).length < sizeLine
      have : (lastStep l).length ≤ l.length := by
        unfold lastStep cut; split <;> simp <;> omega
      omega
theorem q_law_pulled (l : List Int) (h : l.length < sizeLine) : m_law_pulled [tI l] = ok (tI (red l)) := q_law_pulled_any _ l rfl (by simp) h
theorem q_law_pulled_l (l : List Int) (h : l.length < sizeLine) : m_law_pulled [.list (l.map .int)] = ok (tI (red l)) := q_law_pulled_any _ l rfl (by simp) h
/-! ### nails drawn -/
theorem inV_nails (x : Int) (ns : List Nat) : notInR (.int x) (tu nI ns) = ok (.bool (!ns.any fun n => decide ((n : Int) = x))) := by
  have h1 : inV (.int x) (tu nI ns) = some (ns.any fun n => decide ((n : Int) = x)) := by
    show (if min (PyData.depthAll (ns.map nI)) (PyData.int x).depth ≤ 60 then some ((ns.map nI).any fun y => PyData.eqv y (.int x)) else none) = _
    rw [if_pos (Nat.le_trans (Nat.min_le_right _ _) (by simp [PyData.depth])), List.any_map]
    congr 2
  unfold notInR; rw [h1]
def keep (ns : List Nat) (x : Int) : Bool := !ns.any fun n => decide ((n : Int) = (x.natAbs : Int))
theorem q_left_lc {l : List Int} {ns : List Nat} {u : Sl} : lcM [2] (itR (nDR 0)) (gSet 2) (m1 (m2 (m1 (consR (nDR 2) nilR) absR) (nDR 1) notInR) asB) (nDR 2) [.dat (tI l), .dat (tu nI ns), u] = ok ((l.filter (keep ns)).map .int) :=
  lcM_set (f := PyData.int) (itR_tup rfl) (fun x _ => by simp [wipeS, inV_nails, keep]) (fun x _ _ => by simp [wipeS])
theorem q_without (l : List Int) (ns : List Nat) (h : l.length < sizeLine) : m_without_nails [tI l, tu nI ns] = ok (tI (red (l.filter (keep ns)))) := by
  show bd (g_without_nails [.dat (tI l), .dat (tu nI ns), .un]) endM = _
  simp only [g_without_nails, retM_e, m1_e, consR_e, frz_e, q_left_lc, bd_ok, nilR_e, callR_1, q_pulled_l _ (Nat.lt_of_le_of_lt (List.length_filter_le _ _) h), endM_rt]
theorem q_law_left (l : List Int) (ns : List Nat) (h : l.length < sizeLine) : m_law_left [tI l, tu nI ns] = ok (tI (red (l.filter (keep ns)))) := by
  show bd (g_law_left [.dat (tI l), .dat (tu nI ns), .un]) endM = _
  simp only [g_law_left, retM_e, m1_e, consR_e, frz_e, q_left_lc, bd_ok, nilR_e, callR_1, q_law_pulled_l _ (Nat.lt_of_le_of_lt (List.length_filter_le _ _) h), endM_rt]
/-! ### first pulls -/
theorem q_first_none (l : List Int) (h : l.length < sizeLine) (hr : red l ≠ []) : m_first_pulls [tI l] = ok .none := by
  show bd (g_first_pulls [.dat (tI l), .un, .un]) endM = _
  simp [g_first_pulls, q_falls l h, hr]
theorem spots_head {l : List Int} {k : Nat} (h : (spots l).head? = some k) : ixR (.list ((spots l).map nI)) (.int 0) = ok (nI k) := by
  cases e : spots l with
  | nil => rw [e] at h; cases h
  | cons a r =>
    rw [e] at h
    cases h
    exact ixR_atl (by rw [atI_map, show (0 : Int) = ((0 : Nat) : Int) from rfl, Pu.atI_nat (by simp)]; rfl)
theorem q_first_some (l : List Int) (h : l.length < sizeLine) (hr : red l = []) : m_first_pulls [tI l] = ok (tu nI (fp l.length l)) := by
  show bd (g_first_pulls [.dat (tI l), .un, .un]) endM = _
  have key : ∀ (n : Nat) (l : List Int) (f : List Nat) (u : Sl), l.length ≤ n → l.length + f.length < sizeLine → red l = [] → ∃ u', whileM (m1 (nDR 0) truR) (seqM (setM 2 (m2 (frz (lcM [2] (m1 (consR (m2 (m1 (consR (nDR 0) nilR) lenR) (kR (.int 1)) subR) nilR) range1R) (gSet 2) (m1 (m2 (m2 (nDR 0) (nDR 2) ixR) (m1 (m2 (nDR 0) (m2 (nDR 2) (kR (.int 1)) addR) ixR) negR) eqR) asB) (nDR 2))) (kR (.int 0)) ixR))
 (seqM (mutM 1 (consR (nDR 2) nilR) appR)
 (setM 0 (m2 (m3 (nDR 0) noR (m1 (nDR 2) asI) slR) (m3 (nDR 0) (m1 (m2 (nDR 2) (kR (.int 2)) addR) asI) noR slR) addR)))) [.dat (tI l), .own (f.map nI), u] = ok (.nx [.dat (tI []), .own ((f ++ fp n l).map nI), u']) := by
    intro n
    induction n with
    | zero =>
      intro l f u h1 h2 h3
      have : l = [] := by cases l; rfl; simp at h1
      subst this
      exact ⟨u, by rw [whileM_stop (by simp)]; simp [fp]⟩
    | succ n ih =>
      intro l f u h1 h2 h3
      by_cases hl : l = []
      · subst hl
        have : fp (n + 1) [] = [] := rfl
        exact ⟨u, by rw [whileM_stop (by simp), this]; simp⟩
      · obtain ⟨k, hk⟩ := spot_of_falls h3 hl
        have m := mem_spots (List.mem_of_head? hk)
        have hc := red_cutk m.1 m.2
        obtain ⟨u', hu⟩ := ih (cut l k) (f ++ [k]) (.dat (nI k)) (by omega) (by simp; omega) (by rw [hc.1, h3])
        have hlc : lcM [2] (m1 (consR (m2 (m1 (consR (nDR 0) nilR) lenR) (kR (.int 1)) subR) nilR) range1R) (gSet 2) (m1 (m2 (m2 (nDR 0) (nDR 2) ixR) (m1 (m2 (nDR 0) (m2 (nDR 2) (kR (.int 1)) addR) ixR) negR) eqR) asB) (nDR 2) [.dat (tI l), .own (f.map nI), u] = ok ((spots l).map nI) :=
          lcM_set (f := nI) (by simp [range_len l (by omega)]) (fun k hk => spot_t (w := tI) ixR_tup (by simp [wipeS]) (by simp [wipeS]) hk) (fun k hk _ => by simp [wipeS])
        have happ : appR (f.map nI) [nI k] = ok ((f ++ [k]).map nI) := by
          show bd (req _) _ = _
          rw [bd_req (by simp; omega)]; simp
        have hcut := cut_e (w := tI) (l := l) (k := k) (fun lo hi => slR_tup _ _ _) addR_tup (by omega) (ρ := [.dat (tI l), .own ((f ++ [k]).map nI), .dat (nI k)]) (a := nDR 0) (b := nDR 2) (by simp) (by simp)
        refine ⟨u', ?_⟩
        rw [whileM_step (ρ' := [.dat (tI (cut l k)), .own ((f ++ [k]).map nI), .dat (nI k)])]
        · rw [hu]
          have : fp (n + 1) l = k :: fp n (cut l k) := by
            conv => lhs; unfold fp
            rw [hk]
          rw [this]; simp
        · have : l.isEmpty = false := by simpa using hl
          simp [this]
        · simp only [seqM_e, setM_e, m2_e, frz_e, hlc, bd_ok, kR_e, spots_head hk, nxt_nx, set_s, set_0, mutM_e, getO_s, getO_0, consR_e, nDR_s, nDR_0, nilR_e, happ]
          have hcut2 := hcut
          simp only [m2_e] at hcut2
          rw [hcut2]; rfl
  obtain ⟨u', hu⟩ := key l.length l [] .un (Nat.le_refl _) (by simpa using h) hr
  have e0 : ([] : List Nat).map nI = [] := rfl
  rw [e0] at hu
  simp [g_first_pulls, q_falls l h, hr, lstR_e (show ([] : List D).length ≤ sizeLine from Nat.zero_le _), hu]
end K58

namespace K58
open PySem PySem.Spec PyProof.Rows L2 Pu Cd
/-! ### rows of pulls -/
def toI : D → Int
  | .int i => i
  | _ => 0
def isP (l : List Int) : D → Bool
  | .tuple ds => ds.all isW && ap l (ds.map toI)
  | _ => false
theorem toI_map : ∀ {ds : List D}, ds.all isW = true → (ds.map toI).map PyData.int = ds
  | [], _ => rfl
  | d :: ds, h => by
    rw [List.all_cons, Bool.and_eq_true] at h
    rw [List.map_cons, List.map_cons, toI_map h.2]
    cases d <;> first | rfl | cases h.1
theorem spot_ne {ρ : List Sl} {a b : List Sl → R D} {l : List Int} {k : Nat} {w : List Int → D} (hw : ∀ {l : List Int} {k : Nat} (h : k < l.length), ixR (w l) (.int k) = ok (.int l[k])) (ha : a ρ = ok (w l)) (hb : b ρ = ok (nI k)) (hk : k + 1 < l.length) :
    m1 (m2 (m2 a b ixR) (m1 (m2 a (m2 b (kR (.int 1)) addR) ixR) negR) neR) asB ρ = ok (!isSpot l k) := by
  have h1 := hw (Nat.lt_of_succ_lt hk)
  have h2 := hw hk
  rw [Int.natCast_add] at h2
  simp [ha, hb, nI] at h1 h2 ⊢
  simp [h1, h2, isSpot, List.getD, hk, Nat.lt_of_succ_lt hk]
theorem spot_sum {ρ : List Sl} {a b : List Sl → R D} {l : List Int} {k : Nat} {w : List Int → D} (hw : ∀ {l : List Int} {k : Nat} (h : k < l.length), ixR (w l) (.int k) = ok (.int l[k])) (ha : a ρ = ok (w l)) (hb : b ρ = ok (nI k)) (hk : k + 1 < l.length) :
    m1 (m2 (m2 (m2 a b ixR) (m2 a (m2 b (kR (.int 1)) addR) ixR) addR) (kR (.int 0)) neR) asB ρ = ok (!isSpot l k) := by
  have h1 := hw (Nat.lt_of_succ_lt hk)
  have h2 := hw hk
  rw [Int.natCast_add] at h2
  simp [ha, hb, nI] at h1 h2 ⊢
  simp [h1, h2, isSpot, List.getD, hk, Nat.lt_of_succ_lt hk]
  apply congrArg ok
  apply congrArg not
  apply decide_eq_decide.mpr
  omega
theorem q_are_pulls (l : List Int) (d : D) (h : l.length < sizeLine) : m_are_pulls [tI l, d] = ok (.bool (isP l d)) := by
  show bd (g_are_pulls [.dat (tI l), .dat d, .un]) endM = _
  cases d <;> try rfl
  rename_i ds
  have hc : lcM [2] (itR (nDR 1)) (gSet 2) yesT (m1 (consR (nDR 2) nilR) (callR 1 m_is_whole)) [.dat (tI l), .dat (.tuple ds), .un] = ok (ds.map fun x => .bool (isW x)) :=
    lcM_map (f := id) (by rw [List.map_id]; exact itR_tuple rfl) (fun x _ => by simp [wipeS, q_is_whole])
  have hi : itR (nDR 1) [.dat (tI l), .dat (.tuple ds), .un] = ok ds := itR_tuple rfl
  cases ha : ds.all isW with
  | false => simp [g_are_pulls, isiR, Pu.isTup, hc, allR_bools, isP, ha]
  | true =>
    have key : ∀ (ks : List Int) (l : List Int) (u : Sl), l.length < sizeLine → bd (forF (gSet 2) (seqM (ifV (orT (notT (m1 (chain ok leR ltR (kR (.int 0)) (nDR 2) (m2 (m1 (consR (nDR 0) nilR) lenR) (kR (.int 1)) subR)) asB)) (m1 (m2 (m2 (nDR 0) (nDR 2) ixR) (m1 (m2 (nDR 0) (m2 (nDR 2) (kR (.int 1)) addR) ixR) negR) neR) asB)) (retM (kR (.bool false))) nilM)
 (setM 0 (m2 (m3 (nDR 0) noR (m1 (nDR 2) asI) slR) (m3 (nDR 0) (m1 (m2 (nDR 2) (kR (.int 2)) addR) asI) noR slR) addR))) (ks.map .int) [.dat (tI l), .dat (.tuple ds), u]) (nxt (retM (m2 (nDR 0) (m1 nilR tupR) eqR))) = ok (.rt (.bool (ap l ks))) := by
      intro ks
      induction ks with
      | nil =>
        intro l u hl
        have : eqR (tI l) (.tuple []) = ok (.bool (decide (l = []))) := eqR_tup (k := [])
        simp [forF, tupR_e (show ([] : List D).length ≤ sizeLine from Nat.zero_le _), this, ap_nil]
        cases l <;> rfl
      | cons x ks ih =>
        intro l u hl
        rw [List.map_cons, forF, gSet_e, bd_ok]
        by_cases h0 : 0 ≤ x
        · by_cases h1 : x < (l.length : Int) - 1
          · obtain ⟨k, rfl⟩ := Int.eq_ofNat_of_zero_le h0
            have hk : k + 1 < l.length := by omega
            have hsp := spot_ne (w := tI) (ρ := [.dat (tI l), .dat (.tuple ds), .dat (.int k)]) (a := nDR 0) (b := nDR 2) ixR_tup (by simp) (by simp [nI]) hk
            have hcut := cut_e (w := tI) (l := l) (k := k) (fun lo hi => slR_tup _ _ _) addR_tup hl (ρ := [.dat (tI l), .dat (.tuple ds), .dat (.int k)]) (a := nDR 0) (b := nDR 2) (by simp) (by simp [nI])
            have hch : m1 (chain ok leR ltR (kR (.int 0)) (nDR 2) (m2 (m1 (consR (nDR 0) nilR) lenR) (kR (.int 1)) subR)) asB [.dat (tI l), .dat (.tuple ds), .dat (.int k)] = ok true := by simp [h1]
            have hap := ap_nat (ks := ks) h1
            rw [set_s, set_s, set_0, seqM_e, ifV_e, orT_e, notT_e, hch, bd_ok, bd_ok, hsp, hap]
            cases e : isSpot l k with
            | false => simp
            | true =>
              simp only [Bool.not_true, Bool.false_eq_true, if_false, bd_ok, nilM_e, nxt_nx, if_true]
              rw [setM_e, hcut, bd_ok, bd_ok, lpO_nx]
              exact ih (cut l k) _ (by unfold cut; simp; omega)
          · have hap := ap_hi (ks := ks) h1
            simp [h0, h1, hap]
        · have hap := ap_lo (l := l) (ks := ks) h0
          simp [h0, hap]
    have := key (ds.map toI) l .un h
    rw [toI_map ha] at this
    simp only [g_are_pulls, seqM_e, ifV_e, orT_e, notT_e, m1_e, nDR_s, nDR_0, bd_ok, isiR, Pu.isTup, truR_bool, consR_e, frz_e, hc, nilR_e, allR_bools, ha, Bool.not_true, Bool.false_eq_true, if_false, nilM_e, nxt_nx, forM_e, hi, bd_bd]
    simp only [bd_bd, seqM_e, ifV_e, orT_e, notT_e, m1_e, nDR_s, nDR_0, bd_ok, isiR, Pu.isTup, truR_bool, consR_e, frz_e, nilR_e, isP, ha, Bool.true_and] at this ⊢
    rw [← bd_bd, this]
    rfl
theorem q_law_are_pulls (l : List Int) (d : D) (h : l.length < sizeLine) : m_law_are_pulls [tI l, d] = ok (.bool (isP l d)) := by
  show bd (g_law_are_pulls [.dat (tI l), .dat d, .un, .un]) endM = _
  cases d <;> try rfl
  rename_i ds
  have hc : lcM [3] (itR (nDR 1)) (gSet 3) yesT (andV (m1 (nDR 3) (isiR Pu.isInt)) (notV (m1 (nDR 3) (isiR isBoo)))) [.dat (tI l), .dat (.tuple ds), .un, .un] = ok (ds.map fun x => .bool (isW x)) :=
    lcM_map (f := id) (by rw [List.map_id]; exact itR_tuple rfl) (fun x _ => by cases x <;> rfl)
  have hi : itR (nDR 1) [.dat (tI l), .dat (.tuple ds), .dat (lI l), .un] = ok ds := itR_tuple rfl
  cases ha : ds.all isW with
  | false => simp [g_law_are_pulls, isiR, Pu.isTup, hc, allR_bools, isP, ha]
  | true =>
    have key : ∀ (ks : List Int) (l : List Int) (v u : Sl), l.length < sizeLine → bd (forF (gSet 3) (seqM (ifV (orT (m1 (m2 (nDR 3) (kR (.int 0)) ltR) asB) (orT (m1 (m2 (m2 (nDR 3) (kR (.int 1)) addR) (m1 (consR (nDR 2) nilR) lenR) geR) asB) (m1 (m2 (m2 (m2 (nDR 2) (nDR 3) ixR) (m2 (nDR 2) (m2 (nDR 3) (kR (.int 1)) addR) ixR) addR) (kR (.int 0)) neR) asB))) (retM (kR (.bool false))) nilM)
 (setM 2 (m2 (m3 (nDR 2) noR (m1 (nDR 3) asI) slR) (m3 (nDR 2) (m1 (m2 (nDR 3) (kR (.int 2)) addR) asI) noR slR) addR))) (ks.map .int) [v, .dat (.tuple ds), .dat (lI l), u]) (nxt (retM (m2 (m1 (consR (nDR 2) nilR) lenR) (kR (.int 0)) eqR))) = ok (.rt (.bool (ap l ks))) := by
      intro ks
      induction ks with
      | nil =>
        intro l v u hl
        simp [forF, ap_nil]
        cases l <;> simp <;> omega
      | cons x ks ih =>
        intro l v u hl
        rw [List.map_cons, forF, gSet_e, bd_ok]
        by_cases h0 : 0 ≤ x
        · by_cases h1 : x < (l.length : Int) - 1
          · obtain ⟨k, rfl⟩ := Int.eq_ofNat_of_zero_le h0
            have hk : k + 1 < l.length := by omega
            have hsp := spot_sum (w := lI) (ρ := [v, .dat (.tuple ds), .dat (lI l), .dat (.int k)]) (a := nDR 2) (b := nDR 3) ixR_lst (by simp) (by simp [nI]) hk
            have hcut := cut_e (w := lI) (l := l) (k := k) (fun lo hi => slR_lst _ _ _) addR_lst hl (ρ := [v, .dat (.tuple ds), .dat (lI l), .dat (.int k)]) (a := nDR 2) (b := nDR 3) (by simp) (by simp [nI])
            have h2 : ¬ ((k : Int) < 0) := by omega
            have h3 : ¬ ((l.length : Int) ≤ k + 1) := by omega
            have hc1 : m1 (m2 (nDR 3) (kR (.int 0)) ltR) asB [v, .dat (.tuple ds), .dat (lI l), .dat (.int k)] = ok false := by simp [h2]
            have hc2 : m1 (m2 (m2 (nDR 3) (kR (.int 1)) addR) (m1 (consR (nDR 2) nilR) lenR) geR) asB [v, .dat (.tuple ds), .dat (lI l), .dat (.int k)] = ok false := by simp [h3]
            have hap := ap_nat (ks := ks) h1
            rw [set_s, set_s, set_s, set_0, seqM_e, ifV_e, orT_e, hc1, bd_ok, if_neg (by simp), orT_e, hc2, bd_ok, if_neg (by simp), hsp, hap]
            cases e : isSpot l k with
            | false => simp
            | true =>
              simp only [Bool.not_true, Bool.false_eq_true, if_false, bd_ok, nilM_e, nxt_nx, if_true]
              rw [setM_e, hcut, bd_ok, bd_ok, lpO_nx]
              exact ih (cut l k) _ _ (by unfold cut; simp; omega)
          · have hap := ap_hi (ks := ks) h1
            have h2 : ¬ (x < 0) := by omega
            have h3 : ((l.length : Int) ≤ x + 1) := by omega
            simp [h2, h3, hap]
        · have hap := ap_lo (l := l) (ks := ks) h0
          have h2 : (x < 0) := by omega
          simp [h2, hap]
    have := key (ds.map toI) l (.dat (tI l)) .un h
    rw [toI_map ha] at this
    simp only [g_law_are_pulls, seqM_e, setM_e, ifV_e, orT_e, notT_e, m1_e, nDR_s, nDR_0, bd_ok, isiR, Pu.isTup, truR_bool, consR_e, frz_e, hc, nilR_e, allR_bools, ha, Bool.not_true, Bool.false_eq_true, if_false, nilM_e, nxt_nx, lstOfR_tup, set_s, set_0, forM_e, bd_bd]
    show bd (itR (nDR 1) [.dat (tI l), .dat (.tuple ds), .dat (lI l), .un]) _ = _
    rw [hi, bd_ok, ← bd_bd]
    simp only [bd_bd, seqM_e, setM_e, ifV_e, orT_e, notT_e, m1_e, nDR_s, nDR_0, bd_ok, isiR, Pu.isTup, truR_bool, consR_e, frz_e, nilR_e, isP, ha, Bool.true_and] at this ⊢
    rw [← bd_bd]
    exact (congrArg (fun z => bd z endM) this).trans rfl
end K58

namespace K58
open PySem PySem.Spec PyProof.Rows L2 Pu Cd
/-! ### matrices -/
def mD (m : Mat) : D := .tuple [.tuple [.int m.a, .int m.b], .tuple [.int m.c, .int m.d]]
abbrev Sm (i : Int) : Prop := -(2 ^ 64) < i ∧ i < 2 ^ 64
theorem mul_l {i j : Int} (h : Sm i) : mulR (.int i) (.int j) = ok (.int (i * j)) := mulR_int (.inl h)
theorem mul_r {i j : Int} (h : Sm j) : mulR (.int i) (.int j) = ok (.int (i * j)) := mulR_int (.inr (.inl h))
theorem tup1 (a : D) : tupR [a] = ok (.tuple [a]) := tupR_e (show 1 ≤ 2 ^ 24 by omega)
theorem tup2 (a b : D) : tupR [a, b] = ok (.tuple [a, b]) := tupR_e (show 2 ≤ 2 ^ 24 by omega)
theorem tup3 (a b c : D) : tupR [a, b, c] = ok (.tuple [a, b, c]) := tupR_e (show 3 ≤ 2 ^ 24 by omega)
theorem ix0 (a : D) (l : List D) : ixR (.tuple (a :: l)) (.int 0) = ok a := ixR_at (by rw [show (0 : Int) = ((0 : Nat) : Int) from rfl, Pu.atI_nat (by simp)]; rfl)
theorem ix1 (a b : D) (l : List D) : ixR (.tuple (a :: b :: l)) (.int 1) = ok b := ixR_at (by rw [show (1 : Int) = ((1 : Nat) : Int) from rfl, Pu.atI_nat (by simp)]; rfl)
structure SmM (m : Mat) : Prop where
  a : Sm m.a
  b : Sm m.b
  c : Sm m.c
  d : Sm m.d
theorem smT {t : Int} (h : -8 ≤ t ∧ t ≤ 8) : SmM (T t) := by
  have : t = -8 ∨ t = -7 ∨ t = -6 ∨ t = -5 ∨ t = -4 ∨ t = -3 ∨ t = -2 ∨ t = -1 ∨ t = 0 ∨ t = 1 ∨ t = 2 ∨ t = 3 ∨ t = 4 ∨ t = 5 ∨ t = 6 ∨ t = 7 ∨ t = 8 := by omega
  rcases this with rfl | rfl | rfl | rfl | rfl | rfl | rfl | rfl | rfl | rfl | rfl | rfl | rfl | rfl | rfl | rfl | rfl <;> exact ⟨by decide, by decide, by decide, by decide⟩
theorem q_turn_matrix {t : Int} (h : -8 ≤ t ∧ t ≤ 8) : m_turn_matrix [.int t] = ok (mD (T t)) := by
  show bd (g_turn_matrix [.dat (.int t), .un]) endM = _
  have h1 : mulR (.int 4) (.int (t.natAbs : Int)) = ok (.int (4 * (t.natAbs : Int))) := mul_l ⟨by omega, by omega⟩
  have h2 : mulR (.int 8) (.int (t.natAbs : Int)) = ok (.int (8 * (t.natAbs : Int))) := mul_l ⟨by omega, by omega⟩
  have h3 : mulR (.int (-8)) (.int (t.natAbs : Int)) = ok (.int (-8 * (t.natAbs : Int))) := mul_l ⟨by omega, by omega⟩
  have h4 : ∀ z, mulR (.int z) (.int (t.natAbs : Int)) = ok (.int (z * (t.natAbs : Int))) := fun z => mul_r ⟨by omega, by omega⟩
  by_cases hp : 0 < t
  · have e : (t.natAbs : Int) = t := by omega
    rw [e] at h1 h2 h3 h4
    simp [g_turn_matrix, hp, e, h1, h2, h3, h4, tup2]
    simp [T, hp, mD]
  · have e : (t.natAbs : Int) = -t := by omega
    rw [e] at h1 h2 h3 h4
    simp only [Int.mul_neg] at h1 h2 h3 h4
    simp [g_turn_matrix, hp, e, h1, h2, h3, h4, tup2]
    have e1 : -(-(8 * t) * t) = 8 * t * t := by grind
    have e2 : 4 * -t = -(4 * t) := by omega
    simp [T, hp, mD, Int.sub_eq_add_neg, e1, e2]
theorem q_times {m n : Mat} (h : SmM n) : m_times_matrix [mD m, mD n] = ok (mD (m.mul n)) := by
  show bd (g_times_matrix [.dat (mD m), .dat (mD n), .un, .un, .un]) endM = _
  have ha := @mul_r
  have hin : ∀ (x y : Int) (c u : Sl), lcM [4] (itR (nDR 2)) (gSet 4) yesT (m2 (m2 (m2 (nDR 3) (kR (.int 0)) ixR) (m2 (nDR 4) (kR (.int 0)) ixR) mulR) (m2 (m2 (nDR 3) (kR (.int 1)) ixR) (m2 (nDR 4) (kR (.int 1)) ixR) mulR) addR) [.dat (mD m), c, .dat (.tuple [.tuple [.int n.a, .int n.c], .tuple [.int n.b, .int n.d]]), .dat (.tuple [.int x, .int y]), u] = ok [.int (x * n.a + y * n.c), .int (x * n.b + y * n.d)] := by
    intro x y c u
    have hi : itR (nDR 2) [.dat (mD m), c, .dat (.tuple [.tuple [.int n.a, .int n.c], .tuple [.int n.b, .int n.d]]), .dat (.tuple [.int x, .int y]), u] = ok [.tuple [.int n.a, .int n.c], .tuple [.int n.b, .int n.d]] := itR_tuple rfl
    rw [lcM_e, hi]
    simp [lcF, wipeS, ix0, ix1, mul_r h.a, mul_r h.b, mul_r h.c, mul_r h.d]
  have hi : ∀ c, itR (nDR 0) [.dat (mD m), c, .dat (.tuple [.tuple [.int n.a, .int n.c], .tuple [.int n.b, .int n.d]]), .un, .un] = ok [.tuple [.int m.a, .int m.b], .tuple [.int m.c, .int m.d]] := fun c => itR_tuple rfl
  have hout : lcM [3] (itR (nDR 0)) (gSet 3) yesT (m1 (consR (frz (lcM [4] (itR (nDR 2)) (gSet 4) yesT (m2 (m2 (m2 (nDR 3) (kR (.int 0)) ixR) (m2 (nDR 4) (kR (.int 0)) ixR) mulR) (m2 (m2 (nDR 3) (kR (.int 1)) ixR) (m2 (nDR 4) (kR (.int 1)) ixR) mulR) addR))) nilR) tupOfR) [.dat (mD m), .dat (mD n), .dat (.tuple [.tuple [.int n.a, .int n.c], .tuple [.int n.b, .int n.d]]), .un, .un] = ok [.tuple [.int (m.a * n.a + m.b * n.c), .int (m.a * n.b + m.b * n.d)], .tuple [.int (m.c * n.a + m.d * n.c), .int (m.c * n.b + m.d * n.d)]] := by
    rw [lcM_e, hi]
    simp [lcF, wipeS, hin, tupOfR]
  simp only [g_times_matrix, seqM_e, setM_e, m1_e, m2_e, consR_e, nDR_s, nDR_0, kR_e, nilR_e, bd_ok]
  simp [mD, ix0, ix1, tup2]
  have hout' := hout
  simp only [mD] at hout'
  rw [hout']
  simp [tupOfR, Mat.mul]
theorem q_matrix (l : List Int) (h : ∀ t ∈ l, -8 ≤ t ∧ t ≤ 8) : m_matrix_of [tI l] = ok (mD (MM l)) := by
  show bd (g_matrix_of [.dat (tI l), .un, .un]) endM = _
  let st : Mat × Sl → List Sl := fun b => [.dat (tI l), .dat (mD b.1), b.2]
  have key := forF_inv (f := PyData.int) (i := 2) (tb := (setM 1 (m1 (consR (nDR 1) (consR (m1 (consR (nDR 2) nilR) (callR 1 m_turn_matrix)) nilR)) (callR 2 m_times_matrix)))) st (fun b t => (b.1.mul (T t), .dat (.int t))) (fun b r => ∀ t ∈ r, -8 ≤ t ∧ t ≤ 8)
    (fun b t r j => ⟨by simp [st, q_turn_matrix (j t List.mem_cons_self), q_times (smT (j t List.mem_cons_self))], fun t ht => j t (List.mem_cons_of_mem _ ht)⟩) l (Mat.one, .un) h
  have hf : ∀ (r : List Int) (b : Mat × Sl), (r.foldl (fun (b : Mat × Sl) t => (b.1.mul (T t), Sl.dat (.int t))) b).1 = r.foldl (fun m t => m.mul (T t)) b.1 := by
    intro r
    induction r with
    | nil => simp
    | cons x r ih => intro b; rw [List.foldl_cons, ih]; rfl
  have hi : itR (nDR 0) [.dat (tI l), .dat (mD Mat.one), .un] = ok (l.map .int) := itR_tup rfl
  simp only [g_matrix_of, seqM_e, setM_e, m1_e, consR_e, nilR_e, kR_e, bd_ok, tup2, set_s, set_0, nxt_nx, forM_e]
  show bd (bd (bd (itR (nDR 0) [.dat (tI l), .dat (mD Mat.one), .un]) _) _) _ = _
  rw [hi, bd_ok]
  show bd (bd (forF _ _ _ (st (Mat.one, .un))) _) _ = _
  rw [key]
  simp [st, hf, MM]
theorem q_law_times {m n : Mat} (h : SmM n) : m_law_times [mD m, mD n] = ok (mD (m.mul n)) := by
  show bd (g_law_times [.dat (mD m), .dat (mD n)]) endM = _
  simp [g_law_times, mD, ix0, ix1, tup2, mul_r h.a, mul_r h.b, mul_r h.c, mul_r h.d, Mat.mul]
end K58

namespace K58
open PySem PySem.Spec PyProof.Rows L2 Pu Cd
def mA (t : Int) : Mat := ⟨1, 2 * (t.natAbs : Int), 0, 1⟩
def mB (t : Int) : Mat := ⟨1, 0, if 0 < t then 2 else -2, 1⟩
def mC (t : Int) : Mat := ⟨1, -2 * (t.natAbs : Int), 0, 1⟩
theorem mABC (m : Mat) (t : Int) : ((m.mul (mA t)).mul (mB t)).mul (mC t) = m.mul (T t) := by
  have e0 : (mA t).mul ((mB t).mul (mC t)) = T t := by
    by_cases hp : 0 < t
    · have e : (t.natAbs : Int) = t := by omega
      simp only [mA, mB, mC, T, if_pos hp, Mat.mul, e, Mat.mk.injEq]
      clear e
      refine ⟨?_, ?_, ?_, ?_⟩ <;> grind
    · have e : (t.natAbs : Int) = -t := by omega
      simp only [mA, mB, mC, T, if_neg hp, Mat.mul, e, Mat.mk.injEq]
      clear e
      refine ⟨?_, ?_, ?_, ?_⟩ <;> grind
  rw [Mat.mul_assoc, Mat.mul_assoc, e0]
theorem o1 : Sm 1 := by decide
theorem o0 : Sm 0 := by decide
theorem sm2 {t : Int} (h : -8 ≤ t ∧ t ≤ 8) : Sm (2 * (t.natAbs : Int)) := by constructor <;> omega
theorem sm3 {t : Int} (h : -8 ≤ t ∧ t ≤ 8) : Sm (-2 * (t.natAbs : Int)) := by constructor <;> omega
theorem sm4 {t : Int} : Sm (if 0 < t then 2 else -2) := by constructor <;> split <;> omega
theorem smA {t : Int} (h : -8 ≤ t ∧ t ≤ 8) : SmM (mA t) := ⟨o1, sm2 h, o0, o1⟩
theorem smB {t : Int} : SmM (mB t) := ⟨o1, o0, sm4, o1⟩
theorem smC {t : Int} (h : -8 ≤ t ∧ t ≤ 8) : SmM (mC t) := ⟨o1, sm3 h, o0, o1⟩
def parts_ : List Sl → R D := (m1 (consR (m1 (consR (m1 (consR (kR (.int 1)) (consR (m2 (kR (.int 2)) (nDR 3) mulR) nilR)) tupR) (consR (m1 (consR (kR (.int 0)) (consR (kR (.int 1)) nilR)) tupR) nilR)) tupR) (consR (m1 (consR (m1 (consR (kR (.int 1)) (consR (kR (.int 0)) nilR)) tupR) (consR (m1 (consR (ifV (m1 (m2 (nDR 2) (kR (.int 0)) gtR) asB) (kR (.int 2)) (m1 (kR (.int 2)) negR)) (consR (kR (.int 1)) nilR)) tupR) nilR)) tupR) (consR (m1 (consR (m1 (consR (kR (.int 1)) (consR (m2 (m1 (kR (.int 2)) negR) (nDR 3) mulR) nilR)) tupR) (consR (m1 (consR (kR (.int 0)) (consR (kR (.int 1)) nilR)) tupR) nilR)) tupR) nilR))) tupR)
theorem q_parts {t : Int} (ht : -8 ≤ t ∧ t ≤ 8) (a b c : Sl) : parts_ [a, b, .dat (.int t), .dat (.int (t.natAbs : Int)), c] = ok (.tuple [mD (mA t), mD (mB t), mD (mC t)]) := by
  have h1 : mulR (.int 2) (.int (t.natAbs : Int)) = ok (.int (2 * (t.natAbs : Int))) := mul_l (by decide)
  have h3 : mulR (.int (-2)) (.int (t.natAbs : Int)) = ok (.int (-2 * (t.natAbs : Int))) := mul_l (by decide)
  unfold parts_
  by_cases hp : 0 < t <;> simp [hp, h1, h3, tup2, tup3, mD, mA, mB, mC]
theorem forF_cons_ok {i : Nat} {tb : List Sl → R Out} {d : D} {ds : List D} {ρ ρ1 : List Sl} (h : tb (ρ.set i (.dat d)) = ok (.nx ρ1)) : forF (gSet i) tb (d :: ds) ρ = forF (gSet i) tb ds ρ1 := by rw [forF, gSet_e, bd_ok, h, bd_ok, lpO_nx]
theorem forF_nil {g : D → List Sl → R (List Sl)} {tb : List Sl → R Out} {ρ : List Sl} : forF g tb [] ρ = ok (.nx ρ) := by rw [forF]
theorem lm_body {t : Int} (ht : -8 ≤ t ∧ t ≤ 8) (d : D) (m : Mat) (u v : Sl) : (seqM (setM 3 (m1 (consR (nDR 2) nilR) absR)) (forM (itR parts_) (gSet 4) (setM 1 (m1 (consR (nDR 1) (consR (nDR 4) nilR)) (callR 2 m_law_times))))) [.dat d, .dat (mD m), .dat (.int t), u, v] = ok (.nx [.dat d, .dat (mD (m.mul (T t))), .dat (.int t), .dat (.int (t.natAbs : Int)), .dat (mD (mC t))]) := by
  have hi := itR_tuple (q_parts ht (.dat d) (.dat (mD m)) v)
  have h1 : setM 3 (m1 (consR (nDR 2) nilR) absR) [.dat d, .dat (mD m), .dat (.int t), u, v] = ok (.nx [.dat d, .dat (mD m), .dat (.int t), .dat (.int (t.natAbs : Int)), v]) := by simp
  have h2 : ∀ (m n : Mat) (w : Sl), SmM n → setM 1 (m1 (consR (nDR 1) (consR (nDR 4) nilR)) (callR 2 m_law_times)) [.dat d, .dat (mD m), .dat (.int t), .dat (.int (t.natAbs : Int)), .dat (mD n)] = ok (.nx [.dat d, .dat (mD (m.mul n)), .dat (.int t), .dat (.int (t.natAbs : Int)), .dat (mD n)]) := by
    intro m n w hn
    simp [q_law_times hn]
  rw [seqM_e, h1, bd_ok, nxt_nx, forM_e, hi, bd_ok, ← mABC]
  have s1 := fun m n ds w hn => forF_cons_ok (i := 4) (tb := setM 1 (m1 (consR (nDR 1) (consR (nDR 4) nilR)) (callR 2 m_law_times))) (d := mD n) (ds := ds) (ρ := [.dat d, .dat (mD m), .dat (.int t), .dat (.int (t.natAbs : Int)), w]) (h2 m n .un hn)
  rw [s1 _ _ _ _ (smA ht), s1 _ _ _ _ smB, s1 _ _ _ _ (smC ht), forF_nil]
theorem q_law_matrix (l : List Int) (h : ∀ t ∈ l, -8 ≤ t ∧ t ≤ 8) : m_law_matrix [tI l] = ok (mD (MM l)) := by
  show bd (g_law_matrix [.dat (tI l), .un, .un, .un, .un]) endM = _
  let st : Mat × Sl × Sl × Sl → List Sl := fun b => [.dat (tI l), .dat (mD b.1), b.2.1, b.2.2.1, b.2.2.2]
  have key := forF_inv (f := PyData.int) (i := 2) (tb := (seqM (setM 3 (m1 (consR (nDR 2) nilR) absR)) (forM (itR parts_) (gSet 4) (setM 1 (m1 (consR (nDR 1) (consR (nDR 4) nilR)) (callR 2 m_law_times)))))) st (fun b t => (b.1.mul (T t), .dat (.int t), .dat (.int (t.natAbs : Int)), .dat (mD (mC t)))) (fun b r => ∀ t ∈ r, -8 ≤ t ∧ t ≤ 8)
    (fun b t r j => ⟨lm_body (j t List.mem_cons_self) _ _ _ _, fun t ht => j t (List.mem_cons_of_mem _ ht)⟩) l (Mat.one, .un, .un, .un) h
  have hf : ∀ (r : List Int) (b : Mat × Sl × Sl × Sl), (r.foldl (fun (b : Mat × Sl × Sl × Sl) t => (b.1.mul (T t), Sl.dat (.int t), Sl.dat (.int (t.natAbs : Int)), Sl.dat (mD (mC t)))) b).1 = r.foldl (fun m t => m.mul (T t)) b.1 := by
    intro r
    induction r with
    | nil => simp
    | cons x r ih => intro b; rw [List.foldl_cons, ih]; rfl
  have hi : itR (nDR 0) [.dat (tI l), .dat (mD Mat.one), .un, .un, .un] = ok (l.map .int) := itR_tup rfl
  have h0 : setM 1 (m1 (consR (m1 (consR (kR (.int 1)) (consR (kR (.int 0)) nilR)) tupR) (consR (m1 (consR (kR (.int 0)) (consR (kR (.int 1)) nilR)) tupR) nilR)) tupR) [.dat (tI l), .un, .un, .un, .un] = ok (.nx [.dat (tI l), .dat (mD Mat.one), .un, .un, .un]) := by
    simp [tup2, mD, Mat.one]
  rw [show st (Mat.one, .un, .un, .un) = [.dat (tI l), .dat (mD Mat.one), .un, .un, .un] from rfl] at key
  rw [g_law_matrix, seqM_e, h0, bd_ok, nxt_nx, seqM_e, forM_e, hi, bd_ok]
  unfold parts_ at key
  rw [key]
  simp [st, hf, MM]
end K58

namespace K58
open PySem PySem.Spec PyProof.Rows L2 Pu Cd
/-! ### _law_same of one thing with itself -/
def Pl : Nat → D → Prop
  | _, .none => True
  | _, .bool _ => True
  | _, .int _ => True
  | n + 1, .tuple ds => ds.length < sizeLine ∧ ∀ x ∈ ds, Pl n x
  | _, _ => False
theorem eqR_bool (b c : Bool) : eqR (.bool b) (.bool c) = ok (.bool (b == c)) := by
  rw [eqR, bd_req (Nat.le_trans (Nat.min_le_left _ _) (by simp [PyData.depth]))]; congr 2
theorem q_same : ∀ (n : Nat) (d : D), Pl n d → m_law_same (n + 1) [d, d] = ok (.bool true) := by
  intro n
  induction n with
  | zero =>
    intro d h
    show bd (g_law_same (m_law_same 0) [.dat d, .dat d, .un]) endM = _
    cases d with
    | none => simp [g_law_same, isiR, Pu.isTup, Pu.isLst, Pu.isBoo, Pu.isInt, Pu.isStr, isR, isV, isNon]
    | bool b => simp [g_law_same, isiR, Pu.isTup, Pu.isLst, Pu.isBoo, Pu.isInt, Pu.isStr, eqR_bool]
    | int i => simp [g_law_same, isiR, Pu.isTup, Pu.isLst, Pu.isBoo, Pu.isInt, Pu.isStr]
    | str s => exact h.elim
    | list xs => exact h.elim
    | dict xs => exact h.elim
    | tuple ds => exact h.elim
  | succ n ih =>
    intro d h
    show bd (g_law_same (m_law_same (n + 1)) [.dat d, .dat d, .un]) endM = _
    cases d with
    | none => simp [g_law_same, isiR, Pu.isTup, Pu.isLst, Pu.isBoo, Pu.isInt, Pu.isStr, isR, isV, isNon]
    | bool b => simp [g_law_same, isiR, Pu.isTup, Pu.isLst, Pu.isBoo, Pu.isInt, Pu.isStr, eqR_bool]
    | int i => simp [g_law_same, isiR, Pu.isTup, Pu.isLst, Pu.isBoo, Pu.isInt, Pu.isStr]
    | str s => exact h.elim
    | list xs => exact h.elim
    | dict xs => exact h.elim
    | tuple ds =>
      obtain ⟨hl, hx⟩ := h
      have hc : lcM [2] (m1 (consR (m1 (consR (nDR 0) nilR) lenR) nilR) range1R) (gSet 2) yesT (m1 (consR (m2 (nDR 0) (nDR 2) ixR) (consR (m2 (nDR 1) (nDR 2) ixR) nilR)) (callR 2 (m_law_same (n + 1)))) [.dat (.tuple ds), .dat (.tuple ds), .un] = ok ((List.range ds.length).map fun _ => .bool true) := by
        refine lcM_map (f := nI) ?_ fun k hk => ?_
        · have := range1_e (n := (ds.length : Int)) (by omega) (by omega)
          simp at this
          simp [this]
        · have hk' : k < ds.length := by simpa using hk
          have h1 : ixR (.tuple ds) (nI k) = ok ds[k] := ixR_at (Pu.atI_nat hk')
          simp [wipeS, h1, ih _ (hx _ (List.getElem_mem hk'))]
      have ha : allR [.list ((List.range ds.length).map fun _ => .bool true)] = ok (.bool ((List.range ds.length).all fun _ => true)) := allR_bools (p := fun _ => true)
      have ha2 : ((List.range ds.length).all fun _ => true) = true := by simp
      rw [ha2] at ha
      simp only [g_law_same, seqM_e, ifV_e, orT_e, andT_e, retM_e, andV_e, m1_e, m2_e, consR_e, nilR_e, nDR_s, nDR_0, bd_ok, isiR, Pu.isTup, truR_bool, if_true, lenR_tuple, eqR_int, decide_true, frz_e, hc, ha, nxt_rt, endM_rt]
/-! ### draws -/
def dr (n : Int) : R D := fun post => ∀ d : Int, 0 ≤ d → d < n → post (.int d)
theorem bd_dr {α : Type} {n : Int} {k : D → R α} {post : α → Prop} : bd (dr n) k post ↔ ∀ d : Int, 0 ≤ d → d < n → k (.int d) post := Iff.rfl
theorem ok_ap {α : Type} (a : α) (p : α → Prop) : ok a p = p a := (rfl)
theorem getX_0 (j : Nat) (ρ : List Sl) : getX (.box j :: ρ) 0 j = ok () := bd_req rfl ok
theorem getX_s (i j : Nat) (s : Sl) (ρ : List Sl) : getX (s :: ρ) (i + 1) j = getX ρ i j := rfl
theorem draw_e {ρ : List Sl} {i : Nat} {g : List Sl → R (List D)} {n : Int} (hg : g ρ = ok [.int n]) (h : 0 < n) (h' : n < 1073741824) (hx : getX ρ i 2 = ok ()) : callX i 2 1 g m_law_draw ρ = dr n := by
  show bd (getX ρ i 2) (fun _ => bd (g ρ) (callR 1 m_law_draw)) = _
  rw [hx, bd_ok, hg, bd_ok, callR_1]
  show bd (req _) _ = _
  rw [bd_req ⟨h, h'⟩]; rfl
theorem callX_e {ρ : List Sl} {i j n : Nat} {g : List Sl → R (List D)} {m : List D → R D} {ds : List D} (hg : g ρ = ok ds) (hx : getX ρ i j = ok ()) (hn : ds.length = n) : callX i j n g m ρ = m ds := by
  show bd (getX ρ i j) (fun _ => bd (g ρ) (callR n m)) = _
  rw [hx, bd_ok, hg, bd_ok]
  show bd (req _) _ = _
  rw [bd_req hn]
/-- loops whose steps may go several ways -/
theorem forF_dem {α : Type} {i : Nat} {tb : List Sl → R Out} {f : α → D} (J : List α → List Sl → Prop) (h : ∀ x r ρ (post : Out → Prop), J (x :: r) ρ → (∀ ρ', J r ρ' → post (.nx ρ')) → tb (ρ.set i (.dat (f x))) post) : ∀ (l : List α) (ρ : List Sl) (post : Out → Prop), J l ρ → (∀ ρ', J [] ρ' → post (.nx ρ')) → forF (gSet i) tb (l.map f) ρ post
  | [], ρ, post, j, hp => hp ρ j
  | x :: l, ρ, post, j, hp => by
    rw [List.map_cons, forF, gSet_e, bd_ok]
    exact h x l ρ _ j fun ρ' j' => forF_dem J h l ρ' post j' hp
theorem lcM_dem {ρ : List Sl} {vs : List Nat} {i : Nat} {fi : List Sl → R (List D)} {te : List Sl → R D} {ds : List D} {P : D → Prop} (hi : fi ρ = ok ds)
    (he : ∀ d ∈ ds, ∀ post : D → Prop, (∀ y, P y → post y) → te ((wipeS ρ vs).set i (.dat d)) post) (post : List D → Prop) (hp : ∀ ys, ys.length = ds.length → (∀ y ∈ ys, P y) → post ys) : lcM vs fi (gSet i) yesT te ρ post := by
  rw [lcM_e, hi, bd_ok]
  generalize wipeS ρ vs = σ at he
  clear hi
  induction ds generalizing post with
  | nil => exact hp [] rfl (by simp)
  | cons d ds ih =>
    rw [lcF, gSet_e, bd_ok, yesT_e, bd_ok, if_pos rfl]
    refine he d List.mem_cons_self _ fun y hy => ?_
    refine ih _ (fun ys hl hys => ?_) (fun d hd => he d (List.mem_cons_of_mem _ hd))
    refine hp (y :: ys) (by simp [hl]) fun z hz => ?_
    rcases List.mem_cons.mp hz with rfl | hz
    · exact hy
    · exact hys z hz
theorem lcM_sub {α : Type} {f : α → D} {ρ : List Sl} {vs : List Nat} {i : Nat} {fi : List Sl → R (List D)} {tt : List Sl → R Bool} {te : List Sl → R D} {l : List α} (hi : fi ρ = ok (l.map f))
    (ht : ∀ x ∈ l, ∀ post : Bool → Prop, (∀ b, post b) → tt ((wipeS ρ vs).set i (.dat (f x))) post) (he : ∀ x ∈ l, te ((wipeS ρ vs).set i (.dat (f x))) = ok (f x)) (post : List D → Prop) (hp : ∀ ns : List α, (∀ x ∈ ns, x ∈ l) → post (ns.map f)) : lcM vs fi (gSet i) tt te ρ post := by
  rw [lcM_e, hi, bd_ok]
  generalize wipeS ρ vs = σ at ht he
  clear hi
  induction l generalizing post with
  | nil => exact hp [] (by simp)
  | cons x l ih =>
    rw [List.map_cons, lcF, gSet_e, bd_ok]
    refine ht x List.mem_cons_self _ fun b => ?_
    have ih := fun post hp => ih post hp (fun y hy => ht y (List.mem_cons_of_mem _ hy)) (fun y hy => he y (List.mem_cons_of_mem _ hy))
    cases b with
    | false => exact ih post fun ns hns => hp ns fun y hy => List.mem_cons_of_mem _ (hns y hy)
    | true =>
      show bd (te (σ.set i (.dat (f x)))) _ post
      rw [he x List.mem_cons_self, bd_ok]
      refine ih _ fun ns hns => ?_
      exact hp (x :: ns) fun y hy => by
        rcases List.mem_cons.mp hy with rfl | hy
        · exact List.mem_cons_self
        · exact List.mem_cons_of_mem _ (hns y hy)
/-! ### cords drawn -/
structure Ok (l : List Int) (n : Nat) : Prop where
  len : l.length ≤ n
  rng : ∀ t ∈ l, -8 ≤ t ∧ t ≤ 8
  nz : ∀ t ∈ l, t ≠ 0
theorem Ok.app {l k : List Int} {n m : Nat} (h : Ok l n) (h' : Ok k m) : Ok (l ++ k) (n + m) := ⟨by have := h.len; have := h'.len; simp; omega, fun t ht => by
  rcases List.mem_append.mp ht with ht | ht
  · exact h.rng t ht
  · exact h'.rng t ht, fun t ht => by
  rcases List.mem_append.mp ht with ht | ht
  · exact h.nz t ht
  · exact h'.nz t ht⟩
theorem Ok.back {l : List Int} {n : Nat} (h : Ok l n) : Ok (back l) n := ⟨by have := h.len; simpa [Cd.back] using this, fun t ht => by
  simp [Cd.back] at ht
  have := h.rng (-t) (by obtain ⟨a, h1, rfl⟩ := ht; simpa using h1)
  omega, fun t ht => by
  simp [Cd.back] at ht
  have := h.nz (-t) (by obtain ⟨a, h1, rfl⟩ := ht; simpa using h1)
  omega⟩
theorem Ok.sub {l k : List Int} {n : Nat} (h : Ok l n) (hl : k.length ≤ l.length) (hk : ∀ t ∈ k, t ∈ l) : Ok k n := ⟨Nat.le_trans hl h.len, fun t ht => h.rng t (hk t ht), fun t ht => h.nz t (hk t ht)⟩
theorem Ok.mono {l : List Int} {n m : Nat} (h : Ok l n) (hm : n ≤ m) : Ok l m := ⟨Nat.le_trans h.len hm, h.rng, h.nz⟩
theorem q_law_cord {many : Int} (hm : 0 < many ∧ many ≤ 8) (post : D → Prop) (hp : ∀ l, Ok l 22 → post (tI l)) : m_law_cord [.int many, .int 12] post := by
  show bd (g_law_cord [.box 2, .dat (.int many), .dat (.int 12), .un, .un, .un, .un, .un]) endM post
  have h0 : setO 3 (m1 nilR lstR) [.box 2, .dat (.int many), .dat (.int 12), .un, .un, .un, .un, .un] = ok (.nx [.box 2, .dat (.int many), .dat (.int 12), .own (([] : List Int).map .int), .un, .un, .un, .un]) := by
    simp [lstR_e (show ([] : List D).length ≤ sizeLine from Nat.zero_le _)]
  rw [g_law_cord, seqM_e, h0, bd_ok, nxt_nx, seqM_e, forM_e, m1_e, consR_e, draw_e (n := 12) (by simp) (by decide) (by decide) (getX_0 _ _)]
  simp only [bd_bd]
  refine bd_dr.mpr fun d hd1 hd2 => ?_
  have hr : range1R [.int d] = ok ((List.range d.toNat).map nI) := range1_e (show d ≤ (2 ^ 24 : Nat) by omega) (by omega)
  simp only [nilR_e, bd_ok, hr]
  refine forF_dem (fun r ρ => ∃ l u4 u5, ρ = [.box 2, .dat (.int many), .dat (.int 12), .own ((l : List Int).map .int), u4, u5, .un, .un] ∧ Ok l 11 ∧ l.length + r.length ≤ 11) (fun x r ρ post j hp => ?_) _ _ _ ⟨[], .un, .un, rfl, ⟨by simp, by simp, by simp⟩, by simp; omega⟩ fun ρ j => ?_
  · obtain ⟨l, u4, u5, rfl, hl, hr⟩ := j
    simp only [set_s, set_0]
    rw [seqM_e, setM_e, m2_e, kR_e, bd_ok, draw_e (n := many) (by simp) (by omega) (by omega) (getX_0 _ _)]
    simp only [bd_bd]
    refine bd_dr.mpr fun k hk1 hk2 => ?_
    simp only [addR_int, bd_ok, set_s, set_0, nxt_nx]
    rw [mutM_e]
    simp only [getO_s, getO_0, bd_ok]
    rw [consR_e, ifV_e, m1_e, m2_e, draw_e (n := 2) (by simp) (by decide) (by decide) (getX_0 _ _)]
    simp only [bd_bd]
    refine bd_dr.mpr fun s hs1 hs2 => ?_
    have happ : ∀ z : Int, appR (l.map PyData.int) [.int z] = ok ((l ++ [z]).map .int) := fun z => by
      show bd (req _) _ = _
      rw [bd_req (by have := hl.len; simp; exact (show _ < 2 ^ 24 by omega))]; simp
    have hfin : ∀ z : Int, -8 ≤ z → z ≤ 8 → z ≠ 0 → post (.nx [.box 2, .dat (.int many), .dat (.int 12), .own ((l ++ [z]).map .int), .dat (nI x), .dat (.int (1 + k)), .un, .un]) := fun z h1 h2 h3 => by
      simp at hr
      exact hp _ ⟨_, _, _, rfl, ⟨by simp; omega, fun t ht => by
        rcases List.mem_append.mp ht with ht | ht
        · exact hl.rng t ht
        · simp at ht; omega, fun t ht => by
        rcases List.mem_append.mp ht with ht | ht
        · exact hl.nz t ht
        · simp at ht; omega⟩, by simp; omega⟩
    by_cases hs : s = 0
    · subst hs
      simp [nilR_e, happ, ok_ap]
      simpa using hfin (1 + k) (by omega) (by omega) (by omega)
    · simp [hs, nilR_e, happ, ok_ap]
      simpa using hfin (-(1 + k)) (by omega) (by omega) (by omega)
  · obtain ⟨l, u4, u5, rfl, hl, hr⟩ := j
    have hfin : ∀ (k : List Int) (u6 u7 : Sl), Ok k 22 → bd (retM (m1 (consR (nBR 3) nilR) tupOfR) [.box 2, .dat (.int many), .dat (.int 12), .own (k.map .int), u4, u5, u6, u7]) endM post := fun k u6 u7 hk => by
      simp
      exact hp k hk
    rw [nxt_nx, seqM_e, ifV_e, m1_e, m2_e, draw_e (n := 3) (by simp) (by decide) (by decide) (getX_0 _ _)]
    simp only [bd_bd]
    refine bd_dr.mpr fun s hs1 hs2 => ?_
    by_cases hs : s = 0
    · subst hs
      simp only [kR_e, bd_ok, eqR_int, decide_true, asB_bool, if_true]
      rw [seqM_e, setM_e, draw_e (n := (l.length : Int) + 1) (by simp) (by omega) (by have := hl.len; omega) (getX_0 _ _)]
      simp only [bd_bd]
      refine bd_dr.mpr fun at_ h1 h2 => ?_
      obtain ⟨k, rfl⟩ := Int.eq_ofNat_of_zero_le h1
      have hsl : ∀ lo hi, slR (.list (l.map PyData.int)) lo hi = ok (lI (cutG l lo hi)) := fun lo hi => slR_lst (f := PyData.int) l lo hi
      have hrev : revR (lI (l.take k)) = ok (.list ((l.take k).reverse.map .int)) := by simp [li, revR]
      have hlc : lcM [7] (itR (m1 (m3 (nBR 3) noR (m1 (nDR 6) asI) slR) revR)) (gSet 7) yesT (m1 (nDR 7) negR) [.box 2, .dat (.int many), .dat (.int 12), .own (l.map .int), u4, u5, .dat (.int k), .un] = ok ((back (l.take k)).map .int) := by
        have := lcM_map (ρ := [.box 2, .dat (.int many), .dat (.int 12), .own (l.map .int), u4, u5, .dat (.int k), .un]) (vs := [7]) (i := 7) (f := PyData.int) (l := (l.take k).reverse) (te := m1 (nDR 7) negR) (h := fun x => .int (-x)) (itR_list (g := m1 (m3 (nBR 3) noR (m1 (nDR 6) asI) slR) revR) (by simp [hsl, cut_lo, hrev])) (fun x _ => by simp [wipeS])
        rw [this]; simp [Cd.back, Function.comp_def]
      have hlen := hl.len
      have hadd : addR (lI (l.take k)) (.list ((back (l.take k)).map .int)) = ok (lI (l.take k ++ back (l.take k))) := addR_lst (f := PyData.int) (by simp [Cd.back]; exact (show _ ≤ 2 ^ 24 by omega))
      have hcat : catF (lI (l.take k ++ back (l.take k))) (lI (l.drop k)) = ok ((l.take k ++ back (l.take k) ++ l.drop k).map .int) := by
        show bd (req _) _ = _
        rw [bd_req (by simp [Cd.back]; exact (show _ ≤ 2 ^ 24 by omega))]; simp
      simp only [set_s, set_0, bd_ok, nxt_nx]
      rw [setO_e, m2_e, m2_e, m3_e, m3_e, frz_e, hlc]
      simp [hsl, cut_lo, cut_hi, hadd, hcat]
      have := hfin (l.take k ++ back (l.take k) ++ l.drop k) (.dat (.int k)) .un (by
        have h1 : Ok (l.take k) 11 := hl.sub (by simp; omega) fun t ht => List.mem_of_mem_take ht
        refine ⟨by simp [Cd.back]; omega, fun t ht => ?_, fun t ht => ?_⟩
        · rcases List.mem_append.mp ht with ht | ht
          · rcases List.mem_append.mp ht with ht | ht
            · exact h1.rng t ht
            · exact h1.back.rng t ht
          · exact hl.rng t (List.mem_of_mem_drop ht)
        · rcases List.mem_append.mp ht with ht | ht
          · rcases List.mem_append.mp ht with ht | ht
            · exact h1.nz t ht
            · exact h1.back.nz t ht
          · exact hl.nz t (List.mem_of_mem_drop ht))
      simpa using this
    · simp only [kR_e, bd_ok, eqR_int, decide_false, hs, asB_bool, if_false, Bool.false_eq_true, nilM_e, nxt_nx]
      exact hfin l _ _ (hl.mono (by omega))
end K58

namespace K58
open PySem PySem.Spec PyProof.Rows L2 Pu Cd
/-! ### _law_bent -/
theorem bd_ix {α : Type} {l : List D} {d : Int} {k : D → R α} {post : α → Prop} (h0 : 0 ≤ d) (h : d < l.length) (hp : ∀ x, k x post) : bd (ixR (.list l) (.int d)) k post := by
  obtain ⟨n, rfl⟩ := Int.eq_ofNat_of_zero_le h0
  rw [ixR_atl (Pu.atI_nat (by omega)), bd_ok]
  exact hp _
theorem ix_tot {l : List D} {d : Int} {post : D → Prop} (h0 : 0 ≤ d) (h : d < l.length) (hp : ∀ x, post x) : ixR (.list l) (.int d) post := bd_ix (k := ok) h0 h hp
theorem lst8 (a b c d e f g h : D) : lstR [a, b, c, d, e, f, g, h] = ok [a, b, c, d, e, f, g, h] := lstR_e (show 8 ≤ 2 ^ 24 by omega)
theorem addR_tuple {x y : List D} (h : x.length + y.length ≤ 2 ^ 24) : addR (.tuple x) (.tuple y) = ok (.tuple (x ++ y)) := bd_req h _
theorem str_ok {i : Int} (h : i.natAbs < 2 ^ 30) : strR [.int i] = ok (.str (toString i)) := by
  refine bd_req ?_ _
  have : i.natAbs.log2 ≤ 30 := by
    by_cases h0 : i.natAbs = 0
    · rw [h0]; decide
    · exact Nat.le_of_lt ((Nat.log2_lt h0).mpr h)
  omega
theorem q_bent_int (n : Nat) (i : Int) (hi : i.natAbs < 2 ^ 30) (post : D → Prop) (hp : ∀ d, post d) : m_law_bent (n + 1) [.int i] post := by
  show bd (g_law_bent (m_law_bent n) [.box 2, .dat (.int i), .un, .un]) endM post
  have hs := str_ok hi
  unfold g_law_bent
  rw [seqM_e, ifV_e, andT_e]
  simp only [m1_e, nDR_s, nDR_0, isiR, Pu.isTup, truR_bool, bd_ok, Bool.false_eq_true, if_false, nilM_e, nxt_nx]
  rw [seqM_e, setM_e, draw_e (n := 8) (by simp) (by decide) (by decide) (getX_0 _ _)]
  simp only [bd_bd]
  refine bd_dr.mpr fun d h1 h2 => ?_
  simp [isiR, Pu.isTup, Pu.isInt, Pu.isBoo, hs, lst8, tup1]
  refine ix_tot h1 ?_ hp
  simp; omega
theorem q_bent_tup (n : Nat) (l : List Int) (hl : l.length ≤ 1000) (hi : ∀ i ∈ l, i.natAbs < 2 ^ 30) (post : D → Prop) (hp : ∀ d, post d) : m_law_bent (n + 2) [tI l] post := by
  show bd (g_law_bent (m_law_bent (n + 1)) [.box 2, .dat (tI l), .un, .un]) endM post
  have hB : ∀ u, bd (seqM (setM 2 (callX 0 2 1 (consR (kR (.int 8)) nilR) m_law_draw))
 (seqM (ifV (m1 (m1 (nDR 1) (isiR isTup)) truR) (retM (m2 (frz (m1 (consR (m2 (nDR 1) (m3 (nDR 1) noR (m1 (kR (.int 1)) asI) slR) addR) (consR (m3 (nDR 1) (m1 (kR (.int 1)) asI) noR slR) (consR (m1 (nDR 1) revR) (consR (m2 (nDR 1) (m1 (consR (kR (.int 0)) nilR) tupR) addR) (consR (m1 (consR (nDR 1) nilR) tupR) (consR (m3 (nDR 1) noR (m1 (m1 (kR (.int 1)) negR) asI) slR) (consR (kR .none) (consR (m2 (nDR 1) (m1 (consR (m1 (consR (kR (.int 0)) (consR (kR (.int 1)) nilR)) tupR) nilR) tupR) addR) nilR)))))))) lstR)) (nDR 2) ixR)) nilM)
 u) [.box 2, .dat (tI l), .un, .un]) endM post := by
    intro u
    rw [seqM_e, setM_e, draw_e (n := 8) (by simp) (by decide) (by decide) (getX_0 _ _)]
    simp only [bd_bd]
    refine bd_dr.mpr fun d h1 h2 => ?_
    have e1 : addR (tI l) (tI (l.take 1)) = ok (tI (l ++ l.take 1)) := addR_tup (by simp; exact (show _ ≤ 2 ^ 24 by omega))
    have e2 : addR (tI l) (.tuple [.int 0]) = ok (.tuple (l.map .int ++ [.int 0])) := addR_tuple (by simp; omega)
    have e3 : addR (tI l) (.tuple [.tuple [.int 0, .int 1]]) = ok (.tuple (l.map .int ++ [.tuple [.int 0, .int 1]])) := addR_tuple (by simp; omega)
    have c1 : cutG l none (some 1) = l.take 1 := cut_lo (k := 1)
    have ht : isTup (tI l) = true := rfl
    simp [isiR, ht, c1, e1, e2, e3, lst8, tup1, tup2]
    refine ix_tot h1 ?_ hp
    simp; omega
  unfold g_law_bent
  have ht : isTup (tI l) = true := rfl
  rw [seqM_e, ifV_e, andT_e]
  simp only [m1_e, nDR_s, nDR_0, isiR, ht, truR_bool, bd_ok, if_true]
  rw [andT_e]
  by_cases h0 : 0 < l.length
  · have hg : m1 (m2 (m1 (consR (nDR 1) nilR) lenR) (kR (.int 0)) gtR) asB [.box 2, .dat (tI l), .un, .un] = ok true := by simp [h0]
    rw [hg, bd_ok, if_pos rfl, m1_e, m2_e, draw_e (n := 5) (by simp) (by decide) (by decide) (getX_0 _ _)]
    simp only [bd_bd]
    refine bd_dr.mpr fun d h1 h2 => ?_
    by_cases hd : 0 < d
    · simp only [kR_e, bd_ok, gtR_int, decide_true, hd, asB_bool, if_true]
      rw [seqM_e, setM_e, draw_e (n := (l.length : Int)) (by simp) (by omega) (by omega) (getX_0 _ _)]
      simp only [bd_bd]
      refine bd_dr.mpr fun k h3 h4 => ?_
      obtain ⟨k, rfl⟩ := Int.eq_ofNat_of_zero_le h3
      have hk : k < l.length := by omega
      simp only [bd_ok, set_s, set_0, nxt_nx]
      have hix := ixR_tup (f := PyData.int) hk
      rw [retM_e, m2_e, m2_e, m3_e]
      simp only [nDR_s, nDR_0, bd_ok, noR_e, m1_e, asI_int, slR_tup, bd_bd]
      rw [consR_e, callX_e (j := 2) (n := 1) (ds := [.int l[k]]) (by simp [hix]) (getX_0 _ _) rfl]
      simp only [bd_bd]
      refine q_bent_int n _ (hi _ (List.getElem_mem hk)) _ fun y => ?_
      have c2 : cutG l (some ((k : Int) + 1)) none = l.drop (k + 1) := cut_hi (k := k + 1)
      have e1 : addR (tI (l.take k)) (.tuple [y]) = ok (.tuple ((l.take k).map .int ++ [y])) := addR_tuple (by simp; omega)
      have e2 : addR (.tuple ((l.take k).map .int ++ [y])) (tI (l.drop (k + 1))) = ok (.tuple ((l.take k).map .int ++ [y] ++ (l.drop (k + 1)).map .int)) := addR_tuple (by simp; omega)
      simp only [nilR_e, bd_ok, tup1, cut_lo, e1, m3_e, nDR_s, nDR_0, m1_e, m2_e, kR_e, addR_int, asI_int, noR_e, slR_tup, c2, e2, nxt_rt, endM_rt]
      exact hp _
    · simp only [kR_e, bd_ok, gtR_int, decide_false, hd, asB_bool, Bool.false_eq_true, if_false, nilM_e, nxt_nx]
      exact hB _
  · have hg : m1 (m2 (m1 (consR (nDR 1) nilR) lenR) (kR (.int 0)) gtR) asB [.box 2, .dat (tI l), .un, .un] = ok false := by
      have h00 : l = [] := by
        cases l with
        | nil => rfl
        | cons a r => simp at h0
      subst h00; simp
    rw [hg]
    simp only [bd_ok, Bool.false_eq_true, if_false, nilM_e, nxt_nx]
    exact hB _
end K58

namespace K58
open PySem PySem.Spec PyProof.Rows L2 Pu
def y0 : List Sl → R Out := (ifV (m1 (m2 (m1 (consR (kR (.int 8)) (consR (kR (.int 400)) nilR)) tupR) (m1 (consR (kR (.int 8)) (consR (kR (.int 400)) nilR)) tupR) neR) asB) (retM (kR (.bool false))) nilM)
def x0 : List Sl → R Out := (setM 3 (callX 1 2 2 (consR (m2 (frz (m1 (consR (kR (.int 2)) (consR (kR (.int 3)) (consR (kR (.int 8)) nilR))) lstR)) (callX 1 2 1 (consR (kR (.int 3)) nilR) m_law_draw) ixR) (consR (kR (.int 12)) nilR)) m_law_cord))
def x1 : List Sl → R Out := (ifV (m1 (m2 (callX 1 2 1 (consR (kR (.int 3)) nilR) m_law_draw) (kR (.int 0)) eqR) asB) (setM 3 (m2 (nDR 3) (m1 (consR (frz (lcM [16] (itR (m1 (nDR 3) revR)) (gSet 16) yesT (m1 (nDR 16) negR))) nilR) tupOfR) addR)) nilM)
def x2 : List Sl → R Out := (setM 4 (m1 (consR (nDR 3) nilR) (callR 1 m_law_pulled)))
def x3 : List Sl → R Out := (ifV (orT (m1 (m2 (m1 (consR (nDR 3) nilR) (callR 1 m_is_nail_cord)) (kR (.bool true)) isNotR) asB) (notT (m1 (m1 (consR (m1 (consR (m1 (consR (nDR 3) nilR) (callR 1 m_pulled_cord)) (consR (m1 (consR (nDR 3) nilR) (callR 1 m_does_fall)) nilR)) tupR) (consR (m1 (consR (nDR 4) (consR (m2 (m1 (consR (nDR 4) nilR) lenR) (kR (.int 0)) eqR) nilR)) tupR) nilR)) (callR 2 (m_law_same 20))) truR))) (retM (kR (.bool false))) nilM)
def x4 : List Sl → R Out := (ifV (orT (notT (m1 (m1 (consR (m1 (consR (nDR 3) nilR) (callR 1 m_matrix_of)) (consR (m1 (consR (nDR 3) nilR) (callR 1 m_law_matrix)) nilR)) (callR 2 (m_law_same 20))) truR)) (orT (m1 (m2 (m2 (m1 (consR (nDR 3) nilR) (callR 1 m_matrix_of)) (m1 (consR (m1 (consR (kR (.int 1)) (consR (kR (.int 0)) nilR)) tupR) (consR (m1 (consR (kR (.int 0)) (consR (kR (.int 1)) nilR)) tupR) nilR)) tupR) eqR) (m1 (consR (nDR 3) nilR) (callR 1 m_does_fall)) neR) asB) (m1 (m2 (m1 (consR (nDR 4) nilR) (callR 1 m_matrix_of)) (m1 (consR (nDR 3) nilR) (callR 1 m_matrix_of)) neR) asB))) (retM (kR (.bool false))) nilM)
def x5 : List Sl → R Out := (setM 5 (m1 (consR (frz (lcM [16] (itR (m1 (nDR 3) revR)) (gSet 16) yesT (m1 (nDR 16) negR))) nilR) tupOfR))
def x6 : List Sl → R Out := (ifV (orT (notT (m1 (m1 (consR (m1 (consR (nDR 3) nilR) (callR 1 m_back_cord)) (consR (nDR 5) nilR)) (callR 2 (m_law_same 20))) truR)) (orT (m1 (m2 (m1 (consR (m2 (nDR 3) (nDR 5) addR) nilR) (callR 1 m_does_fall)) (kR (.bool true)) isNotR) asB) (m1 (m2 (m1 (consR (nDR 5) nilR) (callR 1 m_pulled_cord)) (m1 (consR (nDR 4) nilR) (callR 1 m_back_cord)) neR) asB))) (retM (kR (.bool false))) nilM)
def x7 : List Sl → R Out := (setM 6 (m1 (consR (frz (lcM [17] (m1 (consR (kR (.int 1)) (consR (kR (.int 9)) nilR)) range2R) (gSet 17) (m1 (m2 (callX 1 2 1 (consR (kR (.int 3)) nilR) m_law_draw) (kR (.int 0)) eqR) asB) (nDR 17))) nilR) tupOfR))
def x8 : List Sl → R Out := (ifV (notT (m1 (m1 (consR (m1 (consR (nDR 3) (consR (nDR 6) nilR)) (callR 2 m_without_nails)) (consR (m1 (consR (nDR 3) (consR (nDR 6) nilR)) (callR 2 m_law_left)) nilR)) (callR 2 (m_law_same 20))) truR)) (retM (kR (.bool false))) nilM)
def x9 : List Sl → R Out := (setM 7 (m1 (consR (nDR 3) nilR) (callR 1 m_first_pulls)))
def x10 : List Sl → R Out := (setsM [8, 9] (consR (rO (m1 nilR lstR)) (consR (rD (frz (m1 (consR (nDR 3) nilR) lstOfR))) nilR)))
def i11 : List Sl → R (List D) := (m1 (consR (ifV (m1 (m2 (m1 (consR (nDR 4) nilR) lenR) (kR (.int 0)) eqR) asB) (m2 (m1 (consR (nDR 3) nilR) lenR) (kR (.int 2)) fdivR) (kR (.int 0))) nilR) range1R)
def b11 : List Sl → R Out := (seqM (setM 14 (frz (lcM [17] (m1 (consR (m2 (m1 (consR (nDR 9) nilR) lenR) (kR (.int 1)) subR) nilR) range1R) (gSet 17) (m1 (m2 (m2 (nDR 9) (nDR 17) ixR) (m1 (m2 (nDR 9) (m2 (nDR 17) (kR (.int 1)) addR) ixR) negR) eqR) asB) (nDR 17))))
 (seqM (mutM 8 (consR (m2 (nDR 14) (kR (.int 0)) ixR) nilR) appR)
 (setM 9 (m2 (m3 (nDR 9) noR (m1 (m2 (nDR 14) (kR (.int 0)) ixR) asI) slR) (m3 (nDR 9) (m1 (m2 (m2 (nDR 14) (kR (.int 0)) ixR) (kR (.int 2)) addR) asI) noR slR) addR))))
def x11 : List Sl → R Out := (forM i11 (gSet 10) b11)
def x12 : List Sl → R Out := (ifV (notT (m1 (m1 (consR (nDR 7) (consR (ifV (m1 (m2 (m1 (consR (nDR 4) nilR) lenR) (kR (.int 0)) eqR) asB) (m1 (consR (nBR 8) nilR) tupOfR) (kR .none)) nilR)) (callR 2 (m_law_same 20))) truR)) (retM (kR (.bool false))) nilM)
def x13 : List Sl → R Out := (setM 11 (m1 (consR (frz (lcM [10] (m1 (consR (m2 (m1 (consR (nDR 3) nilR) lenR) (kR (.int 2)) fdivR) nilR) range1R) (gSet 10) yesT (callX 1 2 1 (consR (m2 (m1 (consR (nDR 3) nilR) lenR) (kR (.int 1)) addR) nilR) m_law_draw))) nilR) tupOfR))
def x14 : List Sl → R Out := (setM 12 (ifV (m1 (m2 (nDR 7) (kR .none) isNotR) asB) (nDR 7) (nDR 11)))
def i15 : List Sl → R (List D) := (itR (m2 (frz (m1 (consR (nDR 12) (consR (nDR 11) (consR (m3 (nDR 12) (m1 (kR (.int 1)) asI) noR slR) (consR (m1 (nDR 12) revR) (consR (m2 (nDR 12) (m1 (consR (kR (.int 0)) nilR) tupR) addR) (consR (m2 (m1 (consR (kR (.bool true)) nilR) tupR) (m1 (consR (nDR 12) nilR) lenR) mulR) (consR (kR .none) (consR (kR (.int 0)) (consR (m1 nilR tupR) nilR))))))))) lstR)) (frz (lcM [10] (m1 (consR (kR (.int 6)) nilR) range1R) (gSet 10) yesT (callX 1 2 1 (consR (nDR 12) nilR) (m_law_bent 6)))) addR))
def b15 : List Sl → R Out := (seqM (setM 15 (m1 (consR (nDR 3) (consR (nDR 13) nilR)) (callR 2 m_law_are_pulls)))
 (ifV (orT (notT (m1 (m1 (consR (m1 (consR (nDR 3) (consR (nDR 13) nilR)) (callR 2 m_are_pulls)) (consR (nDR 15) nilR)) (callR 2 (m_law_same 20))) truR)) (andT (m1 (nDR 15) truR) (m1 (m2 (m1 (consR (nDR 4) nilR) lenR) (kR (.int 0)) gtR) asB))) (retM (kR (.bool false))) nilM))
def x15 : List Sl → R Out := (forM i15 (gSet 13) b15)
def i16 : List Sl → R (List D) := (itR (m2 (frz (m1 (consR (nDR 3) (consR (m2 (nDR 3) (m1 (consR (kR (.int 9)) nilR) tupR) addR) (consR (m2 (nDR 3) (m1 (consR (kR (.int 0)) nilR) tupR) addR) (consR (m2 (nDR 3) (m1 (consR (kR (.bool true)) nilR) tupR) addR) (consR (m2 (nDR 3) (m1 (consR (kR .none) nilR) tupR) addR) (consR (m2 (m1 (consR (kR (.int 1)) nilR) tupR) (kR (.int 400)) mulR) (consR (m2 (m1 (consR (kR (.int 1)) nilR) tupR) (kR (.int 401)) mulR) (consR (m1 (consR (m1 (kR (.int 8)) negR) nilR) tupR) (consR (m1 (consR (m1 (kR (.int 9)) negR) nilR) tupR) (consR (kR .none) (consR (kR (.int 5)) nilR))))))))))) lstR)) (frz (lcM [10] (m1 (consR (kR (.int 5)) nilR) range1R) (gSet 10) yesT (callX 1 2 1 (consR (nDR 3) nilR) (m_law_bent 6)))) addR))
def b16 : List Sl → R Out := (seqM (setM 15 (andV (m1 (nDR 13) (isiR isTup)) (andV (m2 (m1 (consR (nDR 13) nilR) lenR) (kR (.int 400)) leR) (m1 (consR (frz (lcM [18] (itR (nDR 13)) (gSet 18) yesT (andV (m1 (nDR 18) (isiR isInt)) (andV (notV (m1 (nDR 18) (isiR isBoo))) (andV (m2 (nDR 18) (kR (.int 0)) neR) (andV (m2 (m1 (kR (.int 8)) negR) (nDR 18) leR) (m2 (nDR 18) (kR (.int 8)) leR))))))) nilR) allR))))
 (ifV (notT (m1 (m1 (consR (m1 (consR (nDR 13) nilR) (callR 1 m_is_nail_cord)) (consR (nDR 15) nilR)) (callR 2 (m_law_same 20))) truR)) (retM (kR (.bool false))) nilM))
def x16 : List Sl → R Out := (forM i16 (gSet 13) b16)
def body_ : List Sl → R Out := (seqM x0 (seqM x1 (seqM x2 (seqM x3 (seqM x4 (seqM x5 (seqM x6 (seqM x7 (seqM x8 (seqM x9 (seqM x10 (seqM x11 (seqM x12 (seqM x13 (seqM x14 (seqM x15 x16))))))))))))))))
def y1 : List Sl → R Out := (forM (m1 (consR (kR (.int 6)) nilR) range1R) (gSet 2) body_)
def y2 : List Sl → R Out := (retM (m1 (consR (m1 (consR (m1 (consR (m1 (consR (kR (.int 1)) (consR (kR (.int 2)) (consR (m1 (kR (.int 2)) negR) (consR (kR (.int 3)) (consR (m1 (kR (.int 3)) negR) (consR (kR (.int 1)) nilR)))))) tupR) nilR) (callR 1 m_pulled_cord)) (consR (m1 (consR (m1 (consR (kR (.int 1)) (consR (kR (.int 2)) (consR (m1 (kR (.int 2)) negR) (consR (m1 (kR (.int 1)) negR) nilR)))) tupR) nilR) (callR 1 m_first_pulls)) (consR (m1 (consR (m1 (consR (kR (.int 1)) nilR) tupR) nilR) (callR 1 m_matrix_of)) nilR))) tupR) (consR (m1 (consR (m1 (consR (kR (.int 1)) (consR (kR (.int 1)) nilR)) tupR) (consR (m1 (consR (kR (.int 1)) (consR (kR (.int 0)) nilR)) tupR) (consR (m1 (consR (m1 (consR (kR (.int 5)) (consR (m1 (kR (.int 8)) negR) nilR)) tupR) (consR (m1 (consR (kR (.int 2)) (consR (m1 (kR (.int 3)) negR) nilR)) tupR) nilR)) tupR) nilR))) tupR) nilR)) (callR 2 (m_law_same 20))))
theorem g_law_parts : g_law = (seqM y0 (seqM y1 y2)) := rfl
end K58

namespace K58
open PySem PySem.Spec PyProof.Rows L2 Pu Cd
section
variable {a2 a3 a4 a5 a6 a7 a8 a9 a10 a11 a12 a13 a14 a15 a16 a17 a18 : Sl} {l : List Int} {post : Out → Prop}
theorem getX_1 (s : Sl) (ρ : List Sl) : getX (s :: .box 2 :: ρ) 1 2 = ok () := by rw [getX_s, getX_0]
theorem callX_u {ρ : List Sl} {i j n : Nat} {g : List Sl → R (List D)} {m : List D → R D} (hx : getX ρ i j = ok ()) : callX i j n g m ρ = bd (g ρ) (callR n m) := by
  show bd (getX ρ i j) (fun _ => bd (g ρ) (callR n m)) = _
  rw [hx, bd_ok]
theorem lst3 (a b c : D) : lstR [a, b, c] = ok [a, b, c] := lstR_e (show 3 ≤ 2 ^ 24 by omega)
theorem lst0 : lstR ([] : List D) = ok [] := lstR_e (Nat.zero_le _)
theorem tup0 : tupR ([] : List D) = ok (.tuple []) := tupR_e (Nat.zero_le _)
theorem r_x0 (hp : ∀ l, Ok l 22 → post (.nx [.un, .box 2, a2, .dat (tI l), a4, a5, a6, a7, a8, a9, a10, a11, a12, a13, a14, a15, a16, a17, a18])) : x0 [.un, .box 2, a2, a3, a4, a5, a6, a7, a8, a9, a10, a11, a12, a13, a14, a15, a16, a17, a18] post := by
  unfold x0
  rw [setM_e, callX_u (getX_1 _ _), consR_e, m2_e, draw_e (n := 3) (by simp) (by decide) (by decide) (getX_1 _ _)]
  simp only [frz_e, m1_e, consR_e, kR_e, nilR_e, bd_ok, lst3, bd_bd]
  refine bd_dr.mpr fun d h1 h2 => ?_
  have h3 : ∃ m : Int, ixR (.list [.int 2, .int 3, .int 8]) (.int d) = ok (.int m) ∧ 0 < m ∧ m ≤ 8 := by
    have : d = 0 ∨ d = 1 ∨ d = 2 := by omega
    rcases this with rfl | rfl | rfl
    · exact ⟨2, rfl, by decide, by decide⟩
    · exact ⟨3, rfl, by decide, by decide⟩
    · exact ⟨8, rfl, by decide, by decide⟩
  obtain ⟨m, h3, h4⟩ := h3
  simp only [h3, bd_ok, callR_2]
  refine q_law_cord h4 _ fun l hl => ?_
  exact hp l hl
theorem neg_lc : lcM [16] (itR (m1 (nDR 3) revR)) (gSet 16) yesT (m1 (nDR 16) negR) [.un, .box 2, a2, .dat (tI l), a4, a5, a6, a7, a8, a9, a10, a11, a12, a13, a14, a15, a16, a17, a18] = ok ((back l).map .int) := by
  have := lcM_map (ρ := [.un, .box 2, a2, .dat (tI l), a4, a5, a6, a7, a8, a9, a10, a11, a12, a13, a14, a15, a16, a17, a18]) (vs := [16]) (i := 16) (f := PyData.int) (l := l.reverse) (te := m1 (nDR 16) negR) (h := fun x => .int (-x)) (itR_tup (g := m1 (nDR 3) revR) (by simp)) (fun x _ => by simp [wipeS])
  rw [this]; simp [Cd.back, Function.comp_def]
theorem r_x1 (hl : Ok l 22) (hp : ∀ l, Ok l 44 → post (.nx [.un, .box 2, a2, .dat (tI l), a4, a5, a6, a7, a8, a9, a10, a11, a12, a13, a14, a15, a16, a17, a18])) : x1 [.un, .box 2, a2, .dat (tI l), a4, a5, a6, a7, a8, a9, a10, a11, a12, a13, a14, a15, a16, a17, a18] post := by
  unfold x1
  rw [ifV_e, m1_e, m2_e, draw_e (n := 3) (by simp) (by decide) (by decide) (getX_1 _ _)]
  simp only [bd_bd]
  refine bd_dr.mpr fun d h1 h2 => ?_
  have hlen := hl.len
  have hb := hl.back
  have hadd : addR (tI l) (tI (back l)) = ok (tI (l ++ back l)) := addR_tup (by have := hb.len; exact (show _ ≤ 2 ^ 24 by omega))
  by_cases h : d = 0
  · simp only [kR_e, bd_ok, eqR_int, decide_true, h, asB_bool, if_true]
    rw [setM_e, m2_e, m1_e, consR_e, frz_e, neg_lc]
    simp only [nDR_s, nDR_0, bd_ok, nilR_e, tupOfR_list, hadd, set_s, set_0]
    exact hp _ ((hl.app hb).mono (by omega))
  · simp only [kR_e, bd_ok, eqR_int, decide_false, h, asB_bool, if_false, Bool.false_eq_true, nilM_e]
    exact hp _ (hl.mono (by omega))
theorem small {n : Nat} (hl : Ok l n) (h : n ≤ 1000) : l.length < sizeLine := by have := hl.len; exact (show _ < 2 ^ 24 by omega)
theorem r_x2 (hl : Ok l 44) : x2 [.un, .box 2, a2, .dat (tI l), a4, a5, a6, a7, a8, a9, a10, a11, a12, a13, a14, a15, a16, a17, a18] = ok (.nx [.un, .box 2, a2, .dat (tI l), .dat (tI (red l)), a5, a6, a7, a8, a9, a10, a11, a12, a13, a14, a15, a16, a17, a18]) := by
  unfold x2
  simp only [setM_e, m1_e, consR_e, nDR_s, nDR_0, nilR_e, bd_ok, callR_1, q_law_pulled l (small hl (by omega)), set_s, set_0]
theorem isNC_ok (hl : Ok l 44) : isNC (tI l) = true := by
  show (decide ((l.map PyData.int).length ≤ 400) && (l.map PyData.int).all isT) = true
  have h1 := hl.len
  simp only [Bool.and_eq_true, decide_eq_true_eq, List.length_map, List.all_eq_true, List.mem_map]
  refine ⟨by omega, ?_⟩
  rintro x ⟨t, ht, rfl⟩
  have := hl.rng t ht
  have := hl.nz t ht
  simp [isT, *]
theorem len0 (l : List Int) : decide ((l.length : Int) = 0) = decide (l = []) := by cases l <;> simp <;> omega
theorem pl_tI (n : Nat) (h : l.length < sizeLine) : Pl (n + 1) (tI l) := by
  refine ⟨by simpa using h, fun x hx => ?_⟩
  obtain ⟨t, _, rfl⟩ := List.mem_map.mp hx
  cases n <;> trivial
theorem pl_nI (n : Nat) {ks : List Nat} (h : ks.length < sizeLine) : Pl (n + 1) (tu nI ks) := by
  refine ⟨by simpa using h, fun x hx => ?_⟩
  obtain ⟨t, _, rfl⟩ := List.mem_map.mp hx
  cases n <;> trivial
theorem pl_bool (n : Nat) (b : Bool) : Pl n (.bool b) := by cases n <;> trivial
theorem pl_int (n : Nat) (b : Int) : Pl n (.int b) := by cases n <;> trivial
theorem pl_2 {n : Nat} {a b : D} (ha : Pl n a) (hb : Pl n b) : Pl (n + 1) (.tuple [a, b]) := ⟨show 2 < 2 ^ 24 by omega, fun x hx => by
  simp at hx; rcases hx with rfl | rfl
  · exact ha
  · exact hb⟩
theorem pl_mD (n : Nat) (m : Mat) : Pl (n + 2) (mD m) := pl_2 (pl_2 (pl_int _ _) (pl_int _ _)) (pl_2 (pl_int _ _) (pl_int _ _))
theorem small_red (hl : Ok l 44) : (red l).length < sizeLine := by have := hl.len; have := red_len_le l; exact (show _ < 2 ^ 24 by omega)
theorem isNot_tt : isNotR (.bool true) (.bool true) = ok (.bool false) := rfl
theorem r_x3 (hl : Ok l 44) : x3 [.un, .box 2, a2, .dat (tI l), .dat (tI (red l)), a5, a6, a7, a8, a9, a10, a11, a12, a13, a14, a15, a16, a17, a18] = ok (.nx [.un, .box 2, a2, .dat (tI l), .dat (tI (red l)), a5, a6, a7, a8, a9, a10, a11, a12, a13, a14, a15, a16, a17, a18]) := by
  have hs := q_same 19 (.tuple [tI (red l), .bool (decide (red l = []))]) (pl_2 (pl_tI _ (small_red hl)) (pl_bool _ _))
  unfold x3
  simp only [ifV_e, orT_e, notT_e, m1_e, m2_e, consR_e, nDR_s, nDR_0, nilR_e, kR_e, bd_ok, callR_1, callR_2, q_is_nail_cord, isNC_ok hl, isNot_tt, asB_bool, q_pulled l (small hl (by omega)), q_falls l (small hl (by omega)), tup2, lenR_tup, eqR_int, len0, hs, truR_bool, Bool.false_eq_true, if_false, Bool.not_true, nilM_e]
theorem eqv_mD (m n : Mat) : PyData.eqv (mD m) (mD n) = decide (m = n) := by
  obtain ⟨a, b, c, d⟩ := m
  obtain ⟨a', b', c', d'⟩ := n
  apply Bool.eq_iff_iff.mpr
  rw [decide_eq_true_eq, Mat.mk.injEq]
  simp [mD, PyData.eqv, PyData.eqvAll, and_assoc]
theorem dp_mD (m : Mat) : (mD m).depth ≤ 60 := by simp [mD, PyData.depth, PyData.depthAll]
theorem eqR_mD (m n : Mat) : eqR (mD m) (mD n) = ok (.bool (decide (m = n))) := by
  rw [eqR, bd_req (Nat.le_trans (Nat.min_le_left _ _) (dp_mD m)), eqv_mD]
theorem neR_mD (m n : Mat) : neR (mD m) (mD n) = ok (.bool (!decide (m = n))) := by
  rw [neR, bd_req (Nat.le_trans (Nat.min_le_left _ _) (dp_mD m)), eqv_mD]
theorem neR_bool (b c : Bool) : neR (.bool b) (.bool c) = ok (.bool (!(b == c))) := by
  rw [neR, bd_req (Nat.le_trans (Nat.min_le_left _ _) (by simp [PyData.depth]))]; congr 2
theorem mD_one : PyData.tuple [.tuple [.int 1, .int 0], .tuple [.int 0, .int 1]] = mD Mat.one := rfl
theorem r_x4 (hl : Ok l 44) : x4 [.un, .box 2, a2, .dat (tI l), .dat (tI (red l)), a5, a6, a7, a8, a9, a10, a11, a12, a13, a14, a15, a16, a17, a18] = ok (.nx [.un, .box 2, a2, .dat (tI l), .dat (tI (red l)), a5, a6, a7, a8, a9, a10, a11, a12, a13, a14, a15, a16, a17, a18]) := by
  have hs := q_same 19 (mD (MM l)) (pl_mD _ _)
  have h1 := q_matrix l hl.rng
  have h2 := q_law_matrix l hl.rng
  have h3 := q_matrix (red l) fun t ht => hl.rng t (red_mem l t ht)
  have h4 : MM l = MM (red l) := MM_rm (rm_l l) hl.nz
  have h5 : decide (MM l = Mat.one) = decide (red l = []) := decide_eq_decide.mpr (MM_one_iff hl.nz)
  rw [← h4] at h3
  unfold x4
  simp only [ifV_e, orT_e, notT_e, m1_e, m2_e, consR_e, nDR_s, nDR_0, nilR_e, kR_e, bd_ok, callR_1, callR_2, h1, h2, h3, hs, tup2, mD_one, eqR_mD, h5, q_falls l (small hl (by omega)), neR_bool, beq_self_eq_true, asB_bool, neR_mD, decide_true, truR_bool, Bool.false_eq_true, if_false, Bool.not_true, nilM_e]
theorem r_x5 : x5 [.un, .box 2, a2, .dat (tI l), a4, a5, a6, a7, a8, a9, a10, a11, a12, a13, a14, a15, a16, a17, a18] = ok (.nx [.un, .box 2, a2, .dat (tI l), a4, .dat (tI (back l)), a6, a7, a8, a9, a10, a11, a12, a13, a14, a15, a16, a17, a18]) := by
  unfold x5
  rw [setM_e, m1_e, consR_e, frz_e, neg_lc]
  simp only [bd_ok, nilR_e, tupOfR_list, set_s, set_0]
theorem neR_tup {l k : List Int} : neR (tI l) (tI k) = ok (.bool (!decide (l = k))) := by
  have hd : ∀ l : List Int, PyData.depth (tI l) ≤ 60 := by
    intro l
    have : ∀ l : List Int, PyData.depthAll (l.map PyData.int) ≤ 1 := by
      intro l
      induction l with
      | nil => simp [PyData.depthAll]
      | cons x l ih => simp [PyData.depthAll, PyData.depth]; omega
    have := this l
    simp only [tu, PyData.depth]; omega
  exact neR_of eqR_tup (Nat.le_trans (Nat.min_le_left _ _) (hd _))
theorem r_x6 (hl : Ok l 44) : x6 [.un, .box 2, a2, .dat (tI l), .dat (tI (red l)), .dat (tI (back l)), a6, a7, a8, a9, a10, a11, a12, a13, a14, a15, a16, a17, a18] = ok (.nx [.un, .box 2, a2, .dat (tI l), .dat (tI (red l)), .dat (tI (back l)), a6, a7, a8, a9, a10, a11, a12, a13, a14, a15, a16, a17, a18]) := by
  have hs := q_same 19 (tI (back l)) (pl_tI _ (small hl.back (by omega)))
  have hb := hl.back
  have h1 : addR (tI l) (tI (back l)) = ok (tI (l ++ back l)) := addR_tup (by have := hb.len; have := hl.len; exact (show _ ≤ 2 ^ 24 by omega))
  have h2 : m_does_fall [tI (l ++ back l)] = ok (.bool true) := by
    rw [q_falls _ (small (hl.app hb) (by omega)), red_with_back]; rfl
  have h3 : m_pulled_cord [tI (back l)] = ok (tI (back (red l))) := by
    rw [q_pulled _ (small hb (by omega)), red_back]
  unfold x6
  simp only [ifV_e, orT_e, notT_e, m1_e, m2_e, consR_e, nDR_s, nDR_0, nilR_e, kR_e, bd_ok, callR_1, callR_2, q_back, hs, h1, h2, h3, isNot_tt, asB_bool, neR_tup, decide_true, truR_bool, Bool.false_eq_true, if_false, Bool.not_true, nilM_e]
theorem r_x7 (hp : ∀ ns : List Nat, post (.nx [.un, .box 2, a2, a3, a4, a5, .dat (tu nI ns), a7, a8, a9, a10, a11, a12, a13, a14, a15, a16, a17, a18])) : x7 [.un, .box 2, a2, a3, a4, a5, a6, a7, a8, a9, a10, a11, a12, a13, a14, a15, a16, a17, a18] post := by
  unfold x7
  rw [setM_e, m1_e, consR_e, frz_e]
  simp only [bd_bd]
  refine lcM_sub (α := Nat) (f := nI) (l := [1, 2, 3, 4, 5, 6, 7, 8]) ?_ ?_ ?_ _ fun ns _ => ?_
  · have : range2R [.int 1, .int 9] = ok ([1, 2, 3, 4, 5, 6, 7, 8].map nI) := by
      show bd (req _) _ = _
      rw [bd_req ⟨by decide, by decide, by decide, by decide, by decide⟩]; rfl
    simp only [m1_e, consR_e, kR_e, nilR_e, bd_ok, this]
  · intro x _ post hp
    simp only [wipeS, set_s, set_0]
    rw [m1_e, m2_e, draw_e (n := 3) (by simp) (by decide) (by decide) (getX_1 _ _)]
    simp only [bd_bd]
    refine bd_dr.mpr fun d h1 h2 => ?_
    simp only [kR_e, bd_ok, eqR_int, asB_bool]
    exact hp _
  · intro x _
    simp [wipeS]
  · simp only [bd_ok, nilR_e, tupOfR_list, set_s, set_0]
    exact hp ns
theorem r_x8 {ns : List Nat} (hl : Ok l 44) : x8 [.un, .box 2, a2, .dat (tI l), a4, a5, .dat (tu nI ns), a7, a8, a9, a10, a11, a12, a13, a14, a15, a16, a17, a18] = ok (.nx [.un, .box 2, a2, .dat (tI l), a4, a5, .dat (tu nI ns), a7, a8, a9, a10, a11, a12, a13, a14, a15, a16, a17, a18]) := by
  have hk : (red (l.filter (keep ns))).length < sizeLine := by
    have := hl.len; have := red_len_le (l.filter (keep ns)); have := List.length_filter_le (keep ns) l; exact (show _ < 2 ^ 24 by omega)
  have hs := q_same 19 (tI (red (l.filter (keep ns)))) (pl_tI _ hk)
  unfold x8
  simp only [ifV_e, notT_e, m1_e, m2_e, consR_e, nDR_s, nDR_0, nilR_e, bd_ok, callR_2, q_without l ns (small hl (by omega)), q_law_left l ns (small hl (by omega)), hs, truR_bool, Bool.false_eq_true, if_false, Bool.not_true, nilM_e]
def told (l : List Int) : D := if red l = [] then tu nI (fp l.length l) else .none
theorem r_x9 (hl : Ok l 44) : x9 [.un, .box 2, a2, .dat (tI l), a4, a5, a6, a7, a8, a9, a10, a11, a12, a13, a14, a15, a16, a17, a18] = ok (.nx [.un, .box 2, a2, .dat (tI l), a4, a5, a6, .dat (told l), a8, a9, a10, a11, a12, a13, a14, a15, a16, a17, a18]) := by
  have h : m_first_pulls [tI l] = ok (told l) := by
    unfold told
    by_cases h : red l = []
    · rw [if_pos h]; exact q_first_some l (small hl (by omega)) h
    · rw [if_neg h]; exact q_first_none l (small hl (by omega)) h
  unfold x9
  simp only [setM_e, m1_e, consR_e, nDR_s, nDR_0, nilR_e, bd_ok, callR_1, h, set_s, set_0]
theorem r_x10 : x10 [.un, .box 2, a2, .dat (tI l), a4, a5, a6, a7, a8, a9, a10, a11, a12, a13, a14, a15, a16, a17, a18] = ok (.nx [.un, .box 2, a2, .dat (tI l), a4, a5, a6, a7, .own (([] : List Nat).map nI), .dat (lI l), a10, a11, a12, a13, a14, a15, a16, a17, a18]) := by
  unfold x10
  show bd (consR _ _ _) _ = _
  rw [consR_e, consR_e]
  show bd (bd (bd (m1 nilR lstR _) (fun ds => ok (Sl.own ds))) _) _ = _
  rw [m1_e, nilR_e, bd_ok, lst0, bd_ok, bd_ok]
  rfl
end
end K58

namespace K58
open PySem PySem.Spec PyProof.Rows L2 Pu Cd
section
variable {a2 a3 a4 a5 a6 a7 a8 a9 a10 a11 a12 a13 a14 a15 a16 a17 a18 : Sl} {l : List Int} {post : Out → Prop}
theorem half (n : Nat) (h : n ≤ 1000) : fdivR (.int (n : Int)) (.int 2) = ok (.int ((n / 2 : Nat) : Int)) := by
  rw [fdivR_int ⟨by decide, .inl (by decide)⟩]
  congr 2
  rw [Int.fdiv_eq_ediv_of_nonneg _ (by decide)]
  omega
def rows (l : List Int) : List Nat := if red l = [] then fp l.length l else []
theorem r_b11 {c e : D} {f : List Nat} {k x : Nat} (h : (spots l).head? = some k) (hl : l.length ≤ 1000) (hf : f.length ≤ 1000) : b11 [.un, .box 2, a2, .dat c, .dat e, a5, a6, a7, .own (f.map nI), .dat (lI l), .dat (nI x), a11, a12, a13, a14, a15, a16, a17, a18] = ok (.nx [.un, .box 2, a2, .dat c, .dat e, a5, a6, a7, .own ((f ++ [k]).map nI), .dat (lI (cut l k)), .dat (nI x), a11, a12, a13, .dat (.list ((spots l).map nI)), a15, a16, a17, a18]) := by
  have hs : l.length < sizeLine := show _ < 2 ^ 24 by omega
  have hlc : lcM [17] (m1 (consR (m2 (m1 (consR (nDR 9) nilR) lenR) (kR (.int 1)) subR) nilR) range1R) (gSet 17) (m1 (m2 (m2 (nDR 9) (nDR 17) ixR) (m1 (m2 (nDR 9) (m2 (nDR 17) (kR (.int 1)) addR) ixR) negR) eqR) asB) (nDR 17) [.un, .box 2, a2, .dat c, .dat e, a5, a6, a7, .own (f.map nI), .dat (lI l), .dat (nI x), a11, a12, a13, a14, a15, a16, a17, a18] = ok ((spots l).map nI) :=
    lcM_set (f := nI) (by simp [range_len l hs]) (fun k hk => spot_t (w := lI) ixR_lst (by simp [wipeS]) (by simp [wipeS]) hk) (fun k hk _ => by simp [wipeS])
  have happ : appR (f.map nI) [nI k] = ok ((f ++ [k]).map nI) := by
    show bd (req _) _ = _
    rw [bd_req (by simp; exact (show _ < 2 ^ 24 by omega))]; simp
  have hcut := cut_e (w := lI) (l := l) (k := k) (fun lo hi => slR_lst _ _ _) addR_lst hs (ρ := [.un, .box 2, a2, .dat c, .dat e, a5, a6, a7, .own ((f ++ [k]).map nI), .dat (lI l), .dat (nI x), a11, a12, a13, .dat (.list ((spots l).map nI)), a15, a16, a17, a18]) (a := nDR 9) (b := m2 (nDR 14) (kR (.int 0)) ixR) (by simp) (by simp only [m2_e, nDR_s, nDR_0, kR_e, bd_ok, spots_head h])
  unfold b11
  rw [seqM_e, setM_e, frz_e, hlc]
  simp only [bd_ok, set_s, set_0, nxt_nx]
  rw [seqM_e, mutM_e]
  simp only [getO_s, getO_0, bd_ok, consR_e, m2_e, nDR_s, nDR_0, kR_e, spots_head h, nilR_e, happ, set_s, set_0, nxt_nx]
  simp only [m2_e] at hcut
  rw [setM_e, m2_e, hcut]
  rfl
theorem r_x11 (hl : Ok l 44) (hp : ∀ v9 v10 v14, post (.nx [.un, .box 2, a2, .dat (tI l), .dat (tI (red l)), a5, a6, a7, .own ((rows l).map nI), v9, v10, a11, a12, a13, v14, a15, a16, a17, a18])) : x11 [.un, .box 2, a2, .dat (tI l), .dat (tI (red l)), a5, a6, a7, .own (([] : List Nat).map nI), .dat (lI l), a10, a11, a12, a13, a14, a15, a16, a17, a18] post := by
  have hlen := hl.len
  unfold x11
  rw [forM_e]
  by_cases h : red l = []
  · have hi : i11 [.un, .box 2, a2, .dat (tI l), .dat (tI (red l)), a5, a6, a7, .own (([] : List Nat).map nI), .dat (lI l), a10, a11, a12, a13, a14, a15, a16, a17, a18] = ok ((List.range (l.length / 2)).map nI) := by
      unfold i11
      have := range1_e (n := ((l.length / 2 : Nat) : Int)) (show _ ≤ ((2 ^ 24 : Nat) : Int) by omega) (by omega)
      rw [Int.toNat_natCast] at this
      simp only [m1_e, consR_e, ifV_e, m2_e, nDR_s, nDR_0, kR_e, nilR_e, bd_ok, lenR_tup, eqR_int, len0, h, decide_true, asB_bool, if_true, half l.length (by omega), this]
    rw [hi, bd_ok]
    have hpar : l.length = 2 * (l.length / 2) := by
      have := rm_par (rm_l l)
      rw [h] at this
      simp at this; omega
    refine forF_dem (fun r ρ => ∃ (f : List Nat) (m : List Int) (v10 v14 : Sl), ρ = [.un, .box 2, a2, .dat (tI l), .dat (tI (red l)), a5, a6, a7, .own (f.map nI), .dat (lI m), v10, a11, a12, a13, v14, a15, a16, a17, a18] ∧ red m = [] ∧ m.length = 2 * r.length ∧ f ++ fp r.length m = fp l.length l ∧ f.length + m.length ≤ 44) (fun x r ρ post j hp => ?_) _ _ _ ⟨[], l, a10, a14, rfl, h, by simpa using hpar, by simp; exact (fp_fuel (l.length / 2) l.length l hpar (by omega)).symm, by simpa using hlen⟩ fun ρ j => ?_
    · obtain ⟨f, m, v10, v14, rfl, h1, h2, h3, h4⟩ := j
      have hne : m ≠ [] := by rintro rfl; simp at h2
      obtain ⟨k, hk⟩ := spot_of_falls h1 hne
      have ms := mem_spots (List.mem_of_head? hk)
      have hc := red_cutk ms.1 ms.2
      simp only [set_s, set_0]
      rw [r_b11 hk (by omega) (by omega)]
      refine hp _ ⟨f ++ [k], cut m k, _, _, rfl, by rw [hc.1, h1], ?_, ?_, ?_⟩
      · simp at h2; omega
      · rw [← h3, List.length_cons, fp_head hk]; simp
      · simp; omega
    · obtain ⟨f, m, v10, v14, rfl, h1, h2, h3, h4⟩ := j
      have : f = rows l := by
        unfold rows; rw [if_pos h, ← h3]; simp [fp]
      subst this
      exact hp _ _ _
  · have hi : i11 [.un, .box 2, a2, .dat (tI l), .dat (tI (red l)), a5, a6, a7, .own (([] : List Nat).map nI), .dat (lI l), a10, a11, a12, a13, a14, a15, a16, a17, a18] = ok [] := by
      unfold i11
      have : range1R [.int 0] = ok [] := by
        rw [range1_e (by decide) (by decide)]; rfl
      simp only [m1_e, consR_e, ifV_e, m2_e, nDR_s, nDR_0, kR_e, nilR_e, bd_ok, lenR_tup, eqR_int, len0, h, decide_false, asB_bool, Bool.false_eq_true, if_false, this]
    rw [hi, bd_ok, forF_nil]
    have : rows l = [] := by unfold rows; rw [if_neg h]
    rw [this] at hp
    exact hp _ _ _
theorem r_x12 (hl : Ok l 44) : x12 [.un, .box 2, a2, .dat (tI l), .dat (tI (red l)), a5, a6, .dat (told l), .own ((rows l).map nI), a9, a10, a11, a12, a13, a14, a15, a16, a17, a18] = ok (.nx [.un, .box 2, a2, .dat (tI l), .dat (tI (red l)), a5, a6, .dat (told l), .own ((rows l).map nI), a9, a10, a11, a12, a13, a14, a15, a16, a17, a18]) := by
  have hlen := hl.len
  unfold x12
  by_cases h : red l = []
  · have e : told l = tu nI (rows l) := by unfold told rows; rw [if_pos h, if_pos h]
    have hs := q_same 19 (tu nI (rows l)) (pl_nI _ (by unfold rows; rw [if_pos h]; have := fp_len l.length l; exact (show _ < 2 ^ 24 by omega)))
    rw [e]
    simp only [ifV_e, notT_e, m1_e, m2_e, consR_e, nDR_s, nDR_0, nBR_s, nBR_0o, kR_e, nilR_e, bd_ok, callR_2, lenR_tup, eqR_int, len0, h, decide_true, asB_bool, if_true, tupOfR_list, hs, truR_bool, Bool.false_eq_true, if_false, Bool.not_true, nilM_e]
  · have e : told l = .none := by unfold told; rw [if_neg h]
    have hs := q_same 19 .none trivial
    rw [e]
    simp only [ifV_e, notT_e, m1_e, m2_e, consR_e, nDR_s, nDR_0, nBR_s, nBR_0o, kR_e, nilR_e, bd_ok, callR_2, lenR_tup, eqR_int, len0, h, decide_false, asB_bool, if_false, hs, truR_bool, Bool.false_eq_true, Bool.not_true, nilM_e]
/-- a row of small numbers from nought on -/
def Dr (ks : List Nat) : Prop := ks.length ≤ 44 ∧ ∀ k ∈ ks, k ≤ 44
theorem nats_of : ∀ {ys : List D}, (∀ y ∈ ys, ∃ k : Nat, y = nI k ∧ k ≤ 44) → ∃ ks : List Nat, ys = ks.map nI ∧ ∀ k ∈ ks, k ≤ 44
  | [], _ => ⟨[], rfl, by simp⟩
  | y :: ys, h => by
    obtain ⟨k, rfl, hk⟩ := h y List.mem_cons_self
    obtain ⟨ks, rfl, h2⟩ := nats_of fun z hz => h z (List.mem_cons_of_mem _ hz)
    exact ⟨k :: ks, rfl, by simpa using ⟨hk, h2⟩⟩
theorem r_x13 (hl : Ok l 44) (hp : ∀ ks, Dr ks → post (.nx [.un, .box 2, a2, .dat (tI l), a4, a5, a6, a7, a8, a9, a10, .dat (tu nI ks), a12, a13, a14, a15, a16, a17, a18])) : x13 [.un, .box 2, a2, .dat (tI l), a4, a5, a6, a7, a8, a9, a10, a11, a12, a13, a14, a15, a16, a17, a18] post := by
  have hlen := hl.len
  unfold x13
  rw [setM_e, m1_e, consR_e, frz_e]
  simp only [bd_bd]
  have := range1_e (n := ((l.length / 2 : Nat) : Int)) (show _ ≤ ((2 ^ 24 : Nat) : Int) by omega) (by omega)
  rw [Int.toNat_natCast] at this
  refine lcM_dem (ds := (List.range (l.length / 2)).map nI) (P := fun y => ∃ k : Nat, y = nI k ∧ k ≤ 44) ?_ ?_ _ fun ys h1 h2 => ?_
  · simp only [m1_e, consR_e, m2_e, nDR_s, nDR_0, kR_e, nilR_e, bd_ok, lenR_tup, half l.length (by omega), this]
  · intro d hd post hp
    simp only [wipeS, set_s, set_0]
    rw [draw_e (n := (l.length : Int) + 1) (by simp) (by omega) (by omega) (getX_1 _ _)]
    intro k h1 h2
    obtain ⟨k, rfl⟩ := Int.eq_ofNat_of_zero_le h1
    exact hp _ ⟨k, rfl, by omega⟩
  · obtain ⟨ks, rfl, h3⟩ := nats_of h2
    simp only [nilR_e, bd_ok, tupOfR_list, set_s, set_0]
    simp at h1
    exact hp ks ⟨by omega, h3⟩
theorem dr_fp (hl : Ok l 44) : Dr (fp l.length l) := by
  have hlen := hl.len
  refine ⟨by have := fp_len l.length l; omega, fun k hk => ?_⟩
  have := fp_small l.length l k hk
  omega
theorem r_x14 (hl : Ok l 44) {ks : List Nat} (hk : Dr ks) : ∃ ps, Dr ps ∧ x14 [.un, .box 2, a2, a3, a4, a5, a6, .dat (told l), a8, a9, a10, .dat (tu nI ks), a12, a13, a14, a15, a16, a17, a18] = ok (.nx [.un, .box 2, a2, a3, a4, a5, a6, .dat (told l), a8, a9, a10, .dat (tu nI ks), .dat (tu nI ps), a13, a14, a15, a16, a17, a18]) := by
  unfold x14
  by_cases h : red l = []
  · have e : told l = tu nI (fp l.length l) := by unfold told; rw [if_pos h]
    refine ⟨fp l.length l, dr_fp hl, ?_⟩
    rw [e]
    have hn : isNotR (tu nI (fp l.length l)) .none = ok (.bool true) := rfl
    simp only [setM_e, ifV_e, m1_e, m2_e, nDR_s, nDR_0, kR_e, bd_ok, hn, asB_bool, if_true, set_s, set_0]
  · have e : told l = .none := by unfold told; rw [if_neg h]
    refine ⟨ks, hk, ?_⟩
    rw [e]
    have hn : isNotR .none .none = ok (.bool false) := rfl
    simp only [setM_e, ifV_e, m1_e, m2_e, nDR_s, nDR_0, kR_e, bd_ok, hn, asB_bool, if_false, Bool.false_eq_true, set_s, set_0]
theorem isP_falls {d : D} (h : isP l d = true) : red l = [] := by
  cases d with
  | tuple ds =>
    simp only [isP, Bool.and_eq_true] at h
    exact ap_falls _ _ h.2
  | _ => cases h
theorem r_b15 (hl : Ok l 44) (d : D) : b15 [.un, .box 2, a2, .dat (tI l), .dat (tI (red l)), a5, a6, a7, a8, a9, a10, a11, a12, .dat d, a14, a15, a16, a17, a18] = ok (.nx [.un, .box 2, a2, .dat (tI l), .dat (tI (red l)), a5, a6, a7, a8, a9, a10, a11, a12, .dat d, a14, .dat (.bool (isP l d)), a16, a17, a18]) := by
  have hs := q_same 19 (.bool (isP l d)) (pl_bool _ _)
  unfold b15
  simp only [seqM_e, setM_e, ifV_e, orT_e, andT_e, notT_e, m1_e, m2_e, consR_e, nDR_s, nDR_0, kR_e, nilR_e, bd_ok, callR_2, q_law_are_pulls l d (small hl (by omega)), q_are_pulls l d (small hl (by omega)), set_s, set_0, nxt_nx, hs, truR_bool, Bool.false_eq_true, if_false, Bool.not_true, lenR_tup, gtR_int, asB_bool]
  cases h : isP l d with
  | false => simp only [Bool.false_eq_true, if_false, bd_ok, nilM_e]
  | true =>
    rw [isP_falls h]
    simp [nilM_e]
theorem lst9 (a b c d e f g h i : D) : lstR [a, b, c, d, e, f, g, h, i] = ok [a, b, c, d, e, f, g, h, i] := lstR_e (show 9 ≤ 2 ^ 24 by omega)
theorem lst11 (a b c d e f g h i j k : D) : lstR [a, b, c, d, e, f, g, h, i, j, k] = ok [a, b, c, d, e, f, g, h, i, j, k] := lstR_e (show 11 ≤ 2 ^ 24 by omega)
theorem addR_list {x y : List D} (h : x.length + y.length ≤ 2 ^ 24) : addR (.list x) (.list y) = ok (.list (x ++ y)) := bd_req h _
theorem any_loop {i : Nat} {tb : List Sl → R Out} (J : List Sl → Prop) (h : ∀ d ρ, J ρ → ∃ ρ', J ρ' ∧ tb (ρ.set i (.dat d)) = ok (.nx ρ')) : ∀ (ds : List D) (ρ : List Sl), J ρ → ∃ ρ', J ρ' ∧ forF (gSet i) tb ds ρ = ok (.nx ρ')
  | [], ρ, j => ⟨ρ, j, forF_nil⟩
  | d :: ds, ρ, j => by
    obtain ⟨ρ1, j1, e1⟩ := h d ρ j
    obtain ⟨ρ2, j2, e2⟩ := any_loop J h ds ρ1 j1
    exact ⟨ρ2, j2, by rw [forF_cons_ok e1, e2]⟩
theorem bent_lc {n : Nat} {g : List Sl → R (List D)} {ρ : List Sl} {ks : List Int} (hk : ks.length ≤ 1000) (hs : ∀ i ∈ ks, i.natAbs < 2 ^ 30) (hn : n ≤ 1000) (hg : ∀ d, g ((wipeS ρ [10]).set 10 (.dat d)) = ok [tI ks]) (hx : ∀ d, getX ((wipeS ρ [10]).set 10 (.dat d)) 1 2 = ok ()) (post : List D → Prop) (hp : ∀ ys : List D, ys.length ≤ n → post ys) : lcM [10] (m1 (consR (kR (.int (n : Int))) nilR) range1R) (gSet 10) yesT (callX 1 2 1 g (m_law_bent 6)) ρ post := by
  have := range1_e (n := (n : Int)) (show _ ≤ ((2 ^ 24 : Nat) : Int) by omega) (by omega)
  rw [Int.toNat_natCast] at this
  refine lcM_dem (ds := (List.range n).map nI) (P := fun _ => True) (by simp only [m1_e, consR_e, kR_e, nilR_e, bd_ok, this]) (fun d _ post hp => ?_) _ fun ys h1 _ => hp ys (by simp at h1; omega)
  rw [callX_e (n := 1) (hg d) (hx d) rfl]
  exact q_bent_tup 4 ks hk hs _ fun y => hp y trivial
theorem tu_nat (ks : List Nat) : tu nI ks = tI (ks.map fun k : Nat => (k : Int)) := by simp [tu]; intro a _; rfl
theorem r_x15 (hl : Ok l 44) {ks ps : List Nat} (hk : Dr ks) (hps : Dr ps) (hp : ∀ v10 v13 v15, post (.nx [.un, .box 2, a2, .dat (tI l), .dat (tI (red l)), a5, a6, a7, a8, a9, v10, .dat (tu nI ks), .dat (tu nI ps), v13, a14, v15, a16, a17, a18])) : x15 [.un, .box 2, a2, .dat (tI l), .dat (tI (red l)), a5, a6, a7, a8, a9, a10, .dat (tu nI ks), .dat (tu nI ps), a13, a14, a15, a16, a17, a18] post := by
  unfold x15
  rw [forM_e]
  unfold i15 itR
  have e1 : addR (tu nI ps) (.tuple [.int 0]) = ok (.tuple (ps.map nI ++ [.int 0])) := addR_tuple (by have := hps.1; simp; omega)
  have e2 : mulR (.tuple [.bool true]) (.int (ps.length : Int)) = ok (.tuple (List.replicate ps.length [PyData.bool true]).flatten) := by
    show bd (req _) _ = _
    rw [bd_req ⟨by omega, by have := hps.1; omega, by have := hps.1; simp; exact (show _ ≤ 2 ^ 24 by omega)⟩]; rfl
  rw [m2_e, frz_e]
  simp only [m1_e, m2_e, m3_e, consR_e, nDR_s, nDR_0, kR_e, noR_e, nilR_e, bd_ok, asI_int, slR_tup, revR_tup, tup1, tup0, e1, e2, lenR_tup, lst9]
  rw [frz_e]
  simp only [bd_bd]
  refine bent_lc (n := 6) (ks := ps.map fun k : Nat => (k : Int)) (by have := hps.1; simp; omega) (fun i hi => ?_) (by decide) (fun d => by simp [wipeS, tu_nat]) (fun d => by simp only [wipeS, set_s, set_0]; exact getX_1 _ _) _ fun ys hy => ?_
  · obtain ⟨k, hk, rfl⟩ := List.mem_map.mp hi
    have := hps.2 k hk
    omega
  · simp only [bd_ok]
    rw [addR_list (by simp; omega), bd_ok, show ∀ xs, itemsR (.list xs) = ok xs from fun _ => rfl, bd_ok, bd_req (.inr (fun z e => by cases e))]
    obtain ⟨ρ', ⟨v13, v15, rfl⟩, e⟩ := any_loop (i := 13) (tb := b15) (fun ρ => ∃ v13 v15, ρ = [.un, .box 2, a2, .dat (tI l), .dat (tI (red l)), a5, a6, a7, a8, a9, a10, .dat (tu nI ks), .dat (tu nI ps), v13, a14, v15, a16, a17, a18]) (fun d ρ ⟨v13, v15, e⟩ => by
      subst e
      exact ⟨_, ⟨_, _, rfl⟩, r_b15 hl d⟩) _ [.un, .box 2, a2, .dat (tI l), .dat (tI (red l)), a5, a6, a7, a8, a9, a10, .dat (tu nI ks), .dat (tu nI ps), a13, a14, a15, a16, a17, a18] ⟨_, _, rfl⟩
    rw [e]
    exact hp _ _ _
theorem r_b16 (d : D) : b16 [.un, .box 2, a2, a3, a4, a5, a6, a7, a8, a9, a10, a11, a12, .dat d, a14, a15, a16, a17, a18] = ok (.nx [.un, .box 2, a2, a3, a4, a5, a6, a7, a8, a9, a10, a11, a12, .dat d, a14, .dat (.bool (isNC d)), a16, a17, a18]) := by
  have hs := q_same 19 (.bool (isNC d)) (pl_bool _ _)
  have hend : ∀ f : List Sl → R D, f [.un, .box 2, a2, a3, a4, a5, a6, a7, a8, a9, a10, a11, a12, .dat d, a14, a15, a16, a17, a18] = ok (.bool (isNC d)) → (seqM (setM 15 f) (ifV (notT (m1 (m1 (consR (m1 (consR (nDR 13) nilR) (callR 1 m_is_nail_cord)) (consR (nDR 15) nilR)) (callR 2 (m_law_same 20))) truR)) (retM (kR (.bool false))) nilM)) [.un, .box 2, a2, a3, a4, a5, a6, a7, a8, a9, a10, a11, a12, .dat d, a14, a15, a16, a17, a18] = ok (.nx [.un, .box 2, a2, a3, a4, a5, a6, a7, a8, a9, a10, a11, a12, .dat d, a14, .dat (.bool (isNC d)), a16, a17, a18]) := by
    intro f hf
    rw [seqM_e, setM_e, hf]
    simp only [bd_ok, set_s, set_0, nxt_nx, ifV_e, notT_e, m1_e, consR_e, nDR_s, nDR_0, nilR_e, callR_1, callR_2, q_is_nail_cord, hs, truR_bool, Bool.not_true, Bool.false_eq_true, if_false, nilM_e]
  refine hend _ ?_
  cases d with
  | tuple ds =>
    have hc : lcM [18] (itR (nDR 13)) (gSet 18) yesT (andV (m1 (nDR 18) (isiR Pu.isInt)) (andV (notV (m1 (nDR 18) (isiR isBoo))) (andV (m2 (nDR 18) (kR (.int 0)) neR) (andV (m2 (m1 (kR (.int 8)) negR) (nDR 18) leR) (m2 (nDR 18) (kR (.int 8)) leR))))) [.un, .box 2, a2, a3, a4, a5, a6, a7, a8, a9, a10, a11, a12, .dat (.tuple ds), a14, a15, a16, a17, a18] = ok (ds.map fun x => .bool (isT x)) := by
      refine lcM_map (f := id) (by rw [List.map_id]; exact itR_tuple rfl) (fun x _ => ?_)
      simp only [wipeS, set_s, set_0, id]
      cases x with
      | int i =>
        simp only [andV_e, notV_e, m1_e, m2_e, nDR_s, nDR_0, kR_e, bd_ok, isiR, Pu.isInt, Pu.isBoo, truR_bool, if_true, Bool.not_false, neR_int, negR_int, leR_int, isT]
        by_cases h0 : i = 0
        · simp [h0]
        · by_cases h1 : -8 ≤ i <;> simp [h0, h1]
      | _ => rfl
    simp only [andV_e, m1_e, m2_e, consR_e, frz_e, hc, nDR_s, nDR_0, kR_e, nilR_e, bd_ok, isiR, Pu.isTup, truR_bool, if_true, lenR_tuple, leR_int, allR_bools, isNC]
    have e : ((ds.length : Int) ≤ 400) ↔ ds.length ≤ 400 := by omega
    by_cases h : ds.length ≤ 400 <;> simp [h, e]
  | _ => rfl
theorem r_x16 (hl : Ok l 44) (hp : ∀ v10 v13 v15, post (.nx [.un, .box 2, a2, .dat (tI l), a4, a5, a6, a7, a8, a9, v10, a11, a12, v13, a14, v15, a16, a17, a18])) : x16 [.un, .box 2, a2, .dat (tI l), a4, a5, a6, a7, a8, a9, a10, a11, a12, a13, a14, a15, a16, a17, a18] post := by
  have hlen := hl.len
  unfold x16
  rw [forM_e]
  unfold i16 itR
  have e1 : ∀ d : D, addR (tI l) (.tuple [d]) = ok (.tuple (l.map .int ++ [d])) := fun d => addR_tuple (by simp; omega)
  have e2 : ∀ k : Int, 0 ≤ k → k ≤ 1000 → mulR (.tuple [.int 1]) (.int k) = ok (.tuple (List.replicate k.toNat [PyData.int 1]).flatten) := by
    intro k h1 h2
    show bd (req _) _ = _
    rw [bd_req ⟨by omega, by omega, show 1 * k.toNat ≤ 2 ^ 24 by omega⟩]
  have e3 := e2 400 (by decide) (by decide)
  have e4 := e2 401 (by decide) (by decide)
  rw [m2_e, frz_e]
  simp only [m1_e, m2_e, m3_e, consR_e, nDR_s, nDR_0, kR_e, noR_e, nilR_e, bd_ok, tup1, e1, e3, e4, negR_int, lst11]
  rw [frz_e]
  simp only [bd_bd]
  refine bent_lc (n := 5) (ks := l) (by omega) (fun i hi => ?_) (by decide) (fun d => by simp [wipeS]) (fun d => by simp only [wipeS, set_s, set_0]; exact getX_1 _ _) _ fun ys hy => ?_
  · have := hl.rng i hi
    omega
  · simp only [bd_ok]
    rw [addR_list (by simp; omega), bd_ok, show ∀ xs, itemsR (.list xs) = ok xs from fun _ => rfl, bd_ok, bd_req (.inr (fun z e => by cases e))]
    obtain ⟨ρ', ⟨v13, v15, rfl⟩, e⟩ := any_loop (i := 13) (tb := b16) (fun ρ => ∃ v13 v15, ρ = [.un, .box 2, a2, .dat (tI l), a4, a5, a6, a7, a8, a9, a10, a11, a12, v13, a14, v15, a16, a17, a18]) (fun d ρ ⟨v13, v15, e⟩ => by
      subst e
      exact ⟨_, ⟨_, _, rfl⟩, r_b16 d⟩) _ [.un, .box 2, a2, .dat (tI l), a4, a5, a6, a7, a8, a9, a10, a11, a12, a13, a14, a15, a16, a17, a18] ⟨_, _, rfl⟩
    rw [e]
    exact hp _ _ _
end
end K58

namespace K58
open PySem PySem.Spec PyProof.Rows L2 Pu Cd
theorem seq_s {x t : List Sl → R Out} {ρ ρ' : List Sl} {post : Out → Prop} (h : x ρ = ok (.nx ρ')) (k : t ρ' post) : seqM x t ρ post := by
  rw [seqM_e, h, bd_ok, nxt_nx]; exact k
theorem seq_d {x t : List Sl → R Out} {ρ : List Sl} {post : Out → Prop} (h : x ρ (fun o => nxt t o post)) : seqM x t ρ post := h
def Sh (ρ : List Sl) : Prop := ∃ a2 a3 a4 a5 a6 a7 a8 a9 a10 a11 a12 a13 a14 a15 a16 a17 a18, ρ = [.un, .box 2, a2, a3, a4, a5, a6, a7, a8, a9, a10, a11, a12, a13, a14, a15, a16, a17, a18]
theorem r_body {ρ : List Sl} {d : D} {post : Out → Prop} (hs : Sh ρ) (hp : ∀ ρ', Sh ρ' → post (.nx ρ')) : body_ (ρ.set 2 (.dat d)) post := by
  obtain ⟨a2, a3, a4, a5, a6, a7, a8, a9, a10, a11, a12, a13, a14, a15, a16, a17, a18, rfl⟩ := hs
  simp only [set_s, set_0]
  unfold body_
  refine seq_d (r_x0 fun l hl => ?_)
  rw [nxt_nx]
  refine seq_d (r_x1 hl fun l hl => ?_)
  rw [nxt_nx]
  refine seq_s (r_x2 hl) ?_
  refine seq_s (r_x3 hl) ?_
  refine seq_s (r_x4 hl) ?_
  refine seq_s r_x5 ?_
  refine seq_s (r_x6 hl) ?_
  refine seq_d (r_x7 fun ns => ?_)
  rw [nxt_nx]
  refine seq_s (r_x8 hl) ?_
  refine seq_s (r_x9 hl) ?_
  refine seq_s r_x10 ?_
  refine seq_d (r_x11 hl fun v9 v10 v14 => ?_)
  rw [nxt_nx]
  refine seq_s (r_x12 hl) ?_
  refine seq_d (r_x13 hl fun ks hk => ?_)
  rw [nxt_nx]
  obtain ⟨ps, hps, h14⟩ := r_x14 hl hk
  refine seq_s h14 ?_
  refine seq_d (r_x15 hl hk hps fun w10 w13 w15 => ?_)
  rw [nxt_nx]
  refine r_x16 hl fun u10 u13 u15 => ?_
  exact hp _ ⟨_, _, _, _, _, _, _, _, _, _, _, _, _, _, _, _, _, rfl⟩
theorem tup6 (a b c d e f : D) : tupR [a, b, c, d, e, f] = ok (.tuple [a, b, c, d, e, f]) := tupR_e (show 6 ≤ 2 ^ 24 by omega)
theorem tup4 (a b c d : D) : tupR [a, b, c, d] = ok (.tuple [a, b, c, d]) := tupR_e (show 4 ≤ 2 ^ 24 by omega)
theorem r_y2 (ρ : List Sl) : y2 ρ = ok (.rt (.bool true)) := by
  have h1 : m_pulled_cord [.tuple [.int 1, .int 2, .int (-2), .int 3, .int (-3), .int 1]] = ok (.tuple [.int 1, .int 1]) := q_pulled [1, 2, -2, 3, -3, 1] (show 6 < 2 ^ 24 by omega)
  have h2 : m_first_pulls [.tuple [.int 1, .int 2, .int (-2), .int (-1)]] = ok (.tuple [.int 1, .int 0]) := q_first_some [1, 2, -2, -1] (show 4 < 2 ^ 24 by omega) (by decide)
  have h3 : m_matrix_of [.tuple [.int 1]] = ok (.tuple [.tuple [.int 5, .int (-8)], .tuple [.int 2, .int (-3)]]) := q_matrix [1] (by decide)
  have hs := q_same 19 (.tuple [.tuple [.int 1, .int 1], .tuple [.int 1, .int 0], .tuple [.tuple [.int 5, .int (-8)], .tuple [.int 2, .int (-3)]]]) (by
    refine ⟨show 3 < 2 ^ 24 by omega, fun x hx => ?_⟩
    simp at hx
    rcases hx with rfl | rfl | rfl
    · exact pl_2 (pl_int _ _) (pl_int _ _)
    · exact pl_2 (pl_int _ _) (pl_int _ _)
    · exact pl_2 (pl_2 (pl_int _ _) (pl_int _ _)) (pl_2 (pl_int _ _) (pl_int _ _)))
  unfold y2
  simp only [retM_e, m1_e, consR_e, kR_e, nilR_e, bd_ok, negR_int, tup6, tup4, tup2, tup1, tup3, callR_1, callR_2, h1, h2, h3, hs]
theorem r_y0 (ρ : List Sl) : y0 ρ = ok (.nx ρ) := by
  have h : neR (.tuple [.int 8, .int 400]) (.tuple [.int 8, .int 400]) = ok (.bool false) := neR_tup (l := [8, 400]) (k := [8, 400])
  unfold y0
  simp only [ifV_e, m1_e, m2_e, consR_e, kR_e, nilR_e, bd_ok, tup2, h, asB_bool, Bool.false_eq_true, if_false, nilM_e]
theorem law_true : g_law (.un :: .box 2 :: List.replicate 17 .un) fun o => o = .rt (.bool true) := by
  rw [g_law_parts]
  refine seq_s (r_y0 _) ?_
  refine seq_d ?_
  unfold y1
  rw [forM_e]
  have hr : range1R [.int 6] = ok ((List.range 6).map nI) := by
    have := range1_e (n := 6) (show (6 : Int) ≤ ((2 ^ 24 : Nat) : Int) by decide) (by decide)
    exact this
  simp only [m1_e, consR_e, kR_e, nilR_e, bd_ok, hr]
  refine forF_dem (fun _ ρ => Sh ρ) (fun x r ρ post j hp => r_body j fun ρ' j' => hp ρ' j') _ _ _ ⟨_, _, _, _, _, _, _, _, _, _, _, _, _, _, _, _, _, rfl⟩ fun ρ _ => ?_
  rw [nxt_nx, r_y2]
  rfl
end K58

namespace K58
open PySem PySem.Spec PyProof.Rows L2 Pu
theorem facts_mk {K : PySem.W.Frag} {h : Heap} {mg : Str → Option Value} (X : K.In h) (G : h.Ns mainGlobals mg)
  {f0 : Addr} {oc0 kV0 dc0 pm0 cd0 ct0 : Value} {od0 an0 : Option Addr} {sl0 : Array (Option Value)} {f1 : Addr} {oc1 kV1 dc1 pm1 cd1 ct1 : Value} {od1 an1 : Option Addr} {sl1 : Array (Option Value)} {f2 : Addr} {oc2 kV2 dc2 pm2 cd2 ct2 : Value} {od2 an2 : Option Addr} {sl2 : Array (Option Value)} {f3 : Addr} {oc3 kV3 dc3 pm3 cd3 ct3 : Value} {od3 an3 : Option Addr} {sl3 : Array (Option Value)} {f4 : Addr} {oc4 kV4 dc4 pm4 cd4 ct4 : Value} {od4 an4 : Option Addr} {sl4 : Array (Option Value)} {f5 : Addr} {oc5 kV5 dc5 pm5 cd5 ct5 : Value} {od5 an5 : Option Addr} {sl5 : Array (Option Value)} {f6 : Addr} {oc6 kV6 dc6 pm6 cd6 ct6 : Value} {od6 an6 : Option Addr} {sl6 : Array (Option Value)} {f7 : Addr} {oc7 kV7 dc7 pm7 cd7 ct7 : Value} {od7 an7 : Option Addr} {sl7 : Array (Option Value)} {f8 : Addr} {oc8 kV8 dc8 pm8 cd8 ct8 : Value} {od8 an8 : Option Addr} {sl8 : Array (Option Value)} {f9 : Addr} {oc9 kV9 dc9 pm9 cd9 ct9 : Value} {od9 an9 : Option Addr} {sl9 : Array (Option Value)} {f10 : Addr} {oc10 kV10 dc10 pm10 cd10 ct10 : Value} {od10 an10 : Option Addr} {sl10 : Array (Option Value)} {f11 : Addr} {oc11 kV11 dc11 pm11 cd11 ct11 : Value} {od11 an11 : Option Addr} {sl11 : Array (Option Value)} {f12 : Addr} {oc12 kV12 dc12 pm12 cd12 ct12 : Value} {od12 an12 : Option Addr} {sl12 : Array (Option Value)} {f13 : Addr} {oc13 kV13 dc13 pm13 cd13 ct13 : Value} {od13 an13 : Option Addr} {sl13 : Array (Option Value)} {f14 : Addr} {oc14 kV14 dc14 pm14 cd14 ct14 : Value} {od14 an14 : Option Addr} {sl14 : Array (Option Value)} {f15 : Addr} {oc15 kV15 dc15 pm15 cd15 ct15 : Value} {od15 an15 : Option Addr} {sl15 : Array (Option Value)} {f16 : Addr} {oc16 kV16 dc16 pm16 cd16 ct16 : Value} {od16 an16 : Option Addr} {sl16 : Array (Option Value)} {f17 : Addr} {oc17 kV17 dc17 pm17 cd17 ct17 : Value} {od17 an17 : Option Addr} {sl17 : Array (Option Value)} {f18 : Addr} {oc18 kV18 dc18 pm18 cd18 ct18 : Value} {od18 an18 : Option Addr} {sl18 : Array (Option Value)} {f19 : Addr} {oc19 kV19 dc19 pm19 cd19 ct19 : Value} {od19 an19 : Option Addr} {sl19 : Array (Option Value)} {f20 : Addr} {oc20 kV20 dc20 pm20 cd20 ct20 : Value} {od20 an20 : Option Addr} {sl20 : Array (Option Value)} {f21 : Addr} {oc21 kV21 dc21 pm21 cd21 ct21 : Value} {od21 an21 : Option Addr} {sl21 : Array (Option Value)} {f22 : Addr} {oc22 kV22 dc22 pm22 cd22 ct22 : Value} {od22 an22 : Option Addr} {sl22 : Array (Option Value)} {f23 : Addr} {oc23 kV23 dc23 pm23 cd23 ct23 : Value} {od23 an23 : Option Addr} {sl23 : Array (Option Value)} {f24 : Addr} {oc24 kV24 dc24 pm24 cd24 ct24 : Value} {od24 an24 : Option Addr} {sl24 : Array (Option Value)} {t0 : Tok} {t1 : Tok}
  (a0 : PySem.W.nsIn K mainGlobals "is_whole" = some (some (.ref f0))) (l0 : K.lookup f0 = some ⟨oc0, od0, .func (PySem.W.fnOf "is_whole" "is_whole" (defArgs s_is_whole) (defBody s_is_whole) (defScope s_is_whole) .none kV0 dc0 pm0 an0 cd0 ct0), sl0⟩) (c0 : PySem.W.codeIn K cd0 "is_whole" = true) (k0 : PySem.W.keepIn K (.ref f0) = true)
  (a1 : PySem.W.nsIn K mainGlobals "is_number" = some (some (.ref f1))) (l1 : K.lookup f1 = some ⟨oc1, od1, .func (PySem.W.fnOf "is_number" "is_number" (defArgs s_is_number) (defBody s_is_number) (defScope s_is_number) .none kV1 dc1 pm1 an1 cd1 ct1), sl1⟩) (c1 : PySem.W.codeIn K cd1 "is_number" = true) (k1 : PySem.W.keepIn K (.ref f1) = true)
  (a2 : PySem.W.nsIn K mainGlobals "is_turn" = some (some (.ref f2))) (l2 : K.lookup f2 = some ⟨oc2, od2, .func (PySem.W.fnOf "is_turn" "is_turn" (defArgs s_is_turn) (defBody s_is_turn) (defScope s_is_turn) .none kV2 dc2 pm2 an2 cd2 ct2), sl2⟩) (c2 : PySem.W.codeIn K cd2 "is_turn" = true) (k2 : PySem.W.keepIn K (.ref f2) = true)
  (a3 : PySem.W.nsIn K mainGlobals "is_nail_cord" = some (some (.ref f3))) (l3 : K.lookup f3 = some ⟨oc3, od3, .func (PySem.W.fnOf "is_nail_cord" "is_nail_cord" (defArgs s_is_nail_cord) (defBody s_is_nail_cord) (defScope s_is_nail_cord) .none kV3 dc3 pm3 an3 cd3 ct3), sl3⟩) (c3 : PySem.W.codeIn K cd3 "is_nail_cord" = true) (k3 : PySem.W.keepIn K (.ref f3) = true)
  (a4 : PySem.W.nsIn K mainGlobals "pulled_cord" = some (some (.ref f4))) (l4 : K.lookup f4 = some ⟨oc4, od4, .func (PySem.W.fnOf "pulled_cord" "pulled_cord" (defArgs s_pulled_cord) (defBody s_pulled_cord) (defScope s_pulled_cord) .none kV4 dc4 pm4 an4 cd4 ct4), sl4⟩) (c4 : PySem.W.codeIn K cd4 "pulled_cord" = true) (k4 : PySem.W.keepIn K (.ref f4) = true)
  (a5 : PySem.W.nsIn K mainGlobals "back_cord" = some (some (.ref f5))) (l5 : K.lookup f5 = some ⟨oc5, od5, .func (PySem.W.fnOf "back_cord" "back_cord" (defArgs s_back_cord) (defBody s_back_cord) (defScope s_back_cord) .none kV5 dc5 pm5 an5 cd5 ct5), sl5⟩) (c5 : PySem.W.codeIn K cd5 "back_cord" = true) (k5 : PySem.W.keepIn K (.ref f5) = true)
  (a6 : PySem.W.nsIn K mainGlobals "does_fall" = some (some (.ref f6))) (l6 : K.lookup f6 = some ⟨oc6, od6, .func (PySem.W.fnOf "does_fall" "does_fall" (defArgs s_does_fall) (defBody s_does_fall) (defScope s_does_fall) .none kV6 dc6 pm6 an6 cd6 ct6), sl6⟩) (c6 : PySem.W.codeIn K cd6 "does_fall" = true) (k6 : PySem.W.keepIn K (.ref f6) = true)
  (a7 : PySem.W.nsIn K mainGlobals "first_pulls" = some (some (.ref f7))) (l7 : K.lookup f7 = some ⟨oc7, od7, .func (PySem.W.fnOf "first_pulls" "first_pulls" (defArgs s_first_pulls) (defBody s_first_pulls) (defScope s_first_pulls) .none kV7 dc7 pm7 an7 cd7 ct7), sl7⟩) (c7 : PySem.W.codeIn K cd7 "first_pulls" = true) (k7 : PySem.W.keepIn K (.ref f7) = true)
  (a8 : PySem.W.nsIn K mainGlobals "are_pulls" = some (some (.ref f8))) (l8 : K.lookup f8 = some ⟨oc8, od8, .func (PySem.W.fnOf "are_pulls" "are_pulls" (defArgs s_are_pulls) (defBody s_are_pulls) (defScope s_are_pulls) .none kV8 dc8 pm8 an8 cd8 ct8), sl8⟩) (c8 : PySem.W.codeIn K cd8 "are_pulls" = true) (k8 : PySem.W.keepIn K (.ref f8) = true)
  (a9 : PySem.W.nsIn K mainGlobals "turn_matrix" = some (some (.ref f9))) (l9 : K.lookup f9 = some ⟨oc9, od9, .func (PySem.W.fnOf "turn_matrix" "turn_matrix" (defArgs s_turn_matrix) (defBody s_turn_matrix) (defScope s_turn_matrix) .none kV9 dc9 pm9 an9 cd9 ct9), sl9⟩) (c9 : PySem.W.codeIn K cd9 "turn_matrix" = true) (k9 : PySem.W.keepIn K (.ref f9) = true)
  (a10 : PySem.W.nsIn K mainGlobals "times_matrix" = some (some (.ref f10))) (l10 : K.lookup f10 = some ⟨oc10, od10, .func (PySem.W.fnOf "times_matrix" "times_matrix" (defArgs s_times_matrix) (defBody s_times_matrix) (defScope s_times_matrix) .none kV10 dc10 pm10 an10 cd10 ct10), sl10⟩) (c10 : PySem.W.codeIn K cd10 "times_matrix" = true) (k10 : PySem.W.keepIn K (.ref f10) = true)
  (a11 : PySem.W.nsIn K mainGlobals "matrix_of" = some (some (.ref f11))) (l11 : K.lookup f11 = some ⟨oc11, od11, .func (PySem.W.fnOf "matrix_of" "matrix_of" (defArgs s_matrix_of) (defBody s_matrix_of) (defScope s_matrix_of) .none kV11 dc11 pm11 an11 cd11 ct11), sl11⟩) (c11 : PySem.W.codeIn K cd11 "matrix_of" = true) (k11 : PySem.W.keepIn K (.ref f11) = true)
  (a12 : PySem.W.nsIn K mainGlobals "without_nails" = some (some (.ref f12))) (l12 : K.lookup f12 = some ⟨oc12, od12, .func (PySem.W.fnOf "without_nails" "without_nails" (defArgs s_without_nails) (defBody s_without_nails) (defScope s_without_nails) .none kV12 dc12 pm12 an12 cd12 ct12), sl12⟩) (c12 : PySem.W.codeIn K cd12 "without_nails" = true) (k12 : PySem.W.keepIn K (.ref f12) = true)
  (a13 : PySem.W.nsIn K mainGlobals "_law_box" = some (some (.ref f13))) (l13 : K.lookup f13 = some ⟨oc13, od13, .func (PySem.W.fnOf "_law_box" "_law_box" (defArgs s_law_box) (defBody s_law_box) (defScope s_law_box) .none kV13 dc13 pm13 an13 cd13 ct13), sl13⟩) (c13 : PySem.W.codeIn K cd13 "_law_box" = true) (k13 : PySem.W.keepIn K (.ref f13) = true)
  (a14 : PySem.W.nsIn K mainGlobals "_law_load" = some (some (.ref f14))) (l14 : K.lookup f14 = some ⟨oc14, od14, .func (PySem.W.fnOf "_law_load" "_law_load" (defArgs s_law_load) (defBody s_law_load) (defScope s_law_load) .none kV14 dc14 pm14 an14 cd14 ct14), sl14⟩) (c14 : PySem.W.codeIn K cd14 "_law_load" = true) (k14 : PySem.W.keepIn K (.ref f14) = true)
  (a15 : PySem.W.nsIn K mainGlobals "_law_draw" = some (some (.ref f15))) (l15 : K.lookup f15 = some ⟨oc15, od15, .func (PySem.W.fnOf "_law_draw" "_law_draw" (defArgs s_law_draw) (defBody s_law_draw) (defScope s_law_draw) .none kV15 dc15 pm15 an15 cd15 ct15), sl15⟩) (c15 : PySem.W.codeIn K cd15 "_law_draw" = true) (k15 : PySem.W.keepIn K (.ref f15) = true)
  (a16 : PySem.W.nsIn K mainGlobals "_law_same" = some (some (.ref f16))) (l16 : K.lookup f16 = some ⟨oc16, od16, .func (PySem.W.fnOf "_law_same" "_law_same" (defArgs s_law_same) (defBody s_law_same) (defScope s_law_same) .none kV16 dc16 pm16 an16 cd16 ct16), sl16⟩) (c16 : PySem.W.codeIn K cd16 "_law_same" = true) (k16 : PySem.W.keepIn K (.ref f16) = true)
  (a17 : PySem.W.nsIn K mainGlobals "_law_pulled" = some (some (.ref f17))) (l17 : K.lookup f17 = some ⟨oc17, od17, .func (PySem.W.fnOf "_law_pulled" "_law_pulled" (defArgs s_law_pulled) (defBody s_law_pulled) (defScope s_law_pulled) .none kV17 dc17 pm17 an17 cd17 ct17), sl17⟩) (c17 : PySem.W.codeIn K cd17 "_law_pulled" = true) (k17 : PySem.W.keepIn K (.ref f17) = true)
  (a18 : PySem.W.nsIn K mainGlobals "_law_cord" = some (some (.ref f18))) (l18 : K.lookup f18 = some ⟨oc18, od18, .func (PySem.W.fnOf "_law_cord" "_law_cord" (defArgs s_law_cord) (defBody s_law_cord) (defScope s_law_cord) .none kV18 dc18 pm18 an18 cd18 ct18), sl18⟩) (c18 : PySem.W.codeIn K cd18 "_law_cord" = true) (k18 : PySem.W.keepIn K (.ref f18) = true)
  (a19 : PySem.W.nsIn K mainGlobals "_law_left" = some (some (.ref f19))) (l19 : K.lookup f19 = some ⟨oc19, od19, .func (PySem.W.fnOf "_law_left" "_law_left" (defArgs s_law_left) (defBody s_law_left) (defScope s_law_left) .none kV19 dc19 pm19 an19 cd19 ct19), sl19⟩) (c19 : PySem.W.codeIn K cd19 "_law_left" = true) (k19 : PySem.W.keepIn K (.ref f19) = true)
  (a20 : PySem.W.nsIn K mainGlobals "_law_bent" = some (some (.ref f20))) (l20 : K.lookup f20 = some ⟨oc20, od20, .func (PySem.W.fnOf "_law_bent" "_law_bent" (defArgs s_law_bent) (defBody s_law_bent) (defScope s_law_bent) .none kV20 dc20 pm20 an20 cd20 ct20), sl20⟩) (c20 : PySem.W.codeIn K cd20 "_law_bent" = true) (k20 : PySem.W.keepIn K (.ref f20) = true)
  (a21 : PySem.W.nsIn K mainGlobals "_law_times" = some (some (.ref f21))) (l21 : K.lookup f21 = some ⟨oc21, od21, .func (PySem.W.fnOf "_law_times" "_law_times" (defArgs s_law_times) (defBody s_law_times) (defScope s_law_times) .none kV21 dc21 pm21 an21 cd21 ct21), sl21⟩) (c21 : PySem.W.codeIn K cd21 "_law_times" = true) (k21 : PySem.W.keepIn K (.ref f21) = true)
  (a22 : PySem.W.nsIn K mainGlobals "_law_matrix" = some (some (.ref f22))) (l22 : K.lookup f22 = some ⟨oc22, od22, .func (PySem.W.fnOf "_law_matrix" "_law_matrix" (defArgs s_law_matrix) (defBody s_law_matrix) (defScope s_law_matrix) .none kV22 dc22 pm22 an22 cd22 ct22), sl22⟩) (c22 : PySem.W.codeIn K cd22 "_law_matrix" = true) (k22 : PySem.W.keepIn K (.ref f22) = true)
  (a23 : PySem.W.nsIn K mainGlobals "_law_are_pulls" = some (some (.ref f23))) (l23 : K.lookup f23 = some ⟨oc23, od23, .func (PySem.W.fnOf "_law_are_pulls" "_law_are_pulls" (defArgs s_law_are_pulls) (defBody s_law_are_pulls) (defScope s_law_are_pulls) .none kV23 dc23 pm23 an23 cd23 ct23), sl23⟩) (c23 : PySem.W.codeIn K cd23 "_law_are_pulls" = true) (k23 : PySem.W.keepIn K (.ref f23) = true)
  (a24 : PySem.W.nsIn K mainGlobals "law" = some (some (.ref f24))) (l24 : K.lookup f24 = some ⟨oc24, od24, .func (PySem.W.fnOf "law" "law" (defArgs s_law) (defBody s_law) (defScope s_law) .none kV24 dc24 pm24 an24 cd24 ct24), sl24⟩) (c24 : PySem.W.codeIn K cd24 "law" = true) (k24 : PySem.W.keepIn K (.ref f24) = true)
  (z0 : PySem.W.nsIn K mainGlobals "abs" = some none)
  (z1 : PySem.W.nsIn K mainGlobals "all" = some none)
  (z2 : PySem.W.nsIn K mainGlobals "bool" = some none)
  (z3 : PySem.W.nsIn K mainGlobals "int" = some none)
  (z4 : PySem.W.nsIn K mainGlobals "isinstance" = some none)
  (z5 : PySem.W.nsIn K mainGlobals "len" = some none)
  (z6 : PySem.W.nsIn K mainGlobals "list" = some none)
  (z7 : PySem.W.nsIn K mainGlobals "range" = some none)
  (z8 : PySem.W.nsIn K mainGlobals "str" = some none)
  (z9 : PySem.W.nsIn K mainGlobals "tuple" = some none)
  (y0 : PySem.W.nsIn K mainGlobals "MOST_NAILS" = some (some (.int (8) t0)))
  (y1 : PySem.W.nsIn K mainGlobals "MOST_TURNS" = some (some (.int (400) t1))) : Facts K mg where
  f_is_whole := ⟨f0, _, PySem.W.mg_of X G a0, fun_mk (st := s_is_whole) l0 c0 k0, (fun_mk (st := s_is_whole) l0 c0 k0).binds (ps := ["value"]) fun _ _ _ _ _ _ us hl => match us, hl with | [_], _ => rfl⟩
  f_is_number := ⟨f1, _, PySem.W.mg_of X G a1, fun_mk (st := s_is_number) l1 c1 k1, (fun_mk (st := s_is_number) l1 c1 k1).binds (ps := ["value", "least", "most"]) fun _ _ _ _ _ _ us hl => match us, hl with | [_, _, _], _ => rfl⟩
  f_is_turn := ⟨f2, _, PySem.W.mg_of X G a2, fun_mk (st := s_is_turn) l2 c2 k2, (fun_mk (st := s_is_turn) l2 c2 k2).binds (ps := ["value"]) fun _ _ _ _ _ _ us hl => match us, hl with | [_], _ => rfl⟩
  f_is_nail_cord := ⟨f3, _, PySem.W.mg_of X G a3, fun_mk (st := s_is_nail_cord) l3 c3 k3, (fun_mk (st := s_is_nail_cord) l3 c3 k3).binds (ps := ["value"]) fun _ _ _ _ _ _ us hl => match us, hl with | [_], _ => rfl⟩
  f_pulled_cord := ⟨f4, _, PySem.W.mg_of X G a4, fun_mk (st := s_pulled_cord) l4 c4 k4, (fun_mk (st := s_pulled_cord) l4 c4 k4).binds (ps := ["cord"]) fun _ _ _ _ _ _ us hl => match us, hl with | [_], _ => rfl⟩
  f_back_cord := ⟨f5, _, PySem.W.mg_of X G a5, fun_mk (st := s_back_cord) l5 c5 k5, (fun_mk (st := s_back_cord) l5 c5 k5).binds (ps := ["cord"]) fun _ _ _ _ _ _ us hl => match us, hl with | [_], _ => rfl⟩
  f_does_fall := ⟨f6, _, PySem.W.mg_of X G a6, fun_mk (st := s_does_fall) l6 c6 k6, (fun_mk (st := s_does_fall) l6 c6 k6).binds (ps := ["cord"]) fun _ _ _ _ _ _ us hl => match us, hl with | [_], _ => rfl⟩
  f_first_pulls := ⟨f7, _, PySem.W.mg_of X G a7, fun_mk (st := s_first_pulls) l7 c7 k7, (fun_mk (st := s_first_pulls) l7 c7 k7).binds (ps := ["cord"]) fun _ _ _ _ _ _ us hl => match us, hl with | [_], _ => rfl⟩
  f_are_pulls := ⟨f8, _, PySem.W.mg_of X G a8, fun_mk (st := s_are_pulls) l8 c8 k8, (fun_mk (st := s_are_pulls) l8 c8 k8).binds (ps := ["cord", "value"]) fun _ _ _ _ _ _ us hl => match us, hl with | [_, _], _ => rfl⟩
  f_turn_matrix := ⟨f9, _, PySem.W.mg_of X G a9, fun_mk (st := s_turn_matrix) l9 c9 k9, (fun_mk (st := s_turn_matrix) l9 c9 k9).binds (ps := ["turn"]) fun _ _ _ _ _ _ us hl => match us, hl with | [_], _ => rfl⟩
  f_times_matrix := ⟨f10, _, PySem.W.mg_of X G a10, fun_mk (st := s_times_matrix) l10 c10 k10, (fun_mk (st := s_times_matrix) l10 c10 k10).binds (ps := ["one", "other"]) fun _ _ _ _ _ _ us hl => match us, hl with | [_, _], _ => rfl⟩
  f_matrix_of := ⟨f11, _, PySem.W.mg_of X G a11, fun_mk (st := s_matrix_of) l11 c11 k11, (fun_mk (st := s_matrix_of) l11 c11 k11).binds (ps := ["cord"]) fun _ _ _ _ _ _ us hl => match us, hl with | [_], _ => rfl⟩
  f_without_nails := ⟨f12, _, PySem.W.mg_of X G a12, fun_mk (st := s_without_nails) l12 c12 k12, (fun_mk (st := s_without_nails) l12 c12 k12).binds (ps := ["cord", "nails"]) fun _ _ _ _ _ _ us hl => match us, hl with | [_, _], _ => rfl⟩
  f_law_box := ⟨f13, _, PySem.W.mg_of X G a13, fun_mk (st := s_law_box) l13 c13 k13, (fun_mk (st := s_law_box) l13 c13 k13).binds (ps := ["script"]) fun _ _ _ _ _ _ us hl => match us, hl with | [_], _ => rfl⟩
  f_law_load := ⟨f14, _, PySem.W.mg_of X G a14, fun_mk (st := s_law_load) l14 c14 k14, (fun_mk (st := s_law_load) l14 c14 k14).binds (ps := ["box"]) fun _ _ _ _ _ _ us hl => match us, hl with | [_], _ => rfl⟩
  f_law_draw := ⟨f15, _, PySem.W.mg_of X G a15, fun_mk (st := s_law_draw) l15 c15 k15, (fun_mk (st := s_law_draw) l15 c15 k15).binds (ps := ["box", "many"]) fun _ _ _ _ _ _ us hl => match us, hl with | [_, _], _ => rfl⟩
  f_law_same := ⟨f16, _, PySem.W.mg_of X G a16, fun_mk (st := s_law_same) l16 c16 k16, (fun_mk (st := s_law_same) l16 c16 k16).binds (ps := ["a", "b"]) fun _ _ _ _ _ _ us hl => match us, hl with | [_, _], _ => rfl⟩
  f_law_pulled := ⟨f17, _, PySem.W.mg_of X G a17, fun_mk (st := s_law_pulled) l17 c17 k17, (fun_mk (st := s_law_pulled) l17 c17 k17).binds (ps := ["cord"]) fun _ _ _ _ _ _ us hl => match us, hl with | [_], _ => rfl⟩
  f_law_cord := ⟨f18, _, PySem.W.mg_of X G a18, fun_mk (st := s_law_cord) l18 c18 k18, (fun_mk (st := s_law_cord) l18 c18 k18).binds (ps := ["box", "many", "most"]) fun _ _ _ _ _ _ us hl => match us, hl with | [_, _, _], _ => rfl⟩
  f_law_left := ⟨f19, _, PySem.W.mg_of X G a19, fun_mk (st := s_law_left) l19 c19 k19, (fun_mk (st := s_law_left) l19 c19 k19).binds (ps := ["cord", "nails"]) fun _ _ _ _ _ _ us hl => match us, hl with | [_, _], _ => rfl⟩
  f_law_bent := ⟨f20, _, PySem.W.mg_of X G a20, fun_mk (st := s_law_bent) l20 c20 k20, (fun_mk (st := s_law_bent) l20 c20 k20).binds (ps := ["box", "value"]) fun _ _ _ _ _ _ us hl => match us, hl with | [_, _], _ => rfl⟩
  f_law_times := ⟨f21, _, PySem.W.mg_of X G a21, fun_mk (st := s_law_times) l21 c21 k21, (fun_mk (st := s_law_times) l21 c21 k21).binds (ps := ["a", "b"]) fun _ _ _ _ _ _ us hl => match us, hl with | [_, _], _ => rfl⟩
  f_law_matrix := ⟨f22, _, PySem.W.mg_of X G a22, fun_mk (st := s_law_matrix) l22 c22 k22, (fun_mk (st := s_law_matrix) l22 c22 k22).binds (ps := ["cord"]) fun _ _ _ _ _ _ us hl => match us, hl with | [_], _ => rfl⟩
  f_law_are_pulls := ⟨f23, _, PySem.W.mg_of X G a23, fun_mk (st := s_law_are_pulls) l23 c23 k23, (fun_mk (st := s_law_are_pulls) l23 c23 k23).binds (ps := ["cord", "value"]) fun _ _ _ _ _ _ us hl => match us, hl with | [_, _], _ => rfl⟩
  f_law := ⟨f24, _, PySem.W.mg_of X G a24, fun_mk (st := s_law) l24 c24 k24, (fun_mk (st := s_law) l24 c24 k24).binds (ps := ["script"]) fun _ _ _ _ _ _ us hl => match us, hl with | [_], _ => rfl⟩
  b_abs := PySem.W.mg_none_of X G z0
  b_all := PySem.W.mg_none_of X G z1
  b_bool := PySem.W.mg_none_of X G z2
  b_int := PySem.W.mg_none_of X G z3
  b_isinstance := PySem.W.mg_none_of X G z4
  b_len := PySem.W.mg_none_of X G z5
  b_list := PySem.W.mg_none_of X G z6
  b_range := PySem.W.mg_none_of X G z7
  b_str := PySem.W.mg_none_of X G z8
  b_tuple := PySem.W.mg_none_of X G z9
  c_MOST_NAILS := ⟨t0, PySem.W.mg_of X G y0⟩
  c_MOST_TURNS := ⟨t1, PySem.W.mg_of X G y1⟩

section
variable {P : Program} {w : World} {K : PySem.W.Frag} {mg : Str → Option Value} {base : Heap}
theorem all_walks (T : Facts K mg) (hlaw : g_law (.un :: .box 2 :: List.replicate 17 .un) fun o => o = .rt (.bool true)) {f : Addr} {fd : FuncData} (F : Fun K "law" "law" s_law f fd) : FnOk P w K mg base CX0 22 f fd ["script"] (spLaw K) :=
  have d_is_whole : Def P w K mg base "is_whole" ["value"] 1 (spR K 1 m_is_whole) := w_is_whole T
  have d_is_number : Def P w K mg base "is_number" ["value", "least", "most"] 1 (spR K 3 m_is_number) := w_is_number T
  have d_is_turn : Def P w K mg base "is_turn" ["value"] 2 (spR K 1 m_is_turn) := w_is_turn T d_is_number
  have d_is_nail_cord : Def P w K mg base "is_nail_cord" ["value"] 3 (spR K 1 m_is_nail_cord) := w_is_nail_cord T d_is_turn
  have d_pulled_cord : Def P w K mg base "pulled_cord" ["cord"] 1 (spR K 1 m_pulled_cord) := w_pulled_cord T
  have d_back_cord : Def P w K mg base "back_cord" ["cord"] 1 (spR K 1 m_back_cord) := w_back_cord T
  have d_does_fall : Def P w K mg base "does_fall" ["cord"] 2 (spR K 1 m_does_fall) := w_does_fall T d_pulled_cord
  have d_first_pulls : Def P w K mg base "first_pulls" ["cord"] 3 (spR K 1 m_first_pulls) := w_first_pulls T d_does_fall
  have d_are_pulls : Def P w K mg base "are_pulls" ["cord", "value"] 2 (spR K 2 m_are_pulls) := w_are_pulls T d_is_whole
  have d_turn_matrix : Def P w K mg base "turn_matrix" ["turn"] 1 (spR K 1 m_turn_matrix) := w_turn_matrix T
  have d_times_matrix : Def P w K mg base "times_matrix" ["one", "other"] 1 (spR K 2 m_times_matrix) := w_times_matrix T
  have d_matrix_of : Def P w K mg base "matrix_of" ["cord"] 2 (spR K 1 m_matrix_of) := w_matrix_of T d_times_matrix d_turn_matrix
  have d_without_nails : Def P w K mg base "without_nails" ["cord", "nails"] 2 (spR K 2 m_without_nails) := w_without_nails T d_pulled_cord
  have d_law_box : Def P w K mg base "_law_box" ["script"] 1 (spBox K) := w_law_box T
  have d_law_load : Def P w K mg base "_law_load" ["box"] 1 spLoad := w_law_load T
  have d_law_draw : Def P w K mg base "_law_draw" ["box", "many"] 2 (spX K 2 1 drawM) := w_law_draw T d_law_load
  have d_law_same : ∀ i, Def P w K mg base "_law_same" ["a", "b"] (0 + i) (spR K 2 (m_law_same i)) := w_law_same T
  have d_law_pulled : Def P w K mg base "_law_pulled" ["cord"] 1 (spR K 1 m_law_pulled) := w_law_pulled T
  have d_law_cord : Def P w K mg base "_law_cord" ["box", "many", "most"] 3 (spX K 2 2 m_law_cord) := w_law_cord T d_law_draw
  have d_law_left : Def P w K mg base "_law_left" ["cord", "nails"] 2 (spR K 2 m_law_left) := w_law_left T d_law_pulled
  have d_law_bent : ∀ i, Def P w K mg base "_law_bent" ["box", "value"] (2 + i) (spX K 2 1 (m_law_bent i)) := w_law_bent T d_law_draw
  have d_law_times : Def P w K mg base "_law_times" ["a", "b"] 1 (spR K 2 m_law_times) := w_law_times T
  have d_law_matrix : Def P w K mg base "_law_matrix" ["cord"] 2 (spR K 1 m_law_matrix) := w_law_matrix T d_law_times
  have d_law_are_pulls : Def P w K mg base "_law_are_pulls" ["cord", "value"] 1 (spR K 2 m_law_are_pulls) := w_law_are_pulls T
  w_law T d_law_box d_law_cord d_law_draw d_law_pulled d_is_nail_cord d_law_same d_does_fall d_pulled_cord d_law_matrix d_matrix_of d_back_cord d_law_left d_without_nails d_first_pulls d_law_bent d_law_are_pulls d_are_pulls hlaw F
end
theorem fin_mk {l : PySem.W.OpenLaw} {w : World} {K : PySem.W.Frag} {h : Heap} {mg : Str → Option Value} {fa : Addr} (X : K.In h) (G : h.Ns mainGlobals mg) (hmg : mg "law" = some (.ref fa))
  {f0 : Addr} {oc0 kV0 dc0 pm0 cd0 ct0 : Value} {od0 an0 : Option Addr} {sl0 : Array (Option Value)} {f1 : Addr} {oc1 kV1 dc1 pm1 cd1 ct1 : Value} {od1 an1 : Option Addr} {sl1 : Array (Option Value)} {f2 : Addr} {oc2 kV2 dc2 pm2 cd2 ct2 : Value} {od2 an2 : Option Addr} {sl2 : Array (Option Value)} {f3 : Addr} {oc3 kV3 dc3 pm3 cd3 ct3 : Value} {od3 an3 : Option Addr} {sl3 : Array (Option Value)} {f4 : Addr} {oc4 kV4 dc4 pm4 cd4 ct4 : Value} {od4 an4 : Option Addr} {sl4 : Array (Option Value)} {f5 : Addr} {oc5 kV5 dc5 pm5 cd5 ct5 : Value} {od5 an5 : Option Addr} {sl5 : Array (Option Value)} {f6 : Addr} {oc6 kV6 dc6 pm6 cd6 ct6 : Value} {od6 an6 : Option Addr} {sl6 : Array (Option Value)} {f7 : Addr} {oc7 kV7 dc7 pm7 cd7 ct7 : Value} {od7 an7 : Option Addr} {sl7 : Array (Option Value)} {f8 : Addr} {oc8 kV8 dc8 pm8 cd8 ct8 : Value} {od8 an8 : Option Addr} {sl8 : Array (Option Value)} {f9 : Addr} {oc9 kV9 dc9 pm9 cd9 ct9 : Value} {od9 an9 : Option Addr} {sl9 : Array (Option Value)} {f10 : Addr} {oc10 kV10 dc10 pm10 cd10 ct10 : Value} {od10 an10 : Option Addr} {sl10 : Array (Option Value)} {f11 : Addr} {oc11 kV11 dc11 pm11 cd11 ct11 : Value} {od11 an11 : Option Addr} {sl11 : Array (Option Value)} {f12 : Addr} {oc12 kV12 dc12 pm12 cd12 ct12 : Value} {od12 an12 : Option Addr} {sl12 : Array (Option Value)} {f13 : Addr} {oc13 kV13 dc13 pm13 cd13 ct13 : Value} {od13 an13 : Option Addr} {sl13 : Array (Option Value)} {f14 : Addr} {oc14 kV14 dc14 pm14 cd14 ct14 : Value} {od14 an14 : Option Addr} {sl14 : Array (Option Value)} {f15 : Addr} {oc15 kV15 dc15 pm15 cd15 ct15 : Value} {od15 an15 : Option Addr} {sl15 : Array (Option Value)} {f16 : Addr} {oc16 kV16 dc16 pm16 cd16 ct16 : Value} {od16 an16 : Option Addr} {sl16 : Array (Option Value)} {f17 : Addr} {oc17 kV17 dc17 pm17 cd17 ct17 : Value} {od17 an17 : Option Addr} {sl17 : Array (Option Value)} {f18 : Addr} {oc18 kV18 dc18 pm18 cd18 ct18 : Value} {od18 an18 : Option Addr} {sl18 : Array (Option Value)} {f19 : Addr} {oc19 kV19 dc19 pm19 cd19 ct19 : Value} {od19 an19 : Option Addr} {sl19 : Array (Option Value)} {f20 : Addr} {oc20 kV20 dc20 pm20 cd20 ct20 : Value} {od20 an20 : Option Addr} {sl20 : Array (Option Value)} {f21 : Addr} {oc21 kV21 dc21 pm21 cd21 ct21 : Value} {od21 an21 : Option Addr} {sl21 : Array (Option Value)} {f22 : Addr} {oc22 kV22 dc22 pm22 cd22 ct22 : Value} {od22 an22 : Option Addr} {sl22 : Array (Option Value)} {f23 : Addr} {oc23 kV23 dc23 pm23 cd23 ct23 : Value} {od23 an23 : Option Addr} {sl23 : Array (Option Value)} {f24 : Addr} {oc24 kV24 dc24 pm24 cd24 ct24 : Value} {od24 an24 : Option Addr} {sl24 : Array (Option Value)} {t0 : Tok} {t1 : Tok}
  (a0 : PySem.W.nsIn K mainGlobals "is_whole" = some (some (.ref f0))) (l0 : K.lookup f0 = some ⟨oc0, od0, .func (PySem.W.fnOf "is_whole" "is_whole" (defArgs s_is_whole) (defBody s_is_whole) (defScope s_is_whole) .none kV0 dc0 pm0 an0 cd0 ct0), sl0⟩) (c0 : PySem.W.codeIn K cd0 "is_whole" = true) (k0 : PySem.W.keepIn K (.ref f0) = true)
  (a1 : PySem.W.nsIn K mainGlobals "is_number" = some (some (.ref f1))) (l1 : K.lookup f1 = some ⟨oc1, od1, .func (PySem.W.fnOf "is_number" "is_number" (defArgs s_is_number) (defBody s_is_number) (defScope s_is_number) .none kV1 dc1 pm1 an1 cd1 ct1), sl1⟩) (c1 : PySem.W.codeIn K cd1 "is_number" = true) (k1 : PySem.W.keepIn K (.ref f1) = true)
  (a2 : PySem.W.nsIn K mainGlobals "is_turn" = some (some (.ref f2))) (l2 : K.lookup f2 = some ⟨oc2, od2, .func (PySem.W.fnOf "is_turn" "is_turn" (defArgs s_is_turn) (defBody s_is_turn) (defScope s_is_turn) .none kV2 dc2 pm2 an2 cd2 ct2), sl2⟩) (c2 : PySem.W.codeIn K cd2 "is_turn" = true) (k2 : PySem.W.keepIn K (.ref f2) = true)
  (a3 : PySem.W.nsIn K mainGlobals "is_nail_cord" = some (some (.ref f3))) (l3 : K.lookup f3 = some ⟨oc3, od3, .func (PySem.W.fnOf "is_nail_cord" "is_nail_cord" (defArgs s_is_nail_cord) (defBody s_is_nail_cord) (defScope s_is_nail_cord) .none kV3 dc3 pm3 an3 cd3 ct3), sl3⟩) (c3 : PySem.W.codeIn K cd3 "is_nail_cord" = true) (k3 : PySem.W.keepIn K (.ref f3) = true)
  (a4 : PySem.W.nsIn K mainGlobals "pulled_cord" = some (some (.ref f4))) (l4 : K.lookup f4 = some ⟨oc4, od4, .func (PySem.W.fnOf "pulled_cord" "pulled_cord" (defArgs s_pulled_cord) (defBody s_pulled_cord) (defScope s_pulled_cord) .none kV4 dc4 pm4 an4 cd4 ct4), sl4⟩) (c4 : PySem.W.codeIn K cd4 "pulled_cord" = true) (k4 : PySem.W.keepIn K (.ref f4) = true)
  (a5 : PySem.W.nsIn K mainGlobals "back_cord" = some (some (.ref f5))) (l5 : K.lookup f5 = some ⟨oc5, od5, .func (PySem.W.fnOf "back_cord" "back_cord" (defArgs s_back_cord) (defBody s_back_cord) (defScope s_back_cord) .none kV5 dc5 pm5 an5 cd5 ct5), sl5⟩) (c5 : PySem.W.codeIn K cd5 "back_cord" = true) (k5 : PySem.W.keepIn K (.ref f5) = true)
  (a6 : PySem.W.nsIn K mainGlobals "does_fall" = some (some (.ref f6))) (l6 : K.lookup f6 = some ⟨oc6, od6, .func (PySem.W.fnOf "does_fall" "does_fall" (defArgs s_does_fall) (defBody s_does_fall) (defScope s_does_fall) .none kV6 dc6 pm6 an6 cd6 ct6), sl6⟩) (c6 : PySem.W.codeIn K cd6 "does_fall" = true) (k6 : PySem.W.keepIn K (.ref f6) = true)
  (a7 : PySem.W.nsIn K mainGlobals "first_pulls" = some (some (.ref f7))) (l7 : K.lookup f7 = some ⟨oc7, od7, .func (PySem.W.fnOf "first_pulls" "first_pulls" (defArgs s_first_pulls) (defBody s_first_pulls) (defScope s_first_pulls) .none kV7 dc7 pm7 an7 cd7 ct7), sl7⟩) (c7 : PySem.W.codeIn K cd7 "first_pulls" = true) (k7 : PySem.W.keepIn K (.ref f7) = true)
  (a8 : PySem.W.nsIn K mainGlobals "are_pulls" = some (some (.ref f8))) (l8 : K.lookup f8 = some ⟨oc8, od8, .func (PySem.W.fnOf "are_pulls" "are_pulls" (defArgs s_are_pulls) (defBody s_are_pulls) (defScope s_are_pulls) .none kV8 dc8 pm8 an8 cd8 ct8), sl8⟩) (c8 : PySem.W.codeIn K cd8 "are_pulls" = true) (k8 : PySem.W.keepIn K (.ref f8) = true)
  (a9 : PySem.W.nsIn K mainGlobals "turn_matrix" = some (some (.ref f9))) (l9 : K.lookup f9 = some ⟨oc9, od9, .func (PySem.W.fnOf "turn_matrix" "turn_matrix" (defArgs s_turn_matrix) (defBody s_turn_matrix) (defScope s_turn_matrix) .none kV9 dc9 pm9 an9 cd9 ct9), sl9⟩) (c9 : PySem.W.codeIn K cd9 "turn_matrix" = true) (k9 : PySem.W.keepIn K (.ref f9) = true)
  (a10 : PySem.W.nsIn K mainGlobals "times_matrix" = some (some (.ref f10))) (l10 : K.lookup f10 = some ⟨oc10, od10, .func (PySem.W.fnOf "times_matrix" "times_matrix" (defArgs s_times_matrix) (defBody s_times_matrix) (defScope s_times_matrix) .none kV10 dc10 pm10 an10 cd10 ct10), sl10⟩) (c10 : PySem.W.codeIn K cd10 "times_matrix" = true) (k10 : PySem.W.keepIn K (.ref f10) = true)
  (a11 : PySem.W.nsIn K mainGlobals "matrix_of" = some (some (.ref f11))) (l11 : K.lookup f11 = some ⟨oc11, od11, .func (PySem.W.fnOf "matrix_of" "matrix_of" (defArgs s_matrix_of) (defBody s_matrix_of) (defScope s_matrix_of) .none kV11 dc11 pm11 an11 cd11 ct11), sl11⟩) (c11 : PySem.W.codeIn K cd11 "matrix_of" = true) (k11 : PySem.W.keepIn K (.ref f11) = true)
  (a12 : PySem.W.nsIn K mainGlobals "without_nails" = some (some (.ref f12))) (l12 : K.lookup f12 = some ⟨oc12, od12, .func (PySem.W.fnOf "without_nails" "without_nails" (defArgs s_without_nails) (defBody s_without_nails) (defScope s_without_nails) .none kV12 dc12 pm12 an12 cd12 ct12), sl12⟩) (c12 : PySem.W.codeIn K cd12 "without_nails" = true) (k12 : PySem.W.keepIn K (.ref f12) = true)
  (a13 : PySem.W.nsIn K mainGlobals "_law_box" = some (some (.ref f13))) (l13 : K.lookup f13 = some ⟨oc13, od13, .func (PySem.W.fnOf "_law_box" "_law_box" (defArgs s_law_box) (defBody s_law_box) (defScope s_law_box) .none kV13 dc13 pm13 an13 cd13 ct13), sl13⟩) (c13 : PySem.W.codeIn K cd13 "_law_box" = true) (k13 : PySem.W.keepIn K (.ref f13) = true)
  (a14 : PySem.W.nsIn K mainGlobals "_law_load" = some (some (.ref f14))) (l14 : K.lookup f14 = some ⟨oc14, od14, .func (PySem.W.fnOf "_law_load" "_law_load" (defArgs s_law_load) (defBody s_law_load) (defScope s_law_load) .none kV14 dc14 pm14 an14 cd14 ct14), sl14⟩) (c14 : PySem.W.codeIn K cd14 "_law_load" = true) (k14 : PySem.W.keepIn K (.ref f14) = true)
  (a15 : PySem.W.nsIn K mainGlobals "_law_draw" = some (some (.ref f15))) (l15 : K.lookup f15 = some ⟨oc15, od15, .func (PySem.W.fnOf "_law_draw" "_law_draw" (defArgs s_law_draw) (defBody s_law_draw) (defScope s_law_draw) .none kV15 dc15 pm15 an15 cd15 ct15), sl15⟩) (c15 : PySem.W.codeIn K cd15 "_law_draw" = true) (k15 : PySem.W.keepIn K (.ref f15) = true)
  (a16 : PySem.W.nsIn K mainGlobals "_law_same" = some (some (.ref f16))) (l16 : K.lookup f16 = some ⟨oc16, od16, .func (PySem.W.fnOf "_law_same" "_law_same" (defArgs s_law_same) (defBody s_law_same) (defScope s_law_same) .none kV16 dc16 pm16 an16 cd16 ct16), sl16⟩) (c16 : PySem.W.codeIn K cd16 "_law_same" = true) (k16 : PySem.W.keepIn K (.ref f16) = true)
  (a17 : PySem.W.nsIn K mainGlobals "_law_pulled" = some (some (.ref f17))) (l17 : K.lookup f17 = some ⟨oc17, od17, .func (PySem.W.fnOf "_law_pulled" "_law_pulled" (defArgs s_law_pulled) (defBody s_law_pulled) (defScope s_law_pulled) .none kV17 dc17 pm17 an17 cd17 ct17), sl17⟩) (c17 : PySem.W.codeIn K cd17 "_law_pulled" = true) (k17 : PySem.W.keepIn K (.ref f17) = true)
  (a18 : PySem.W.nsIn K mainGlobals "_law_cord" = some (some (.ref f18))) (l18 : K.lookup f18 = some ⟨oc18, od18, .func (PySem.W.fnOf "_law_cord" "_law_cord" (defArgs s_law_cord) (defBody s_law_cord) (defScope s_law_cord) .none kV18 dc18 pm18 an18 cd18 ct18), sl18⟩) (c18 : PySem.W.codeIn K cd18 "_law_cord" = true) (k18 : PySem.W.keepIn K (.ref f18) = true)
  (a19 : PySem.W.nsIn K mainGlobals "_law_left" = some (some (.ref f19))) (l19 : K.lookup f19 = some ⟨oc19, od19, .func (PySem.W.fnOf "_law_left" "_law_left" (defArgs s_law_left) (defBody s_law_left) (defScope s_law_left) .none kV19 dc19 pm19 an19 cd19 ct19), sl19⟩) (c19 : PySem.W.codeIn K cd19 "_law_left" = true) (k19 : PySem.W.keepIn K (.ref f19) = true)
  (a20 : PySem.W.nsIn K mainGlobals "_law_bent" = some (some (.ref f20))) (l20 : K.lookup f20 = some ⟨oc20, od20, .func (PySem.W.fnOf "_law_bent" "_law_bent" (defArgs s_law_bent) (defBody s_law_bent) (defScope s_law_bent) .none kV20 dc20 pm20 an20 cd20 ct20), sl20⟩) (c20 : PySem.W.codeIn K cd20 "_law_bent" = true) (k20 : PySem.W.keepIn K (.ref f20) = true)
  (a21 : PySem.W.nsIn K mainGlobals "_law_times" = some (some (.ref f21))) (l21 : K.lookup f21 = some ⟨oc21, od21, .func (PySem.W.fnOf "_law_times" "_law_times" (defArgs s_law_times) (defBody s_law_times) (defScope s_law_times) .none kV21 dc21 pm21 an21 cd21 ct21), sl21⟩) (c21 : PySem.W.codeIn K cd21 "_law_times" = true) (k21 : PySem.W.keepIn K (.ref f21) = true)
  (a22 : PySem.W.nsIn K mainGlobals "_law_matrix" = some (some (.ref f22))) (l22 : K.lookup f22 = some ⟨oc22, od22, .func (PySem.W.fnOf "_law_matrix" "_law_matrix" (defArgs s_law_matrix) (defBody s_law_matrix) (defScope s_law_matrix) .none kV22 dc22 pm22 an22 cd22 ct22), sl22⟩) (c22 : PySem.W.codeIn K cd22 "_law_matrix" = true) (k22 : PySem.W.keepIn K (.ref f22) = true)
  (a23 : PySem.W.nsIn K mainGlobals "_law_are_pulls" = some (some (.ref f23))) (l23 : K.lookup f23 = some ⟨oc23, od23, .func (PySem.W.fnOf "_law_are_pulls" "_law_are_pulls" (defArgs s_law_are_pulls) (defBody s_law_are_pulls) (defScope s_law_are_pulls) .none kV23 dc23 pm23 an23 cd23 ct23), sl23⟩) (c23 : PySem.W.codeIn K cd23 "_law_are_pulls" = true) (k23 : PySem.W.keepIn K (.ref f23) = true)
  (a24 : PySem.W.nsIn K mainGlobals "law" = some (some (.ref f24))) (l24 : K.lookup f24 = some ⟨oc24, od24, .func (PySem.W.fnOf "law" "law" (defArgs s_law) (defBody s_law) (defScope s_law) .none kV24 dc24 pm24 an24 cd24 ct24), sl24⟩) (c24 : PySem.W.codeIn K cd24 "law" = true) (k24 : PySem.W.keepIn K (.ref f24) = true)
  (z0 : PySem.W.nsIn K mainGlobals "abs" = some none)
  (z1 : PySem.W.nsIn K mainGlobals "all" = some none)
  (z2 : PySem.W.nsIn K mainGlobals "bool" = some none)
  (z3 : PySem.W.nsIn K mainGlobals "int" = some none)
  (z4 : PySem.W.nsIn K mainGlobals "isinstance" = some none)
  (z5 : PySem.W.nsIn K mainGlobals "len" = some none)
  (z6 : PySem.W.nsIn K mainGlobals "list" = some none)
  (z7 : PySem.W.nsIn K mainGlobals "range" = some none)
  (z8 : PySem.W.nsIn K mainGlobals "str" = some none)
  (z9 : PySem.W.nsIn K mainGlobals "tuple" = some none)
  (y0 : PySem.W.nsIn K mainGlobals "MOST_NAILS" = some (some (.int (8) t0)))
  (y1 : PySem.W.nsIn K mainGlobals "MOST_TURNS" = some (some (.int (400) t1))) :
  ∃ fd : FuncData, (∀ (s : Shared) (v : Value), BindsTo s fd ⟨[v], []⟩ [("script", v)]) ∧ ∀ base : Heap, K.In base → base.Ns mainGlobals mg → FnOk l.prog w K mg base CX0 22 fa fd ["script"] (spLaw K) := by
  have T : Facts K mg := facts_mk X G a0 l0 c0 k0 a1 l1 c1 k1 a2 l2 c2 k2 a3 l3 c3 k3 a4 l4 c4 k4 a5 l5 c5 k5 a6 l6 c6 k6 a7 l7 c7 k7 a8 l8 c8 k8 a9 l9 c9 k9 a10 l10 c10 k10 a11 l11 c11 k11 a12 l12 c12 k12 a13 l13 c13 k13 a14 l14 c14 k14 a15 l15 c15 k15 a16 l16 c16 k16 a17 l17 c17 k17 a18 l18 c18 k18 a19 l19 c19 k19 a20 l20 c20 k20 a21 l21 c21 k21 a22 l22 c22 k22 a23 l23 c23 k23 a24 l24 c24 k24 z0 z1 z2 z3 z4 z5 z6 z7 z8 z9 y0 y1
  obtain ⟨f, fd, gf, FF, bf⟩ := T.f_law
  have e : f = fa := Value.ref.inj (Option.some.inj (gf.symm.trans hmg))
  subst e
  refine ⟨fd, fun s v => ?_, fun base _ _ => all_walks T law_true FF⟩
  obtain ⟨oc, od, kV, doc, pm, an, cdv, ct, osl, rfl, _⟩ := FF.ex
  exact .of_eq rfl

end K58
open PySem PySem.W PyProof.Rows
set_option maxHeartbeats 0 in
theorem PySem.Challenge.cw_hangseven_k58_whole_cords_pulled_holds : PySem.Challenge.rw_hangseven_k58_whole_cords_pulled.Holds := by
  w_on; o_law; k_head; (case hw => w_witness2)
  k_fill
  refine L2.walk_of (l := PySem.Challenge.rw_hangseven_k58_whole_cords_pulled) (n := 63) (k := 22) (x := "script") (CX := fun _ => L2.CX0) (sp := fun w => Pu.spLaw _) rfl (by decide) rfl ⟨rfl, by decide, by decide⟩ (fun w h Y => PySem.W.kIn_of Y) ?F (fun _ _ a ns hl _ hS => ⟨a, ns, rfl, hS, hl, fun _ => rfl⟩) (fun _ _ _ _ _ h => h)
  case F =>
    intro w mg fa h KX G hmg
    refine' K58.fin_mk KX G hmg ?a0 ?l0 ?c0 ?k0 ?a1 ?l1 ?c1 ?k1 ?a2 ?l2 ?c2 ?k2 ?a3 ?l3 ?c3 ?k3 ?a4 ?l4 ?c4 ?k4 ?a5 ?l5 ?c5 ?k5 ?a6 ?l6 ?c6 ?k6 ?a7 ?l7 ?c7 ?k7 ?a8 ?l8 ?c8 ?k8 ?a9 ?l9 ?c9 ?k9 ?a10 ?l10 ?c10 ?k10 ?a11 ?l11 ?c11 ?k11 ?a12 ?l12 ?c12 ?k12 ?a13 ?l13 ?c13 ?k13 ?a14 ?l14 ?c14 ?k14 ?a15 ?l15 ?c15 ?k15 ?a16 ?l16 ?c16 ?k16 ?a17 ?l17 ?c17 ?k17 ?a18 ?l18 ?c18 ?k18 ?a19 ?l19 ?c19 ?k19 ?a20 ?l20 ?c20 ?k20 ?a21 ?l21 ?c21 ?k21 ?a22 ?l22 ?c22 ?k22 ?a23 ?l23 ?c23 ?k23 ?a24 ?l24 ?c24 ?k24 ?z0 ?z1 ?z2 ?z3 ?z4 ?z5 ?z6 ?z7 ?z8 ?z9 ?y0 ?y1
    (case a0 => k_is); (case l0 => k_is); (case c0 => k_is); (case k0 => k_is); (case a1 => k_is); (case l1 => k_is); (case c1 => k_is); (case k1 => k_is); (case a2 => k_is); (case l2 => k_is); (case c2 => k_is); (case k2 => k_is); (case a3 => k_is); (case l3 => k_is); (case c3 => k_is); (case k3 => k_is); (case a4 => k_is); (case l4 => k_is); (case c4 => k_is); (case k4 => k_is); (case a5 => k_is); (case l5 => k_is); (case c5 => k_is); (case k5 => k_is); (case a6 => k_is); (case l6 => k_is); (case c6 => k_is); (case k6 => k_is); (case a7 => k_is); (case l7 => k_is); (case c7 => k_is); (case k7 => k_is); (case a8 => k_is); (case l8 => k_is); (case c8 => k_is); (case k8 => k_is); (case a9 => k_is); (case l9 => k_is); (case c9 => k_is); (case k9 => k_is); (case a10 => k_is); (case l10 => k_is); (case c10 => k_is); (case k10 => k_is); (case a11 => k_is); (case l11 => k_is); (case c11 => k_is); (case k11 => k_is); (case a12 => k_is); (case l12 => k_is); (case c12 => k_is); (case k12 => k_is); (case a13 => k_is); (case l13 => k_is); (case c13 => k_is); (case k13 => k_is); (case a14 => k_is); (case l14 => k_is); (case c14 => k_is); (case k14 => k_is); (case a15 => k_is); (case l15 => k_is); (case c15 => k_is); (case k15 => k_is); (case a16 => k_is); (case l16 => k_is); (case c16 => k_is); (case k16 => k_is); (case a17 => k_is); (case l17 => k_is); (case c17 => k_is); (case k17 => k_is); (case a18 => k_is); (case l18 => k_is); (case c18 => k_is); (case k18 => k_is); (case a19 => k_is); (case l19 => k_is); (case c19 => k_is); (case k19 => k_is); (case a20 => k_is); (case l20 => k_is); (case c20 => k_is); (case k20 => k_is); (case a21 => k_is); (case l21 => k_is); (case c21 => k_is); (case k21 => k_is); (case a22 => k_is); (case l22 => k_is); (case c22 => k_is); (case k22 => k_is); (case a23 => k_is); (case l23 => k_is); (case c23 => k_is); (case k23 => k_is); (case a24 => k_is); (case l24 => k_is); (case c24 => k_is); (case k24 => k_is); (case z0 => k_is); (case z1 => k_is); (case z2 => k_is); (case z3 => k_is); (case z4 => k_is); (case z5 => k_is); (case z6 => k_is); (case z7 => k_is); (case z8 => k_is); (case z9 => k_is); (case y0 => k_is); (case y1 => k_is)
