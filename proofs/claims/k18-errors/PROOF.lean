import PyProof.Rows.All
import Wide.All
import OpenK.AllK
import Wide.FinOn
import PyProof.EqAt
import PyProof.EqKinds
import PyProof.TupleCall
import HandS.Base
import HandS.Call
import HandS.List
import HandS.Comp
import HandS.Ends
import HandS.Words
import HandS.WordsList
import HandS.WordsExc
import HandS.Evl
import HandS.IsInst
import HandS.Zip
import HandS.Iter
import HandS.Walk
import HandS.Style
import HandS.Deep
import HandS.Exc
import HandS.ExcOwn
import HandS.SortRule
import HandS.Conv
import KE.DataMinMax
import KE.SortData
import HandS.ExcIs
import HandS.ExcValue
import KE.DataFind
import HandS.TupAny
import HandS.Dict
import HandS.More
import HandS.Text
import HandS.FStr
import KE.KxIndex
import KE.KDictKeyed
import PySem.Challenge.RW_windowlows_k18_more_errors
set_option Elab.async false
set_option linter.all false
set_option maxRecDepth 100000
set_option maxHeartbeats 4000000
/-! DL: a layer over the hand layer in which a reading is answered by DATA alone: slots hold data (PyData), what is new stays out of sight. -/
namespace DL
open PySem PySem.Spec L2

abbrev Ex (H H' : Hp) : Prop := ∀ a o, H a = some o → H' a = some o
theorem Ex.refl (H : Hp) : Ex H H := fun _ _ h => h
theorem Ex.trans {A B C : Hp} (a : Ex A B) (b : Ex B C) : Ex A C := fun x o h => b x o (a x o h)
theorem Ex.new {H : Hp} {p : Addr} {o : HO} (h : H p = none) : Ex H (upd H p o) := fun a u e => by
  rw [upd_ne (ne_of_none e h)]
  exact e
theorem Ex.free {A B : Hp} (e : Ex A B) {p : Addr} (h : B p = none) : A p = none := by
  cases q : A p with
  | none => rfl
  | some o =>
    rw [e p o q] at h
    cases h

/-! ### data in a heap -/
mutual
inductive Dn (C : Hp) : V → PyData → Prop
  | non : Dn C .non .none
  | bl (b : Bool) : Dn C (.bl b) (.bool b)
  | int (i : Int) : Dn C (.int i) (.int i)
  | str (x : Str) : Dn C (.str x) (.str x)
  | lst {a : Addr} {xs : List V} {ds : List PyData} : C a = some (.lst xs) → DnAll C xs ds → Dn C (.ref a) (.list ds)
  | tup {a : Addr} {xs : List V} {ds : List PyData} : C a = some (.tup xs) → DnAll C xs ds → Dn C (.ref a) (.tuple ds)
inductive DnAll (C : Hp) : List V → List PyData → Prop
  | nil : DnAll C [] []
  | cons {v : V} {vs : List V} {d : PyData} {ds : List PyData} : Dn C v d → DnAll C vs ds → DnAll C (v :: vs) (d :: ds)
end

mutual
theorem Dn.mono {C C' : Hp} (e : Ex C C') : ∀ (d : PyData) (v : V), Dn C v d → Dn C' v d
  | .none, _, h => by cases h; exact .non
  | .bool b, _, h => by cases h; exact .bl b
  | .int i, _, h => by cases h; exact .int i
  | .str x, _, h => by cases h; exact .str x
  | .list ds, _, h => by
    cases h with
    | lst h1 h2 => exact .lst (e _ _ h1) (DnAll.mono e ds _ h2)
  | .tuple ds, _, h => by
    cases h with
    | tup h1 h2 => exact .tup (e _ _ h1) (DnAll.mono e ds _ h2)
  | .dict _, _, h => by cases h
theorem DnAll.mono {C C' : Hp} (e : Ex C C') : ∀ (ds : List PyData) (vs : List V), DnAll C vs ds → DnAll C' vs ds
  | [], _, h => by cases h; exact .nil
  | d :: ds, _, h => by
    cases h with
    | cons h1 h2 => exact .cons (Dn.mono e d _ h1) (DnAll.mono e ds _ h2)
end
theorem Dn.up {C C' : Hp} {d : PyData} {v : V} (h : Dn C v d) (e : Ex C C') : Dn C' v d := Dn.mono e d v h
theorem DnAll.up {C C' : Hp} {ds : List PyData} {vs : List V} (h : DnAll C vs ds) (e : Ex C C') : DnAll C' vs ds := DnAll.mono e ds vs h
mutual
theorem Dn.dp {K : PySem.W.Frag} {C : Hp} : ∀ (d : PyData) (v : V), Dn C v d → Dp K C v d
  | .none, _, h => by cases h; exact .non
  | .bool b, _, h => by cases h; exact .bl b
  | .int i, _, h => by cases h; exact .int i
  | .str x, _, h => by cases h; exact .str x
  | .list ds, _, h => by
    cases h with
    | lst h1 h2 => exact .lst (SqL.of h1) (DnAll.dp ds _ h2)
  | .tuple ds, _, h => by
    cases h with
    | tup h1 h2 => exact .tup (SqT.of h1) (DnAll.dp ds _ h2)
  | .dict _, _, h => by cases h
theorem DnAll.dp {K : PySem.W.Frag} {C : Hp} : ∀ (ds : List PyData) (vs : List V), DnAll C vs ds → DpAll K C vs ds
  | [], _, h => by cases h; exact .nil
  | d :: ds, _, h => by
    cases h with
    | cons h1 h2 => exact .cons (Dn.dp d _ h1) (DnAll.dp ds _ h2)
end
theorem DnAll.length {C : Hp} : ∀ {ds : List PyData} {vs : List V}, DnAll C vs ds → vs.length = ds.length
  | [], _, h => by cases h; rfl
  | d :: ds, _, h => by
    cases h with
    | cons h1 h2 => simp [DnAll.length h2]
theorem DnAll.get {C : Hp} : ∀ {ds : List PyData} {vs : List V} {i : Nat} {d : PyData}, DnAll C vs ds → ds[i]? = some d → ∃ v, vs[i]? = some v ∧ Dn C v d
  | [], _, _, _, h, e => by simp at e
  | d :: ds, _, 0, d', h, e => by
    cases h with
    | cons h1 h2 =>
      simp at e
      subst e
      exact ⟨_, rfl, h1⟩
  | d :: ds, _, i + 1, d', h, e => by
    cases h with
    | cons h1 h2 =>
      obtain ⟨v, q, r⟩ := DnAll.get (i := i) (d := d') h2 (by simpa using e)
      exact ⟨v, by simpa using q, r⟩
theorem DnAll.get' {C : Hp} : ∀ {ds : List PyData} {vs : List V} {i : Nat} {v : V}, DnAll C vs ds → vs[i]? = some v → ∃ d, ds[i]? = some d ∧ Dn C v d
  | [], _, _, _, h, e => by cases h; simp at e
  | d :: ds, _, 0, v', h, e => by
    cases h with
    | cons h1 h2 =>
      simp at e
      subst e
      exact ⟨_, rfl, h1⟩
  | d :: ds, _, i + 1, v', h, e => by
    cases h with
    | cons h1 h2 =>
      obtain ⟨v, q, r⟩ := DnAll.get' (i := i) (v := v') h2 (by simpa using e)
      exact ⟨v, by simpa using q, r⟩
theorem DnAll.app {C : Hp} : ∀ {ds es : List PyData} {vs ws : List V}, DnAll C vs ds → DnAll C ws es → DnAll C (vs ++ ws) (ds ++ es)
  | [], _, _, _, h, g => by cases h; exact g
  | d :: ds, _, _, _, h, g => by
    cases h with
    | cons h1 h2 => exact .cons h1 (DnAll.app h2 g)
theorem DnAll.take {C : Hp} : ∀ {ds : List PyData} {vs : List V} (n : Nat), DnAll C vs ds → DnAll C (vs.take n) (ds.take n)
  | _, _, 0, _ => by simpa using DnAll.nil
  | [], _, n + 1, h => by cases h; exact .nil
  | d :: ds, _, n + 1, h => by
    cases h with
    | cons h1 h2 => exact .cons h1 (DnAll.take n h2)
theorem DnAll.drop {C : Hp} : ∀ {ds : List PyData} {vs : List V} (n : Nat), DnAll C vs ds → DnAll C (vs.drop n) (ds.drop n)
  | _, _, 0, h => by simpa using h
  | [], _, n + 1, h => by cases h; exact .nil
  | d :: ds, _, n + 1, h => by
    cases h with
    | cons h1 h2 => exact DnAll.drop n h2
theorem DnAll.rev {C : Hp} : ∀ {ds : List PyData} {vs : List V}, DnAll C vs ds → DnAll C vs.reverse ds.reverse
  | [], _, h => by cases h; exact .nil
  | d :: ds, _, h => by
    cases h with
    | cons h1 h2 =>
      rw [List.reverse_cons, List.reverse_cons]
      exact (DnAll.rev h2).app (.cons h1 .nil)
theorem DnAll.set {C : Hp} {v : V} {d : PyData} (hv : Dn C v d) : ∀ {ds : List PyData} {vs : List V} (n : Nat), DnAll C vs ds → DnAll C (vs.set n v) (ds.set n d)
  | [], _, _, h => by cases h; exact .nil
  | d :: ds, _, 0, h => by
    cases h with
    | cons h1 h2 => exact .cons hv h2
  | d :: ds, _, n + 1, h => by
    cases h with
    | cons h1 h2 => exact .cons h1 (DnAll.set hv n h2)
/-- a list of whole numbers -/
theorem DnAll.ints {C : Hp} : ∀ {ns : List Int} {vs : List V}, DnAll C vs (ns.map PyData.int) → vs = ns.map V.int
  | [], _, h => by cases h; rfl
  | n :: ns, _, h => by
    cases h with
    | cons h1 h2 =>
      cases h1
      rw [DnAll.ints h2] <;> rfl
theorem DnAll.bools {C : Hp} : ∀ {ns : List Bool} {vs : List V}, DnAll C vs (ns.map PyData.bool) → vs = ns.map V.bl
  | [], _, h => by cases h; rfl
  | n :: ns, _, h => by
    cases h with
    | cons h1 h2 =>
      cases h1
      rw [DnAll.bools h2] <;> rfl
theorem DnAll.strs {C : Hp} : ∀ {ns : List Str} {vs : List V}, DnAll C vs (ns.map PyData.str) → vs = ns.map V.str
  | [], _, h => by cases h; rfl
  | n :: ns, _, h => by
    cases h with
    | cons h1 h2 =>
      cases h1
      rw [DnAll.strs h2] <;> rfl
theorem dn_ints (C : Hp) : ∀ ns : List Int, DnAll C (ns.map V.int) (ns.map PyData.int)
  | [] => .nil
  | n :: ns => .cons (.int n) (dn_ints C ns)

/-! ### the context, the slots, what may change -/
inductive Exn where
  | row | width | number | text | gone
  deriving DecidableEq
inductive Out where
  | ret (d : PyData)
  | exc (e : Exn)
/-- a slot: not told, data, a value as it is -/
inductive SK where
  | un
  | d (d : PyData)
  | v (v : V)
/-- an object that may change: a list of data; the draws and their numbers; anything -/
inductive MO where
  | l (ds : List PyData)
  | dr (nu : Addr)
  | nu
  | o (o : HO)
  | g (Q : Hp → HO → Prop)
structure FC where
  g : Exn → Addr
  C0 : Hp
  H0 : Hp
  dw : List (Addr × MO)
  rt : PyData → List (Addr × MO) → Prop
  ex : Exn → Prop
  E : XK
  hE : ∀ e H', ex e → (∀ a o, H0 a = some o → ¬ (∃ m, (a, m) ∈ dw) → H' a = some o) → E (.ref (g e)) none H'
def FC.fx (F : FC) (a : Addr) : Prop := ∃ m, (a, m) ∈ F.dw
def SlotOk (C : Hp) : SK → Option (Option V) → Prop
  | .un, _ => True
  | .d d, o => ∃ v, o = some (some v) ∧ Dn C v d
  | .v v, o => o = some (some v)
def MOk (C H : Hp) (l : Addr) : MO → Prop
  | .l ds => ∃ xs, H l = some (.lst xs) ∧ DnAll C xs ds
  | .dr nu => ∃ c, H l = some (.lst [.ref nu, .int c])
  | .nu => ∃ ns : List Int, ns ≠ [] ∧ H l = some (.lst (ns.map V.int))
  | .o o => H l = some o
  | .g Q => (∀ C C' o, Ex C C' → Q C o → Q C' o) ∧ ∃ o, H l = some o ∧ Q C o
abbrev Mem := List (Addr × MO)
/-- m' tells all that m tells -/
def Weak (m' m : MO) : Prop := ∀ C H l, MOk C H l m' → MOk C H l m
theorem Weak.refl (m : MO) : Weak m m := fun _ _ _ h => h
structure Real (F : FC) (ks : List SK) (ms : Mem) (σ : St) (H C : Hp) : Prop where
  len : σ.length = ks.length
  slot : ∀ (i : Nat) (k : SK), ks[i]? = some k → SlotOk C k σ[i]?
  sub : ∀ a o, C a = some o → H a = some o ∧ (F.C0 a = some o ∨ F.H0 a = none)
  c0 : Ex F.C0 C
  keep : ∀ a o, F.H0 a = some o → ¬ F.fx a → H a = some o
  fxm : ∀ p, p ∈ F.dw → ∃ m, (p.1, m) ∈ ms ∧ Weak m p.2
  mo : ∀ l m, (l, m) ∈ ms → C l = none ∧ MOk C H l m ∧ (F.H0 l = none ∨ F.fx l)
  nd : (ms.map (·.1)).Nodup

theorem MOk.there {C H : Hp} {l : Addr} {m : MO} (h : MOk C H l m) : ∃ o, H l = some o := by
  cases m with
  | l ds => obtain ⟨xs, e, _⟩ := h; exact ⟨_, e⟩
  | dr nu => obtain ⟨c, e⟩ := h; exact ⟨_, e⟩
  | nu => obtain ⟨ns, _, e⟩ := h; exact ⟨_, e⟩
  | o o => exact ⟨_, h⟩
  | g Q => obtain ⟨_, o, e, _⟩ := h; exact ⟨o, e⟩
theorem MOk.up {C H C' H' : Hp} {l : Addr} {m : MO} (h : MOk C H l m) (eC : Ex C C') (eH : ∀ o, H l = some o → H' l = some o) : MOk C' H' l m := by
  cases m with
  | l ds => obtain ⟨xs, e, q⟩ := h; exact ⟨xs, eH _ e, q.up eC⟩
  | dr nu => obtain ⟨c, e⟩ := h; exact ⟨c, eH _ e⟩
  | nu => obtain ⟨ns, n, e⟩ := h; exact ⟨ns, n, eH _ e⟩
  | o o => exact eH _ h
  | g Q => obtain ⟨m, o, e, q⟩ := h; exact ⟨m, o, eH _ e, m _ _ _ eC q⟩
theorem SlotOk.up {C C' : Hp} {k : SK} {o : Option (Option V)} (h : SlotOk C k o) (e : Ex C C') : SlotOk C' k o := by
  cases k with
  | un => trivial
  | d d => obtain ⟨v, q, r⟩ := h; exact ⟨v, q, r.up e⟩
  | v v => exact h
section
variable {F : FC} {ks : List SK} {ms : Mem} {σ : St} {H C H' C' : Hp}
theorem Real.ch (r : Real F ks ms σ H C) : Ex C H := fun a o e => (r.sub a o e).1
theorem Real.fxo (r : Real F ks ms σ H C) {p : Addr × MO} (hp : p ∈ F.dw) : MOk C H p.1 p.2 := by
  obtain ⟨m, hm, w⟩ := r.fxm p hp
  exact w _ _ _ (r.mo _ _ hm).2.1
theorem Real.old (r : Real F ks ms σ H C) {a : Addr} (h : H a = none) : F.H0 a = none := by
  cases q : F.H0 a with
  | none => rfl
  | some o =>
    by_cases hf : F.fx a
    · obtain ⟨m, hm⟩ := hf
      obtain ⟨o', e⟩ := (r.fxo hm).there
      rw [h] at e; cases e
    · rw [r.keep a o q hf] at h; cases h
/-- all that was tracked stays, the clean part grows by new things -/
theorem Real.grow (r : Real F ks ms σ H C) (eH : Ex H H') (eC : Ex C C') (hc : ∀ a o, C' a = some o → H' a = some o ∧ (C a = some o ∨ H a = none)) : Real F ks ms σ H' C' where
  len := r.len
  slot := fun i k h => (r.slot i k h).up eC
  sub := fun a o e => by
    obtain ⟨h1, h2⟩ := hc a o e
    refine ⟨h1, ?_⟩
    rcases h2 with h2 | h2
    · exact (r.sub a o h2).2
    · exact .inr (r.old h2)
  c0 := r.c0.trans eC
  keep := fun a o e f => eH _ _ (r.keep a o e f)
  fxm := r.fxm
  mo := fun l m h => by
    obtain ⟨h1, h2, h3⟩ := r.mo l m h
    refine ⟨?_, h2.up eC fun o e => eH _ _ e, h3⟩
    cases q : C' l with
    | none => rfl
    | some o =>
      obtain ⟨o', e⟩ := h2.there
      rcases (hc l o q).2 with z | z
      · rw [h1] at z; cases z
      · rw [e] at z; cases z
  nd := r.nd
/-- a new object, clean -/
theorem Real.new (r : Real F ks ms σ H C) {p : Addr} (hp : H p = none) (o : HO) : Real F ks ms σ (upd H p o) (upd C p o) ∧ Ex C (upd C p o) := by
  have hC : C p = none := r.ch.free hp
  refine ⟨r.grow (Ex.new hp) (Ex.new hC) fun a u e => ?_, Ex.new hC⟩
  by_cases ha : a = p
  · subst ha
    rw [upd_same] at e ⊢
    exact ⟨e, .inr hp⟩
  · rw [upd_ne ha] at e ⊢
    exact ⟨(r.sub a u e).1, .inl e⟩
/-- a new object that may change -/
theorem Real.newM (r : Real F ks ms σ H C) {p : Addr} (hp : H p = none) {o : HO} {m : MO} (hm : MOk C (upd H p o) p m) : Real F ks ((p, m) :: ms) σ (upd H p o) C where
  len := r.len
  slot := r.slot
  sub := fun a u e => by
    obtain ⟨h1, h2⟩ := r.sub a u e
    exact ⟨Ex.new hp a u h1, h2⟩
  c0 := r.c0
  keep := fun a u e f => Ex.new hp a u (r.keep a u e f)
  fxm := fun p h => let ⟨m, a, b⟩ := r.fxm p h; ⟨m, List.mem_cons_of_mem _ a, b⟩
  mo := fun l m' h => by
    rcases List.mem_cons.mp h with h | h
    · cases h
      exact ⟨r.ch.free hp, hm, .inl (r.old hp)⟩
    · obtain ⟨h1, h2, h3⟩ := r.mo l m' h
      exact ⟨h1, h2.up (Ex.refl C) fun u e => Ex.new hp _ _ e, h3⟩
  nd := by
    rw [List.map_cons, List.nodup_cons]
    refine ⟨fun hm' => ?_, r.nd⟩
    obtain ⟨⟨a, m'⟩, h, e⟩ := List.mem_map.mp hm'
    obtain ⟨o', q⟩ := (r.mo a m' h).2.1.there
    have e : a = p := e
    rw [e, hp] at q
    cases q
theorem nd_inj {ms : Mem} (h : (ms.map (·.1)).Nodup) {l : Addr} {m m' : MO} (a : (l, m) ∈ ms) (b : (l, m') ∈ ms) : m = m' := by
  induction ms with
  | nil => cases a
  | cons x xs ih =>
    rw [List.map_cons, List.nodup_cons] at h
    rcases List.mem_cons.mp a with a | a <;> rcases List.mem_cons.mp b with b | b
    · rw [← a] at b; cases b; rfl
    · exact absurd (List.mem_map.mpr ⟨_, b, by rw [← a]⟩) h.1
    · exact absurd (List.mem_map.mpr ⟨_, a, by rw [← b]⟩) h.1
    · exact ih h.2 a b
/-- ms with another m at l -/
def setM (ms : Mem) (l : Addr) (m : MO) : Mem := ms.map fun p => if p.1 = l then (l, m) else p
theorem setM_fst (ms : Mem) (l : Addr) (m : MO) : (setM ms l m).map (·.1) = ms.map (·.1) := by
  unfold setM
  rw [List.map_map]
  refine List.map_congr_left fun p _ => ?_
  show (if p.1 = l then (l, m) else p).1 = p.1
  split
  · rename_i h; exact h.symm
  · rfl
theorem mem_setM {ms : Mem} {l : Addr} {m : MO} {a : Addr} {m' : MO} (h : (a, m') ∈ setM ms l m) : (a = l ∧ m' = m) ∨ (a ≠ l ∧ (a, m') ∈ ms) := by
  unfold setM at h
  obtain ⟨p, hp, e⟩ := List.mem_map.mp h
  by_cases hl : p.1 = l
  · rw [if_pos hl] at e
    cases e
    exact .inl ⟨rfl, rfl⟩
  · rw [if_neg hl] at e
    subst e
    exact .inr ⟨hl, hp⟩
theorem setM_mem {ms : Mem} {l : Addr} {m : MO} {a : Addr} {m' : MO} (h : (a, m') ∈ ms) : ∃ m'', (a, m'') ∈ setM ms l m := by
  by_cases hl : a = l
  · exact ⟨m, List.mem_map.mpr ⟨_, h, by rw [if_pos hl, hl]⟩⟩
  · exact ⟨m', List.mem_map.mpr ⟨_, h, by rw [if_neg hl]⟩⟩
/-- an object that may change, changed -/
theorem Real.setM (r : Real F ks ms σ H C) {l : Addr} {m0 m : MO} {o : HO} (hl : (l, m0) ∈ ms) (hf : ¬ F.fx l) (hm : MOk C (upd H l o) l m) : Real F ks (setM ms l m) σ (upd H l o) C where
  len := r.len
  slot := r.slot
  sub := fun a u e => by
    obtain ⟨h1, h2⟩ := r.sub a u e
    have : a ≠ l := fun z => by rw [z, (r.mo l m0 hl).1] at e; cases e
    exact ⟨by rw [upd_ne this]; exact h1, h2⟩
  c0 := r.c0
  keep := fun a u e f => by
    have : a ≠ l := fun z => by
      rcases (r.mo l m0 hl).2.2 with q | q
      · rw [z, q] at e; cases e
      · exact f (by rw [z]; exact q)
    rw [upd_ne this]
    exact r.keep a u e f
  fxm := fun p h => by
    have hne : p.1 ≠ l := fun z => hf ⟨p.2, by rw [← z]; exact h⟩
    obtain ⟨m', a, b⟩ := r.fxm p h
    exact ⟨m', List.mem_map.mpr ⟨_, a, by rw [if_neg hne]⟩, b⟩
  mo := fun a m' h => by
    rcases mem_setM h with ⟨rfl, rfl⟩ | ⟨h1, h2⟩
    · exact ⟨(r.mo a m0 hl).1, hm, (r.mo a m0 hl).2.2⟩
    · obtain ⟨q1, q2, q3⟩ := r.mo a m' h2
      exact ⟨q1, q2.up (Ex.refl C) fun u e => by rw [upd_ne h1]; exact e, q3⟩
  nd := by rw [setM_fst]; exact r.nd
/-- the changing list becomes data -/
def dropM (ms : Mem) (l : Addr) : Mem := ms.filter fun p => decide (p.1 ≠ l)
theorem Real.freeze (r : Real F ks ms σ H C) {l : Addr} {ds : List PyData} (hl : (l, MO.l ds) ∈ ms) (hf : ¬ F.fx l) : ∃ xs, Real F ks (dropM ms l) σ H (upd C l (.lst xs)) ∧ Ex C (upd C l (.lst xs)) ∧ Dn (upd C l (.lst xs)) (.ref l) (.list ds) := by
  obtain ⟨h1, ⟨xs, h2, h3⟩, h4⟩ := r.mo l _ hl
  have eC : Ex C (upd C l (.lst xs)) := Ex.new h1
  refine ⟨xs, ⟨r.len, fun i k h => (r.slot i k h).up eC, fun a o e => ?_, r.c0.trans eC, r.keep, fun a f => ?_, fun a m h => ?_, ?_⟩, eC, .lst upd_same (h3.up eC)⟩
  · by_cases ha : a = l
    · subst ha
      rw [upd_same] at e
      cases e
      refine ⟨h2, ?_⟩
      rcases h4 with h4 | h4
      · exact .inr h4
      · exact absurd h4 hf
    · rw [upd_ne ha] at e
      exact r.sub a o e
  · obtain ⟨m', q1, q2⟩ := r.fxm a f
    exact ⟨m', List.mem_filter.mpr ⟨q1, by simpa using fun z => hf ⟨a.2, by rw [← z]; exact f⟩⟩, q2⟩
  · obtain ⟨q, hne⟩ := List.mem_filter.mp h
    have hne : a ≠ l := by simpa using hne
    obtain ⟨a1, a2, a3⟩ := r.mo a m q
    exact ⟨by rw [upd_ne hne]; exact a1, a2.up eC fun _ e => e, a3⟩
  · exact (r.nd.sublist ((List.filter_sublist).map _))
/-- the slots change -/
theorem Real.put (r : Real F ks ms σ H C) {i : Nat} {v : V} {k : SK} (hk : SlotOk C k (some (some v))) : Real F (ks.set i k) ms (σ.set i (some v)) H C where
  len := by rw [List.length_set, List.length_set]; exact r.len
  slot := fun j k' h => by
    by_cases hj : i = j
    · subst hj
      have hlt : i < ks.length := by
        have := (List.getElem?_eq_some_iff.mp h).1
        rwa [List.length_set] at this
      rw [List.getElem?_set_self hlt] at h
      cases h
      rw [List.getElem?_set_self (by rw [r.len]; exact hlt)]
      exact hk
    · rw [List.getElem?_set_ne hj] at h
      rw [List.getElem?_set_ne hj]
      exact r.slot j k' h
  sub := r.sub
  c0 := r.c0
  keep := r.keep
  fxm := r.fxm
  mo := r.mo
  nd := r.nd
theorem Real.unslot (r : Real F ks ms σ H C) {i : Nat} {o : Option V} : Real F (ks.set i .un) ms (σ.set i o) H C where
  len := by rw [List.length_set, List.length_set]; exact r.len
  slot := fun j k' h => by
    by_cases hj : i = j
    · subst hj
      have hlt : i < ks.length := by
        have := (List.getElem?_eq_some_iff.mp h).1
        rwa [List.length_set] at this
      rw [List.getElem?_set_self hlt] at h
      cases h
      trivial
    · rw [List.getElem?_set_ne hj] at h
      rw [List.getElem?_set_ne hj]
      exact r.slot j k' h
  sub := r.sub
  c0 := r.c0
  keep := r.keep
  fxm := r.fxm
  mo := r.mo
  nd := r.nd
/-- other kinds of slots, by the same values -/
theorem Real.slots (r : Real F ks ms σ H C) {ks' : List SK} (hl : ks'.length = ks.length) (h : ∀ (i : Nat) k, ks'[i]? = some k → SlotOk C k σ[i]?) : Real F ks' ms σ H C :=
  ⟨by rw [hl]; exact r.len, h, r.sub, r.c0, r.keep, r.fxm, r.mo, r.nd⟩
end
end DL

namespace DL
open PySem PySem.Spec L2

/-! ### the judgements -/
def Post (F : FC) (ks : List SK) (ms : Mem) (σ : St) (C : Hp) (P : PyData → Prop) (Q : VK) : Prop := ∀ v H' C' d, P d → Real F ks ms σ H' C' → Ex C C' → Dn C' v d → Q v H'
def Ev (F : FC) (R : Mem) (te : TE) (ks : List SK) (P : PyData → Prop) : Prop := ∀ ms σ H C, R ⊆ ms → Real F ks ms σ H C → ∀ Q : VK, Post F ks ms σ C P Q → te σ H Q
def EvT (F : FC) (R : Mem) (tt : TT) (ks : List SK) (P : Bool → Prop) : Prop := ∀ ms σ H C, R ⊆ ms → Real F ks ms σ H C → ∀ Q : Bool → Hp → Prop, (∀ b H' C', P b → Real F ks ms σ H' C' → Ex C C' → Q b H') → tt σ H Q
def EvA (F : FC) (R : Mem) (ta : TA) (ks : List SK) (P : List PyData → Prop) : Prop := ∀ ms σ H C, R ⊆ ms → Real F ks ms σ H C → ∀ Q : List V → Hp → Prop, (∀ vs H' C' ds, P ds → Real F ks ms σ H' C' → Ex C C' → DnAll C' vs ds → Q vs H') → ta σ H Q
def EvO (F : FC) (R : Mem) (to : TO) (ks : List SK) (P : Option Int → Prop) : Prop := ∀ ms σ H C, R ⊆ ms → Real F ks ms σ H C → ∀ Q : Option Int → Hp → Prop, (∀ o H' C', P o → Real F ks ms σ H' C' → Ex C C' → Q o H') → to σ H Q
/-- an operation on two data; a call on data; a method; a slice -/
def Op2 (F : FC) (R : Mem) (ks : List SK) (r : R2) (x y : PyData) (P : PyData → Prop) : Prop := ∀ ms σ H C vx vy, R ⊆ ms → Real F ks ms σ H C → Dn C vx x → Dn C vy y → ∀ Q : VK, Post F ks ms σ C P Q → r vx vy H Q
def Op1 (F : FC) (R : Mem) (ks : List SK) (r : V → Hp → VK → Prop) (x : PyData) (P : PyData → Prop) : Prop := ∀ ms σ H C vx, R ⊆ ms → Real F ks ms σ H C → Dn C vx x → ∀ Q : VK, Post F ks ms σ C P Q → r vx H Q
def OpN (F : FC) (R : Mem) (ks : List SK) (r : List V → Hp → VK → Prop) (xs : List PyData) (P : PyData → Prop) : Prop := ∀ ms σ H C vs, R ⊆ ms → Real F ks ms σ H C → DnAll C vs xs → ∀ Q : VK, Post F ks ms σ C P Q → r vs H Q
def OpM (F : FC) (R : Mem) (ks : List SK) (r : V → List V → Hp → VK → Prop) (x : PyData) (xs : List PyData) (P : PyData → Prop) : Prop := ∀ ms σ H C v vs, R ⊆ ms → Real F ks ms σ H C → Dn C v x → DnAll C vs xs → ∀ Q : VK, Post F ks ms σ C P Q → r v vs H Q
def OpS (F : FC) (R : Mem) (ks : List SK) (r : V → Option Int → Option Int → Hp → VK → Prop) (x : PyData) (lo hi : Option Int) (P : PyData → Prop) : Prop := ∀ ms σ H C v, R ⊆ ms → Real F ks ms σ H C → Dn C v x → ∀ Q : VK, Post F ks ms σ C P Q → r v lo hi H Q

section
variable {F : FC} {R : Mem} {ks : List SK} {ta tb tc te : TE} {P : PyData → Prop} {x y d : PyData}
theorem Ev.imp {P' : PyData → Prop} (h : Ev F R te ks P) (k : ∀ d, P d → P' d) : Ev F R te ks P' := fun ms σ H C hR r Q q => h ms σ H C hR r Q fun v H' C' d p => q v H' C' d (k d p)
theorem Ev.sub {R' : Mem} (h : Ev F R te ks P) (s : R ⊆ R') : Ev F R' te ks P := fun ms σ H C hR r Q q => h ms σ H C (fun _ z => hR (s z)) r Q q
theorem ev_var {i : Nat} (h : ks[i]? = some (.d d)) (p : P d) : Ev F R (tVar i) ks P := fun ms σ H C _ r Q q => by
  obtain ⟨v, e, hd⟩ := r.slot i _ h
  exact ⟨v, e, q v H C d p r (Ex.refl C) hd⟩
theorem ev_cI {i : Int} (p : P (.int i)) : Ev F R (tC (.int i)) ks P := fun ms σ H C _ r Q q => q _ H C _ p r (Ex.refl C) (.int i)
theorem ev_cB {i : Bool} (p : P (.bool i)) : Ev F R (tC (.bl i)) ks P := fun ms σ H C _ r Q q => q _ H C _ p r (Ex.refl C) (.bl i)
theorem ev_cS {i : Str} (p : P (.str i)) : Ev F R (tC (.str i)) ks P := fun ms σ H C _ r Q q => q _ H C _ p r (Ex.refl C) (.str i)
theorem ev_cN (p : P .none) : Ev F R (tC .non) ks P := fun ms σ H C _ r Q q => q _ H C _ p r (Ex.refl C) .non
theorem ev_op {r : R2} (h : Ev F R ta ks fun x => Ev F R tb ks fun y => Op2 F R ks r x y P) : Ev F R (tOp r ta tb) ks P := fun ms σ H C hR r Q q =>
  h ms σ H C hR r _ fun v1 H1 C1 x p1 r1 e1 d1 => p1 ms σ H1 C1 hR r1 _ fun v2 H2 C2 y p2 r2 e2 d2 => p2 ms σ H2 C2 v1 v2 hR r2 (d1.up e2) d2 Q fun v3 H3 C3 z p3 r3 e3 d3 => q v3 H3 C3 z p3 r3 ((e1.trans e2).trans e3) d3
theorem ev_un {r : V → Hp → VK → Prop} (h : Ev F R ta ks fun x => Op1 F R ks r x P) : Ev F R (tUn r ta) ks P := fun ms σ H C hR r Q q =>
  h ms σ H C hR r _ fun v1 H1 C1 x p1 r1 e1 d1 => p1 ms σ H1 C1 v1 hR r1 d1 Q fun v3 H3 C3 z p3 r3 e3 d3 => q v3 H3 C3 z p3 r3 (e1.trans e3) d3
theorem op_int {f : Int → Int → Int} {i j : Int} (p : P (.int (f i j))) : Op2 F R ks (rI0 fun i j => .int (f i j)) (.int i) (.int j) P := fun ms σ H C vx vy _ r hx hy Q q => by
  cases hx; cases hy
  exact ⟨i, j, rfl, rfl, q _ H C _ p r (Ex.refl C) (.int _)⟩
theorem op_bool {f : Int → Int → Bool} {i j : Int} (p : P (.bool (f i j))) : Op2 F R ks (rI0 fun i j => .bl (f i j)) (.int i) (.int j) P := fun ms σ H C vx vy _ r hx hy Q q => by
  cases hx; cases hy
  exact ⟨i, j, rfl, rfl, q _ H C _ p r (Ex.refl C) (.bl _)⟩
theorem op_intC {Cn : Int → Int → Prop} {f : Int → Int → Int} {i j : Int} (hc : Cn i j) (p : P (.int (f i j))) : Op2 F R ks (rI Cn fun i j => .int (f i j)) (.int i) (.int j) P := fun ms σ H C vx vy _ r hx hy Q q => by
  cases hx; cases hy
  exact ⟨i, j, rfl, rfl, hc, q _ H C _ p r (Ex.refl C) (.int _)⟩
theorem op_neg {i : Int} (p : P (.int (-i))) : Op1 F R ks (rU fun i => .int (-i)) (.int i) P := fun ms σ H C vx _ r hx Q q => by
  cases hx
  exact ⟨i, rfl, q _ H C _ p r (Ex.refl C) (.int _)⟩
/-- ==, != of any data -/
theorem op_eqd {K : PySem.W.Frag} (sx : SeqAt.shaped x = true) (sy : SeqAt.shaped y = true) (p : P (.bool (PyData.eqv x y))) : Op2 F R ks (rEqD K) x y P := fun ms σ H C vx vy _ r hx hy Q q =>
  ⟨x, y, (hx.up r.ch).dp _ _, (hy.up r.ch).dp _ _, sx, sy, q _ H C _ p r (Ex.refl C) (.bl _)⟩
theorem op_ned {K : PySem.W.Frag} (sx : SeqAt.shaped x = true) (sy : SeqAt.shaped y = true) (p : P (.bool (!PyData.eqv x y))) : Op2 F R ks (rNeD K) x y P := fun ms σ H C vx vy _ r hx hy Q q =>
  ⟨x, y, (hx.up r.ch).dp _ _, (hy.up r.ch).dp _ _, sx, sy, q _ H C _ p r (Ex.refl C) (.bl _)⟩
/-- ==, != of whole numbers -/
theorem op_eqI {i j : Int} (p : P (.bool (decide (i = j)))) : Op2 F R ks rEq (.int i) (.int j) P := fun ms σ H C vx vy _ r hx hy Q q => by
  cases hx; cases hy
  refine ⟨rfl, ?_⟩
  have e : decide (V.int i = V.int j) = decide (i = j) := by simp
  rw [e]
  exact q _ H C _ p r (Ex.refl C) (.bl _)
theorem op_neI {i j : Int} (p : P (.bool (!decide (i = j)))) : Op2 F R ks rNe (.int i) (.int j) P := fun ms σ H C vx vy _ r hx hy Q q => by
  cases hx; cases hy
  refine ⟨rfl, ?_⟩
  have e : decide (V.int i = V.int j) = decide (i = j) := by simp
  rw [e]
  exact q _ H C _ p r (Ex.refl C) (.bl _)
/-- is None, is not None -/
def rIsN : R2 := fun x y H Q => y = .non ∧ Q (.bl (decide (x = .non))) H
def rNotN : R2 := fun x y H Q => y = .non ∧ Q (.bl (!decide (x = .non))) H
theorem op_isN1 {X : Cx} : OpR X (compareOp .Is) rIsN := op_isN
theorem op_notN1 {X : Cx} : OpR X (compareOp .IsNot) rNotN := op_notN
def isNoneD : PyData → Bool
  | .none => true
  | _ => false
theorem Dn.isNone {C : Hp} {v : V} {d : PyData} (h : Dn C v d) : decide (v = .non) = isNoneD d := by
  cases h <;> rfl
theorem op_isn (p : P (.bool (isNoneD x))) : Op2 F R ks rIsN x .none P := fun ms σ H C vx vy _ r hx hy Q q => by
  cases hy
  refine ⟨rfl, ?_⟩
  rw [hx.isNone]
  exact q _ H C _ p r (Ex.refl C) (.bl _)
theorem op_notn (p : P (.bool (!isNoneD x))) : Op2 F R ks rNotN x .none P := fun ms σ H C vx vy _ r hx hy Q q => by
  cases hy
  refine ⟨rfl, ?_⟩
  rw [hx.isNone]
  exact q _ H C _ p r (Ex.refl C) (.bl _)
/-! ### and, or, not, if -/
theorem ev_andV (h : Ev F R ta ks fun x => ∃ b, x = .bool b ∧ (b = true → Ev F R tb ks P) ∧ (b = false → P (.bool false))) : Ev F R (tAndV ta tb) ks P := fun ms σ H C hR r Q q => by
  refine h ms σ H C hR r _ fun v1 H1 C1 x p1 r1 e1 d1 => ?_
  obtain ⟨b, rfl, h1, h2⟩ := p1
  cases d1
  refine ⟨b, rfl, ?_⟩
  cases b with
  | true => exact iteT (h1 rfl ms σ H1 C1 hR r1 Q fun v2 H2 C2 y p2 r2 e2 d2 => q v2 H2 C2 y p2 r2 (e1.trans e2) d2)
  | false => exact iteF (q _ H1 C1 _ (h2 rfl) r1 e1 (.bl _))
theorem ev_orV (h : Ev F R ta ks fun x => ∃ b, x = .bool b ∧ (b = false → Ev F R tb ks P) ∧ (b = true → P (.bool true))) : Ev F R (tOrV ta tb) ks P := fun ms σ H C hR r Q q => by
  refine h ms σ H C hR r _ fun v1 H1 C1 x p1 r1 e1 d1 => ?_
  obtain ⟨b, rfl, h1, h2⟩ := p1
  cases d1
  refine ⟨b, rfl, ?_⟩
  cases b with
  | false => exact iteF (h1 rfl ms σ H1 C1 hR r1 Q fun v2 H2 C2 y p2 r2 e2 d2 => q v2 H2 C2 y p2 r2 (e1.trans e2) d2)
  | true => exact iteT (q _ H1 C1 _ (h2 rfl) r1 e1 (.bl _))
theorem ev_notV (h : Ev F R ta ks fun x => ∃ b, x = .bool b ∧ P (.bool (!b))) : Ev F R (tNotV ta) ks P := fun ms σ H C hR r Q q => by
  refine h ms σ H C hR r _ fun v1 H1 C1 x p1 r1 e1 d1 => ?_
  obtain ⟨b, rfl, h1⟩ := p1
  cases d1
  exact ⟨b, rfl, q _ H1 C1 _ h1 r1 e1 (.bl _)⟩
theorem ev_if {t : TT} (h : EvT F R t ks fun b => (b = true → Ev F R ta ks P) ∧ (b = false → Ev F R tb ks P)) : Ev F R (tIf t ta tb) ks P := fun ms σ H C hR r Q q => by
  refine h ms σ H C hR r _ fun b H1 C1 p1 r1 e1 => ?_
  cases b with
  | true => exact iteT (p1.1 rfl ms σ H1 C1 hR r1 Q fun v2 H2 C2 y p2 r2 e2 d2 => q v2 H2 C2 y p2 r2 (e1.trans e2) d2)
  | false => exact iteF (p1.2 rfl ms σ H1 C1 hR r1 Q fun v2 H2 C2 y p2 r2 e2 d2 => q v2 H2 C2 y p2 r2 (e1.trans e2) d2)
section
variable {t u : TT} {T : Bool → Prop}
theorem EvT.imp {T' : Bool → Prop} (h : EvT F R t ks T) (k : ∀ b, T b → T' b) : EvT F R t ks T' := fun ms σ H C hR r Q q => h ms σ H C hR r Q fun b H' C' p => q b H' C' (k b p)
theorem et_test (h : Ev F R te ks fun x => ∃ b, x = .bool b ∧ T b) : EvT F R (tTest te) ks T := fun ms σ H C hR r Q q => by
  refine h ms σ H C hR r _ fun v1 H1 C1 x p1 r1 e1 d1 => ?_
  obtain ⟨b, rfl, h1⟩ := p1
  cases d1
  exact ⟨b, rfl, q b H1 C1 h1 r1 e1⟩
theorem et_B (h : Ev F R te ks fun x => ∃ b, x = .bool b ∧ T b) : EvT F R (tB te) ks T := fun ms σ H C hR r Q q => by
  refine h ms σ H C hR r _ fun v1 H1 C1 x p1 r1 e1 d1 => ?_
  obtain ⟨b, rfl, h1⟩ := p1
  cases d1
  exact ⟨b, rfl, q b H1 C1 h1 r1 e1⟩
theorem et_and (h : EvT F R t ks fun b => (b = true → EvT F R u ks T) ∧ (b = false → T false)) : EvT F R (tAnd t u) ks T := fun ms σ H C hR r Q q => by
  refine h ms σ H C hR r _ fun b H1 C1 p1 r1 e1 => ?_
  cases b with
  | true => exact iteT (p1.1 rfl ms σ H1 C1 hR r1 Q fun b2 H2 C2 p2 r2 e2 => q b2 H2 C2 p2 r2 (e1.trans e2))
  | false => exact iteF (q _ H1 C1 (p1.2 rfl) r1 e1)
theorem et_or (h : EvT F R t ks fun b => (b = false → EvT F R u ks T) ∧ (b = true → T true)) : EvT F R (tOr t u) ks T := fun ms σ H C hR r Q q => by
  refine h ms σ H C hR r _ fun b H1 C1 p1 r1 e1 => ?_
  cases b with
  | false => exact iteF (p1.1 rfl ms σ H1 C1 hR r1 Q fun b2 H2 C2 p2 r2 e2 => q b2 H2 C2 p2 r2 (e1.trans e2))
  | true => exact iteT (q _ H1 C1 (p1.2 rfl) r1 e1)
theorem et_not (h : EvT F R t ks fun b => T (!b)) : EvT F R (tNot t) ks T := fun ms σ H C hR r Q q => h ms σ H C hR r _ fun b H1 C1 p1 r1 e1 => q _ H1 C1 p1 r1 e1
theorem et_yes (h : T true) : EvT F R tYes ks T := fun ms σ H C hR r Q q => q true H C h r (Ex.refl C)
end
/-- a < b < c -/
theorem ev_chain {r r' : R2} (h : Ev F R ta ks fun x => Ev F R tb ks fun y => Op2 F R ks r x y fun z => ∃ b, z = .bool b ∧ (b = true → Ev F R tc ks fun w => Op2 F R ks r' y w P) ∧ (b = false → P (.bool false))) : Ev F R (tChain r r' ta tb tc) ks P := fun ms σ H C hR rr Q q => by
  refine h ms σ H C hR rr _ fun v1 H1 C1 x p1 r1 e1 d1 => p1 ms σ H1 C1 hR r1 _ fun v2 H2 C2 y p2 r2 e2 d2 => p2 ms σ H2 C2 v1 v2 hR r2 (d1.up e2) d2 _ fun v3 H3 C3 z p3 r3 e3 d3 => ?_
  obtain ⟨b, rfl, h1, h2⟩ := p3
  cases d3
  refine ⟨b, rfl, ?_⟩
  cases b with
  | true =>
    refine iteT (h1 rfl ms σ H3 C3 hR r3 _ fun v4 H4 C4 w p4 r4 e4 d4 => p4 ms σ H4 C4 v2 v4 hR r4 (d2.up (e3.trans e4)) d4 Q fun v5 H5 C5 u p5 r5 e5 d5 => q v5 H5 C5 u p5 r5 ((((e1.trans e2).trans e3).trans e4).trans e5) d5)
  | false => exact iteF (q _ H3 C3 _ (h2 rfl) r3 ((e1.trans e2).trans e3) (.bl _))
/-! ### arguments, displays, calls of built-ins -/
variable {PA' : List PyData → Prop} {tr tA : TA}
theorem ea_nil (p : PA' []) : EvA F R tNil ks PA' := fun ms σ H C _ r Q q => q [] H C [] p r (Ex.refl C) .nil
theorem ea_cons (h : Ev F R te ks fun x => EvA F R tr ks fun xs => PA' (x :: xs)) : EvA F R (tCons te tr) ks PA' := fun ms σ H C hR r Q q =>
  h ms σ H C hR r _ fun v1 H1 C1 x p1 r1 e1 d1 => p1 ms σ H1 C1 hR r1 _ fun vs H2 C2 xs p2 r2 e2 d2 => q (v1 :: vs) H2 C2 _ p2 r2 (e1.trans e2) (.cons (d1.up e2) d2)
theorem ev_lst (h : EvA F R tA ks fun xs => xs.length ≤ 100000 ∧ P (.list xs)) : Ev F R (tLst tA) ks P := fun ms σ H C hR r Q q =>
  h ms σ H C hR r _ fun vs H1 C1 xs p1 r1 e1 d1 => ⟨by rw [d1.length]; exact Evl.sz_of p1.1, fun p hp => by
    obtain ⟨r2, e2⟩ := r1.new hp (.lst vs)
    exact q _ _ _ _ p1.2 r2 (e1.trans e2) (.lst upd_same (d1.up e2))⟩
theorem ev_lst0 (p : P (.list [])) : Ev F R (tLst tNil) ks P := ev_lst (ea_nil ⟨by decide, p⟩)
theorem ev_tup (h : EvA F R tA ks fun xs => xs.length ≤ 100000 ∧ P (.tuple xs)) : Ev F R (tTup tA) ks P := fun ms σ H C hR r Q q =>
  h ms σ H C hR r _ fun vs H1 C1 xs p1 r1 e1 d1 => ⟨by rw [d1.length]; exact Evl.sz_of p1.1, fun p hp => by
    obtain ⟨r2, e2⟩ := r1.new hp (.tup vs)
    exact q _ _ _ _ p1.2 r2 (e1.trans e2) (.tup upd_same (d1.up e2))⟩
theorem ev_cb {r : List V → Hp → VK → Prop} (h : EvA F R tA ks fun xs => OpN F R ks r xs P) : Ev F R (tCB r tA) ks P := fun ms σ H C hR rr Q q =>
  h ms σ H C hR rr _ fun vs H1 C1 xs p1 r1 e1 d1 => p1 ms σ H1 C1 vs hR r1 d1 Q fun v3 H3 C3 z p3 r3 e3 d3 => q v3 H3 C3 z p3 r3 (e1.trans e3) d3
end
end DL

namespace DL
open PySem PySem.Spec L2

/-! ### lists of whole numbers; least and greatest -/
abbrev dL (ns : List Int) : PyData := .list (ns.map PyData.int)
abbrev dT (ns : List Int) : PyData := .tuple (ns.map PyData.int)
abbrev dB (bs : List Bool) : PyData := .list (bs.map PyData.bool)
abbrev dTB (bs : List Bool) : PyData := .tuple (bs.map PyData.bool)
abbrev dS (bs : List Str) : PyData := .list (bs.map PyData.str)
abbrev dLL (rs : List (List Int)) : PyData := .list (rs.map dL)
def minL : List Int → Int
  | [] => 0
  | [x] => x
  | x :: y :: r => min x (minL (y :: r))
def maxL : List Int → Int
  | [] => 0
  | [x] => x
  | x :: y :: r => max x (maxL (y :: r))
theorem minL_mem : ∀ {ns : List Int}, ns ≠ [] → minL ns ∈ ns
  | [], h => absurd rfl h
  | [x], _ => by simp [minL]
  | x :: y :: r, _ => by
    have ih := minL_mem (ns := y :: r) (by simp)
    show min x (minL (y :: r)) ∈ x :: y :: r
    by_cases h : x ≤ minL (y :: r)
    · rw [Int.min_eq_left h]; exact List.mem_cons_self
    · rw [Int.min_eq_right (by omega)]; exact List.mem_cons_of_mem _ ih
theorem minL_le : ∀ {ns : List Int} {y : Int}, y ∈ ns → minL ns ≤ y
  | [], _, h => by cases h
  | [x], y, h => by
    have : y = x := by simpa using h
    subst this
    exact Int.le_refl _
  | x :: z :: r, y, h => by
    show min x (minL (z :: r)) ≤ y
    rcases List.mem_cons.mp h with h | h
    · rw [h]; omega
    · have := minL_le (ns := z :: r) h
      omega
theorem maxL_mem : ∀ {ns : List Int}, ns ≠ [] → maxL ns ∈ ns
  | [], h => absurd rfl h
  | [x], _ => by simp [maxL]
  | x :: y :: r, _ => by
    have ih := maxL_mem (ns := y :: r) (by simp)
    show max x (maxL (y :: r)) ∈ x :: y :: r
    by_cases h : maxL (y :: r) ≤ x
    · rw [Int.max_eq_left h]; exact List.mem_cons_self
    · rw [Int.max_eq_right (by omega)]; exact List.mem_cons_of_mem _ ih
theorem le_maxL : ∀ {ns : List Int} {y : Int}, y ∈ ns → y ≤ maxL ns
  | [], _, h => by cases h
  | [x], y, h => by
    have : y = x := by simpa using h
    subst this
    exact Int.le_refl _
  | x :: z :: r, y, h => by
    show y ≤ max x (maxL (z :: r))
    rcases List.mem_cons.mp h with h | h
    · rw [h]; omega
    · have := le_maxL (ns := z :: r) h
      omega
theorem minL_is {ns : List Int} {m : Int} (h : m ∈ ns) (hl : ∀ y ∈ ns, m ≤ y) : m = minL ns := by
  have h1 := minL_le h
  have h2 := hl _ (minL_mem (fun z => by rw [z] at h; cases h))
  omega
theorem maxL_is {ns : List Int} {m : Int} (h : m ∈ ns) (hl : ∀ y ∈ ns, y ≤ m) : m = maxL ns := by
  have h1 := le_maxL h
  have h2 := hl _ (maxL_mem (fun z => by rw [z] at h; cases h))
  omega

/-! ### the pieces of a list -/
def cut {α : Type} (xs : List α) (lo hi : Option Int) : List α := (xs.drop (HT.sIx xs.length 0 lo)).take (HT.sIx xs.length xs.length hi - HT.sIx xs.length 0 lo)
theorem cut_map {α β : Type} (f : α → β) (xs : List α) (lo hi : Option Int) : cut (xs.map f) lo hi = (cut xs lo hi).map f := by
  unfold cut
  rw [List.length_map, List.map_take, List.map_drop]
theorem DnAll.cut {C : Hp} {ds : List PyData} {vs : List V} (h : DnAll C vs ds) (lo hi : Option Int) : DnAll C (cutV vs lo hi) (DL.cut ds lo hi) := by
  unfold cutV DL.cut
  rw [h.length]
  exact (h.drop _).take _
theorem drop_min {α : Type} (xs : List α) (a : Nat) : xs.drop (min a xs.length) = xs.drop a := by
  by_cases h : a ≤ xs.length
  · rw [Nat.min_eq_left h]
  · rw [Nat.min_eq_right (by omega), List.drop_length, List.drop_of_length_le (by omega)]
theorem cut_nat {α : Type} (xs : List α) (a b : Nat) : cut xs (some (a : Int)) (some (b : Int)) = (xs.drop a).take (b - a) := by
  unfold cut
  rw [HT.sIx_nat, HT.sIx_nat, drop_min]
  by_cases h2 : b - a ≤ xs.length - a
  · by_cases h : a ≤ xs.length
    · rw [Nat.min_eq_left h]
      by_cases h3 : b ≤ xs.length
      · rw [Nat.min_eq_left h3]
      · rw [Nat.min_eq_right (by omega), List.take_of_length_le (by rw [List.length_drop]; omega), List.take_of_length_le (by rw [List.length_drop]; omega)]
    · rw [List.drop_of_length_le (show xs.length ≤ a by omega), List.take_nil, List.take_nil]
  · rw [List.take_of_length_le (by rw [List.length_drop]; omega), List.take_of_length_le (by rw [List.length_drop]; omega)]
theorem cut_to {α : Type} (xs : List α) (b : Nat) : cut xs none (some (b : Int)) = xs.take b := by
  unfold cut
  rw [HT.sIx_none, HT.sIx_nat, List.drop_zero, Nat.sub_zero]
  by_cases h : b ≤ xs.length
  · rw [Nat.min_eq_left h]
  · rw [Nat.min_eq_right (by omega), List.take_length, List.take_of_length_le (by omega)]
theorem cut_from {α : Type} (xs : List α) (a : Nat) : cut xs (some (a : Int)) none = xs.drop a := by
  unfold cut
  rw [HT.sIx_none, HT.sIx_nat, drop_min, List.take_of_length_le (by rw [List.length_drop]; omega)]

/-! ### named readings of built-ins -/
def rLen (K : PySem.W.Frag) : List V → Hp → VK → Prop := fun xs H Q => ∃ p ys, xs = [.ref p] ∧ (SqL K H p ys ∨ SqT K H p ys) ∧ Q (.int ys.length) H
theorem cr_len {X : Cx} : CallR X (.builtin "len") (rLen X.K) := call_len_seq
def rLenS : List V → Hp → VK → Prop := fun xs H Q => ∃ z, xs = [.str z] ∧ z.length ≤ sizeLine ∧ Q (.int z.length) H
theorem cr_lenS {X : Cx} : CallR X (.builtin "len") rLenS := call_len_str
def rListOf (K : PySem.W.Frag) : List V → Hp → VK → Prop := fun xs H Q => ∃ p ys, xs = [.ref p] ∧ (SqL K H p ys ∨ SqT K H p ys) ∧ ∀ l, H l = none → Q (.ref l) (upd H l (.lst ys))
theorem cr_listOf {X : Cx} : CallR X (.type "list") (rListOf X.K) := call_list_of
def rTupOf (K : PySem.W.Frag) : List V → Hp → VK → Prop := fun xs H Q => ∃ p ys, xs = [.ref p] ∧ ((SqL K H p ys ∧ ∀ l, H l = none → Q (.ref l) (upd H l (.tup ys))) ∨ (SqT K H p ys ∧ Q (.ref p) H))
theorem cr_tupOf {X : Cx} : CallR X (.type "tuple") (rTupOf X.K) := call_tuple_of
def rMax2 : List V → Hp → VK → Prop := fun xs H Q => ∃ i j, xs = [.int i, .int j] ∧ Q (.int (if j > i then j else i)) H
theorem cr_max2 {X : Cx} (hc : X.calm = true) : CallR X (.builtin "max") rMax2 := call_max2 hc
def rMin2 : List V → Hp → VK → Prop := fun xs H Q => ∃ i j, xs = [.int i, .int j] ∧ Q (.int (if j < i then j else i)) H
theorem cr_min2 {X : Cx} (hc : X.calm = true) : CallR X (.builtin "min") rMin2 := call_min2 hc

section
variable {F : FC} {R : Mem} {ks : List SK} {ta tb tc te : TE} {P : PyData → Prop} {x y d : PyData} {tA : TA} {K : PySem.W.Frag}
theorem dn_one {C : Hp} {vs : List V} {d : PyData} (h : DnAll C vs [d]) : ∃ v, vs = [v] ∧ Dn C v d := by
  cases h with
  | cons h1 h2 => cases h2; exact ⟨_, rfl, h1⟩
theorem dn_two {C : Hp} {vs : List V} {d e : PyData} (h : DnAll C vs [d, e]) : ∃ v w, vs = [v, w] ∧ Dn C v d ∧ Dn C w e := by
  cases h with
  | cons h1 h2 =>
    obtain ⟨w, rfl, q⟩ := dn_one h2
    exact ⟨_, w, rfl, h1, q⟩
theorem on_len {ds : List PyData} (p : P (.int (ds.length : Nat))) : OpN F R ks (rLen K) [.list ds] P := fun ms σ H C vs _ r hv0 Q q => by
  obtain ⟨v, rfl, hv⟩ := dn_one hv0
  cases hv with
  | lst h1 h2 => exact ⟨_, _, rfl, .inl (SqL.of (r.ch _ _ h1)), q _ H C _ (by rw [h2.length]; exact p) r (Ex.refl C) (.int _)⟩
theorem on_lenT {ds : List PyData} (p : P (.int (ds.length : Nat))) : OpN F R ks (rLen K) [.tuple ds] P := fun ms σ H C vs _ r hv0 Q q => by
  obtain ⟨v, rfl, hv⟩ := dn_one hv0
  cases hv with
  | tup h1 h2 => exact ⟨_, _, rfl, .inr (SqT.of (r.ch _ _ h1)), q _ H C _ (by rw [h2.length]; exact p) r (Ex.refl C) (.int _)⟩
theorem on_lenI {ns : List Int} (p : P (.int (ns.length : Nat))) : OpN F R ks (rLen K) [dL ns] P := on_len (by rw [List.length_map]; exact p)
theorem on_lenM {α : Type} {f : α → PyData} {ns : List α} (p : P (.int (ns.length : Nat))) : OpN F R ks (rLen K) [.list (ns.map f)] P := on_len (by rw [List.length_map]; exact p)
theorem on_lenTM {α : Type} {f : α → PyData} {ns : List α} (p : P (.int (ns.length : Nat))) : OpN F R ks (rLen K) [.tuple (ns.map f)] P := on_lenT (by rw [List.length_map]; exact p)
theorem on_lenS {z : Str} (hz : z.length ≤ 100000) (p : P (.int (z.length : Nat))) : OpN F R ks rLenS [.str z] P := fun ms σ H C vs _ r hv0 Q q => by
  obtain ⟨v, rfl, hv⟩ := dn_one hv0
  cases hv
  exact ⟨_, rfl, Evl.sz_of hz, q _ H C _ p r (Ex.refl C) (.int _)⟩
theorem on_min {ns : List Int} (hn : ns ≠ []) (p : P (.int (minL ns))) : OpN F R ks (rMin K) [dL ns] P := fun ms σ H C vs _ r hv0 Q q => by
  obtain ⟨v, rfl, hv⟩ := dn_one hv0
  cases hv with
  | lst h1 h2 =>
    have e := h2.ints
    subst e
    exact ⟨_, ns, rfl, SqL.of (r.ch _ _ h1), List.length_pos_iff.mpr hn, fun m a b => by rw [minL_is a b]; exact q _ H C _ p r (Ex.refl C) (.int _)⟩
theorem on_max {ns : List Int} (hn : ns ≠ []) (p : P (.int (maxL ns))) : OpN F R ks (rMax K) [dL ns] P := fun ms σ H C vs _ r hv0 Q q => by
  obtain ⟨v, rfl, hv⟩ := dn_one hv0
  cases hv with
  | lst h1 h2 =>
    have e := h2.ints
    subst e
    exact ⟨_, ns, rfl, SqL.of (r.ch _ _ h1), List.length_pos_iff.mpr hn, fun m a b => by rw [maxL_is a b]; exact q _ H C _ p r (Ex.refl C) (.int _)⟩
theorem on_sum {ns : List Int} (p : P (.int ns.sum)) : OpN F R ks (rSum K) [dL ns] P := fun ms σ H C vs _ r hv0 Q q => by
  obtain ⟨v, rfl, hv⟩ := dn_one hv0
  cases hv with
  | lst h1 h2 =>
    have e := h2.ints
    subst e
    exact ⟨_, ns, rfl, SqL.of (r.ch _ _ h1), q _ H C _ p r (Ex.refl C) (.int _)⟩
theorem on_max2 {i j : Int} (p : P (.int (max i j))) : OpN F R ks rMax2 [.int i, .int j] P := fun ms σ H C vs _ r hv0 Q q => by
  obtain ⟨v, w, rfl, hv, hw⟩ := dn_two hv0
  cases hv; cases hw
  refine ⟨i, j, rfl, ?_⟩
  have e : (if j > i then j else i) = max i j := by
    by_cases h : j > i
    · rw [if_pos h, Int.max_eq_right (by omega)]
    · rw [if_neg h, Int.max_eq_left (by omega)]
  rw [e]
  exact q _ H C _ p r (Ex.refl C) (.int _)
theorem on_min2 {i j : Int} (p : P (.int (min i j))) : OpN F R ks rMin2 [.int i, .int j] P := fun ms σ H C vs _ r hv0 Q q => by
  obtain ⟨v, w, rfl, hv, hw⟩ := dn_two hv0
  cases hv; cases hw
  refine ⟨i, j, rfl, ?_⟩
  have e : (if j < i then j else i) = min i j := by
    by_cases h : j < i
    · rw [if_pos h, Int.min_eq_right (by omega)]
    · rw [if_neg h, Int.min_eq_left (by omega)]
  rw [e]
  exact q _ H C _ p r (Ex.refl C) (.int _)
theorem on_all {bs : List Bool} (p : P (.bool (bs.all id))) : OpN F R ks (rAll K) [dB bs] P := fun ms σ H C vs _ r hv0 Q q => by
  obtain ⟨v, rfl, hv⟩ := dn_one hv0
  cases hv with
  | lst h1 h2 =>
    have e := h2.bools
    subst e
    exact ⟨_, bs, rfl, SqL.of (r.ch _ _ h1), q _ H C _ p r (Ex.refl C) (.bl _)⟩
theorem on_any {bs : List Bool} (p : P (.bool (bs.any id))) : OpN F R ks (rAny K) [dB bs] P := fun ms σ H C vs _ r hv0 Q q => by
  obtain ⟨v, rfl, hv⟩ := dn_one hv0
  cases hv with
  | lst h1 h2 =>
    have e := h2.bools
    subst e
    exact ⟨_, bs, rfl, SqL.of (r.ch _ _ h1), q _ H C _ p r (Ex.refl C) (.bl _)⟩
/-- sorted of whole numbers, fewer than 64 -/
theorem on_sorted {ns : List Int} (hn : ns.length < 64) (p : ∀ ms : List Int, ms.Perm ns → ms.Pairwise (· ≤ ·) → P (dL ms)) : OpN F R ks (rSorted K) [dL ns] P := fun ms σ H C vs _ r hv0 Q q => by
  obtain ⟨v, rfl, hv⟩ := dn_one hv0
  cases hv with
  | lst h1 h2 =>
    have e := h2.ints
    subst e
    refine ⟨_, ns, rfl, SqL.of (r.ch _ _ h1), hn, fun ns' a h3 h4 ha => ?_⟩
    obtain ⟨r2, e2⟩ := r.new ha (.lst (ns'.map V.int))
    exact q _ _ _ _ (p ns' h3 h4) r2 e2 (.lst upd_same (dn_ints _ _))
theorem on_listL {ds : List PyData} (p : P (.list ds)) : OpN F R ks (rListOf K) [.list ds] P := fun ms σ H C vs _ r hv0 Q q => by
  obtain ⟨v, rfl, hv⟩ := dn_one hv0
  cases hv with
  | @lst a xs _ h1 h2 =>
    refine ⟨_, _, rfl, .inl (SqL.of (r.ch _ _ h1)), fun l hl => ?_⟩
    obtain ⟨r2, e2⟩ := r.new hl (.lst xs)
    exact q _ _ _ _ p r2 e2 (.lst upd_same (h2.up e2))
theorem on_listT {ds : List PyData} (p : P (.list ds)) : OpN F R ks (rListOf K) [.tuple ds] P := fun ms σ H C vs _ r hv0 Q q => by
  obtain ⟨v, rfl, hv⟩ := dn_one hv0
  cases hv with
  | @tup a xs _ h1 h2 =>
    refine ⟨_, _, rfl, .inr (SqT.of (r.ch _ _ h1)), fun l hl => ?_⟩
    obtain ⟨r2, e2⟩ := r.new hl (.lst xs)
    exact q _ _ _ _ p r2 e2 (.lst upd_same (h2.up e2))
theorem on_tupL {ds : List PyData} (p : P (.tuple ds)) : OpN F R ks (rTupOf K) [.list ds] P := fun ms σ H C vs _ r hv0 Q q => by
  obtain ⟨v, rfl, hv⟩ := dn_one hv0
  cases hv with
  | @lst a xs _ h1 h2 =>
    refine ⟨_, _, rfl, .inl ⟨SqL.of (r.ch _ _ h1), fun l hl => ?_⟩⟩
    obtain ⟨r2, e2⟩ := r.new hl (.tup xs)
    exact q _ _ _ _ p r2 e2 (.tup upd_same (h2.up e2))
/-! ### isinstance against a built-in class -/
def isiD (T : String) : PyData → Bool
  | .none => T == "NoneType"
  | .bool _ => T == "bool" || T == "int"
  | .int _ => T == "int"
  | .str _ => T == "str"
  | .list _ => T == "list"
  | .tuple _ => T == "tuple"
  | .dict _ => T == "dict"
theorem ev_isi {T : String} (h1 : kitB "NoneType" T = some (isiD T .none)) (h2 : kitB "bool" T = some (isiD T (.bool true))) (h3 : kitB "int" T = some (isiD T (.int 0))) (h4 : kitB "str" T = some (isiD T (.str ⟨#[]⟩))) (h5 : kitB "list" T = some (isiD T (.list [])))
    (h6 : kitB "tuple" T = some (isiD T (.tuple []))) (h : Ev F R ta ks fun x => P (.bool (isiD T x))) : Ev F R (tCB (rIsi K) (tCons ta (tCons (tC (.ty T)) tNil))) ks P := fun ms σ H C hR r Q q =>
  h ms σ H C hR r _ fun v H1 C1 x p r1 e1 d1 => by
    have q1 := q _ H1 C1 _ p r1 e1 (.bl _)
    cases d1 with
    | non => exact ⟨_, .ty T, _, _, _, rfl, .ty T, .base .non, kit_ty h1, q1⟩
    | bl b => exact ⟨_, .ty T, _, _, _, rfl, .ty T, .base (.bl b), kit_ty h2, q1⟩
    | int i => exact ⟨_, .ty T, _, _, _, rfl, .ty T, .base (.int i), kit_ty h3, q1⟩
    | str z => exact ⟨_, .ty T, _, _, _, rfl, .ty T, .base (.str z), kit_ty h4, q1⟩
    | lst a b => exact ⟨_, .ty T, _, _, _, rfl, .ty T, .base (.lst (r1.ch _ _ a)), kit_ty h5, q1⟩
    | tup a b => exact ⟨_, .ty T, _, _, _, rfl, .ty T, .base (.tup (r1.ch _ _ a)), kit_ty h6, q1⟩
theorem ev_isi_int (h : Ev F R ta ks fun x => P (.bool (isiD "int" x))) : Ev F R (tCB (rIsi K) (tCons ta (tCons (tC (.ty "int")) tNil))) ks P := ev_isi (by decide +kernel) (by decide +kernel) (by decide +kernel) (by decide +kernel) (by decide +kernel) (by decide +kernel) h
theorem ev_isi_bool (h : Ev F R ta ks fun x => P (.bool (isiD "bool" x))) : Ev F R (tCB (rIsi K) (tCons ta (tCons (tC (.ty "bool")) tNil))) ks P := ev_isi (by decide +kernel) (by decide +kernel) (by decide +kernel) (by decide +kernel) (by decide +kernel) (by decide +kernel) h
theorem ev_isi_list (h : Ev F R ta ks fun x => P (.bool (isiD "list" x))) : Ev F R (tCB (rIsi K) (tCons ta (tCons (tC (.ty "list")) tNil))) ks P := ev_isi (by decide +kernel) (by decide +kernel) (by decide +kernel) (by decide +kernel) (by decide +kernel) (by decide +kernel) h
theorem ev_isi_tuple (h : Ev F R ta ks fun x => P (.bool (isiD "tuple" x))) : Ev F R (tCB (rIsi K) (tCons ta (tCons (tC (.ty "tuple")) tNil))) ks P := ev_isi (by decide +kernel) (by decide +kernel) (by decide +kernel) (by decide +kernel) (by decide +kernel) (by decide +kernel) h
theorem ev_isi_str (h : Ev F R ta ks fun x => P (.bool (isiD "str" x))) : Ev F R (tCB (rIsi K) (tCons ta (tCons (tC (.ty "str")) tNil))) ks P := ev_isi (by decide +kernel) (by decide +kernel) (by decide +kernel) (by decide +kernel) (by decide +kernel) (by decide +kernel) h
/-! ### subscripts, slices, +, in, is -/
theorem atI_dn {C : Hp} {ds : List PyData} {vs : List V} {i : Int} {d : PyData} (h : DnAll C vs ds) (e : atI ds i = some d) : ∃ v, atI vs i = some v ∧ Dn C v d := by
  unfold atI at e ⊢
  rw [h.length]
  cases q : ixN ds.length i with
  | none => rw [q] at e; cases e
  | some j =>
    rw [q] at e
    exact h.get e
theorem op_ixL {ds : List PyData} {i : Int} (e : atI ds i = some d) (p : P d) : Op2 F R ks (rIxL K) (.list ds) (.int i) P := fun ms σ H C vx vy _ r hx hy Q q => by
  cases hy
  cases hx with
  | lst h1 h2 =>
    obtain ⟨v, e, dv⟩ := atI_dn h2 e
    exact ⟨_, _, i, v, rfl, rfl, SqL.of (r.ch _ _ h1), e, q _ H C _ p r (Ex.refl C) dv⟩
theorem op_ixT {ds : List PyData} {i : Int} (e : atI ds i = some d) (p : P d) : Op2 F R ks (rIxT K) (.tuple ds) (.int i) P := fun ms σ H C vx vy _ r hx hy Q q => by
  cases hy
  cases hx with
  | tup h1 h2 =>
    obtain ⟨v, e, dv⟩ := atI_dn h2 e
    exact ⟨_, _, i, v, rfl, rfl, SqT.of (r.ch _ _ h1), e, q _ H C _ p r (Ex.refl C) dv⟩
theorem atI_map {α : Type} {f : α → PyData} {xs : List α} {i : Int} {a : α} (h : atI xs i = some a) : atI (xs.map f) i = some (f a) := by
  unfold atI at h ⊢
  rw [List.length_map]
  cases q : ixN xs.length i with
  | none => rw [q] at h; cases h
  | some j =>
    rw [q] at h
    show (xs.map f)[j]? = some (f a)
    rw [List.getElem?_map, show xs[j]? = some a from h]
    rfl
theorem atI_get {α : Type} {xs : List α} {j : Nat} (h : j < xs.length) : atI xs (j : Int) = some xs[j] := by
  unfold atI ixN
  rw [if_pos (by omega), if_pos (by omega), Int.toNat_natCast]
  show xs[j]? = some xs[j]
  simp
theorem atI_getD {α : Type} {xs : List α} {i : Int} {j : Nat} (e : i = (j : Int)) (h : j < xs.length) (d : α) : atI xs i = some (xs.getD j d) := by
  rw [e, atI_get h]
  simp [List.getD_eq_getElem?_getD, h]
theorem eo_none {T : Option Int → Prop} (p : T none) : EvO F R tNoPart ks T := fun ms σ H C _ r Q q => q none H C p r (Ex.refl C)
theorem eo_some {T : Option Int → Prop} (h : Ev F R te ks fun x => ∃ i, x = .int i ∧ T (some i)) : EvO F R (tPart te) ks T := fun ms σ H C hR r Q q => h ms σ H C hR r _ fun v H1 C1 x p r1 e1 d1 => by
  obtain ⟨i, rfl, p⟩ := p
  cases d1
  exact ⟨i, rfl, q _ H1 C1 p r1 e1⟩
theorem ev_sl {r : V → Option Int → Option Int → Hp → VK → Prop} {tl th : TO} (h : Ev F R te ks fun x => EvO F R tl ks fun lo => EvO F R th ks fun hi => OpS F R ks r x lo hi P) : Ev F R (tSl r te tl th) ks P := fun ms σ H C hR rr Q q =>
  h ms σ H C hR rr _ fun v1 H1 C1 x p1 r1 e1 d1 => p1 ms σ H1 C1 hR r1 _ fun lo H2 C2 p2 r2 e2 => p2 ms σ H2 C2 hR r2 _ fun hi H3 C3 p3 r3 e3 => p3 ms σ H3 C3 v1 hR r3 ((d1.up e2).up e3) Q fun v4 H4 C4 z p4 r4 e4 d4 => q v4 H4 C4 z p4 r4 (((e1.trans e2).trans e3).trans e4) d4
theorem os_list {ds : List PyData} {lo hi : Option Int} (p : P (.list (cut ds lo hi))) : OpS F R ks (rSlL K) (.list ds) lo hi P := fun ms σ H C v _ r hx Q q => by
  cases hx with
  | @lst a xs _ h1 h2 =>
    refine ⟨_, xs, rfl, SqL.of (r.ch _ _ h1), fun l hl => ?_⟩
    obtain ⟨r2, e2⟩ := r.new hl (.lst (cutV xs lo hi))
    exact q _ _ _ _ p r2 e2 (.lst upd_same ((h2.cut lo hi).up e2))
theorem os_listM {α : Type} {f : α → PyData} {ns : List α} {lo hi : Option Int} (p : P (.list ((cut ns lo hi).map f))) : OpS F R ks (rSlL K) (.list (ns.map f)) lo hi P := os_list (by rw [cut_map]; exact p)
theorem op_cat {a b : List PyData} (hl : a.length + b.length ≤ 100000) (p : P (.list (a ++ b))) : Op2 F R ks rCat (.list a) (.list b) P := fun ms σ H C vx vy _ r hx hy Q q => by
  cases hx with
  | @lst l xs _ h1 h2 =>
    cases hy with
    | @lst m ys _ h3 h4 =>
      refine ⟨l, m, xs, ys, rfl, rfl, r.ch _ _ h1, r.ch _ _ h3, by rw [h2.length, h4.length]; exact Evl.sz_of hl, fun a ha => ?_⟩
      obtain ⟨r2, e2⟩ := r.new ha (.lst (xs ++ ys))
      exact q _ _ _ _ p r2 e2 (.lst upd_same ((h2.app h4).up e2))
theorem op_rep {a : List PyData} {n : Nat} (hl : a.length * n ≤ 100000) (hn : n ≤ 100000) (p : P (.list (List.replicate n a).flatten)) : Op2 F R ks rRep (.list a) (.int (n : Int)) P := fun ms σ H C vx vy _ r hx hy Q q => by
  cases hy
  cases hx with
  | @lst l xs _ h1 h2 =>
    refine ⟨l, n, xs, rfl, rfl, r.ch _ _ h1, by omega, by omega, by rw [h2.length, Int.toNat_natCast]; exact Evl.sz_of hl, fun a ha => ?_⟩
    obtain ⟨r2, e2⟩ := r.new ha (.lst (List.replicate (n : Int).toNat xs).flatten)
    refine q _ _ _ _ p r2 e2 (.lst upd_same (DnAll.up ?_ e2))
    rw [Int.toNat_natCast]
    clear hl hn p q e2 r2 ha
    induction n with
    | zero => exact .nil
    | succ n ih => rw [List.replicate_succ, List.replicate_succ, List.flatten_cons, List.flatten_cons]; exact h2.app ih
theorem inV_ints (i : Int) : ∀ ns : List Int, inV (.int i) (ns.map V.int) = decide (i ∈ ns)
  | [] => by simp [inV]
  | n :: ns => by
    have ih := inV_ints i ns
    unfold inV at ih ⊢
    rw [List.map_cons, List.any_cons, ih]
    show ((n == i) || decide (i ∈ ns)) = decide (i ∈ n :: ns)
    by_cases h : n = i
    · simp [h]
    · have h' : ¬ i = n := fun z => h z.symm
      simp [h, h']
theorem flat_ints : ∀ ns : List Int, (ns.map V.int).all flatV = true
  | [] => rfl
  | n :: ns => by rw [List.map_cons, List.all_cons, flat_ints ns]; rfl
theorem op_inL {i : Int} {ns : List Int} (p : P (.bool (decide (i ∈ ns)))) : Op2 F R ks (rIn K false) (.int i) (dL ns) P := fun ms σ H C vx vy _ r hx hy Q q => by
  cases hx
  cases hy with
  | lst h1 h2 =>
    have e := h2.ints
    subst e
    refine ⟨_, _, rfl, .inl (SqL.of (r.ch _ _ h1)), rfl, flat_ints ns, ?_⟩
    show Q (.bl (inV (.int i) (ns.map V.int))) H
    rw [inV_ints]
    exact q _ H C _ p r (Ex.refl C) (.bl _)
theorem op_notInL {i : Int} {ns : List Int} (p : P (.bool (!decide (i ∈ ns)))) : Op2 F R ks (rIn K true) (.int i) (dL ns) P := fun ms σ H C vx vy _ r hx hy Q q => by
  cases hx
  cases hy with
  | lst h1 h2 =>
    have e := h2.ints
    subst e
    refine ⟨_, _, rfl, .inl (SqL.of (r.ch _ _ h1)), rfl, flat_ints ns, ?_⟩
    show Q (.bl (!inV (.int i) (ns.map V.int))) H
    rw [inV_ints]
    exact q _ H C _ p r (Ex.refl C) (.bl _)
theorem op_inT {i : Int} {ns : List Int} (p : P (.bool (decide (i ∈ ns)))) : Op2 F R ks (rIn K false) (.int i) (dT ns) P := fun ms σ H C vx vy _ r hx hy Q q => by
  cases hx
  cases hy with
  | tup h1 h2 =>
    have e := h2.ints
    subst e
    refine ⟨_, _, rfl, .inr (SqT.of (r.ch _ _ h1)), rfl, flat_ints ns, ?_⟩
    show Q (.bl (inV (.int i) (ns.map V.int))) H
    rw [inV_ints]
    exact q _ H C _ p r (Ex.refl C) (.bl _)
theorem op_isb {a b : Bool} (p : P (.bool (decide (a = b)))) : Op2 F R ks rIsB (.bool a) (.bool b) P := fun ms σ H C vx vy _ r hx hy Q q => by
  cases hx; cases hy
  exact ⟨a, b, rfl, rfl, q _ H C _ p r (Ex.refl C) (.bl _)⟩
theorem op_isnb {a b : Bool} (p : P (.bool (!decide (a = b)))) : Op2 F R ks rNotB (.bool a) (.bool b) P := fun ms σ H C vx vy _ r hx hy Q q => by
  cases hx; cases hy
  exact ⟨a, b, rfl, rfl, q _ H C _ p r (Ex.refl C) (.bl _)⟩
theorem ev_rev (h : Ev F R te ks fun x => ∃ ds, x = .list ds ∧ P (.list ds.reverse)) : Ev F R (tRevL K te) ks P := fun ms σ H C hR r Q q => h ms σ H C hR r _ fun v H1 C1 x p r1 e1 d1 => by
  obtain ⟨ds, rfl, p⟩ := p
  cases d1 with
  | @lst a xs _ h1 h2 =>
    refine ⟨a, xs, rfl, SqL.of (r1.ch _ _ h1), fun l hl => ?_⟩
    obtain ⟨r2, e2⟩ := r1.new hl (.lst xs.reverse)
    exact q _ _ _ _ p r2 (e1.trans e2) (.lst upd_same ((h2.rev).up e2))
/-- a method of a list -/
theorem ev_bmL {r : V → List V → Hp → VK → Prop} (h : Ev F R te ks fun x => ∃ ds, x = .list ds ∧ EvA F R tA ks fun xs => OpM F R ks r (.list ds) xs P) : Ev F R (tBM K "list" r te tA) ks P := fun ms σ H C hR rr Q q => h ms σ H C hR rr _ fun v H1 C1 x p r1 e1 d1 => by
  obtain ⟨ds, rfl, p⟩ := p
  refine ⟨?_, p ms σ H1 C1 hR r1 _ fun vs H2 C2 xs p2 r2 e2 d2 => p2 ms σ H2 C2 v vs hR r2 (d1.up e2) d2 Q fun v3 H3 C3 z p3 r3 e3 d3 => q v3 H3 C3 z p3 r3 ((e1.trans e2).trans e3) d3⟩
  cases d1 with
  | lst h1 h2 => exact .inl ⟨rfl, _, SqL.of (r1.ch _ _ h1)⟩
theorem om_index {ns : List Int} {i : Int} (hi : i ∈ ns) (p : P (.int (ns.idxOf i : Nat))) : OpM F R ks (rIndex K) (dL ns) [.int i] P := fun ms σ H C v vs _ r hx hv0 Q q => by
  obtain ⟨w, rfl, hw⟩ := dn_one hv0
  cases hw
  cases hx with
  | lst h1 h2 =>
    have e := h2.ints
    subst e
    have hlt : ns.idxOf i < ns.length := List.idxOf_lt_length_of_mem hi
    refine ⟨_, _, _, ns.idxOf i, .int i, rfl, rfl, SqL.of (r.ch _ _ h1), rfl, flat_ints ns, ?_, ?_, fun m z' hm hz => ?_, q _ H C _ p r (Ex.refl C) (.int _)⟩
    · rw [List.getElem?_map]
      simp [hlt]
    · show (i == i) = true
      simp
    · rw [List.getElem?_map] at hz
      have hm2 : m < ns.length := by omega
      have hz : z' = V.int ns[m] := by simpa [hm2] using hz.symm
      subst hz
      show (ns[m] == i) = false
      have := List.not_of_lt_findIdx (xs := ns) (p := fun y => y == i) (i := m) hm
      simpa using this
end
end DL

namespace DL
open PySem PySem.Spec L2

/-! ### what is walked -/
/-- J gives the data ds one by one, whatever is done meanwhile -/
structure WalkD (J : It) (ds : List PyData) (C : Hp) : Prop where
  ex : ∃ (G : Hp → Prop) (Y : Nat → Hp → V → Hp → Prop), Walk J ds.length G Y ∧ (∀ H, Ex C H → G H) ∧
    ∀ i H1 C1 x H2, i < ds.length → Ex C C1 → Ex C1 H1 → Y i H1 x H2 → ∃ d C2, ds[i]? = some d ∧ Ex H1 H2 ∧ Ex C1 C2 ∧ (∀ a o, C2 a = some o → H2 a = some o ∧ (C1 a = some o ∨ H1 a = none)) ∧ Dn C2 x d
def EvI (F : FC) (R : Mem) (wi : TI) (ks : List SK) (P : List PyData → Prop) : Prop := ∀ ms σ H C, R ⊆ ms → Real F ks ms σ H C → ∀ Q : It → Hp → Prop, (∀ J H' C' ds, P ds → Real F ks ms σ H' C' → Ex C C' → WalkD J ds C' → Q J H') → wi σ H Q
/-- a target's store: the slots behind it; only the slots vs turn -/
def SetIn (vs : List Nat) (σ σ' : St) : Prop := σ'.length = σ.length ∧ ∀ i : Nat, i ∉ vs → σ'[i]? = σ[i]?
def StG (F : FC) (vs : List Nat) (g : TG) (d : PyData) (ks ks' : List SK) : Prop := ∀ ms σ H C v, Real F ks ms σ H C → Dn C v d → ∀ Q : St → Hp → Prop, (∀ σ', Real F ks' ms σ' H C → SetIn vs σ σ' → Q σ' H) → g v σ H Q
def wipeK (ks : List SK) : List Nat → List SK
  | [] => ks
  | v :: vs => (wipeK ks vs).set v .un

section
variable {F : FC} {R : Mem} {ks : List SK} {ta tb tc te : TE} {P : PyData → Prop} {x y d : PyData} {tA : TA} {K : PySem.W.Frag}
theorem walkD_list {a : Addr} {xs : List V} {ds : List PyData} {C : Hp} (h1 : C a = some (.lst xs)) (h2 : DnAll C xs ds) : WalkD (Itl K a) ds C := by
  refine ⟨_, _, (by rw [← h2.length]; exact walk_list (K := K) (a := a) (xs := xs)), fun H e => SqL.of (e _ _ h1), fun i H1 C1 x H2 hi e1 e2 y => ?_⟩
  obtain ⟨rfl, hx⟩ := y
  obtain ⟨d, hd, dx⟩ := h2.get' hx
  exact ⟨d, C1, hd, Ex.refl _, Ex.refl _, fun a o e => ⟨e2 _ _ e, .inl e⟩, dx.up e1⟩
theorem walkD_tup {a : Addr} {xs : List V} {ds : List PyData} {C : Hp} (h1 : C a = some (.tup xs)) (h2 : DnAll C xs ds) : WalkD (Itt K a) ds C := by
  refine ⟨_, _, (by rw [← h2.length]; exact walk_tup (K := K) (a := a) (xs := xs)), fun H e => SqT.of (e _ _ h1), fun i H1 C1 x H2 hi e1 e2 y => ?_⟩
  obtain ⟨rfl, hx⟩ := y
  obtain ⟨d, hd, dx⟩ := h2.get' hx
  exact ⟨d, C1, hd, Ex.refl _, Ex.refl _, fun a o e => ⟨e2 _ _ e, .inl e⟩, dx.up e1⟩
/-- lo, lo + 1, .. -/
def rangeD (lo : Int) (n : Nat) : List PyData := (List.range n).map fun i => PyData.int (lo + (i : Nat))
theorem rangeD_len (lo : Int) (n : Nat) : (rangeD lo n).length = n := by unfold rangeD; rw [List.length_map, List.length_range]
theorem rangeD_get {lo : Int} {n i : Nat} {d : PyData} (h : (rangeD lo n)[i]? = some d) : i < n ∧ d = .int (lo + (i : Nat)) := by
  have hi : i < n := by
    have := (List.getElem?_eq_some_iff.mp h).1
    rwa [rangeD_len] at this
  refine ⟨hi, ?_⟩
  unfold rangeD at h
  rw [List.getElem?_map, List.getElem?_range hi] at h
  exact (Option.some.inj h).symm
theorem rangeD_at {lo : Int} {n i : Nat} (hi : i < n) : (rangeD lo n)[i]? = some (.int (lo + (i : Nat))) := by
  unfold rangeD
  rw [List.getElem?_map, List.getElem?_range hi]
  rfl
theorem walkD_range {lo : Int} {n : Nat} {C : Hp} : WalkD (Itr lo n) (rangeD lo n) C := by
  refine ⟨_, _, (by rw [rangeD_len]; exact walk_range), fun H e => trivial, fun i H1 C1 x H2 hi e1 e2 y => ?_⟩
  obtain ⟨rfl, hx⟩ := y
  rw [rangeD_len] at hi
  subst hx
  exact ⟨_, C1, rangeD_at hi, Ex.refl _, Ex.refl _, fun a o e => ⟨e2 _ _ e, .inl e⟩, .int _⟩
theorem walkD_rangeC {lo c : Int} {n : Nat} {C : Hp} : WalkD (Itc lo c n) ((List.range n).map fun i => PyData.int (lo + (i : Nat) * c)) C := by
  refine ⟨_, _, (by rw [List.length_map, List.length_range]; exact walk_rangeC), fun H e => trivial, fun i H1 C1 x H2 hi e1 e2 y => ?_⟩
  obtain ⟨rfl, hx⟩ := y
  rw [List.length_map, List.length_range] at hi
  subst hx
  exact ⟨_, C1, by rw [List.getElem?_map, List.getElem?_range hi]; rfl, Ex.refl _, Ex.refl _, fun a o e => ⟨e2 _ _ e, .inl e⟩, .int _⟩
def signs (z : Str) : List PyData := z.cps.toList.map fun c => PyData.str ⟨#[c]⟩
theorem walkD_str {z : Str} {C : Hp} : WalkD (Its z) (signs z) C := by
  have el : (signs z).length = z.cps.size := by unfold signs; simp
  refine ⟨_, _, (by rw [el]; exact walk_str), fun H e => trivial, fun i H1 C1 x H2 hi e1 e2 y => ?_⟩
  obtain ⟨rfl, c, hx, rfl⟩ := y
  refine ⟨.str ⟨#[c]⟩, C1, ?_, Ex.refl _, Ex.refl _, fun a o e => ⟨e2 _ _ e, .inl e⟩, .str _⟩
  unfold signs
  rw [List.getElem?_map]
  simp [hx]
theorem walkD_zip {a b : Addr} {xs ys : List V} {ds es : List PyData} {C : Hp} (h1 : C a = some (.lst xs)) (h2 : DnAll C xs ds) (h3 : C b = some (.lst ys)) (h4 : DnAll C ys es) : WalkD (Itz K a b) (List.zipWith (fun d e => PyData.tuple [d, e]) ds es) C := by
  have el : (List.zipWith (fun d e => PyData.tuple [d, e]) ds es).length = min xs.length ys.length := by rw [List.length_zipWith, h2.length, h4.length]
  refine ⟨_, _, walk_zip (K := K) (a := a) (b := b) (xs := xs) (ys := ys) el, fun H e => ⟨SqL.of (e _ _ h1), SqL.of (e _ _ h3)⟩, fun i H1 C1 x H2 hi e1 e2 y => ?_⟩
  obtain ⟨T, vx, vy, rfl, hT, rfl, hx, hy⟩ := y
  obtain ⟨d, hd, dx⟩ := h2.get' hx
  obtain ⟨e, he, dy⟩ := h4.get' hy
  have hC : C1 T = none := e2.free hT
  refine ⟨.tuple [d, e], upd C1 T (.tup [vx, vy]), by rw [List.getElem?_zipWith, hd, he], Ex.new hT, Ex.new hC, fun c o q => ?_, .tup upd_same (.cons ((dx.up e1).up (Ex.new hC)) (.cons ((dy.up e1).up (Ex.new hC)) .nil))⟩
  by_cases hc : c = T
  · subst hc
    rw [upd_same] at q ⊢
    exact ⟨q, .inr hT⟩
  · rw [upd_ne hc] at q ⊢
    exact ⟨e2 _ _ q, .inl q⟩
theorem walkD_enum {a : Addr} {xs : List V} {ds : List PyData} {C : Hp} (h1 : C a = some (.lst xs)) (h2 : DnAll C xs ds) : WalkD (Ite K a) (ds.zipIdx.map fun p => PyData.tuple [.int (p.2 : Nat), p.1]) C := by
  have el : (ds.zipIdx.map fun p => PyData.tuple [.int (p.2 : Nat), p.1]).length = xs.length := by rw [List.length_map, List.length_zipIdx, h2.length]
  refine ⟨_, _, (by rw [el]; exact walk_enum (K := K) (a := a) (xs := xs)), fun H e => SqL.of (e _ _ h1), fun i H1 C1 x H2 hi e1 e2 y => ?_⟩
  obtain ⟨T, vx, vy, rfl, hT, rfl, hx, hy⟩ := y
  cases hx
  obtain ⟨d, hd, dx⟩ := h2.get' hy
  have hC : C1 T = none := e2.free hT
  refine ⟨.tuple [.int (i : Nat), d], upd C1 T (.tup [.int (i : Nat), vy]), ?_, Ex.new hT, Ex.new hC, fun c o q => ?_, .tup upd_same (.cons (.int _) (.cons ((dx.up e1).up (Ex.new hC)) .nil))⟩
  · rw [List.getElem?_map, List.getElem?_zipIdx, hd]
    simp
  · by_cases hc : c = T
    · subst hc
      rw [upd_same] at q ⊢
      exact ⟨q, .inr hT⟩
    · rw [upd_ne hc] at q ⊢
      exact ⟨e2 _ _ q, .inl q⟩
variable {PL : List PyData → Prop}
theorem ei_list (h : Ev F R te ks fun x => ∃ ds, x = .list ds ∧ PL ds) : EvI F R (iList K te) ks PL := fun ms σ H C hR r Q q => h ms σ H C hR r _ fun v H1 C1 x p r1 e1 d1 => by
  obtain ⟨ds, rfl, p⟩ := p
  cases d1 with
  | lst h1 h2 => exact ⟨_, rfl, ⟨_, SqL.of (r1.ch _ _ h1)⟩, q _ H1 C1 ds p r1 e1 (walkD_list h1 h2)⟩
theorem ei_tup (h : Ev F R te ks fun x => ∃ ds, x = .tuple ds ∧ PL ds) : EvI F R (iTup K te) ks PL := fun ms σ H C hR r Q q => h ms σ H C hR r _ fun v H1 C1 x p r1 e1 d1 => by
  obtain ⟨ds, rfl, p⟩ := p
  cases d1 with
  | tup h1 h2 => exact ⟨_, rfl, ⟨_, SqT.of (r1.ch _ _ h1)⟩, q _ H1 C1 ds p r1 e1 (walkD_tup h1 h2)⟩
theorem ei_range1 (h : EvA F R tA ks fun xs => ∃ n : Int, xs = [.int n] ∧ -100000 ≤ n ∧ n ≤ 100000 ∧ PL (rangeD 0 n.toNat)) : EvI F R (iRng1 tA) ks PL := fun ms σ H C hR r Q q => h ms σ H C hR r _ fun vs H1 C1 xs p r1 e1 d1 => by
  obtain ⟨n, rfl, h1, h2, p⟩ := p
  obtain ⟨v, rfl, hv⟩ := dn_one d1
  cases hv
  exact ⟨n, rfl, by omega, by omega, q _ H1 C1 _ p r1 e1 walkD_range⟩
theorem ei_range2 (h : EvA F R tA ks fun xs => ∃ lo n : Int, xs = [.int lo, .int n] ∧ (-100000 ≤ lo ∧ lo ≤ 100000 ∧ -100000 ≤ n ∧ n ≤ 100000) ∧ PL (rangeD lo (n - lo).toNat)) : EvI F R (iRng2 tA) ks PL := fun ms σ H C hR r Q q => h ms σ H C hR r _ fun vs H1 C1 xs p r1 e1 d1 => by
  obtain ⟨lo, n, rfl, h1, p⟩ := p
  obtain ⟨v, w, rfl, hv, hw⟩ := dn_two d1
  cases hv; cases hw
  exact ⟨lo, n, rfl, ⟨by omega, by omega, by omega, by omega⟩, q _ H1 C1 _ p r1 e1 walkD_range⟩
theorem ei_zip (h : EvA F R tA ks fun xs => ∃ ds es, xs = [.list ds, .list es] ∧ PL (List.zipWith (fun d e => PyData.tuple [d, e]) ds es)) : EvI F R (iZip K tA) ks PL := fun ms σ H C hR r Q q => h ms σ H C hR r _ fun vs H1 C1 xs p r1 e1 d1 => by
  obtain ⟨ds, es, rfl, p⟩ := p
  obtain ⟨v, w, rfl, hv, hw⟩ := dn_two d1
  cases hv with
  | lst h1 h2 =>
    cases hw with
    | lst h3 h4 => exact ⟨_, _, _, _, rfl, SqL.of (r1.ch _ _ h1), SqL.of (r1.ch _ _ h3), q _ H1 C1 _ p r1 e1 (walkD_zip h1 h2 h3 h4)⟩
theorem ei_enum (h : EvA F R tA ks fun xs => ∃ ds, xs = [.list ds] ∧ PL (ds.zipIdx.map fun p => PyData.tuple [.int (p.2 : Nat), p.1])) : EvI F R (iEnum K tA) ks PL := fun ms σ H C hR r Q q => h ms σ H C hR r _ fun vs H1 C1 xs p r1 e1 d1 => by
  obtain ⟨ds, rfl, p⟩ := p
  obtain ⟨v, rfl, hv⟩ := dn_one d1
  cases hv with
  | lst h1 h2 => exact ⟨_, _, rfl, SqL.of (r1.ch _ _ h1), q _ H1 C1 _ p r1 e1 (walkD_enum h1 h2)⟩
theorem ei_str (h : Ev F R te ks fun x => ∃ z, x = .str z ∧ PL (signs z)) : EvI F R (iStr te) ks PL := fun ms σ H C hR r Q q => h ms σ H C hR r _ fun v H1 C1 x p r1 e1 d1 => by
  obtain ⟨z, rfl, p⟩ := p
  cases d1
  exact ⟨z, rfl, q _ H1 C1 _ p r1 e1 walkD_str⟩
/-! ### targets -/
theorem SetIn.one {σ : St} {j : Nat} {o : Option V} {vs : List Nat} (h : j ∈ vs) : SetIn vs σ (σ.set j o) := ⟨List.length_set, fun i hi => List.getElem?_set_ne (fun z => hi (by rw [← z]; exact h))⟩
theorem SetIn.trans {σ σ1 σ2 : St} {vs : List Nat} (a : SetIn vs σ σ1) (b : SetIn vs σ1 σ2) : SetIn vs σ σ2 := ⟨b.1.trans a.1, fun i hi => (b.2 i hi).trans (a.2 i hi)⟩
theorem wipe_get (σ : St) (i : Nat) : ∀ vs : List Nat, (wipe σ vs)[i]? = if i ∈ vs ∧ i < σ.length then some none else σ[i]?
  | [] => by simp [wipe]
  | v :: vs => by
    unfold wipe
    have ih := wipe_get σ i vs
    by_cases hv : v = i
    · subst hv
      by_cases hl : v < σ.length
      · rw [List.getElem?_set_self (by rw [wipe_length]; exact hl), if_pos ⟨List.mem_cons_self, hl⟩]
      · rw [if_neg (fun z => hl z.2), List.getElem?_eq_none (by rw [List.length_set, wipe_length]; omega), List.getElem?_eq_none (by omega)]
    · rw [List.getElem?_set_ne hv, ih]
      have : (i ∈ v :: vs) ↔ i ∈ vs := by
        rw [List.mem_cons]
        exact ⟨fun z => z.elim (fun q => absurd q.symm hv) id, .inr⟩
      simp only [this]
theorem wipe_setIn {σ σ2 : St} {vs : List Nat} (h : SetIn vs (wipe σ vs) σ2) : wipe σ2 vs = wipe σ vs := by
  have hl : σ2.length = σ.length := by rw [h.1, wipe_length]
  refine List.ext_getElem? fun i => ?_
  rw [wipe_get, wipe_get, hl]
  by_cases hi : i ∈ vs ∧ i < σ.length
  · rw [if_pos hi, if_pos hi]
  · rw [if_neg hi, if_neg hi]
    by_cases hm : i ∈ vs
    · have : ¬ i < σ.length := fun z => hi ⟨hm, z⟩
      rw [List.getElem?_eq_none (by omega), List.getElem?_eq_none (by omega)]
    · rw [h.2 i hm, wipe_get, if_neg hi]
theorem Real.wipe {ms : Mem} {σ : St} {H C : Hp} (r : Real F ks ms σ H C) : ∀ vs : List Nat, Real F (wipeK ks vs) ms (L2.wipe σ vs) H C
  | [] => r
  | v :: vs => by
    unfold wipeK L2.wipe
    exact (Real.wipe r vs).unslot
theorem sg_name {j : Nat} {vs : List Nat} (hj : j ∈ vs) : StG F vs (gName j) d ks (ks.set j (.d d)) := fun ms σ H C v r hd Q q => q _ (r.put ⟨v, rfl, hd⟩) (SetIn.one hj)
theorem sg_pair {i j : Nat} {vs : List Nat} {a b : PyData} (hi : i ∈ vs) (hj : j ∈ vs) : StG F vs (gTup K 2 (gCons (gName i) (gCons (gName j) gNil))) (.tuple [a, b]) ks ((ks.set i (.d a)).set j (.d b)) := fun ms σ H C v r hd Q q => by
  cases hd with
  | tup h1 h2 =>
    obtain ⟨v, w, rfl, hv, hw⟩ := dn_two h2
    exact ⟨_, _, rfl, SqT.of (r.ch _ _ h1), rfl, v, _, rfl, w, _, rfl, rfl, q _ ((r.put (k := .d a) ⟨v, rfl, hv⟩).put (k := .d b) ⟨w, rfl, hw⟩) ((SetIn.one hi).trans (SetIn.one hj))⟩
/-! ### comprehensions -/
theorem ev_lc {wi : TI} {g : TG} {tt : TT} {vs : List Nat}
    (h : EvI F R wi ks fun ds => ds.length ≤ 90000 ∧ ∃ I : Nat → List PyData → Prop, I 0 [] ∧
      (∀ i d acc, ds[i]? = some d → I i acc → ∃ ks', StG F vs g d (wipeK ks vs) ks' ∧ EvT F R tt ks' fun b => (b = true → Ev F R te ks' fun y => I (i + 1) (acc ++ [y])) ∧ (b = false → I (i + 1) acc)) ∧
      ∀ acc, I ds.length acc → P (.list acc)) : Ev F R (tLc wi g tt te vs) ks P := fun ms σ H C hR r Q q => h ms σ H C hR r _ fun J H1 C1 ds p r1 e1 w => by
  obtain ⟨hlen, I, i0, step, fin⟩ := p
  intro D hD
  obtain ⟨G, Y, wk, hG, hY⟩ := w.ex
  have hnf : ¬ F.fx D := fun z => by
    obtain ⟨m, hm⟩ := z
    obtain ⟨o, ho⟩ := (r1.fxo hm).there
    rw [hD] at ho; cases ho
  refine lc_it wk (fun i H' => i ≤ ds.length ∧ ∃ C' acc, acc.length ≤ i ∧ I i acc ∧ Ex C1 C' ∧ Real F (wipeK ks vs) ((D, MO.l acc) :: ms) (wipe σ vs) H' C' ∧ Real F ks ((D, MO.l acc) :: ms) σ H' C') ?_ ?_ ?_ ?_
  · refine ⟨Nat.zero_le _, C1, [], Nat.le_refl _, i0, Ex.refl _, (r1.wipe vs).newM hD ⟨[], upd_same, .nil⟩, r1.newM hD ⟨[], upd_same, .nil⟩⟩
  · rintro i H' _ ⟨_, C', acc, _, _, e', ra, _⟩
    exact hG H' (e'.trans ra.ch)
  · rintro i x H' H2 hi ⟨_, C', acc, hacc, hI, e', ra, rb⟩ y
    obtain ⟨d, C2, hd, eH, eC, hc, dx⟩ := hY i H' C' x H2 hi e' ra.ch y
    have ra2 := ra.grow eH eC hc
    have rb2 := rb.grow eH eC hc
    obtain ⟨ks', sg, et⟩ := step i d acc hd hI
    refine sg _ _ _ _ _ ra2 dx _ fun σ' rs hs => ⟨wipe_setIn hs, ?_⟩
    -- what stands around is the same for the outer slots: they are read off the wiped ones again at the end
    have back : ∀ {H4 C4 : Hp} {acc' : List PyData}, Ex C2 C4 → Real F ks' ((D, MO.l acc') :: ms) σ' H4 C4 → Real F (wipeK ks vs) ((D, MO.l acc') :: ms) (wipe σ vs) H4 C4 ∧ Real F ks ((D, MO.l acc') :: ms) σ H4 C4 := fun {H4 C4 acc'} e4 r4 =>
      ⟨⟨ra2.len, fun i k hk => (ra2.slot i k hk).up e4, r4.sub, r4.c0, r4.keep, r4.fxm, r4.mo, r4.nd⟩, ⟨rb2.len, fun i k hk => (rb2.slot i k hk).up e4, r4.sub, r4.c0, r4.keep, r4.fxm, r4.mo, r4.nd⟩⟩
    refine et _ _ _ _ (fun z hz => List.mem_cons_of_mem _ (hR hz)) rs _ fun b H3 C3 pb r3 e3 => ?_
    cases b with
    | true =>
      refine iteT (pb.1 rfl _ _ _ _ (fun z hz => List.mem_cons_of_mem _ (hR hz)) r3 _ fun v4 H4 C4 z p4 r4 e4 d4 => ?_)
      obtain ⟨_, ⟨xs, hxs, dxs⟩, _⟩ := r4.mo D _ List.mem_cons_self
      refine ⟨xs, hxs, by rw [dxs.length]; exact Evl.sz_lt (by omega), hi, C4, acc ++ [z], by rw [List.length_append]; exact Nat.succ_le_succ hacc, p4, (e'.trans eC).trans (e3.trans e4), ?_⟩
      have r5 := r4.setM (l := D) (m := .l (acc ++ [z])) (o := .lst (xs ++ [v4])) List.mem_cons_self hnf ⟨xs ++ [v4], upd_same, dxs.app (.cons d4 .nil)⟩
      have em : setM ((D, MO.l acc) :: ms) D (.l (acc ++ [z])) = (D, .l (acc ++ [z])) :: ms := by
        show (if D = D then (D, MO.l (acc ++ [z])) else (D, MO.l acc)) :: setM ms D (.l (acc ++ [z])) = _
        rw [if_pos rfl]
        congr 1
        unfold setM
        conv => rhs; rw [← List.map_id ms]
        refine List.map_congr_left fun p hp => ?_
        have hne : p.1 ≠ D := fun z => by
          have h1 := r4.nd
          rw [List.map_cons, List.nodup_cons] at h1
          exact h1.1 (List.mem_map.mpr ⟨p, hp, z⟩)
        rw [if_neg hne]
        rfl
      rw [em] at r5
      exact back (e3.trans e4) r5
    | false =>
      refine iteF ⟨hi, C3, acc, by omega, pb.2 rfl, (e'.trans eC).trans e3, back e3 r3⟩
  · rintro H' ⟨_, C', acc, hacc, hI, e', ra, rb⟩
    obtain ⟨xs, r5, e5, d5⟩ := rb.freeze List.mem_cons_self hnf
    have em : dropM ((D, MO.l acc) :: ms) D = ms := by
      unfold dropM
      rw [List.filter_cons, if_neg (by simp)]
      refine List.filter_eq_self.mpr fun p hp => ?_
      have h1 := rb.nd
      rw [List.map_cons, List.nodup_cons] at h1
      simpa using fun z => h1.1 (List.mem_map.mpr ⟨p, hp, z⟩)
    rw [em] at r5
    exact q _ _ _ _ (fin acc hI) r5 ((e1.trans e').trans e5) d5
/-- by a test f and a value v of the place -/
theorem ev_lcP {wi : TI} {g : TG} {tt : TT} {vs : List Nat}
    (h : EvI F R wi ks fun ds => ds.length ≤ 90000 ∧ ∃ (f : Nat → Bool) (v : Nat → PyData),
      (∀ i d, ds[i]? = some d → ∃ ks', StG F vs g d (wipeK ks vs) ks' ∧ EvT F R tt ks' fun b => b = f i ∧ (f i = true → Ev F R te ks' fun y => y = v i)) ∧
      P (.list (((List.range ds.length).filter f).map v))) : Ev F R (tLc wi g tt te vs) ks P := ev_lc fun ms σ H C hR r Q q => h ms σ H C hR r _ fun J H1 C1 ds p r1 e1 w => q J H1 C1 ds (by
  obtain ⟨hl, f, v, h1, h2⟩ := p
  refine ⟨hl, fun i acc => acc = ((List.range i).filter f).map v, rfl, fun i d acc hd hI => ?_, fun acc hI => by rw [hI]; exact h2⟩
  obtain ⟨ks', sg, et⟩ := h1 i d hd
  refine ⟨ks', sg, et.imp fun b hb => ⟨fun hbt => ?_, fun hbf => ?_⟩⟩
  · refine (hb.2 (hb.1.symm.trans hbt)).imp fun y hy => ?_
    show acc ++ [y] = ((List.range (i + 1)).filter f).map v
    rw [show acc = _ from hI, hy, List.range_succ, List.filter_append, List.map_append]
    have : f i = true := hb.1.symm.trans hbt
    simp [this]
  · show acc = ((List.range (i + 1)).filter f).map v
    rw [show acc = _ from hI, List.range_succ, List.filter_append, List.map_append]
    have : f i = false := hb.1.symm.trans hbf
    simp [this]) r1 e1 w
/-- without a test -/
theorem ev_lcM {wi : TI} {g : TG} {vs : List Nat}
    (h : EvI F R wi ks fun ds => ds.length ≤ 90000 ∧ ∃ (v : Nat → PyData),
      (∀ i d, ds[i]? = some d → ∃ ks', StG F vs g d (wipeK ks vs) ks' ∧ Ev F R te ks' fun y => y = v i) ∧
      P (.list ((List.range ds.length).map v))) : Ev F R (tLc wi g tYes te vs) ks P := ev_lcP fun ms σ H C hR r Q q => h ms σ H C hR r _ fun J H1 C1 ds p r1 e1 w => q J H1 C1 ds (by
  obtain ⟨hl, v, h1, h2⟩ := p
  refine ⟨hl, fun _ => true, v, fun i d hd => ?_, by rw [List.filter_eq_self.mpr (fun _ _ => rfl)]; exact h2⟩
  obtain ⟨ks', sg, et⟩ := h1 i d hd
  exact ⟨ks', sg, et_yes ⟨rfl, fun _ => et⟩⟩) r1 e1 w
end
end DL

namespace DL
open PySem PySem.Spec L2

/-! ### a def of data -/
/-- what a def promises: from the arguments' data to what comes out -/
def SpD (g : Exn → Addr) (Rl : List PyData → Out → Prop) : Sp := fun vs H Q E => ∃ C ds out, Ex C H ∧ DnAll C vs ds ∧ Rl ds out ∧
  match out with
  | .ret d => ∀ v H' C', Ex H H' → Ex C C' → (∀ a o, C' a = some o → H' a = some o ∧ (C a = some o ∨ H a = none)) → Dn C' v d → Q v H'
  | .exc e => ∀ H', Ex H H' → E (.ref (g e)) none H'

structure DE where
  nx : List SK → Mem → Prop
  bk : List SK → Mem → Prop := fun _ _ => False
  ct : List SK → Mem → Prop := fun _ _ => False
def WS (F : FC) (t : TS) (ks : List SK) (ms : Mem) (D : DE) : Prop := ∀ σ H C, Real F ks ms σ H C → ∀ Ec : Ends,
  (∀ ks' ms' σ' H' C', D.nx ks' ms' → Real F ks' ms' σ' H' C' → Ex C C' → Ec.nx σ' H') → (∀ ks' ms' σ' H' C', D.bk ks' ms' → Real F ks' ms' σ' H' C' → Ex C C' → Ec.bk σ' H') →
  (∀ ks' ms' σ' H' C', D.ct ks' ms' → Real F ks' ms' σ' H' C' → Ex C C' → Ec.ct σ' H') → (∀ v ks' ms' σ' H' C' d, F.rt d ms' → Real F ks' ms' σ' H' C' → Dn C' v d → Ec.rt v H') → t Ec σ H

section
variable {F : FC} {R : Mem} {ks : List SK} {ms : Mem} {ta tb tc te : TE} {P : PyData → Prop} {x y d : PyData} {tA : TA} {K : PySem.W.Frag} {D : DE} {t u : TS} {c : TT}
theorem ev_call {g : Exn → Addr} {Rl : List PyData → Out → Prop} {E : XK} (h : EvA F R tA ks fun xs => ∃ d, Rl xs (.ret d) ∧ P d) : Ev F R (tCall (SpD g Rl) [] E tA) ks P := fun ms σ H C hR r Q q => h ms σ H C hR r _ fun vs H1 C1 xs p r1 e1 d1 => by
  obtain ⟨d, hr, p⟩ := p
  show SpD g Rl (vs ++ []) H1 Q E
  rw [List.append_nil]
  exact ⟨C1, xs, .ret d, r1.ch, d1, hr, fun v H' C' eH eC hc dv => q v H' C' d p (r1.grow eH eC hc) (e1.trans eC) dv⟩
theorem ev_callX {Rl : List PyData → Out → Prop} (h : EvA F R tA ks fun xs => ∃ e, Rl xs (.exc e) ∧ F.ex e) : Ev F R (tCall (SpD F.g Rl) [] F.E tA) ks P := fun ms σ H C hR r Q q => h ms σ H C hR r _ fun vs H1 C1 xs p r1 e1 d1 => by
  obtain ⟨e, hr, p⟩ := p
  show SpD F.g Rl (vs ++ []) H1 Q F.E
  rw [List.append_nil]
  exact ⟨C1, xs, .exc e, r1.ch, d1, hr, fun H' eH => F.hE e H' p fun a o h1 h2 => eH _ _ (r1.keep a o h1 h2)⟩
/-- returns or raises -/
theorem ev_callB {Rl : List PyData → Out → Prop} (h : EvA F R tA ks fun xs => ∃ o, Rl xs o ∧ match o with | .ret d => P d | .exc e => F.ex e) : Ev F R (tCall (SpD F.g Rl) [] F.E tA) ks P := fun ms σ H C hR r Q q => h ms σ H C hR r _ fun vs H1 C1 xs p r1 e1 d1 => by
  obtain ⟨o, hr, p⟩ := p
  show SpD F.g Rl (vs ++ []) H1 Q F.E
  rw [List.append_nil]
  cases o with
  | ret d => exact ⟨C1, xs, .ret d, r1.ch, d1, hr, fun v H' C' eH eC hc dv => q v H' C' d p (r1.grow eH eC hc) (e1.trans eC) dv⟩
  | exc e => exact ⟨C1, xs, .exc e, r1.ch, d1, hr, fun H' eH => F.hE e H' p fun a o h1 h2 => eH _ _ (r1.keep a o h1 h2)⟩

/-! ### statements -/
theorem WS.imp {D' : DE} (h : WS F t ks ms D) (h1 : ∀ ks ms, D.nx ks ms → D'.nx ks ms) (h2 : ∀ ks ms, D.bk ks ms → D'.bk ks ms) (h3 : ∀ ks ms, D.ct ks ms → D'.ct ks ms) : WS F t ks ms D' := fun σ H C r Ec q1 q2 q3 q4 =>
  h σ H C r Ec (fun a b c d e z => q1 a b c d e (h1 _ _ z)) (fun a b c d e z => q2 a b c d e (h2 _ _ z)) (fun a b c d e z => q3 a b c d e (h3 _ _ z)) q4
theorem ws_seq (h : WS F t ks ms { D with nx := fun ks' ms' => WS F u ks' ms' D }) : WS F (tSeq t u) ks ms D := fun σ H C r Ec q1 q2 q3 q4 =>
  h σ H C r { Ec with nx := u Ec } (fun ks' ms' σ' H' C' w r' e' => w σ' H' C' r' Ec (fun a b c d e z r2 e2 => q1 a b c d e z r2 (e'.trans e2)) (fun a b c d e z r2 e2 => q2 a b c d e z r2 (e'.trans e2)) (fun a b c d e z r2 e2 => q3 a b c d e z r2 (e'.trans e2)) q4) q2 q3 q4
theorem ws_asg {i : Nat} (h : Ev F ms te ks fun d => D.nx (ks.set i (.d d)) ms) : WS F (tAsg te (gName i)) ks ms D := fun σ H C r Ec q1 q2 q3 q4 =>
  h ms σ H C (fun _ z => z) r _ fun v H' C' d p r' e' dv => q1 _ _ _ _ _ p (r'.put ⟨v, rfl, dv⟩) e'
theorem ws_asgG {g : TG} (vs : List Nat) (h : Ev F ms te ks fun d => ∃ ks', StG F vs g d ks ks' ∧ D.nx ks' ms) : WS F (tAsg te g) ks ms D := fun σ H C r Ec q1 q2 q3 q4 =>
  h ms σ H C (fun _ z => z) r _ fun v H' C' d p r' e' dv => by
    obtain ⟨ks', sg, p⟩ := p
    exact sg ms σ H' C' v r' dv _ fun σ' r2 _ => q1 _ _ _ _ _ p r2 e'
theorem ws_drop (h : Ev F ms te ks fun _ => D.nx ks ms) : WS F (tDrop te) ks ms D := fun σ H C r Ec q1 q2 q3 q4 =>
  h ms σ H C (fun _ z => z) r _ fun v H' C' d p r' e' dv => q1 _ _ _ _ _ p r' e'
theorem ws_ret (h : Ev F ms te ks fun d => F.rt d ms) : WS F (tRet te) ks ms D := fun σ H C r Ec q1 q2 q3 q4 =>
  h ms σ H C (fun _ z => z) r _ fun v H' C' d p r' e' dv => q4 v _ _ _ _ _ d p r' dv
theorem ws_retN (h : F.rt .none ms) : WS F tRetN ks ms D := fun σ H C r Ec q1 q2 q3 q4 => q4 .non _ _ _ _ _ .none h r .non
theorem ws_if (h : EvT F ms c ks fun b => (b = true → WS F t ks ms D) ∧ (b = false → WS F u ks ms D)) : WS F (tIfS c t u) ks ms D := fun σ H C r Ec q1 q2 q3 q4 =>
  h ms σ H C (fun _ z => z) r _ fun b H' C' p r' e' => by
    cases b with
    | true => exact iteT (p.1 rfl _ _ _ r' Ec (fun a b c d e z r2 e2 => q1 a b c d e z r2 (e'.trans e2)) (fun a b c d e z r2 e2 => q2 a b c d e z r2 (e'.trans e2)) (fun a b c d e z r2 e2 => q3 a b c d e z r2 (e'.trans e2)) q4)
    | false => exact iteF (p.2 rfl _ _ _ r' Ec (fun a b c d e z r2 e2 => q1 a b c d e z r2 (e'.trans e2)) (fun a b c d e z r2 e2 => q2 a b c d e z r2 (e'.trans e2)) (fun a b c d e z r2 e2 => q3 a b c d e z r2 (e'.trans e2)) q4)
theorem ws_next (h : D.nx ks ms) : WS F tNext ks ms D := fun σ H C r Ec q1 q2 q3 q4 => q1 _ _ _ _ _ h r (Ex.refl _)
theorem ws_brk (h : D.bk ks ms) : WS F tBreak ks ms D := fun σ H C r Ec q1 q2 q3 q4 => q2 _ _ _ _ _ h r (Ex.refl _)
theorem ws_cont (h : D.ct ks ms) : WS F tCont ks ms D := fun σ H C r Ec q1 q2 q3 q4 => q3 _ _ _ _ _ h r (Ex.refl _)
def tRz (E : XK) (C : Addr) : TS := fun _ _ H => E (.ref C) none H
theorem ws_raise {e : Exn} (h : F.ex e) : WS F (tRz F.E (F.g e)) ks ms D := fun σ H C r Ec q1 q2 q3 q4 => F.hE e H h fun a o h1 h2 => r.keep a o h1 h2
/-- a, b = (x, y) -/
theorem ws_par {i j : Nat} {ta : TA} (h : EvA F ms ta ks fun xs => ∃ a b, xs = [a, b] ∧ D.nx ((ks.set i (.d a)).set j (.d b)) ms) : WS F (tPar i j ta) ks ms D := fun σ H C r Ec q1 q2 q3 q4 =>
  h ms σ H C (fun _ z => z) r _ fun vs H' C' xs p r' e' dv => by
    obtain ⟨a, b, rfl, p⟩ := p
    obtain ⟨v, w, rfl, hv, hw⟩ := dn_two dv
    exact ⟨v, w, rfl, q1 _ _ _ _ _ p ((r'.put (k := .d a) ⟨v, rfl, hv⟩).put (k := .d b) ⟨w, rfl, hw⟩) e'⟩
theorem ws_aug {i : Nat} {f : Int → Int → Int} {a : Int} (hx : ks[i]? = some (.d (.int a))) (h : Ev F ms te ks fun y => ∃ b, y = .int b ∧ D.nx (ks.set i (.d (.int (f a b)))) ms) : WS F (tAug i te (ipI f)) ks ms D := fun σ H C r Ec q1 q2 q3 q4 => by
  obtain ⟨v, e, hv⟩ := r.slot i _ hx
  cases hv
  refine ⟨_, e, h ms σ H C (fun _ z => z) r _ fun v H' C' d p r' e' dv => ?_⟩
  obtain ⟨b, rfl, p⟩ := p
  cases dv
  exact ⟨a, b, rfl, rfl, q1 _ _ _ _ _ p (r'.put (k := .d _) ⟨_, rfl, .int _⟩) e'⟩
/-- x = [..], a list that may change from here on -/
theorem ws_asgM {i : Nat} (h : EvA F ms tA ks fun xs => xs.length ≤ 100000 ∧ ∀ l, ¬ F.fx l → D.nx (ks.set i (.v (.ref l))) ((l, .l xs) :: ms)) : WS F (tAsg (tLst tA) (gName i)) ks ms D := fun σ H C r Ec q1 q2 q3 q4 =>
  h ms σ H C (fun _ z => z) r _ fun vs H' C' xs p r' e' dv => ⟨by rw [dv.length]; exact Evl.sz_of p.1, fun l hl => by
    have hnf : ¬ F.fx l := fun z => by
      obtain ⟨m, hm⟩ := z
      obtain ⟨o, ho⟩ := (r'.fxo hm).there
      rw [hl] at ho; cases ho
    exact q1 _ _ _ _ _ (p.2 l hnf) ((r'.newM hl (m := .l xs) ⟨vs, upd_same, dv⟩).put (k := .v (.ref l)) rfl) e'⟩
theorem ws_append {i : Nat} {l : Addr} {ds : List PyData} (hi : ks[i]? = some (.v (.ref l))) (hl : (l, MO.l ds) ∈ ms) (hf : ¬ F.fx l) (hn : ds.length < 100000) (h : Ev F ms te ks fun d => D.nx ks (setM ms l (.l (ds ++ [d])))) : WS F (tDrop (tBM K "list" rAppend (tVar i) (tCons te tNil))) ks ms D := fun σ H C r Ec q1 q2 q3 q4 => by
  have e := r.slot i _ hi
  refine ⟨_, e, ?_, ?_⟩
  · obtain ⟨_, ⟨xs, hxs, _⟩, _⟩ := r.mo l _ hl
    exact .inl ⟨rfl, _, SqL.of hxs⟩
  · refine h ms σ H C (fun _ z => z) r _ fun v H' C' d p r' e' dv => ?_
    obtain ⟨_, ⟨xs, hxs, dxs⟩, _⟩ := r'.mo l _ hl
    exact ⟨l, xs, v, rfl, rfl, hxs, by rw [dxs.length]; exact Evl.sz_lt hn, q1 _ _ _ _ _ p (r'.setM hl hf ⟨xs ++ [v], upd_same, dxs.app (.cons dv .nil)⟩) e'⟩
/-- the changing list becomes data from here on -/
theorem ws_freeze {i : Nat} {l : Addr} {ds : List PyData} (hi : ks[i]? = some (.v (.ref l))) (hl : (l, MO.l ds) ∈ ms) (hf : ¬ F.fx l) (h : WS F t (ks.set i (.d (.list ds))) (dropM ms l) D) : WS F t ks ms D := fun σ H C r Ec q1 q2 q3 q4 => by
  obtain ⟨xs, r1, e1, d1⟩ := r.freeze hl hf
  have r2 : Real F (ks.set i (.d (.list ds))) (dropM ms l) σ H (upd C l (.lst xs)) := by
    refine r1.slots (by rw [List.length_set]) fun j k hk => ?_
    by_cases hj : i = j
    · subst hj
      have hlt : i < ks.length := (List.getElem?_eq_some_iff.mp hi).1
      rw [List.getElem?_set_self hlt] at hk
      cases hk
      exact ⟨_, r.slot i _ hi, d1⟩
    · rw [List.getElem?_set_ne hj] at hk
      exact r1.slot j k hk
  exact h σ H _ r2 Ec (fun a b c d e z r2 e2 => q1 a b c d e z r2 (e1.trans e2)) (fun a b c d e z r2 e2 => q2 a b c d e z r2 (e1.trans e2)) (fun a b c d e z r2 e2 => q3 a b c d e z r2 (e1.trans e2)) q4
theorem ws_for {wi : TI} {g : TG} {vs : List Nat}
    (h : EvI F ms wi ks fun ds => ∃ I : Nat → List SK → Mem → Prop, I 0 ks ms ∧
      (∀ i d ks1 ms1, ds[i]? = some d → I i ks1 ms1 → ∃ ks', StG F vs g d ks1 ks' ∧ WS F t ks' ms1 { nx := I (i + 1), ct := I (i + 1), bk := D.nx }) ∧
      ∀ ks1 ms1, I ds.length ks1 ms1 → D.nx ks1 ms1) : WS F (tFor wi g t) ks ms D := fun σ H C r Ec q1 q2 q3 q4 => h ms σ H C (fun _ z => z) r _ fun J H1 C1 ds p r1 e1 w => by
  obtain ⟨I, i0, step, fin⟩ := p
  obtain ⟨G, Y, wk, hG, hY⟩ := w.ex
  refine for_it wk (fun i σ' H' => ∃ ks' ms' C', I i ks' ms' ∧ Ex C1 C' ∧ Real F ks' ms' σ' H' C') ⟨ks, ms, C1, i0, Ex.refl _, r1⟩ ?_ ?_ ?_
  · rintro i σ' H' _ ⟨ks', ms', C', _, e', ra⟩
    exact hG H' (e'.trans ra.ch)
  · rintro i x σ' H' H2 hi ⟨ks', ms', C', hI, e', ra⟩ y
    obtain ⟨d, C2, hd, eH, eC, hc, dx⟩ := hY i H' C' x H2 hi e' ra.ch y
    have ra2 := ra.grow eH eC hc
    obtain ⟨ks2, sg, ws⟩ := step i d ks' ms' hd hI
    refine sg _ _ _ _ _ ra2 dx _ fun σ2 rs _ => ?_
    exact ws σ2 H2 C2 rs _ (fun a b c d e z r2 e2 => ⟨a, b, e, z, (e'.trans eC).trans e2, r2⟩) (fun a b c d e z r2 e2 => q1 a b c d e z r2 ((e1.trans e').trans (eC.trans e2))) (fun a b c d e z r2 e2 => ⟨a, b, e, z, (e'.trans eC).trans e2, r2⟩) q4
  · rintro σ' H' ⟨ks', ms', C', hI, e', ra⟩
    exact q1 _ _ _ _ _ (fin _ _ hI) ra (e1.trans e')
theorem ws_while {Iv : Nat → List SK → Mem → Prop} {m0 : Nat} (h0 : Iv m0 ks ms)
    (hs : ∀ m ks1 ms1, Iv m ks1 ms1 → EvT F ms1 c ks1 fun b => (b = true → WS F t ks1 ms1 { nx := fun ks2 ms2 => ∃ m', m' < m ∧ Iv m' ks2 ms2, ct := fun ks2 ms2 => ∃ m', m' < m ∧ Iv m' ks2 ms2, bk := D.nx }) ∧ (b = false → D.nx ks1 ms1)) : WS F (tWhile c t) ks ms D := fun σ H C r Ec q1 q2 q3 q4 => by
  refine ⟨fun m σ' H' => ∃ ks' ms' C', Iv m ks' ms' ∧ Ex C C' ∧ Real F ks' ms' σ' H' C', ⟨m0, ks, ms, C, h0, Ex.refl _, r⟩, ?_⟩
  rintro m σ' H' ⟨ks', ms', C', hI, e', ra⟩
  refine hs m ks' ms' hI ms' σ' H' C' (fun _ z => z) ra _ fun b H1 C1 p r1 e1 => ?_
  cases b with
  | true =>
    refine iteT ⟨fun σ2 H2 => ∃ m', m' < m ∧ ∃ ks' ms' C', Iv m' ks' ms' ∧ Ex C C' ∧ Real F ks' ms' σ2 H2 C', fun σ2 H2 z => z, ?_⟩
    refine p.1 rfl σ' H1 C1 r1 _ (fun a b c d e z r2 e2 => ?_) (fun a b c d e z r2 e2 => q1 a b c d e z r2 ((e'.trans e1).trans e2)) (fun a b c d e z r2 e2 => ?_) q4
    · obtain ⟨m', hm, hz⟩ := z
      exact ⟨m', hm, a, b, e, hz, (e'.trans e1).trans e2, r2⟩
    · obtain ⟨m', hm, hz⟩ := z
      exact ⟨m', hm, a, b, e, hz, (e'.trans e1).trans e2, r2⟩
  | false => exact iteF (q1 _ _ _ _ _ (p.2 rfl) r1 (e'.trans e1))
/-- the reading of an item of a changing list; its length; it as data for one look -/
theorem ev_ixM {i : Nat} {l : Addr} {ds : List PyData} (hi : ks[i]? = some (.v (.ref l))) (hl : (l, MO.l ds) ∈ R) (h : Ev F R tb ks fun y => ∃ k d, y = .int k ∧ atI ds k = some d ∧ P d) : Ev F R (tOp (rIxL K) (tVar i) tb) ks P := fun ms σ H C hR r Q q => by
  refine ⟨_, r.slot i _ hi, h ms σ H C hR r _ fun v H1 C1 x p r1 e1 d1 => ?_⟩
  obtain ⟨k, d, rfl, hk, p⟩ := p
  cases d1
  obtain ⟨_, ⟨xs, hxs, dxs⟩, _⟩ := r1.mo l _ (hR hl)
  obtain ⟨v, e, dv⟩ := atI_dn dxs hk
  exact ⟨l, xs, k, v, rfl, rfl, SqL.of hxs, e, q _ H1 C1 _ p r1 e1 dv⟩
theorem ev_lenM {i : Nat} {l : Addr} {ds : List PyData} (hi : ks[i]? = some (.v (.ref l))) (hl : (l, MO.l ds) ∈ R) (p : P (.int (ds.length : Nat))) : Ev F R (tCB (rLen K) (tCons (tVar i) tNil)) ks P := fun ms σ H C hR r Q q => by
  obtain ⟨_, ⟨xs, hxs, dxs⟩, _⟩ := r.mo l _ (hR hl)
  exact ⟨_, r.slot i _ hi, l, xs, rfl, .inl (SqL.of hxs), q _ H C _ (by rw [dxs.length]; exact p) r (Ex.refl C) (.int _)⟩
theorem ev_inM {i : Nat} {l : Addr} {ns : List Int} (hi : ks[i]? = some (.v (.ref l))) (hl : (l, MO.l (ns.map PyData.int)) ∈ R) (h : Ev F R ta ks fun y => ∃ k, y = .int k ∧ P (.bool (decide (k ∈ ns)))) : Ev F R (tOp (rIn K false) ta (tVar i)) ks P := fun ms σ H C hR r Q q => by
  refine h ms σ H C hR r _ fun v H1 C1 x p r1 e1 d1 => ?_
  obtain ⟨k, rfl, p⟩ := p
  cases d1
  obtain ⟨_, ⟨xs, hxs, dxs⟩, _⟩ := r1.mo l _ (hR hl)
  have e := dxs.ints
  subst e
  refine ⟨_, r1.slot i _ hi, l, _, rfl, .inl (SqL.of hxs), rfl, flat_ints ns, ?_⟩
  show Q (.bl (inV (.int k) (ns.map V.int))) H1
  rw [inV_ints]
  exact q _ H1 C1 _ p r1 e1 (.bl _)
end

/-! ### a def by its body -/
def mkF (g : Exn → Addr) (C0 H0 : Hp) (E : XK) (out : Out) (hE : ∀ e H', out = .exc e → (∀ a o, H0 a = some o → ¬ (∃ m, (a, m) ∈ ([] : List (Addr × MO))) → H' a = some o) → E (.ref (g e)) none H') : FC :=
  { g := g, C0 := C0, H0 := H0, dw := [], rt := fun d _ => out = .ret d, ex := fun e => out = .exc e, E := E, hE := hE }
def iniK (n : Nat) (ds : List PyData) : List SK := ds.map SK.d ++ List.replicate (n - ds.length) .un
theorem real_start {g : Exn → Addr} {C H : Hp} {E : XK} {out : Out} {hE} {N : List Str} {ps : List Str} {vs : List V} {ds : List PyData} (e : Ex C H) (h : DnAll C vs ds) (hl : ds.length = ps.length) (hp : ps.length ≤ N.length) :
    Real (mkF g C H E out hE) (iniK N.length ds) [] (L2.start N vs) H C where
  len := by
    unfold L2.start iniK
    rw [List.length_append, List.length_map, List.length_replicate, List.length_append, List.length_map, List.length_replicate, h.length]
  slot := fun i k hk => by
    unfold iniK at hk
    unfold L2.start
    by_cases hi : i < ds.length
    · rw [List.getElem?_append_left (by simpa using hi), List.getElem?_map] at hk
      rw [List.getElem?_append_left (by simpa [h.length] using hi), List.getElem?_map]
      have hd : ds[i]? = some ds[i] := by simp [hi]
      rw [hd] at hk
      cases hk
      obtain ⟨v, hv, dv⟩ := h.get hd
      rw [hv]
      exact ⟨v, rfl, dv⟩
    · rw [List.getElem?_append_right (by simpa using hi), List.getElem?_replicate] at hk
      split at hk
      · cases hk; trivial
      · cases hk
  sub := fun a o h => ⟨e a o h, .inl h⟩
  c0 := fun a o h => h
  keep := fun a o h _ => h
  fxm := fun a h => by cases h
  mo := fun l m h => by cases h
  nd := List.nodup_nil
section
variable {P : Program} {w : World} {K : PySem.W.Frag} {mg : Str → Option Value} {base : Heap}
theorem fn_data {x qual : Str} {st : Stmt} {f : Addr} {fd : FuncData} {N ps : List Str} {k : Nat} {g : Exn → Addr} {Rl : List PyData → Out → Prop} (Fn : Fun K x qual st f fd) (S : FnScope N ps (defScope st)) (len : ∀ ds out, Rl ds out → ds.length = ps.length) (hp : ps.length ≤ N.length)
    (body : ∀ (cdv : Value) (A : Around) (outer : List Env) (s : Shared) (H : Hp) (E : XK), Room k (A.deeper (PyProof.Rows.envOfC qual (defScope st) s.heap.objs.size f cdv)) →
      ∃ t, PSs (cxOf (L2.CX P w) P w K mg base N qual (defScope st) f cdv A outer s H E) (defBody st) t ∧
        ∀ C0 H0 ds out hE, Rl ds out → WS (mkF g C0 H0 E out hE) t (iniK N.length ds) [] { nx := fun _ _ => out = .ret .none }) : FnOk P w K mg base (L2.CX P w) (k + 1) f fd ps (SpD g Rl) := by
  refine Fn.okX S (fun vs H Q E h => ?_) (fun cdv A outer s H vs Q E hr h => ?_)
  · obtain ⟨C, ds, out, _, hd, hR, _⟩ := h
    rw [hd.length]
    exact len _ _ hR
  · obtain ⟨t, ht, hw⟩ := body cdv A outer s H E hr
    refine ⟨t, ht, ?_⟩
    obtain ⟨C, ds, out, eC, hd, hR, hq⟩ := h
    have nf : ∀ a : Addr, ¬ (∃ m, (a, m) ∈ ([] : List (Addr × MO))) := fun a z => by obtain ⟨m, h⟩ := z; cases h
    have hE : ∀ e H', out = .exc e → (∀ a o, H a = some o → ¬ (∃ m, (a, m) ∈ ([] : List (Addr × MO))) → H' a = some o) → E (.ref (g e)) none H' := fun e H' ho hk => by
      subst ho
      exact hq H' fun a o z => hk a o z (nf a)
    have rs : Real (mkF g C H E out hE) (iniK N.length ds) [] (L2.start N vs) H C := real_start eC hd (len _ _ hR) hp
    refine hw C H ds out hE hR (L2.start N vs) H C rs _ ?_ ?_ ?_ ?_
    · intro ks' ms' σ' H' C' ho r' e'
      have ho : out = .ret .none := ho
      subst ho
      exact hq .non H' C' (fun a o z => r'.keep a o z (nf a)) (fun a o z => e' a o z) (fun a o z => r'.sub a o z) .non
    · intro ks' ms' σ' H' C' ho; exact ho.elim
    · intro ks' ms' σ' H' C' ho; exact ho.elim
    · intro v ks' ms' σ' H' C' d ho r' dv
      have ho : out = .ret d := ho
      subst ho
      exact hq v H' C' (fun a o z => r'.keep a o z (nf a)) (fun a o z => r'.c0 a o z) (fun a o z => r'.sub a o z) dv
end

/-- a def of the top as its callers see it -/
structure Ent (P : Program) (w : World) (K : PySem.W.Frag) (mg : Str → Option Value) (base : Heap) (x : Str) (ps : List Str) (k : Nat) (sp : Sp) : Prop where
  ex : ∃ (f : Addr) (fd : FuncData), FnOk P w K mg base (L2.CX P w) k f fd ps sp ∧ mg x = some (.ref f) ∧ PySem.W.keepIn K (.ref f) = true ∧ Binds K fd ps []
/-- a def of the top as it stands there -/
structure Def (K : PySem.W.Frag) (mg : Str → Option Value) (x : Str) (st : Stmt) (ps : List Str) : Prop where
  ex : ∃ (f : Addr) (fd : FuncData), Fun K x x st f fd ∧ mg x = some (.ref f) ∧ Binds K fd ps []
section
variable {P : Program} {w : World} {K : PySem.W.Frag} {mg : Str → Option Value} {base : Heap}
theorem Def.ent {x : Str} {st : Stmt} {ps : List Str} {k : Nat} {sp : Sp} (d : Def K mg x st ps) (h : ∀ f fd, Fun K x x st f fd → FnOk P w K mg base (L2.CX P w) k f fd ps sp) : Ent P w K mg base x ps k sp := by
  obtain ⟨f, fd, F, m, b⟩ := d.ex
  exact ⟨f, fd, h f fd F, m, F.kp, b⟩
end
section
variable {X : Cx} {k : Nat} {ps : List Str} {sp : Sp} {x : Str} {p pos : Pos} {e : Expr} {es : List Expr} {t : TA}
/-- f(e, ..) within a def that lets out what f raises (E0 where f raises nothing) -/
theorem pe_ent (n : Ent X.prog X.w X.K X.mg X.base x ps k sp) {j : Nat} {E : XK} (hr : Room j X.A) (hx : Passes (L2.CX X.prog X.w) X E) (ha : PA X (e :: es) t) (hj : k ≤ j := by decide) (hg : Gl X x := by rfl) (hdb : (x == ("__debug__" : Str)) = false := by decide)
    (he : starEach (e :: es) X.env = (false, eval e X.env) :: starEach es X.env := by rfl) (hpl : (backTo pos (starEach es X.env)).any (·.1) = false := by rfl) : PE X (.Call (.Name x p) (e :: es) [] pos) (tCall sp [] E t) := by
  obtain ⟨f, fd, F, m, kp, b⟩ := n.ex
  exact pe_call F (hr.mono hj) hg m kp b .nil hx ha hdb he hpl
theorem pass_own {E : XK} (tk : Takes X (fun cls d _ H => E cls d H)) : Passes (L2.CX X.prog X.w) X E := passes_call tk fun _ _ _ _ h => h
end
end DL

namespace DL
open PySem PySem.Spec L2

/-- the built-ins' names are free -/
structure Bt (mg : Str → Option Value) : Prop where
  b_len : mg "len" = none
  b_min : mg "min" = none
  b_max : mg "max" = none
  b_range : mg "range" = none
  b_isinstance : mg "isinstance" = none
  b_int : mg "int" = none
  b_bool : mg "bool" = none
  b_list : mg "list" = none
  b_tuple : mg "tuple" = none
  b_str : mg "str" = none
  b_all : mg "all" = none
  b_any : mg "any" = none
  b_sum : mg "sum" = none
  b_sorted : mg "sorted" = none
  b_zip : mg "zip" = none
  b_enumerate : mg "enumerate" = none
  b_set : mg "set" = none
  b_ValueError : mg "ValueError" = none
/-- an own class of exceptions over ValueError, without own methods -/
structure ExT (K : PySem.W.Frag) (mg : Str → Option Value) (x : Str) (C : Addr) : Prop where
  g : mg x = some (.ref C)
  ex : PySem.W.excIn K C [.type "ValueError", .type "Exception", .type "BaseException", .type "object"] "ValueError.__new__" = true
  kp : PySem.W.keepIn K (.ref C) = true
  sb : PySem.W.subIn K (.ref C) (.type "BaseException") = some true
  ty : PySem.W.typeIn K (.ref C) = some (.type "type")
theorem ps_rz {X : Cx} {C : Addr} {E : XK} {x m : Str} {j : Nat} {p p2 pos pos2 : Pos} (T : ExT X.K X.mg x C) (hc : X.calm = true) (tk : Takes X (fun cls d _ H => E cls d H)) (hg : Gl X x := by rfl) (hdb : (x == ("__debug__" : Str)) = false := by decide) :
    PS X (.Raise (some (.Call (.Name x p) [.Constant (.str m) j p2] [] pos)) none pos2) (tRz E C) := ps_raise hc tk (pmk_own PySem.F.excBase_ValueError T.ex T.g T.kp (raises_own T.sb T.ty) hg hdb)
end DL
namespace DL
open PySem PySem.Spec L2
/-! ### the rules whose reading names the written part, that part told -/
section
variable {X : Cx} {K : PySem.W.Frag}
theorem k_slL (h : X.K = K := by rfl) : SlR X (rSlL K) := h ▸ L2.sl_list
theorem k_ixL (h : X.K = K := by rfl) : IxR X (rIxL K) := h ▸ L2.ix_list
theorem k_ixT (h : X.K = K := by rfl) : IxR X (rIxT K) := h ▸ L2.ix_tup
theorem k_len (h : X.K = K := by rfl) : CallR X (.builtin "len") (rLen K) := h ▸ cr_len
theorem k_min (hc : X.calm = true := by rfl) (h : X.K = K := by rfl) : CallR X (.builtin "min") (rMin K) := h ▸ L2.cr_min hc
theorem k_max (hc : X.calm = true := by rfl) (h : X.K = K := by rfl) : CallR X (.builtin "max") (rMax K) := h ▸ L2.cr_max hc
theorem k_sum (hc : X.calm = true := by rfl) (h : X.K = K := by rfl) : CallR X (.builtin "sum") (rSum K) := h ▸ L2.cr_sum hc
theorem k_all (hc : X.calm = true := by rfl) (h : X.K = K := by rfl) : CallR X (.builtin "all") (rAll K) := h ▸ L2.cr_all hc
theorem k_any (hc : X.calm = true := by rfl) (h : X.K = K := by rfl) : CallR X (.builtin "any") (rAny K) := h ▸ L2.cr_any hc
theorem k_sorted (h : X.K = K := by rfl) : CallR X (.builtin "sorted") (rSorted K) := h ▸ L2.cr_sorted
theorem k_listOf (h : X.K = K := by rfl) : CallR X (.type "list") (rListOf K) := h ▸ cr_listOf
theorem k_tupOf (h : X.K = K := by rfl) : CallR X (.type "tuple") (rTupOf K) := h ▸ cr_tupOf
theorem k_isi (h : X.K = K := by rfl) : CallR X (.builtin "isinstance") (rIsi K) := h ▸ call_isi
theorem k_eqD (hu : X.A.units + 64 < cLine) (h : X.K = K := by rfl) : OpR X (compareOp .Eq) (rEqD K) := h ▸ op_eqD hu
theorem k_neD (hu : X.A.units + 64 < cLine) (h : X.K = K := by rfl) : OpR X (compareOp .NotEq) (rNeD K) := h ▸ op_neD hu
theorem k_in (h : X.K = K := by rfl) : OpR X (compareOp .In) (rIn K false) := h ▸ op_in_seq
theorem k_notIn (h : X.K = K := by rfl) : OpR X (compareOp .NotIn) (rIn K true) := h ▸ op_notIn_seq
theorem k_index (h : X.K = K := by rfl) : MtR X "list.index" (rIndex K) := h ▸ mt_index
theorem k_revL {e : Expr} {te : TE} {k : Nat} {p1 p2 p3 pos : Pos} (he : PE X e te) (h : X.K = K := by rfl) : PE X (.Subscript e (.Slice none none (some (.UnaryOp .USub (.Constant (.int 1) k p1) p2)) p3) pos) (tRevL K te) := h ▸ pe_revL he
theorem k_list {tg l : Expr} {tl : TE} (hl : PE X l tl) (h : X.K = K := by rfl) : PI X tg l (iList K tl) := h ▸ pi_list hl
theorem k_tup {tg l : Expr} {tl : TE} (hl : PE X l tl) (h : X.K = K := by rfl) : PI X tg l (iTup K tl) := h ▸ pi_tup hl
theorem k_zip {e e2 : Expr} {ta : TA} {p pos tpos : Pos} {elts : List Expr} {kk : Nat} (hg : Gl X "zip") (hm : X.mg "zip" = none) (ha : PA X [e, e2] ta)
    (hs : starEach [e, e2] X.env = (false, eval e X.env) :: starEach [e2] X.env := by rfl) (hpl : (backTo pos (starEach [e2] X.env)).any (·.1) = false := by rfl) (h : X.K = K := by rfl) :
    PI X (.Tuple elts kk tpos) (.Call (.Name "zip" p) [e, e2] [] pos) (iZip K ta) := h ▸ pi_zip hg hm ha hs hpl
theorem k_tg {es : List Expr} {k : Nat} {t : TGs} {pos : Pos} {n : Nat} (hc : X.calm = true) (h : PGs X es t) (hn : (assignEach es X.env).length = n := by rfl) (hst : (assignEach es X.env).findIdx? (·.1) = none := by rfl) (hK : X.K = K := by rfl) :
    PG X (.Tuple es k pos) (gTup K n t) := hK ▸ pg_tup hc h hn hst
theorem k_bm {o e : Expr} {es : List Expr} {to : TE} {t : TA} {name : Str} {apos cpos : Pos} {T id : String} {r : V → List V → Hp → VK → Prop} (pa : PlainAttrs T) (slot : Slot T name id) (hty : typeOf (.builtin id) = pure (.type "method_descriptor")) (hm : MtR X id r) (ho : PE X o to) (ha : PA X (e :: es) t)
    (hbase : attributeBase o name X.env (eval o X.env) = eval o X.env := by rfl)
    (hfew : ((backTo cpos (starEach (e :: es) X.env)).all (fun x => !x.1) && (backToKw cpos (keywordEach [] X.env)).all (fun x => x.1.isSome)
      && decide ((e :: es).length + ([] : List Keyword).length + (if ([] : List Keyword).isEmpty then 0 else 1) < 30)) = true := by rfl)
    (hline : (apos.endLine == cpos.line) = true := by rfl) (hs : starEach (e :: es) X.env = (false, eval e X.env) :: starEach es X.env := by rfl) (hplain : (backTo cpos (starEach es X.env)).any (·.1) = false := by rfl) (h : X.K = K := by rfl) :
    PE X (.Call (.Attribute o name apos) (e :: es) [] cpos) (tBM K T r to t) := h ▸ pe_bm pa slot hty hm ho ha hbase hfew hline hs hplain
end
end DL

namespace DL
open PySem PySem.Spec L2
/-! ### draws: a list of numbers and a counter, that a law's helpers change -/
structure DrAt (H : Hp) (dr nu : Addr) : Prop where
  d : ∃ c, H dr = some (.lst [.ref nu, .int c])
  n : ∃ ns : List Int, ns ≠ [] ∧ H nu = some (.lst (ns.map V.int))
theorem DrAt.ne {H : Hp} {dr nu : Addr} (h : DrAt H dr nu) : dr ≠ nu := by
  obtain ⟨c, e⟩ := h.d
  obtain ⟨ns, _, e'⟩ := h.n
  refine ne_of e e' fun z => ?_
  cases ns with
  | nil => cases z
  | cons n ns => cases z
/-- a helper that draws: f(draws, data ..) gives some data d with Rl -/
def SpDr (Pre : List PyData → Prop) (Rl : List PyData → PyData → Prop) : Sp := fun vs H Q E => ∃ C ds dr nu vs', vs = .ref dr :: vs' ∧ Ex C H ∧ C dr = none ∧ C nu = none ∧ DrAt H dr nu ∧ DnAll C vs' ds ∧ Pre ds ∧
  ∀ d v H' C', Rl ds d → (∀ a o, H a = some o → a ≠ dr → a ≠ nu → H' a = some o) → DrAt H' dr nu → Ex C C' → (∀ a o, C' a = some o → H' a = some o ∧ (C a = some o ∨ H a = none)) → Dn C' v d → Q v H'
section
variable {F : FC} {R : Mem} {ks : List SK} {ms : Mem} {σ : St} {H C H' C' : Hp} {P : PyData → Prop} {tA : TA}
/-- behind a helper that draws -/
theorem Real.draw (r : Real F ks ms σ H C) {dr nu : Addr} (h1 : (dr, MO.dr nu) ∈ ms) (h2 : (nu, MO.nu) ∈ ms) (kp : ∀ a o, H a = some o → a ≠ dr → a ≠ nu → H' a = some o) (hd : DrAt H' dr nu) (eC : Ex C C')
    (hc : ∀ a o, C' a = some o → H' a = some o ∧ (C a = some o ∨ H a = none)) : Real F ks ms σ H' C' where
  len := r.len
  slot := fun i k h => (r.slot i k h).up eC
  sub := fun a o e => by
    obtain ⟨q1, q2⟩ := hc a o e
    refine ⟨q1, ?_⟩
    rcases q2 with q2 | q2
    · exact (r.sub a o q2).2
    · exact .inr (r.old q2)
  c0 := r.c0.trans eC
  keep := fun a o e f => by
    refine kp a o (r.keep a o e f) (fun z => ?_) (fun z => ?_)
    · subst z
      rcases (r.mo a _ h1).2.2 with q | q
      · rw [q] at e; cases e
      · exact f q
    · subst z
      rcases (r.mo a _ h2).2.2 with q | q
      · rw [q] at e; cases e
      · exact f q
  fxm := r.fxm
  mo := fun l m h => by
    obtain ⟨q1, q2, q3⟩ := r.mo l m h
    refine ⟨?_, ?_, q3⟩
    · cases q : C' l with
      | none => rfl
      | some o =>
        obtain ⟨o', e⟩ := q2.there
        rcases (hc l o q).2 with z | z
        · rw [q1] at z; cases z
        · rw [e] at z; cases z
    · by_cases e1 : l = dr
      · subst e1
        have := nd_inj r.nd h h1
        subst this
        exact hd.d
      · by_cases e2 : l = nu
        · subst e2
          have := nd_inj r.nd h h2
          subst this
          exact hd.n
        · exact q2.up eC fun o e => kp l o e e1 e2
  nd := r.nd
theorem ev_callDr {i : Nat} {dr nu : Addr} {Pre : List PyData → Prop} {Rl : List PyData → PyData → Prop} {E : XK} (hi : ks[i]? = some (.v (.ref dr))) (h1 : (dr, MO.dr nu) ∈ R) (h2 : (nu, MO.nu) ∈ R)
    (h : EvA F R tA ks fun ds => Pre ds ∧ ∀ d, Rl ds d → P d) : Ev F R (tCall (SpDr Pre Rl) [] E (tCons (tVar i) tA)) ks P := fun ms σ H C hR r Q q => by
  refine ⟨_, r.slot i _ hi, h ms σ H C hR r _ fun vs H1 C1 ds p r1 e1 d1 => ?_⟩
  show SpDr Pre Rl (.ref dr :: vs ++ []) H1 Q E
  rw [List.append_nil]
  refine ⟨C1, ds, dr, nu, vs, rfl, r1.ch, (r1.mo _ _ (hR h1)).1, (r1.mo _ _ (hR h2)).1, ⟨(r1.mo _ _ (hR h1)).2.1, (r1.mo _ _ (hR h2)).2.1⟩, d1, p.1, fun d v H' C' hd kp hD eC hc dv => ?_⟩
  exact q v H' C' d (p.2 d hd) (r1.draw (hR h1) (hR h2) kp hD eC hc) (e1.trans eC) dv
end
def drF (g : Exn → Addr) (C0 H0 : Hp) (E : XK) (dr nu : Addr) (rt : PyData → Prop) : FC :=
  { g := g, C0 := C0, H0 := H0, dw := [(dr, .dr nu), (nu, .nu)], rt := fun d _ => rt d, ex := fun _ => False, E := E, hE := fun _ _ h => h.elim }
section
variable {P : Program} {w : World} {K : PySem.W.Frag} {mg : Str → Option Value} {base : Heap}
theorem fn_dr {x qual : Str} {st : Stmt} {f : Addr} {fd : FuncData} {N ps : List Str} {k : Nat} {Pre : List PyData → Prop} {Rl : List PyData → PyData → Prop} (g : Exn → Addr) (Fn : Fun K x qual st f fd) (S : FnScope N ps (defScope st)) (len : ∀ ds, Pre ds → ds.length + 1 = ps.length) (hp : ps.length ≤ N.length)
    (body : ∀ (cdv : Value) (A : Around) (outer : List Env) (s : Shared) (H : Hp) (E : XK), Room k (A.deeper (PyProof.Rows.envOfC qual (defScope st) s.heap.objs.size f cdv)) →
      ∃ t, PSs (cxOf (L2.CX P w) P w K mg base N qual (defScope st) f cdv A outer s H E) (defBody st) t ∧
        ∀ C0 H0 dr nu ds, Pre ds → WS (drF g C0 H0 E dr nu (Rl ds)) t (.v (.ref dr) :: (ds.map SK.d ++ List.replicate (N.length - 1 - ds.length) .un)) [(dr, .dr nu), (nu, .nu)] { nx := fun _ _ => Rl ds .none }) : FnOk P w K mg base (L2.CX P w) (k + 1) f fd ps (SpDr Pre Rl) := by
  refine Fn.okX S (fun vs H Q E h => ?_) (fun cdv A outer s H vs Q E hr h => ?_)
  · obtain ⟨C, ds, dr, nu, vs', rfl, _, _, _, _, hd, hP, _⟩ := h
    rw [List.length_cons, hd.length]
    exact len _ hP
  · obtain ⟨t, ht, hw⟩ := body cdv A outer s H E hr
    refine ⟨t, ht, ?_⟩
    obtain ⟨C, ds, dr, nu, vs', rfl, eC, c1, c2, hD, hd, hP, hq⟩ := h
    have hl := len _ hP
    have ne := hD.ne
    have rs : Real (drF g C H E dr nu (Rl ds)) (.v (.ref dr) :: (ds.map SK.d ++ List.replicate (N.length - 1 - ds.length) .un)) [(dr, .dr nu), (nu, .nu)] (L2.start N (.ref dr :: vs')) H C := by
      refine ⟨?_, ?_, fun a o h => ⟨eC a o h, .inl h⟩, fun a o h => h, fun a o h _ => h, ?_, ?_, ?_⟩
      · unfold L2.start
        rw [List.length_append, List.length_map, List.length_replicate, List.length_cons, List.length_cons, List.length_append, List.length_map, List.length_replicate, hd.length]
        omega
      · intro i k hk
        unfold L2.start
        cases i with
        | zero => cases hk; rfl
        | succ i =>
          rw [List.getElem?_cons_succ] at hk
          show SlotOk C k (some (V.ref dr) :: (vs'.map some ++ _))[i + 1]?
          rw [List.getElem?_cons_succ]
          by_cases hi : i < ds.length
          · rw [List.getElem?_append_left (by simpa using hi), List.getElem?_map] at hk
            rw [List.getElem?_append_left (by simpa [hd.length] using hi), List.getElem?_map]
            have hdi : ds[i]? = some ds[i] := by simp [hi]
            rw [hdi] at hk
            cases hk
            obtain ⟨v, hv, dv⟩ := hd.get hdi
            rw [hv]
            exact ⟨v, rfl, dv⟩
          · rw [List.getElem?_append_right (by simpa using hi), List.getElem?_replicate] at hk
            split at hk
            · cases hk; trivial
            · cases hk
      · intro p h; exact ⟨p.2, h, Weak.refl _⟩
      · intro l m h
        rcases List.mem_cons.mp h with h | h
        · cases h
          exact ⟨c1, hD.d, .inr ⟨_, List.mem_cons_self⟩⟩
        · rcases List.mem_cons.mp h with h | h
          · cases h
            exact ⟨c2, hD.n, .inr ⟨_, List.mem_cons_of_mem _ List.mem_cons_self⟩⟩
          · cases h
      · simp [ne]
    have fin : ∀ {v ks' ms' σ' H' C' d}, Rl ds d → Real (drF g C H E dr nu (Rl ds)) ks' ms' σ' H' C' → Dn C' v d → Q v H' := fun {v ks' ms' σ' H' C' d} hr r' dv =>
      hq d v H' C' hr (fun a o h1 h2 h3 => r'.keep a o h1 fun z => by
        obtain ⟨m, z⟩ := z
        rcases List.mem_cons.mp z with z | z
        · cases z; exact h2 rfl
        · rcases List.mem_cons.mp z with z | z
          · cases z; exact h3 rfl
          · cases z) ⟨r'.fxo (p := (dr, .dr nu)) List.mem_cons_self, r'.fxo (p := (nu, .nu)) (List.mem_cons_of_mem _ List.mem_cons_self)⟩ (fun a o z => r'.c0 a o z) (fun a o z => r'.sub a o z) dv
    refine hw C H dr nu ds hP _ H C rs _ ?_ ?_ ?_ ?_
    · intro ks' ms' σ' H' C' ho r' e'
      exact fin ho r' .non
    · intro ks' ms' σ' H' C' ho; exact ho.elim
    · intro ks' ms' σ' H' C' ho; exact ho.elim
    · intro v ks' ms' σ' H' C' d ho r' dv
      exact fin ho r' dv
end
end DL

namespace DL
open PySem PySem.Spec L2
/-! ### ways that are known -/
theorem c_ff {b : Bool} {A B : Prop} (hb : b = false) (h : A) : (b = false → A) ∧ (b = true → B) := ⟨fun _ => h, fun z => by rw [hb] at z; cases z⟩
theorem c_ft {b : Bool} {A B : Prop} (hb : b = true) (h : B) : (b = false → A) ∧ (b = true → B) := ⟨fun z => (by rw [hb] at z; cases z), fun _ => h⟩
theorem c_tt {b : Bool} {A B : Prop} (hb : b = true) (h : A) : (b = true → A) ∧ (b = false → B) := ⟨fun _ => h, fun z => by rw [hb] at z; cases z⟩
theorem c_tf {b : Bool} {A B : Prop} (hb : b = false) (h : B) : (b = true → A) ∧ (b = false → B) := ⟨fun z => (by rw [hb] at z; cases z), fun _ => h⟩
/-! ### shapes, == of data -/
structure Shp (n : Nat) (d : PyData) : Prop where
  c : d.canLay0 = true
  e : d.depth ≤ n
theorem Shp.ok {n : Nat} {d : PyData} (h : Shp n d) (hn : n ≤ 64 := by decide) : SeqAt.shaped d = true := by
  unfold SeqAt.shaped
  rw [h.c, decide_eq_true (Nat.le_trans h.e hn)]
  rfl
theorem Shp.mono {n m : Nat} {d : PyData} (h : Shp n d) (hn : n ≤ m) : Shp m d := ⟨h.c, Nat.le_trans h.e hn⟩
theorem sh_int (n : Nat) (i : Int) : Shp n (.int i) := ⟨by simp [PyData.canLay0], by simp [PyData.depth]⟩
theorem sh_bool (n : Nat) (i : Bool) : Shp n (.bool i) := ⟨by simp [PyData.canLay0], by simp [PyData.depth]⟩
theorem sh_none (n : Nat) : Shp n .none := ⟨by simp [PyData.canLay0], by simp [PyData.depth]⟩
theorem sh_str (n : Nat) {z : Str} (h : PySem.PyData.strOk z = true) : Shp n (.str z) := ⟨by simpa [PyData.canLay0] using h, by simp [PyData.depth]⟩
theorem sh_all {n : Nat} : ∀ {xs : List PyData}, (∀ x ∈ xs, Shp n x) → PyData.canLayAll0 xs = true ∧ PyData.depthAll xs ≤ n
  | [], _ => ⟨by simp [PyData.canLayAll0], by simp [PyData.depthAll]⟩
  | x :: xs, h => by
    obtain ⟨h1, h2⟩ := sh_all (xs := xs) fun y hy => h y (List.mem_cons_of_mem _ hy)
    have h3 := h x List.mem_cons_self
    refine ⟨by simp [PyData.canLayAll0, h1, h3.c], ?_⟩
    simp only [PyData.depthAll]
    have := h3.e
    omega
theorem sh_list {n : Nat} {xs : List PyData} (h : ∀ x ∈ xs, Shp n x) : Shp (n + 1) (.list xs) := by
  obtain ⟨h1, h2⟩ := sh_all h
  exact ⟨by simpa [PyData.canLay0] using h1, by simp only [PyData.depth]; omega⟩
theorem sh_tup {n : Nat} {xs : List PyData} (h : ∀ x ∈ xs, Shp n x) : Shp (n + 1) (.tuple xs) := by
  obtain ⟨h1, h2⟩ := sh_all h
  exact ⟨by simpa [PyData.canLay0] using h1, by simp only [PyData.depth]; omega⟩
theorem sh_map {α : Type} {f : α → PyData} {n : Nat} (hf : ∀ a, Shp n (f a)) (xs : List α) : Shp (n + 1) (.list (xs.map f)) := sh_list fun x hx => by
  obtain ⟨a, _, rfl⟩ := List.mem_map.mp hx
  exact hf a
theorem sh_mapT {α : Type} {f : α → PyData} {n : Nat} (hf : ∀ a, Shp n (f a)) (xs : List α) : Shp (n + 1) (.tuple (xs.map f)) := sh_tup fun x hx => by
  obtain ⟨a, _, rfl⟩ := List.mem_map.mp hx
  exact hf a
theorem sh_nil (n : Nat) : Shp (n + 1) (.list []) := sh_list fun x hx => by cases hx
theorem sh_dL (ns : List Int) : Shp 1 (dL ns) := sh_map (n := 0) (fun a => sh_int 0 a) ns
theorem sh_dT (ns : List Int) : Shp 1 (dT ns) := sh_mapT (n := 0) (fun a => sh_int 0 a) ns
theorem sh_dB (ns : List Bool) : Shp 1 (dB ns) := sh_map (n := 0) (fun a => sh_bool 0 a) ns
theorem sh_dLL (ns : List (List Int)) : Shp 2 (dLL ns) := sh_map (n := 1) (fun a => sh_dL a) ns
/-- == by an embedding that it tells apart -/
def Apart {α : Type} [DecidableEq α] (f : α → PyData) : Prop := ∀ a b, PyData.eqv (f a) (f b) = decide (a = b)
theorem ap_int : Apart PyData.int := fun a b => by
  simp only [PyData.eqv]
  rw [Bool.beq_eq_decide_eq]
theorem ap_bool : Apart PyData.bool := fun a b => by
  simp only [PyData.eqv]
  rw [Bool.beq_eq_decide_eq]
theorem ap_str : Apart PyData.str := fun a b => by
  simp only [PyData.eqv]
  rw [Bool.beq_eq_decide_eq]
theorem eqvAll_map {α : Type} [DecidableEq α] {f : α → PyData} (hf : Apart f) : ∀ a b : List α, PyData.eqvAll (a.map f) (b.map f) = decide (a = b)
  | [], [] => by simp [PyData.eqvAll]
  | [], _ :: _ => by simp [PyData.eqvAll]
  | _ :: _, [] => by simp [PyData.eqvAll]
  | x :: xs, y :: ys => by
    rw [List.map_cons, List.map_cons]
    simp only [PyData.eqvAll, hf x y, eqvAll_map hf xs ys, List.cons.injEq]
    by_cases h : x = y <;> simp [h]
theorem ap_list {α : Type} [DecidableEq α] {f : α → PyData} (hf : Apart f) : Apart fun xs : List α => PyData.list (xs.map f) := fun a b => by
  simp only [PyData.eqv]
  exact eqvAll_map hf a b
theorem ap_tup {α : Type} [DecidableEq α] {f : α → PyData} (hf : Apart f) : Apart fun xs : List α => PyData.tuple (xs.map f) := fun a b => by
  simp only [PyData.eqv]
  exact eqvAll_map hf a b
theorem ap_dL : Apart dL := ap_list ap_int
theorem ap_dT : Apart dT := ap_tup ap_int
theorem ap_dB : Apart dB := ap_list ap_bool
theorem ap_dLL : Apart dLL := ap_list ap_dL
/-- a pair of whole numbers -/
abbrev dP (p : Int × Int) : PyData := .tuple [.int p.1, .int p.2]
abbrev dLP (ps : List (Int × Int)) : PyData := .list (ps.map dP)
theorem sh_dP (p : Int × Int) : Shp 1 (dP p) := sh_mapT (n := 0) (f := PyData.int) (fun a => sh_int 0 a) [p.1, p.2]
theorem sh_dLP (ps : List (Int × Int)) : Shp 2 (dLP ps) := sh_map (n := 1) sh_dP ps
theorem ap_dP : Apart dP := fun a b => by
  have h := ap_dT [a.1, a.2] [b.1, b.2]
  have e : decide ([a.1, a.2] = [b.1, b.2]) = decide (a = b) := by
    congr 1
    rw [Prod.ext_iff]
    simp
  rw [← e]
  exact h
theorem ap_dLP : Apart dLP := ap_list ap_dP
section
variable {F : FC} {R : Mem} {ks : List SK} {P : PyData → Prop} {K : PySem.W.Frag}
theorem op_eqA {α : Type} [DecidableEq α] {f : α → PyData} {n : Nat} (ap : Apart f) (sh : ∀ a, Shp n (f a)) (hn : n ≤ 64) {a b : α} (p : P (.bool (decide (a = b)))) : Op2 F R ks (rEqD K) (f a) (f b) P := op_eqd ((sh a).ok hn) ((sh b).ok hn) (by rw [ap a b]; exact p)
theorem op_neA {α : Type} [DecidableEq α] {f : α → PyData} {n : Nat} (ap : Apart f) (sh : ∀ a, Shp n (f a)) (hn : n ≤ 64) {a b : α} (p : P (.bool (!decide (a = b)))) : Op2 F R ks (rNeD K) (f a) (f b) P := op_ned ((sh a).ok hn) ((sh b).ok hn) (by rw [ap a b]; exact p)
theorem op_eqL {a b : List Int} (p : P (.bool (decide (a = b)))) : Op2 F R ks (rEqD K) (dL a) (dL b) P := op_eqA ap_dL sh_dL (by decide) p
theorem op_neL {a b : List Int} (p : P (.bool (!decide (a = b)))) : Op2 F R ks (rNeD K) (dL a) (dL b) P := op_neA ap_dL sh_dL (by decide) p
theorem op_eqP {a b : List (Int × Int)} (p : P (.bool (decide (a = b)))) : Op2 F R ks (rEqD K) (dLP a) (dLP b) P := op_eqA ap_dLP sh_dLP (by decide) p
theorem op_neP {a b : List (Int × Int)} (p : P (.bool (!decide (a = b)))) : Op2 F R ks (rNeD K) (dLP a) (dLP b) P := op_neA ap_dLP sh_dLP (by decide) p
theorem op_eqLL {a b : List (List Int)} (p : P (.bool (decide (a = b)))) : Op2 F R ks (rEqD K) (dLL a) (dLL b) P := op_eqA ap_dLL sh_dLL (by decide) p
theorem op_neLL {a b : List (List Int)} (p : P (.bool (!decide (a = b)))) : Op2 F R ks (rNeD K) (dLL a) (dLL b) P := op_neA ap_dLL sh_dLL (by decide) p
theorem op_eqB {a b : Bool} (p : P (.bool (decide (a = b)))) : Op2 F R ks (rEqD K) (.bool a) (.bool b) P := op_eqA (n := 0) ap_bool (sh_bool 0) (by decide) p
theorem op_neB {a b : Bool} (p : P (.bool (!decide (a = b)))) : Op2 F R ks (rNeD K) (.bool a) (.bool b) P := op_neA (n := 0) ap_bool (sh_bool 0) (by decide) p
theorem op_eqI2 {a b : Int} (p : P (.bool (decide (a = b)))) : Op2 F R ks (rEqD K) (.int a) (.int b) P := op_eqA (n := 0) ap_int (sh_int 0) (by decide) p
theorem op_neI2 {a b : Int} (p : P (.bool (!decide (a = b)))) : Op2 F R ks (rNeD K) (.int a) (.int b) P := op_neA (n := 0) ap_int (sh_int 0) (by decide) p
/-- == [] -/
theorem op_eq0 {α : Type} {f : α → PyData} {n : Nat} {a : List α} (sh : Shp n (.list (a.map f))) (hn : n ≤ 64) (p : P (.bool a.isEmpty)) : Op2 F R ks (rEqD K) (.list (a.map f)) (.list []) P := op_eqd (sh.ok hn) ((sh_nil 0).ok) (by
  have : PyData.eqv (.list (a.map f)) (.list []) = a.isEmpty := by
    cases a <;> simp [PyData.eqv, PyData.eqvAll]
  rw [this]; exact p)
theorem op_ne0 {α : Type} {f : α → PyData} {n : Nat} {a : List α} (sh : Shp n (.list (a.map f))) (hn : n ≤ 64) (p : P (.bool (!a.isEmpty))) : Op2 F R ks (rNeD K) (.list (a.map f)) (.list []) P := op_ned (sh.ok hn) ((sh_nil 0).ok) (by
  have : PyData.eqv (.list (a.map f)) (.list []) = a.isEmpty := by
    cases a <;> simp [PyData.eqv, PyData.eqvAll]
  rw [this]; exact p)
theorem op_eq0L {a : List Int} (p : P (.bool a.isEmpty)) : Op2 F R ks (rEqD K) (dL a) (.list []) P := op_eq0 (sh_dL a) (by decide) p
theorem op_ne0L {a : List Int} (p : P (.bool (!a.isEmpty))) : Op2 F R ks (rNeD K) (dL a) (.list []) P := op_ne0 (sh_dL a) (by decide) p
theorem op_eq0P {a : List (Int × Int)} (p : P (.bool a.isEmpty)) : Op2 F R ks (rEqD K) (dLP a) (.list []) P := op_eq0 (sh_dLP a) (by decide) p
theorem op_ne0P {a : List (Int × Int)} (p : P (.bool (!a.isEmpty))) : Op2 F R ks (rNeD K) (dLP a) (.list []) P := op_ne0 (sh_dLP a) (by decide) p
end
/-! ### the start of the draws, the law itself -/
def SpStart (K : PySem.W.Frag) : Sp := fun vs H Q E => ∃ (a : Addr) (ns : List Int), vs = [.ref a] ∧ SqL K H a (ns.map V.int) ∧ ∀ dr nu H', H dr = none → H nu = none → Ex H H' → DrAt H' dr nu → Q (.ref dr) H'
theorem dp_ints (K : PySem.W.Frag) (H : Hp) : ∀ ns : List Int, DpAll K H (ns.map V.int) (ns.map PyData.int)
  | [] => .nil
  | n :: ns => .cons (.int n) (dp_ints K H ns)
def spLaw (K : PySem.W.Frag) : Sp := fun vs H Q _ => ∃ (a : Addr) (ns : List Int), vs = [.ref a] ∧ SqL K H a (ns.map V.int) ∧ ∀ H', Q (.bl true) H'
def lawF (g : Exn → Addr) (H0 : Hp) (E : XK) : FC :=
  { g := g, C0 := fun _ => none, H0 := H0, dw := [], rt := fun d _ => d = .bool true, ex := fun _ => False, E := E, hE := fun _ _ h => h.elim }
section
variable {P : Program} {w : World} {K : PySem.W.Frag} {mg : Str → Option Value} {base : Heap}
theorem fn_law {x qual : Str} {st : Stmt} {f : Addr} {fd : FuncData} {N : List Str} {k : Nat} (g : Exn → Addr) (Fn : Fun K x qual st f fd) (S : FnScope N ["script"] (defScope st))
    (body : ∀ (cdv : Value) (A : Around) (outer : List Env) (s : Shared) (H : Hp) (E : XK), Room k (A.deeper (PyProof.Rows.envOfC qual (defScope st) s.heap.objs.size f cdv)) →
      ∃ t, PSs (cxOf (L2.CX P w) P w K mg base N qual (defScope st) f cdv A outer s H E) (defBody st) t ∧
        ∀ (H0 : Hp) (a : Addr) (ns : List Int), SqL K H0 a (ns.map V.int) → WS (lawF g H0 E) t (.v (.ref a) :: List.replicate (N.length - 1) .un) [] { nx := fun _ _ => False }) : FnOk P w K mg base (L2.CX P w) (k + 1) f fd ["script"] (spLaw K) := by
  refine Fn.okX S (fun vs H Q E h => ?_) (fun cdv A outer s H vs Q E hr h => ?_)
  · obtain ⟨a, ns, rfl, _⟩ := h
    rfl
  · obtain ⟨t, ht, hw⟩ := body cdv A outer s H E hr
    refine ⟨t, ht, ?_⟩
    obtain ⟨a, ns, rfl, hS, hq⟩ := h
    have rs : Real (lawF g H E) (.v (.ref a) :: List.replicate (N.length - 1) .un) [] (L2.start N [.ref a]) H (fun _ => none) := by
      refine ⟨?_, ?_, fun a o h => (by cases h), fun a o h => (by cases h), fun a o h _ => h, fun p h => (by cases h), fun l m h => (by cases h), List.nodup_nil⟩
      · unfold L2.start
        simp
      · intro i k hk
        cases i with
        | zero => cases hk; rfl
        | succ i =>
          rw [List.getElem?_cons_succ, List.getElem?_replicate] at hk
          split at hk
          · cases hk; trivial
          · cases hk
    refine hw H a ns hS _ H _ rs _ (fun _ _ _ _ _ h => h.elim) (fun _ _ _ _ _ h => h.elim) (fun _ _ _ _ _ h => h.elim) fun v ks' ms' σ' H' C' d hd r' dv => ?_
    have hd : d = .bool true := hd
    subst hd
    cases dv
    exact hq H'
end
section
variable {g : Exn → Addr} {H0 : Hp} {E : XK} {K : PySem.W.Frag} {ks : List SK} {ms : Mem} {D : DE}
/-- draws = _law_start(script) -/
theorem ws_start {i j : Nat} {a : Addr} {ns : List Int} {E' : XK} (hi : ks[i]? = some (.v (.ref a))) (hS : SqL K H0 a (ns.map V.int)) (h : ∀ dr nu, D.nx (ks.set j (.v (.ref dr))) ((dr, .dr nu) :: (nu, .nu) :: ms)) :
    WS (lawF g H0 E) (tAsg (tCall (SpStart K) [] E' (tCons (tVar i) tNil)) (gName j)) ks ms D := fun σ H C r Ec q1 q2 q3 q4 => by
  refine ⟨_, r.slot i _ hi, a, ns, rfl, ?_, fun dr nu H' h1 h2 eH hD => ?_⟩
  · have kp : ∀ b o, H0 b = some o → H b = some o := fun b o z => r.keep b o z fun q => by obtain ⟨m, q⟩ := q; cases q
    rcases hS with (z | ⟨o, z⟩) | z
    · exact .inl (.inl (kp _ _ z))
    · exact .inl (.inr ⟨o, kp _ _ z⟩)
    · exact .inr z
  · have r1 : Real (lawF g H0 E) ks ms σ H' C := r.grow eH (Ex.refl C) fun a o e => ⟨eH _ _ (r.ch _ _ e), .inl e⟩
    have cd : C dr = none := r.ch.free h1
    have cn : C nu = none := r.ch.free h2
    have ndr : ∀ m, (dr, m) ∉ ms := fun m hm => by obtain ⟨o, e⟩ := (r.mo _ _ hm).2.1.there; rw [h1] at e; cases e
    have nnu : ∀ m, (nu, m) ∉ ms := fun m hm => by obtain ⟨o, e⟩ := (r.mo _ _ hm).2.1.there; rw [h2] at e; cases e
    have r2 : Real (lawF g H0 E) ks ((dr, .dr nu) :: (nu, .nu) :: ms) σ H' C := by
      refine ⟨r1.len, r1.slot, r1.sub, r1.c0, r1.keep, fun p h => (by cases h), fun l m hm => ?_, ?_⟩
      · rcases List.mem_cons.mp hm with z | z
        · cases z
          exact ⟨cd, hD.d, .inl (r.old h1)⟩
        · rcases List.mem_cons.mp z with z | z
          · cases z
            exact ⟨cn, hD.n, .inl (r.old h2)⟩
          · exact r1.mo l m z
      · rw [List.map_cons, List.map_cons, List.nodup_cons, List.nodup_cons]
        refine ⟨fun z => ?_, fun z => ?_, r1.nd⟩
        · rcases List.mem_cons.mp z with z | z
          · exact hD.ne z
          · obtain ⟨⟨b, m⟩, hb, e⟩ := List.mem_map.mp z
            have e : b = dr := e
            subst e
            exact ndr m hb
        · obtain ⟨⟨b, m⟩, hb, e⟩ := List.mem_map.mp z
          have e : b = nu := e
          subst e
          exact nnu m hb
    exact q1 _ _ _ _ _ (h dr nu) (r2.put (k := .v (.ref dr)) rfl) (Ex.refl C)
end
end DL

namespace DL
open PySem PySem.Spec L2
section
variable {F : FC} {R : Mem} {ks : List SK} {P : PyData → Prop} {K : PySem.W.Frag} {te tl : TE} {tt : TT} {tA : TA} {vs : List Nat} {i j : Nat}
theorem mapI_get {ns : List Int} {i : Nat} {d : PyData} (h : (ns.map PyData.int)[i]? = some d) : ∃ v, ns[i]? = some v ∧ d = .int v := by
  rw [List.getElem?_map] at h
  cases e : ns[i]? with
  | none => rw [e] at h; cases h
  | some v => rw [e] at h; exact ⟨v, rfl, (Option.some.inj h).symm⟩
theorem map_get {α : Type} {f : α → PyData} {ns : List α} {i : Nat} {d : PyData} (h : (ns.map f)[i]? = some d) : ∃ v, ns[i]? = some v ∧ d = f v := by
  rw [List.getElem?_map] at h
  cases e : ns[i]? with
  | none => rw [e] at h; cases h
  | some v => rw [e] at h; exact ⟨v, rfl, (Option.some.inj h).symm⟩
theorem range_map {α : Type} (f : α → PyData) : ∀ (xs : List α) (g : Nat → PyData), (∀ i x, xs[i]? = some x → g i = f x) → (List.range xs.length).map g = xs.map f := fun xs g h => by
  refine List.ext_getElem (by simp) fun i h1 h2 => ?_
  rw [List.length_map] at h2
  simp
  exact h i _ (List.getElem?_eq_getElem h2)
/-- a comprehension by the items themselves: f of each -/
theorem ev_lcF {α : Type} {wi : TI} {g : TG} (e : α → PyData)
    (h : EvI F R wi ks fun ds => ∃ (xs : List α) (f : α → PyData), ds = xs.map e ∧ xs.length ≤ 90000 ∧ (∀ x ∈ xs, ∃ ks', StG F vs g (e x) (wipeK ks vs) ks' ∧ Ev F R te ks' fun y => y = f x) ∧ P (.list (xs.map f))) : Ev F R (tLc wi g tYes te vs) ks P := ev_lcM fun ms σ H C hR r Q q => h ms σ H C hR r _ fun J H1 C1 ds p r1 e1 w => q J H1 C1 ds (by
  obtain ⟨xs, f, rfl, hl, hs, hp⟩ := p
  rw [List.length_map]
  have hg : ∀ (i : Nat) x, xs[i]? = some x → ((xs.map f).getD i .none) = f x := fun i x hx => by
    rw [List.getD_eq_getElem?_getD, List.getElem?_map, hx]
    rfl
  refine ⟨hl, fun i => (xs.map f).getD i .none, fun i d hd => ?_, by rw [range_map f xs _ hg]; exact hp⟩
  obtain ⟨x, hx, rfl⟩ := map_get hd
  obtain ⟨ks', sg, ev⟩ := hs x (List.mem_of_getElem? hx)
  refine ⟨ks', sg, ev.imp fun y hy => ?_⟩
  rw [hy]
  exact (hg i x hx).symm) r1 e1 w
/-- .. with a test b -/
theorem ev_lcB {α : Type} {wi : TI} {g : TG} (e : α → PyData)
    (h : EvI F R wi ks fun ds => ∃ (xs : List α) (b : α → Bool) (f : α → PyData), ds = xs.map e ∧ xs.length ≤ 90000 ∧ (∀ x ∈ xs, ∃ ks', StG F vs g (e x) (wipeK ks vs) ks' ∧ EvT F R tt ks' fun c => c = b x ∧ (b x = true → Ev F R te ks' fun y => y = f x)) ∧ P (.list ((xs.filter b).map f))) : Ev F R (tLc wi g tt te vs) ks P := ev_lc fun ms σ H C hR r Q q => h ms σ H C hR r _ fun J H1 C1 ds p r1 e1 w => q J H1 C1 ds (by
  obtain ⟨xs, b, f, rfl, hl, hs, hp⟩ := p
  rw [List.length_map]
  refine ⟨hl, fun i acc => acc = ((xs.take i).filter b).map f, rfl, fun i d acc hd hI => ?_, fun acc hI => by rw [show acc = _ from hI, List.take_length]; exact hp⟩
  obtain ⟨x, hx, rfl⟩ := map_get hd
  obtain ⟨ks', sg, et⟩ := hs x (List.mem_of_getElem? hx)
  have hI : acc = ((xs.take i).filter b).map f := hI
  refine ⟨ks', sg, et.imp fun c hc => ⟨fun hct => (hc.2 (hc.1.symm.trans hct)).imp fun y hy => ?_, fun hcf => ?_⟩⟩
  · show acc ++ [y] = ((xs.take (i + 1)).filter b).map f
    have hb : b x = true := hc.1.symm.trans hct
    rw [hI, hy, List.take_add_one, hx, List.filter_append, List.map_append]
    simp [hb]
  · show acc = ((xs.take (i + 1)).filter b).map f
    have hb : b x = false := hc.1.symm.trans hcf
    rw [hI, List.take_add_one, hx, List.filter_append, List.map_append]
    simp [hb]) r1 e1 w
theorem atI_back {α : Type} {xs : List α} {x : α} (h : 1 ≤ xs.length) (e : xs[xs.length - 1]? = some x) : atI xs (-1) = some x := by
  unfold atI ixN
  rw [if_neg (by decide), if_pos (by omega)]
  show xs[((-1 : Int) + (xs.length : Int)).toNat]? = some x
  rw [show ((-1 : Int) + (xs.length : Int)).toNat = xs.length - 1 by omega]
  exact e
theorem rangeD_map (lo : Int) (n : Nat) : rangeD lo n = ((List.range n).map fun i : Nat => lo + (i : Int)).map PyData.int := by
  unfold rangeD
  rw [List.map_map]
  rfl
theorem zipI (a b : List Int) : List.zipWith (fun d e => PyData.tuple [d, e]) (a.map PyData.int) (b.map PyData.int) = (a.zip b).map dP := by
  rw [List.zipWith_map, List.zip, List.map_zipWith]
end
end DL

namespace DL
open PySem PySem.Spec L2
/-! ### what the top has left -/
section
variable {K : PySem.W.Frag} {h : Heap} {mg : Str → Option Value}
theorem def_mk {x : Str} {st : Stmt} {ps : List Str} {f : Addr} {oc : Value} {od an : Option Addr} {osl : Array (Option Value)} {kV doc pm cdv ct : Value} (X : K.In h) (G : h.Ns mainGlobals mg) (a : PySem.W.nsIn K mainGlobals x = some (some (.ref f)))
    (l : K.lookup f = some ⟨oc, od, .func (PySem.W.fnOf x x (defArgs st) (defBody st) (defScope st) .none kV doc pm an cdv ct), osl⟩) (c : PySem.W.codeIn K cdv x = true) (k : PySem.W.keepIn K (.ref f) = true)
    (hb : ∀ (kV doc pm : Value) (an : Option Addr) (cdv ct : Value) (us : List Value), us.length = ps.length → bindArgs (PySem.W.fnOf x x (defArgs st) (defBody st) (defScope st) .none kV doc pm an cdv ct) ⟨us, []⟩ = pure (ps.zip us)) : Def K mg x st ps :=
  ⟨f, _, fun_mk l c k, PySem.W.mg_of X G a, (fun_mk l c k).binds hb⟩
theorem law_mk {st : Stmt} {f fa : Addr} {oc : Value} {od an : Option Addr} {osl : Array (Option Value)} {kV doc pm cdv ct : Value} (X : K.In h) (G : h.Ns mainGlobals mg) (hfa : mg "law" = some (.ref fa)) (a : PySem.W.nsIn K mainGlobals "law" = some (some (.ref f)))
    (l : K.lookup f = some ⟨oc, od, .func (PySem.W.fnOf "law" "law" (defArgs st) (defBody st) (defScope st) .none kV doc pm an cdv ct), osl⟩) (c : PySem.W.codeIn K cdv "law" = true) (k : PySem.W.keepIn K (.ref f) = true)
    (hb : ∀ (kV doc pm : Value) (an : Option Addr) (cdv ct v : Value), bindArgs (PySem.W.fnOf "law" "law" (defArgs st) (defBody st) (defScope st) .none kV doc pm an cdv ct) ⟨[v], []⟩ = pure [(("script" : Str), v)]) :
    ∃ fd : FuncData, Fun K "law" "law" st fa fd ∧ ∀ (s : Shared) (v : Value), BindsTo s fd ⟨[v], []⟩ [("script", v)] := by
  have e := hfa.symm.trans (PySem.W.mg_of X G a)
  cases e
  exact ⟨_, fun_mk l c k, fun s v => .of_eq (hb _ _ _ _ _ _ v)⟩
theorem ext_mk {x : Str} {C : Addr} (X : K.In h) (G : h.Ns mainGlobals mg) (a : PySem.W.nsIn K mainGlobals x = some (some (.ref C))) (ex : PySem.W.excIn K C [.type "ValueError", .type "Exception", .type "BaseException", .type "object"] "ValueError.__new__" = true)
    (kp : PySem.W.keepIn K (.ref C) = true) (sb : PySem.W.subIn K (.ref C) (.type "BaseException") = some true) (ty : PySem.W.typeIn K (.ref C) = some (.type "type")) : ExT K mg x C := ⟨PySem.W.mg_of X G a, ex, kp, sb, ty⟩
theorem bt_mk (X : K.In h) (G : h.Ns mainGlobals mg) (e1 : PySem.W.nsIn K mainGlobals "len" = some none) (e2 : PySem.W.nsIn K mainGlobals "min" = some none) (e3 : PySem.W.nsIn K mainGlobals "max" = some none) (e4 : PySem.W.nsIn K mainGlobals "range" = some none)
    (e5 : PySem.W.nsIn K mainGlobals "isinstance" = some none) (e6 : PySem.W.nsIn K mainGlobals "int" = some none) (e7 : PySem.W.nsIn K mainGlobals "bool" = some none) (e8 : PySem.W.nsIn K mainGlobals "list" = some none) (e9 : PySem.W.nsIn K mainGlobals "tuple" = some none)
    (e10 : PySem.W.nsIn K mainGlobals "str" = some none) (e11 : PySem.W.nsIn K mainGlobals "all" = some none) (e12 : PySem.W.nsIn K mainGlobals "any" = some none) (e13 : PySem.W.nsIn K mainGlobals "sum" = some none) (e14 : PySem.W.nsIn K mainGlobals "sorted" = some none)
    (e15 : PySem.W.nsIn K mainGlobals "zip" = some none) (e16 : PySem.W.nsIn K mainGlobals "enumerate" = some none) (e17 : PySem.W.nsIn K mainGlobals "set" = some none) (e18 : PySem.W.nsIn K mainGlobals "ValueError" = some none) : Bt mg :=
  have z : ∀ {n : Str}, PySem.W.nsIn K mainGlobals n = some none → mg n = none := fun e => PySem.W.mg_none_of X G e
  ⟨z e1, z e2, z e3, z e4, z e5, z e6, z e7, z e8, z e9, z e10, z e11, z e12, z e13, z e14, z e15, z e16, z e17, z e18⟩
end
abbrev DefX {K : PySem.W.Frag} {h : Heap} (_ : K.In h) (mg : Str → Option Value) (x : Str) (st : Stmt) (ps : List Str) : Prop := Def K mg x st ps
abbrev ExTX {K : PySem.W.Frag} {h : Heap} (_ : K.In h) (mg : Str → Option Value) (x : Str) (C : Addr) : Prop := ExT K mg x C
abbrev FunX {K : PySem.W.Frag} {h : Heap} (_ : K.In h) (x : Str) (st : Stmt) (f : Addr) (fd : FuncData) : Prop := Fun K x x st f fd
theorem walk {l : PySem.W.OpenLaw} {q : Program} {loose : List Str} {XP : (Str → Option Value) → Heap → Prop} {YP : World → Heap → Prop} {d : DefRec} {K : Params → PySem.W.Frag} {k : Nat} (hk : Room k callerA) (hn : l.most = some 63) (hdf : d.params.defaults = [])
    (hY : ∀ (w : World) (h : Heap), YP w h → (K w.params).In h)
    (F : ∀ (w : World) (mg : Str → Option Value) (fa : Addr) (h : Heap), (K w.params).In h → h.Ns mainGlobals mg → mg d.name = some (.ref fa) →
      ∃ fd : FuncData, (∀ (s : Shared) (u : Value), BindsTo s fd ⟨[u], []⟩ [("script", u)]) ∧ ∀ base : Heap, (K w.params).In base → base.Ns mainGlobals mg → FnOk l.prog w (K w.params) mg base (L2.CX l.prog w) k fa fd ["script"] (spLaw (K w.params))) :
    PySem.W.WalkO q loose XP YP l.row.toRowW d [] (fun f vs => PySem.call f vs) :=
  L2.walk_of (n := 63) (k := k) (x := "script") (CX := fun w => L2.CX l.prog w) (sp := fun w => spLaw (K w.params)) hn (by decide) hdf hk hY F (fun _ _ a ns _ _ hS => ⟨a, ns, rfl, hS, fun _ => rfl⟩) fun w H s e s' h => by
    obtain ⟨_, _, _, _, _, _, _, _, _, _, _, _, z⟩ := h
    exact z
end DL

namespace DL
open PySem PySem.Spec L2

/-! ### sorted, min of a list of pairs -/
def keyP (H : Hp) : V → Int × Int
  | .ref t => match H t with
    | some (.tup [.int i, .int j]) => (i, j)
    | _ => (0, 0)
  | _ => (0, 0)
theorem dn_pairs {C H : Hp} (e : Ex C H) : ∀ (ps : List (Int × Int)) (vs : List V), DnAll C vs (ps.map dP) → vs.map (keyP H) = ps ∧ ∀ x ∈ vs, ∃ t, x = V.ref t ∧ H t = some (.tup [.int (keyP H x).1, .int (keyP H x).2])
  | [], _, h => by
    cases h
    exact ⟨rfl, fun x hx => by cases hx⟩
  | p :: ps, _, h => by
    cases h with
    | cons h1 h2 =>
      obtain ⟨e1, q⟩ := dn_pairs e ps _ h2
      cases h1 with
      | @tup a xs _ g1 g2 =>
        obtain ⟨v, w, rfl, hv, hw⟩ := dn_two g2
        cases hv
        cases hw
        have ek : keyP H (.ref a) = p := by
          show (match H a with | some (.tup [.int i, .int j]) => (i, j) | _ => ((0, 0) : Int × Int)) = p
          rw [e _ _ g1]
        refine ⟨by rw [List.map_cons, ek, e1], fun x hx => ?_⟩
        rcases List.mem_cons.mp hx with rfl | hx
        · exact ⟨a, rfl, by rw [ek]; exact e _ _ g1⟩
        · exact q x hx
theorem pairs_dn {C H : Hp} : ∀ (vs : List V), (∀ x ∈ vs, Dn C x (dP (keyP H x))) → DnAll C vs ((vs.map (keyP H)).map dP)
  | [], _ => .nil
  | v :: vs, h => .cons (h v List.mem_cons_self) (pairs_dn vs fun x hx => h x (List.mem_cons_of_mem _ hx))
theorem dn_each {C : Hp} (H : Hp) (e : Ex C H) : ∀ (ps : List (Int × Int)) (vs : List V), DnAll C vs (ps.map dP) → ∀ x ∈ vs, Dn C x (dP (keyP H x))
  | [], _, h, x, hx => by cases h; cases hx
  | p :: ps, _, h, x, hx => by
    cases h with
    | cons h1 h2 =>
      rcases List.mem_cons.mp hx with rfl | hx
      · cases h1 with
        | @tup a xs _ g1 g2 =>
          obtain ⟨v, w, rfl, hv, hw⟩ := dn_two g2
          cases hv
          cases hw
          have ek : keyP H (.ref a) = p := by
            show (match H a with | some (.tup [.int i, .int j]) => (i, j) | _ => ((0, 0) : Int × Int)) = p
            rw [e _ _ g1]
          rw [ek]
          exact .tup g1 g2
      · exact dn_each H e ps _ h2 x hx
def lexLe (a b : Int × Int) : Prop := a.1 < b.1 ∨ (a.1 = b.1 ∧ a.2 ≤ b.2)
theorem lexLe.anti {a b : Int × Int} (h : lexLe a b) (h2 : lexLe b a) : a = b := by
  unfold lexLe at h h2
  exact Prod.ext (by omega) (by omega)
theorem perm_uniq {α : Type} {r : α → α → Prop} (anti : ∀ a b, r a b → r b a → a = b) : ∀ {xs ys : List α}, xs.Perm ys → xs.Pairwise r → ys.Pairwise r → xs = ys
  | [], ys, p, _, _ => (List.Perm.nil_eq p)
  | x :: xs, [], p, _, _ => absurd p.length_eq (by simp)
  | x :: xs, y :: ys, p, hx, hy => by
    have e : x = y := by
      rcases List.mem_cons.mp (p.mem_iff.mp (List.mem_cons_self (a := x) (l := xs))) with e | h1
      · exact e
      · rcases List.mem_cons.mp (p.mem_iff.mpr (List.mem_cons_self (a := y) (l := ys))) with e | h2
        · exact e.symm
        · exact anti _ _ ((List.pairwise_cons.mp hx).1 y h2) ((List.pairwise_cons.mp hy).1 x h1)
    subst e
    rw [perm_uniq anti p.cons_inv (List.pairwise_cons.mp hx).2 (List.pairwise_cons.mp hy).2]
section
variable {F : FC} {R : Mem} {ks : List SK} {ta tb tc te : TE} {P : PyData → Prop} {x y d : PyData} {tA : TA} {K : PySem.W.Frag}
theorem on_sortedP {ps : List (Int × Int)} (p : ∀ qs : List (Int × Int), qs.Perm ps → qs.Pairwise lexLe → P (dLP qs)) : OpN F R ks (rSortedPO K) [dLP ps] P := fun ms σ H C vs _ r hv0 Q q => by
  obtain ⟨v, rfl, hv⟩ := dn_one hv0
  cases hv with
  | @lst a xs _ h1 h2 =>
    obtain ⟨e1, e2⟩ := dn_pairs r.ch ps xs h2
    refine ⟨_, xs, keyP H, rfl, SqL.of (r.ch _ _ h1), e2, fun ys l hs hb hl => ?_⟩
    obtain ⟨r2, x2⟩ := r.new hl (.lst ys)
    refine q _ _ _ _ (p (ys.map (keyP H)) (by rw [← e1]; exact hb.perm.map _) ?_) r2 x2 (.lst upd_same (DnAll.up (pairs_dn ys fun x hx => dn_each H r.ch ps xs h2 x (hb.perm.mem_iff.mp hx)) x2))
    refine List.pairwise_map.mpr (hs.imp fun {x y} h => ?_)
    have := SrtO.lexB_no.mp h
    unfold lexLe
    omega
/-- .. of one that is sorted -/
theorem on_sortedP1 {ps : List (Int × Int)} (hs : ps.Pairwise lexLe) (p : P (dLP ps)) : OpN F R ks (rSortedPO K) [dLP ps] P := on_sortedP fun qs h1 h2 => by
  rw [perm_uniq (fun a b => lexLe.anti) h1 h2 hs]
  exact p
/-- min of a list of data that are alike -/
def rMinD (K : PySem.W.Frag) : List V → Hp → VK → Prop := fun vs H Q => ∃ (a : Addr) (xs : List V) (x : PyData) (ds : List PyData), vs = [V.ref a] ∧ SqL K H a xs ∧ DpAll K H xs (x :: ds) ∧ PySem.W.AlikeAll (x :: ds) ∧ PyData.canLayAll0 (x :: ds) = true ∧ PyData.depthAll (x :: ds) ≤ 60 ∧
  ∀ (i : Nat) (v : V), xs[i]? = some v → (x :: ds)[i]? = some (PySem.W.minD x ds) → Q v H
end
section
variable {X : Cx}
theorem vals_at : ∀ {xs : List V} {us : List Value}, Vals xs us → ∀ {i : Nat} {u : Value}, us[i]? = some u → ∃ x, xs[i]? = some x ∧ RelV x u
  | _, _, .nil, i, u, h => by simp at h
  | _, _, .cons h1 h2, 0, u, h => by
    simp at h
    subst h
    exact ⟨_, rfl, h1⟩
  | _, _, .cons h1 h2, i + 1, u, h => by
    obtain ⟨x, e, r⟩ := vals_at h2 (i := i) (u := u) (by simpa using h)
    exact ⟨x, by simpa using e, r⟩
theorem readsAll_get {h : Heap} : ∀ {us : List Value} {ds : List PyData} {as : List Addr}, ReadsAll h us ds as → ∀ {i : Nat} {u : Value}, us[i]? = some u → ∃ d bs, ds[i]? = some d ∧ Reads h u d bs
  | _, _, _, .nil, i, u, h => by simp at h
  | _, _, _, .cons h1 h2, 0, u, h => by
    simp at h
    subst h
    exact ⟨_, _, rfl, h1⟩
  | _, _, _, .cons h1 h2, i + 1, u, h => by
    obtain ⟨x, bs, e, r⟩ := readsAll_get h2 (i := i) (u := u) (by simpa using h)
    exact ⟨x, bs, by simpa using e, r⟩
theorem canLay_at : ∀ {ds : List PyData} {i : Nat} {d : PyData}, PyData.canLayAll0 ds = true → ds[i]? = some d → d.canLay0 = true
  | [], i, d, h, e => by simp at e
  | x :: ds, 0, d, h, e => by
    simp at e
    subst e
    unfold PyData.canLayAll0 at h
    simp at h
    exact h.1
  | x :: ds, i + 1, d, h, e => by
    unfold PyData.canLayAll0 at h
    simp at h
    exact canLay_at (i := i) h.2 (by simpa using e)
theorem cr_minD (hc : X.calm = true) (hu : X.A.units + 64 < cLine) : CallR X (.builtin "min") (rMinD X.K) := by
  intro pins s σ H vs us Q I r h
  obtain ⟨a, xs, x, ds, rfl, hs, hd, al, cl, dp, q⟩ := h
  obtain ⟨its, rv, hl, _⟩ := I.list hs
  rw [Vals.ref1 r]
  obtain ⟨as, hr⟩ := Dp.readsAll I _ _ _ hd rv
  refine PySem.W.min_list_data (I.ok.hd hc) hl.isList (by simpa using hr) al (by omega) fun i v h' tk bs hv rd kp => ?_
  have hv : its[i]? = some v := by simpa using hv
  obtain ⟨w, hw, rw⟩ := vals_at rv hv
  obtain ⟨d, cs, hdi, rd2⟩ := readsAll_get hr hv
  have ed : d = PySem.W.minD x ds := (Reads.unique (PySem.W.reads_keeps kp rd2) _ _ rd).1
  subst ed
  exact ⟨w, H, I.kept kp, rw, q i w hw hdi⟩
theorem k_minD {K : PySem.W.Frag} (hu : X.A.units + 64 < cLine) (hc : X.calm = true := by rfl) (h : X.K = K := by rfl) : CallR X (.builtin "min") (rMinD K) := h ▸ cr_minD hc hu
theorem k_sortedP {K : PySem.W.Frag} (h : X.K = K := by rfl) : CallR X (.builtin "sorted") (rSortedPO K) := h ▸ cr_sortedPO
end
section
variable {F : FC} {R : Mem} {ks : List SK} {ta tb tc te : TE} {P : PyData → Prop} {x y d : PyData} {tA : TA} {K : PySem.W.Frag}
theorem dnall_get {C : Hp} : ∀ {vs : List V} {ds : List PyData}, DnAll C vs ds → ∀ {i : Nat} {v : V} {d : PyData}, vs[i]? = some v → ds[i]? = some d → Dn C v d
  | _, _, .nil, i, v, d, h, _ => by simp at h
  | _, _, .cons h1 h2, 0, v, d, h, e => by
    simp at h e
    subst h e
    exact h1
  | _, _, .cons h1 h2, i + 1, v, d, h, e => dnall_get h2 (i := i) (by simpa using h) (by simpa using e)
/-- the least of a sorted list of pairs: the first -/
theorem minD_first (p : Int × Int) : ∀ (ps : List (Int × Int)), (∀ y ∈ ps, lexLe p y) → PySem.W.minD (dP p) (ps.map dP) = dP p
  | [], _ => rfl
  | y :: ps, h => by
    unfold PySem.W.minD
    rw [List.map_cons, List.foldl_cons]
    have e : PySem.W.dataLt (dP y) (dP p) = false := by
      rw [PySem.W.dataLt_ii]
      have := h y List.mem_cons_self
      unfold lexLe at this
      simp
      omega
    rw [e]
    exact minD_first p ps fun z hz => h z (List.mem_cons_of_mem _ hz)
theorem alike_dP (ps : List (Int × Int)) : PySem.W.AlikeAll (ps.map dP) := ⟨fun x hx y hy => by
  obtain ⟨a, _, rfl⟩ := List.mem_map.mp hx
  obtain ⟨b, _, rfl⟩ := List.mem_map.mp hy
  rfl, fun x hx => by
  obtain ⟨a, _, rfl⟩ := List.mem_map.mp hx
  exact fun z => nomatch z⟩
theorem on_minP {p : Int × Int} {ps : List (Int × Int)} (hs : ∀ y ∈ ps, lexLe p y) (q : P (dP p)) : OpN F R ks (rMinD K) [dLP (p :: ps)] P := fun ms σ H C vs _ r hv0 Q qq => by
  obtain ⟨v, rfl, hv⟩ := dn_one hv0
  have hsh := sh_dLP (p :: ps)
  cases hv with
  | @lst a xs _ h1 h2 =>
    refine ⟨_, xs, dP p, ps.map dP, rfl, SqL.of (r.ch _ _ h1), (h2.up r.ch).dp _ _, alike_dP (p :: ps), ?_, ?_, fun i v hv hd => ?_⟩
    · exact hsh.c
    · have := hsh.e
      unfold PyData.depth at this
      simp only [List.map_cons] at this
      omega
    · rw [minD_first p ps hs] at hd
      exact qq _ H C _ q r (Ex.refl C) (dnall_get h2 hv hd)
/-! ### list(range(..)) -/
theorem dn_rgV (C : Hp) (a b : Int) : DnAll C (rgV a b) (rangeD a (b - a).toNat) := by
  unfold rgV rangeD
  rw [show ((List.range (b - a).toNat).map fun i => V.int (a + (i : Nat))) = ((List.range (b - a).toNat).map fun i : Nat => a + (i : Int)).map V.int by rw [List.map_map]; rfl, show ((List.range (b - a).toNat).map fun i => PyData.int (a + (i : Nat))) = ((List.range (b - a).toNat).map fun i : Nat => a + (i : Int)).map PyData.int by rw [List.map_map]; rfl]
  exact dn_ints _ _
theorem ev_lrg1 (h : Ev F R ta ks fun x => ∃ n : Int, x = .int n ∧ 0 ≤ n ∧ n ≤ 90000 ∧ P (.list (rangeD 0 n.toNat))) : Ev F R (tLstRg (tRg1 ta)) ks P := fun ms σ H C hR r Q q =>
  h ms σ H C hR r _ fun v1 H1 C1 x p1 r1 e1 d1 => by
    obtain ⟨n, rfl, n0, n1, p⟩ := p1
    cases d1
    refine ⟨n, rfl, RgOk.of_le (by omega) (by omega) (by omega) n0, fun l hl => ?_⟩
    obtain ⟨r2, x2⟩ := r1.new hl (.lst (rgV 0 n))
    have e := dn_rgV (upd C1 l (.lst (rgV 0 n))) 0 n
    rw [show (n - 0).toNat = n.toNat by omega] at e
    exact q _ _ _ _ p r2 (e1.trans x2) (.lst upd_same e)
theorem ev_lrg2 (h : Ev F R ta ks fun x => Ev F R tb ks fun y => ∃ a b : Int, x = .int a ∧ y = .int b ∧ 0 ≤ a ∧ a ≤ 90000 ∧ 0 ≤ b ∧ b ≤ 90000 ∧ P (.list (rangeD a (b - a).toNat))) : Ev F R (tLstRg (tRg2 ta tb)) ks P := fun ms σ H C hR r Q q =>
  h ms σ H C hR r _ fun v1 H1 C1 x p1 r1 e1 d1 => p1 ms σ H1 C1 hR r1 _ fun v2 H2 C2 y p2 r2 e2 d2 => by
    obtain ⟨a, b, rfl, rfl, a0, a1, b0, b1, p⟩ := p2
    cases d1
    cases d2
    refine ⟨a, b, rfl, rfl, RgOk.of_le a0 (by omega) (by omega) b0, fun l hl => ?_⟩
    obtain ⟨r3, x3⟩ := r2.new hl (.lst (rgV a b))
    exact q _ _ _ _ p r3 ((e1.trans e2).trans x3) (.lst upd_same (dn_rgV _ a b))
/-- both ways of an a if t else b come to one datum -/
theorem ev_both {b : Bool} {G : PyData → Prop} (d : PyData) (h1 : b = true → Ev F R ta ks fun y => y = d) (h2 : b = false → Ev F R tb ks fun y => y = d) (h : G d) : (b = true → Ev F R ta ks G) ∧ (b = false → Ev F R tb ks G) :=
  ⟨fun z => (h1 z).imp fun y e => by rw [e]; exact h, fun z => (h2 z).imp fun y e => by rw [e]; exact h⟩
end
end DL

namespace DL
open PySem PySem.Spec PyProof.Rows L2

/-! ### an exception that was caught, held behind its try -/
def ExV (cls : Value) (d : Option Addr) (a : Addr) : HO := .ext fun h => ∃ (oe : Obj) (vs : Array Value), h.get? a = some oe ∧ Zc cls d oe ∧ oe.data = .fields vs
theorem exV_ok {P : Program} {w : World} {H : Hp} {h : Heap} {a : Addr} {cls : Value} {d : Option Addr} {oe : Obj} {vs : Array Value} (e : h.get? a = some oe) (z : Zc cls d oe) (f : oe.data = .fields vs) : ObjOk P w H h a (ExV cls d a) :=
  ⟨⟨oe, vs, e, z, f⟩, ⟨oe, e⟩, fun _ _ ⟨o, v, q, r⟩ k => ⟨o, v, k o q, r⟩⟩
/-- an object made since the entry, not tracked so far, is tracked -/
theorem track {X : Cx} {pins : List (Addr × Obj)} {σ : L2.St} {H : Hp} {s : Shared} {a : Addr} {o : HO} (I : L2.Inv X pins σ H s) (h0 : X.s_0.heap.get? a = none) (ha : H a = none) (nL : a ≠ X.env.locals) (nC : ∀ x c, X.env.cells.lookup x = some c → c ≠ a) (nP : ∀ p ∈ X.pn ++ pins, p.1 ≠ a)
    (new : ObjOk X.prog X.w (upd H a o) s.heap a o) : L2.Inv X pins σ (upd H a o) s where
  ok := I.ok
  os := I.os
  bare := I.bare
  base := {
    keep := I.base.keep
    slot := I.base.slot
    free := fun b u e n hx => by
      rw [upd_ne (fun z => by rw [z, h0] at e; cases e)]
      exact I.base.free b u e n hx
    there := I.base.there
    tups := fun b xs e => by
      have q := I.base.tups b xs e
      rw [upd_ne (ne_of_none q ha)]
      exact q
    frzs := fun b u xs e => by
      have q := I.base.frzs b u xs e
      rw [upd_ne (ne_of_none q ha)]
      exact q
    tbls := fun b ps e => by
      obtain ⟨m, q⟩ := I.base.tbls b ps e
      exact ⟨m, by rw [upd_ne (ne_of_none q ha)]; exact q⟩ }
  loc := I.loc
  cell := I.cell
  free := by rw [upd_ne (Ne.symm nL)]; exact I.free
  freeC := fun x c e => by rw [upd_ne (nC x c e)]; exact I.freeC x c e
  pin := fun p hp => by
    obtain ⟨h1, h2, h3⟩ := I.pin p hp
    exact ⟨h1, by rw [upd_ne (nP p hp)]; exact h2, h3⟩
  hok := HOk.laidN I.hok (fun _ _ q => q) ha new
  len := I.len
/-- what 'except x as n: suite' wishes, the exception known behind it (slot i is n's; the suite runs through) -/
def wKeep (K : PySem.W.Frag) (c : Value) (i : Nat) (ts : Addr → TS) (Wout : WX) (D : Ends) : WX := fun cls d σ H =>
  ∃ b, PySem.W.exmOne K cls c = some b ∧ (b = true → ∀ a, H a = none → ts a { nx := fun σ' H' => D.nx (σ'.set i none) (upd H' a (ExV cls d a)), rt := fun _ _ => False, bk := fun _ _ => False, ct := fun _ _ => False } (σ.set i (some (.ref a))) H) ∧
    (b = false → Wout cls d σ H)
section
variable {X : Cx} {x n : Str} {c : Value} {i : Nat} {body suite : List Stmt} {b₀ : Stmt} {np pos pos' : Pos} {tb : WX → TS} {ts : Addr → TS} {Wout : WX}
theorem ps_try_keep (hs : X.stack = X.env :: X.outer) (hf : X.env.frame = some X.env.locals) (hex : X.ex = []) (hN : X.N.Nodup) (hi : X.N[i]? = some n) (hln : X.env.kindOf n = some .local) (hc : Names X x c) (tk : Takes X Wout)
    (hb : ∀ (W : WX) (pn : List (Addr × Obj)) (xe : Value → Shared → Prop), Takes (X.tr pn xe) W → PassesOwn (model X.prog X.w) X.A X.env xe → PSs (X.tr pn xe) body (tb W))
    (hsu : ∀ (a : Addr) (oe : Obj) (pn : List (Addr × Obj)), PSs (X.suite a ((a, oe) :: pn)) (b₀ :: suite) (ts a)) :
    PS X (.Try body [.ExceptHandler (some (.Name x np)) (some n) (b₀ :: suite) pos'] [] [] pos) (fun D σ H => tb (wKeep X.K c i ts Wout D) D σ H) := by
  refine ⟨fun pins s σ H D I h => ?_⟩
  have ok := I.ok
  have hfr : X.A.frames = some (X.env :: X.outer) := by rw [ok.frames, hs]
  refine wpAny_Try_except ?_
  refine wpAny_mono ((hb (wKeep X.K c i ts Wout D) (X.pn ++ pins) (fun e s₁ => wpAny (model X.prog X.w) X.A (noteFrame e X.env) (fun _ s₂ => wpAny (model X.prog X.w) X.A (setFlight e none) (fun _ s₃ =>
    wpAny (model X.prog X.w) X.A (handleBy e X.env [.ExceptHandler (some (.Name x np)) (some n) (b₀ :: suite) pos']) (SP X pins D) X.xe s₃) X.xe s₂) X.xe s₁) (fun u s' xx => ?_) PassesOwn.looking).run [] s σ H D (I.toTry _) h) (fun f s1 hsp => ?_) (fun e s1 he => he)
  · obtain ⟨a, B, sI, pins', σ', H', cls, d, rfl, J', nb, up, sky, na, os, ag, b, hb1, hyes, hno⟩ := xx
    have J : L2.Inv X pins σ' H' sI := J'.ofTry ok
    have sky' : Sky B (X.env :: X.outer) a (Zc cls d) X.env.locals s'.heap := by rw [← hs]; exact sky
    refine Sky.land Zc.steady hfr hf sky' fun h3 fl3 up3 => ?_
    have J3 : L2.Inv X pins σ' H' { s' with heap := h3 } := J.landed nb fl3.1 (up.trans up3) os ag
    obtain ⟨oe3, vs3, he3, hz3, hd3⟩ := fl3.there
    have nfr : a ∉ frs (X.env :: X.outer) := fun hm => by
      obtain ⟨_, o', e', hnf⟩ := fl3.2.2.1.mem hm
      rw [he3] at e'
      cases e'
      exact hnf _ hd3
    have nL : a ≠ X.env.locals := fun z => nfr (List.mem_filterMap.mpr ⟨X.env, List.mem_cons_self, by rw [hf, z]⟩)
    have nF : a ∉ X.fs := fun hm => by
      obtain ⟨e, he, q⟩ := List.mem_filterMap.mp hm
      exact nfr (List.mem_filterMap.mpr ⟨e, List.mem_cons_of_mem _ he, q⟩)
    have nI : sI.heap.get? a = none := by
      cases q : sI.heap.get? a with
      | none => rfl
      | some o =>
        have z := nb a o q (by rw [hs]; exact nfr)
        rw [fl3.2.1] at z
        cases z
    have n0 : X.s_0.heap.get? a = none := by
      cases q : X.s_0.heap.get? a with
      | none => rfl
      | some o =>
        obtain ⟨o', z⟩ := J.base.there a o q (by rw [hex]; exact fun z => nomatch z)
        rw [nI] at z
        cases z
    have nP : ∀ p ∈ X.pn ++ pins, p.1 ≠ a := fun p hp z => by
      have q := (J.pin p hp).1
      rw [z, nI] at q
      cases q
    have S3 := J3.suite he3 hd3 na nL nF
    refine wpAny_handleBy_cons (codeAny_handlers_test ?_) (by intro q; cases q)
    have LT : PySem.W.Looks (model X.prog X.w) h3 (typeOf (.ref a)) cls := fun A Q E s k q => wpAny_typeOf_ref (k _ _ he3) (by rw [hz3.1]; exact q)
    have LM := PySem.W.exm_one (M := model X.prog X.w) (J3.kIn) LT hb1
    have test : ∀ {Q : Value → Shared → Prop} {E : Value → Shared → Prop}, Q c { s' with heap := h3 } → wpAny (model X.prog X.w) (X.A.mark (some (.ref a))) (eval (.Name x np) X.env) Q E { s' with heap := h3 } := fun {Q E} q => by
      obtain ⟨hg, hdbg, hm | ⟨hm, hv, hnn⟩⟩ := hc
      · exact ld_glob (X := X.suite a ((a, oe3) :: (X.pn ++ pins))) S3 hg hm q hdbg
      · exact ld_blt (X := X.suite a ((a, oe3) :: (X.pn ++ pins))) S3 hg hm hv q hnn hdbg
    refine test (LM.here ?_)
    cases b with
    | true =>
      refine codeAny_handlers_suite_as ?_
      refine HandSPX.lands_againZ fl3 fun h4 fl4 up4 => ?_
      have J4 : L2.Inv X pins σ' H' { s' with heap := h4 } := J.landed nb fl4.1 ((up.trans up3).trans up4) os ag
      obtain ⟨oe4, vs4, he4, hz4, hd4⟩ := fl4.there
      have S4 := J4.suite he4 hd4 na nL nF
      refine store_ok (X := X.suite a ((a, oe4) :: (X.pn ++ pins))) (v := .ref a) S4 hN hi (.inl hln) rfl (fun s5 S5 => ?_) (.inr hln)
      refine wpAny_mono ((hsu a oe4 (X.pn ++ pins)).run [] s5 _ H' _ S5 (hyes rfl a na)) (fun f s6 hsp => ?_) (fun _ _ z => False.elim z)
      cases f with
      | next =>
        obtain ⟨σ6, H6, S6, q6⟩ := hsp
        refine gone_ok (X := X.suite a ((a, oe4) :: (X.pn ++ pins))) S6 hN hi hln fun s7 S7 => ?_
        obtain ⟨e7, n7, _⟩ := S7.pin (a, oe4) (List.mem_append_left _ List.mem_cons_self)
        refine ⟨_, _, track (S7.unsuite ok) n0 n7 nL (fun y c' e z => ?_) nP (exV_ok e7 hz4 hd4), q6⟩
        obtain ⟨v, o, ho, hd⟩ := S7.cell y c' e
        rw [z] at ho
        have z2 := ho.symm.trans e7
        cases z2
        rw [hd4] at hd
        cases hd
      | brk => obtain ⟨_, _, _, z⟩ := hsp; exact z.elim
      | cont => obtain ⟨_, _, _, z⟩ := hsp; exact z.elim
      | ret u => obtain ⟨_, _, _, _, _, z⟩ := hsp; exact z.elim
    | false =>
      show wpAny _ X.A (handleBy (.ref a) X.env []) _ _ _
      refine wpAny_handleBy_nil ?_
      obtain ⟨k1, k2, k3, oe, vs, T, oT, ts', he, hz, hd, h1, hr⟩ := id fl3
      unfold PySem.passOn
      refine wpAny_bind (wpAny_field he hd h1 ?_)
      rw [if_neg (show ¬ ((Value.ref T == Value.none) = true) from by simp)]
      have fin : wpAny (model X.prog X.w) X.A (setFlight (.ref a) X.env.frame) (fun _ s4 => wpAny (model X.prog X.w) X.A (throw (.ref a) : Sem Flow) (SP X pins D) X.xe s4) X.xe { s' with heap := h3 } := by
        rw [hf]
        refine HandSPX.setFlight_upZ fl3 fun h4 hh4 up4 => wpAny_throw (tk _ _ ?_)
        exact ⟨a, B, sI, pins, σ', H', cls, d, rfl, J, nb, (up.trans up3).trans up4, .inr (.inr (by rw [hs]; exact hh4)), na, os, ag, hno rfl⟩
      first
        | exact wpAny_bind (wpAny_pure (wpAny_bind fin))
        | exact wpAny_bind fin
  · cases f with
    | next =>
      obtain ⟨σ', H', J', q⟩ := hsp
      exact wpAny_execs_nil ⟨σ', H', J'.ofTry ok, q⟩
    | brk =>
      obtain ⟨σ', H', J', q⟩ := hsp
      exact ⟨σ', H', J'.ofTry ok, q⟩
    | cont =>
      obtain ⟨σ', H', J', q⟩ := hsp
      exact ⟨σ', H', J'.ofTry ok, q⟩
    | ret u =>
      obtain ⟨v, σ', H', J', r, q⟩ := hsp
      exact ⟨v, σ', H', J'.ofTry ok, r, q⟩
end
end DL
namespace DL
open PySem PySem.Spec L2
section
variable {F : FC} {ks : List SK} {ms : Mem} {σ : L2.St} {H C : Hp}
theorem Real.back {C1 : Hp} (r : Real F ks ms σ H C) {ks' : List SK} {ms' : Mem} {σ' : L2.St} {H' C' : Hp} (q : Real { F with C0 := C } ks' ms' σ' H' C') : Real F ks' ms' σ' H' C' where
  len := q.len
  slot := q.slot
  sub := fun a o e => by
    obtain ⟨h1, h2⟩ := q.sub a o e
    refine ⟨h1, ?_⟩
    rcases h2 with h2 | h2
    · exact (r.sub a o h2).2
    · exact .inr h2
  c0 := r.c0.trans q.c0
  keep := q.keep
  fxm := q.fxm
  mo := q.mo
  nd := q.nd
theorem Real.less (r : Real F ks ms σ H C) {ms' : Mem} (s : ms' ⊆ ms) (d : ∀ p, p ∈ F.dw → ∃ m, (p.1, m) ∈ ms' ∧ Weak m p.2) (n : (ms'.map (·.1)).Nodup) : Real F ks ms' σ H C where
  len := r.len
  slot := r.slot
  sub := r.sub
  c0 := r.c0
  keep := r.keep
  fxm := d
  mo := fun l m h => r.mo l m (s h)
  nd := n
theorem set_slots {i m : Nat} (hne : i ≠ m) (a : V) (σ : L2.St) : ((σ.set i (some a)).set m (some a)).set i none = (σ.set i none).set m (some a) := by
  rw [List.set_comm _ _ (Ne.symm hne), List.set_set]
theorem Real.clear (r : Real F ks ms σ H C) (i : Nat) : Real F (ks.set i .un) ms (σ.set i none) H C := by
  refine ⟨by rw [List.length_set, List.length_set]; exact r.len, fun j k h => ?_, r.sub, r.c0, r.keep, r.fxm, r.mo, r.nd⟩
  by_cases hj : i = j
  · subst hj
    have hlt : i < ks.length := by
      have := (List.getElem?_eq_some_iff.mp h).1
      rwa [List.length_set] at this
    rw [List.getElem?_set_self hlt] at h
    cases h
    trivial
  · rw [List.getElem?_set_ne hj] at h ⊢
    exact r.slot j k h
/-- f(..) in a try's body -/
theorem ev_callS {R : Mem} {tA : TA} {P : PyData → Prop} {g : Exn → Addr} {Rl : List PyData → Out → Prop} {W : WX} {XD : Exn → List SK → Prop} (hW : ∀ e ks' ms' σ' H' C', XD e ks' → R ⊆ ms' → Real F ks' ms' σ' H' C' → W (.ref (g e)) none σ' H')
    (h : EvA F R tA ks fun xs => ∃ out, Rl xs out ∧ match out with | .ret d => P d | .exc e => XD e ks) : Ev F R (tCallS (SpD g Rl) (WE W) tA) ks P := fun ms σ H C hR r Q q => h ms σ H C hR r _ fun vs H1 C1 xs p r1 e1 d1 => by
  obtain ⟨out, hr, p⟩ := p
  cases out with
  | ret d => exact ⟨C1, xs, .ret d, r1.ch, d1, hr, fun v H' C' eH eC hc dv => q v H' C' d p (r1.grow eH eC hc) (e1.trans eC) dv⟩
  | exc e => exact ⟨C1, xs, .exc e, r1.ch, d1, hr, fun H' eH => hW e ks ms σ H' C1 p hR (r1.grow eH (Ex.refl C1) fun a o z => ⟨eH _ _ (r1.ch _ _ z), .inl z⟩)⟩
def tTry (K : PySem.W.Frag) (c : Value) (i m : Nat) (Wout : WX) (tb : WX → TS) : TS := fun D σ H => tb (wKeep K c i (fun _ => tAsg (tVar i) (gName m)) Wout D) D σ H
/-- try: body, except c as n: m = n -/
theorem ws_try {K : PySem.W.Frag} {c : Value} {i m : Nat} {Wout : WX} {tb : WX → TS} {D : DE} {g : Exn → Addr} (XD : Exn → List SK → Prop) (hne : i ≠ m)
    (h : ∀ (F' : FC) (W : WX), F'.rt = F.rt → F'.dw = F.dw → F'.H0 = F.H0 → (∀ e ks' ms' σ' H' C', XD e ks' → ms ⊆ ms' → Real F' ks' ms' σ' H' C' → W (.ref (g e)) none σ' H') → WS F' (tb W) ks ms D)
    (hx : ∀ e ks', XD e ks' → PySem.W.exmOne K (.ref (g e)) c = some true ∧ i < ks'.length ∧ ∀ a, ¬ F.fx a → D.nx ((ks'.set i .un).set m (.v (.ref a))) ((a, .o (ExV (.ref (g e)) none a)) :: ms)) : WS F (tTry K c i m Wout tb) ks ms D := fun σ H C r Ec q1 q2 q3 q4 => by
  have r' : Real { F with C0 := C } ks ms σ H C := ⟨r.len, r.slot, fun a o e => ⟨(r.sub a o e).1, .inl e⟩, Ex.refl C, r.keep, r.fxm, r.mo, r.nd⟩
  refine h { F with C0 := C } (wKeep K c i (fun _ => tAsg (tVar i) (gName m)) Wout Ec) rfl rfl rfl (fun e ks' ms' σ' H' C' xd hs rr => ?_) σ H C r' Ec (fun ks' ms' σ' H' C' p rr => q1 ks' ms' σ' H' C' p (Real.back (C1 := C) r rr)) (fun ks' ms' σ' H' C' p rr => q2 ks' ms' σ' H' C' p (Real.back (C1 := C) r rr)) (fun ks' ms' σ' H' C' p rr => q3 ks' ms' σ' H' C' p (Real.back (C1 := C) r rr)) (fun v ks' ms' σ' H' C' d p rr => q4 v ks' ms' σ' H' C' d p (Real.back (C1 := C) r rr))
  obtain ⟨h1, hl, h2⟩ := hx e ks' xd
  refine ⟨true, h1, fun _ a na => ?_, fun z => nomatch z⟩
  refine ⟨.ref a, List.getElem?_set_self (by rw [rr.len]; exact hl), ?_⟩
  show Ec.nx (((σ'.set i (some (.ref a))).set m (some (.ref a))).set i none) (upd H' a (ExV (.ref (g e)) none a))
  rw [set_slots hne]
  have r2 : Real F ks' ms σ' H' C' := (Real.back (C1 := C) r rr).less hs r.fxm r.nd
  have nf : ¬ F.fx a := fun z => by
    obtain ⟨m', hm⟩ := z
    obtain ⟨o, ho⟩ := (r2.fxo hm).there
    rw [na] at ho
    cases ho
  exact q1 _ _ _ _ _ (h2 a nf) ((Real.clear (r2.newM na (m := .o (ExV (.ref (g e)) none a)) upd_same) i).put (k := .v (.ref a)) rfl) rr.c0
end
end DL
namespace DL
open PySem PySem.Spec L2
/-! ### isinstance of a held exception -/
def rIsV (K : PySem.W.Frag) : List V → Hp → VK → Prop := fun xs H Q => ∃ (a D : Addr) (c : V) (cv : Value) (b : Bool), xs = [.ref a, c] ∧ H a = some (ExV (.ref D) none a) ∧ ExcC K D ∧ (∀ u, RelV c u → u = cv) ∧ PySem.W.kitOne K (.ref D) cv = some b ∧ Q (.bl b) H
theorem call_isV {X : Cx} : CallR X (.builtin "isinstance") (rIsV X.K) := by
  intro pins s σ H xs us Q I r h
  obtain ⟨a, D, c, cv, b, rfl, ha, C, hcv, e, q⟩ := h
  obtain ⟨u1, u2, rfl, r1, r2⟩ := vals2 r
  cases (show u1 = Value.ref a from r1)
  have ec := hcv _ r2
  subst ec
  obtain ⟨⟨oe, vs, hget, hz, hv⟩, _⟩ := (show ObjOk X.prog X.w H s.heap a (ExV (.ref D) none a) from I.hok a _ ha)
  have J : PySem.W.InstAt s.heap a oe D none := by
    obtain ⟨oc, od, oda, osl⟩ := oe
    obtain ⟨h1, h2⟩ := hz
    dsimp only at h1 h2 hv
    subst h1 h2 hv
    exact ⟨hget, rfl, rfl, trivial⟩
  exact PySem.W.kia_one (PySem.W.handS_kitx_exc C.hg C.hk C.hs C.hd C.ha C.hn C.ht C.hm) I.kIn J e (fun z => nomatch z) fun tk => ⟨.bl b, H, I.kept (t' := tk) fun _ _ z => z, rfl, q⟩
theorem k_isV {X : Cx} {K : PySem.W.Frag} (h : X.K = K := by rfl) : CallR X (.builtin "isinstance") (rIsV K) := h ▸ call_isV
/-- what the classes of errors say; W their base -/
structure ErrT (K : PySem.W.Frag) (mg : Str → Option Value) (g : Exn → Addr) (W : Addr) : Prop where
  gw : mg "WindowError" = some (.ref W)
  xc : ∀ e, ExcC K (g e)
  kd : ∀ e e', PySem.W.kitOne K (.ref (g e)) (.ref (g e')) = some (decide (e = e'))
  kw : ∀ e, PySem.W.kitOne K (.ref (g e)) (.ref W) = some true
  kv : ∀ e, PySem.W.kitOne K (.ref (g e)) (.type "ValueError") = some true
  em : ∀ e, PySem.W.exmOne K (.ref (g e)) (.ref W) = some true
def nameOf : Exn → Str
  | .row => "row"
  | .width => "width"
  | .number => "number"
  | .text => "text"
  | .gone => "none"
def SpErr (g : Exn → Addr) : Sp := fun vs H Q E => ∃ (a : Addr) (e : Exn), vs = [.ref a] ∧ H a = some (ExV (.ref (g e)) none a) ∧ ∀ H', Ex H H' → Q (.str (nameOf e)) H'
def errF (g : Exn → Addr) (H0 : Hp) (E : XK) (a : Addr) (e : Exn) : FC :=
  { g := g, C0 := fun _ => none, H0 := H0, dw := [(a, .o (ExV (.ref (g e)) none a))], rt := fun d _ => d = .str (nameOf e), ex := fun _ => False, E := E, hE := fun _ _ h => h.elim }
section
variable {P : Program} {w : World} {K : PySem.W.Frag} {mg : Str → Option Value} {base : Heap}
theorem fn_err {x qual y : Str} {st : Stmt} {f : Addr} {fd : FuncData} {N : List Str} {k : Nat} {g : Exn → Addr} (Fn : Fun K x qual st f fd) (S : FnScope N [y] (defScope st))
    (body : ∀ (cdv : Value) (A : Around) (outer : List Env) (s : Shared) (H : Hp) (E : XK), Room k (A.deeper (PyProof.Rows.envOfC qual (defScope st) s.heap.objs.size f cdv)) →
      ∃ t, PSs (cxOf (L2.CX P w) P w K mg base N qual (defScope st) f cdv A outer s H E) (defBody st) t ∧
        ∀ (H0 : Hp) (a : Addr) (e : Exn), WS (errF g H0 E a e) t (.v (.ref a) :: List.replicate (N.length - 1) .un) [(a, .o (ExV (.ref (g e)) none a))] { nx := fun _ _ => False }) : FnOk P w K mg base (L2.CX P w) (k + 1) f fd [y] (SpErr g) := by
  refine Fn.okX S (fun vs H Q E h => ?_) (fun cdv A outer s H vs Q E hr h => ?_)
  · obtain ⟨a, e, rfl, _⟩ := h
    rfl
  · obtain ⟨t, ht, hw⟩ := body cdv A outer s H E hr
    refine ⟨t, ht, ?_⟩
    obtain ⟨a, e, rfl, hS, hq⟩ := h
    have rs : Real (errF g H E a e) (.v (.ref a) :: List.replicate (N.length - 1) .un) [(a, .o (ExV (.ref (g e)) none a))] (L2.start N [.ref a]) H (fun _ => none) := by
      refine ⟨?_, ?_, fun a o h => (by cases h), fun a o h => (by cases h), fun a o h _ => h, fun p h => ⟨p.2, h, Weak.refl _⟩, fun l m h => ?_, by simp⟩
      · unfold L2.start
        simp
      · intro i k hk
        cases i with
        | zero => cases hk; rfl
        | succ i =>
          rw [List.getElem?_cons_succ, List.getElem?_replicate] at hk
          split at hk
          · cases hk; trivial
          · cases hk
      · simp at h
        obtain ⟨rfl, rfl⟩ := h
        exact ⟨rfl, hS, .inr ⟨_, List.mem_cons_self⟩⟩
    refine hw H a e _ H _ rs _ (fun _ _ _ _ _ h => h.elim) (fun _ _ _ _ _ h => h.elim) (fun _ _ _ _ _ h => h.elim) fun v ks' ms' σ' H' C' d hd r' dv => ?_
    have hd : d = .str (nameOf e) := hd
    subst hd
    cases dv
    refine hq H' fun b o hb => ?_
    by_cases hf : (errF g H E a e).fx b
    · obtain ⟨m, hm⟩ := hf
      have hm' := hm
      simp [errF] at hm'
      obtain ⟨rfl, rfl⟩ := hm'
      have := r'.fxo hm
      rw [hS] at hb
      cases hb
      exact this
    · exact r'.keep b o hb hf
end
section
variable {F : FC} {R : Mem} {ks : List SK} {ta tb tc te : TE} {P : PyData → Prop} {x y d : PyData} {tA : TA} {K : PySem.W.Frag}
theorem ev_isV {i : Nat} {a D : Addr} {c : V} {cv : Value} {b : Bool} (hi : ks[i]? = some (.v (.ref a))) (hm : (a, MO.o (ExV (.ref D) none a)) ∈ R) (C : ExcC K D) (hc : ∀ u, RelV c u → u = cv) (hk : PySem.W.kitOne K (.ref D) cv = some b) (p : P (.bool b)) :
    Ev F R (tCB (rIsV K) (tCons (tVar i) (tCons (tC c) tNil))) ks P := fun ms σ H C' hR r Q q =>
  ⟨_, r.slot i _ hi, a, D, c, cv, b, rfl, (r.mo _ _ (hR hm)).2.1, C, hc, hk, q _ H C' _ p r (Ex.refl C') (.bl b)⟩
/-- _law_error(caught) -/
theorem ev_callE {i : Nat} {a : Addr} {g : Exn → Addr} {e : Exn} {E : XK} (hi : ks[i]? = some (.v (.ref a))) (hm : (a, MO.o (ExV (.ref (g e)) none a)) ∈ R) (p : P (.str (nameOf e))) :
    Ev F R (tCall (SpErr g) [] E (tCons (tVar i) tNil)) ks P := fun ms σ H C hR r Q q =>
  ⟨_, r.slot i _ hi, a, e, rfl, (r.mo _ _ (hR hm)).2.1, fun H' eH => q _ H' C _ p (r.grow eH (Ex.refl C) fun a o z => ⟨eH _ _ (r.ch _ _ z), .inl z⟩) (Ex.refl C) (.str _)⟩
/-- caught is None, caught an exception -/
theorem et_isNoneV {i : Nat} {a : Addr} {PT : Bool → Prop} (hi : ks[i]? = some (.v (.ref a))) (p : PT false) : EvT F R (tTest (tOp rIsN (tVar i) (tC .non))) ks PT := fun ms σ H C hR r Q q => by
  refine ⟨_, r.slot i _ hi, rfl, ?_⟩
  have e : decide (V.ref a = V.non) = false := by simp
  rw [e]
  exact ⟨false, rfl, q _ H C p r (Ex.refl C)⟩
/-! ### count, index of truth values -/
def rCountD (K : PySem.W.Frag) : V → List V → Hp → VK → Prop := fun x xs H Q => ∃ (a : Addr) (y : V) (d : PyData) (ds : List PyData), x = V.ref a ∧ xs = [y] ∧ Dp K H (V.ref a) (.list ds) ∧ Dp K H y d ∧ PyData.plainAll ds = true ∧ d.plain = true ∧ d.depth ≤ 60 ∧ Q (.int ((ds.countP fun z => PyData.eqv z d : Nat) : Int)) H
theorem mt_countD {X : Cx} (hu : X.A.units + 64 < cLine) : MtR X "list.count" (rCountD X.K) := by
  intro pins s σ H x xs v us Q I rx rxs h
  obtain ⟨a, y, d, ds, rfl, rfl, hl, hy, p1, p2, p3, q⟩ := h
  cases rx
  obtain ⟨u, rfl, ry⟩ := vals1 rxs
  obtain ⟨bs, r1⟩ := Dp.reads I d y u hy ry
  cases hl with
  | lst hs ha =>
    obtain ⟨its, rv, hl, _⟩ := I.list hs
    obtain ⟨as, hr⟩ := Dp.readsAll I _ _ _ ha rv
    exact PySem.SeqAt.count_list_data hl.isList (by simpa using hr) r1 p1 p2 (by omega) ⟨.int _, H, I.kept (t' := s.toks + 1) fun _ _ z => z, ⟨_, rfl⟩, q⟩
theorem k_countD {X : Cx} (hu : X.A.units + 64 < cLine) (h : X.K = K := by rfl) : MtR X "list.count" (rCountD K) := h ▸ mt_countD hu
theorem plain_bools : ∀ bs : List Bool, PyData.plainAll (bs.map PyData.bool) = true
  | [] => rfl
  | b :: bs => by
    rw [List.map_cons]
    unfold PyData.plainAll
    rw [plain_bools bs]
    rfl
theorem om_countB {bs : List Bool} {c : Bool} (p : P (.int (bs.count c : Nat))) : OpM F R ks (rCountD K) (dB bs) [.bool c] P := fun ms σ H C v vs _ r hx hv0 Q q => by
  obtain ⟨w, rfl, hw⟩ := dn_one hv0
  cases hw
  have hd := (hx.up r.ch).dp (K := K) _ _
  cases hx with
  | lst h1 h2 =>
    refine ⟨_, _, .bool c, bs.map .bool, rfl, rfl, hd, .bl c, plain_bools bs, rfl, by cases c <;> decide, ?_⟩
    have e : (bs.map PyData.bool).countP (fun z => PyData.eqv z (.bool c)) = bs.count c := by
      rw [List.countP_map]
      exact congrArg (fun f => List.countP f bs) (funext fun b => by cases b <;> cases c <;> rfl)
    rw [e]
    exact q _ H C _ p r (Ex.refl C) (.int _)
theorem om_indexB {bs : List Bool} {c : Bool} (hi : c ∈ bs) (p : P (.int (bs.idxOf c : Nat))) : OpM F R ks (rIndex K) (dB bs) [.bool c] P := fun ms σ H C v vs _ r hx hv0 Q q => by
  obtain ⟨w, rfl, hw⟩ := dn_one hv0
  cases hw
  cases hx with
  | lst h1 h2 =>
    have e := h2.bools
    subst e
    have hlt : bs.idxOf c < bs.length := List.idxOf_lt_length_of_mem hi
    refine ⟨_, _, _, bs.idxOf c, .bl c, rfl, rfl, SqL.of (r.ch _ _ h1), rfl, ?_, ?_, ?_, fun m z' hm hz => ?_, q _ H C _ p r (Ex.refl C) (.int _)⟩
    · rw [List.all_map]
      exact List.all_eq_true.mpr fun _ _ => rfl
    · rw [List.getElem?_map]
      simp [hlt]
    · cases c <;> rfl
    · rw [List.getElem?_map] at hz
      have hm2 : m < bs.length := by omega
      have hz : z' = V.bl bs[m] := by simpa [hm2] using hz.symm
      subst hz
      have := List.not_of_lt_findIdx (xs := bs) (p := fun y => y == c) (i := m) hm
      have : bs[m] ≠ c := by simpa using this
      generalize bs[m] = b at this
      cases b <;> cases c <;> first | rfl | exact absurd rfl this
end
end DL
namespace DL
open PySem PySem.Spec L2
section
variable {X : Cx} {k : Nat} {ps : List Str} {sp : Sp} {x : Str} {p pos : Pos} {e : Expr} {es : List Expr} {t : TA}
/-- f(e, ..) in a try's body -/
theorem pe_entS (n : Ent X.prog X.w X.K X.mg X.base x ps k sp) {j : Nat} {W : WX} (hr : Room j X.A) (tk : Takes X W) (ha : PA X (e :: es) t) (hj : k ≤ j := by decide) (hg : Gl X x := by rfl) (hdb : (x == ("__debug__" : Str)) = false := by decide)
    (he : starEach (e :: es) X.env = (false, eval e X.env) :: starEach es X.env := by rfl) (hpl : (backTo pos (starEach es X.env)).any (·.1) = false := by rfl) : PE X (.Call (.Name x p) (e :: es) [] pos) (tCallS sp (WE W) t) := by
  obtain ⟨f, fd, F, m, kp, b⟩ := n.ex
  exact pe_callS F (hr.mono hj) hg m kp b (fun σ => passAt tk σ) ha hdb he hpl
variable {n m : Str} {c : Value} {i j : Nat} {body : List Stmt} {np pos' sp1 sp2 sp3 : Pos} {tb : WX → TS} {Wout : WX}
/-- try: body, except x as n: m = n -/
theorem ps_try (hs : X.stack = X.env :: X.outer) (hf : X.env.frame = some X.env.locals) (hex : X.ex = []) (hN : X.N.Nodup) (hi : X.N[i]? = some n) (hln : X.env.kindOf n = some .local) (hc : Names X x c) (tk : Takes X Wout)
    (hb : ∀ (W : WX) (pn : List (Addr × Obj)) (xe : Value → Shared → Prop), Takes (X.tr pn xe) W → PassesOwn (model X.prog X.w) X.A X.env xe → PSs (X.tr pn xe) body (tb W))
    {s₀ : Stmt} (hsu : ∀ (a : Addr) (oe : Obj) (pn : List (Addr × Obj)), PS (X.suite a ((a, oe) :: pn)) s₀ (tAsg (tVar i) (gName j))) :
    PS X (.Try body [.ExceptHandler (some (.Name x np)) (some n) [s₀] pos'] [] [] pos) (tTry X.K c i j Wout tb) := ps_try_keep hs hf hex hN hi hln hc tk hb fun a oe pn => pss_one (hsu a oe pn)
end
end DL
namespace DL
open PySem PySem.Spec L2
section
variable {F : FC} {ks : List SK} {te : TE} {K : PySem.W.Frag} {D : DE}
theorem setM_head {l : Addr} {m m' : MO} {ms : Mem} (h : l ∉ ms.map (·.1)) : setM ((l, m) :: ms) l m' = (l, m') :: ms := by
  unfold setM
  rw [List.map_cons]
  simp only [if_true]
  congr 1
  conv => rhs; rw [← List.map_id ms]
  refine List.map_congr_left fun p hp => ?_
  rw [if_neg (fun z => h (List.mem_map.mpr ⟨p, hp, z⟩))]
  rfl
/-- append to the list made last -/
theorem ws_appendH {i : Nat} {l : Addr} {ds : List PyData} {ms : Mem} (hi : ks[i]? = some (.v (.ref l))) (hf : ¬ F.fx l) (hn : ds.length < 100000) (h : Ev F ((l, .l ds) :: ms) te ks fun d => D.nx ks ((l, .l (ds ++ [d])) :: ms)) : WS F (tDrop (tBM K "list" rAppend (tVar i) (tCons te tNil))) ks ((l, .l ds) :: ms) D := fun σ H C r => by
  have nl : l ∉ ms.map (·.1) := (List.nodup_cons.mp r.nd).1
  exact ws_append hi List.mem_cons_self hf hn (h.imp fun d q => by rw [setM_head nl]; exact q) σ H C r
theorem ws_freezeH {i : Nat} {l : Addr} {ds : List PyData} {ms : Mem} {t : TS} (hi : ks[i]? = some (.v (.ref l))) (hf : ¬ F.fx l) (h : WS F t (ks.set i (.d (.list ds))) ms D) : WS F t ks ((l, .l ds) :: ms) D := fun σ H C r => by
  have nl : l ∉ ms.map (·.1) := (List.nodup_cons.mp r.nd).1
  refine ws_freeze hi List.mem_cons_self hf (?_ : WS F t _ (dropM ((l, .l ds) :: ms) l) D) σ H C r
  have e : dropM ((l, .l ds) :: ms) l = ms := by
    unfold dropM
    rw [List.filter_cons]
    simp
    exact fun a b hp z => nl (List.mem_map.mpr ⟨(a, b), hp, z⟩)
  rw [e]
  exact h
end
end DL
namespace DL
open PySem PySem.Spec L2
/-- what one class of errors says; W its base -/
structure Err1 (K : PySem.W.Frag) (c W : Addr) : Prop where
  hg : PySem.W.findIn K (.ref c) "__getattribute__" = some (some (.builtin "BaseException.__getattribute__"))
  hk : PySem.W.findIn K (.ref c) "__getattr__" = some none
  hd : PySem.W.hasDictIn K c = true
  ha : PySem.W.findIn K (.ref c) "__class__" = some (some (.builtin "object.__class__"))
  hm : PySem.W.mroIn K c (.type "object") = some true
  sw : PySem.W.subIn K (.ref c) (.ref W) = some true
  sv : PySem.W.subIn K (.ref c) (.type "ValueError") = some true
theorem kit_own {K : PySem.W.Frag} {c C : Addr} {b : Bool} (hd : PySem.W.hasDictIn K C = true) (ty : PySem.W.typeIn K (.ref C) = some (.type "type")) (sb : PySem.W.subIn K (.ref c) (.ref C) = some b) (ss : PySem.W.subIn K (.ref C) (.ref C) = some true) : PySem.W.kitOne K (.ref c) (.ref C) = some b := by
  unfold PySem.W.kitOne
  by_cases h : c = C
  · subst h
    rw [ss] at sb
    rw [if_pos (by simp)]
    exact sb
  · rw [if_neg (by simpa using h)]
    obtain ⟨cd, hc, _⟩ := PySem.W.any_some hd
    show (if ((PySem.W.clsIn K C).isSome && PySem.W.typeIn K (.ref C) == some (.type "type")) = true then PySem.W.subIn K (.ref c) (.ref C) else none) = some b
    rw [if_pos (by rw [hc, ty]; rfl)]
    exact sb
theorem kit_val {K : PySem.W.Frag} {c : Addr} {b : Bool} (sb : PySem.W.subIn K (.ref c) (.type "ValueError") = some b) : PySem.W.kitOne K (.ref c) (.type "ValueError") = some b := by
  unfold PySem.W.kitOne
  rw [if_neg (by simp)]
  show (if PySem.W.kitMeta "ValueError" = true then PySem.W.subIn K (.ref c) (.type "ValueError") else none) = some b
  rw [if_pos (by decide +kernel)]
  exact sb
abbrev ErrAll {K : PySem.W.Frag} {h : Heap} (_ : K.In h) (mg : Str → Option Value) : Prop := ∃ (g : Exn → Addr) (V : Addr), ExT K mg "BadRow" (g .row) ∧ ExT K mg "BadWidth" (g .width) ∧ ExT K mg "BadNumber" (g .number) ∧ ExT K mg "BadText" (g .text) ∧ ExT K mg "NotFound" (g .gone) ∧ ErrT K mg g V
theorem err_all {K : PySem.W.Frag} {h : Heap} {mg : Str → Option Value} {c1 c2 c3 c4 c5 W : Addr} (X : K.In h) (G : h.Ns mainGlobals mg) (aw : PySem.W.nsIn K mainGlobals "WindowError" = some (some (.ref W)))
    (a1 : PySem.W.nsIn K mainGlobals "BadRow" = some (some (.ref c1))) (a2 : PySem.W.nsIn K mainGlobals "BadWidth" = some (some (.ref c2))) (a3 : PySem.W.nsIn K mainGlobals "BadNumber" = some (some (.ref c3))) (a4 : PySem.W.nsIn K mainGlobals "BadText" = some (some (.ref c4))) (a5 : PySem.W.nsIn K mainGlobals "NotFound" = some (some (.ref c5)))
    (hn : PySem.W.specialIn K (.builtin "object.__class__") "__get__" = some (some (.builtin "getset_descriptor.__get__"))) (ht : PySem.W.takesIn K (.builtin "object.__class__") = some true)
    (wd : PySem.W.hasDictIn K W = true) (wt : PySem.W.typeIn K (.ref W) = some (.type "type")) (wb : PySem.W.subIn K (.ref W) (.type "BaseException") = some true) (ww : PySem.W.subIn K (.ref W) (.ref W) = some true)
    (x1 : PySem.W.nsIn K mainGlobals "BadRow" = some (some (.ref c1)) → ExT K mg "BadRow" c1) (x2 : PySem.W.nsIn K mainGlobals "BadWidth" = some (some (.ref c2)) → ExT K mg "BadWidth" c2) (x3 : PySem.W.nsIn K mainGlobals "BadNumber" = some (some (.ref c3)) → ExT K mg "BadNumber" c3) (x4 : PySem.W.nsIn K mainGlobals "BadText" = some (some (.ref c4)) → ExT K mg "BadText" c4) (x5 : PySem.W.nsIn K mainGlobals "NotFound" = some (some (.ref c5)) → ExT K mg "NotFound" c5)
    (e1 : Err1 K c1 W) (e2 : Err1 K c2 W) (e3 : Err1 K c3 W) (e4 : Err1 K c4 W) (e5 : Err1 K c5 W) (k11 : PySem.W.subIn K (.ref c1) (.ref c1) = some true) (k12 : PySem.W.subIn K (.ref c1) (.ref c2) = some false) (k13 : PySem.W.subIn K (.ref c1) (.ref c3) = some false) (k14 : PySem.W.subIn K (.ref c1) (.ref c4) = some false) (k15 : PySem.W.subIn K (.ref c1) (.ref c5) = some false) (k21 : PySem.W.subIn K (.ref c2) (.ref c1) = some false) (k22 : PySem.W.subIn K (.ref c2) (.ref c2) = some true) (k23 : PySem.W.subIn K (.ref c2) (.ref c3) = some false) (k24 : PySem.W.subIn K (.ref c2) (.ref c4) = some false) (k25 : PySem.W.subIn K (.ref c2) (.ref c5) = some false) (k31 : PySem.W.subIn K (.ref c3) (.ref c1) = some false) (k32 : PySem.W.subIn K (.ref c3) (.ref c2) = some false) (k33 : PySem.W.subIn K (.ref c3) (.ref c3) = some true) (k34 : PySem.W.subIn K (.ref c3) (.ref c4) = some false) (k35 : PySem.W.subIn K (.ref c3) (.ref c5) = some false) (k41 : PySem.W.subIn K (.ref c4) (.ref c1) = some false) (k42 : PySem.W.subIn K (.ref c4) (.ref c2) = some false) (k43 : PySem.W.subIn K (.ref c4) (.ref c3) = some false) (k44 : PySem.W.subIn K (.ref c4) (.ref c4) = some true) (k45 : PySem.W.subIn K (.ref c4) (.ref c5) = some false) (k51 : PySem.W.subIn K (.ref c5) (.ref c1) = some false) (k52 : PySem.W.subIn K (.ref c5) (.ref c2) = some false) (k53 : PySem.W.subIn K (.ref c5) (.ref c3) = some false) (k54 : PySem.W.subIn K (.ref c5) (.ref c4) = some false) (k55 : PySem.W.subIn K (.ref c5) (.ref c5) = some true) : ErrAll X mg := by
  have xc : ∀ {n : Str} {c : Addr}, ExT K mg n c → Err1 K c W → ExcC K c := fun x e => ⟨e.hg, e.hk, x.sb, e.hd, e.ha, hn, ht, e.hm⟩
  refine ⟨fun e => match e with | .row => c1 | .width => c2 | .number => c3 | .text => c4 | .gone => c5, W, x1 a1, x2 a2, x3 a3, x4 a4, x5 a5, PySem.W.mg_of X G aw, fun e => ?_, fun e e' => ?_, fun e => ?_, fun e => ?_, fun e => ?_⟩
  · cases e
    · exact xc (x1 a1) e1
    · exact xc (x2 a2) e2
    · exact xc (x3 a3) e3
    · exact xc (x4 a4) e4
    · exact xc (x5 a5) e5
  · cases e <;> cases e'
    · exact kit_own e1.hd (x1 a1).ty k11 k11
    · exact kit_own e2.hd (x2 a2).ty k12 k22
    · exact kit_own e3.hd (x3 a3).ty k13 k33
    · exact kit_own e4.hd (x4 a4).ty k14 k44
    · exact kit_own e5.hd (x5 a5).ty k15 k55
    · exact kit_own e1.hd (x1 a1).ty k21 k11
    · exact kit_own e2.hd (x2 a2).ty k22 k22
    · exact kit_own e3.hd (x3 a3).ty k23 k33
    · exact kit_own e4.hd (x4 a4).ty k24 k44
    · exact kit_own e5.hd (x5 a5).ty k25 k55
    · exact kit_own e1.hd (x1 a1).ty k31 k11
    · exact kit_own e2.hd (x2 a2).ty k32 k22
    · exact kit_own e3.hd (x3 a3).ty k33 k33
    · exact kit_own e4.hd (x4 a4).ty k34 k44
    · exact kit_own e5.hd (x5 a5).ty k35 k55
    · exact kit_own e1.hd (x1 a1).ty k41 k11
    · exact kit_own e2.hd (x2 a2).ty k42 k22
    · exact kit_own e3.hd (x3 a3).ty k43 k33
    · exact kit_own e4.hd (x4 a4).ty k44 k44
    · exact kit_own e5.hd (x5 a5).ty k45 k55
    · exact kit_own e1.hd (x1 a1).ty k51 k11
    · exact kit_own e2.hd (x2 a2).ty k52 k22
    · exact kit_own e3.hd (x3 a3).ty k53 k33
    · exact kit_own e4.hd (x4 a4).ty k54 k44
    · exact kit_own e5.hd (x5 a5).ty k55 k55
  · cases e
    · exact kit_own wd wt e1.sw ww
    · exact kit_own wd wt e2.sw ww
    · exact kit_own wd wt e3.sw ww
    · exact kit_own wd wt e4.sw ww
    · exact kit_own wd wt e5.sw ww
  · cases e
    · exact kit_val e1.sv
    · exact kit_val e2.sv
    · exact kit_val e3.sv
    · exact kit_val e4.sv
    · exact kit_val e5.sv
  · cases e
    · exact PySem.W.exm_ref wb wd wt e1.sw
    · exact PySem.W.exm_ref wb wd wt e2.sw
    · exact PySem.W.exm_ref wb wd wt e3.sw
    · exact PySem.W.exm_ref wb wd wt e4.sw
    · exact PySem.W.exm_ref wb wd wt e5.sw
end DL

namespace DL
open PySem PySem.Spec PyProof.Rows L2 HT
/-! ### t[::-1] of a tuple -/
section
variable {prog : Program} {w : World} {A : Around} {E : Value → Shared → Prop} {s : Shared}
theorem places_back (n : Nat) : Builtin.Slice.slicePlaces ((n : Int) - 1) (-1) (-1) = n := by
  unfold Builtin.Slice.slicePlaces
  have h1 : ¬ ((-1 : Int) > 0) := by omega
  simp only [h1, if_false, Int.neg_neg, Int.ediv_one]
  split <;> omega
theorem sliceApplied_back {sl : Addr} {vl vu vs : Value} {n : Nat} {Q : Int × Int × Nat → Shared → Prop} (hs : s.heap.IsSliceOf sl vl vu vs) (pl : IsPart vl none) (pu : IsPart vu none) (ps : IsPart vs (some (-1)))
    (h : Q ((n : Int) - 1, -1, n) s) : wpAny (model prog w) A (Builtin.Slice.sliceApplied (.ref sl) (pure (n : Int))) Q E s := by
  obtain ⟨os, hos, hcs, hds⟩ := id hs
  unfold Builtin.Slice.sliceApplied Builtin.Slice.sliceFields
  refine wpAny_bind (wpAny_bind (wpAny_field hos hds (x := vl) rfl (wpAny_bind (wpAny_field hos hds (x := vu) rfl (wpAny_bind (wpAny_field hos hds (x := vs) rfl (wpAny_pure ?_)))))))
  refine wpAny_bind (slicePart_ ps ?_)
  show wpAny _ _ (if ((-1 : Int) == 0) = true then _ else _) _ _ s
  rw [if_neg (by decide)]
  refine wpAny_bind (slicePart_ pl (wpAny_bind (slicePart_ pu (wpAny_bind (wpAny_pure ?_)))))
  show wpAny _ _ (pure ((n : Int) - 1, (-1 : Int), Builtin.Slice.slicePlaces ((n : Int) - 1) (-1) (-1))) _ _ s
  rw [places_back]
  exact wpAny_pure h
theorem fm_some {α β : Type} {f : α → Option β} {g : α → β} : ∀ {l : List α}, (∀ x ∈ l, f x = some (g x)) → l.filterMap f = l.map g
  | [], _ => rfl
  | x :: l, h => by
    rw [List.filterMap_cons_some (h x List.mem_cons_self), List.map_cons, fm_some fun y hy => h y (List.mem_cons_of_mem _ hy)]
theorem pick_back (xs : Array Value) : ((List.range xs.size).filterMap fun (m : Nat) => xs[(((xs.size : Int) - 1) + (m : Int) * (-1)).toNat]?).toArray = xs.toList.reverse.toArray := by
  congr 1
  apply List.ext_getElem?
  intro i
  have e : ((List.range xs.size).filterMap fun (m : Nat) => xs[(((xs.size : Int) - 1) + (m : Int) * (-1)).toNat]?) = (List.range xs.size).map fun m => xs.getD (xs.size - 1 - m) default := by
    refine fm_some fun m hm => ?_
    have hm := List.mem_range.mp hm
    rw [show (((xs.size : Int) - 1) + (m : Int) * (-1)).toNat = xs.size - 1 - m by omega]
    rw [Array.getElem?_eq_getElem (by omega)]
    simp [Array.getD, show xs.size - 1 - m < xs.size by omega]
  rw [e]
  by_cases hi : i < xs.size
  · rw [List.getElem?_map, List.getElem?_range hi, List.getElem?_reverse (by simpa using hi)]
    simp [Array.getD, show xs.size - 1 - i < xs.size by omega]
  · rw [List.getElem?_eq_none (by simpa using hi), List.getElem?_eq_none (by simpa using hi)]
theorem getItem_tuple_back {t sl : Addr} {items : Array Value} {vl vu vs : Value} {Q : Value → Shared → Prop} (ht : IsTup s.heap t items) (hs : s.heap.IsSliceOf sl vl vu vs) (pl : IsPart vl none) (pu : IsPart vu none) (ps : IsPart vs (some (-1)))
    (h : Q (.ref s.heap.objs.size) { s with heap := s.heap.push { cls := .type "tuple", data := .seq items.toList.reverse.toArray } })
    (hsz : items.size ≤ sizeLine) : wpAny (model prog w) A (getItem (.ref t) (.ref sl)) Q E s := by
  have htake : sizeOk (.seq items.toList.reverse.toArray) := by
    show items.toList.reverse.toArray.size ≤ sizeLine
    simpa using hsz
  obtain ⟨os, hos, hcs, hds⟩ := id hs
  have hTs : s.TypeIs (.ref sl) "slice" := ⟨os, hos, hcs⟩
  unfold getItem
  try with_reducible refine wpAny_holding ?_
  first | refine wpAny_bind (wpAny_pure ?_) | skip
  refine wpAny_bind (wpAny_sequenceKey ht.typeIs (by decide) ?_)
  refine wpAny_bind (wpAny_callSpecial?_slot (name := Str.ofString "__getitem__") ht.typeIs PyProof.Rows.slot_tuple_getitem
    (wpAny_call_entry PyProof.Rows.slot_tuple_getitem ht.typeIs entry_tuple_getitem ?_ (args_tuple_getitem _ _)))
  show wpAny _ _ (Builtin.Tuple.tupleItemsOf (.ref t) >>= _) _ _ s
  refine wpAny_bind (tupleItemsOf_ ht ?_)
  refine wpAny_bind (wpAny_typeOf hTs ?_)
  rw [if_pos (by decide)]
  refine wpAny_bind (sliceApplied_back hs pl pu ps ?_)
  show wpAny _ _ (if (((items.size : Int) - 1) == 0 && (-1 : Int) == 1 && items.size == items.size) = true then _ else _) _ _ s
  rw [if_neg (by simp), pick_back]
  first
    | exact wpAny_bind (m := Builtin.Tuple.tupleExact _) (wpAny_newObj_type (wpAny_pure ⟨_, rfl, wpAny_pure h⟩) htake)
    | exact wpAny_bind (m := Builtin.Tuple.tupleExact _) (wpAny_newObj_type (wpAny_bind (wpAny_pure (wpAny_pure ⟨_, rfl, wpAny_pure h⟩))) htake)
    | exact wpAny_bind (wpAny_bind (m := Builtin.Tuple.tupleExact _) (wpAny_newObj_type (wpAny_pure (wpAny_pure ⟨_, rfl, wpAny_pure h⟩)) htake))
    | exact wpAny_bind (wpAny_bind (m := Builtin.Tuple.tupleExact _) (wpAny_newObj_type (wpAny_pure ⟨_, rfl, wpAny_pure h⟩) htake))
end
section
variable {X : Cx}
def tRevT (K : PySem.W.Frag) (te : TE) : TE := fun σ H Q => te σ H fun x H1 => ∃ a xs, x = .ref a ∧ SqT K H1 a xs ∧ ∀ p, H1 p = none → Q (.ref p) (upd H1 p (.tup xs.reverse))
theorem pe_revT {e : Expr} {te : TE} {k : Nat} {p1 p2 p3 pos : Pos} (he : PE X e te) : PE X (.Subscript e (.Slice none none (some (.UnaryOp .USub (.Constant (.int 1) k p1) p2)) p3) pos) (tRevT X.K te) := by
  refine ⟨fun pins s σ H Q I h => ?_⟩
  refine Subscript_ (thn (he.run pins s σ H _ I h) fun v s1 ⟨x, H1, I1, r1, q1⟩ => ?_)
  obtain ⟨a, xs, ex, hx, q⟩ := q1
  subst ex
  cases r1
  have hst : PO X (some (.UnaryOp .USub (.Constant (.int 1) k p1) p2)) (tPart (tUn (rU fun i => .int (-i)) (tC (.int 1)))) := po_some (pe_un un_neg pe_int)
  refine wpAny_Slice (thn (po_none.run pins s1 σ H1 (fun o H2 => o = none ∧ H2 = H1) I1 ⟨rfl, rfl⟩) fun vl s2 ⟨l, H2, I2, pl, el, e2⟩ => ?_)
  subst el e2
  refine thn (po_none.run pins s2 σ H2 (fun o H3 => o = none ∧ H3 = H2) I2 ⟨rfl, rfl⟩) fun vu s3 ⟨u, H3, I3, pu, eu, e3⟩ => ?_
  subst eu e3
  refine thn (hst.run pins s3 σ H3 (fun o H4 => o = some (-1) ∧ H4 = H3) I3 ⟨1, rfl, -1, rfl, rfl, rfl⟩) fun vs s4 ⟨o, H4, I4, ps, eo, e4⟩ => ?_
  subst eo e4
  have I5 : L2.Inv X pins σ H4 { s4 with heap := s4.heap.push { cls := .type "slice", data := .fields #[vl, vu, vs] } } := I4.kept (t' := s4.toks) fun b ob q => Heap.get?_push_of_some _ q
  obtain ⟨its, r, ht, hz⟩ := I5.tuple hx
  have hlen := r.length
  show wpAny (model X.prog X.w) X.A (subscriptTail e (.Slice none none (some (.UnaryOp .USub (.Constant (.int 1) k p1) p2)) p3) (.ref a) (.ref s4.heap.objs.size)) (EP X pins σ Q) X.xe { s4 with heap := s4.heap.push { cls := .type "slice", data := .fields #[vl, vu, vs] } }
  refine tail_any (ops := [.ref a, .ref s4.heap.objs.size]) ht.typeIs PyProof.Rows.slot_tuple_getitem.lookup ?_ (by with_unfolding_all rfl)
  refine getItem_tuple_back ht (Heap.IsSliceOf.new _ vl vu vs) pl pu ps ?_ (by rw [List.size_toArray]; omega)
  refine ⟨.ref _, _, I5.laid (t' := s4.toks) (o := .tup xs.reverse) (fun b ob q => Heap.get?_push_of_some _ q) (Nat.le_refl _) ?_, rfl, q _ (I5.hok.fresh (Nat.le_refl _))⟩
  exact ⟨by rw [List.length_reverse]; exact hz, _, r.reverse, IsTup.new _ _⟩
theorem k_revT {K : PySem.W.Frag} {e : Expr} {te : TE} {k : Nat} {p1 p2 p3 pos : Pos} (he : PE X e te) (h : X.K = K := by rfl) : PE X (.Subscript e (.Slice none none (some (.UnaryOp .USub (.Constant (.int 1) k p1) p2)) p3) pos) (tRevT K te) := h ▸ pe_revT he
theorem k_catA {K : PySem.W.Frag} (h : X.K = K := by rfl) : OpR X (binaryOp .Add) (rCatA K) := h ▸ op_catA
theorem k_slA {K : PySem.W.Frag} (h : X.K = K := by rfl) : SlR X (rSlA K) := h ▸ sl_tupA
end
section
variable {F : FC} {R : Mem} {ks : List SK} {ta tb tc te : TE} {P : PyData → Prop} {x y d : PyData} {tA : TA} {K : PySem.W.Frag}
theorem ev_revT (h : Ev F R te ks fun x => ∃ ds, x = .tuple ds ∧ P (.tuple ds.reverse)) : Ev F R (tRevT K te) ks P := fun ms σ H C hR r Q q => h ms σ H C hR r _ fun v H1 C1 x p r1 e1 d1 => by
  obtain ⟨ds, rfl, p⟩ := p
  cases d1 with
  | @tup a xs _ h1 h2 =>
    refine ⟨a, xs, rfl, SqT.of (r1.ch _ _ h1), fun l hl => ?_⟩
    obtain ⟨r2, e2⟩ := r1.new hl (.tup xs.reverse)
    exact q _ _ _ _ p r2 (e1.trans e2) (.tup upd_same (DnAll.up (DnAll.rev h2) e2))
theorem op_catT2 {a b : List PyData} (hl : a.length + b.length ≤ 100000) (p : P (.tuple (a ++ b))) : Op2 F R ks (rCatA K) (.tuple a) (.tuple b) P := fun ms σ H C vx vy _ r hx hy Q q => by
  cases hx with
  | @tup l xs _ h1 h2 =>
    cases hy with
    | @tup m ys _ h3 h4 =>
      refine ⟨l, m, xs, ys, rfl, rfl, SqT.of (r.ch _ _ h1), SqT.of (r.ch _ _ h3), by rw [h2.length, h4.length]; exact Evl.sz_of hl, fun z => ?_, fun z1 z2 => ?_, fun _ _ a ha => ?_⟩
      · subst z
        cases h2
        exact q _ H C _ p r (Ex.refl C) (.tup h3 h4)
      · subst z2
        cases h4
        rw [List.append_nil] at p
        exact q _ H C _ p r (Ex.refl C) (.tup h1 h2)
      · obtain ⟨r2, e2⟩ := r.new ha (.tup (xs ++ ys))
        exact q _ _ _ _ p r2 e2 (.tup upd_same ((h2.app h4).up e2))
end
end DL

namespace DL
open PySem PySem.Spec L2
theorem u1 {n : Nat} (h : n + 64 < cLine) : n + 1 < cLine := by omega
/-! ### a dict of whole numbers, each with True -/
def kOf (ns : List Int) : List (Key × V) := ns.map fun k => (Sum.inl k, V.bl true)
def insI (ns : List Int) (k : Int) : List Int := if k ∈ ns then ns else ns ++ [k]
theorem mem_insI {ns : List Int} {k x : Int} : x ∈ insI ns k ↔ x ∈ ns ∨ x = k := by
  unfold insI
  by_cases h : k ∈ ns
  · rw [if_pos h]
    exact ⟨.inl, fun z => z.elim id fun e => e ▸ h⟩
  · rw [if_neg h]
    simp
theorem nodup_insI {ns : List Int} {k : Int} (h : ns.Nodup) : (insI ns k).Nodup := by
  unfold insI
  by_cases hk : k ∈ ns
  · rw [if_pos hk]; exact h
  · rw [if_neg hk]
    exact List.nodup_append.mpr ⟨h, by simp, fun a ha b hb => by simp at hb; subst hb; exact fun z => hk (z ▸ ha)⟩
theorem insI_len (ns : List Int) (k : Int) : (insI ns k).length ≤ ns.length + 1 := by
  unfold insI
  split
  · omega
  · simp
theorem putK_kOf (ns : List Int) (k : Int) : putK (kOf ns) (Sum.inl k : Key) (V.bl true) = kOf (insI ns k) := by
  unfold putK insI kOf
  by_cases h : k ∈ ns
  · rw [if_pos h, if_pos (by simpa using h)]
    rw [List.map_map]
    refine List.map_congr_left fun x hx => ?_
    show (if (Sum.inl x : Key) = Sum.inl k then _ else _) = _
    split <;> rfl
  · rw [if_neg h, if_neg (by simpa using h), List.map_append]
    rfl
def rSortedDI : List V → Hp → VK → Prop := fun xs H Q => ∃ (a : Addr) (kvs : List (Key × V)) (ks : List Int), xs = [.ref a] ∧ Rd H a (.dK kvs) ∧ kvs.map (·.1) = ks.map Sum.inl ∧ ks.length < 64 ∧
    ∀ (ys : List Int) (p : Addr), ys.Perm ks → ys.Pairwise (· ≤ ·) → H p = none → Q (.ref p) (upd H p (.lst (ys.map V.int)))
theorem k_sortedDI {X : Cx} (hc : X.calm = true := by rfl) : CallR X (.builtin "sorted") rSortedDI := call_sortedDI hc
section
variable {F : FC} {R : Mem} {ks : List SK} {ms : Mem} {ta tb tc te ty tv : TE} {P : PyData → Prop} {D : DE} {t : TS}
theorem ws_dnew {i : Nat} (h : ∀ l, ¬ F.fx l → D.nx (ks.set i (.v (.ref l))) ((l, .o (.dK (kOf []))) :: ms)) : WS F (tAsg tDNewK (gName i)) ks ms D := fun σ H C r Ec q1 q2 q3 q4 => fun l hl => by
  have hnf : ¬ F.fx l := fun z => by
    obtain ⟨m, hm⟩ := z
    obtain ⟨o, ho⟩ := (r.fxo hm).there
    rw [hl] at ho; cases ho
  exact q1 _ _ _ _ _ (h l hnf) ((r.newM hl (m := .o (.dK (kOf []))) upd_same).put (k := .v (.ref l)) rfl) (Ex.refl C)
/-- d[y] = True -/
theorem ws_dput {i : Nat} {l : Addr} {ns : List Int} (hi : ks[i]? = some (.v (.ref l))) (hl : (l, MO.o (.dK (kOf ns))) ∈ ms) (hf : ¬ F.fx l) (hn : ns.length < 100000)
    (h : Ev F ms tv ks fun v => v = .bool true ∧ Ev F ms ty ks fun y => ∃ k, y = .int k ∧ D.nx ks (setM ms l (.o (.dK (kOf (insI ns k)))))) : WS F (sDPut (tVar i) ty tv) ks ms D := fun σ H C r Ec q1 q2 q3 q4 => by
  refine h ms σ H C (fun _ z => z) r _ fun v H1 C1 x p1 r1 e1 d1 => ⟨_, r1.slot i _ hi, ?_⟩
  obtain ⟨rfl, p1⟩ := p1
  cases d1
  refine p1 ms σ H1 C1 (fun _ z => z) r1 _ fun y H2 C2 x p2 r2 e2 d2 => ?_
  obtain ⟨k, rfl, p⟩ := p2
  cases d2
  have hm : H2 l = some (.dK (kOf ns)) := (r2.mo l _ hl).2.1
  refine ⟨l, _, rfl, DPut.k (k := Sum.inl k) hm (by unfold kOf; rw [List.length_map]; exact Evl.sz_lt hn), ?_⟩
  rw [putK_kOf]
  exact q1 _ _ _ _ _ p (r2.setM hl hf upd_same) (e1.trans e2)
theorem ws_dputH {i : Nat} {l : Addr} {ns : List Int} (hi : ks[i]? = some (.v (.ref l))) (hf : ¬ F.fx l) (hn : ns.length < 100000)
    (h : Ev F ((l, .o (.dK (kOf ns))) :: ms) tv ks fun v => v = .bool true ∧ Ev F ((l, .o (.dK (kOf ns))) :: ms) ty ks fun y => ∃ k, y = .int k ∧ D.nx ks ((l, .o (.dK (kOf (insI ns k)))) :: ms)) : WS F (sDPut (tVar i) ty tv) ks ((l, .o (.dK (kOf ns))) :: ms) D := fun σ H C r => by
  have nl : l ∉ ms.map (·.1) := (List.nodup_cons.mp r.nd).1
  exact ws_dput hi List.mem_cons_self hf hn (h.imp fun v q => ⟨q.1, q.2.imp fun y ⟨k, e, z⟩ => ⟨k, e, by rw [setM_head nl]; exact z⟩⟩) σ H C r
/-- sorted(d) -/
theorem ev_sortedDI {i : Nat} {l : Addr} {ns : List Int} (hi : ks[i]? = some (.v (.ref l))) (hl : (l, MO.o (.dK (kOf ns))) ∈ R) (hn : ns.length < 64) (p : ∀ ys : List Int, ys.Perm ns → ys.Pairwise (· ≤ ·) → P (dL ys)) : Ev F R (tCB rSortedDI (tCons (tVar i) tNil)) ks P := fun ms σ H C hR r Q q => by
  refine ⟨_, r.slot i _ hi, l, kOf ns, ns, rfl, .inl (r.mo l _ (hR hl)).2.1, by unfold kOf; rw [List.map_map]; rfl, hn, fun ys a h3 h4 ha => ?_⟩
  obtain ⟨r2, e2⟩ := r.new ha (.lst (ys.map V.int))
  exact q _ _ _ _ (p ys h3 h4) r2 e2 (.lst upd_same (dn_ints _ _))
/-- not in a changing list -/
theorem ev_notInM {K : PySem.W.Frag} {i : Nat} {l : Addr} {ns : List Int} (hi : ks[i]? = some (.v (.ref l))) (hl : (l, MO.l (ns.map PyData.int)) ∈ R) (h : Ev F R ta ks fun y => ∃ k, y = .int k ∧ P (.bool (!decide (k ∈ ns)))) : Ev F R (tOp (rIn K true) ta (tVar i)) ks P := fun ms σ H C hR r Q q => by
  refine h ms σ H C hR r _ fun v H1 C1 x p r1 e1 d1 => ?_
  obtain ⟨k, rfl, p⟩ := p
  cases d1
  obtain ⟨_, ⟨xs, hxs, dxs⟩, _⟩ := r1.mo l _ (hR hl)
  have e := dxs.ints
  subst e
  refine ⟨_, r1.slot i _ hi, l, _, rfl, .inl (SqL.of hxs), rfl, flat_ints ns, ?_⟩
  show Q (.bl (!inV (.int k) (ns.map V.int))) H1
  rw [inV_ints]
  exact q _ H1 C1 _ p r1 e1 (.bl _)
end
end DL

namespace DL
open PySem PySem.Spec PyProof.Rows L2 TL
/-! ### texts -/
def rJoin (K : PySem.W.Frag) : V → List V → Hp → VK → Prop := fun x xs H Q => ∃ a p, ∃ ys : List Str, x = .str a ∧ xs = [.ref p] ∧ (SqL K H p (ys.map V.str) ∨ SqT K H p (ys.map V.str)) ∧ (ys.map (·.length)).sum + ys.length * a.length ≤ 16777216 ∧ Q (.str (Txt.join a ys)) H
def rSplit : V → List V → Hp → VK → Prop := fun x xs H Q => ∃ a b, x = .str a ∧ xs = [.str b] ∧ (b.length == 0) = false ∧ a.length + 2 ≤ sizeLine ∧ rNewStrs (Txt.split a b) H Q
def rStrI : List V → Hp → VK → Prop := fun xs H Q => ∃ i : Int, xs = [.int i] ∧ i.natAbs.log2 < 1920 ∧ Q (.str (toString i)) H
def rIntS : List V → Hp → VK → Prop := fun xs H Q => ∃ a n, xs = [.str a] ∧ PySem.intText? a = some n ∧ a.length ≤ 640 ∧ Q (.int n) H
def rAddS : R2 := fun x y H Q => ∃ i j, x = .str i ∧ y = .str j ∧ i.length + j.length ≤ sizeLine ∧ Q (.str (i ++ j)) H
def rSign (neg : Bool) : R2 := fun x y H Q => ∃ (c : Nat) (z : Str), x = .str ⟨#[c]⟩ ∧ y = .str z ∧ Q (.bl (if neg then !decide (c ∈ z.cps.toList) else decide (c ∈ z.cps.toList))) H
section
variable {X : Cx} {K : PySem.W.Frag} {o e : Expr} {to te : TE}
theorem k_join {apos pos : Pos} (ho : PE X o to) (he : PE X e te) (hs : starEach [e] X.env = [(false, eval e X.env)] := by rfl) (hbase : attributeBase o "join" X.env (eval o X.env) = eval o X.env := by rfl) (hline : (apos.endLine == pos.line) = true := by rfl) (h : X.K = K := by rfl) :
    PE X (.Call (.Attribute o "join" apos) [e] [] pos) (tM1 (rJoin K) to te) := h ▸ pe_join ho he hs hbase hline
theorem k_split {apos pos : Pos} (ho : PE X o to) (he : PE X e te) (hs : starEach [e] X.env = [(false, eval e X.env)] := by rfl) (hbase : attributeBase o "split" X.env (eval o X.env) = eval o X.env := by rfl) (hline : (apos.endLine == pos.line) = true := by rfl) :
    PE X (.Call (.Attribute o "split" apos) [e] [] pos) (tM1 rSplit to te) := pe_split ho he hs hbase hline
theorem cr_str : CallR X (.type "str") rStrI := call_str_int
theorem cr_intS : CallR X (.type "int") rIntS := call_int_str
theorem op_addS : OpR X (binaryOp .Add) rAddS := op_add_str
theorem op_inS : OpR X (compareOp .In) (rSign false) := op_in_sign
theorem op_notInS : OpR X (compareOp .NotIn) (rSign true) := op_notIn_sign
theorem sl_strS : SlR X rSlS := sl_str
end
section
variable {F : FC} {R : Mem} {ks : List SK} {ta tb tc te to : TE} {P : PyData → Prop} {x y d : PyData} {tA : TA} {K : PySem.W.Frag}
theorem ev_m1 {r : V → List V → Hp → VK → Prop} (h : Ev F R to ks fun x => ∃ a, x = .str a ∧ Ev F R te ks fun y => OpM F R ks r (.str a) [y] P) : Ev F R (tM1 r to te) ks P := fun ms σ H C hR rr Q q => h ms σ H C hR rr _ fun v H1 C1 x p r1 e1 d1 => by
  obtain ⟨a, rfl, p⟩ := p
  cases d1
  exact ⟨⟨a, rfl⟩, p ms σ H1 C1 hR r1 _ fun v2 H2 C2 y p2 r2 e2 d2 => p2 ms σ H2 C2 (.str a) [v2] hR r2 (.str a) (.cons d2 .nil) Q fun v3 H3 C3 z p3 r3 e3 d3 => q v3 H3 C3 z p3 r3 ((e1.trans e2).trans e3) d3⟩
theorem dn_strs (C : Hp) : ∀ ns : List Str, DnAll C (ns.map V.str) (ns.map PyData.str)
  | [] => .nil
  | n :: ns => .cons (.str n) (dn_strs C ns)
theorem om_join {a : Str} {ys : List Str} (hl : (ys.map (·.length)).sum + ys.length * a.length ≤ 100000) (p : P (.str (Txt.join a ys))) : OpM F R ks (rJoin K) (.str a) [dS ys] P := fun ms σ H C v vs _ r hx hv0 Q q => by
  obtain ⟨w, rfl, hw⟩ := dn_one hv0
  cases hx
  cases hw with
  | lst h1 h2 =>
    have e := h2.strs
    subst e
    exact ⟨_, _, ys, rfl, rfl, .inl (SqL.of (r.ch _ _ h1)), by omega, q _ H C _ p r (Ex.refl C) (.str _)⟩
theorem om_split {a b : Str} (hb : (b.length == 0) = false) (ha : a.length ≤ 90000) (p : P (dS (Txt.split a b))) : OpM F R ks rSplit (.str a) [.str b] P := fun ms σ H C v vs _ r hx hv0 Q q => by
  obtain ⟨w, rfl, hw⟩ := dn_one hv0
  cases hx
  cases hw
  refine ⟨a, b, rfl, rfl, hb, Evl.sz_of (by omega), fun l hl => ?_⟩
  obtain ⟨r2, e2⟩ := r.new hl (.lst ((Txt.split a b).map V.str))
  exact q _ _ _ _ p r2 e2 (.lst upd_same (dn_strs _ _))
theorem log_small {i : Int} (h0 : 0 ≤ i) (h1 : i ≤ 100000) : i.natAbs.log2 < 1920 := by
  have h : i.natAbs < 2 ^ 17 := by omega
  by_cases z : i.natAbs = 0
  · rw [z]; decide
  · have := (Nat.log2_lt z).mpr h
    omega
theorem on_strI {i : Int} (h0 : 0 ≤ i) (h1 : i ≤ 100000) (p : P (.str (toString i))) : OpN F R ks rStrI [.int i] P := fun ms σ H C vs _ r hv0 Q q => by
  obtain ⟨v, rfl, hv⟩ := dn_one hv0
  cases hv
  exact ⟨i, rfl, log_small h0 h1, q _ H C _ p r (Ex.refl C) (.str _)⟩
theorem on_intS {a : Str} {n : Int} (hn : PySem.intText? a = some n) (hl : a.length ≤ 640) (p : P (.int n)) : OpN F R ks rIntS [.str a] P := fun ms σ H C vs _ r hv0 Q q => by
  obtain ⟨v, rfl, hv⟩ := dn_one hv0
  cases hv
  exact ⟨a, n, rfl, hn, hl, q _ H C _ p r (Ex.refl C) (.int _)⟩
theorem op_addST {a b : Str} (hl : a.length + b.length ≤ 100000) (p : P (.str (a ++ b))) : Op2 F R ks rAddS (.str a) (.str b) P := fun ms σ H C vx vy _ r hx hy Q q => by
  cases hx; cases hy
  exact ⟨a, b, rfl, rfl, Evl.sz_of hl, q _ H C _ p r (Ex.refl C) (.str _)⟩
theorem op_signIn {c : Nat} {z : Str} (p : P (.bool (decide (c ∈ z.cps.toList)))) : Op2 F R ks (rSign false) (.str ⟨#[c]⟩) (.str z) P := fun ms σ H C vx vy _ r hx hy Q q => by
  cases hx; cases hy
  exact ⟨c, z, rfl, rfl, q _ H C _ p r (Ex.refl C) (.bl _)⟩
theorem op_signNot {c : Nat} {z : Str} (p : P (.bool (!decide (c ∈ z.cps.toList)))) : Op2 F R ks (rSign true) (.str ⟨#[c]⟩) (.str z) P := fun ms σ H C vx vy _ r hx hy Q q => by
  cases hx; cases hy
  exact ⟨c, z, rfl, rfl, q _ H C _ p r (Ex.refl C) (.bl _)⟩
theorem os_str {z : Str} {lo hi : Option Int} (hz : z.length ≤ 100000) (p : P (.str (cutS z lo hi))) : OpS F R ks rSlS (.str z) lo hi P := fun ms σ H C v _ r hx Q q => by
  cases hx
  exact ⟨z, rfl, Evl.sz_of hz, q _ H C _ p r (Ex.refl C) (.str _)⟩
/-! in, not in, of truth values -/
theorem inV_bools (b : Bool) : ∀ bs : List Bool, inV (.bl b) (bs.map V.bl) = decide (b ∈ bs)
  | [] => by simp [inV]
  | n :: ns => by
    have ih := inV_bools b ns
    unfold inV at ih ⊢
    rw [List.map_cons, List.any_cons, ih]
    cases n <;> cases b <;> simp [eqV]
theorem op_notInB {b : Bool} {bs : List Bool} (p : P (.bool (!decide (b ∈ bs)))) : Op2 F R ks (rIn K true) (.bool b) (dB bs) P := fun ms σ H C vx vy _ r hx hy Q q => by
  cases hx
  cases hy with
  | lst h1 h2 =>
    have e := h2.bools
    subst e
    refine ⟨_, _, rfl, .inl (SqL.of (r.ch _ _ h1)), rfl, by rw [List.all_map]; exact List.all_eq_true.mpr fun _ _ => rfl, ?_⟩
    show Q (.bl (!inV (.bl b) (bs.map V.bl))) H
    rw [inV_bools]
    exact q _ H C _ p r (Ex.refl C) (.bl _)
end
/-! ### digits -/
def dig (v : Int) : Nat := 48 + v.toNat
def digS (row : List Int) : Str := ⟨(row.map dig).toArray⟩
theorem tl_digS (row : List Int) : tl (digS row) = row.map dig := rfl
theorem str_dig {v : Int} (h0 : 0 ≤ v) (h9 : v ≤ 9) : (Str.ofString (toString v)) = ⟨#[dig v]⟩ := by
  obtain ⟨n, rfl⟩ : ∃ n : Nat, v = (n : Int) := ⟨v.toNat, by omega⟩
  refine ext_tl ?_
  rw [tl_num, numL_lt (by omega)]
  rfl
theorem joinL_nil : ∀ ps : List (List Nat), joinL [] ps = ps.flatten
  | [] => rfl
  | [p] => by simp [joinL]
  | p :: q :: r => by
    rw [joinL, joinL_nil (q :: r)]
    simp
theorem join_dig (row : List Int) : Txt.join "" (row.map fun v => (⟨#[dig v]⟩ : Str)) = digS row := by
  refine ext_tl ?_
  rw [join_eq, tl_join, show tl ("" : Str) = [] from by rw [tl_ofString]; rfl, joinL_nil, tl_digS, List.map_map]
  induction row with
  | nil => rfl
  | cons v row ih =>
    rw [List.map_cons, List.flatten_cons, List.map_cons, ih]
    rfl
theorem sum_ones (row : List Int) : ((row.map fun v => (⟨#[dig v]⟩ : Str)).map (·.length)).sum = row.length := by
  induction row with
  | nil => rfl
  | cons v row ih =>
    rw [List.map_cons, List.map_cons, List.sum_cons, ih, List.length_cons, Nat.add_comm]
    rfl
theorem digS_len (row : List Int) : (digS row).length = row.length := by
  rw [len_tl, tl_digS, List.length_map]
end DL

namespace DL
open PySem PySem.Spec PyProof.Rows L2 TL
/-! ### more of texts: f'..', text * n, enumerate, range downwards -/
def rMulS : R2 := fun x y H Q => ∃ (z : Str) (i : Int), x = .str z ∧ y = .int i ∧ z.length ≤ 16 ∧ 0 ≤ i ∧ i ≤ 1000 ∧ Q (.str (Txt.mul z i)) H
section
variable {X : Cx} {K : PySem.W.Frag}
theorem op_repS : OpR X (binaryOp .Mult) rMulS := by
  intro pins s σ H x y v u Q I rx ry h
  obtain ⟨z, i, rfl, rfl, hz, h0, h1, q⟩ := h
  obtain ⟨t, rfl⟩ := rx
  obtain ⟨t', rfl⟩ := ry
  exact PySem.W.KXi.mul (n := z.length) rfl hz (by omega) (by omega) fun t2 k _ _ => ⟨.str _, H, I.tok _, ⟨_, rfl⟩, q⟩
theorem k_enum {e : Expr} {ta : TA} {p pos tpos : Pos} {elts : List Expr} {kk : Nat} (hg : Gl X "enumerate") (hm : X.mg "enumerate" = none) (ha : PA X [e] ta) (hs : starEach [e] X.env = [(false, eval e X.env)] := by rfl) (h : X.K = K := by rfl) :
    PI X (.Tuple elts kk tpos) (.Call (.Name "enumerate" p) [e] [] pos) (iEnum K ta) := h ▸ pi_enum hg hm ha hs
def tFS (ts : List TE) : TE := fun σ H Q => tJs ts Str.empty σ H fun out H1 => Q (.str out) H1
theorem k_joined {v1 v2 : Expr} {rest : List Expr} {ts : List TE} {pos : Pos} (h : PJ X (v1 :: v2 :: rest) ts) : PE X (.JoinedStr (v1 :: v2 :: rest) pos) (tFS ts) := pe_joined h
end
section
variable {F : FC} {R : Mem} {ks : List SK} {ta tb tc te to : TE} {P : PyData → Prop} {x y d : PyData} {tA : TA} {K : PySem.W.Frag}
theorem op_mulST {z : Str} {i : Int} (hz : z.length ≤ 16) (h0 : 0 ≤ i) (h1 : i ≤ 1000) (p : P (.str (Txt.mul z i))) : Op2 F R ks rMulS (.str z) (.int i) P := fun ms σ H C vx vy _ r hx hy Q q => by
  cases hx; cases hy
  exact ⟨z, i, rfl, rfl, hz, h0, h1, q _ H C _ p r (Ex.refl C) (.str _)⟩
/-- f'{a}..' : the parts, each data, one behind the other -/
def EvJ (F : FC) (R : Mem) (ks : List SK) : List TE → Str → (Str → Prop) → Prop
  | [], acc, P => P acc
  | t :: ts, acc, P => Ev F R t ks fun x => ∃ y : Str, x = .str y ∧ (acc ++ y).length ≤ 100000 ∧ EvJ F R ks ts (acc ++ y) P
theorem evJ_run : ∀ {ts : List TE} {acc : Str} {PS : Str → Prop}, EvJ F R ks ts acc PS → ∀ ms σ H C, R ⊆ ms → Real F ks ms σ H C → ∀ Q : Str → Hp → Prop, (∀ z H' C', PS z → Real F ks ms σ H' C' → Ex C C' → Q z H') → tJs ts acc σ H Q
  | [], acc, PS, h, ms, σ, H, C, hR, r, Q, q => q acc H C h r (Ex.refl C)
  | t :: ts, acc, PS, h, ms, σ, H, C, hR, r, Q, q => (show Ev F R t ks _ from h) ms σ H C hR r _ fun v H1 C1 x p r1 e1 d1 => by
    obtain ⟨y, rfl, hl, p⟩ := p
    cases d1
    exact ⟨y, rfl, Evl.sz_of hl, evJ_run p ms σ H1 C1 hR r1 Q fun z H' C' pz r' e' => q z H' C' pz r' (e1.trans e')⟩
theorem ev_fs {ts : List TE} (h : EvJ F R ks ts Str.empty fun z => P (.str z)) : Ev F R (tFS ts) ks P := fun ms σ H C hR r Q q =>
  evJ_run h ms σ H C hR r _ fun z H' C' p r' e' => q _ H' C' _ p r' e' (.str z)
theorem ev_fmt (h : Ev F R te ks fun x => (∃ y : Str, x = .str y ∧ y.length ≤ 100000 ∧ P (.str y)) ∨ ∃ i : Int, x = .int i ∧ 0 ≤ i ∧ i ≤ 100000 ∧ P (.str (toString i))) : Ev F R (tFmt te) ks P := fun ms σ H C hR r Q q => h ms σ H C hR r _ fun v H1 C1 x p r1 e1 d1 => by
  rcases p with ⟨y, rfl, hy, p⟩ | ⟨i, rfl, h0, h1, p⟩
  · cases d1
    exact .inl ⟨y, rfl, Evl.sz_of hy, q _ H1 C1 _ p r1 e1 (.str y)⟩
  · cases d1
    exact .inr ⟨i, rfl, log_small h0 h1, q _ H1 C1 _ p r1 e1 (.str _)⟩
theorem ei_range3 {PL : List PyData → Prop} (h : EvA F R tA ks fun xs => ∃ (i j c : Int) (n : Nat), xs = [.int i, .int j, .int c] ∧ RgC i j c n ∧ PL ((List.range n).map fun m => PyData.int (i + (m : Nat) * c))) : EvI F R (iRng3 tA) ks PL := fun ms σ H C hR r Q q => h ms σ H C hR r _ fun vs H1 C1 xs p r1 e1 d1 => by
  obtain ⟨i, j, c, n, rfl, hg, p⟩ := p
  cases d1 with
  | cons h1 h2 =>
    obtain ⟨v, w, rfl, hv, hw⟩ := dn_two h2
    cases h1; cases hv; cases hw
    exact ⟨i, j, c, n, rfl, hg, q _ H1 C1 _ p r1 e1 walkD_rangeC⟩
end
theorem empty_app (z : Str) : Str.empty ++ z = z := ext_tl (by rw [tl_append]; rfl)
theorem tl_cutS (z : Str) (lo hi : Option Int) : tl (cutS z lo hi) = cut (tl z) lo hi := by
  unfold cutS cut
  show ((z.cps.toList.drop _).take _) = (((tl z).drop _).take _)
  rw [← len_tl]
theorem one_sign {c : Nat} (h0 : 48 ≤ c) (h1 : c ≤ 57) : PySem.intText? ⟨#[c]⟩ = some ((c : Int) - 48) := by
  have e := str_dig (v := (c : Int) - 48) (by omega) (by omega)
  have e2 : dig ((c : Int) - 48) = c := by unfold dig; omega
  rw [e2] at e
  rw [← e]
  obtain ⟨n, rfl⟩ : ∃ n : Nat, c = n + 48 := ⟨c - 48, by omega⟩
  have e3 : ((n + 48 : Nat) : Int) - 48 = (n : Int) := by omega
  rw [e3]
  exact int_num (by rw [numL_lt (by omega)]; simp)
theorem in_digits (c : Nat) : decide (c ∈ ("0123456789" : Str).cps.toList) = (decide (48 ≤ c) && decide (c ≤ 57)) := by
  have e : ("0123456789" : Str).cps.toList = [48, 49, 50, 51, 52, 53, 54, 55, 56, 57] := by
    show tl ("0123456789" : Str) = _
    rw [tl_ofString]
    decide
  rw [e]
  rw [Bool.eq_iff_iff]
  simp only [List.mem_cons, List.not_mem_nil, or_false, decide_eq_true_eq, Bool.and_eq_true]
  omega
/-- ''.join([str(value) for value in ..]) of digits -/
theorem om_digs {F : FC} {R : Mem} {ks : List SK} {P : PyData → Prop} {K : PySem.W.Frag} {row : List Int} (hn : row.length ≤ 50000) (p : P (.str (digS row))) : OpM F R ks (rJoin K) (.str "") [.list (row.map fun v => PyData.str ⟨#[dig v]⟩)] P := by
  rw [show (PyData.list (row.map fun v => PyData.str ⟨#[dig v]⟩)) = dS (row.map fun v => (⟨#[dig v]⟩ : Str)) by unfold dS; rw [List.map_map]; rfl]
  refine om_join (by rw [sum_ones, List.length_map]; show _ + _ * 0 ≤ _; omega) ?_
  rw [join_dig]
  exact p
end DL

namespace DL
open PySem PySem.Spec PyProof.Rows L2
/-! ### a dict whose keys are pairs of a whole number and a tuple of truth values -/
abbrev kd (p : Int) (bs : List Bool) : PyData := .tuple [.int p, dTB bs]
def kk (p : Int) (bs : List Bool) : NestedKey := .tup [.num p, .tup (bs.map fun b => .num (if b = true then 1 else 0))]
theorem nums_inj : ∀ {a b : List Bool}, (a.map fun b => NestedKey.num (if b = true then 1 else 0)) = (b.map fun b => NestedKey.num (if b = true then 1 else 0)) → a = b
  | [], [], _ => rfl
  | [], _ :: _, h => by cases h
  | _ :: _, [], h => by cases h
  | x :: a, y :: b, h => by
    rw [List.map_cons, List.map_cons] at h
    injection h with h1 h2
    injection h1 with h1
    rw [nums_inj h2]
    cases x <;> cases y <;> first | rfl | (simp at h1)
theorem kk_inj {p q : Int} {bs cs : List Bool} (h : kk p bs = kk q cs) : p = q ∧ bs = cs := by
  unfold kk at h
  injection h with h
  injection h with h1 h2
  injection h1 with h1
  injection h2 with h2 _
  injection h2 with h2
  exact ⟨h1, nums_inj h2⟩
theorem nums_depth : ∀ bs : List Bool, NestedKey.depthAll (bs.map fun b => NestedKey.num (if b = true then 1 else 0)) ≤ 1
  | [] => by simp [NestedKey.depthAll]
  | b :: bs => by
    have := nums_depth bs
    rw [List.map_cons]
    simp only [NestedKey.depthAll, NestedKey.depth]
    omega
theorem nested_nums {h : Heap} : ∀ {bs : List Bool} {us : List Value}, Vals (bs.map V.bl) us → NestedAll h (bs.map fun b => NestedKey.num (if b = true then 1 else 0)) us
  | [], _, r => by cases r; exact .nil
  | b :: bs, _, r => by
    cases r with
    | cons r1 r2 =>
      cases (show _ = Value.bool b from r1)
      exact .cons (.bool rfl) (nested_nums r2)
theorem nk_is {P : Program} {w : World} {H : Hp} {h : Heap} (ok : HOk P w H h) {t : Addr} {p : Int} {bs : List Bool} (hd : Dn H (.ref t) (kd p bs)) : (nestedKind P w).is h (kk p bs) t := by
  refine ⟨?_, ?_⟩
  · cases hd with
    | @tup _ xs _ h1 h2 =>
      obtain ⟨v, u, rfl, hv, hu⟩ := dn_two h2
      cases hv
      cases hu with
      | @tup t2 ys _ g1 g2 =>
        have e := g2.bools
        subst e
        obtain ⟨_, its, r, o, i1, i2, n, i3⟩ := (show ObjOk P w H h t (.tup [.int p, .ref t2]) from ok t _ h1)
        obtain ⟨_, its2, r2, o2, j1, j2, n2, j3⟩ := (show ObjOk P w H h t2 (.tup (bs.map V.bl)) from ok t2 _ g1)
        refine .tup i1 i2 i3 ?_
        cases r with
        | cons ra rb =>
          cases rb with
          | cons rb rc =>
            cases rc
            obtain ⟨tk, rfl⟩ := ra
            cases (show _ = Value.ref t2 from rb)
            exact .cons (.int p tk) (.cons (.tup j1 j2 j3 (by simpa using nested_nums r2)) .nil)
  · have := nums_depth bs
    unfold kk
    simp only [NestedKey.depth, NestedKey.depthAll]
    omega
/-- the dict at a: what it holds (S), which addresses stand for its keys (T) -/
def NdO (P : Program) (w : World) (a : Addr) (S : NestedKey → Option V) (T : NestedKey → Addr → Prop) : HO := .ext fun h => (a == sysModules) = false ∧ ∃ xs : List (NestedKey × Addr × Value), (∀ k, RelO (S k) ((atKey xs k).map (·.2))) ∧ (∀ x ∈ xs, T x.1 x.2.1) ∧
  ∃ o es ep, h.get? a = some o ∧ o.ExactDict ∧ o.data = .dict es ep ∧ es.toList = xs.map (entryOfKey (nestedKind P w)) ∧ (xs.map (·.1)).Nodup
theorem ndO_mk {P : Program} {w : World} {H : Hp} {h : Heap} {a : Addr} {S : NestedKey → Option V} {T : NestedKey → Addr → Prop} {xs : List (NestedKey × Addr × Value)} (hs : (a == sysModules) = false) (hv : ∀ k, RelO (S k) ((atKey xs k).map (·.2))) (ht : ∀ x ∈ xs, T x.1 x.2.1)
    (hd : h.DictOfH (nestedKind P w) a xs) : ObjOk P w H h a (NdO P w a S T) := by
  obtain ⟨o, es, ep, h1, h2, h3, h4, _, h5⟩ := hd
  exact ⟨⟨hs, xs, hv, ht, o, es, ep, h1, h2, h3, h4, h5⟩, ⟨o, h1⟩, fun g1 g2 ⟨q0, ys, q1, q2, o', es', ep', e1, e2⟩ k => ⟨q0, ys, q1, q2, o', es', ep', k _ e1, e2⟩⟩
/-- the keys' tuples stand -/
def KeysIn (C : Hp) (T : NestedKey → Addr → Prop) : Prop := ∀ k t, T k t → ∃ p bs, k = kk p bs ∧ Dn C (.ref t) (kd p bs)
theorem KeysIn.up {C C' : Hp} {T : NestedKey → Addr → Prop} (h : KeysIn C T) (e : Ex C C') : KeysIn C' T := fun k t q => by
  obtain ⟨p, bs, e1, d⟩ := h k t q
  exact ⟨p, bs, e1, d.up e⟩
section
variable {X : Cx} {pins : List (Addr × Obj)} {σ : L2.St} {H : Hp} {s : Shared} {a t : Addr} {S : NestedKey → Option V} {T : NestedKey → Addr → Prop} {p : Int} {bs : List Bool}
theorem nd_at (I : L2.Inv X pins σ H s) (ha : H a = some (NdO X.prog X.w a S T)) (hT : KeysIn H T) : (a == sysModules) = false ∧ ∃ xs : List (NestedKey × Addr × Value), (∀ k, RelO (S k) ((atKey xs k).map (·.2))) ∧ (∀ x ∈ xs, T x.1 x.2.1) ∧ s.heap.DictOfH (nestedKind X.prog X.w) a xs := by
  obtain ⟨⟨q0, xs, q1, q2, o, es, ep, h1, h2, h3, h4, h5⟩, _⟩ := (show ObjOk X.prog X.w H s.heap a (NdO X.prog X.w a S T) from I.hok a _ ha)
  refine ⟨q0, xs, q1, q2, o, es, ep, h1, h2, h3, h4, fun x hx => ?_, h5⟩
  obtain ⟨p, bs, e, d⟩ := hT _ _ (q2 x hx)
  rw [e]
  exact nk_is I.hok d
/-- what a look at the dict at a needs: the key y -/
def NdAt (P : Program) (w : World) (H : Hp) (x y : V) (a : Addr) (S : NestedKey → Option V) (T : NestedKey → Addr → Prop) (p : Int) (bs : List Bool) : Prop := x = .ref a ∧ H a = some (NdO P w a S T) ∧ KeysIn H T ∧ ∃ t, y = .ref t ∧ Dn H (.ref t) (kd p bs)
def rNNot (P : Program) (w : World) : R2 := fun y x H Q => ∃ a S T p bs, NdAt P w H x y a S T p bs ∧ Q (.bl (!(S (kk p bs)).isSome)) H
theorem op_nnot (hu : X.A.units + 64 < cLine) : OpR X (compareOp .NotIn) (rNNot X.prog X.w) := by
  intro pins s σ H y x u v Q I ry rx h
  obtain ⟨a, S, T, p, bs, ⟨rfl, ha, hT, t, rfl, hd⟩, q⟩ := h
  cases (show v = Value.ref a from rx)
  cases (show u = Value.ref t from ry)
  obtain ⟨q0, xs, q1, q2, dd⟩ := nd_at I ha hT
  refine wpAny_notIn_heap (knd := nestedKind X.prog X.w) (by show X.A.units + 1 + 8 < cLine; omega) (nk_is I.hok hd) q0 dd ?_
  have e := (q1 (kk p bs)).isSome_eq
  rw [Option.isSome_map] at e
  rw [← e]
  exact ⟨.bl _, H, I.tok _, rfl, q⟩
def tNGet (P : Program) (w : World) (td ty : TE) : TE := fun σ H Q => td σ H fun x H1 => ty σ H1 fun y H2 => ∃ a S T p bs v, NdAt P w H2 x y a S T p bs ∧ S (kk p bs) = some v ∧ Q v H2
theorem pe_nget {o i : Expr} {pos : Pos} {td ty : TE} (hu : X.A.units + 64 < cLine) (ho : PE X o td) (hi : PE X i ty) (hn : NoSl i) : PE X (.Subscript o i pos) (tNGet X.prog X.w td ty) := by
  constructor
  intro pins s σ H Q I h
  refine subD_of PySem.F.slot_dict_getitem.lookup hn (thn (ho.run pins s σ H _ I h) fun u s1 q1 => ?_)
  obtain ⟨x, H1, I1, rx, q1⟩ := q1
  refine thn (hi.run pins s1 σ H1 _ I1 q1) fun iv s2 q2 => ?_
  obtain ⟨y, H2, I2, ry, a, S, T, p, bs, v, ⟨rfl, ha, hT, t, rfl, hd⟩, hv, q⟩ := q2
  cases (show u = Value.ref a from rx)
  cases (show iv = Value.ref t from ry)
  obtain ⟨q0, xs, q1, q2, dd⟩ := nd_at I2 ha hT
  have e := q1 (kk p bs)
  rw [hv] at e
  cases e2 : atKey xs (kk p bs) with
  | none => rw [e2] at e; exact e.elim
  | some z =>
    rw [e2] at e
    exact ⟨dd.typeIs, wpAny_getItem_heap (knd := nestedKind X.prog X.w) (by show X.A.units + 1 + 8 < cLine; omega) (nk_is I2.hok hd) dd e2 ⟨v, H2, I2.tok _, e, q⟩⟩
def sNPut (P : Program) (w : World) (td ty tv : TE) : TS := fun D σ H => tv σ H fun v H1 => td σ H1 fun x H2 => ty σ H2 fun y H3 => ∃ a S T p bs t, y = .ref t ∧ NdAt P w H3 x y a S T p bs ∧ (∃ L : List NestedKey, L.length < 1000000 ∧ ∀ k, (S k).isSome = true → k ∈ L) ∧
  D.nx σ (upd H3 a (NdO P w a (fun k => if k = kk p bs then some v else S k) (fun k b => T k b ∨ (k = kk p bs ∧ b = t))))
theorem nodup_short {α : Type} [DecidableEq α] : ∀ {a b : List α}, a.Nodup → (∀ x ∈ a, x ∈ b) → a.length ≤ b.length
  | [], b, _, _ => Nat.zero_le _
  | x :: a, b, hn, hs => by
    obtain ⟨h1, h2⟩ := List.nodup_cons.mp hn
    have hx := hs x List.mem_cons_self
    have ih := nodup_short (a := a) (b := b.erase x) h2 fun y hy => (List.mem_erase_of_ne (fun z => h1 (by rw [← z]; exact hy))).mpr (hs y (List.mem_cons_of_mem _ hy))
    rw [List.length_erase_of_mem hx] at ih
    have := List.length_pos_of_mem hx
    rw [List.length_cons]
    omega
theorem find_app {α : Type} {q : α → Bool} {l : List α} {x : α} (h : l.find? q = none) : (l ++ [x]).find? q = if q x then some x else none := by
  rw [List.find?_append, h]
  cases e : q x <;> simp [List.find?_cons, e]
theorem atKey_stored {xs : List (NestedKey × Addr × Value)} {k j : NestedKey} {a : Addr} {v : Value} : (atKey (storedH xs k a v) j).map (·.2) = if j = k then some v else (atKey xs j).map (·.2) := by
  unfold storedH
  by_cases h : (atKey xs k).isSome = true
  · rw [if_pos h]
    clear a
    induction xs with
    | nil => simp [atKey] at h
    | cons x xs ih =>
      unfold atKey at h ih ⊢
      rw [List.map_cons, List.find?_cons, List.find?_cons] at *
      by_cases hx : x.1 = k
      · by_cases hj : j = k
        · subst hj
          simp [putAt, hx]
        · have h1 : ¬ x.1 = j := fun z => hj (by rw [← z, hx])
          simp only [putAt, hx, if_true]
          have h2 : ¬ k = j := fun z => hj z.symm
          simp only [h2, decide_false, hj, if_false]
          have e : (xs.map (putAt k v)).find? (fun y => decide (y.1 = j)) = (xs.find? fun y => decide (y.1 = j)) := by
            clear ih h
            induction xs with
            | nil => rfl
            | cons y xs ih2 =>
              rw [List.map_cons, List.find?_cons, List.find?_cons, ih2]
              by_cases hy : y.1 = k
              · simp [putAt, hy, h2]
              · simp [putAt, hy]
          simp only [e]
      · simp only [hx, decide_false] at h
        have hp : putAt k v x = x := by simp [putAt, hx]
        rw [hp]
        by_cases hj : x.1 = j
        · have : ¬ j = k := fun z => hx (by rw [hj, z])
          simp [hj, this]
        · simp only [hj, decide_false]
          exact ih h
  · rw [if_neg h]
    have hn : xs.find? (fun x => decide (x.1 = k)) = none := by
      unfold atKey at h
      cases e : xs.find? (fun x => decide (x.1 = k)) with
      | none => rfl
      | some z => rw [e] at h; simp at h
    unfold atKey
    by_cases hj : j = k
    · subst hj
      rw [find_app hn]
      simp
    · rw [if_neg hj, List.find?_append]
      cases e : xs.find? (fun x => decide (x.1 = j)) with
      | some z => rfl
      | none =>
        have : ¬ k = j := fun z => hj z.symm
        simp [List.find?_cons, this]
theorem mem_stored {xs : List (NestedKey × Addr × Value)} {k : NestedKey} {a : Addr} {v : Value} {x : NestedKey × Addr × Value} (hx : x ∈ storedH xs k a v) : (∃ y ∈ xs, y.1 = x.1 ∧ y.2.1 = x.2.1) ∨ (x.1 = k ∧ x.2.1 = a) := by
  unfold storedH at hx
  split at hx
  · obtain ⟨y, hy, rfl⟩ := List.mem_map.mp hx
    refine .inl ⟨y, hy, ?_⟩
    unfold putAt
    split <;> exact ⟨rfl, rfl⟩
  · rcases List.mem_append.mp hx with hx | hx
    · exact .inl ⟨x, hx, rfl, rfl⟩
    · have := List.mem_singleton.mp hx
      subst this
      exact .inr ⟨rfl, rfl⟩
theorem ps_nput {o i value : Expr} {pos pos' : Pos} {td ty tv : TE} (hu : X.A.units + 64 < cLine) (ho : PE X o td) (hi : PE X i ty) (hv : PE X value tv) (hs : swapsWith value (some (.Subscript o i pos')) pos.line X.env = pure false) :
    PS X (.Assign [.Subscript o i pos'] value pos) (sNPut X.prog X.w td ty tv) := by
  constructor
  intro pins s σ H D I h
  refine wpAny_Assign_Subscript (thn (hv.run pins s σ H _ I h) fun r s1 q1 => ?_) hs
  obtain ⟨v, H1, I1, rv, q1⟩ := q1
  refine thn (ho.run pins s1 σ H1 _ I1 q1) fun u s2 q2 => ?_
  obtain ⟨x, H2, I2, rx, q2⟩ := q2
  refine thn (hi.run pins s2 σ H2 _ I2 q2) fun iv s3 q3 => ?_
  obtain ⟨y, H3, I3, ry, a, S, T, p, bs, t, rfl, ⟨rfl, ha, hT, t', et, hd⟩, ⟨L, hL, hm⟩, q⟩ := q3
  cases et
  cases (show u = Value.ref a from rx)
  cases (show iv = Value.ref t from ry)
  obtain ⟨q0, xs, g1, g2, dd⟩ := nd_at I3 ha hT
  have hz : xs.length ≤ 1000000 := by
    have hn : (xs.map (·.1)).Nodup := by obtain ⟨_, _, _, _, _, _, _, _, z⟩ := dd; exact z
    have := nodup_short hn (b := L) fun k hk => by
      obtain ⟨z, hz, rfl⟩ := List.mem_map.mp hk
      refine hm _ ?_
      obtain ⟨j, hj⟩ := List.mem_iff_getElem?.mp hz
      have e := (g1 z.1).isSome_eq
      rw [Option.isSome_map, atKey_of_get hn (k := z.1) (p := z.2) hj] at e
      exact e
    rw [List.length_map] at this
    omega
  refine wpAny_setItem_heap (knd := nestedKind X.prog X.w) (hsz := by rw [sizeLine_eq]; omega) (by show X.A.units + 1 + 8 < cLine; omega) (nk_is I3.hok hd) dd fun h' dd' hsb => ?_
  have he : ∃ ob, h'.get? a = some ob := let ⟨ob, _, _, hq, _⟩ := dd'; ⟨ob, hq⟩
  refine ⟨σ, _, d_write I3 (by rw [ha]; exact True.intro) hsb he (ndO_mk q0 (fun k => ?_) (fun z hz => ?_) dd'), q⟩
  · rw [atKey_stored]
    by_cases hk : k = kk p bs
    · rw [if_pos hk, if_pos hk]
      exact rv
    · rw [if_neg hk, if_neg hk]
      exact g1 k
  · rcases mem_stored hz with ⟨y, hy, e1, e2⟩ | ⟨e1, e2⟩
    · rw [← e1, ← e2]
      exact .inl (g2 y hy)
    · exact .inr ⟨e1, e2⟩
def tNNew (P : Program) (w : World) : TE := fun _ H Q => ∀ l, H l = none → Q (.ref l) (upd H l (NdO P w l (fun _ => none) fun _ _ => False))
theorem pe_nnew {pos : Pos} : PE X (.Dict [] [] pos) (tNNew X.prog X.w) := by
  constructor
  intro pins s σ H Q I h
  have hb : (s.heap.objs.size == sysModules) = false := beq_eq_false_iff_ne.mpr (Ne.symm (Nat.ne_of_lt I.big))
  refine wpAny_Dict_empty ⟨.ref s.heap.objs.size, _, I.laid (o := NdO X.prog X.w s.heap.objs.size (fun _ => none) fun _ _ => False) (t' := s.toks) (fun _ _ q => Heap.get?_push_of_some _ q) (Nat.le_refl _) ?_, rfl, h _ (I.hok.fresh (Nat.le_refl _))⟩
  exact ndO_mk (xs := []) hb (fun k => True.intro) (fun x hx => nomatch hx) (Heap.DictOfH.new s.heap)
theorem k_nnot {P : Program} {w : World} (hu : X.A.units + 64 < cLine) (h1 : X.prog = P := by rfl) (h2 : X.w = w := by rfl) : OpR X (compareOp .NotIn) (rNNot P w) := h1 ▸ h2 ▸ op_nnot hu
theorem k_nget {P : Program} {w : World} {o i : Expr} {pos : Pos} {td ty : TE} (hu : X.A.units + 64 < cLine) (ho : PE X o td) (hi : PE X i ty) (hn : NoSl i) (h1 : X.prog = P := by rfl) (h2 : X.w = w := by rfl) : PE X (.Subscript o i pos) (tNGet P w td ty) := h1 ▸ h2 ▸ pe_nget hu ho hi hn
theorem k_nput {P : Program} {w : World} {o i value : Expr} {pos pos' : Pos} {td ty tv : TE} (hu : X.A.units + 64 < cLine) (ho : PE X o td) (hi : PE X i ty) (hv : PE X value tv) (hs : swapsWith value (some (.Subscript o i pos')) pos.line X.env = pure false) (h1 : X.prog = P := by rfl) (h2 : X.w = w := by rfl) :
    PS X (.Assign [.Subscript o i pos'] value pos) (sNPut P w td ty tv) := h1 ▸ h2 ▸ ps_nput hu ho hi hv hs
theorem k_nnew {P : Program} {w : World} {pos : Pos} (h1 : X.prog = P := by rfl) (h2 : X.w = w := by rfl) : PE X (.Dict [] [] pos) (tNNew P w) := h1 ▸ h2 ▸ pe_nnew
end
end DL

namespace DL
open PySem PySem.Spec L2
/-! ### a table of known answers -/
def KnQ (P : Program) (w : World) (l : Addr) (Wf : Nat → List Bool → Int) : Hp → HO → Prop := fun C o => ∃ S T, o = NdO P w l S T ∧ KeysIn C T ∧ ∀ k v, S k = some v → ∃ (p : Nat) (bs : List Bool), k = kk p bs ∧ v = .int (Wf p bs) ∧ p ≤ 12 ∧ bs.length ≤ 12
/-- .. that has an answer for p, bs -/
def KnHas (P : Program) (w : World) (l : Addr) (Wf : Nat → List Bool → Int) (p : Nat) (bs : List Bool) : Hp → HO → Prop := fun C o => ∃ S T, o = NdO P w l S T ∧ KeysIn C T ∧ (∀ k v, S k = some v → ∃ (p : Nat) (bs : List Bool), k = kk p bs ∧ v = .int (Wf p bs) ∧ p ≤ 12 ∧ bs.length ≤ 12) ∧ (S (kk p bs)).isSome = true
section
variable {P : Program} {w : World} {l : Addr} {Wf : Nat → List Bool → Int} {p : Nat} {bs : List Bool}
theorem knQ_up : ∀ C C' o, Ex C C' → KnQ P w l Wf C o → KnQ P w l Wf C' o := fun C C' o e ⟨S, T, h1, h2, h3⟩ => ⟨S, T, h1, h2.up e, h3⟩
theorem knHas_up : ∀ C C' o, Ex C C' → KnHas P w l Wf p bs C o → KnHas P w l Wf p bs C' o := fun C C' o e ⟨S, T, h1, h2, h3⟩ => ⟨S, T, h1, h2.up e, h3⟩
theorem knHas_weak : Weak (.g (KnHas P w l Wf p bs)) (.g (KnQ P w l Wf)) := fun C H a h => by
  obtain ⟨_, o, e, S, T, h1, h2, h3, _⟩ := h
  exact ⟨knQ_up, o, e, S, T, h1, h2, h3⟩
end
def allB : Nat → List (List Bool)
  | 0 => [[]]
  | n + 1 => (allB n).flatMap fun l => [true :: l, false :: l]
theorem allB_len : ∀ n, (allB n).length = 2 ^ n
  | 0 => rfl
  | n + 1 => by
    unfold allB
    have h : ∀ xs : List (List Bool), (xs.flatMap fun l => [true :: l, false :: l]).length = 2 * xs.length := fun xs => by
      induction xs with
      | nil => rfl
      | cons x xs ih => rw [List.flatMap_cons, List.length_append, ih, List.length_cons, List.length_cons]; simp; omega
    rw [h, allB_len n, Nat.pow_succ, Nat.mul_comm]
theorem mem_allB : ∀ bs : List Bool, bs ∈ allB bs.length
  | [] => List.mem_cons_self
  | b :: bs => by
    show b :: bs ∈ (allB bs.length).flatMap fun l => [true :: l, false :: l]
    refine List.mem_flatMap.mpr ⟨bs, mem_allB bs, ?_⟩
    cases b <;> simp
def allK : List NestedKey := (List.range 13).flatMap fun p => (List.range 13).flatMap fun n => (allB n).map (kk (p : Nat))
theorem allK_len : allK.length < 1000000 := by
  unfold allK
  have h : ∀ p : Nat, ((List.range 13).flatMap fun n => (allB n).map (kk (p : Nat))).length = 8191 := fun p => by
    rw [List.length_flatMap]
    simp only [List.length_map, allB_len]
    decide
  rw [List.length_flatMap]
  simp only [h]
  decide
theorem mem_allK {p : Nat} {bs : List Bool} (hp : p ≤ 12) (hb : bs.length ≤ 12) : kk p bs ∈ allK :=
  List.mem_flatMap.mpr ⟨p, List.mem_range.mpr (by omega), List.mem_flatMap.mpr ⟨bs.length, List.mem_range.mpr (by omega), List.mem_map.mpr ⟨bs, mem_allB bs, rfl⟩⟩⟩
section
variable {F : FC} {ks : List SK} {ms : Mem} {σ : L2.St} {H C : Hp}
/-- an object by a general word, changed -/
theorem Real.setG (r : Real F ks ms σ H C) {l : Addr} {m0 m1 : MO} {o : HO} (hl : (l, m0) ∈ ms) (hm : MOk C (upd H l o) l m1) (hw : ∀ m, (l, m) ∈ F.dw → Weak m1 m) : Real F ks (DL.setM ms l m1) σ (upd H l o) C where
  len := r.len
  slot := r.slot
  sub := fun a u e => by
    obtain ⟨h1, h2⟩ := r.sub a u e
    have : a ≠ l := fun z => by rw [z, (r.mo l m0 hl).1] at e; cases e
    exact ⟨by rw [upd_ne this]; exact h1, h2⟩
  c0 := r.c0
  keep := fun a u e f => by
    have : a ≠ l := fun z => by
      rcases (r.mo l m0 hl).2.2 with q | q
      · rw [z, q] at e; cases e
      · exact f (by rw [z]; exact q)
    rw [upd_ne this]
    exact r.keep a u e f
  fxm := fun p h => by
    by_cases hp : p.1 = l
    · obtain ⟨a, m⟩ := p
      have hp : a = l := hp
      subst hp
      exact ⟨m1, List.mem_map.mpr ⟨_, hl, by rw [if_pos rfl]⟩, hw m h⟩
    · obtain ⟨m', a, b⟩ := r.fxm p h
      exact ⟨m', List.mem_map.mpr ⟨_, a, by rw [if_neg hp]⟩, b⟩
  mo := fun a m' h => by
    rcases mem_setM h with ⟨rfl, rfl⟩ | ⟨h1, h2⟩
    · exact ⟨(r.mo a m0 hl).1, hm, (r.mo a m0 hl).2.2⟩
    · obtain ⟨q1, q2, q3⟩ := r.mo a m' h2
      exact ⟨q1, q2.up (Ex.refl C) fun u e => by rw [upd_ne h1]; exact e, q3⟩
  nd := by rw [setM_fst]; exact r.nd
/-- an object told better -/
theorem Real.better (r : Real F ks ms σ H C) {l : Addr} {m0 m1 : MO} (hl : (l, m0) ∈ ms) (hm : MOk C H l m1) (hw : ∀ m, (l, m) ∈ F.dw → Weak m1 m) : Real F ks (DL.setM ms l m1) σ H C where
  len := r.len
  slot := r.slot
  sub := r.sub
  c0 := r.c0
  keep := r.keep
  fxm := fun p h => by
    by_cases hp : p.1 = l
    · obtain ⟨a, m⟩ := p
      have hp : a = l := hp
      subst hp
      exact ⟨m1, List.mem_map.mpr ⟨_, hl, by rw [if_pos rfl]⟩, hw m h⟩
    · obtain ⟨m', a, b⟩ := r.fxm p h
      exact ⟨m', List.mem_map.mpr ⟨_, a, by rw [if_neg hp]⟩, b⟩
  mo := fun a m' h => by
    rcases mem_setM h with ⟨rfl, rfl⟩ | ⟨h1, h2⟩
    · exact ⟨(r.mo a m0 hl).1, hm, (r.mo a m0 hl).2.2⟩
    · exact r.mo a m' h2
  nd := by rw [setM_fst]; exact r.nd
/-- behind a call that may change the object at l -/
theorem Real.turn {H' C' : Hp} (r : Real F ks ms σ H C) {l : Addr} {m : MO} (hl : (l, m) ∈ ms) (kp : ∀ a o, H a = some o → a ≠ l → H' a = some o) (hd : MOk C' H' l m) (eC : Ex C C')
    (hc : ∀ a o, C' a = some o → H' a = some o ∧ (C a = some o ∨ H a = none)) : Real F ks ms σ H' C' where
  len := r.len
  slot := fun i k h => (r.slot i k h).up eC
  sub := fun a o e => by
    obtain ⟨q1, q2⟩ := hc a o e
    refine ⟨q1, ?_⟩
    rcases q2 with q2 | q2
    · exact (r.sub a o q2).2
    · exact .inr (r.old q2)
  c0 := r.c0.trans eC
  keep := fun a o e f => by
    refine kp a o (r.keep a o e f) (fun z => ?_)
    subst z
    rcases (r.mo a _ hl).2.2 with q | q
    · rw [q] at e; cases e
    · exact f q
  fxm := r.fxm
  mo := fun a m' h => by
    obtain ⟨q1, q2, q3⟩ := r.mo a m' h
    refine ⟨?_, ?_, q3⟩
    · cases q : C' a with
      | none => rfl
      | some o =>
        obtain ⟨o', e⟩ := q2.there
        rcases (hc a o q).2 with z | z
        · rw [q1] at z; cases z
        · rw [e] at z; cases z
    · by_cases e1 : a = l
      · subst e1
        have := nd_inj r.nd h hl
        subst this
        exact hd
      · exact q2.up eC fun o e => kp a o e e1
  nd := r.nd
end
/-- f(data .., known) -/
def SpKn (P : Program) (w : World) (Rl : List PyData → (Nat → List Bool → Int) → PyData → Prop) : Sp := fun vs H Q E => ∃ C ds l vs' Wf d, vs = vs' ++ [.ref l] ∧ Ex C H ∧ C l = none ∧ MOk C H l (.g (KnQ P w l Wf)) ∧ DnAll C vs' ds ∧ Rl ds Wf d ∧
  ∀ v H' C', (∀ a o, H a = some o → a ≠ l → H' a = some o) → MOk C' H' l (.g (KnQ P w l Wf)) → Ex C C' → (∀ a o, C' a = some o → H' a = some o ∧ (C a = some o ∨ H a = none)) → Dn C' v d → Q v H'
def EvK (F : FC) (R : Mem) (ta : TA) (ks : List SK) (l : Addr) (Pd : List PyData → Prop) : Prop := ∀ ms σ H C, R ⊆ ms → Real F ks ms σ H C → ∀ Q : List V → Hp → Prop, (∀ vs H' C' ds, Pd ds → Real F ks ms σ H' C' → Ex C C' → DnAll C' vs ds → Q (vs ++ [.ref l]) H') → ta σ H Q
def EvN (P : Program) (w : World) (F : FC) (R : Mem) (ta : TA) (ks : List SK) (Pd : List PyData → Prop) : Prop := ∀ ms σ H C, R ⊆ ms → Real F ks ms σ H C → ∀ Q : List V → Hp → Prop,
  (∀ vs H' C' ds l, Pd ds → Real F ks ms σ H' C' → Ex C C' → DnAll C' vs ds → H' l = none → Q (vs ++ [.ref l]) (upd H' l (NdO P w l (fun _ => none) fun _ _ => False))) → ta σ H Q
section
variable {P : Program} {w : World} {F : FC} {R : Mem} {ks : List SK} {te : TE} {tr tA : TA} {Pd : List PyData → Prop} {Pr : PyData → Prop} {l : Addr} {Rl : List PyData → (Nat → List Bool → Int) → PyData → Prop} {Wf : Nat → List Bool → Int}
theorem ek_last {i : Nat} (hi : ks[i]? = some (.v (.ref l))) (p : Pd []) : EvK F R (tCons (tVar i) tNil) ks l Pd := fun ms σ H C hR r Q q => ⟨_, r.slot i _ hi, q [] H C [] p r (Ex.refl C) .nil⟩
theorem ek_cons (h : Ev F R te ks fun x => EvK F R tr ks l fun xs => Pd (x :: xs)) : EvK F R (tCons te tr) ks l Pd := fun ms σ H C hR r Q q =>
  h ms σ H C hR r _ fun v1 H1 C1 x p1 r1 e1 d1 => p1 ms σ H1 C1 hR r1 _ fun vs H2 C2 xs p2 r2 e2 d2 => q (v1 :: vs) H2 C2 _ p2 r2 (e1.trans e2) (.cons (d1.up e2) d2)
theorem en_last (p : Pd []) : EvN P w F R (tCons (tNNew P w) tNil) ks Pd := fun ms σ H C hR r Q q a ha => q [] H C [] a p r (Ex.refl C) .nil ha
theorem en_cons (h : Ev F R te ks fun x => EvN P w F R tr ks fun xs => Pd (x :: xs)) : EvN P w F R (tCons te tr) ks Pd := fun ms σ H C hR r Q q =>
  h ms σ H C hR r _ fun v1 H1 C1 x p1 r1 e1 d1 => p1 ms σ H1 C1 hR r1 _ fun vs H2 C2 xs a p2 r2 e2 d2 ha => q (v1 :: vs) H2 C2 _ a p2 r2 (e1.trans e2) (.cons (d1.up e2) d2) ha
theorem ev_callKn {E : XK} (hl : (l, MO.g (KnQ P w l Wf)) ∈ R) (h : EvK F R tA ks l fun ds => ∃ d, Rl ds Wf d ∧ Pr d) : Ev F R (tCall (SpKn P w Rl) [] E tA) ks Pr := fun ms σ H C hR r Q q => h ms σ H C hR r _ fun vs H1 C1 ds p r1 e1 d1 => by
  obtain ⟨d, hd, p⟩ := p
  show SpKn P w Rl (vs ++ [.ref l] ++ []) H1 Q E
  rw [List.append_nil]
  refine ⟨C1, ds, l, vs, Wf, d, rfl, r1.ch, (r1.mo _ _ (hR hl)).1, (r1.mo _ _ (hR hl)).2.1, d1, hd, fun v H' C' kp hm eC hc dv => ?_⟩
  exact q v H' C' d p (r1.turn (hR hl) kp hm eC hc) (e1.trans eC) dv
theorem kn_new {H C : Hp} : MOk C (upd H l (NdO P w l (fun _ => none) fun _ _ => False)) l (.g (KnQ P w l Wf)) := ⟨knQ_up, _, upd_same, _, _, rfl, fun _ _ z => z.elim, fun _ _ z => nomatch z⟩
theorem ev_callKn0 {E : XK} (h : EvN P w F R tA ks fun ds => ∃ Wf d, Rl ds Wf d ∧ Pr d) : Ev F R (tCall (SpKn P w Rl) [] E tA) ks Pr := fun ms σ H C hR r Q q => h ms σ H C hR r _ fun vs H1 C1 ds a p r1 e1 d1 ha => by
  obtain ⟨Wf, d, hd, p⟩ := p
  show SpKn P w Rl (vs ++ [.ref a] ++ []) _ Q E
  rw [List.append_nil]
  have x1 : Ex H1 (upd H1 a (NdO P w a (fun _ => none) fun _ _ => False)) := Ex.new ha
  refine ⟨C1, ds, a, vs, Wf, d, rfl, r1.ch.trans x1, r1.ch.free ha, kn_new, d1, hd, fun v H' C' kp hm eC hc dv => ?_⟩
  have eH : Ex H1 H' := fun b o e => kp b o (x1 _ _ e) fun z => by rw [z, ha] at e; cases e
  refine q v H' C' d p (r1.grow eH eC fun b o e => ?_) (e1.trans eC) dv
  obtain ⟨h1, h2⟩ := hc b o e
  refine ⟨h1, h2.imp id fun z => ?_⟩
  cases e2 : H1 b with
  | none => rfl
  | some o2 => rw [x1 _ _ e2] at z; cases z
/-- known[p, bs] -/
theorem ev_nget {i p : Nat} {bs : List Bool} (hi : ks[i]? = some (.v (.ref l))) (hl : (l, MO.g (KnHas P w l Wf p bs)) ∈ R) (h : Ev F R te ks fun y => y = kd p bs ∧ Pr (.int (Wf p bs))) : Ev F R (tNGet P w (tVar i) te) ks Pr := fun ms σ H C hR r Q q => by
  refine ⟨_, r.slot i _ hi, h ms σ H C hR r _ fun v H1 C1 x p1 r1 e1 d1 => ?_⟩
  obtain ⟨rfl, p1⟩ := p1
  obtain ⟨_, ⟨_, o, ho, S, T, rfl, h2, h3, h4⟩, _⟩ := r1.mo _ _ (hR hl)
  obtain ⟨z, hz⟩ := Option.isSome_iff_exists.mp h4
  obtain ⟨p', bs', e, rfl, _, _⟩ := h3 _ _ hz
  obtain ⟨e3, e4⟩ := kk_inj e
  have e3 : p = p' := by omega
  subst e3 e4
  cases d1 with
  | @tup t xs _ g1 g2 =>
    exact ⟨l, S, T, p, bs, _, ⟨rfl, ho, h2.up r1.ch, t, rfl, (Dn.tup g1 g2).up r1.ch⟩, hz, q _ H1 C1 _ p1 r1 e1 (.int _)⟩
variable {ms : Mem} {D : DE} {t u : TS} {tk tv : TE}
/-- if (p, bs) not in known: t, else u -/
theorem ws_ifN {i : Nat} (hi : ks[i]? = some (.v (.ref l))) (hl : (l, MO.g (KnQ P w l Wf)) ∈ ms) (hw : ∀ m, (l, m) ∈ F.dw → m = .g (KnQ P w l Wf))
    (h : Ev F ms tk ks fun y => ∃ (p : Nat) (bs : List Bool), y = kd p bs ∧ WS F t ks ms D ∧ WS F u ks (setM ms l (.g (KnHas P w l Wf p bs))) D) : WS F (tIfS (tTest (tOp (rNNot P w) tk (tVar i))) t u) ks ms D := fun σ H C r Ec q1 q2 q3 q4 => by
  refine h ms σ H C (fun _ z => z) r _ fun v H1 C1 x p1 r1 e1 d1 => ?_
  obtain ⟨p, bs, rfl, w1, w2⟩ := p1
  refine ⟨_, r1.slot i _ hi, ?_⟩
  obtain ⟨_, ⟨_, o, ho, S, T, rfl, h2, h3⟩, _⟩ := r1.mo _ _ hl
  cases d1 with
  | @tup b xs _ g1 g2 =>
    refine ⟨l, S, T, p, bs, ⟨rfl, ho, h2.up r1.ch, b, rfl, (Dn.tup g1 g2).up r1.ch⟩, _, rfl, ?_⟩
    cases e : (S (kk p bs)).isSome with
    | false =>
      exact iteT (w1 σ H1 C1 r1 Ec (fun a b c d e z r2 e2 => q1 a b c d e z r2 (e1.trans e2)) (fun a b c d e z r2 e2 => q2 a b c d e z r2 (e1.trans e2)) (fun a b c d e z r2 e2 => q3 a b c d e z r2 (e1.trans e2)) q4)
    | true =>
      have r2 := r1.better hl (m1 := .g (KnHas P w l Wf p bs)) ⟨knHas_up, _, ho, S, T, rfl, h2, h3, e⟩ fun m hm => by rw [hw m hm]; exact knHas_weak
      exact iteF (w2 σ H1 C1 r2 Ec (fun a b c d e z r2 e2 => q1 a b c d e z r2 (e1.trans e2)) (fun a b c d e z r2 e2 => q2 a b c d e z r2 (e1.trans e2)) (fun a b c d e z r2 e2 => q3 a b c d e z r2 (e1.trans e2)) q4)
/-- known[p, bs] = the answer -/
theorem ws_nput {i : Nat} (hi : ks[i]? = some (.v (.ref l))) (hl : (l, MO.g (KnQ P w l Wf)) ∈ ms) (hw : ∀ m, (l, m) ∈ F.dw → m = .g (KnQ P w l Wf))
    (h : Ev F ms tv ks fun v => Ev F ms tk ks fun y => ∃ (p : Nat) (bs : List Bool), y = kd p bs ∧ v = .int (Wf p bs) ∧ p ≤ 12 ∧ bs.length ≤ 12 ∧ D.nx ks (setM ms l (.g (KnHas P w l Wf p bs)))) : WS F (sNPut P w (tVar i) tk tv) ks ms D := fun σ H C r Ec q1 q2 q3 q4 => by
  refine h ms σ H C (fun _ z => z) r _ fun v H1 C1 x p1 r1 e1 d1 => ⟨_, r1.slot i _ hi, ?_⟩
  refine p1 ms σ H1 C1 (fun _ z => z) r1 _ fun y H2 C2 z p2 r2 e2 d2 => ?_
  obtain ⟨p, bs, rfl, rfl, hp, hb, nx⟩ := p2
  cases d1
  obtain ⟨_, ⟨_, o, ho, S, T, rfl, h2, h3⟩, _⟩ := r2.mo _ _ hl
  cases d2 with
  | @tup b xs _ g1 g2 =>
    have dk : Dn C2 (.ref b) (kd p bs) := .tup g1 g2
    refine ⟨l, S, T, p, bs, b, rfl, ⟨rfl, ho, h2.up r2.ch, b, rfl, dk.up r2.ch⟩, ⟨allK, allK_len, fun k hk => ?_⟩, ?_⟩
    · obtain ⟨z, hz⟩ := Option.isSome_iff_exists.mp hk
      obtain ⟨p', bs', rfl, _, a1, a2⟩ := h3 _ _ hz
      exact mem_allK a1 a2
    · refine q1 _ _ _ _ _ nx (r2.setG hl (m1 := .g (KnHas P w l Wf p bs)) ⟨knHas_up, _, upd_same, _, _, rfl, ?_, ?_, ?_⟩ fun m hm => by rw [hw m hm]; exact knHas_weak) (e1.trans e2)
      · rintro k t (hk | ⟨rfl, rfl⟩)
        · exact h2 k t hk
        · exact ⟨_, _, rfl, dk⟩
      · intro k v hk
        by_cases e : k = kk p bs
        · rw [if_pos e] at hk
          cases hk
          exact ⟨p, bs, e, rfl, hp, hb⟩
        · rw [if_neg e] at hk
          exact h3 k v hk
      · rw [if_pos rfl]; rfl
end
def knF (g : Exn → Addr) (C0 H0 : Hp) (E : XK) (l : Addr) (Q : Hp → HO → Prop) (d : PyData) : FC :=
  { g := g, C0 := C0, H0 := H0, dw := [(l, .g Q)], rt := fun x _ => x = d, ex := fun _ => False, E := E, hE := fun _ _ h => h.elim }
section
variable {P : Program} {w : World} {K : PySem.W.Frag} {mg : Str → Option Value} {base : Heap}
theorem fn_kn {x qual : Str} {st : Stmt} {f : Addr} {fd : FuncData} {N ps : List Str} {k : Nat} {Rl : List PyData → (Nat → List Bool → Int) → PyData → Prop} (g : Exn → Addr) (Fn : Fun K x qual st f fd) (S : FnScope N ps (defScope st)) (len : ∀ ds Wf d, Rl ds Wf d → ds.length + 1 = ps.length) (hp : ps.length ≤ N.length)
    (body : ∀ (cdv : Value) (A : Around) (outer : List Env) (s : Shared) (H : Hp) (E : XK), Room k (A.deeper (PyProof.Rows.envOfC qual (defScope st) s.heap.objs.size f cdv)) →
      ∃ t, PSs (cxOf (L2.CX P w) P w K mg base N qual (defScope st) f cdv A outer s H E) (defBody st) t ∧
        ∀ C0 H0 l ds Wf d, Rl ds Wf d → WS (knF g C0 H0 E l (KnQ P w l Wf) d) t (ds.map SK.d ++ .v (.ref l) :: List.replicate (N.length - 1 - ds.length) .un) [(l, .g (KnQ P w l Wf))] { nx := fun _ _ => d = .none }) : FnOk P w K mg base (L2.CX P w) (k + 1) f fd ps (SpKn P w Rl) := by
  refine Fn.okX S (fun vs H Q E h => ?_) (fun cdv A outer s H vs Q E hr h => ?_)
  · obtain ⟨C, ds, l, vs', Wf, d, rfl, _, _, _, hd, hP, _⟩ := h
    rw [List.length_append, hd.length]
    exact len _ _ _ hP
  · obtain ⟨t, ht, hw⟩ := body cdv A outer s H E hr
    refine ⟨t, ht, ?_⟩
    obtain ⟨C, ds, l, vs', Wf, d, rfl, eC, c1, hm, hd, hP, hq⟩ := h
    have hl := len _ _ _ hP
    have rs : Real (knF g C H E l (KnQ P w l Wf) d) (ds.map SK.d ++ .v (.ref l) :: List.replicate (N.length - 1 - ds.length) .un) [(l, .g (KnQ P w l Wf))] (L2.start N (vs' ++ [.ref l])) H C := by
      refine ⟨?_, ?_, fun a o h => ⟨eC a o h, .inl h⟩, fun a o h => h, fun a o h _ => h, fun p h => ⟨p.2, h, Weak.refl _⟩, ?_, by simp⟩
      · unfold L2.start
        simp only [List.length_append, List.length_map, List.length_replicate, List.length_cons, List.length_nil, hd.length]
        omega
      · intro i k hk
        unfold L2.start
        by_cases hi : i < ds.length
        · rw [List.getElem?_append_left (by simpa using hi), List.getElem?_map] at hk
          rw [List.map_append, List.append_assoc, List.getElem?_append_left (by simpa [hd.length] using hi), List.getElem?_map]
          have hdi : ds[i]? = some ds[i] := by simp [hi]
          rw [hdi] at hk
          cases hk
          obtain ⟨v, hv, dv⟩ := hd.get hdi
          rw [hv]
          exact ⟨v, rfl, dv⟩
        · rw [List.getElem?_append_right (by simpa using hi)] at hk
          rw [List.map_append, List.append_assoc, List.getElem?_append_right (by simpa [hd.length] using hi)]
          rw [List.length_map] at hk ⊢
          rw [hd.length]
          cases e : i - ds.length with
          | zero =>
            rw [e] at hk
            cases hk
            rfl
          | succ j =>
            rw [e, List.getElem?_cons_succ, List.getElem?_replicate] at hk
            split at hk
            · cases hk; trivial
            · cases hk
      · intro a m h
        simp at h
        obtain ⟨rfl, rfl⟩ := h
        exact ⟨c1, hm, .inr ⟨_, List.mem_cons_self⟩⟩
    have fin : ∀ {v ks' ms' σ' H' C'}, Real (knF g C H E l (KnQ P w l Wf) d) ks' ms' σ' H' C' → Dn C' v d → Q v H' := fun {v ks' ms' σ' H' C'} r' dv =>
      hq v H' C' (fun a o h1 h2 => r'.keep a o h1 fun z => by
        obtain ⟨m, z⟩ := z
        have z := List.mem_singleton.mp z
        cases z
        exact h2 rfl) (r'.fxo (p := (l, .g (KnQ P w l Wf))) List.mem_cons_self) (fun a o z => r'.c0 a o z) (fun a o z => r'.sub a o z) dv
    refine hw C H l ds Wf d hP _ H C rs _ ?_ ?_ ?_ ?_
    · intro ks' ms' σ' H' C' ho r' e'
      have ho : d = .none := ho
      subst ho
      exact fin r' .non
    · intro ks' ms' σ' H' C' ho; exact ho.elim
    · intro ks' ms' σ' H' C' ho; exact ho.elim
    · intro v ks' ms' σ' H' C' d' ho r' dv
      have ho : d' = d := ho
      subst ho
      exact fin r' dv
/-- a promise that nobody can ask for -/
theorem ent_no {x : Str} {st : Stmt} {ps : List Str} {k : Nat} (d : Def K mg x st ps) : Ent P w K mg base x ps k (SpKn P w fun _ _ _ => False) := d.ent fun f fd Fn =>
  ⟨fun vs H Q E h => by obtain ⟨_, _, _, _, _, _, _, _, _, _, _, z, _⟩ := h; exact z.elim, fun A outer s H args us vs Q E hr he hb hv h => by obtain ⟨_, _, _, _, _, _, _, _, _, _, _, z, _⟩ := h; exact z.elim⟩
end
section
variable {F : FC} {R : Mem} {ks : List SK} {P : PyData → Prop} {K : PySem.W.Frag}
theorem os_tup {ds : List PyData} {lo hi : Option Int} (p : P (.tuple (cut ds lo hi))) : OpS F R ks (rSlA K) (.tuple ds) lo hi P := fun ms σ H C v _ r hx Q q => by
  cases hx with
  | @tup a xs _ h1 h2 =>
    refine ⟨_, xs, rfl, SqT.of (r.ch _ _ h1), fun z => ?_, fun _ l hl => ?_⟩
    · have e : cut ds lo hi = ds := by
        unfold cut
        rw [← h2.length, z.1, z.2, List.drop_zero, Nat.sub_zero, h2.length, List.take_length]
      rw [e] at p
      exact q _ H C _ p r (Ex.refl C) (.tup h1 h2)
    · obtain ⟨r2, e2⟩ := r.new hl (.tup (cutV xs lo hi))
      exact q _ _ _ _ p r2 e2 (.tup upd_same ((h2.cut lo hi).up e2))
theorem os_tupM {α : Type} {f : α → PyData} {ns : List α} {lo hi : Option Int} (p : P (.tuple ((cut ns lo hi).map f))) : OpS F R ks (rSlA K) (.tuple (ns.map f)) lo hi P := os_tup (by rw [cut_map]; exact p)
end
section
variable {F : FC} {ks : List SK} {ms : Mem} {D : DE} {t u : TS}
/-- the state between two statements, told -/
theorem ws_mid (ks1 : List SK) (ms1 : Mem) (h1 : WS F t ks ms { D with nx := fun a b => a = ks1 ∧ b = ms1 }) (h2 : WS F u ks1 ms1 D) : WS F (tSeq t u) ks ms D :=
  ws_seq (h1.imp (fun a b e => by obtain ⟨rfl, rfl⟩ := e; exact h2) (fun _ _ z => z) (fun _ _ z => z))
end
end DL

namespace DL
open PySem PySem.Spec L2
/-! ### in, index of data as such -/
theorem u65 {k : Nat} {A : Around} (r : Room k A) : A.units + 65 < cLine := by have := r.un; omega
section
variable {X : Cx} {K : PySem.W.Frag}
theorem k_inD (hu : X.A.units + 65 < cLine) (h : X.K = K := by rfl) : OpR X (compareOp .In) (rInD K) := h ▸ op_inD hu
theorem k_notInD (hu : X.A.units + 65 < cLine) (h : X.K = K := by rfl) : OpR X (compareOp .NotIn) (rNotInD K) := h ▸ op_notInD hu
theorem k_indexD (hu : X.A.units + 65 < cLine) (h : X.K = K := by rfl) : MtR X "list.index" (rIndexD K) := h ▸ mt_indexD hu
end
section
variable {F : FC} {R : Mem} {ks : List SK} {P : PyData → Prop} {K : PySem.W.Frag} {x : PyData} {ds : List PyData}
theorem op_inDD (sx : SeqAt.shaped x = true) (sd : SeqAt.shaped (.list ds) = true) (p : P (.bool (ds.any fun z => PyData.eqv z x))) : Op2 F R ks (rInD K) x (.list ds) P := fun ms σ H C vx vy _ r hx hy Q q =>
  ⟨x, ds, (hx.up r.ch).dp _ _, (hy.up r.ch).dp _ _, sx, sd, q _ H C _ p r (Ex.refl C) (.bl _)⟩
theorem op_notInDD (sx : SeqAt.shaped x = true) (sd : SeqAt.shaped (.list ds) = true) (p : P (.bool (!ds.any fun z => PyData.eqv z x))) : Op2 F R ks (rNotInD K) x (.list ds) P := fun ms σ H C vx vy _ r hx hy Q q =>
  ⟨x, ds, (hx.up r.ch).dp _ _, (hy.up r.ch).dp _ _, sx, sd, q _ H C _ p r (Ex.refl C) (.bl _)⟩
end
section
variable {F : FC} {ks : List SK} {ms : Mem} {D : DE} {t u : TS}
/-- what holds between two statements -/
theorem ws_inv (I : List SK → Mem → Prop) (h1 : WS F t ks ms { D with nx := I }) (h2 : ∀ a b, I a b → WS F u a b D) : WS F (tSeq t u) ks ms D :=
  ws_seq (h1.imp (fun a b e => h2 a b e) (fun _ _ z => z) (fun _ _ z => z))
end
end DL

namespace DL
open PySem PySem.Spec PyProof.Rows L2
/-! ### xs += ys; sorted of a list of rows -/
section
variable {X : Cx} {K : PySem.W.Frag}
theorem ip_ext : PIp X .Add rExt2 := fun pins s σ H x y v u Q I r1 r2 h => iop_ext pins s σ H x y v u Q I r1 r2 h
end
section
variable {F : FC} {ks : List SK} {te : TE} {D : DE}
theorem ws_extH {i : Nat} {l : Addr} {ds : List PyData} {ms : Mem} (hi : ks[i]? = some (.v (.ref l))) (hf : ¬ F.fx l) (h : Ev F ((l, .l ds) :: ms) te ks fun d => ∃ es, d = .list es ∧ ds.length + es.length ≤ 100000 ∧ D.nx (ks.set i (.v (.ref l))) ((l, .l (ds ++ es)) :: ms)) : WS F (tAug i te rExt2) ks ((l, .l ds) :: ms) D := fun σ H C r Ec q1 q2 q3 q4 => by
  have nl : l ∉ ms.map (·.1) := (List.nodup_cons.mp r.nd).1
  refine ⟨_, r.slot i _ hi, h _ σ H C (fun _ z => z) r _ fun v H' C' d p r' e' dv => ?_⟩
  obtain ⟨es, rfl, hl, nx⟩ := p
  obtain ⟨_, ⟨xs, hxs, dxs⟩, _⟩ := r'.mo l _ List.mem_cons_self
  cases dv with
  | @lst b ys _ g1 g2 =>
    refine ⟨l, b, xs, ys, rfl, rfl, hxs, r'.ch _ _ g1, by rw [dxs.length, g2.length]; exact Evl.sz_of hl, ?_⟩
    have r2 := r'.setM (m := .l (ds ++ es)) (o := .lst (xs ++ ys)) List.mem_cons_self hf ⟨xs ++ ys, upd_same, dxs.app g2⟩
    rw [setM_head nl] at r2
    exact q1 _ _ _ _ _ nx (r2.put (k := .v (.ref l)) rfl) e'
end
def rowsLe (a b : List Int) : Bool := decide (a ≤ b)
def rSortR (K : PySem.W.Frag) : List V → Hp → VK → Prop := fun vs H Q => ∃ (a : Addr) (xs : List V) (rows : List (List Int)) (Φ : V → List Int → Prop), vs = [V.ref a] ∧ SqL K H a xs ∧ DpAll K H xs (rows.map dL) ∧ Paired Φ xs rows ∧ rows.length ≤ 100000 ∧
  ∀ (ys : List V) (p : Addr), Paired Φ ys (rows.mergeSort rowsLe) → H p = none → Q (.ref p) (upd H p (.lst ys))
theorem each_of {h : Heap} {us : List Value} {rows : List (List Int)} {as : List Addr} (r : ReadsAll h us (rows.map dL) as) : PySem.W.EachIs (fun v b => ∃ as, Reads h v (dL b) as) us rows := by
  induction rows generalizing us as with
  | nil => cases r; exact .nil
  | cons b rows ih =>
    cases r with
    | cons r1 r2 => exact .cons ⟨_, r1⟩ (ih r2)
theorem each_pair {Φ : V → List Int → Prop} : ∀ {xs : List V} {us : List Value} {rows : List (List Int)}, Vals xs us → Paired Φ xs rows → PySem.W.EachIs (fun v b => ∃ x, RelV x v ∧ Φ x b) us rows
  | _, _, _, .nil, .nil => .nil
  | _, _, _, .cons r1 r2, .cons p1 p2 => .cons ⟨_, r1, p1⟩ (each_pair r2 p2)
theorem pair_each {Φ : V → List Int → Prop} : ∀ {us : List Value} {rows : List (List Int)}, PySem.W.EachIs (fun v b => ∃ x, RelV x v ∧ Φ x b) us rows → ∃ ys, Vals ys us ∧ Paired Φ ys rows
  | _, _, .nil => ⟨[], .nil, .nil⟩
  | _, _, .cons ⟨x, r, p⟩ t => by
    obtain ⟨ys, a, b⟩ := pair_each t
    exact ⟨x :: ys, .cons r a, .cons p b⟩
section
variable {X : Cx}
theorem cr_sortR (hu : X.A.units + 64 < cLine) : CallR X (.builtin "sorted") (rSortR X.K) := by
  intro pins s σ H vs us Q I r h
  obtain ⟨a, xs, rows, Φ, rfl, hs, hd, hp, hl, q⟩ := h
  obtain ⟨its, rv, ht, hz⟩ := I.list hs
  rw [Vals.ref1 r]
  obtain ⟨as, hr⟩ := Dp.readsAll I _ _ _ hd rv
  have dep : ∀ b : List Int, (dL b).depth ≤ 1 := fun b => (sh_dL b).e
  refine PySem.W.sorted_data (enc := dL) (R := fun v b => ∃ x, RelV x v ∧ Φ x b) ht.isList (each_pair rv hp) (each_of hr) (fun d hd d' hd' => ?_) (PySem.W.Sortable.others fun b => ⟨(fun z => nomatch z), fun ys z => nomatch z⟩) (Evl.sz_of hl) (fun b _ => by have := dep b; omega) fun out ho eo => ?_
  · obtain ⟨b, _, rfl⟩ := List.mem_map.mp hd
    obtain ⟨b', _, rfl⟩ := List.mem_map.mp hd'
    show PySem.W.alike (.list (b.map PyData.int)) (.list (b'.map PyData.int)) = true
    simp only [PySem.W.alike]
    exact PySem.W.alike_ints b b'
  · have e : (PySem.W.dataLe false dL) = rowsLe := by
      have := PySem.W.dataLe_rows (β := List Int) fun b => b
      exact this
    rw [e] at eo
    obtain ⟨ys, y1, y2⟩ := pair_each eo
    obtain ⟨ep, he'⟩ := PyProof.Rows.sortedAll_at s.heap its out.toArray
    have hlen : ys.length ≤ sizeLine := by
      rw [y1.length, ho]
      exact Evl.sz_of hl
    exact ⟨.ref _, upd H (s.heap.objs.size + 1) (.lst ys), I.laid (t' := s.toks) (fun _ _ => PyProof.Rows.sortedAll_old) (Nat.le_succ _) ⟨hlen, out, ep, y1, by simpa using he'⟩, rfl, q ys _ y2 (I.hok.fresh (Nat.le_succ _))⟩
theorem k_sortR {K : PySem.W.Frag} (hu : X.A.units + 64 < cLine) (h : X.K = K := by rfl) : CallR X (.builtin "sorted") (rSortR K) := h ▸ cr_sortR hu
end
section
variable {F : FC} {R : Mem} {ks : List SK} {P : PyData → Prop} {K : PySem.W.Frag}
theorem dn_paired {C : Hp} : ∀ {xs : List V} {rows : List (List Int)}, DnAll C xs (rows.map dL) → Paired (fun x b => Dn C x (dL b)) xs rows
  | _, [], h => by cases h; exact .nil
  | _, b :: rows, h => by
    cases h with
    | cons h1 h2 => exact .cons h1 (dn_paired h2)
theorem paired_dn {C : Hp} : ∀ {xs : List V} {rows : List (List Int)}, Paired (fun x b => Dn C x (dL b)) xs rows → DnAll C xs (rows.map dL)
  | _, _, .nil => .nil
  | _, _, .cons h t => .cons h (paired_dn t)
theorem on_sortR {rows : List (List Int)} (hn : rows.length ≤ 100000) (p : P (dLL (rows.mergeSort rowsLe))) : OpN F R ks (rSortR K) [dLL rows] P := fun ms σ H C vs _ r hv0 Q q => by
  obtain ⟨v, rfl, hv⟩ := dn_one hv0
  cases hv with
  | @lst a xs _ h1 h2 =>
    refine ⟨a, xs, rows, fun x b => Dn C x (dL b), rfl, SqL.of (r.ch _ _ h1), (h2.up r.ch).dp _ _, dn_paired h2, hn, fun ys l hy hl => ?_⟩
    obtain ⟨r2, e2⟩ := r.new hl (.lst ys)
    exact q _ _ _ _ p r2 e2 (.lst upd_same ((paired_dn hy).up e2))
end
theorem rows_trans (a b c : List Int) : rowsLe a b = true → rowsLe b c = true → rowsLe a c = true := fun h1 h2 => decide_eq_true (List.le_trans (of_decide_eq_true h1) (of_decide_eq_true h2))
theorem rows_total (a b : List Int) : (rowsLe a b || rowsLe b a) = true := by
  rcases List.le_total a b with h | h
  · unfold rowsLe; rw [decide_eq_true h, Bool.true_or]
  · unfold rowsLe; rw [decide_eq_true h, Bool.or_true]
theorem sort_is {rows good : List (List Int)} (hp : rows.Perm good) (hs : good.Pairwise (· ≤ ·)) : rows.mergeSort rowsLe = good := by
  refine perm_uniq (r := fun a b => a ≤ b) (fun a b h1 h2 => List.le_antisymm h1 h2) ((List.mergeSort_perm rows rowsLe).trans hp) ?_ hs
  exact (List.pairwise_mergeSort rows_trans rows_total rows).imp fun {a b} h => of_decide_eq_true h
section
variable {P : Program} {w : World} {K : PySem.W.Frag} {mg : Str → Option Value} {base : Heap}
theorem ent_noD {g : Exn → Addr} {x : Str} {st : Stmt} {ps : List Str} {k : Nat} (d : Def K mg x st ps) : Ent P w K mg base x ps k (SpD g fun _ _ => False) := d.ent fun f fd Fn =>
  ⟨fun vs H Q E h => by obtain ⟨_, _, _, _, _, z, _⟩ := h; exact z.elim, fun A outer s H args us vs Q E hr he hb hv h => by obtain ⟨_, _, _, _, _, z, _⟩ := h; exact z.elim⟩
end
end DL

namespace DL
open PySem PySem.Spec L2
/-! ### in, not in, index of rows among rows -/
section
variable {F : FC} {R : Mem} {ks : List SK} {P : PyData → Prop} {K : PySem.W.Frag}
theorem any_rows (x : List Int) (rows : List (List Int)) : ((rows.map dL).any fun z => PyData.eqv z (dL x)) = decide (x ∈ rows) := by
  rw [Bool.eq_iff_iff, List.any_eq_true, decide_eq_true_eq]
  constructor
  · rintro ⟨z, hz, he⟩
    obtain ⟨r, hr, rfl⟩ := List.mem_map.mp hz
    rw [ap_dL, decide_eq_true_eq] at he
    exact he ▸ hr
  · intro h
    exact ⟨_, List.mem_map.mpr ⟨x, h, rfl⟩, by rw [ap_dL]; simp⟩
theorem op_inR {x : List Int} {rows : List (List Int)} (p : P (.bool (decide (x ∈ rows)))) : Op2 F R ks (rInD K) (dL x) (dLL rows) P := op_inDD ((sh_dL x).ok (by decide)) ((sh_dLL rows).ok (by decide)) (by rw [any_rows]; exact p)
theorem op_notInR {x : List Int} {rows : List (List Int)} (p : P (.bool (!decide (x ∈ rows)))) : Op2 F R ks (rNotInD K) (dL x) (dLL rows) P := op_notInDD ((sh_dL x).ok (by decide)) ((sh_dLL rows).ok (by decide)) (by rw [any_rows]; exact p)
theorem om_indexR {x : List Int} {rows : List (List Int)} (hi : x ∈ rows) (p : P (.int (rows.idxOf x : Nat))) : OpM F R ks (rIndexD K) (dLL rows) [dL x] P := fun ms σ H C v vs _ r hx hv0 Q q => by
  obtain ⟨w, rfl, hw⟩ := dn_one hv0
  have hlt : rows.idxOf x < rows.length := List.idxOf_lt_length_of_mem hi
  have hd := (hx.up r.ch).dp (K := K) _ _
  cases hx with
  | lst h1 h2 =>
    refine ⟨_, _, dL x, rows.map dL, rows.idxOf x, dL x, rfl, rfl, hd, (hw.up r.ch).dp _ _, (sh_dLL rows).ok (by decide), (sh_dL x).ok (by decide), ?_, ?_, fun m z' hm hz => ?_, q _ H C _ p r (Ex.refl C) (.int _)⟩
    · rw [List.getElem?_map]
      simp [hlt]
    · rw [ap_dL]; simp
    · rw [List.getElem?_map] at hz
      obtain ⟨y, hy, rfl⟩ := Option.map_eq_some_iff.mp hz
      rw [ap_dL, decide_eq_false_iff_not]
      intro e
      subst e
      have h3 := List.getElem?_eq_some_iff.mp hy
      obtain ⟨h3, h4⟩ := h3
      exact absurd (List.not_of_lt_findIdx (xs := rows) (p := (· == y)) hm) (by simp [h4])
end
end DL

namespace DL
open PySem PySem.Spec L2
/-! ### an object with a width, its values, a line and the past lines -/
structure SlA where
  x : Addr
  dx : Addr
  vi : Addr
  pa : Addr
structure SlS where
  k : Int
  vs : List Int
  line : List Int
  past : List (List Int)
abbrev nW : Str := "width"
abbrev nV : Str := "values_in"
abbrev nL : Str := "line"
abbrev nP : Str := "past"
def flds (k : Int) (vi : Addr) (ln : V) (pa : Addr) : List (Str × V) := [(nW, .int k), (nV, .ref vi), (nL, ln), (nP, .ref pa)]
theorem ne_VW : ¬ nV = nW := by decide +kernel
theorem ne_LW : ¬ nL = nW := by decide +kernel
theorem ne_LV : ¬ nL = nV := by decide +kernel
theorem ne_PW : ¬ nP = nW := by decide +kernel
theorem ne_PV : ¬ nP = nV := by decide +kernel
theorem ne_PL : ¬ nP = nL := by decide +kernel
theorem lk_W {k : Int} {vi pa : Addr} {ln : V} : (flds k vi ln pa).lookup nW = some (.int k) := by
  unfold flds
  rw [List.lookup_cons_self]
theorem lk_V {k : Int} {vi pa : Addr} {ln : V} : (flds k vi ln pa).lookup nV = some (.ref vi) := by
  unfold flds
  rw [List.lookup_cons, beq_false_of_ne ne_VW, List.lookup_cons_self]
theorem lk_L {k : Int} {vi pa : Addr} {ln : V} : (flds k vi ln pa).lookup nL = some ln := by
  unfold flds
  rw [List.lookup_cons, beq_false_of_ne ne_LW, List.lookup_cons, beq_false_of_ne ne_LV, List.lookup_cons_self]
theorem lk_P {k : Int} {vi pa : Addr} {ln : V} : (flds k vi ln pa).lookup nP = some (.ref pa) := by
  unfold flds
  rw [List.lookup_cons, beq_false_of_ne ne_PW, List.lookup_cons, beq_false_of_ne ne_PV, List.lookup_cons, beq_false_of_ne ne_PL, List.lookup_cons_self]
theorem lk_no {k : Int} {vi pa : Addr} {ln : V} {m : Str} (h1 : ¬ m = nW) (h2 : ¬ m = nV) (h3 : ¬ m = nL) (h4 : ¬ m = nP) : (flds k vi ln pa).lookup m = none := by
  unfold flds
  rw [List.lookup_cons, beq_false_of_ne h1, List.lookup_cons, beq_false_of_ne h2, List.lookup_cons, beq_false_of_ne h3, List.lookup_cons, beq_false_of_ne h4]
  rfl
theorem put_L {k : Int} {vi pa : Addr} {ln y : V} : putF nL y (flds k vi ln pa) = flds k vi y pa := by
  unfold flds
  show (if nW = nL then _ else (nW, V.int k) :: (if nV = nL then _ else (nV, V.ref vi) :: (if nL = nL then _ else _))) = _
  rw [if_neg (Ne.symm ne_LW), if_neg (Ne.symm ne_LV), if_pos rfl]
theorem put_4 {k : Int} {vi pa : Addr} {ln : V} : putF nP (.ref pa) (putF nL ln (putF nV (.ref vi) (putF nW (.int k) []))) = flds k vi ln pa := by
  show putF nP (.ref pa) (putF nL ln (if nW = nV then _ else (nW, V.int k) :: [(nV, V.ref vi)])) = _
  rw [if_neg (Ne.symm ne_VW)]
  show putF nP (.ref pa) (if nW = nL then _ else (nW, V.int k) :: (if nV = nL then _ else (nV, V.ref vi) :: [(nL, ln)])) = _
  rw [if_neg (Ne.symm ne_LW), if_neg (Ne.symm ne_LV)]
  show (if nW = nP then _ else (nW, V.int k) :: (if nV = nP then _ else (nV, V.ref vi) :: (if nL = nP then _ else (nL, ln) :: [(nP, V.ref pa)]))) = _
  rw [if_neg (Ne.symm ne_PW), if_neg (Ne.symm ne_PV), if_neg (Ne.symm ne_PL)]
  rfl
/-- the object's own word -/
def SlQ (Cc dx vi pa : Addr) (k : Int) (line : List Int) : Hp → HO → Prop := fun C o => ∃ ln, o = .ins Cc dx (flds k vi ln pa) ∧ Dn C ln (dL line)
theorem slQ_up {Cc dx vi pa : Addr} {k : Int} {line : List Int} : ∀ C C' o, Ex C C' → SlQ Cc dx vi pa k line C o → SlQ Cc dx vi pa k line C' o := fun C C' o e ⟨ln, h1, h2⟩ => ⟨ln, h1, h2.up e⟩
def slM (Cc : Addr) (A : SlA) (S : SlS) : Mem := [(A.x, .g (SlQ Cc A.dx A.vi A.pa S.k S.line)), (A.dx, .o (.own A.x)), (A.vi, .l (S.vs.map .int)), (A.pa, .l (S.past.map dL))]
def slW (A : SlA) : Mem := [(A.x, .g fun _ _ => True), (A.dx, .g fun _ _ => True), (A.vi, .g fun _ _ => True), (A.pa, .g fun _ _ => True)]
def SlA.as (A : SlA) : List Addr := [A.x, A.dx, A.vi, A.pa]
theorem slM_as (Cc : Addr) (A : SlA) (S : SlS) : (slM Cc A S).map (·.1) = A.as := rfl
theorem weak_any (m : MO) : Weak m (.g fun _ _ => True) := fun C H l h => by
  obtain ⟨o, e⟩ := h.there
  exact ⟨fun _ _ _ _ z => z, o, e, trivial⟩
/-- what a def of such an object promises: Rl tells the out and the state behind -/
def SpSl (Cc : Addr) (g : Exn → Addr) (Rl : List PyData → SlS → Out → SlS → Prop) : Sp := fun vs H Q E => ∃ (C : Hp) (A : SlA) (S S' : SlS) (vs' : List V) (ds : List PyData) (out : Out), vs = .ref A.x :: vs' ∧ Ex C H ∧ A.as.Nodup ∧ (∀ p ∈ slM Cc A S, C p.1 = none ∧ MOk C H p.1 p.2) ∧ DnAll C vs' ds ∧ Rl ds S out S' ∧
  match out with
  | .ret d => ∀ v H' C', (∀ a o, H a = some o → a ∉ A.as → H' a = some o) → Ex C C' → (∀ a o, C' a = some o → H' a = some o ∧ (C a = some o ∨ H a = none)) → (∀ p ∈ slM Cc A S', MOk C' H' p.1 p.2) → Dn C' v d → Q v H'
  | .exc e => ∀ H' C', (∀ a o, H a = some o → a ∉ A.as → H' a = some o) → Ex C C' → (∀ a o, C' a = some o → H' a = some o ∧ (C a = some o ∨ H a = none)) → (∀ p ∈ slM Cc A S, MOk C' H' p.1 p.2) → E (.ref (g e)) none H'
section
variable {F : FC} {R : Mem} {ks : List SK} {ms ms' : Mem} {σ : St} {H C H' C' : Hp}
/-- behind a call that changes the things at L: from ms to ms' -/
theorem Real.call (r : Real F ks ms σ H C) {L : List Addr} (hL : ∀ a ∈ L, a ∈ ms.map (·.1)) (kp : ∀ a o, H a = some o → a ∉ L → H' a = some o) (eC : Ex C C') (hc : ∀ a o, C' a = some o → H' a = some o ∧ (C a = some o ∨ H a = none))
    (ha : ms'.map (·.1) = ms.map (·.1)) (hm : ∀ l m, (l, m) ∈ ms' → (l ∈ L ∧ MOk C' H' l m) ∨ (l ∉ L ∧ (l, m) ∈ ms)) (hf : ∀ p, p ∈ F.dw → ∃ m, (p.1, m) ∈ ms' ∧ Weak m p.2) : Real F ks ms' σ H' C' where
  len := r.len
  slot := fun i k h => (r.slot i k h).up eC
  sub := fun a o e => by
    obtain ⟨q1, q2⟩ := hc a o e
    refine ⟨q1, ?_⟩
    rcases q2 with q2 | q2
    · exact (r.sub a o q2).2
    · exact .inr (r.old q2)
  c0 := r.c0.trans eC
  keep := fun a o e f => by
    refine kp a o (r.keep a o e f) (fun z => ?_)
    obtain ⟨⟨l, m⟩, hp, rfl⟩ := List.mem_map.mp (hL a z)
    rcases (r.mo l m hp).2.2 with q | q
    · rw [q] at e; cases e
    · exact f q
  fxm := hf
  mo := fun l m h => by
    have hl : l ∈ ms.map (·.1) := by rw [← ha]; exact List.mem_map.mpr ⟨_, h, rfl⟩
    obtain ⟨⟨l', m0⟩, hp, e⟩ := List.mem_map.mp hl
    have e : l' = l := e
    subst e
    obtain ⟨q1, q2, q3⟩ := r.mo l' m0 hp
    refine ⟨?_, ?_, q3⟩
    · cases q : C' l' with
      | none => rfl
      | some o =>
        obtain ⟨o', e⟩ := q2.there
        rcases (hc l' o q).2 with z | z
        · rw [q1] at z; cases z
        · rw [e] at z; cases z
    · rcases hm l' m h with ⟨_, z⟩ | ⟨z, h2⟩
      · exact z
      · exact (r.mo l' m h2).2.1.up eC fun o e => kp l' o e z
  nd := by rw [ha]; exact r.nd
/-- an evaluation that changes the memory -/
def EvM (F : FC) (te : TE) (ks : List SK) (ms : Mem) (P : PyData → Mem → Prop) : Prop := ∀ σ H C, Real F ks ms σ H C → ∀ Q : VK, (∀ v H' C' d ms', P d ms' → Real F ks ms' σ H' C' → Ex C C' → Dn C' v d → Q v H') → te σ H Q
end
section
variable {F : FC} {R : Mem} {ks : List SK} {ms : Mem} {te ta tb : TE} {tA : TA} {P : PyData → Mem → Prop} {D : DE} {t u : TS} {Cc : Addr} {A : SlA} {S S' : SlS} {Rl : List PyData → SlS → Out → SlS → Prop}
theorem Ev.em (h : Ev F ms te ks fun d => P d ms) : EvM F te ks ms P := fun σ H C r Q q => h ms σ H C (fun _ z => z) r _ fun v H' C' d p r' e' dv => q v H' C' d ms p r' e' dv
theorem em_op {r : R2} (h : EvM F ta ks ms fun x ms' => Ev F ms' tb ks fun y => Op2 F ms' ks r x y fun d => P d ms') : EvM F (tOp r ta tb) ks ms P := fun σ H C rr Q q => h σ H C rr _ fun v H1 C1 x ms1 p1 r1 e1 d1 => p1 ms1 σ H1 C1 (fun _ z => z) r1 _ fun w H2 C2 y p2 r2 e2 d2 => p2 ms1 σ H2 C2 v w (fun _ z => z) r2 (d1.up e2) d2 Q fun v3 H3 C3 d p3 r3 e3 d3 => q v3 H3 C3 d ms1 p3 r3 ((e1.trans e2).trans e3) d3
theorem ws_ifEM (h : EvM F te ks ms fun d ms' => ∃ b, d = .bool b ∧ (b = true → WS F t ks ms' D) ∧ (b = false → WS F u ks ms' D)) : WS F (tIfS (tTest te) t u) ks ms D := fun σ H C r Ec q1 q2 q3 q4 =>
  h σ H C r _ fun v H' C' d ms' p r' e' dv => by
    obtain ⟨b, rfl, p1, p2⟩ := p
    cases dv
    refine ⟨b, rfl, ?_⟩
    cases b with
    | true => exact iteT (p1 rfl _ _ _ r' Ec (fun a b c d e z r2 e2 => q1 a b c d e z r2 (e'.trans e2)) (fun a b c d e z r2 e2 => q2 a b c d e z r2 (e'.trans e2)) (fun a b c d e z r2 e2 => q3 a b c d e z r2 (e'.trans e2)) q4)
    | false => exact iteF (p2 rfl _ _ _ r' Ec (fun a b c d e z r2 e2 => q1 a b c d e z r2 (e'.trans e2)) (fun a b c d e z r2 e2 => q2 a b c d e z r2 (e'.trans e2)) (fun a b c d e z r2 e2 => q3 a b c d e z r2 (e'.trans e2)) q4)
theorem ws_retEM (h : EvM F te ks ms fun d ms' => F.rt d ms') : WS F (tRet te) ks ms D := fun σ H C r Ec q1 q2 q3 q4 =>
  h σ H C r _ fun v H' C' d ms' p r' e' dv => q4 v _ _ _ _ _ d p r' dv
theorem ws_asgEM {i : Nat} (h : EvM F te ks ms fun d ms' => D.nx (ks.set i (.d d)) ms') : WS F (tAsg te (gName i)) ks ms D := fun σ H C r Ec q1 q2 q3 q4 =>
  h σ H C r _ fun v H' C' d ms' p r' e' dv => q1 _ _ _ _ _ p (r'.put ⟨v, rfl, dv⟩) e'
theorem slM_nd (r : ∃ σ H C, Real F ks (slM Cc A S ++ ms) σ H C) : A.as.Nodup := by
  obtain ⟨σ, H, C, r⟩ := r
  have := r.nd
  rw [List.map_append, slM_as] at this
  exact (List.nodup_append.mp this).1
/-- the memory behind a call -/
theorem Real.sl {σ : St} {H C H' C' : Hp} (r : Real F ks (slM Cc A S ++ ms) σ H C) (hf : ∀ p, p ∈ F.dw → ∃ m, (p.1, m) ∈ slM Cc A S' ++ ms ∧ Weak m p.2) (kp : ∀ a o, H a = some o → a ∉ A.as → H' a = some o) (eC : Ex C C') (hc : ∀ a o, C' a = some o → H' a = some o ∧ (C a = some o ∨ H a = none))
    (hm : ∀ p ∈ slM Cc A S', MOk C' H' p.1 p.2) : Real F ks (slM Cc A S' ++ ms) σ H' C' := by
  have nd := r.nd
  rw [List.map_append, slM_as] at nd
  refine r.call (L := A.as) (fun a ha => by rw [List.map_append, slM_as]; exact List.mem_append_left _ ha) kp eC hc (by rw [List.map_append, List.map_append, slM_as, slM_as]) (fun l m h => ?_) hf
  rcases List.mem_append.mp h with h | h
  · exact .inl ⟨by rw [← slM_as Cc A S']; exact List.mem_map.mpr ⟨_, h, rfl⟩, hm _ h⟩
  · exact .inr ⟨fun z => (List.nodup_append.mp nd).2.2 _ z _ (List.mem_map.mpr ⟨_, h, rfl⟩) rfl, List.mem_append_right _ h⟩
theorem slM_mo {σ : St} {H C : Hp} (r : Real F ks ms σ H C) (hs : slM Cc A S ⊆ ms) : ∀ p ∈ slM Cc A S, C p.1 = none ∧ MOk C H p.1 p.2 := fun p hp => ⟨(r.mo _ _ (hs hp)).1, (r.mo _ _ (hs hp)).2.1⟩
theorem nd_sub {α : Type} [DecidableEq α] : ∀ {xs : List α}, xs.Nodup → xs.Nodup := fun h => h
/-- f(o, ..): a def that leaves the object as it is -/
theorem ev_callSl {g : Exn → Addr} {i : Nat} {E : XK} {Pd : PyData → Prop} (hi : ks[i]? = some (.v (.ref A.x))) (hs : slM Cc A S ⊆ R) (hn : A.as.Nodup) (h : EvA F R tA ks fun xs => ∃ d, Rl xs S (.ret d) S ∧ Pd d) : Ev F R (tCall (SpSl Cc g Rl) [] E (tCons (tVar i) tA)) ks Pd := fun ms σ H C hR r Q q => by
  refine ⟨_, r.slot i _ hi, h ms σ H C hR r _ fun vs H1 C1 ds p r1 e1 d1 => ?_⟩
  obtain ⟨d, hr, p⟩ := p
  show SpSl Cc g Rl (.ref A.x :: vs ++ []) H1 Q E
  rw [List.append_nil]
  refine ⟨C1, A, S, S, vs, ds, .ret d, rfl, r1.ch, hn, slM_mo r1 (fun _ z => hR (hs z)), d1, hr, fun v H' C' kp eC hc hm dv => q v H' C' d p ?_ (e1.trans eC) dv⟩
  refine r1.call (L := A.as) (fun a ha => ?_) kp eC hc rfl (fun l m h => ?_) r1.fxm
  · rw [← slM_as Cc A S] at ha
    obtain ⟨p, hp, rfl⟩ := List.mem_map.mp ha
    exact List.mem_map.mpr ⟨p, hR (hs hp), rfl⟩
  · by_cases hl : l ∈ A.as
    · rw [← slM_as Cc A S] at hl
      obtain ⟨p, hp, rfl⟩ := List.mem_map.mp hl
      have := nd_inj r1.nd h (hR (hs hp))
      subst this
      exact .inl ⟨by rw [← slM_as Cc A S]; exact hl, hm _ hp⟩
    · exact .inr ⟨hl, h⟩
/-- f(o, ..): a def that changes the object -/
theorem em_callSl {g : Exn → Addr} {i : Nat} {E : XK} (hi : ks[i]? = some (.v (.ref A.x))) (hf : ∀ p, p ∈ F.dw → ∃ m, (p.1, m) ∈ slM Cc A S' ++ ms ∧ Weak m p.2) (h : EvA F (slM Cc A S ++ ms) tA ks fun xs => ∃ d, Rl xs S (.ret d) S' ∧ P d (slM Cc A S' ++ ms)) :
    EvM F (tCall (SpSl Cc g Rl) [] E (tCons (tVar i) tA)) ks (slM Cc A S ++ ms) P := fun σ H C r Q q => by
  refine ⟨_, r.slot i _ hi, h _ σ H C (fun _ z => z) r _ fun vs H1 C1 ds p r1 e1 d1 => ?_⟩
  obtain ⟨d, hr, p⟩ := p
  show SpSl Cc g Rl (.ref A.x :: vs ++ []) H1 Q E
  rw [List.append_nil]
  exact ⟨C1, A, S, S', vs, ds, .ret d, rfl, r1.ch, slM_nd ⟨_, _, _, r1⟩, slM_mo r1 (List.subset_append_left _ _), d1, hr, fun v H' C' kp eC hc hm dv => q v H' C' d _ p (r1.sl hf kp eC hc hm) (e1.trans eC) dv⟩
theorem slM_x (r : ∃ σ C, Real F ks ms σ H C) (hs : slM Cc A S ⊆ ms) : ∃ ln, H A.x = some (.ins Cc A.dx (flds S.k A.vi ln A.pa)) := by
  obtain ⟨σ, C, r⟩ := r
  obtain ⟨_, ⟨_, o, e, ln, rfl, _⟩, _⟩ := r.mo A.x _ (hs List.mem_cons_self)
  exact ⟨ln, e⟩
/-- o.m(..) -/
theorem ev_methSl {g : Exn → Addr} {i : Nat} {m : Str} {E : XK} {Pd : PyData → Prop} (hi : ks[i]? = some (.v (.ref A.x))) (hs : slM Cc A S ⊆ R) (hn : A.as.Nodup) (hm : ¬ m = nW ∧ ¬ m = nV ∧ ¬ m = nL ∧ ¬ m = nP) (h : EvA F R tA ks fun xs => ∃ d, Rl xs S (.ret d) S ∧ Pd d) : Ev F R (tMeth Cc m (SpSl Cc g Rl) [] E (tVar i) tA) ks Pd := fun ms σ H C hR r Q q => by
  obtain ⟨ln, hx⟩ := slM_x ⟨_, _, r⟩ (fun _ z => hR (hs z))
  refine ⟨_, r.slot i _ hi, A.x, A.dx, _, rfl, hx, lk_no hm.1 hm.2.1 hm.2.2.1 hm.2.2.2, ?_⟩
  have := ev_callSl (F := F) (E := E) (g := g) (Cc := Cc) (Rl := Rl) hi hs hn h ms σ H C hR r Q q
  obtain ⟨v, hv, this⟩ := this
  have e := (r.slot i _ hi).symm.trans hv
  cases e
  exact this
theorem em_methSl {g : Exn → Addr} {i : Nat} {m : Str} {E : XK} (hi : ks[i]? = some (.v (.ref A.x))) (hf : ∀ p, p ∈ F.dw → ∃ m, (p.1, m) ∈ slM Cc A S' ++ ms ∧ Weak m p.2) (hm : ¬ m = nW ∧ ¬ m = nV ∧ ¬ m = nL ∧ ¬ m = nP) (h : EvA F (slM Cc A S ++ ms) tA ks fun xs => ∃ d, Rl xs S (.ret d) S' ∧ P d (slM Cc A S' ++ ms)) :
    EvM F (tMeth Cc m (SpSl Cc g Rl) [] E (tVar i) tA) ks (slM Cc A S ++ ms) P := fun σ H C r Q q => by
  obtain ⟨ln, hx⟩ := slM_x ⟨_, _, r⟩ (List.subset_append_left (slM Cc A S) ms)
  refine ⟨_, r.slot i _ hi, A.x, A.dx, _, rfl, hx, lk_no hm.1 hm.2.1 hm.2.2.1 hm.2.2.2, ?_⟩
  have := em_callSl (F := F) (E := E) (g := g) (Cc := Cc) (Rl := Rl) (S := S) hi hf h σ H C r Q q
  obtain ⟨v, hv, this⟩ := this
  have e := (r.slot i _ hi).symm.trans hv
  cases e
  exact this
end
end DL

namespace DL
open PySem PySem.Spec L2
/-- the class as the top has made it -/
structure TxS (K : PySem.W.Frag) (Cc : Addr) : Prop where
  cl : Cls K Cc
  nW : NoAttr K Cc nW
  nV : NoAttr K Cc nV
  nL : NoAttr K Cc nL
  nP : NoAttr K Cc nP
/-- a reading that gives the object at l -/
def RefAt (F : FC) (R : Mem) (te : TE) (ks : List SK) (l : Addr) : Prop := ∀ ms σ H C, R ⊆ ms → Real F ks ms σ H C → ∀ Q : VK, Q (.ref l) H → te σ H Q
section
variable {F : FC} {R : Mem} {ks : List SK} {ms : Mem} {te ta tb tv : TE} {tA : TA} {P : PyData → Prop} {D : DE} {K : PySem.W.Frag} {Cc l : Addr} {A : SlA} {S S' : SlS} {i : Nat} {ds : List PyData}
theorem sl_x (hs : slM Cc A S ⊆ R) {ms : Mem} {σ : St} {H C : Hp} (hR : R ⊆ ms) (r : Real F ks ms σ H C) : ∃ ln, H A.x = some (.ins Cc A.dx (flds S.k A.vi ln A.pa)) ∧ Dn C ln (dL S.line) := by
  obtain ⟨_, ⟨_, o, e, ln, rfl, d⟩, _⟩ := r.mo A.x _ (hR (hs List.mem_cons_self))
  exact ⟨ln, e, d⟩
theorem ra_var (hi : ks[i]? = some (.v (.ref l))) : RefAt F R (tVar i) ks l := fun ms σ H C hR r Q q => ⟨_, r.slot i _ hi, q⟩
theorem ra_V (T : TxS K Cc) (hi : ks[i]? = some (.v (.ref A.x))) (hs : slM Cc A S ⊆ R) : RefAt F R (tFld K (tVar i) nV) ks A.vi := fun ms σ H C hR r Q q => by
  obtain ⟨ln, hx, _⟩ := sl_x hs hR r
  exact ⟨_, r.slot i _ hi, A.x, Cc, A.dx, _, _, rfl, hx, T.cl, T.nV, lk_V, q⟩
theorem ra_P (T : TxS K Cc) (hi : ks[i]? = some (.v (.ref A.x))) (hs : slM Cc A S ⊆ R) : RefAt F R (tFld K (tVar i) nP) ks A.pa := fun ms σ H C hR r Q q => by
  obtain ⟨ln, hx, _⟩ := sl_x hs hR r
  exact ⟨_, r.slot i _ hi, A.x, Cc, A.dx, _, _, rfl, hx, T.cl, T.nP, lk_P, q⟩
theorem ev_fW (T : TxS K Cc) (hi : ks[i]? = some (.v (.ref A.x))) (hs : slM Cc A S ⊆ R) (p : P (.int S.k)) : Ev F R (tFld K (tVar i) nW) ks P := fun ms σ H C hR r Q q => by
  obtain ⟨ln, hx, _⟩ := sl_x hs hR r
  exact ⟨_, r.slot i _ hi, A.x, Cc, A.dx, _, _, rfl, hx, T.cl, T.nW, lk_W, q _ H C _ p r (Ex.refl C) (.int _)⟩
theorem ev_fL (T : TxS K Cc) (hi : ks[i]? = some (.v (.ref A.x))) (hs : slM Cc A S ⊆ R) (p : P (dL S.line)) : Ev F R (tFld K (tVar i) nL) ks P := fun ms σ H C hR r Q q => by
  obtain ⟨ln, hx, d⟩ := sl_x hs hR r
  exact ⟨_, r.slot i _ hi, A.x, Cc, A.dx, _, _, rfl, hx, T.cl, T.nL, lk_L, q _ H C _ p r (Ex.refl C) d⟩
theorem ev_lenA (h : RefAt F R te ks l) (hl : (l, MO.l ds) ∈ R) (p : P (.int (ds.length : Nat))) : Ev F R (tCB (rLen K) (tCons te tNil)) ks P := fun ms σ H C hR r Q q => by
  obtain ⟨_, ⟨xs, hxs, dxs⟩, _⟩ := r.mo l _ (hR hl)
  exact h ms σ H C hR r _ ⟨l, xs, rfl, .inl (SqL.of hxs), q _ H C _ (by rw [dxs.length]; exact p) r (Ex.refl C) (.int _)⟩
theorem ev_ixA (h : RefAt F R te ks l) (hl : (l, MO.l ds) ∈ R) (hb : Ev F R tb ks fun y => ∃ k d, y = .int k ∧ atI ds k = some d ∧ P d) : Ev F R (tOp (rIxL K) te tb) ks P := fun ms σ H C hR r Q q => by
  refine h ms σ H C hR r _ (hb ms σ H C hR r _ fun v H1 C1 x p r1 e1 d1 => ?_)
  obtain ⟨k, d, rfl, hk, p⟩ := p
  cases d1
  obtain ⟨_, ⟨xs, hxs, dxs⟩, _⟩ := r1.mo l _ (hR hl)
  obtain ⟨v, e, dv⟩ := atI_dn dxs hk
  exact ⟨l, xs, k, v, rfl, rfl, SqL.of hxs, e, q _ H1 C1 _ p r1 e1 dv⟩
theorem ev_eqA {ns : List Int} (h : RefAt F R te ks l) (hl : (l, MO.l (ns.map PyData.int)) ∈ R) (hb : Ev F R tb ks fun y => y = .list [] ∧ P (.bool ns.isEmpty)) : Ev F R (tOp (rEqD K) te tb) ks P := fun ms σ H C hR r Q q => by
  refine h ms σ H C hR r _ (hb ms σ H C hR r _ fun v H1 C1 x p r1 e1 d1 => ?_)
  obtain ⟨rfl, p⟩ := p
  obtain ⟨_, ⟨xs, hxs, dxs⟩, _⟩ := r1.mo l _ (hR hl)
  refine ⟨dL ns, dL [], .lst (SqL.of hxs) (DnAll.dp _ _ (dxs.up r1.ch)), (d1.up r1.ch).dp _ _, (sh_dL ns).ok (by decide), (sh_dL []).ok (by decide), ?_⟩
  rw [ap_dL]
  have e : decide (ns = []) = ns.isEmpty := by cases ns <;> rfl
  rw [e]
  exact q _ H1 C1 _ p r1 e1 (.bl _)
theorem ev_slA {tl th : TO} (h : RefAt F R te ks l) (hl : (l, MO.l ds) ∈ R) (ho : EvO F R tl ks fun lo => EvO F R th ks fun hi => P (.list (cut ds lo hi))) : Ev F R (tSl (rSlL K) te tl th) ks P := fun ms σ H C hR r Q q => by
  refine h ms σ H C hR r _ (ho ms σ H C hR r _ fun lo H1 C1 p1 r1 e1 => p1 ms σ H1 C1 hR r1 _ fun hi H2 C2 p2 r2 e2 => ?_)
  obtain ⟨_, ⟨xs, hxs, dxs⟩, _⟩ := r2.mo l _ (hR hl)
  refine ⟨l, xs, rfl, SqL.of hxs, fun p hp => ?_⟩
  obtain ⟨r3, e3⟩ := r2.new hp (.lst (cutV xs lo hi))
  exact q _ _ _ _ p2 r3 ((e1.trans e2).trans e3) (.lst upd_same ((dxs.cut lo hi).up e3))
/-- all of F's drawn things are this object's -/
theorem dw_sl (hD : ∀ p, p ∈ F.dw → p ∈ slW A) : ∀ p, p ∈ F.dw → ∃ m, (p.1, m) ∈ slM Cc A S' ++ ms ∧ Weak m p.2 := fun p hp => by
  have := hD p hp
  unfold slW at this
  simp only [List.mem_cons, List.mem_nil_iff, or_false] at this
  rcases this with rfl | rfl | rfl | rfl
  · exact ⟨_, List.mem_append_left _ List.mem_cons_self, weak_any _⟩
  · exact ⟨_, List.mem_append_left _ (List.mem_cons_of_mem _ List.mem_cons_self), weak_any _⟩
  · exact ⟨_, List.mem_append_left _ (List.mem_cons_of_mem _ (List.mem_cons_of_mem _ List.mem_cons_self)), weak_any _⟩
  · exact ⟨_, List.mem_append_left _ (List.mem_cons_of_mem _ (List.mem_cons_of_mem _ (List.mem_cons_of_mem _ List.mem_cons_self))), weak_any _⟩
theorem Real.slU {σ : St} {H C : Hp} (r : Real F ks (slM Cc A S ++ ms) σ H C) (hD : ∀ p, p ∈ F.dw → p ∈ slW A) {l : Addr} (hl : l ∈ A.as) {o : HO} (hm : ∀ p ∈ slM Cc A S', MOk C (upd H l o) p.1 p.2) : Real F ks (slM Cc A S' ++ ms) σ (upd H l o) C := by
  have hc : ∀ a o, C a = some o → a ∉ A.as := fun a o z h => by
    rw [← slM_as Cc A S] at h
    obtain ⟨p, hp, rfl⟩ := List.mem_map.mp h
    have := (r.mo p.1 p.2 (List.mem_append_left _ hp)).1
    rw [this] at z; cases z
  refine r.sl (dw_sl hD) (fun a o' e ha => ?_) (Ex.refl C) (fun a o' z => ⟨?_, .inl z⟩) hm
  · rw [upd_ne (fun z : a = l => ha (by rw [z]; exact hl))]; exact e
  · rw [upd_ne (fun z2 : a = l => hc a o' z (by rw [z2]; exact hl))]; exact r.ch _ _ z
theorem sl_ok {σ : St} {H C : Hp} (r : Real F ks (slM Cc A S ++ ms) σ H C) : ∃ ln vps, H A.x = some (.ins Cc A.dx (flds S.k A.vi ln A.pa)) ∧ Dn C ln (dL S.line) ∧ H A.dx = some (.own A.x) ∧ H A.vi = some (.lst (S.vs.map V.int)) ∧ H A.pa = some (.lst vps) ∧ DnAll C vps (S.past.map dL) ∧ A.as.Nodup := by
  obtain ⟨ln, hx, d⟩ := sl_x (S := S) (List.subset_append_left _ ms) (fun _ z => z) r
  have h2 := (r.mo A.dx _ (List.mem_append_left _ (List.mem_cons_of_mem _ List.mem_cons_self))).2.1
  obtain ⟨xs, h3, d3⟩ := (r.mo A.vi _ (List.mem_append_left _ (List.mem_cons_of_mem _ (List.mem_cons_of_mem _ List.mem_cons_self)))).2.1
  obtain ⟨ps, h4, d4⟩ := (r.mo A.pa _ (List.mem_append_left _ (List.mem_cons_of_mem _ (List.mem_cons_of_mem _ (List.mem_cons_of_mem _ List.mem_cons_self))))).2.1
  have e := d3.ints
  subst e
  exact ⟨ln, ps, hx, d, h2, h3, h4, d4, slM_nd ⟨_, _, _, r⟩⟩
theorem sl_mk {C H : Hp} {ln : V} {vps : List V} (h1 : H A.x = some (.ins Cc A.dx (flds S.k A.vi ln A.pa))) (d : Dn C ln (dL S.line)) (h2 : H A.dx = some (.own A.x)) (h3 : H A.vi = some (.lst (S.vs.map V.int))) (h4 : H A.pa = some (.lst vps)) (d4 : DnAll C vps (S.past.map dL)) : ∀ p ∈ slM Cc A S, MOk C H p.1 p.2 := fun p hp => by
  unfold slM at hp
  simp only [List.mem_cons, List.mem_nil_iff, or_false] at hp
  rcases hp with rfl | rfl | rfl | rfl
  · exact ⟨slQ_up, _, h1, ln, rfl, d⟩
  · exact h2
  · exact ⟨_, h3, dn_ints _ _⟩
  · exact ⟨_, h4, d4⟩
theorem as_ne (h : A.as.Nodup) : A.x ≠ A.dx ∧ A.x ≠ A.vi ∧ A.x ≠ A.pa ∧ A.dx ≠ A.vi ∧ A.dx ≠ A.pa ∧ A.vi ≠ A.pa := by
  unfold SlA.as at h
  simp only [List.nodup_cons, List.mem_cons, List.mem_nil_iff, or_false, not_or, List.not_mem_nil, not_false_eq_true, List.nodup_nil, and_true] at h
  obtain ⟨⟨a, b, c⟩, ⟨d, e⟩, f⟩ := h
  exact ⟨a, b, c, d, e, f⟩
/-- self.values_in.append(v) -/
theorem ws_appV (T : TxS K Cc) (hi : ks[i]? = some (.v (.ref A.x))) (hD : ∀ p, p ∈ F.dw → p ∈ slW A) (hn : S.vs.length < 100000) (h : Ev F (slM Cc A S ++ ms) tv ks fun d => ∃ v, d = .int v ∧ D.nx ks (slM Cc A { S with vs := S.vs ++ [v] } ++ ms)) :
    WS F (tDrop (tBM K "list" rAppend (tFld K (tVar i) nV) (tCons tv tNil))) ks (slM Cc A S ++ ms) D := fun σ H C r Ec q1 q2 q3 q4 => by
  obtain ⟨ln, vps, h1, d1, h2, h3, h4, d4, nd⟩ := sl_ok r
  refine ⟨_, r.slot i _ hi, A.x, Cc, A.dx, _, _, rfl, h1, T.cl, T.nV, lk_V, .inl ⟨rfl, _, SqL.of h3⟩, ?_⟩
  refine h _ σ H C (fun _ z => z) r _ fun v H' C' d p r' e' dv => ?_
  obtain ⟨n, rfl, p⟩ := p
  cases dv
  obtain ⟨ln, vps, h1, d1, h2, h3, h4, d4, _⟩ := sl_ok r'
  obtain ⟨n1, n2, n3, n4, n5, n6⟩ := as_ne nd
  refine ⟨A.vi, _, _, rfl, rfl, h3, by rw [List.length_map]; exact Evl.sz_lt hn, q1 _ _ _ _ _ p (r'.slU hD (by unfold SlA.as; simp) (sl_mk (S := { S with vs := S.vs ++ [n] }) (by rw [upd_ne n2]; exact h1) d1 (by rw [upd_ne n4]; exact h2) ?_ (by rw [upd_ne n6.symm]; exact h4) d4)) e'⟩
  rw [upd_same, List.map_append]
  rfl
/-- self.past.append(self.line) -/
theorem ws_appP (T : TxS K Cc) (hi : ks[i]? = some (.v (.ref A.x))) (hD : ∀ p, p ∈ F.dw → p ∈ slW A) (hn : S.past.length < 100000) (h : Ev F (slM Cc A S ++ ms) tv ks fun d => ∃ v, d = dL v ∧ D.nx ks (slM Cc A { S with past := S.past ++ [v] } ++ ms)) :
    WS F (tDrop (tBM K "list" rAppend (tFld K (tVar i) nP) (tCons tv tNil))) ks (slM Cc A S ++ ms) D := fun σ H C r Ec q1 q2 q3 q4 => by
  obtain ⟨ln, vps, h1, d1, h2, h3, h4, d4, nd⟩ := sl_ok r
  refine ⟨_, r.slot i _ hi, A.x, Cc, A.dx, _, _, rfl, h1, T.cl, T.nP, lk_P, .inl ⟨rfl, _, SqL.of h4⟩, ?_⟩
  refine h _ σ H C (fun _ z => z) r _ fun v H' C' d p r' e' dv => ?_
  obtain ⟨n, rfl, p⟩ := p
  obtain ⟨ln, vps, h1, d1, h2, h3, h4, d4, _⟩ := sl_ok r'
  obtain ⟨n1, n2, n3, n4, n5, n6⟩ := as_ne nd
  refine ⟨A.pa, _, _, rfl, rfl, h4, by rw [d4.length, List.length_map]; exact Evl.sz_lt hn, q1 _ _ _ _ _ p (r'.slU hD (by unfold SlA.as; simp) (sl_mk (S := { S with past := S.past ++ [n] }) (by rw [upd_ne n3]; exact h1) d1 (by rw [upd_ne n5]; exact h2) (by rw [upd_ne n6]; exact h3) upd_same ?_)) e'⟩
  rw [List.map_append]
  exact d4.app (.cons dv .nil)
theorem DnAll.last {C : Hp} : ∀ {xs : List V} {ds : List PyData}, DnAll C xs ds → ds ≠ [] → ∃ y d, xs[xs.length - 1]? = some y ∧ ds.getLast? = some d ∧ Dn C y d ∧ DnAll C xs.dropLast ds.dropLast
  | _, _, .nil, hne => absurd rfl hne
  | _, _, .cons h1 .nil, _ => ⟨_, _, rfl, rfl, h1, .nil⟩
  | _, _, .cons h1 (.cons g1 g2), _ => by
    obtain ⟨y, d', e1, e2, e3, e4⟩ := DnAll.last (DnAll.cons g1 g2) (by simp)
    refine ⟨y, d', by simpa using e1, ?_, e3, ?_⟩
    · rw [List.getLast?_cons_cons]; exact e2
    · exact .cons h1 e4
/-- self.line = self.past.pop() -/
theorem ws_popL (T : TxS K Cc) (hi : ks[i]? = some (.v (.ref A.x))) (hD : ∀ p, p ∈ F.dw → p ∈ slW A) {past : List (List Int)} {line : List Int} (hp : S.past = past ++ [line]) (h : D.nx ks (slM Cc A { S with past := past, line := line } ++ ms)) :
    WS F (sFld K (tVar i) (tBM0 K "list" rPop (tFld K (tVar i) nP)) nL) ks (slM Cc A S ++ ms) D := fun σ H C r Ec q1 q2 q3 q4 => by
  obtain ⟨ln, vps, h1, d1, h2, h3, h4, d4, nd⟩ := sl_ok r
  obtain ⟨n1, n2, n3, n4, n5, n6⟩ := as_ne nd
  obtain ⟨y, d, e1, e2, e3, e4⟩ := d4.last (by rw [hp]; simp)
  rw [hp, List.map_append] at e2 e4
  have e2 : d = dL line := by simpa using e2.symm
  subst e2
  have e4 : DnAll C vps.dropLast (past.map dL) := by simpa using e4
  refine ⟨_, r.slot i _ hi, A.x, Cc, A.dx, _, _, rfl, h1, T.cl, T.nP, lk_P, .inl ⟨rfl, _, SqL.of h4⟩, A.pa, _, y, rfl, rfl, h4, e1, ?_⟩
  have ra := r.slU (S' := { S with past := past }) hD (l := A.pa) (o := .lst vps.dropLast) (by unfold SlA.as; simp) (sl_mk (S := { S with past := past }) (by rw [upd_ne n3]; exact h1) d1 (by rw [upd_ne n5]; exact h2) (by rw [upd_ne n6]; exact h3) upd_same e4)
  obtain ⟨ln, vps', h1, d1, h2, h3, h4, d4, _⟩ := sl_ok ra
  refine ⟨_, ra.slot i _ hi, A.x, Cc, A.dx, _, rfl, h1, T.cl, T.nL, by unfold flds; simp, ?_⟩
  rw [put_L]
  exact q1 _ _ _ _ _ h (ra.slU hD (by unfold SlA.as; simp) (sl_mk (S := { S with past := past, line := line }) upd_same e3 (by rw [upd_ne n1.symm]; exact h2) (by rw [upd_ne n2.symm]; exact h3) (by rw [upd_ne n3.symm]; exact h4) d4)) (Ex.refl C)
/-- self.values_in.pop() -/
theorem em_popV (T : TxS K Cc) (hi : ks[i]? = some (.v (.ref A.x))) (hD : ∀ p, p ∈ F.dw → p ∈ slW A) {vs : List Int} {v : Int} {Pm : PyData → Mem → Prop} (hp : S.vs = vs ++ [v]) (h : Pm (.int v) (slM Cc A { S with vs := vs } ++ ms)) :
    EvM F (tBM0 K "list" rPop (tFld K (tVar i) nV)) ks (slM Cc A S ++ ms) Pm := fun σ H C r Q q => by
  obtain ⟨ln, vps, h1, d1, h2, h3, h4, d4, nd⟩ := sl_ok r
  obtain ⟨n1, n2, n3, n4, n5, n6⟩ := as_ne nd
  refine ⟨_, r.slot i _ hi, A.x, Cc, A.dx, _, _, rfl, h1, T.cl, T.nV, lk_V, .inl ⟨rfl, _, SqL.of h3⟩, A.vi, _, .int v, rfl, rfl, h3, ?_, ?_⟩
  · rw [hp]; simp
  · refine q _ _ C (.int v) _ h (r.slU hD (by unfold SlA.as; simp) (sl_mk (S := { S with vs := vs }) (by rw [upd_ne n2]; exact h1) d1 (by rw [upd_ne n4]; exact h2) ?_ (by rw [upd_ne n6.symm]; exact h4) d4)) (Ex.refl C) (.int v)
    rw [upd_same, hp]
    simp
/-- self.line = .. -/
theorem ws_setL (T : TxS K Cc) (hi : ks[i]? = some (.v (.ref A.x))) (hD : ∀ p, p ∈ F.dw → p ∈ slW A) (h : Ev F (slM Cc A S ++ ms) tv ks fun d => ∃ line, d = dL line ∧ D.nx ks (slM Cc A { S with line := line } ++ ms)) :
    WS F (sFld K (tVar i) tv nL) ks (slM Cc A S ++ ms) D := fun σ H C r Ec q1 q2 q3 q4 => by
  refine h _ σ H C (fun _ z => z) r _ fun v H' C' d p ra e' dv => ?_
  obtain ⟨line, rfl, p⟩ := p
  obtain ⟨ln, vps', h1, d1, h2, h3, h4, d4, nd⟩ := sl_ok ra
  obtain ⟨n1, n2, n3, n4, n5, n6⟩ := as_ne nd
  refine ⟨_, ra.slot i _ hi, A.x, Cc, A.dx, _, rfl, h1, T.cl, T.nL, by unfold flds; simp, ?_⟩
  rw [put_L]
  exact q1 _ _ _ _ _ p (ra.slU hD (by unfold SlA.as; simp) (sl_mk (S := { S with line := line }) upd_same dv (by rw [upd_ne n1.symm]; exact h2) (by rw [upd_ne n2.symm]; exact h3) (by rw [upd_ne n3.symm]; exact h4) d4)) e'
theorem ws_raiseS {e : Exn} (h : ∀ σ H C, Real F ks ms σ H C → F.E (.ref (F.g e)) none H) : WS F (tRz F.E (F.g e)) ks ms D := fun σ H C r Ec q1 q2 q3 q4 => h σ H C r
end
/-! ### a def of such an object by its body -/
def slF (g : Exn → Addr) (C0 H0 : Hp) (E : XK) (Cc : Addr) (A : SlA) (out : Out) (S' : SlS) : FC :=
  { g := g, C0 := C0, H0 := H0, dw := slW A, rt := fun d ms => out = .ret d ∧ slM Cc A S' ⊆ ms, ex := fun _ => False, E := E, hE := fun _ _ h => h.elim }
section
variable {P : Program} {w : World} {K : PySem.W.Frag} {mg : Str → Option Value} {base : Heap}
theorem fn_sl {x qual : Str} {st : Stmt} {f : Addr} {fd : FuncData} {N ps : List Str} {k : Nat} {g : Exn → Addr} {Cc : Addr} {Rl : List PyData → SlS → Out → SlS → Prop} (Fn : Fun K x qual st f fd) (Sc : FnScope N ps (defScope st)) (len : ∀ ds S out S', Rl ds S out S' → ds.length + 1 = ps.length) (hp : ps.length ≤ N.length)
    (body : ∀ (cdv : Value) (Ar : Around) (outer : List Env) (s : Shared) (H : Hp) (E : XK), Room k (Ar.deeper (PyProof.Rows.envOfC qual (defScope st) s.heap.objs.size f cdv)) →
      ∃ t, PSs (cxOf (L2.CX P w) P w K mg base N qual (defScope st) f cdv Ar outer s H E) (defBody st) t ∧
        ∀ C0 H0 A S S' ds out, A.as.Nodup → Rl ds S out S' → (∀ e ks ms σ H C, out = .exc e → slM Cc A S ⊆ ms → Real (slF g C0 H0 E Cc A out S') ks ms σ H C → E (.ref (g e)) none H) →
          WS (slF g C0 H0 E Cc A out S') t (.v (.ref A.x) :: (ds.map SK.d ++ List.replicate (N.length - 1 - ds.length) .un)) (slM Cc A S) { nx := fun _ ms => out = .ret .none ∧ slM Cc A S' ⊆ ms }) : FnOk P w K mg base (L2.CX P w) (k + 1) f fd ps (SpSl Cc g Rl) := by
  refine Fn.okX Sc (fun vs H Q E h => ?_) (fun cdv A outer s H vs Q E hr h => ?_)
  · obtain ⟨C, A, S, S', vs', ds, out, rfl, _, _, _, hd, hR, _⟩ := h
    rw [List.length_cons, hd.length]
    exact len _ _ _ _ hR
  · obtain ⟨t, ht, hw⟩ := body cdv A outer s H E hr
    refine ⟨t, ht, ?_⟩
    obtain ⟨C, A, S, S', vs', ds, out, rfl, eC, nd, hm, hd, hR, hq⟩ := h
    have hl := len _ _ _ _ hR
    have rs : Real (slF g C H E Cc A out S') (.v (.ref A.x) :: (ds.map SK.d ++ List.replicate (N.length - 1 - ds.length) .un)) (slM Cc A S) (L2.start N (.ref A.x :: vs')) H C := by
      refine ⟨?_, ?_, fun a o h => ⟨eC a o h, .inl h⟩, fun a o h => h, fun a o h _ => h, ?_, ?_, ?_⟩
      · unfold L2.start
        rw [List.length_append, List.length_map, List.length_replicate, List.length_cons, List.length_cons, List.length_append, List.length_map, List.length_replicate, hd.length]
        omega
      · intro i k hk
        unfold L2.start
        cases i with
        | zero => cases hk; rfl
        | succ i =>
          rw [List.getElem?_cons_succ] at hk
          show SlotOk C k (some (V.ref A.x) :: (vs'.map some ++ _))[i + 1]?
          rw [List.getElem?_cons_succ]
          by_cases hi : i < ds.length
          · rw [List.getElem?_append_left (by simpa using hi), List.getElem?_map] at hk
            rw [List.getElem?_append_left (by simpa [hd.length] using hi), List.getElem?_map]
            have hdi : ds[i]? = some ds[i] := by simp [hi]
            rw [hdi] at hk
            cases hk
            obtain ⟨v, hv, dv⟩ := hd.get hdi
            rw [hv]
            exact ⟨v, rfl, dv⟩
          · rw [List.getElem?_append_right (by simpa using hi), List.getElem?_replicate] at hk
            split at hk
            · cases hk; trivial
            · cases hk
      · intro p h
        obtain ⟨m, h1, h2⟩ := dw_sl (F := slF g C H E Cc A out S') (Cc := Cc) (S' := S) (ms := []) (fun _ z => z) p h
        rw [List.append_nil] at h1
        exact ⟨m, h1, h2⟩
      · intro l m h
        obtain ⟨h1, h2⟩ := hm _ h
        refine ⟨h1, h2, .inr ?_⟩
        have ha : l ∈ (slW A).map (·.1) := List.mem_map.mpr ⟨(l, m), h, rfl⟩ |> fun z : l ∈ (slM Cc A S).map (·.1) => z
        obtain ⟨⟨l', m'⟩, q1, q2⟩ := List.mem_map.mp ha
        have q2 : l' = l := q2
        subst q2
        exact ⟨m', q1⟩
      · rw [slM_as]; exact nd
    have nf : ∀ a, a ∉ A.as → ¬ (slF g C H E Cc A out S').fx a := fun a ha ⟨m, z⟩ => ha (by
      have z : (a, m) ∈ slW A := z
      have : a ∈ (slW A).map (·.1) := List.mem_map.mpr ⟨_, z, rfl⟩
      exact this)
    refine hw C H A S S' ds out nd hR (fun e ks ms σ H' C' ho hs r' => ?_) (L2.start N (.ref A.x :: vs')) H C rs _ ?_ ?_ ?_ ?_
    · subst ho
      exact hq H' C' (fun a o z ha => r'.keep a o z (nf a ha)) (fun a o z => r'.c0 a o z) (fun a o z => r'.sub a o z) (fun p hp => (r'.mo _ _ (hs hp)).2.1)
    · intro ks' ms' σ' H' C' ho r' e'
      obtain ⟨ho, hs⟩ := ho
      subst ho
      exact hq .non H' C' (fun a o z ha => r'.keep a o z (nf a ha)) (fun a o z => e' a o z) (fun a o z => r'.sub a o z) (fun p hp => (r'.mo _ _ (hs hp)).2.1) .non
    · intro ks' ms' σ' H' C' ho; exact ho.elim
    · intro ks' ms' σ' H' C' ho; exact ho.elim
    · intro v ks' ms' σ' H' C' d ho r' dv
      obtain ⟨ho, hs⟩ := ho
      subst ho
      exact hq v H' C' (fun a o z ha => r'.keep a o z (nf a ha)) (fun a o z => r'.c0 a o z) (fun a o z => r'.sub a o z) (fun p hp => (r'.mo _ _ (hs hp)).2.1) dv
end
end DL

namespace DL
open PySem PySem.Spec PyProof.Rows L2
/-! ### methods, making, len of an own object -/
structure DefM (K : PySem.W.Frag) (Cc : Addr) (m qual : Str) (st : Stmt) (ps : List Str) : Prop where
  ex : ∃ (f : Addr) (fd : FuncData), Fun K m qual st f fd ∧ Meth K Cc m f ∧ Binds K fd ps []
structure MEnt (P : Program) (w : World) (K : PySem.W.Frag) (mg : Str → Option Value) (base : Heap) (Cc : Addr) (m : Str) (ps : List Str) (k : Nat) (sp : Sp) : Prop where
  ex : ∃ (f : Addr) (fd : FuncData), FnOk P w K mg base (L2.CX P w) k f fd ps sp ∧ Meth K Cc m f ∧ Binds K fd ps []
structure DefI (K : PySem.W.Frag) (mg : Str → Option Value) (Cc : Addr) (x qual : Str) (st : Stmt) (ps : List Str) : Prop where
  ex : ∃ (f : Addr) (fd : FuncData), Fun K "__init__" qual st f fd ∧ Mk K Cc f ∧ mg x = some (.ref Cc) ∧ Binds K fd ps []
structure IEnt (P : Program) (w : World) (K : PySem.W.Frag) (mg : Str → Option Value) (base : Heap) (Cc : Addr) (x : Str) (ps : List Str) (k : Nat) (sp : Sp) : Prop where
  ex : ∃ (f : Addr) (fd : FuncData), FnOk P w K mg base (L2.CX P w) k f fd ps sp ∧ Mk K Cc f ∧ mg x = some (.ref Cc) ∧ Binds K fd ps []
section
variable {P : Program} {w : World} {K : PySem.W.Frag} {mg : Str → Option Value} {base : Heap} {Cc : Addr}
theorem DefM.ent {m qual : Str} {st : Stmt} {ps : List Str} {k : Nat} {sp : Sp} (d : DefM K Cc m qual st ps) (h : ∀ f fd, Fun K m qual st f fd → FnOk P w K mg base (L2.CX P w) k f fd ps sp) : MEnt P w K mg base Cc m ps k sp := by
  obtain ⟨f, fd, F, m, b⟩ := d.ex
  exact ⟨f, fd, h f fd F, m, b⟩
theorem DefI.ent {x qual : Str} {st : Stmt} {ps : List Str} {k : Nat} {sp : Sp} (d : DefI K mg Cc x qual st ps) (h : ∀ f fd, Fun K "__init__" qual st f fd → FnOk P w K mg base (L2.CX P w) k f fd ps sp) : IEnt P w K mg base Cc x ps k sp := by
  obtain ⟨f, fd, F, m, g, b⟩ := d.ex
  exact ⟨f, fd, h f fd F, m, g, b⟩
end
/-- o.m(..) in a try -/
def tMethT (C : Addr) (m : Str) (sp : Sp) (E : L2.St → XK) (ta : TE) (t : TA) : TE := fun σ H Q => ta σ H fun x H1 => ∃ a dx fs, x = .ref a ∧ H1 a = some (.ins C dx fs) ∧ fs.lookup m = none ∧ t σ H1 fun vs H2 => sp (x :: vs) H2 Q (E σ)
/-- len(o) -/
def rLenO (Cc : Addr) (sp : Sp) (E : XK) : List V → Hp → VK → Prop := fun xs H Q => ∃ a dx fs, xs = [.ref a] ∧ H a = some (.ins Cc dx fs) ∧ sp [.ref a] H (fun v H' => ∃ n : Nat, v = .int n ∧ n < 1000000 ∧ Q (.int n) H') E
section
variable {X : Cx} {K : PySem.W.Frag} {k : Nat} {Cc : Addr} {ps : List Str} {sp : Sp} {m x f : Str} {p pos pos' apos : Pos} {e o value : Expr} {es : List Expr} {ta tv : TE} {t : TA}
theorem k_fld (he : PE X e ta) (hb : attributeBase e f X.env (eval e X.env) = eval e X.env) (h : X.K = K := by rfl) : PE X (.Attribute e f pos) (tFld K ta f) := h ▸ pe_fld he hb
theorem k_sfld (ha : PE X o ta) (hv : PE X value tv) (hs : swapsWith value (some (.Attribute o f pos')) pos.line X.env = pure false) (h : X.K = K := by rfl) : PS X (.Assign [.Attribute o f pos'] value pos) (sFld K ta tv f) := h ▸ ps_fld ha hv hs
theorem k_bm0 {T name id : String} {r : V → List V → Hp → VK → Prop} (pa : PlainAttrs T) (slot : Slot T name id) (hty : typeOf (.builtin id) = pure (.type "method_descriptor")) (hm : MtR X id r) (ho : PE X o ta)
    (hbase : attributeBase o name X.env (eval o X.env) = eval o X.env := by rfl) (hline : (apos.endLine == pos.line) = true := by rfl) (h : X.K = K := by rfl) : PE X (.Call (.Attribute o name apos) [] [] pos) (tBM0 K T r ta) := h ▸ pe_bm0 pa slot hty hm ho hbase hline
theorem pe_ment {pl : Sem Bool} (n : MEnt X.prog X.w X.K X.mg X.base Cc m ps k sp) (T : TxS X.K Cc) {j : Nat} {E : XK} (hr : Room j X.A) (hx : Passes (L2.CX X.prog X.w) X E) (ho : PE X o ta) (ha : PA X (e :: es) t) (hj : k ≤ j := by decide)
    (hst : starEach (e :: es) X.env = (false, eval e X.env) :: starEach es X.env := by rfl) (hpl : (backTo pos (starEach es X.env)).any (·.1) = false := by rfl)
    (ht : eval (.Call (.Attribute o m apos) (e :: es) [] pos) X.env = (do
      let ov ← eval o X.env
      standAt apos.atName
      let (f, first) ← holding [ov] (getMethod ov m pl)
      callWith pos f first (backTo pos (starEach (e :: es) X.env)) (backToKw pos (keywordEach [] X.env))) := by rfl) :
    PE X (.Call (.Attribute o m apos) (e :: es) [] pos) (tMeth Cc m sp [] E ta t) := by
  obtain ⟨f, fd, F, hm, b⟩ := n.ex
  exact pe_meth (pl := pl) ho T.cl hm F (hr.mono hj) b .nil hx ha hst hpl ht
theorem pe_ment0 {pl : Sem Bool} (n : MEnt X.prog X.w X.K X.mg X.base Cc m ps k sp) (T : TxS X.K Cc) {j : Nat} {E : XK} (hr : Room j X.A) (hx : Passes (L2.CX X.prog X.w) X E) (ho : PE X o ta) (hj : k ≤ j := by decide)
    (ht : eval (.Call (.Attribute o m apos) [] [] pos) X.env = (do
      let ov ← eval o X.env
      standAt apos.atName
      let (f, first) ← holding [ov] (getMethod ov m pl)
      callWith pos f first (backTo pos (starEach [] X.env)) (backToKw pos (keywordEach [] X.env))) := by rfl) :
    PE X (.Call (.Attribute o m apos) [] [] pos) (tMeth Cc m sp [] E ta tNil) := by
  obtain ⟨f, fd, F, hm, b⟩ := n.ex
  exact pe_meth0 (pl := pl) ho T.cl hm F (hr.mono hj) b .nil hx ht
theorem pe_mentT {pl : Sem Bool} (n : MEnt X.prog X.w X.K X.mg X.base Cc m ps k sp) (T : TxS X.K Cc) {j : Nat} {W : WX} (hr : Room j X.A) (tk : Takes X W) (ho : PE X o ta) (ha : PA X (e :: es) t) (hj : k ≤ j := by decide)
    (hst : starEach (e :: es) X.env = (false, eval e X.env) :: starEach es X.env := by rfl) (hpl : (backTo pos (starEach es X.env)).any (·.1) = false := by rfl)
    (ht : eval (.Call (.Attribute o m apos) (e :: es) [] pos) X.env = (do
      let ov ← eval o X.env
      standAt apos.atName
      let (f, first) ← holding [ov] (getMethod ov m pl)
      callWith pos f first (backTo pos (starEach (e :: es) X.env)) (backToKw pos (keywordEach [] X.env))) := by rfl) :
    PE X (.Call (.Attribute o m apos) (e :: es) [] pos) (tMethT Cc m sp (WE W) ta t) := by
  obtain ⟨f, fd, F, hm, b⟩ := n.ex
  refine ⟨fun pins s σ H Q I h => ?_⟩
  refine PySem.W.methodCall_KW (pl := pl) (thn (ho.run pins s σ H _ I h) fun u s1 ⟨x, H1, I1, rx, a, dx, fs, ex, ea, l, q⟩ => ?_) ht
  subst ex
  obtain rfl : u = Value.ref a := rx
  refine getmeth_ok I1 ea T.cl hm l ?_
  refine PySem.W.callWith_K (first := [.ref a]) (h₀ := X.base) I.ok.mod.kin hm.kp (thn (ha.run pos pins s1 σ H1 _ I1 q) fun us s2 ⟨vs, H2, I2, r, q2⟩ => ⟨I2.kIn, ?_⟩) hst hpl
  exact run_fnS (us := .ref a :: us) (vs := .ref a :: vs) F (hr.mono hj) b (passAt tk σ) I2 (.cons rfl r) q2
theorem pe_mentT0 {pl : Sem Bool} (n : MEnt X.prog X.w X.K X.mg X.base Cc m ps k sp) (T : TxS X.K Cc) {j : Nat} {W : WX} (hr : Room j X.A) (tk : Takes X W) (ho : PE X o ta) (hj : k ≤ j := by decide)
    (ht : eval (.Call (.Attribute o m apos) [] [] pos) X.env = (do
      let ov ← eval o X.env
      standAt apos.atName
      let (f, first) ← holding [ov] (getMethod ov m pl)
      callWith pos f first (backTo pos (starEach [] X.env)) (backToKw pos (keywordEach [] X.env))) := by rfl) :
    PE X (.Call (.Attribute o m apos) [] [] pos) (tMethT Cc m sp (WE W) ta tNil) := by
  obtain ⟨f, fd, F, hm, b⟩ := n.ex
  refine ⟨fun pins s σ H Q I h => ?_⟩
  refine PySem.W.methodCall_KW (pl := pl) (thn (ho.run pins s σ H _ I h) fun u s1 ⟨x, H1, I1, rx, a, dx, fs, ex, ea, l, q⟩ => ?_) ht
  subst ex
  obtain rfl : u = Value.ref a := rx
  refine getmeth_ok I1 ea T.cl hm l ?_
  exact PySem.W.callWith_K0 (first := [.ref a]) I1.kIn hm.kp (run_fnS (us := [.ref a]) (vs := [.ref a]) F (hr.mono hj) b (passAt tk σ) I1 (.cons rfl .nil) q)
theorem pe_ient (n : IEnt X.prog X.w X.K X.mg X.base Cc x ps k sp) {j : Nat} {E : XK} (hr : Room j X.A) (hx : Passes (L2.CX X.prog X.w) X E) (ha : PA X (e :: es) t) (hj : k + 1 ≤ j := by decide) (hg : Gl X x := by rfl) (hdb : (x == ("__debug__" : Str)) = false := by decide)
    (he : starEach (e :: es) X.env = (false, eval e X.env) :: starEach es X.env := by rfl) (hpl : (backTo pos (starEach es X.env)).any (·.1) = false := by rfl) : PE X (.Call (.Name x p) (e :: es) [] pos) (tMake Cc sp [] E t) := by
  obtain ⟨f, fd, F, M, g, b⟩ := n.ex
  exact pe_make M F (hr.mono hj) hg g b .nil hx ha hdb he hpl
theorem cr_lenO (n : MEnt X.prog X.w X.K X.mg X.base Cc "__len__" ["self"] k sp) (T : TxS X.K Cc) {j : Nat} {E : XK} (hr : Room j X.A) (hx : Passes (L2.CX X.prog X.w) X E) (hj : k + 1 ≤ j := by decide) : CallR X (.builtin "len") (rLenO Cc sp E) := by
  intro pins s σ H xs us Q I r h
  obtain ⟨a, dx, fs, rfl, ha, h⟩ := h
  rw [Vals.ref1 r]
  obtain ⟨f, fd, F, hm, b⟩ := n.ex
  obtain ⟨mA, O, _, _, _, _⟩ := ins_get I.hok ha
  obtain ⟨od, J, _⟩ := O.look
  refine Calls.call_function_entry kind_len plain_len entry_len (args_len1 _) ?_
  unfold Builtin.«len»
  refine wpAny_bind (m := oneArg "len" _) (wpAny_pure ?_)
  refine wpAny_bind (m := callSpecial? (.ref a) (Str.ofString "__len__")) (PySem.W.special_fn I.kIn J hm.at_ (beq_iff_eq.mp hm.fn) ?_)
  have hl : ([Value.ref a] ++ []).length = ["self"].length := rfl
  refine wpAny_call (codeAny_mono (F.run X.A.in1 X.stack s H ⟨[.ref a], []⟩ [.ref a] [.ref a] _ E (hr.mono hj).in1 I.env0.in1 (b s [.ref a] I.kIn rfl) (.cons rfl .nil) h) fun res s' hq => ?_)
  cases res with
  | error e => exact hx pins σ H s e s' I hq
  | ok fl =>
    cases fl with
    | ret u =>
      obtain ⟨v, H', I', rv, nn, rfl, hn, q⟩ := I.after hq
      obtain ⟨tk, rfl⟩ := (show ∃ t, u = Value.int nn t from rv)
      refine wpAny_bind (wpAny_holding (wpAny_pure ?_))
      refine wpAny_bind (wpAny_letGo ?_)
      show wpAny _ _ (if ((nn : Nat) : Int) < 0 then _ else _) _ _ _
      rw [if_neg (by omega)]
      show wpAny _ _ (if ((nn : Nat) : Int) ≥ 2 ^ 63 then _ else _) _ _ _
      rw [if_neg (by omega)]
      exact wpAny_bind (wpAny_mkInt (wpAny_pure ⟨_, rfl, .int nn, H', I'.tok _, ⟨_, rfl⟩, q⟩))
    | next => exact False.elim hq
    | brk => exact False.elim hq
    | cont => exact False.elim hq
end
section
variable {F : FC} {R : Mem} {ks : List SK} {ms : Mem} {te ta tb tv : TE} {tA : TA} {D : DE} {t u : TS} {Cc : Addr} {A : SlA} {S S' : SlS} {Rl : List PyData → SlS → Out → SlS → Prop} {g : Exn → Addr} {i : Nat}
/-- len(o) -/
theorem ev_lenO {E : XK} {P : PyData → Prop} (hi : ks[i]? = some (.v (.ref A.x))) (hs : slM Cc A S ⊆ R) (hn : A.as.Nodup) (h : ∃ n : Nat, Rl [] S (.ret (.int n)) S ∧ n < 1000000 ∧ P (.int n)) : Ev F R (tCB (rLenO Cc (SpSl Cc g Rl) E) (tCons (tVar i) tNil)) ks P := fun ms σ H C hR r Q q => by
  obtain ⟨n, hr, hlt, p⟩ := h
  obtain ⟨ln, hx⟩ := slM_x ⟨_, _, r⟩ (fun _ z => hR (hs z))
  refine ⟨_, r.slot i _ hi, A.x, A.dx, _, rfl, hx, ?_⟩
  have := ev_callSl (F := F) (E := E) (g := g) (Cc := Cc) (Rl := Rl) (A := A) (S := S) (R := R) (i := i) (tA := tNil) (Pd := fun d => d = .int n) hi hs hn (ea_nil ⟨_, hr, rfl⟩) ms σ H C hR r (fun v H' => ∃ n : Nat, v = .int n ∧ n < 1000000 ∧ Q (.int n) H') fun v H' C' d pd r' e' dv => by
    subst pd
    cases dv
    exact ⟨n, rfl, hlt, q _ H' C' _ p r' e' (.int _)⟩
  obtain ⟨v, hv, this⟩ := this
  have e := (r.slot i _ hi).symm.trans hv
  cases e
  exact this
/-- o.m(..) in a try's body: returns, with the object changed, or raises, with the object as it was -/
theorem em_methT {W : WX} {m : Str} {P : PyData → Mem → Prop} {XD : Exn → List SK → Prop} (hW : ∀ e ks' ms' σ' H' C', XD e ks' → (slM Cc A S ++ ms) ⊆ ms' → Real F ks' ms' σ' H' C' → W (.ref (g e)) none σ' H') (hi : ks[i]? = some (.v (.ref A.x))) (hD : ∀ p, p ∈ F.dw → p ∈ slW A) (hm : ¬ m = nW ∧ ¬ m = nV ∧ ¬ m = nL ∧ ¬ m = nP)
    (h : EvA F (slM Cc A S ++ ms) tA ks fun xs => ∃ out S', Rl xs S out S' ∧ match out with | .ret d => P d (slM Cc A S' ++ ms) | .exc e => XD e ks) :
    EvM F (tMethT Cc m (SpSl Cc g Rl) (WE W) (tVar i) tA) ks (slM Cc A S ++ ms) P := fun σ H C r Q q => by
  obtain ⟨ln, hx⟩ := slM_x ⟨_, _, r⟩ (List.subset_append_left (slM Cc A S) ms)
  refine ⟨_, r.slot i _ hi, A.x, A.dx, _, rfl, hx, lk_no hm.1 hm.2.1 hm.2.2.1 hm.2.2.2, ?_⟩
  refine h _ σ H C (fun _ z => z) r _ fun vs H1 C1 ds p r1 e1 d1 => ?_
  obtain ⟨out, S', hr, p⟩ := p
  cases out with
  | ret d => exact ⟨C1, A, S, S', vs, ds, .ret d, rfl, r1.ch, slM_nd ⟨_, _, _, r1⟩, slM_mo r1 (List.subset_append_left _ _), d1, hr, fun v H' C' kp eC hc hm dv => q v H' C' d _ p (r1.sl (dw_sl hD) kp eC hc hm) (e1.trans eC) dv⟩
  | exc e => exact ⟨C1, A, S, S', vs, ds, .exc e, rfl, r1.ch, slM_nd ⟨_, _, _, r1⟩, slM_mo r1 (List.subset_append_left _ _), d1, hr, fun H' C' kp eC hc hm => hW e ks _ σ H' C' p (fun _ z => z) (r1.sl (dw_sl hD) kp eC hc hm)⟩
/-- x if c else y, with changes -/
theorem em_if {c : TT} {P : PyData → Mem → Prop} (h : EvT F ms c ks fun b => (b = true → EvM F ta ks ms P) ∧ (b = false → EvM F tb ks ms P)) : EvM F (tIf c ta tb) ks ms P := fun σ H C r Q q => h ms σ H C (fun _ z => z) r _ fun b H1 C1 p r1 e1 => by
  cases b with
  | true => exact iteT (p.1 rfl σ H1 C1 r1 Q fun v H' C' d ms' p r' e' dv => q v H' C' d ms' p r' (e1.trans e') dv)
  | false => exact iteF (p.2 rfl σ H1 C1 r1 Q fun v H' C' d ms' p r' e' dv => q v H' C' d ms' p r' (e1.trans e') dv)
/-- a new object, by its reading -/
def EvNew (F : FC) (te : TE) (ks : List SK) (ms : Mem) (P : Addr → Mem → Prop) : Prop := ∀ σ H C, Real F ks ms σ H C → ∀ Q : VK, (∀ x H' C' ms', P x ms' → Real F ks ms' σ H' C' → Ex C C' → Q (.ref x) H') → te σ H Q
theorem ws_asgNew {P : Addr → Mem → Prop} (h : EvNew F te ks ms fun x ms' => D.nx (ks.set i (.v (.ref x))) ms') : WS F (tAsg te (gName i)) ks ms D := fun σ H C r Ec q1 q2 q3 q4 =>
  h σ H C r _ fun x H' C' ms' p r' e' => q1 _ _ _ _ _ p (r'.put (k := .v (.ref x)) rfl) e'
theorem ws_parNew {j : Nat} (h : EvNew F te ks ms fun x ms' => EvA F ms' tA ks fun xs => ∃ d, xs = [d] ∧ D.nx ((ks.set i (.v (.ref x))).set j (.d d)) ms') : WS F (tPar i j (tCons te tA)) ks ms D := fun σ H C r Ec q1 q2 q3 q4 =>
  h σ H C r _ fun x H' C' ms' p r' e' => p ms' σ H' C' (fun _ z => z) r' _ fun vs H2 C2 xs p2 r2 e2 dv => by
    obtain ⟨d, rfl, p2⟩ := p2
    obtain ⟨v, rfl, dw⟩ := dn_one dv
    exact ⟨_, _, rfl, q1 _ _ _ _ _ p2 ((r2.put (k := .v (.ref x)) rfl).put (k := .d d) ⟨v, rfl, dw⟩) (e'.trans e2)⟩
end
end DL

namespace DL
open PySem PySem.Spec L2
/-! ### making such an object -/
def SpIni (Cc : Addr) (g : Exn → Addr) (Bad : PyData → Prop) : Sp := fun vs H Q E => ∃ (C : Hp) (x dx : Addr) (wv : V) (d : PyData), vs = [.ref x, wv] ∧ Ex C H ∧ C x = none ∧ C dx = none ∧ x ≠ dx ∧ H x = some (.ins Cc dx []) ∧ H dx = some (.own x) ∧ Dn C wv d ∧
  (Bad d → ∀ H' C', (∀ a o, H a = some o → a ≠ x → a ≠ dx → H' a = some o) → Ex C C' → (∀ a o, C' a = some o → H' a = some o ∧ (C a = some o ∨ H a = none)) → E (.ref (g .width)) none H') ∧
  (∀ k : Int, d = .int k → 1 ≤ k → k ≤ 12 → ∀ (A : SlA) (H' C' : Hp), A.x = x → A.dx = dx → H A.vi = none → H A.pa = none → A.as.Nodup → (∀ a o, H a = some o → a ≠ x → a ≠ dx → H' a = some o) → Ex C C' → (∀ a o, C' a = some o → H' a = some o ∧ (C a = some o ∨ H a = none)) →
    (∀ p ∈ slM Cc A ⟨k, [], [], []⟩, C' p.1 = none ∧ MOk C' H' p.1 p.2) → Q .non H')
def iniF (g : Exn → Addr) (C0 H0 : Hp) (E : XK) (x dx : Addr) : FC :=
  { g := g, C0 := C0, H0 := H0, dw := [(x, .g fun _ _ => True), (dx, .g fun _ _ => True)], rt := fun _ _ => False, ex := fun _ => False, E := E, hE := fun _ _ h => h.elim }
section
variable {P : Program} {w : World} {K : PySem.W.Frag} {mg : Str → Option Value} {base : Heap}
theorem fn_ini {x qual : Str} {st : Stmt} {f : Addr} {fd : FuncData} {N : List Str} {a b : Str} {k : Nat} {g : Exn → Addr} {Cc : Addr} {Bad : PyData → Prop} (Fn : Fun K x qual st f fd) (Sc : FnScope N [a, b] (defScope st)) (hp : N.length = 2)
    (body : ∀ (cdv : Value) (Ar : Around) (outer : List Env) (s : Shared) (H : Hp) (E : XK), Room k (Ar.deeper (PyProof.Rows.envOfC qual (defScope st) s.heap.objs.size f cdv)) →
      ∃ t, PSs (cxOf (L2.CX P w) P w K mg base N qual (defScope st) f cdv Ar outer s H E) (defBody st) t ∧
        ∀ C0 H0 x dx d, (∀ ks σ H C, Bad d → Real (iniF g C0 H0 E x dx) ks [(x, .o (.ins Cc dx [])), (dx, .o (.own x))] σ H C → E (.ref (g .width)) none H) →
          WS (iniF g C0 H0 E x dx) t [.v (.ref x), .d d] [(x, .o (.ins Cc dx [])), (dx, .o (.own x))] { nx := fun _ ms => ∃ (k : Int) (vi pa : Addr), d = .int k ∧ 1 ≤ k ∧ k ≤ 12 ∧ ¬ (iniF g C0 H0 E x dx).fx vi ∧ ¬ (iniF g C0 H0 E x dx).fx pa ∧ ms = slM Cc ⟨x, dx, vi, pa⟩ ⟨k, [], [], []⟩ }) : FnOk P w K mg base (L2.CX P w) (k + 1) f fd [a, b] (SpIni Cc g Bad) := by
  refine Fn.okX Sc (fun vs H Q E h => ?_) (fun cdv A outer s H vs Q E hr h => ?_)
  · obtain ⟨C, x, dx, wv, d, rfl, _⟩ := h
    rfl
  · obtain ⟨t, ht, hw⟩ := body cdv A outer s H E hr
    refine ⟨t, ht, ?_⟩
    obtain ⟨C, x, dx, wv, d, rfl, eC, c1, c2, ne, h1, h2, hd, hb, hg⟩ := h
    have rs : Real (iniF g C H E x dx) [.v (.ref x), .d d] [(x, .o (.ins Cc dx [])), (dx, .o (.own x))] (L2.start N [.ref x, wv]) H C := by
      refine ⟨?_, ?_, fun a o h => ⟨eC a o h, .inl h⟩, fun a o h => h, fun a o h _ => h, ?_, ?_, ?_⟩
      · unfold L2.start
        simp [hp]
      · intro i k hk
        unfold L2.start
        rw [hp]
        match i, hk with
        | 0, hk => cases hk; rfl
        | 1, hk => cases hk; exact ⟨wv, rfl, hd⟩
        | n + 2, hk => simp at hk
      · intro p h
        have h : p ∈ [(x, MO.g fun _ _ => True), (dx, MO.g fun _ _ => True)] := h
        simp only [List.mem_cons, List.mem_nil_iff, or_false] at h
        rcases h with rfl | rfl
        · exact ⟨_, List.mem_cons_self, weak_any _⟩
        · exact ⟨_, List.mem_cons_of_mem _ List.mem_cons_self, weak_any _⟩
      · intro l m h
        simp only [List.mem_cons, List.mem_nil_iff, or_false] at h
        rcases h with h | h
        · cases h; exact ⟨c1, h1, .inr ⟨_, List.mem_cons_self⟩⟩
        · cases h; exact ⟨c2, h2, .inr ⟨_, List.mem_cons_of_mem _ List.mem_cons_self⟩⟩
      · simp [ne]
    have nf : ∀ a, a ≠ x → a ≠ dx → ¬ (iniF g C H E x dx).fx a := fun a n1 n2 ⟨m, z⟩ => by
      have z : (a, m) ∈ [(x, MO.g fun _ _ => True), (dx, MO.g fun _ _ => True)] := z
      simp only [List.mem_cons, List.mem_nil_iff, or_false] at z
      rcases z with z | z
      · injection z with z _; exact n1 z
      · injection z with z _; exact n2 z
    refine hw C H x dx d (fun ks σ H' C' hB r' => hb hB H' C' (fun a o z n1 n2 => r'.keep a o z (nf a n1 n2)) (fun a o z => r'.c0 a o z) (fun a o z => r'.sub a o z)) (L2.start N [.ref x, wv]) H C rs _ ?_ ?_ ?_ ?_
    · intro ks' ms' σ' H' C' ho r' e'
      obtain ⟨k, vi, pa, rfl, k1, k2, f1, f2, rfl⟩ := ho
      have z1 := (r'.mo vi (.l []) (by unfold slM; simp)).2.2
      have z2 := (r'.mo pa (.l []) (by unfold slM; simp)).2.2
      refine hg k rfl k1 k2 ⟨x, dx, vi, pa⟩ H' C' rfl rfl (z1.elim id fun z => absurd z f1) (z2.elim id fun z => absurd z f2) ?_ (fun a o z n1 n2 => r'.keep a o z (nf a n1 n2)) (fun a o z => e' a o z) (fun a o z => r'.sub a o z) fun p hp => ⟨(r'.mo _ _ hp).1, (r'.mo _ _ hp).2.1⟩
      have := r'.nd
      rw [slM_as] at this
      exact this
    · intro ks' ms' σ' H' C' ho; exact ho.elim
    · intro ks' ms' σ' H' C' ho; exact ho.elim
    · intro v ks' ms' σ' H' C' d ho; exact ho.elim
end
section
variable {F : FC} {R : Mem} {ks : List SK} {ms : Mem} {te ta tb tv : TE} {tA : TA} {D : DE} {t u : TS} {K : PySem.W.Frag} {Cc x dx : Addr} {g : Exn → Addr}
/-- self.width = width, .. -/
theorem ws_ini4 (T : TxS K Cc) {k : Int} (h0 : ks[0]? = some (.v (.ref x))) (h1 : ks[1]? = some (.d (.int k))) (hd : F.dw = [(x, .g fun _ _ => True), (dx, .g fun _ _ => True)]) (h : ∀ vi pa, ¬ F.fx vi → ¬ F.fx pa → D.nx ks (slM Cc ⟨x, dx, vi, pa⟩ ⟨k, [], [], []⟩)) :
    WS F (tSeq (sFld K (tVar 0) (tVar 1) nW) (tSeq (sFld K (tVar 0) (tLst tNil) nV) (tSeq (sFld K (tVar 0) (tLst tNil) nL) (sFld K (tVar 0) (tLst tNil) nP)))) ks [(x, .o (.ins Cc dx [])), (dx, .o (.own x))] D := fun σ H C r Ec q1 q2 q3 q4 => by
  have s0 : σ[0]? = some (some (V.ref x)) := r.slot 0 _ h0
  obtain ⟨v, hv, dv⟩ := r.slot 1 _ h1
  cases dv
  have hx : H x = some (.ins Cc dx []) := (r.mo x _ List.mem_cons_self).2.1
  have hdx : H dx = some (.own x) := (r.mo dx _ (List.mem_cons_of_mem _ List.mem_cons_self)).2.1
  have ne : x ≠ dx := by have := r.nd; simpa using this
  have sz : ([] : List V).length ≤ sizeLine := Evl.sz_of (show 0 ≤ 100000 by decide)
  refine ⟨_, hv, _, s0, x, Cc, dx, [], rfl, hx, T.cl, T.nW, by decide, ?_⟩
  refine ⟨sz, fun vi hvi => ⟨_, s0, x, Cc, dx, putF nW (.int k) [], rfl, ?_, T.cl, T.nV, by show 1 < 1000; decide, ?_⟩⟩
  · rw [upd_ne (ne_of_none upd_same hvi), upd_same]
  have vx : vi ≠ x := fun z => by rw [z, upd_same] at hvi; cases hvi
  have hvi0 : H vi = none := by rw [upd_ne vx] at hvi; exact hvi
  refine ⟨sz, fun li hli => ⟨_, s0, x, Cc, dx, putF nV (.ref vi) (putF nW (.int k) []), rfl, ?_, T.cl, T.nL, by show 2 < 1000; decide, ?_⟩⟩
  · rw [upd_ne (ne_of_none upd_same hli), upd_same]
  have lx : li ≠ x := fun z => by rw [z, upd_same] at hli; cases hli
  rw [upd_ne lx] at hli
  have lv : li ≠ vi := fun z => by rw [z, upd_same] at hli; cases hli
  rw [upd_ne lv, upd_ne lx] at hli
  refine ⟨sz, fun pa hpa => ⟨_, s0, x, Cc, dx, putF nL (.ref li) (putF nV (.ref vi) (putF nW (.int k) [])), rfl, ?_, T.cl, T.nP, by show 3 < 1000; decide, ?_⟩⟩
  · rw [upd_ne (ne_of_none upd_same hpa), upd_same]
  have px : pa ≠ x := fun z => by rw [z, upd_same] at hpa; cases hpa
  rw [upd_ne px] at hpa
  have pl : pa ≠ li := fun z => by rw [z, upd_same] at hpa; cases hpa
  rw [upd_ne pl, upd_ne px] at hpa
  have pv : pa ≠ vi := fun z => by rw [z, upd_same] at hpa; cases hpa
  rw [upd_ne pv, upd_ne px] at hpa
  have nfx : ∀ {a : Addr}, H a = none → ¬ F.fx a := fun {a} ha z => by
    obtain ⟨m, hm⟩ := z
    obtain ⟨o, ho⟩ := (r.fxo hm).there
    rw [ha] at ho; cases ho
  have vd : vi ≠ dx := fun z => by rw [z, hdx] at hvi0; cases hvi0
  have ld : li ≠ dx := fun z => by rw [z, hdx] at hli; cases hli
  have pd : pa ≠ dx := fun z => by rw [z, hdx] at hpa; cases hpa
  -- the memory with the new lists, then the object
  have r1 := r.newM hvi0 (o := .lst []) (m := .l []) ⟨[], upd_same, .nil⟩
  have r2 := r1.newM (p := pa) (by rw [upd_ne pv]; exact hpa) (o := .lst []) (m := .l []) ⟨[], upd_same, .nil⟩
  obtain ⟨r3, e3⟩ := r2.new (p := li) (by rw [upd_ne (Ne.symm pl), upd_ne lv]; exact hli) (.lst [])
  have hm4 : MOk (upd C li (.lst [])) (upd (upd (upd (upd (upd (upd (upd H x (.ins Cc dx (putF nW (.int k) []))) vi (.lst [])) x (.ins Cc dx (putF nV (.ref vi) (putF nW (.int k) [])))) li (.lst [])) x (.ins Cc dx (putF nL (.ref li) (putF nV (.ref vi) (putF nW (.int k) []))))) pa (.lst [])) x (.ins Cc dx (putF nP (.ref pa) (putF nL (.ref li) (putF nV (.ref vi) (putF nW (.int k) [])))))) x (.g (SlQ Cc dx vi pa k [])) :=
    ⟨slQ_up, _, upd_same, .ref li, by rw [put_4], .lst upd_same .nil⟩
  have r4 := r3.call (L := [x]) (ms' := [(pa, .l []), (vi, .l []), (x, .g (SlQ Cc dx vi pa k [])), (dx, .o (.own x))]) (H' := upd (upd (upd (upd (upd (upd (upd H x (.ins Cc dx (putF nW (.int k) []))) vi (.lst [])) x (.ins Cc dx (putF nV (.ref vi) (putF nW (.int k) [])))) li (.lst [])) x (.ins Cc dx (putF nL (.ref li) (putF nV (.ref vi) (putF nW (.int k) []))))) pa (.lst [])) x (.ins Cc dx (putF nP (.ref pa) (putF nL (.ref li) (putF nV (.ref vi) (putF nW (.int k) []))))))
    (fun a ha => by simp at ha; subst ha; simp) (fun a o e ha => by
      have ax : a ≠ x := by simpa using ha
      by_cases a1 : a = pa
      · subst a1
        rw [upd_ne pl, upd_same] at e
        rw [upd_ne ax, upd_same]; exact e
      by_cases a2 : a = li
      · subst a2
        rw [upd_same] at e
        rw [upd_ne ax, upd_ne a1, upd_ne ax, upd_same]; exact e
      by_cases a3 : a = vi
      · subst a3
        rw [upd_ne a2, upd_ne a1, upd_same] at e
        rw [upd_ne ax, upd_ne a1, upd_ne ax, upd_ne a2, upd_ne ax, upd_same]; exact e
      rw [upd_ne a2, upd_ne a1, upd_ne a3] at e
      rw [upd_ne ax, upd_ne a1, upd_ne ax, upd_ne a2, upd_ne ax, upd_ne a3, upd_ne ax]; exact e) (Ex.refl _) (fun a o z => by
      have hz := r3.ch a o z
      have ax : a ≠ x := fun q => by
        subst q
        have := (r3.mo a _ (List.mem_cons_of_mem _ (List.mem_cons_of_mem _ List.mem_cons_self))).1
        rw [this] at z; cases z
      refine ⟨?_, .inl z⟩
      by_cases a1 : a = pa
      · subst a1
        rw [upd_ne pl, upd_same] at hz
        rw [upd_ne ax, upd_same]; exact hz
      by_cases a2 : a = li
      · subst a2
        rw [upd_same] at hz
        rw [upd_ne ax, upd_ne a1, upd_ne ax, upd_same]; exact hz
      by_cases a3 : a = vi
      · subst a3
        rw [upd_ne a2, upd_ne a1, upd_same] at hz
        rw [upd_ne ax, upd_ne a1, upd_ne ax, upd_ne a2, upd_ne ax, upd_same]; exact hz
      rw [upd_ne a2, upd_ne a1, upd_ne a3] at hz
      rw [upd_ne ax, upd_ne a1, upd_ne ax, upd_ne a2, upd_ne ax, upd_ne a3, upd_ne ax]; exact hz) rfl (fun l m hm => by
      simp only [List.mem_cons, List.mem_nil_iff, or_false] at hm
      rcases hm with hm | hm | hm | hm
      · cases hm; exact .inr ⟨by simpa using px, by simp⟩
      · cases hm; exact .inr ⟨by simpa using vx, by simp⟩
      · cases hm; exact .inl ⟨by simp, hm4⟩
      · cases hm; exact .inr ⟨by simpa using Ne.symm ne, by simp⟩) (fun p hp => by
      rw [hd] at hp
      simp only [List.mem_cons, List.mem_nil_iff, or_false] at hp
      rcases hp with rfl | rfl
      · exact ⟨.g (SlQ Cc dx vi pa k []), by simp, weak_any _⟩
      · exact ⟨.o (.own x), by simp, weak_any _⟩)
  have r5 := r4.less (ms' := slM Cc ⟨x, dx, vi, pa⟩ ⟨k, [], [], []⟩) (fun p hp => by
      unfold slM at hp
      simp only [List.mem_cons, List.mem_nil_iff, or_false, List.map_nil] at hp ⊢
      rcases hp with rfl | rfl | rfl | rfl <;> simp) (fun p hp => by
      rw [hd] at hp
      simp only [List.mem_cons, List.mem_nil_iff, or_false] at hp
      rcases hp with rfl | rfl
      · exact ⟨_, List.mem_cons_self, weak_any _⟩
      · exact ⟨_, List.mem_cons_of_mem _ List.mem_cons_self, weak_any _⟩) (by
      rw [slM_as]
      unfold SlA.as
      simp [ne, Ne.symm vx, Ne.symm px, Ne.symm vd, Ne.symm pd, Ne.symm pv])
  exact q1 _ _ _ _ _ (h vi pa (nfx hvi0) (nfx hpa)) r5 e3
/-- C(k) -/
theorem en_make {E : XK} {Bad : PyData → Prop} {Pn : Addr → Mem → Prop} (h : EvA F ms tA ks fun xs => ∃ k : Int, xs = [.int k] ∧ 1 ≤ k ∧ k ≤ 12 ∧ ¬ Bad (.int k) ∧ ∀ A : SlA, A.as.Nodup → Pn A.x (slM Cc A ⟨k, [], [], []⟩ ++ ms)) : EvNew F (tMake Cc (SpIni Cc g Bad) [] E tA) ks ms Pn := fun σ H C r Q q => by
  refine h ms σ H C (fun _ z => z) r _ fun vs H1 C1 ds p r1 e1 d1 => ?_
  obtain ⟨k, rfl, k1, k2, nb, p⟩ := p
  obtain ⟨v, rfl, dv⟩ := dn_one d1
  intro x dx nx nd ne
  have fc : ∀ {a : Addr}, H1 a = none → C1 a = none := fun {a} ha => r1.ch.free ha
  have hne : x ≠ dx := Ne.symm ne
  have up1 : ∀ a o, H1 a = some o → a ≠ x ∧ a ≠ dx := fun a o e => ⟨(fun z => by rw [z, nx] at e; cases e), (fun z => by rw [z, nd] at e; cases e)⟩
  have hx : ∀ a, a ≠ x → a ≠ dx → (upd (upd H1 dx (.own x)) x (.ins Cc dx [])) a = H1 a := fun a n1 n2 => by rw [upd_ne n1, upd_ne n2]
  refine ⟨C1, x, dx, v, .int k, rfl, fun a o z => ?_, fc nx, fc nd, hne, upd_same, by rw [upd_ne ne, upd_same], dv, fun hb => absurd hb nb, fun k' ek _ _ A H' C' ax ad hvi hpa nd' kp eC hc hm => ⟨rfl, ?_⟩⟩
  · have z := r1.ch a o z
    obtain ⟨n1, n2⟩ := up1 a o z
    rw [hx a n1 n2]; exact z
  injection ek with ek
  subst ek ax ad
  have hnone : ∀ a ∈ A.as, H1 a = none := fun a ha => by
    unfold SlA.as at ha
    simp only [List.mem_cons, List.mem_nil_iff, or_false] at ha
    have n : ∀ b, (upd (upd H1 A.dx (.own A.x)) A.x (.ins Cc A.dx [])) b = none → H1 b = none := fun b hb => by
      by_cases b1 : b = A.x
      · rw [b1]; exact nx
      by_cases b2 : b = A.dx
      · rw [b2]; exact nd
      rw [hx b b1 b2] at hb; exact hb
    rcases ha with rfl | rfl | rfl | rfl
    · exact nx
    · exact nd
    · exact n _ hvi
    · exact n _ hpa
  have kp1 : ∀ a o, H1 a = some o → H' a = some o := fun a o e => by
    obtain ⟨n1, n2⟩ := up1 a o e
    exact kp a o (by rw [hx a n1 n2]; exact e) n1 n2
  have hc1 : ∀ a o, C' a = some o → H' a = some o ∧ (C1 a = some o ∨ H1 a = none) := fun a o z => by
    obtain ⟨z1, z2⟩ := hc a o z
    refine ⟨z1, z2.imp id fun z2 => ?_⟩
    by_cases b1 : a = A.x
    · rw [b1]; exact nx
    by_cases b2 : a = A.dx
    · rw [b2]; exact nd
    rw [hx a b1 b2] at z2; exact z2
  have r2 := r1.grow kp1 eC hc1
  refine q A.x H' C' _ (p A nd') ⟨r2.len, r2.slot, r2.sub, r2.c0, r2.keep, fun p hp => ?_, fun l m hm' => ?_, ?_⟩ (e1.trans eC)
  · obtain ⟨m, h1, h2⟩ := r2.fxm p hp
    exact ⟨m, List.mem_append_right _ h1, h2⟩
  · rcases List.mem_append.mp hm' with z | z
    · have hpas : l ∈ A.as := by rw [← slM_as Cc A ⟨k, [], [], []⟩]; exact List.mem_map.mpr ⟨_, z, rfl⟩
      exact ⟨(hm _ z).1, (hm _ z).2, .inl (r1.old (hnone _ hpas))⟩
    · exact r2.mo l m z
  · rw [List.map_append, slM_as]
    refine List.nodup_append.mpr ⟨nd', r2.nd, fun a ha b hb e => ?_⟩
    subst e
    obtain ⟨⟨l, m⟩, z, rfl⟩ := List.mem_map.mp hb
    obtain ⟨o, ho⟩ := (r1.mo l m z).2.1.there
    rw [hnone _ ha] at ho; cases ho
/-- a, b = (C(..), y), by a tuple -/
theorem ws_tupNew {i j : Nat} (h : EvNew F te ks ms fun x ms' => EvA F ms' tA ks fun xs => ∃ d, xs = [d] ∧ D.nx ((ks.set i (.v (.ref x))).set j (.d d)) ms') : WS F (tAsg (tTup (tCons te tA)) (gTup K 2 (gCons (gName i) (gCons (gName j) gNil)))) ks ms D := fun σ H C r Ec q1 q2 q3 q4 =>
  h σ H C r _ fun x H' C' ms' p r' e' => p ms' σ H' C' (fun _ z => z) r' _ fun vs H2 C2 xs p2 r2 e2 dv => by
    obtain ⟨d, rfl, p2⟩ := p2
    obtain ⟨v, rfl, dw⟩ := dn_one dv
    refine ⟨Evl.sz_of (show 2 ≤ 100000 by decide), fun q hq => ?_⟩
    obtain ⟨r3, e3⟩ := r2.new hq (.tup [.ref x, v])
    exact ⟨q, [.ref x, v], rfl, SqT.of upd_same, rfl, _, _, rfl, _, _, rfl, rfl, q1 _ _ _ _ _ p2 ((r3.put (k := .v (.ref x)) rfl).put (k := .d d) ⟨v, rfl, dw.up e3⟩) ((e'.trans e2).trans e3)⟩
end
end DL

namespace DL
open PySem PySem.Spec L2
section
variable {K : PySem.W.Frag} {h : Heap} {mg : Str → Option Value}
abbrev SlAll {K : PySem.W.Frag} {h : Heap} (_ : K.In h) (mg : Str → Option Value) (s0 s1 s2 s3 s4 s5 s6 : Stmt) : Prop := ∃ Cc, TxS K Cc ∧ DefI K mg Cc "Slider" "Slider.__init__" s0 ["self", "width"] ∧ DefM K Cc "push" "Slider.push" s1 ["self", "value"] ∧ DefM K Cc "least" "Slider.least" s2 ["self"] ∧ DefM K Cc "places" "Slider.places" s3 ["self"] ∧ DefM K Cc "low_row" "Slider.low_row" s4 ["self"] ∧ DefM K Cc "undo" "Slider.undo" s5 ["self"] ∧ DefM K Cc "__len__" "Slider.__len__" s6 ["self"]
theorem sl_all {s0 s1 s2 s3 s4 s5 s6 : Stmt} {C : Addr} (X : K.In h) (G : h.Ns mainGlobals mg) (aC : PySem.W.nsIn K mainGlobals "Slider" = some (some (.ref C)))
    {f0 : Addr} {od0 an0 : Option Addr} {sl0 : Array (Option Value)} {oc0 kV0 dc0 pm0 cd0 ct0 : Value}
    {f1 : Addr} {od1 an1 : Option Addr} {sl1 : Array (Option Value)} {oc1 kV1 dc1 pm1 cd1 ct1 : Value}
    {f2 : Addr} {od2 an2 : Option Addr} {sl2 : Array (Option Value)} {oc2 kV2 dc2 pm2 cd2 ct2 : Value}
    {f3 : Addr} {od3 an3 : Option Addr} {sl3 : Array (Option Value)} {oc3 kV3 dc3 pm3 cd3 ct3 : Value}
    {f4 : Addr} {od4 an4 : Option Addr} {sl4 : Array (Option Value)} {oc4 kV4 dc4 pm4 cd4 ct4 : Value}
    {f5 : Addr} {od5 an5 : Option Addr} {sl5 : Array (Option Value)} {oc5 kV5 dc5 pm5 cd5 ct5 : Value}
    {f6 : Addr} {od6 an6 : Option Addr} {sl6 : Array (Option Value)} {oc6 kV6 dc6 pm6 cd6 ct6 : Value}
    (a0 : PySem.W.findIn K (.ref C) "__init__" = some (some (.ref f0))) (i0 : PySem.W.isFn K (.ref f0) = true) (l0 : K.lookup f0 = some ⟨oc0, od0, .func (PySem.W.fnOf "__init__" "Slider.__init__" (defArgs s0) (defBody s0) (defScope s0) .none kV0 dc0 pm0 an0 cd0 ct0), sl0⟩) (c0 : PySem.W.codeIn K cd0 "Slider.__init__" = true) (k0 : PySem.W.keepIn K (.ref f0) = true)
    (b0 : ∀ (kV doc pm : Value) (an : Option Addr) (cdv ct : Value) (us : List Value), us.length = [("self" : Str), ("width" : Str)].length → bindArgs (PySem.W.fnOf "__init__" "Slider.__init__" (defArgs s0) (defBody s0) (defScope s0) .none kV doc pm an cdv ct) ⟨us, []⟩ = pure ((["self", "width"] : List Str).zip us))
    (a1 : PySem.W.findIn K (.ref C) "push" = some (some (.ref f1))) (i1 : PySem.W.isFn K (.ref f1) = true) (l1 : K.lookup f1 = some ⟨oc1, od1, .func (PySem.W.fnOf "push" "Slider.push" (defArgs s1) (defBody s1) (defScope s1) .none kV1 dc1 pm1 an1 cd1 ct1), sl1⟩) (c1 : PySem.W.codeIn K cd1 "Slider.push" = true) (k1 : PySem.W.keepIn K (.ref f1) = true)
    (b1 : ∀ (kV doc pm : Value) (an : Option Addr) (cdv ct : Value) (us : List Value), us.length = [("self" : Str), ("value" : Str)].length → bindArgs (PySem.W.fnOf "push" "Slider.push" (defArgs s1) (defBody s1) (defScope s1) .none kV doc pm an cdv ct) ⟨us, []⟩ = pure ((["self", "value"] : List Str).zip us))
    (a2 : PySem.W.findIn K (.ref C) "least" = some (some (.ref f2))) (i2 : PySem.W.isFn K (.ref f2) = true) (l2 : K.lookup f2 = some ⟨oc2, od2, .func (PySem.W.fnOf "least" "Slider.least" (defArgs s2) (defBody s2) (defScope s2) .none kV2 dc2 pm2 an2 cd2 ct2), sl2⟩) (c2 : PySem.W.codeIn K cd2 "Slider.least" = true) (k2 : PySem.W.keepIn K (.ref f2) = true)
    (b2 : ∀ (kV doc pm : Value) (an : Option Addr) (cdv ct : Value) (us : List Value), us.length = [("self" : Str)].length → bindArgs (PySem.W.fnOf "least" "Slider.least" (defArgs s2) (defBody s2) (defScope s2) .none kV doc pm an cdv ct) ⟨us, []⟩ = pure ((["self"] : List Str).zip us))
    (a3 : PySem.W.findIn K (.ref C) "places" = some (some (.ref f3))) (i3 : PySem.W.isFn K (.ref f3) = true) (l3 : K.lookup f3 = some ⟨oc3, od3, .func (PySem.W.fnOf "places" "Slider.places" (defArgs s3) (defBody s3) (defScope s3) .none kV3 dc3 pm3 an3 cd3 ct3), sl3⟩) (c3 : PySem.W.codeIn K cd3 "Slider.places" = true) (k3 : PySem.W.keepIn K (.ref f3) = true)
    (b3 : ∀ (kV doc pm : Value) (an : Option Addr) (cdv ct : Value) (us : List Value), us.length = [("self" : Str)].length → bindArgs (PySem.W.fnOf "places" "Slider.places" (defArgs s3) (defBody s3) (defScope s3) .none kV doc pm an cdv ct) ⟨us, []⟩ = pure ((["self"] : List Str).zip us))
    (a4 : PySem.W.findIn K (.ref C) "low_row" = some (some (.ref f4))) (i4 : PySem.W.isFn K (.ref f4) = true) (l4 : K.lookup f4 = some ⟨oc4, od4, .func (PySem.W.fnOf "low_row" "Slider.low_row" (defArgs s4) (defBody s4) (defScope s4) .none kV4 dc4 pm4 an4 cd4 ct4), sl4⟩) (c4 : PySem.W.codeIn K cd4 "Slider.low_row" = true) (k4 : PySem.W.keepIn K (.ref f4) = true)
    (b4 : ∀ (kV doc pm : Value) (an : Option Addr) (cdv ct : Value) (us : List Value), us.length = [("self" : Str)].length → bindArgs (PySem.W.fnOf "low_row" "Slider.low_row" (defArgs s4) (defBody s4) (defScope s4) .none kV doc pm an cdv ct) ⟨us, []⟩ = pure ((["self"] : List Str).zip us))
    (a5 : PySem.W.findIn K (.ref C) "undo" = some (some (.ref f5))) (i5 : PySem.W.isFn K (.ref f5) = true) (l5 : K.lookup f5 = some ⟨oc5, od5, .func (PySem.W.fnOf "undo" "Slider.undo" (defArgs s5) (defBody s5) (defScope s5) .none kV5 dc5 pm5 an5 cd5 ct5), sl5⟩) (c5 : PySem.W.codeIn K cd5 "Slider.undo" = true) (k5 : PySem.W.keepIn K (.ref f5) = true)
    (b5 : ∀ (kV doc pm : Value) (an : Option Addr) (cdv ct : Value) (us : List Value), us.length = [("self" : Str)].length → bindArgs (PySem.W.fnOf "undo" "Slider.undo" (defArgs s5) (defBody s5) (defScope s5) .none kV doc pm an cdv ct) ⟨us, []⟩ = pure ((["self"] : List Str).zip us))
    (a6 : PySem.W.findIn K (.ref C) "__len__" = some (some (.ref f6))) (i6 : PySem.W.isFn K (.ref f6) = true) (l6 : K.lookup f6 = some ⟨oc6, od6, .func (PySem.W.fnOf "__len__" "Slider.__len__" (defArgs s6) (defBody s6) (defScope s6) .none kV6 dc6 pm6 an6 cd6 ct6), sl6⟩) (c6 : PySem.W.codeIn K cd6 "Slider.__len__" = true) (k6 : PySem.W.keepIn K (.ref f6) = true)
    (b6 : ∀ (kV doc pm : Value) (an : Option Addr) (cdv ct : Value) (us : List Value), us.length = [("self" : Str)].length → bindArgs (PySem.W.fnOf "__len__" "Slider.__len__" (defArgs s6) (defBody s6) (defScope s6) .none kV doc pm an cdv ct) ⟨us, []⟩ = pure ((["self"] : List Str).zip us))
    (pg : PySem.W.plainGet K C Str.empty = true) (hd : PySem.W.hasDictIn K C = true) (po : PySem.W.plainOver K C = true) (sa : PySem.W.findIn K (.ref C) "__setattr__" = some (some (.builtin "object.__setattr__"))) (mk : PySem.W.makesIn K C = true) (kc : PySem.W.keepIn K (.ref C) = true)
    (n1 : PySem.W.findIn K (.ref C) "width" = some none) (n2 : PySem.W.findIn K (.ref C) "values_in" = some none) (n3 : PySem.W.findIn K (.ref C) "line" = some none) (n4 : PySem.W.findIn K (.ref C) "past" = some none) : SlAll X mg s0 s1 s2 s3 s4 s5 s6 :=
  ⟨C, ⟨⟨pg, hd, po, sa⟩, n1, n2, n3, n4⟩, ⟨f0, _, fun_mk l0 c0 k0, ⟨mk, a0, i0, kc⟩, PySem.W.mg_of X G aC, (fun_mk l0 c0 k0).binds b0⟩, ⟨f1, _, fun_mk l1 c1 k1, ⟨a1, i1, k1⟩, (fun_mk l1 c1 k1).binds b1⟩, ⟨f2, _, fun_mk l2 c2 k2, ⟨a2, i2, k2⟩, (fun_mk l2 c2 k2).binds b2⟩, ⟨f3, _, fun_mk l3 c3 k3, ⟨a3, i3, k3⟩, (fun_mk l3 c3 k3).binds b3⟩, ⟨f4, _, fun_mk l4 c4 k4, ⟨a4, i4, k4⟩, (fun_mk l4 c4 k4).binds b4⟩, ⟨f5, _, fun_mk l5 c5 k5, ⟨a5, i5, k5⟩, (fun_mk l5 c5 k5).binds b5⟩, ⟨f6, _, fun_mk l6 c6 k6, ⟨a6, i6, k6⟩, (fun_mk l6 c6 k6).binds b6⟩⟩
end
end DL

namespace DL
open PySem PySem.Spec L2
section
variable {X : Cx} {k : Nat} {ps : List Str} {sp : Sp} {x : Str} {p pos : Pos}
/-- f() -/
theorem pe_ent0 (n : Ent X.prog X.w X.K X.mg X.base x ps k sp) {j : Nat} {E : XK} (hr : Room j X.A) (hx : Passes (L2.CX X.prog X.w) X E) (hj : k ≤ j := by decide) (hg : Gl X x := by rfl) (hdb : (x == ("__debug__" : Str)) = false := by decide) : PE X (.Call (.Name x p) [] [] pos) (tCall sp [] E tNil) := by
  obtain ⟨f, fd, F, m, kp, b⟩ := n.ex
  exact pe_call0 F (hr.mono hj) hg m kp b .nil hx hdb
end
section
variable {F : FC} {ks : List SK} {ms : Mem} {te tf : TE} {D : DE} {t u : TS}
theorem ws_ifOrEM (h : EvM F te ks ms fun d ms1 => ∃ b, d = .bool b ∧ (b = true → WS F t ks ms1 D) ∧ (b = false → EvM F tf ks ms1 fun d ms2 => ∃ b, d = .bool b ∧ (b = true → WS F t ks ms2 D) ∧ (b = false → WS F u ks ms2 D))) : WS F (tIfS (tOr (tTest te) (tTest tf)) t u) ks ms D := fun σ H C r Ec q1 q2 q3 q4 =>
  h σ H C r _ fun v H' C' d ms' p r' e' dv => by
    obtain ⟨b, rfl, p1, p2⟩ := p
    cases dv
    refine ⟨b, rfl, ?_⟩
    cases b with
    | true => exact iteT (iteT (p1 rfl _ _ _ r' Ec (fun a b c d e z r2 e2 => q1 a b c d e z r2 (e'.trans e2)) (fun a b c d e z r2 e2 => q2 a b c d e z r2 (e'.trans e2)) (fun a b c d e z r2 e2 => q3 a b c d e z r2 (e'.trans e2)) q4))
    | false =>
      refine iteF (p2 rfl σ H' C' r' _ fun v2 H2 C2 d2 ms2 pp rr ee dd => ?_)
      obtain ⟨b, rfl, p1, p2⟩ := pp
      cases dd
      refine ⟨b, rfl, ?_⟩
      have e' := e'.trans ee
      cases b with
      | true => exact iteT (p1 rfl _ _ _ rr Ec (fun a b c d e z r2 e2 => q1 a b c d e z r2 (e'.trans e2)) (fun a b c d e z r2 e2 => q2 a b c d e z r2 (e'.trans e2)) (fun a b c d e z r2 e2 => q3 a b c d e z r2 (e'.trans e2)) q4)
      | false => exact iteF (p2 rfl _ _ _ rr Ec (fun a b c d e z r2 e2 => q1 a b c d e z r2 (e'.trans e2)) (fun a b c d e z r2 e2 => q2 a b c d e z r2 (e'.trans e2)) (fun a b c d e z r2 e2 => q3 a b c d e z r2 (e'.trans e2)) q4)
end
end DL

namespace DL
open PySem PySem.Spec L2
/-! ### calls with an object among data -/
/-- f(12, d, ..): makes an object or refuses the width -/
def SpMk3 (g : Exn → Addr) (Bad : PyData → Prop) : Sp := fun vs H Q E => ∃ (C : Hp) (u1 u2 : V) (d : PyData), vs = [.int 12, u1, u2] ∧ Ex C H ∧ Dn C u1 d ∧ (Bad d → ∀ H', Ex H H' → E (.ref (g .width)) none H') ∧ (Bad d ∨ ∃ k : Int, d = .int k ∧ 1 ≤ k ∧ k ≤ 12 ∧ ¬ Bad d) ∧ (¬ Bad d → ∀ v H', Ex H H' → Q v H')
/-- f(n, o, d): raises, the object as it was -/
def SpX3 (Cc : Addr) (g : Exn → Addr) (Rx : List PyData → SlS → Exn → Prop) : Sp := fun vs H Q E => ∃ (C : Hp) (A : SlA) (S : SlS) (u0 u2 : V) (d0 d2 : PyData) (e : Exn), vs = [u0, .ref A.x, u2] ∧ Ex C H ∧ A.as.Nodup ∧ (∀ p ∈ slM Cc A S, C p.1 = none ∧ MOk C H p.1 p.2) ∧ Dn C u0 d0 ∧ Dn C u2 d2 ∧ Rx [d0, d2] S e ∧
  ∀ H' C', (∀ a o, H a = some o → a ∉ A.as → H' a = some o) → Ex C C' → (∀ a o, C' a = some o → H' a = some o ∧ (C a = some o ∨ H a = none)) → (∀ p ∈ slM Cc A S, MOk C' H' p.1 p.2) → E (.ref (g e)) none H'
/-- f(m, n, o, d, d'): gives data, the object as it was -/
def SpSl5 (Cc : Addr) (Rl : List PyData → SlS → PyData → Prop) : Sp := fun vs H Q E => ∃ (C : Hp) (A : SlA) (S : SlS) (u0 u1 u3 u4 : V) (d0 d1 d3 d4 d : PyData), vs = [u0, u1, .ref A.x, u3, u4] ∧ Ex C H ∧ A.as.Nodup ∧ (∀ p ∈ slM Cc A S, C p.1 = none ∧ MOk C H p.1 p.2) ∧ Dn C u0 d0 ∧ Dn C u1 d1 ∧ Dn C u3 d3 ∧ Dn C u4 d4 ∧ Rl [d0, d1, d3, d4] S d ∧
  ∀ v H' C', (∀ a o, H a = some o → a ∉ A.as → H' a = some o) → Ex C C' → (∀ a o, C' a = some o → H' a = some o ∧ (C a = some o ∨ H a = none)) → (∀ p ∈ slM Cc A S, MOk C' H' p.1 p.2) → Dn C' v d → Q v H'
def x3F (g : Exn → Addr) (C0 H0 : Hp) (E : XK) (A : SlA) : FC :=
  { g := g, C0 := C0, H0 := H0, dw := slW A, rt := fun _ _ => False, ex := fun _ => False, E := E, hE := fun _ _ h => h.elim }
def s5F (g : Exn → Addr) (C0 H0 : Hp) (E : XK) (Cc : Addr) (A : SlA) (S : SlS) (d : PyData) : FC :=
  { g := g, C0 := C0, H0 := H0, dw := slW A, rt := fun x ms => x = d ∧ slM Cc A S ⊆ ms, ex := fun _ => False, E := E, hE := fun _ _ h => h.elim }
theorem real_in {F : FC} {ks : List SK} {σ : L2.St} {H C : Hp} {Cc : Addr} {A : SlA} {S : SlS} (hC : F.C0 = C) (hH : F.H0 = H) (hw : F.dw = slW A) (eC : Ex C H) (nd : A.as.Nodup) (hm : ∀ p ∈ slM Cc A S, C p.1 = none ∧ MOk C H p.1 p.2) (hl : σ.length = ks.length) (hs : ∀ (i : Nat) (k : SK), ks[i]? = some k → SlotOk C k σ[i]?) : Real F ks (slM Cc A S) σ H C := by
  refine ⟨hl, hs, fun a o h => ⟨eC a o h, .inl (by rw [hC]; exact h)⟩, fun a o h => by rw [hC] at h; exact h, fun a o h _ => by rw [hH] at h; exact h, ?_, ?_, ?_⟩
  · intro p h
    obtain ⟨m, h1, h2⟩ := dw_sl (F := F) (A := A) (Cc := Cc) (S' := S) (ms := []) (fun p z => by rw [hw] at z; exact z) p h
    rw [List.append_nil] at h1
    exact ⟨m, h1, h2⟩
  · intro l m h
    obtain ⟨h1, h2⟩ := hm _ h
    refine ⟨h1, h2, .inr ?_⟩
    have ha : l ∈ (slW A).map (·.1) := List.mem_map.mpr ⟨(l, m), h, rfl⟩ |> fun z : l ∈ (slM Cc A S).map (·.1) => z
    obtain ⟨⟨l', m'⟩, q1, q2⟩ := List.mem_map.mp ha
    have q2 : l' = l := q2
    subst q2
    exact ⟨m', by rw [hw]; exact q1⟩
  · rw [slM_as]; exact nd
theorem nf_in {F : FC} {A : SlA} (hw : F.dw = slW A) : ∀ a, a ∉ A.as → ¬ F.fx a := fun a ha ⟨m, z⟩ => ha (by
  rw [hw] at z
  have : a ∈ (slW A).map (·.1) := List.mem_map.mpr ⟨_, z, rfl⟩
  exact this)
section
variable {P : Program} {w : World} {K : PySem.W.Frag} {mg : Str → Option Value} {base : Heap}
theorem fn_x3 {x qual : Str} {st : Stmt} {f : Addr} {fd : FuncData} {a b c : Str} {k : Nat} {g : Exn → Addr} {Cc : Addr} {Rx : List PyData → SlS → Exn → Prop} (Fn : Fun K x qual st f fd) (Sc : FnScope [a, b, c] [a, b, c] (defScope st))
    (body : ∀ (cdv : Value) (Ar : Around) (outer : List Env) (s : Shared) (H : Hp) (E : XK), Room k (Ar.deeper (PyProof.Rows.envOfC qual (defScope st) s.heap.objs.size f cdv)) →
      ∃ t, PSs (cxOf (L2.CX P w) P w K mg base [a, b, c] qual (defScope st) f cdv Ar outer s H E) (defBody st) t ∧
        ∀ C0 H0 A S d0 d2 e, A.as.Nodup → Rx [d0, d2] S e → (∀ ms σ ks H C, slM Cc A S ⊆ ms → Real (x3F g C0 H0 E A) ks ms σ H C → E (.ref (g e)) none H) →
          WS (x3F g C0 H0 E A) t [.d d0, .v (.ref A.x), .d d2] (slM Cc A S) { nx := fun _ _ => False }) : FnOk P w K mg base (L2.CX P w) (k + 1) f fd [a, b, c] (SpX3 Cc g Rx) := by
  refine Fn.okX Sc (fun vs H Q E h => ?_) (fun cdv A outer s H vs Q E hr h => ?_)
  · obtain ⟨C, A, S, u0, u2, d0, d2, e, rfl, _⟩ := h
    rfl
  · obtain ⟨t, ht, hw⟩ := body cdv A outer s H E hr
    refine ⟨t, ht, ?_⟩
    obtain ⟨C, A, S, u0, u2, d0, d2, e, rfl, eC, nd, hm, h0, h2, hR, hq⟩ := h
    have rs : Real (x3F g C H E A) [.d d0, .v (.ref A.x), .d d2] (slM Cc A S) (L2.start [a, b, c] [u0, .ref A.x, u2]) H C := real_in rfl rfl rfl eC nd hm rfl fun i k hk => by
      match i, hk with
      | 0, hk => cases hk; exact ⟨u0, rfl, h0⟩
      | 1, hk => cases hk; rfl
      | 2, hk => cases hk; exact ⟨u2, rfl, h2⟩
      | n + 3, hk => simp at hk
    refine hw C H A S d0 d2 e nd hR (fun ms σ ks H' C' hs r' => hq H' C' (fun a o z ha => r'.keep a o z (nf_in (F := x3F g C H E A) rfl a ha)) (fun a o z => r'.c0 a o z) (fun a o z => r'.sub a o z) fun p hp => (r'.mo _ _ (hs hp)).2.1) _ H C rs _ ?_ ?_ ?_ ?_
    · intro ks' ms' σ' H' C' ho; exact ho.elim
    · intro ks' ms' σ' H' C' ho; exact ho.elim
    · intro ks' ms' σ' H' C' ho; exact ho.elim
    · intro v ks' ms' σ' H' C' d ho; exact ho.elim
theorem fn_sl5 {x qual : Str} {st : Stmt} {f : Addr} {fd : FuncData} {a b c d e n1 n2 : Str} {k : Nat} {g : Exn → Addr} {Cc : Addr} {Rl : List PyData → SlS → PyData → Prop} (Fn : Fun K x qual st f fd) (Sc : FnScope [a, b, c, d, e, n1, n2] [a, b, c, d, e] (defScope st))
    (body : ∀ (cdv : Value) (Ar : Around) (outer : List Env) (s : Shared) (H : Hp) (E : XK), Room k (Ar.deeper (PyProof.Rows.envOfC qual (defScope st) s.heap.objs.size f cdv)) →
      ∃ t, PSs (cxOf (L2.CX P w) P w K mg base [a, b, c, d, e, n1, n2] qual (defScope st) f cdv Ar outer s H E) (defBody st) t ∧
        ∀ C0 H0 A S d0 d1 d3 d4 r, A.as.Nodup → Rl [d0, d1, d3, d4] S r → WS (s5F g C0 H0 E Cc A S r) t [.d d0, .d d1, .v (.ref A.x), .d d3, .d d4, .un, .un] (slM Cc A S) { nx := fun _ _ => False }) : FnOk P w K mg base (L2.CX P w) (k + 1) f fd [a, b, c, d, e] (SpSl5 Cc Rl) := by
  refine Fn.okX Sc (fun vs H Q E h => ?_) (fun cdv A outer s H vs Q E hr h => ?_)
  · obtain ⟨C, A, S, u0, u1, u3, u4, d0, d1, d3, d4, r, rfl, _⟩ := h
    rfl
  · obtain ⟨t, ht, hw⟩ := body cdv A outer s H E hr
    refine ⟨t, ht, ?_⟩
    obtain ⟨C, A, S, u0, u1, u3, u4, d0, d1, d3, d4, r, rfl, eC, nd, hm, h0, h1, h3, h4, hR, hq⟩ := h
    have rs : Real (s5F g C H E Cc A S r) [.d d0, .d d1, .v (.ref A.x), .d d3, .d d4, .un, .un] (slM Cc A S) (L2.start [a, b, c, d, e, n1, n2] [u0, u1, .ref A.x, u3, u4]) H C := real_in rfl rfl rfl eC nd hm rfl fun i k hk => by
      match i, hk with
      | 0, hk => cases hk; exact ⟨u0, rfl, h0⟩
      | 1, hk => cases hk; exact ⟨u1, rfl, h1⟩
      | 2, hk => cases hk; rfl
      | 3, hk => cases hk; exact ⟨u3, rfl, h3⟩
      | 4, hk => cases hk; exact ⟨u4, rfl, h4⟩
      | 5, hk => cases hk; trivial
      | 6, hk => cases hk; trivial
      | n + 7, hk => simp at hk
    refine hw C H A S d0 d1 d3 d4 r nd hR _ H C rs _ ?_ ?_ ?_ ?_
    · intro ks' ms' σ' H' C' ho; exact ho.elim
    · intro ks' ms' σ' H' C' ho; exact ho.elim
    · intro ks' ms' σ' H' C' ho; exact ho.elim
    · intro v ks' ms' σ' H' C' dd ho r' dv
      obtain ⟨rfl, hs⟩ := ho
      exact hq v H' C' (fun a o z ha => r'.keep a o z (nf_in (F := s5F g C H E Cc A S dd) rfl a ha)) (fun a o z => r'.c0 a o z) (fun a o z => r'.sub a o z) (fun p hp => (r'.mo _ _ (hs hp)).2.1) dv
end
section
variable {F : FC} {R : Mem} {ks : List SK} {ms : Mem} {ta tb tc td te : TE} {tA : TA} {D : DE} {t u : TS} {K : PySem.W.Frag} {Cc : Addr} {A : SlA} {S : SlS} {g : Exn → Addr} {i : Nat} {P : PyData → Prop}
/-- o.m(..) that raises -/
theorem ev_methX {m : Str} {E : XK} {Rl : List PyData → SlS → Out → SlS → Prop} (hi : ks[i]? = some (.v (.ref A.x))) (hs : slM Cc A S ⊆ R) (hn : A.as.Nodup) (hm : ¬ m = nW ∧ ¬ m = nV ∧ ¬ m = nL ∧ ¬ m = nP) (h : EvA F R tA ks fun xs => ∃ e, Rl xs S (.exc e) S ∧ ∀ ms σ ks H C, slM Cc A S ⊆ ms → Real F ks ms σ H C → E (.ref (g e)) none H) : Ev F R (tMeth Cc m (SpSl Cc g Rl) [] E (tVar i) tA) ks P := fun ms σ H C hR r Q q => by
  obtain ⟨ln, hx⟩ := slM_x ⟨_, _, r⟩ (fun _ z => hR (hs z))
  refine ⟨_, r.slot i _ hi, A.x, A.dx, _, rfl, hx, lk_no hm.1 hm.2.1 hm.2.2.1 hm.2.2.2, ?_⟩
  refine h ms σ H C hR r _ fun vs H1 C1 ds p r1 e1 d1 => ?_
  obtain ⟨e, hr, hX⟩ := p
  show SpSl Cc g Rl (.ref A.x :: (vs ++ [])) H1 Q E
  rw [List.append_nil]
  refine ⟨C1, A, S, S, vs, ds, .exc e, rfl, r1.ch, hn, slM_mo r1 (fun _ z => hR (hs z)), d1, hr, fun H' C' kp eC hc hm => hX ms σ ks H' C' (fun _ z => hR (hs z)) ?_⟩
  refine r1.call (L := A.as) (fun a ha => ?_) kp eC hc rfl (fun l m h => ?_) r1.fxm
  · rw [← slM_as Cc A S] at ha
    obtain ⟨p, hp, rfl⟩ := List.mem_map.mp ha
    exact List.mem_map.mpr ⟨p, hR (hs hp), rfl⟩
  · by_cases hl : l ∈ A.as
    · rw [← slM_as Cc A S] at hl
      obtain ⟨p, hp, rfl⟩ := List.mem_map.mp hl
      have := nd_inj r1.nd h (hR (hs hp))
      subst this
      exact .inl ⟨by rw [← slM_as Cc A S]; exact hl, hm _ hp⟩
    · exact .inr ⟨hl, h⟩
theorem real_sl {σ : L2.St} {H C H' C' : Hp} (r1 : Real F ks ms σ H C) (hs : slM Cc A S ⊆ ms) (kp : ∀ a o, H a = some o → a ∉ A.as → H' a = some o) (eC : Ex C C') (hc : ∀ a o, C' a = some o → H' a = some o ∧ (C a = some o ∨ H a = none)) (hm : ∀ p ∈ slM Cc A S, MOk C' H' p.1 p.2) : Real F ks ms σ H' C' := by
  refine r1.call (L := A.as) (fun a ha => ?_) kp eC hc rfl (fun l m h => ?_) r1.fxm
  · rw [← slM_as Cc A S] at ha
    obtain ⟨p, hp, rfl⟩ := List.mem_map.mp ha
    exact List.mem_map.mpr ⟨p, hs hp, rfl⟩
  · by_cases hl : l ∈ A.as
    · rw [← slM_as Cc A S] at hl
      obtain ⟨p, hp, rfl⟩ := List.mem_map.mp hl
      have := nd_inj r1.nd h (hs hp)
      subst this
      exact .inl ⟨by rw [← slM_as Cc A S]; exact hl, hm _ hp⟩
    · exact .inr ⟨hl, h⟩
/-- f(n, o, d) in a try -/
theorem ws_dropX3 {W : WX} {XD : Exn → List SK → Prop} {Rx : List PyData → SlS → Exn → Prop} (hW : ∀ e ks' ms' σ' H' C', XD e ks' → ms ⊆ ms' → Real F ks' ms' σ' H' C' → W (.ref (g e)) none σ' H') (hi : ks[i]? = some (.v (.ref A.x))) (hs : slM Cc A S ⊆ ms) (hn : A.as.Nodup)
    (h : Ev F ms ta ks fun d0 => Ev F ms tc ks fun d2 => ∃ e, Rx [d0, d2] S e ∧ XD e ks) : WS F (tDrop (tCallS (SpX3 Cc g Rx) (WE W) (tCons ta (tCons (tVar i) (tCons tc tNil))))) ks ms D := fun σ H C r Ec q1 q2 q3 q4 => by
  refine h ms σ H C (fun _ z => z) r _ fun u0 H1 C1 d0 p1 r1 e1 v1 => ⟨_, r1.slot i _ hi, ?_⟩
  refine p1 ms σ H1 C1 (fun _ z => z) r1 _ fun u2 H2 C2 d2 p2 r2 e2 v2 => ?_
  obtain ⟨e, hR, xd⟩ := p2
  exact ⟨C2, A, S, u0, u2, d0, d2, e, rfl, r2.ch, hn, slM_mo r2 hs, v1.up e2, v2, hR, fun H' C' kp eC hc hm => hW e ks ms σ H' C' xd (fun _ z => z) (real_sl r2 hs kp eC hc hm)⟩
/-- f(m, n, o, d, d') -/
theorem ev_callSl5 {E : XK} {Rl : List PyData → SlS → PyData → Prop} (hi : ks[i]? = some (.v (.ref A.x))) (hs : slM Cc A S ⊆ R) (hn : A.as.Nodup)
    (h : Ev F R ta ks fun d0 => Ev F R tb ks fun d1 => Ev F R tc ks fun d3 => Ev F R td ks fun d4 => ∃ d, Rl [d0, d1, d3, d4] S d ∧ P d) : Ev F R (tCall (SpSl5 Cc Rl) [] E (tCons ta (tCons tb (tCons (tVar i) (tCons tc (tCons td tNil)))))) ks P := fun ms σ H C hR r Q q => by
  refine h ms σ H C hR r _ fun u0 H1 C1 d0 p1 r1 e1 v1 => p1 ms σ H1 C1 hR r1 _ fun u1 H2 C2 d1 p2 r2 e2 v2 => ⟨_, r2.slot i _ hi, ?_⟩
  refine p2 ms σ H2 C2 hR r2 _ fun u3 H3 C3 d3 p3 r3 e3 v3 => p3 ms σ H3 C3 hR r3 _ fun u4 H4 C4 d4 p4 r4 e4 v4 => ?_
  obtain ⟨d, hr, p⟩ := p4
  exact ⟨C4, A, S, u0, u1, u3, u4, d0, d1, d3, d4, d, rfl, r4.ch, hn, slM_mo r4 (fun _ z => hR (hs z)), ((v1.up e2).up e3).up e4, (v2.up e3).up e4, v3.up e4, v4, hr, fun v H' C' kp eC hc hm dv => q v H' C' d p (real_sl r4 (fun _ z => hR (hs z)) kp eC hc hm) ((((e1.trans e2).trans e3).trans e4).trans eC) dv⟩
/-- f(12, d, ..) in a try -/
theorem ws_dropMk {W : WX} {XD : Exn → List SK → Prop} {Bad : PyData → Prop} (hW : ∀ e ks' ms' σ' H' C', XD e ks' → ms ⊆ ms' → Real F ks' ms' σ' H' C' → W (.ref (g e)) none σ' H')
    (h : EvA F ms tA ks fun xs => ∃ d x, xs = [.int 12, d, x] ∧ (Bad d ∨ ∃ k : Int, d = .int k ∧ 1 ≤ k ∧ k ≤ 12 ∧ ¬ Bad d) ∧ (Bad d → XD .width ks) ∧ (¬ Bad d → D.nx ks ms)) : WS F (tDrop (tCallS (SpMk3 g Bad) (WE W) tA)) ks ms D := fun σ H C r Ec q1 q2 q3 q4 => by
  refine h ms σ H C (fun _ z => z) r _ fun vs H1 C1 xs p r1 e1 d1 => ?_
  obtain ⟨d, x, rfl, hb, h1, h2⟩ := p
  cases d1 with
  | cons a1 d1 =>
    cases d1 with
    | cons a2 d1 =>
      cases d1 with
      | cons a3 d1 =>
        cases d1
        cases a1
        exact ⟨C1, _, _, d, rfl, r1.ch, a2, fun hB H' eH => hW .width ks ms σ H' C1 (h1 hB) (fun _ z => z) (r1.grow eH (Ex.refl C1) fun a o z => ⟨eH _ _ (r1.ch _ _ z), .inl z⟩), hb, fun hB v H' eH => q1 _ _ _ _ _ (h2 hB) (r1.grow eH (Ex.refl C1) fun a o z => ⟨eH _ _ (r1.ch _ _ z), .inl z⟩) e1⟩
end
end DL

namespace DL
open PySem PySem.Spec PyProof.Rows L2
/-! ### x is True, x any plain value -/
def isTrueV : V → Bool
  | .bl b => b
  | _ => false
def plainV : V → Bool
  | .bl _ => true
  | .non => true
  | .int _ => true
  | _ => false
def rIsT : R2 := fun x y H Q => y = .bl true ∧ plainV x = true ∧ Q (.bl (isTrueV x)) H
theorem op_isT {X : Cx} : OpR X (compareOp .Is) rIsT := by
  intro pins s σ H x y v u Q I rx ry h
  obtain ⟨rfl, hp, q⟩ := h
  cases (show u = Value.bool true from ry)
  cases x with
  | bl b =>
    cases (show v = Value.bool b from rx)
    cases b with
    | true => exact wpAny_is_self rfl ⟨.bl true, H, I, rfl, q⟩
    | false => exact wpAny_is_other rfl (fun z => by cases z) ⟨.bl false, H, I, rfl, q⟩
  | non =>
    cases (show v = Value.none from rx)
    exact wpAny_is_other rfl (fun z => by cases z) ⟨.bl false, H, I, rfl, q⟩
  | int i =>
    obtain ⟨t, rfl⟩ := (show ∃ t, v = Value.int i t from rx)
    exact wpAny_is_other rfl (fun z => by cases z) ⟨.bl false, H, I, rfl, q⟩
  | _ => cases hp
section
variable {F : FC} {R : Mem} {ks : List SK} {P : PyData → Prop}
theorem op_isTn (p : P (.bool false)) : Op2 F R ks rIsT .none (.bool true) P := fun ms σ H C vx vy _ r hx hy Q q => by
  cases hx; cases hy
  exact ⟨rfl, rfl, q _ H C _ p r (Ex.refl C) (.bl _)⟩
theorem op_isTi {i : Int} (p : P (.bool false)) : Op2 F R ks rIsT (.int i) (.bool true) P := fun ms σ H C vx vy _ r hx hy Q q => by
  cases hx; cases hy
  exact ⟨rfl, rfl, q _ H C _ p r (Ex.refl C) (.bl _)⟩
theorem op_isTb {b : Bool} (p : P (.bool b)) : Op2 F R ks rIsT (.bool b) (.bool true) P := fun ms σ H C vx vy _ r hx hy Q q => by
  cases hx; cases hy
  exact ⟨rfl, rfl, q _ H C _ p r (Ex.refl C) (.bl _)⟩
end
end DL
namespace DL
open PySem PySem.Spec L2
theorem Real.perm {F : FC} {ks : List SK} {ms ms' : Mem} {σ : L2.St} {H C : Hp} (r : Real F ks ms σ H C) (p : ms.Perm ms') : Real F ks ms' σ H C :=
  r.less (fun x h => p.mem_iff.mpr h) (fun q hq => let ⟨m, a, b⟩ := r.fxm q hq; ⟨m, p.mem_iff.mp a, b⟩) ((p.map _).nodup_iff.mp r.nd)
section
variable {F : FC} {ks : List SK} {rest : Mem} {te : TE} {Cc : Addr} {A : SlA} {S0 : SlS} {Pm : PyData → Mem → Prop}
/-- [o.m(x) for x in ..], the object changing -/
theorem em_lcS {wi : TI} {g : TG} {vs : List Nat} (h : EvI F (slM Cc A S0 ++ rest) wi ks fun ds => ds.length ≤ 90000 ∧ ∃ (Sf : Nat → SlS) (v : Nat → PyData), Sf 0 = S0 ∧
      (∀ i d, ds[i]? = some d → ∃ ks', StG F vs g d (wipeK ks vs) ks' ∧ ∀ x, EvM F te ks' (slM Cc A (Sf i) ++ (x :: rest)) fun y ms' => y = v i ∧ ms' = slM Cc A (Sf (i + 1)) ++ (x :: rest)) ∧
      Pm (.list ((List.range ds.length).map v)) (slM Cc A (Sf ds.length) ++ rest)) : EvM F (tLc wi g tYes te vs) ks (slM Cc A S0 ++ rest) Pm := fun σ H C r Q q => h _ σ H C (fun _ z => z) r _ fun J H1 C1 ds p r1 e1 w => by
  obtain ⟨hlen, Sf, v, s0, step, fin⟩ := p
  intro D hD
  obtain ⟨G, Y, wk, hG, hY⟩ := w.ex
  have hnf : ¬ F.fx D := fun z => by
    obtain ⟨m, hm⟩ := z
    obtain ⟨o, ho⟩ := (r1.fxo hm).there
    rw [hD] at ho; cases ho
  have mid : ∀ (S : SlS) (acc : List PyData), ((D, MO.l acc) :: (slM Cc A S ++ rest)).Perm (slM Cc A S ++ ((D, MO.l acc) :: rest)) := fun S acc => List.perm_middle.symm
  refine lc_it wk (fun i H' => i ≤ ds.length ∧ ∃ C' acc, acc = (List.range i).map v ∧ Ex C1 C' ∧ Real F (wipeK ks vs) (slM Cc A (Sf i) ++ ((D, MO.l acc) :: rest)) (wipe σ vs) H' C' ∧ Real F ks (slM Cc A (Sf i) ++ ((D, MO.l acc) :: rest)) σ H' C') ?_ ?_ ?_ ?_
  · refine ⟨Nat.zero_le _, C1, [], rfl, Ex.refl _, ?_, ?_⟩
    · rw [s0]; exact ((r1.wipe vs).newM hD (o := .lst []) (m := .l []) ⟨[], upd_same, .nil⟩).perm (mid _ _)
    · rw [s0]; exact (r1.newM hD (o := .lst []) (m := .l []) ⟨[], upd_same, .nil⟩).perm (mid _ _)
  · rintro i H' _ ⟨_, C', acc, _, e', ra, _⟩
    exact hG H' (e'.trans ra.ch)
  · rintro i x H' H2 hi ⟨_, C', acc, hacc, e', ra, rb⟩ y
    obtain ⟨d, C2, hd, eH, eC, hc, dx⟩ := hY i H' C' x H2 hi e' ra.ch y
    have ra2 := ra.grow eH eC hc
    have rb2 := rb.grow eH eC hc
    obtain ⟨ks', sg, et⟩ := step i d hd
    refine sg _ _ _ _ _ ra2 dx _ fun σ' rs hs => ⟨wipe_setIn hs, ?_⟩
    have back : ∀ {H4 C4 : Hp} {ms' : Mem}, Ex C2 C4 → Real F ks' ms' σ' H4 C4 → Real F (wipeK ks vs) ms' (wipe σ vs) H4 C4 ∧ Real F ks ms' σ H4 C4 := fun {H4 C4 ms'} e4 r4 =>
      ⟨⟨ra2.len, fun i k hk => (ra2.slot i k hk).up e4, r4.sub, r4.c0, r4.keep, r4.fxm, r4.mo, r4.nd⟩, ⟨rb2.len, fun i k hk => (rb2.slot i k hk).up e4, r4.sub, r4.c0, r4.keep, r4.fxm, r4.mo, r4.nd⟩⟩
    refine (et_yes (F := F) (R := []) (ks := ks') (T := fun b => b = true) rfl) _ _ _ _ (fun _ z => by cases z) rs _ fun b H3 C3 pb r3 e3 => ?_
    subst pb
    refine iteT (et _ σ' H3 C3 r3 _ fun v4 H4 C4 z ms4 p4 r4 e4 d4 => ?_)
    obtain ⟨hz, rfl⟩ := p4
    have r4' := r4.perm (mid _ _).symm
    obtain ⟨_, ⟨xs, hxs, dxs⟩, _⟩ := r4'.mo D _ List.mem_cons_self
    have al : acc.length = i := by rw [hacc]; simp
    refine ⟨xs, hxs, by rw [dxs.length]; exact Evl.sz_lt (by omega), hi, C4, acc ++ [z], ?_, (e'.trans eC).trans (e3.trans e4), ?_⟩
    · rw [hacc, hz, List.range_succ, List.map_append]
      rfl
    have nl : D ∉ (slM Cc A (Sf (i + 1)) ++ rest).map (·.1) := (List.nodup_cons.mp r4'.nd).1
    have r5 := r4'.setM (l := D) (m := .l (acc ++ [z])) (o := .lst (xs ++ [v4])) List.mem_cons_self hnf ⟨xs ++ [v4], upd_same, dxs.app (.cons d4 .nil)⟩
    rw [setM_head nl] at r5
    exact back (e3.trans e4) (r5.perm (mid _ _))
  · rintro H' ⟨_, C', acc, hacc, e', ra, rb⟩
    have rb' := rb.perm (mid _ _).symm
    obtain ⟨xs, r5, e5, d5⟩ := rb'.freeze List.mem_cons_self hnf
    have em : dropM ((D, MO.l acc) :: (slM Cc A (Sf ds.length) ++ rest)) D = slM Cc A (Sf ds.length) ++ rest := by
      unfold dropM
      rw [List.filter_cons, if_neg (by simp)]
      refine List.filter_eq_self.mpr fun p hp => ?_
      have h1 := rb'.nd
      rw [List.map_cons, List.nodup_cons] at h1
      simpa using fun z => h1.1 (List.mem_map.mpr ⟨p, hp, z⟩)
    rw [em] at r5
    rw [hacc] at d5
    exact q _ _ _ _ _ fin r5 ((e1.trans e').trans e5) d5
/-- a test or a test, with changes in the first alone -/
theorem ws_ifOrT {tf : TT} {ms : Mem} {D : DE} {t u : TS} (h : EvM F te ks ms fun d ms1 => ∃ b, d = .bool b ∧ (b = true → WS F t ks ms1 D) ∧ (b = false → EvT F ms1 tf ks fun b => (b = true → WS F t ks ms1 D) ∧ (b = false → WS F u ks ms1 D))) : WS F (tIfS (tOr (tTest te) tf) t u) ks ms D := fun σ H C r Ec q1 q2 q3 q4 =>
  h σ H C r _ fun v H' C' d ms' p r' e' dv => by
    obtain ⟨b, rfl, p1, p2⟩ := p
    cases dv
    refine ⟨b, rfl, ?_⟩
    cases b with
    | true => exact iteT (iteT (p1 rfl _ _ _ r' Ec (fun a b c d e z r2 e2 => q1 a b c d e z r2 (e'.trans e2)) (fun a b c d e z r2 e2 => q2 a b c d e z r2 (e'.trans e2)) (fun a b c d e z r2 e2 => q3 a b c d e z r2 (e'.trans e2)) q4))
    | false =>
      refine iteF (p2 rfl ms' σ H' C' (fun _ z => z) r' _ fun b H2 C2 pp rr ee => ?_)
      have e' := e'.trans ee
      cases b with
      | true => exact iteT (pp.1 rfl _ _ _ rr Ec (fun a b c d e z r2 e2 => q1 a b c d e z r2 (e'.trans e2)) (fun a b c d e z r2 e2 => q2 a b c d e z r2 (e'.trans e2)) (fun a b c d e z r2 e2 => q3 a b c d e z r2 (e'.trans e2)) q4)
      | false => exact iteF (pp.2 rfl _ _ _ rr Ec (fun a b c d e z r2 e2 => q1 a b c d e z r2 (e'.trans e2)) (fun a b c d e z r2 e2 => q2 a b c d e z r2 (e'.trans e2)) (fun a b c d e z r2 e2 => q3 a b c d e z r2 (e'.trans e2)) q4)
end
end DL

namespace DL
open PySem PySem.Spec L2
/-! ### a method that gives a new list of its own -/
def SpNewL (Cc : Addr) (Rn : SlS → List Int → Prop) : Sp := fun vs H Q E => ∃ (C : Hp) (A : SlA) (S : SlS) (xs : List Int), vs = [.ref A.x] ∧ Ex C H ∧ A.as.Nodup ∧ (∀ p ∈ slM Cc A S, C p.1 = none ∧ MOk C H p.1 p.2) ∧ Rn S xs ∧
  ∀ l H' C', H l = none → C' l = none → H' l = some (.lst (xs.map V.int)) → (∀ a o, H a = some o → a ∉ A.as → H' a = some o) → Ex C C' → (∀ a o, C' a = some o → H' a = some o ∧ (C a = some o ∨ H a = none)) → (∀ p ∈ slM Cc A S, MOk C' H' p.1 p.2) → Q (.ref l) H'
section
variable {F : FC} {ks : List SK} {ms : Mem} {D : DE} {K : PySem.W.Frag} {Cc : Addr} {A : SlA} {S : SlS} {i : Nat} {tv : TE}
/-- a new object that nobody holds may be what it likes -/
theorem Real.loose {σ : L2.St} {H C : Hp} (r : Real F ks ms σ H C) {l : Addr} (hc : C l = none) (h0 : F.H0 l = none) (hm : l ∉ ms.map (·.1)) (o : HO) : Real F ks ms σ (upd H l o) C where
  len := r.len
  slot := r.slot
  sub := fun a u e => by
    obtain ⟨h1, h2⟩ := r.sub a u e
    exact ⟨by rw [upd_ne (fun z => by rw [z, hc] at e; cases e)]; exact h1, h2⟩
  c0 := r.c0
  keep := fun a u e f => by rw [upd_ne (fun z => by rw [z, h0] at e; cases e)]; exact r.keep a u e f
  fxm := r.fxm
  mo := fun a m h => by
    obtain ⟨h1, h2, h3⟩ := r.mo a m h
    have ne : a ≠ l := fun z => hm (z ▸ List.mem_map.mpr ⟨_, h, rfl⟩)
    exact ⟨h1, h2.up (Ex.refl C) fun u e => by rw [upd_ne ne]; exact e, h3⟩
  nd := r.nd
/-- o.m().append(n) -/
theorem ws_appNew {m : Str} {E : XK} {Rn : SlS → List Int → Prop} {xs : List Int} {n : Int} (hi : ks[i]? = some (.v (.ref A.x))) (hs : slM Cc A S ⊆ ms) (hn : A.as.Nodup) (hm : ¬ m = nW ∧ ¬ m = nV ∧ ¬ m = nL ∧ ¬ m = nP) (hR : Rn S xs) (hl : xs.length < 100000) (h : D.nx ks ms) :
    WS F (tDrop (tBM K "list" rAppend (tMeth Cc m (SpNewL Cc Rn) [] E (tVar i) tNil) (tCons (tC (V.int n)) tNil))) ks ms D := fun σ H C r Ec q1 q2 q3 q4 => by
  obtain ⟨ln, hx⟩ := slM_x ⟨_, _, r⟩ hs
  refine ⟨_, r.slot i _ hi, A.x, A.dx, _, rfl, hx, lk_no hm.1 hm.2.1 hm.2.2.1 hm.2.2.2, ?_⟩
  refine ⟨C, A, S, xs, rfl, r.ch, hn, slM_mo r hs, hR, fun l H' C' hl0 hc0 hl1 kp eC hc hmo => ?_⟩
  have r2 := real_sl r hs kp eC hc hmo
  refine ⟨.inl ⟨rfl, _, SqL.of hl1⟩, l, _, _, rfl, rfl, hl1, by rw [List.length_map]; exact Evl.sz_lt hl, ?_⟩
  refine q1 _ _ _ _ _ h (r2.loose hc0 (r.old hl0) (fun z => ?_) _) eC
  obtain ⟨⟨a, mm⟩, hp, e⟩ := List.mem_map.mp z
  have e : a = l := e
  subst e
  obtain ⟨o, ho⟩ := (r.mo a mm hp).2.1.there
  rw [hl0] at ho; cases ho
end
def nlF (g : Exn → Addr) (C0 H0 : Hp) (E : XK) (A : SlA) : FC :=
  { g := g, C0 := C0, H0 := H0, dw := slW A, rt := fun _ _ => False, ex := fun _ => False, E := E, hE := fun _ _ h => h.elim }
section
variable {P : Program} {w : World} {K : PySem.W.Frag} {mg : Str → Option Value} {base : Heap}
/-- a def whose body is t, then the return of slot i -/
theorem fn_new {x qual : Str} {st : Stmt} {f : Addr} {fd : FuncData} {N : List Str} {a : Str} {k i : Nat} {g : Exn → Addr} {Cc : Addr} {Rn : SlS → List Int → Prop} (Fn : Fun K x qual st f fd) (Sc : FnScope N [a] (defScope st)) (hN : 1 ≤ N.length)
    (body : ∀ (cdv : Value) (Ar : Around) (outer : List Env) (s : Shared) (H : Hp) (E : XK), Room k (Ar.deeper (PyProof.Rows.envOfC qual (defScope st) s.heap.objs.size f cdv)) →
      ∃ t u, PSs (cxOf (L2.CX P w) P w K mg base N qual (defScope st) f cdv Ar outer s H E) (defBody st) (tSeq t (tSeq u (tRet (tVar i)))) ∧
        ∀ C0 H0 A S xs, A.as.Nodup → Rn S xs → WS (nlF g C0 H0 E A) (tSeq t u) (.v (.ref A.x) :: List.replicate (N.length - 1) .un) (slM Cc A S) { nx := fun ks ms => ∃ l, ks[i]? = some (.v (.ref l)) ∧ (l, MO.l (xs.map PyData.int)) ∈ ms ∧ ¬ (nlF g C0 H0 E A).fx l ∧ slM Cc A S ⊆ ms }) : FnOk P w K mg base (L2.CX P w) (k + 1) f fd [a] (SpNewL Cc Rn) := by
  refine Fn.okX Sc (fun vs H Q E h => ?_) (fun cdv Ar outer s H vs Q E hr h => ?_)
  · obtain ⟨C, A, S, xs, rfl, _⟩ := h
    rfl
  · obtain ⟨t, u, ht, hw⟩ := body cdv Ar outer s H E hr
    refine ⟨_, ht, ?_⟩
    obtain ⟨C, A, S, xs, rfl, eC, nd, hm, hR, hq⟩ := h
    have rs : Real (nlF g C H E A) (.v (.ref A.x) :: List.replicate (N.length - 1) .un) (slM Cc A S) (L2.start N [.ref A.x]) H C := real_in rfl rfl rfl eC nd hm (by unfold L2.start; simp) fun i k hk => by
      unfold L2.start
      cases i with
      | zero => cases hk; rfl
      | succ i =>
        rw [List.getElem?_cons_succ, List.getElem?_replicate] at hk
        split at hk
        · cases hk; trivial
        · cases hk
    show tSeq (tSeq t u) (tRet (tVar i)) _ _ H
    refine hw C H A S xs nd hR _ H C rs _ ?_ ?_ ?_ ?_
    · intro ks' ms' σ' H' C' ho r' e'
      obtain ⟨l, h1, h2, h3, h4⟩ := ho
      refine ⟨_, r'.slot i _ h1, ?_⟩
      obtain ⟨m1, ⟨ys, m2, m3⟩, m4⟩ := r'.mo l _ h2
      have e := m3.ints
      subst e
      have l0 : H l = none := m4.elim id fun z => absurd z h3
      exact hq l H' C' l0 m1 m2 (fun a o z ha => r'.keep a o z (nf_in (F := nlF g C H E A) rfl a ha)) (fun a o z => r'.c0 a o z) (fun a o z => r'.sub a o z) fun p hp => (r'.mo _ _ (h4 hp)).2.1
    · intro ks' ms' σ' H' C' ho; exact ho.elim
    · intro ks' ms' σ' H' C' ho; exact ho.elim
    · intro v ks' ms' σ' H' C' dd ho; exact ho.elim
/-- a def that is: return list(self.line) -/
theorem fn_line {x qual : Str} {st : Stmt} {f : Addr} {fd : FuncData} {a : Str} {k : Nat} {Cc : Addr} {Rn : SlS → List Int → Prop} (T : TxS K Cc) (hRn : ∀ S xs, Rn S xs → xs = S.line) (Fn : Fun K x qual st f fd) (Sc : FnScope [a] [a] (defScope st))
    (body : ∀ (cdv : Value) (Ar : Around) (outer : List Env) (s : Shared) (H : Hp) (E : XK), Room k (Ar.deeper (PyProof.Rows.envOfC qual (defScope st) s.heap.objs.size f cdv)) →
      PSs (cxOf (L2.CX P w) P w K mg base [a] qual (defScope st) f cdv Ar outer s H E) (defBody st) (tRet (tCB (rListOf K) (tCons (tFld K (tVar 0) nL) tNil)))) : FnOk P w K mg base (L2.CX P w) (k + 1) f fd [a] (SpNewL Cc Rn) := by
  refine Fn.okX Sc (fun vs H Q E h => ?_) (fun cdv Ar outer s H vs Q E hr h => ?_)
  · obtain ⟨C, A, S, xs, rfl, _⟩ := h
    rfl
  · refine ⟨_, body cdv Ar outer s H E hr, ?_⟩
    obtain ⟨C, A, S, xs, rfl, eC, nd, hm, hR, hq⟩ := h
    have e := hRn S xs hR
    subst e
    obtain ⟨_, _, o, hx, ln, rfl, dl⟩ := hm _ List.mem_cons_self
    obtain ⟨b, ys, rfl, hb, hys⟩ : ∃ b ys, ln = .ref b ∧ C b = some (.lst ys) ∧ ys = S.line.map V.int := by
      cases dl with
      | lst h1 h2 => exact ⟨_, _, rfl, h1, h2.ints⟩
    subst hys
    refine ⟨_, rfl, A.x, Cc, A.dx, _, _, rfl, hx, T.cl, T.nL, lk_L, b, _, rfl, .inl (SqL.of (eC _ _ hb)), fun l hl => ?_⟩
    refine hq l _ C hl (eC.free hl) upd_same (fun a o e _ => by rw [upd_ne (ne_of_none e hl)]; exact e) (Ex.refl C) (fun a o z => ⟨by rw [upd_ne (ne_of_none (eC _ _ z) hl)]; exact eC _ _ z, .inl z⟩) fun p hp => (hm p hp).2.up (Ex.refl C) fun o e => by rw [upd_ne (ne_of_none e hl)]; exact e
end
section
variable {F : FC} {ks : List SK} {ms : Mem} {ta tb : TE} {P : PyData → Mem → Prop}
theorem em_andV (h : EvM F ta ks ms fun x ms1 => ∃ b, x = .bool b ∧ (b = true → Ev F ms1 tb ks fun d => P d ms1) ∧ (b = false → P (.bool false) ms1)) : EvM F (tAndV ta tb) ks ms P := fun σ H C r Q q => h σ H C r _ fun v1 H1 C1 x ms1 p1 r1 e1 d1 => by
  obtain ⟨b, rfl, h1, h2⟩ := p1
  cases d1
  refine ⟨b, rfl, ?_⟩
  cases b with
  | true => exact iteT (h1 rfl ms1 σ H1 C1 (fun _ z => z) r1 Q fun v2 H2 C2 y p2 r2 e2 d2 => q v2 H2 C2 y ms1 p2 r2 (e1.trans e2) d2)
  | false => exact iteF (q _ H1 C1 _ ms1 (h2 rfl) r1 e1 (.bl _))
end
end DL

namespace WL
open PySem PySem.Spec L2 DL
def topS (i : Nat) : Stmt := PySem.Challenge.pw_windowlows_k18_more_errors.main.body.getD i (.Pass ⟨0, 0, 0, 0⟩)

local macro_rules | `(tactic| walk_at "mem") => `(tactic| repeat (first | exact List.mem_cons_self | refine List.mem_cons_of_mem _ ?_))
/-! short words of this text: w1 one step of a reading, w as many as go -/
local macro_rules | `(tactic| walk_at "w1") => `(tactic| first
  | (with_reducible refine ws_seq ?_)
  | (with_reducible refine ws_asg ?_)
  | (with_reducible refine ws_ret ?_)
  | (with_reducible refine ws_if ?_)
  | (with_reducible refine ws_par ?_)
  | (with_reducible refine ev_op ?_)
  | ((with_reducible refine ev_var (d := ?d) ?h ?_); case h => exact rfl)
  | (with_reducible refine ev_un ?_)
  | (with_reducible refine op_neg ?_)
  | (with_reducible refine ev_cI ?_)
  | (with_reducible refine ev_cB ?_)
  | (with_reducible refine ev_cN ?_)
  | (with_reducible refine ev_cS ?_)
  | (with_reducible refine op_int ?_)
  | (with_reducible refine op_bool ?_)
  | (with_reducible refine op_eqI ?_)
  | (with_reducible refine op_neI ?_)
  | (with_reducible refine op_eqL ?_)
  | (with_reducible refine op_neL ?_)
  | (with_reducible refine op_eq0L ?_)
  | (with_reducible refine op_ne0L ?_)
  | (with_reducible refine op_eqP ?_)
  | (with_reducible refine op_neP ?_)
  | (with_reducible refine op_eq0P ?_)
  | (with_reducible refine op_ne0P ?_)
  | (with_reducible refine op_eqLL ?_)
  | (with_reducible refine op_neLL ?_)
  | (with_reducible refine op_eqB ?_)
  | (with_reducible refine op_neB ?_)
  | (with_reducible refine op_eqI2 ?_)
  | (with_reducible refine op_neI2 ?_)
  | (with_reducible refine op_isn ?_)
  | (with_reducible refine op_notn ?_)
  | (with_reducible refine op_isb ?_)
  | (with_reducible refine op_isnb ?_)
  | (with_reducible refine ev_isi_int ?_)
  | (with_reducible refine ev_isi_bool ?_)
  | (with_reducible refine ev_isi_list ?_)
  | (with_reducible refine ev_isi_tuple ?_)
  | (with_reducible refine ev_isi_str ?_)
  | (with_reducible refine ev_cb ?_)
  | (with_reducible refine ea_cons ?_)
  | (with_reducible refine ea_nil ?_)
  | (with_reducible refine on_lenM ?_)
  | (with_reducible refine on_lenTM ?_)
  | (with_reducible refine on_len ?_)
  | (with_reducible refine on_lenT ?_)
  | (with_reducible refine on_max2 ?_)
  | (with_reducible refine on_min2 ?_)
  | (with_reducible refine on_sum ?_)
  | (with_reducible refine on_all ?_)
  | (with_reducible refine on_any ?_)
  | (with_reducible refine op_inL ?_)
  | (with_reducible refine op_notInL ?_)
  | (with_reducible refine op_inT ?_)
  | (with_reducible refine ev_sl ?_)
  | (with_reducible refine eo_none ?_)
  | (with_reducible refine eo_some ?_)
  | (with_reducible refine os_listM ?_)
  | (with_reducible refine os_list ?_)
  | (with_reducible refine ev_call ?_)
  | (with_reducible refine ev_andV ?_)
  | (with_reducible refine ev_orV ?_)
  | (with_reducible refine ev_notV ?_)
  | (with_reducible refine ev_if ?_)
  | (with_reducible refine ev_chain ?_)
  | (with_reducible refine et_test ?_)
  | (with_reducible refine et_B ?_)
  | (with_reducible refine et_and ?_)
  | (with_reducible refine et_or ?_)
  | (with_reducible refine et_not ?_)
  | (with_reducible refine ei_list ?_)
  | (with_reducible refine ei_tup ?_)
  | (with_reducible refine ei_range1 ?_)
  | (with_reducible refine ei_range2 ?_)
  | (with_reducible refine ei_zip ?_)
  | (with_reducible refine ei_enum ?_)
  | (with_reducible refine ei_str ?_)
  | (with_reducible refine ev_lrg1 ?_)
  | (with_reducible refine ev_lrg2 ?_)
  | (with_reducible refine ev_lst0 ?_)
  | (with_reducible refine ev_lst ?_)
  | ((with_reducible refine And.intro (a := _ ≤ 100000) ?h ?_); case h => simp; done)
  | (with_reducible refine ev_tup ?_)
  | (with_reducible refine ev_rev ?_)
  | (with_reducible refine ev_revT ?_)
  | (with_reducible refine ev_bmL ?_)
  | ((with_reducible refine ev_callDr (dr := ?r) (nu := ?n) ?h0 ?h1 ?h2 ?_); (case h0 => exact rfl); (case h1 => walk_at "mem"); (case h2 => walk_at "mem"))
  | (refine ⟨_, (by with_reducible rfl), ?_⟩))
local macro_rules | `(tactic| walk_at "w") => `(tactic| ((repeat walk_at "w1"); try (with_reducible show WS _ _ _ _ _)))
local macro_rules | `(tactic| walk_at "w1") => `(tactic| with_reducible refine ev_m1 ?_)
local macro_rules | `(tactic| walk_at "w1") => `(tactic| with_reducible refine op_signIn ?_)
local macro_rules | `(tactic| walk_at "w1") => `(tactic| with_reducible refine op_signNot ?_)
local macro_rules | `(tactic| walk_at "w1") => `(tactic| with_reducible refine ev_fmt ?_)
local macro_rules | `(tactic| walk_at "w1") => `(tactic| with_reducible refine ei_range3 ?_)
local macro_rules | `(tactic| walk_at "w1") => `(tactic| with_reducible refine ek_cons ?_)
local macro_rules | `(tactic| walk_at "w1") => `(tactic| ((with_reducible refine ek_last ?h0 ?_); (case h0 => exact rfl)))
local macro_rules | `(tactic| walk_at "w1") => `(tactic| with_reducible refine en_cons ?_)
local macro_rules | `(tactic| walk_at "w1") => `(tactic| with_reducible refine en_last ?_)
local macro_rules | `(tactic| walk_at "w1") => `(tactic| with_reducible refine ev_callKn0 ?_)
local macro_rules | `(tactic| walk_at "w1") => `(tactic| ((with_reducible refine ev_callKn (l := ?l) (Wf := ?W) ?h1 ?_); (case h1 => walk_at "mem")))
local macro_rules | `(tactic| walk_at "w1") => `(tactic| with_reducible refine os_tupM ?_)

section
variable {P : Program} {w : World} {K : PySem.W.Frag} {mg : Str → Option Value} {base : Heap} {g : Exn → Addr} {Cc : Addr}



/-! ### windows -/
/-- the values of the window at f -/
def win (row : List Int) (k f : Nat) : List Int := (row.drop f).take k
def lowsN (row : List Int) (k : Nat) : List Int := (List.range (row.length + 1 - k)).map fun f => minL (win row k f)
def highsN (row : List Int) (k : Nat) : List Int := (List.range (row.length + 1 - k)).map fun f => maxL (win row k f)
theorem win_ne {row : List Int} {k f : Nat} (hk : 1 ≤ k) (hf : f < row.length) : win row k f ≠ [] := by
  unfold win
  intro h
  have := congrArg List.length h
  rw [List.length_take, List.length_drop] at this
  simp at this
  omega
theorem cut_win (row : List Int) (k i : Nat) : cut row (some (0 + (i : Int))) (some (0 + (i : Int) + (k : Int))) = win row k i := by
  rw [show (0 : Int) + (i : Int) = ((i : Nat) : Int) by omega, show ((i : Nat) : Int) + (k : Int) = ((i + k : Nat) : Int) by omega, cut_nat]
  unfold win
  congr 1
  omega
theorem lowsN_len (row : List Int) (k : Nat) : (lowsN row k).length = row.length + 1 - k := by
  unfold lowsN
  rw [List.length_map, List.length_range]
theorem highsN_len (row : List Int) (k : Nat) : (highsN row k).length = row.length + 1 - k := by
  unfold highsN
  rw [List.length_map, List.length_range]
theorem lowsN_ne {row : List Int} {k : Nat} (h : k ≤ row.length) : lowsN row k ≠ [] := fun z => by
  have := congrArg List.length z
  rw [lowsN_len] at this
  simp at this
  omega
/-! ### windows by thresholds -/
theorem le_minL_iff {ns : List Int} (h : ns ≠ []) (t : Int) : t ≤ minL ns ↔ ∀ x ∈ ns, t ≤ x :=
  ⟨fun h1 x hx => Int.le_trans h1 (minL_le hx), fun h1 => h1 _ (minL_mem h)⟩
theorem le_maxL_iff {ns : List Int} (h : ns ≠ []) (t : Int) : t ≤ maxL ns ↔ ∃ x ∈ ns, t ≤ x :=
  ⟨fun h1 => ⟨_, maxL_mem h, h1⟩, fun ⟨x, hx, h1⟩ => Int.le_trans h1 (le_maxL hx)⟩
theorem maxL_le_iff {ns : List Int} (h : ns ≠ []) (t : Int) : maxL ns ≤ t ↔ ∀ x ∈ ns, x ≤ t :=
  ⟨fun h1 x hx => Int.le_trans (le_maxL hx) h1, fun h1 => h1 _ (maxL_mem h)⟩
theorem win_get {row : List Int} {k f j : Nat} : (win row k f)[j]? = if j < k then row[f + j]? else none := by
  unfold win
  rw [List.getElem?_take]
  split
  · rw [List.getElem?_drop]
  · rfl
theorem win_len {row : List Int} {k f : Nat} (h : f + k ≤ row.length) : (win row k f).length = k := by
  unfold win
  rw [List.length_take, List.length_drop]
  omega
theorem mem_win {row : List Int} {k f : Nat} {x : Int} (h : f + k ≤ row.length) : x ∈ win row k f ↔ ∃ j, f ≤ j ∧ j < f + k ∧ row.getD j 0 = x := by
  constructor
  · intro hx
    obtain ⟨j, hj, e⟩ := List.mem_iff_getElem.mp hx
    have hjk : j < k := by rw [win_len h] at hj; exact hj
    refine ⟨f + j, by omega, by omega, ?_⟩
    have e2 : (win row k f)[j]? = some x := by rw [List.getElem?_eq_getElem hj, e]
    rw [win_get, if_pos hjk] at e2
    rw [List.getD_eq_getElem?_getD, e2]
    rfl
  · rintro ⟨j, h1, h2, e⟩
    refine List.mem_of_getElem? (i := j - f) ?_
    rw [win_get, if_pos (by omega), show f + (j - f) = j by omega, List.getElem?_eq_getElem (by omega), ← e]
    simp [List.getD_eq_getElem?_getD, show j < row.length by omega]
/-- all values from f on, k of them, are at least t -/
def Al (t : Int) (row : List Int) (f k : Nat) : Prop := ∀ j, f ≤ j → j < f + k → t ≤ row.getD j 0
theorem al_min {t : Int} {row : List Int} {f k : Nat} (hk : 1 ≤ k) (h : f + k ≤ row.length) : t ≤ minL (win row k f) ↔ Al t row f k := by
  rw [le_minL_iff (win_ne hk (by omega))]
  constructor
  · intro h1 j a b
    exact h1 _ ((mem_win h).mpr ⟨j, a, b, rfl⟩)
  · intro h1 x hx
    obtain ⟨j, a, b, e⟩ := (mem_win h).mp hx
    rw [← e]
    exact h1 j a b
theorem lowsN_get {row : List Int} {k f : Nat} (h : f < row.length + 1 - k) : (lowsN row k)[f]? = some (minL (win row k f)) := by
  unfold lowsN
  rw [List.getElem?_map, List.getElem?_range h]
  rfl
theorem highsN_get {row : List Int} {k f : Nat} (h : f < row.length + 1 - k) : (highsN row k)[f]? = some (maxL (win row k f)) := by
  unfold highsN
  rw [List.getElem?_map, List.getElem?_range h]
  rfl
theorem lowsN_getD {row : List Int} {k f : Nat} (h : f < row.length + 1 - k) : (lowsN row k).getD f 0 = minL (win row k f) := by
  rw [List.getD_eq_getElem?_getD, lowsN_get h]
  rfl
theorem highsN_getD {row : List Int} {k f : Nat} (h : f < row.length + 1 - k) : (highsN row k).getD f 0 = maxL (win row k f) := by
  rw [List.getD_eq_getElem?_getD, highsN_get h]
  rfl
theorem mem_lowsN {row : List Int} {k : Nat} {x : Int} : x ∈ lowsN row k ↔ ∃ f, f < row.length + 1 - k ∧ minL (win row k f) = x := by
  unfold lowsN
  simp
theorem mem_highsN {row : List Int} {k : Nat} {x : Int} : x ∈ highsN row k ↔ ∃ f, f < row.length + 1 - k ∧ maxL (win row k f) = x := by
  unfold highsN
  simp
/-- the lists are one where they are at every place -/
theorem ext_getD {a b : List Int} (hl : a.length = b.length) (h : ∀ i, i < a.length → a.getD i 0 = b.getD i 0) : a = b := by
  refine List.ext_getElem hl fun i h1 h2 => ?_
  have := h i h1
  simpa [List.getD_eq_getElem?_getD, h1, h2] using this
theorem getD_mem {row : List Int} {j : Nat} (h : j < row.length) : row.getD j 0 ∈ row := by
  rw [List.getD_eq_getElem?_getD, List.getElem?_eq_getElem h]
  exact List.getElem_mem _
theorem mem_getD {row : List Int} {x : Int} (h : x ∈ row) : ∃ j, j < row.length ∧ row.getD j 0 = x := by
  obtain ⟨j, hj, e⟩ := List.mem_iff_getElem.mp h
  exact ⟨j, hj, by simp [List.getD_eq_getElem?_getD, hj, e]⟩
/-- the greatest low value: a window with all values that great -/
theorem al_max {t : Int} {row : List Int} {k : Nat} (hk : 1 ≤ k) (h : k ≤ row.length) : t ≤ maxL (lowsN row k) ↔ ∃ f, f + k ≤ row.length ∧ Al t row f k := by
  rw [le_maxL_iff (lowsN_ne h)]
  constructor
  · rintro ⟨x, hx, h1⟩
    obtain ⟨f, hf, rfl⟩ := mem_lowsN.mp hx
    exact ⟨f, by omega, (al_min hk (by omega)).mp h1⟩
  · rintro ⟨f, hf, h1⟩
    exact ⟨_, mem_lowsN.mpr ⟨f, by omega, rfl⟩, (al_min hk hf).mpr h1⟩
theorem lowsN_vals {row : List Int} {k : Nat} (hk : 1 ≤ k) (h : k ≤ row.length) {lo hi : Int} (hv : ∀ x ∈ row, lo ≤ x ∧ x ≤ hi) : ∀ x ∈ lowsN row k, lo ≤ x ∧ x ≤ hi := by
  intro x hx
  obtain ⟨f, hf, rfl⟩ := mem_lowsN.mp hx
  have hm := minL_mem (win_ne (row := row) (k := k) (f := f) hk (by omega))
  obtain ⟨j, a, b, e⟩ := (mem_win (by omega)).mp hm
  rw [← e]
  exact hv _ (getD_mem (by omega))
theorem highsN_vals {row : List Int} {k : Nat} (hk : 1 ≤ k) (h : k ≤ row.length) {lo hi : Int} (hv : ∀ x ∈ row, lo ≤ x ∧ x ≤ hi) : ∀ x ∈ highsN row k, lo ≤ x ∧ x ≤ hi := by
  intro x hx
  obtain ⟨f, hf, rfl⟩ := mem_highsN.mp hx
  have hm := maxL_mem (win_ne (row := row) (k := k) (f := f) hk (by omega))
  obtain ⟨j, a, b, e⟩ := (mem_win (by omega)).mp hm
  rw [← e]
  exact hv _ (getD_mem (by omega))
theorem lowsN_one (row : List Int) : lowsN row 1 = row := by
  refine ext_getD (by rw [lowsN_len]; omega) fun i hi => ?_
  rw [lowsN_len] at hi
  rw [lowsN_getD (by omega)]
  have h := minL_mem (win_ne (row := row) (k := 1) (f := i) (by omega) (by omega))
  obtain ⟨j, a, b, e⟩ := (mem_win (by omega)).mp h
  have : j = i := by omega
  rw [← e, this]
theorem lowsN_all {row : List Int} (h : row ≠ []) : lowsN row row.length = [minL row] := by
  have hl := List.length_pos_iff.mpr h
  unfold lowsN
  rw [show row.length + 1 - row.length = 1 by omega]
  show [minL (win row row.length 0)] = [minL row]
  unfold win
  rw [List.drop_zero, List.take_length]

/-! ### valleys, the least origin -/
/-- the values from i to j -/
def seg (row : List Int) (i j : Nat) : List Int := (row.drop i).take (j + 1 - i)
def isVal (row : List Int) (i j : Nat) : Bool := (seg row i j).all fun v => decide (v < min (row.getD (i - 1) 0) (row.getD (j + 1) 0))
def valFrom (row : List Int) (i : Nat) (m : Nat) : List (Int × Int) := ((List.range m).filter fun b => isVal row i (i + b)).map fun b : Nat => ((i : Int), (i : Int) + (b : Int))
def valleysN (row : List Int) : List (Int × Int) := (List.range (row.length - 2)).flatMap fun a => valFrom row (a + 1) (row.length - 2 - a)
def shortsN (row : List Int) (k : Nat) : List (Int × Int) := (valleysN row).filter fun p => decide (p.2 - p.1 + 1 < (k : Int))
theorem isVal_iff {row : List Int} {i j : Nat} (hij : i ≤ j) (hj : j < row.length) : isVal row i j = true ↔ ∀ p, i ≤ p → p ≤ j → row.getD p 0 < min (row.getD (i - 1) 0) (row.getD (j + 1) 0) := by
  have es : seg row i j = win row (j + 1 - i) i := rfl
  unfold isVal
  rw [es, List.all_eq_true]
  constructor
  · intro h p a b
    have := h _ ((mem_win (by omega)).mpr ⟨p, a, by omega, rfl⟩)
    simpa using this
  · intro h x hx
    obtain ⟨p, a, b, e⟩ := (mem_win (by omega)).mp hx
    rw [← e]
    simpa using h p a (by omega)
theorem mem_valleysN {row : List Int} {p : Int × Int} : p ∈ valleysN row ↔ ∃ i j : Nat, 1 ≤ i ∧ i ≤ j ∧ j + 2 ≤ row.length ∧ isVal row i j = true ∧ p = ((i : Int), (j : Int)) := by
  unfold valleysN valFrom
  rw [List.mem_flatMap]
  constructor
  · rintro ⟨a, ha, h⟩
    rw [List.mem_range] at ha
    obtain ⟨b, hb, rfl⟩ := List.mem_map.mp h
    obtain ⟨hb1, hb2⟩ := List.mem_filter.mp hb
    rw [List.mem_range] at hb1
    exact ⟨a + 1, a + 1 + b, by omega, by omega, by omega, hb2, by simp⟩
  · rintro ⟨i, j, h1, h2, h3, h4, rfl⟩
    refine ⟨i - 1, List.mem_range.mpr (by omega), List.mem_map.mpr ⟨j - i, List.mem_filter.mpr ⟨List.mem_range.mpr (by omega), ?_⟩, ?_⟩⟩
    · rw [show i - 1 + 1 = i by omega, show i + (j - i) = j by omega]
      exact h4
    · rw [show i - 1 + 1 = i by omega]
      congr 1
      omega
theorem mem_shortsN {row : List Int} {k : Nat} {p : Int × Int} : p ∈ shortsN row k ↔ ∃ i j : Nat, 1 ≤ i ∧ i ≤ j ∧ j + 2 ≤ row.length ∧ j + 1 < k + i ∧ isVal row i j = true ∧ p = ((i : Int), (j : Int)) := by
  unfold shortsN
  rw [List.mem_filter, mem_valleysN]
  constructor
  · rintro ⟨⟨i, j, h1, h2, h3, h4, rfl⟩, h5⟩
    simp at h5
    exact ⟨i, j, h1, h2, h3, by omega, h4, rfl⟩
  · rintro ⟨i, j, h1, h2, h3, h5, h4, rfl⟩
    refine ⟨⟨i, j, h1, h2, h3, h4, rfl⟩, ?_⟩
    simp
    omega
/-- no short valley -/
def Flat (row : List Int) (k : Nat) : Prop := ∀ i j : Nat, 1 ≤ i → i ≤ j → j + 2 ≤ row.length → j + 1 < k + i → isVal row i j = false
theorem shorts_nil {row : List Int} {k : Nat} : shortsN row k = [] ↔ Flat row k := by
  constructor
  · intro h i j h1 h2 h3 h4
    cases e : isVal row i j with
    | false => rfl
    | true =>
      have := mem_shortsN.mpr ⟨i, j, h1, h2, h3, h4, e, rfl⟩
      rw [h] at this
      cases this
  · intro h
    refine List.eq_nil_iff_forall_not_mem.mpr fun p hp => ?_
    obtain ⟨i, j, h1, h2, h3, h4, h5, _⟩ := mem_shortsN.mp hp
    rw [h i j h1 h2 h3 h4] at h5
    cases h5
/-- at each place the greatest value of the windows that contain it -/
def leastAt (m : List Int) (k p : Nat) : Int := maxL ((m.drop (p + 1 - k)).take (p + 1 - (p + 1 - k)))
def leastN (m : List Int) (k : Nat) : List Int := (List.range (m.length + k - 1)).map fun p => leastAt m k p
theorem leastN_len (m : List Int) (k : Nat) : (leastN m k).length = m.length + k - 1 := by
  unfold leastN
  rw [List.length_map, List.length_range]
theorem leastN_get {m : List Int} {k p : Nat} (h : p < m.length + k - 1) : (leastN m k)[p]? = some (leastAt m k p) := by
  unfold leastN
  rw [List.getElem?_map, List.getElem?_range h]
  rfl
theorem leastN_getD {m : List Int} {k p : Nat} (h : p < m.length + k - 1) : (leastN m k).getD p 0 = leastAt m k p := by
  rw [List.getD_eq_getElem?_getD, leastN_get h]
  rfl
theorem mem_take_drop {m : List Int} {a b : Nat} {x : Int} : x ∈ (m.drop a).take b ↔ ∃ f, a ≤ f ∧ f < a + b ∧ f < m.length ∧ m.getD f 0 = x := by
  constructor
  · intro hx
    obtain ⟨j, hj, e⟩ := List.mem_iff_getElem.mp hx
    rw [List.length_take, List.length_drop] at hj
    refine ⟨a + j, by omega, by omega, by omega, ?_⟩
    rw [List.getElem_take, List.getElem_drop] at e
    simp [List.getD_eq_getElem?_getD, show a + j < m.length by omega, e]
  · rintro ⟨f, h1, h2, h3, e⟩
    refine List.mem_of_getElem? (i := f - a) ?_
    rw [List.getElem?_take, if_pos (by omega), List.getElem?_drop, show a + (f - a) = f by omega, List.getElem?_eq_getElem h3, ← e]
    simp [List.getD_eq_getElem?_getD, h3]
theorem take_drop_ne {m : List Int} {k p : Nat} (hk : 1 ≤ k) (hm : 0 < m.length) (hp : p < m.length + k - 1) : (m.drop (p + 1 - k)).take (p + 1 - (p + 1 - k)) ≠ [] := by
  intro z
  have := congrArg List.length z
  rw [List.length_take, List.length_drop, List.length_nil] at this
  omega
theorem le_leastAt {m : List Int} {k p : Nat} (hk : 1 ≤ k) (hm : 0 < m.length) (hp : p < m.length + k - 1) (t : Int) : t ≤ leastAt m k p ↔ ∃ f, f < m.length ∧ f ≤ p ∧ p < f + k ∧ t ≤ m.getD f 0 := by
  unfold leastAt
  rw [le_maxL_iff (take_drop_ne hk hm hp)]
  constructor
  · rintro ⟨x, hx, h⟩
    obtain ⟨f, h1, h2, h3, rfl⟩ := mem_take_drop.mp hx
    exact ⟨f, h3, by omega, by omega, h⟩
  · rintro ⟨f, h1, h2, h3, h⟩
    exact ⟨_, mem_take_drop.mpr ⟨f, by omega, by omega, h1, rfl⟩, h⟩
theorem leastAt_le {m : List Int} {k p : Nat} (hk : 1 ≤ k) (hm : 0 < m.length) (hp : p < m.length + k - 1) (t : Int) : leastAt m k p ≤ t ↔ ∀ f, f < m.length → f ≤ p → p < f + k → m.getD f 0 ≤ t := by
  unfold leastAt
  rw [maxL_le_iff (take_drop_ne hk hm hp)]
  constructor
  · intro h f h1 h2 h3
    exact h _ (mem_take_drop.mpr ⟨f, by omega, by omega, h1, rfl⟩)
  · intro h x hx
    obtain ⟨f, h1, h2, h3, rfl⟩ := mem_take_drop.mp hx
    exact h f h3 (by omega) (by omega)
theorem leastN_vals {m : List Int} {k : Nat} (hk : 1 ≤ k) (hm : 0 < m.length) {lo hi : Int} (hv : ∀ x ∈ m, lo ≤ x ∧ x ≤ hi) : ∀ x ∈ leastN m k, lo ≤ x ∧ x ≤ hi := by
  intro x hx
  unfold leastN at hx
  obtain ⟨p, hp, rfl⟩ := List.mem_map.mp hx
  rw [List.mem_range] at hp
  have hm' := maxL_mem (take_drop_ne (m := m) hk hm hp)
  obtain ⟨f, h1, h2, h3, e⟩ := mem_take_drop.mp hm'
  unfold leastAt
  rw [← e]
  exact hv _ (getD_mem h3)
/-- the low row of the least origin, at f -/
theorem lows_least_len (m : List Int) {k : Nat} (hk : 1 ≤ k) : (lowsN (leastN m k) k).length = m.length := by
  rw [lowsN_len, leastN_len]
  omega
theorem lows_least_ge {m : List Int} {k f : Nat} (hk : 1 ≤ k) (hf : f < m.length) : m.getD f 0 ≤ minL (win (leastN m k) k f) := by
  rw [al_min hk (by rw [leastN_len]; omega)]
  intro j a b
  rw [leastN_getD (by omega), le_leastAt hk (by omega) (by omega)]
  exact ⟨f, hf, a, b, Int.le_refl _⟩
/-- an origin has the least one's low row, and is nowhere below it -/
theorem least_le {o m : List Int} {k : Nat} (hk : 1 ≤ k) (ho : k ≤ o.length) (e : lowsN o k = m) {p : Nat} (hp : p < o.length) : leastAt m k p ≤ o.getD p 0 := by
  have hl : m.length = o.length + 1 - k := by rw [← e, lowsN_len]
  rw [leastAt_le hk (by omega) (by omega)]
  intro f h1 h2 h3
  have : m.getD f 0 = minL (win o k f) := by rw [← e, lowsN_getD (by omega)]
  rw [this]
  exact minL_le ((mem_win (by omega)).mpr ⟨p, h2, h3, rfl⟩)
theorem lows_mono {a b : List Int} {k : Nat} (hk : 1 ≤ k) (hl : a.length = b.length) (h : ∀ p, p < a.length → a.getD p 0 ≤ b.getD p 0) {f : Nat} (hf : f + k ≤ a.length) : minL (win a k f) ≤ minL (win b k f) := by
  rw [al_min hk (by omega)]
  intro j c d
  refine Int.le_trans ?_ (h j (by omega))
  exact minL_le ((mem_win hf).mpr ⟨j, c, d, rfl⟩)
theorem lows_least {o m : List Int} {k : Nat} (hk : 1 ≤ k) (ho : k ≤ o.length) (e : lowsN o k = m) : lowsN (leastN m k) k = m := by
  have hl : m.length = o.length + 1 - k := by rw [← e, lowsN_len]
  refine ext_getD (lows_least_len m hk) fun f hf => ?_
  rw [lows_least_len m hk] at hf
  rw [lowsN_getD (by rw [leastN_len]; omega)]
  refine Int.le_antisymm ?_ (lows_least_ge hk hf)
  have em : m.getD f 0 = minL (win o k f) := by rw [← e, lowsN_getD (by omega)]
  rw [em]
  refine lows_mono hk (by rw [leastN_len]; omega) (fun p hp => ?_) (by rw [leastN_len]; omega)
  rw [leastN_len] at hp
  rw [leastN_getD hp]
  exact least_le hk ho e (by omega)
/-- the greatest place below n with q, the least one from a on -/
theorem last_of {q : Nat → Prop} : ∀ {n : Nat}, (∃ i, i < n ∧ q i) → ∃ i, i < n ∧ q i ∧ ∀ j, i < j → j < n → ¬ q j
  | 0, ⟨i, h, _⟩ => by omega
  | n + 1, ⟨i, h, hq⟩ => by
    by_cases hn : q n
    · exact ⟨n, by omega, hn, fun j a b => by omega⟩
    · have hi : i < n := by
        rcases Nat.lt_or_eq_of_le (Nat.le_of_lt_succ h) with z | z
        · exact z
        · rw [z] at hq; exact absurd hq hn
      obtain ⟨i', a, b, c⟩ := last_of ⟨i, hi, hq⟩
      refine ⟨i', by omega, b, fun j d e => ?_⟩
      rcases Nat.lt_or_eq_of_le (Nat.le_of_lt_succ e) with z | z
      · exact c j d z
      · rw [z]; exact hn
theorem first_of {q : Nat → Prop} {a : Nat} : ∀ {n : Nat}, (∃ i, a ≤ i ∧ i < a + n ∧ q i) → ∃ i, a ≤ i ∧ i < a + n ∧ q i ∧ ∀ j, a ≤ j → j < i → ¬ q j
  | 0, ⟨i, h, h2, _⟩ => by omega
  | n + 1, ⟨i, h, h2, hq⟩ => by
    by_cases hn : ∃ i, a ≤ i ∧ i < a + n ∧ q i
    · obtain ⟨i', x, y, z, w⟩ := first_of hn
      exact ⟨i', x, by omega, z, w⟩
    · refine ⟨i, h, h2, hq, fun j x y hj => hn ⟨j, x, by omega, hj⟩⟩
/-- an origin exactly if there is no short valley -/
theorem flat_iff {m : List Int} {k : Nat} (hk : 1 ≤ k) : lowsN (leastN m k) k = m ↔ Flat m k := by
  constructor
  · intro e i j h1 h2 h3 h4
    cases ev : isVal m i j with
    | false => rfl
    | true =>
      rw [isVal_iff h2 (by omega)] at ev
      have hi := ev i (Nat.le_refl _) h2
      have hge : ∀ p, i ≤ p → p < i + k → m.getD i 0 < leastAt m k p := fun p a b => by
        refine Int.lt_of_lt_of_le hi ?_
        by_cases hp : p < i - 1 + k
        · refine Int.le_trans (Int.min_le_left _ _) ?_
          rw [le_leastAt hk (by omega) (by omega)]
          exact ⟨i - 1, by omega, by omega, by omega, Int.le_refl _⟩
        · refine Int.le_trans (Int.min_le_right _ _) ?_
          rw [le_leastAt hk (by omega) (by omega)]
          exact ⟨j + 1, by omega, by omega, by omega, Int.le_refl _⟩
      have hlow : m.getD i 0 + 1 ≤ minL (win (leastN m k) k i) := by
        rw [al_min hk (by rw [leastN_len]; omega)]
        intro p a b
        rw [leastN_getD (by omega)]
        have := hge p a b
        omega
      have e2 : (lowsN (leastN m k) k).getD i 0 = m.getD i 0 := by rw [e]
      rw [lowsN_getD (by rw [leastN_len]; omega)] at e2
      omega
  · intro hF
    refine ext_getD (lows_least_len m hk) fun f hf => ?_
    rw [lows_least_len m hk] at hf
    rw [lowsN_getD (by rw [leastN_len]; omega)]
    refine Int.le_antisymm ?_ (lows_least_ge hk hf)
    -- else each place of the window lies in a greater window
    refine Int.not_lt.mp fun hlt => ?_
    have hcov : ∀ p, f ≤ p → p < f + k → ∃ q, q < m.length ∧ q ≤ p ∧ p < q + k ∧ m.getD f 0 < m.getD q 0 := fun p a b => by
      have h1 : m.getD f 0 + 1 ≤ minL (win (leastN m k) k f) := by omega
      rw [al_min hk (by rw [leastN_len]; omega)] at h1
      have h2 := h1 p a b
      rw [leastN_getD (by omega), le_leastAt hk (by omega) (by omega)] at h2
      obtain ⟨q, q1, q2, q3, q4⟩ := h2
      exact ⟨q, q1, q2, q3, by omega⟩
    have hL : ∃ i, i < f ∧ m.getD f 0 < m.getD i 0 := by
      obtain ⟨q, q1, q2, q3, q4⟩ := hcov f (Nat.le_refl _) (by omega)
      have : q ≠ f := fun z => by rw [z] at q4; omega
      exact ⟨q, by omega, q4⟩
    have hRr : ∃ i, f ≤ i ∧ i < f + (m.length - f) ∧ m.getD f 0 < m.getD i 0 := by
      obtain ⟨q, q1, q2, q3, q4⟩ := hcov (f + k - 1) (by omega) (by omega)
      exact ⟨q, by omega, by omega, q4⟩
    obtain ⟨l, l1, l2, l3⟩ := last_of hL
    obtain ⟨r, r1, r2, r3, r4⟩ := first_of hRr
    have hrf : r ≠ f := fun z => by rw [z] at r3; omega
    by_cases hs : r < l + k + 1
    · have hv : isVal m (l + 1) (r - 1) = true := by
        rw [isVal_iff (by omega) (by omega)]
        intro p a b
        have hp : m.getD p 0 ≤ m.getD f 0 := by
          by_cases hpf : p < f
          · exact Int.not_lt.mp (l3 p (by omega) hpf)
          · exact Int.not_lt.mp (r4 p (by omega) (by omega))
        rw [show l + 1 - 1 = l by omega, show r - 1 + 1 = r by omega]
        have : m.getD f 0 < min (m.getD l 0) (m.getD r 0) := by
          rw [Int.lt_min]
          exact ⟨l2, r3⟩
        omega
      rw [hF (l + 1) (r - 1) (by omega) (by omega) (by omega) (by omega)] at hv
      cases hv
    · obtain ⟨q, q1, q2, q3, q4⟩ := hcov (max f (l + k)) (by omega) (by omega)
      by_cases hql : q < f
      · by_cases hq : q ≤ l
        · omega
        · exact l3 q (by omega) hql q4
      · by_cases hq : q < r
        · exact r4 q (by omega) hq q4
        · omega
theorem flat_lows {o : List Int} {k : Nat} (hk : 1 ≤ k) (ho : k ≤ o.length) : Flat (lowsN o k) k := (flat_iff hk).mp (lows_least hk ho rfl)
theorem valFrom_len (row : List Int) (i m : Nat) : (valFrom row i m).length ≤ m := by
  unfold valFrom
  rw [List.length_map]
  have := List.length_filter_le (fun b => isVal row i (i + b)) (List.range m)
  rw [List.length_range] at this
  exact this
theorem valleys_len {row : List Int} (h : row.length ≤ 100) : ∀ i : Nat, ((List.range i).flatMap fun a => valFrom row (a + 1) (row.length - 2 - a)).length ≤ 100 * i
  | 0 => by simp
  | i + 1 => by
    have ih := valleys_len h i
    rw [List.range_succ, List.flatMap_append, List.length_append]
    have e : ([i].flatMap fun a => valFrom row (a + 1) (row.length - 2 - a)) = valFrom row (i + 1) (row.length - 2 - i) := by simp
    rw [e]
    have := valFrom_len row (i + 1) (row.length - 2 - i)
    omega

/-! ### rows mirrored, turned over, led, cut, joined -/
theorem eq_of_le_iff {a b : Int} (h : ∀ t : Int, t ≤ a ↔ t ≤ b) : a = b := Int.le_antisymm ((h a).mp (Int.le_refl _)) ((h b).mpr (Int.le_refl _))
theorem map_ne {f : Int → Int} {xs : List Int} (h : xs ≠ []) : xs.map f ≠ [] := fun z => h (List.map_eq_nil_iff.mp z)
theorem minL_mono {f : Int → Int} {xs : List Int} (h : xs ≠ []) (hf : ∀ x ∈ xs, ∀ y ∈ xs, x ≤ y → f x ≤ f y) : minL (xs.map f) = f (minL xs) :=
  (minL_is (List.mem_map.mpr ⟨_, minL_mem h, rfl⟩) fun y hy => by
    obtain ⟨x, hx, rfl⟩ := List.mem_map.mp hy
    exact hf _ (minL_mem h) x hx (minL_le hx)).symm
theorem maxL_mono {f : Int → Int} {xs : List Int} (h : xs ≠ []) (hf : ∀ x ∈ xs, ∀ y ∈ xs, x ≤ y → f x ≤ f y) : maxL (xs.map f) = f (maxL xs) :=
  (maxL_is (List.mem_map.mpr ⟨_, maxL_mem h, rfl⟩) fun y hy => by
    obtain ⟨x, hx, rfl⟩ := List.mem_map.mp hy
    exact hf x hx _ (maxL_mem h) (le_maxL hx)).symm
theorem minL_over {xs : List Int} (h : xs ≠ []) (c : Int) : minL (xs.map fun v => c - v) = c - maxL xs :=
  (minL_is (List.mem_map.mpr ⟨_, maxL_mem h, rfl⟩) fun y hy => by
    obtain ⟨x, hx, rfl⟩ := List.mem_map.mp hy
    have := le_maxL hx
    show c - maxL xs ≤ c - x
    omega).symm
theorem maxL_over {xs : List Int} (h : xs ≠ []) (c : Int) : maxL (xs.map fun v => c - v) = c - minL xs :=
  (maxL_is (List.mem_map.mpr ⟨_, minL_mem h, rfl⟩) fun y hy => by
    obtain ⟨x, hx, rfl⟩ := List.mem_map.mp hy
    have := minL_le hx
    show c - x ≤ c - minL xs
    omega).symm
theorem win_map (f : Int → Int) (row : List Int) (k i : Nat) : win (row.map f) k i = (win row k i).map f := by
  unfold win
  rw [List.map_take, List.map_drop]
theorem win_sub {row : List Int} {k i : Nat} {x : Int} (h : x ∈ win row k i) : x ∈ row := List.mem_of_mem_drop (List.mem_of_mem_take h)
theorem lows_map {f : Int → Int} {row : List Int} {k : Nat} (hk : 1 ≤ k) (hf : ∀ x ∈ row, ∀ y ∈ row, x ≤ y → f x ≤ f y) : lowsN (row.map f) k = (lowsN row k).map f := by
  unfold lowsN
  rw [List.map_map, List.length_map]
  refine List.map_congr_left fun i hi => ?_
  rw [List.mem_range] at hi
  show minL (win (row.map f) k i) = f (minL (win row k i))
  rw [win_map, minL_mono (win_ne hk (by omega)) fun x hx y hy => hf x (win_sub hx) y (win_sub hy)]
theorem highs_map {f : Int → Int} {row : List Int} {k : Nat} (hk : 1 ≤ k) (hf : ∀ x ∈ row, ∀ y ∈ row, x ≤ y → f x ≤ f y) : highsN (row.map f) k = (highsN row k).map f := by
  unfold highsN
  rw [List.map_map, List.length_map]
  refine List.map_congr_left fun i hi => ?_
  rw [List.mem_range] at hi
  show maxL (win (row.map f) k i) = f (maxL (win row k i))
  rw [win_map, maxL_mono (win_ne hk (by omega)) fun x hx y hy => hf x (win_sub hx) y (win_sub hy)]
theorem lows_over {row : List Int} {k : Nat} (hk : 1 ≤ k) (c : Int) : lowsN (row.map fun v => c - v) k = (highsN row k).map fun v => c - v := by
  unfold lowsN highsN
  rw [List.map_map, List.length_map]
  refine List.map_congr_left fun i hi => ?_
  rw [List.mem_range] at hi
  show minL (win (row.map fun v => c - v) k i) = c - maxL (win row k i)
  rw [win_map, minL_over (win_ne hk (by omega))]
theorem highs_over {row : List Int} {k : Nat} (hk : 1 ≤ k) (c : Int) : highsN (row.map fun v => c - v) k = (lowsN row k).map fun v => c - v := by
  unfold lowsN highsN
  rw [List.map_map, List.length_map]
  refine List.map_congr_left fun i hi => ?_
  rw [List.mem_range] at hi
  show maxL (win (row.map fun v => c - v) k i) = c - minL (win row k i)
  rw [win_map, maxL_over (win_ne hk (by omega))]
theorem rev_getD {row : List Int} {j : Nat} (h : j < row.length) : row.reverse.getD j 0 = row.getD (row.length - 1 - j) 0 := by
  rw [List.getD_eq_getElem?_getD, List.getD_eq_getElem?_getD, List.getElem?_reverse h]
theorem lows_rev {row : List Int} {k : Nat} (hk : 1 ≤ k) (h : k ≤ row.length) : lowsN row.reverse k = (lowsN row k).reverse := by
  refine ext_getD (by simp [lowsN_len]) fun f hf => ?_
  rw [lowsN_len, List.length_reverse] at hf
  rw [lowsN_getD (by rw [List.length_reverse]; exact hf), rev_getD (by rw [lowsN_len]; exact hf), lowsN_len, lowsN_getD (by omega)]
  refine eq_of_le_iff fun t => ?_
  rw [al_min hk (by rw [List.length_reverse]; omega), al_min hk (by omega)]
  constructor
  · intro hA j a b
    have := hA (row.length - 1 - j) (by omega) (by omega)
    rw [rev_getD (by omega), show row.length - 1 - (row.length - 1 - j) = j by omega] at this
    exact this
  · intro hA j a b
    rw [rev_getD (by omega)]
    exact hA _ (by omega) (by omega)
theorem leastAt_map {f : Int → Int} {m : List Int} {k p : Nat} (hk : 1 ≤ k) (hm : 0 < m.length) (hp : p < m.length + k - 1) (hf : ∀ x ∈ m, ∀ y ∈ m, x ≤ y → f x ≤ f y) : leastAt (m.map f) k p = f (leastAt m k p) := by
  unfold leastAt
  rw [← List.map_drop, ← List.map_take, maxL_mono (take_drop_ne hk hm hp) fun x hx y hy => hf x (List.mem_of_mem_drop (List.mem_of_mem_take hx)) y (List.mem_of_mem_drop (List.mem_of_mem_take hy))]
theorem least_map {f : Int → Int} {m : List Int} {k : Nat} (hk : 1 ≤ k) (hm : 0 < m.length) (hf : ∀ x ∈ m, ∀ y ∈ m, x ≤ y → f x ≤ f y) : leastN (m.map f) k = (leastN m k).map f := by
  unfold leastN
  rw [List.map_map, List.length_map]
  refine List.map_congr_left fun p hp => ?_
  exact leastAt_map hk hm (List.mem_range.mp hp) hf
theorem least_mem {m : List Int} {k : Nat} (hk : 1 ≤ k) (hm : 0 < m.length) {x : Int} (hx : x ∈ leastN m k) : x ∈ m := by
  unfold leastN at hx
  obtain ⟨p, hp, rfl⟩ := List.mem_map.mp hx
  exact List.mem_of_mem_drop (List.mem_of_mem_take (maxL_mem (take_drop_ne hk hm (List.mem_range.mp hp))))
theorem least_rev {m : List Int} {k : Nat} (hk : 1 ≤ k) (hm : 0 < m.length) : leastN m.reverse k = (leastN m k).reverse := by
  refine ext_getD (by simp [leastN_len]) fun p hp => ?_
  rw [leastN_len, List.length_reverse] at hp
  rw [leastN_getD (by rw [List.length_reverse]; exact hp), rev_getD (by rw [leastN_len]; exact hp), leastN_len, leastN_getD (by omega)]
  refine eq_of_le_iff fun t => ?_
  rw [le_leastAt hk (by rw [List.length_reverse]; exact hm) (by rw [List.length_reverse]; exact hp), le_leastAt hk hm (by omega)]
  constructor
  · rintro ⟨f, a, b, c, d⟩
    rw [List.length_reverse] at a
    rw [rev_getD a] at d
    exact ⟨_, by omega, by omega, by omega, d⟩
  · rintro ⟨f, a, b, c, d⟩
    refine ⟨m.length - 1 - f, by rw [List.length_reverse]; omega, by omega, by omega, ?_⟩
    rw [rev_getD (by omega), show m.length - 1 - (m.length - 1 - f) = f by omega]
    exact d
theorem hasO_lows {o : List Int} {k : Nat} (hk : 1 ≤ k) (h : k ≤ o.length) : lowsN (leastN (lowsN o k) k) k = lowsN o k := lows_least hk h rfl
theorem win_part {row : List Int} {f l k i : Nat} (h : f + i + k ≤ l) : win ((row.drop f).take (l - f)) k i = win row k (f + i) := by
  refine List.ext_getElem? fun j => ?_
  rw [win_get, win_get]
  by_cases hj : j < k
  · rw [if_pos hj, if_pos hj, List.getElem?_take, if_pos (by omega), List.getElem?_drop]
    congr 1
    omega
  · rw [if_neg hj, if_neg hj]
theorem lows_part {row : List Int} {f l k : Nat} (hk : 1 ≤ k) (h1 : f + k ≤ l) (h2 : l ≤ row.length) : lowsN ((row.drop f).take (l - f)) k = ((lowsN row k).drop f).take (l - k + 1 - f) := by
  have hlen : ((row.drop f).take (l - f)).length = l - f := by rw [List.length_take, List.length_drop]; omega
  refine List.ext_getElem? fun i => ?_
  rw [List.getElem?_take]
  by_cases hi : i < l - k + 1 - f
  · rw [if_pos hi, List.getElem?_drop, lowsN_get (by rw [hlen]; omega), lowsN_get (by omega), win_part (by omega)]
  · rw [if_neg hi, List.getElem?_eq_none (by rw [lowsN_len, hlen]; omega)]
theorem win_app {row other : List Int} {k i : Nat} (h : i + k ≤ row.length) : win (row ++ other) k i = win row k i := by
  refine List.ext_getElem? fun j => ?_
  rw [win_get, win_get]
  by_cases hj : j < k
  · rw [if_pos hj, if_pos hj, List.getElem?_append_left (by omega)]
  · rw [if_neg hj, if_neg hj]
theorem lows_app {row other : List Int} {k : Nat} (hk : 1 ≤ k) (h : k ≤ row.length) : (lowsN (row ++ other) k).take (lowsN row k).length = lowsN row k := by
  refine List.ext_getElem? fun i => ?_
  rw [List.getElem?_take, lowsN_len]
  by_cases hi : i < row.length + 1 - k
  · rw [if_pos hi, lowsN_get (by rw [List.length_append]; omega), lowsN_get hi, win_app (by omega)]
  · rw [if_neg hi, List.getElem?_eq_none (by rw [lowsN_len]; omega)]

/-! ### the least row over two low rows -/
def bothN (a b : List Int) : List Int := (a.zip b).map fun p => max p.1 p.2
theorem bothN_len {a b : List Int} (h : a.length = b.length) : (bothN a b).length = a.length := by
  unfold bothN
  rw [List.length_map, List.length_zip]
  omega
theorem bothN_getD {a b : List Int} (h : a.length = b.length) {p : Nat} (hp : p < a.length) : (bothN a b).getD p 0 = max (a.getD p 0) (b.getD p 0) := by
  unfold bothN
  have hb : p < b.length := by omega
  have e : (a.zip b)[p]? = some (a[p], b[p]) := by
    rw [List.getElem?_eq_getElem (by rw [List.length_zip]; omega), List.getElem_zip]
  rw [List.getD_eq_getElem?_getD, List.getElem?_map, e]
  simp [List.getD_eq_getElem?_getD, hp, hb]
/-- over a row that has both: nowhere above it, and it has both -/
theorem both_le {row : List Int} {j k p : Nat} (hj : 1 ≤ j) (hk : 1 ≤ k) (h1 : j ≤ row.length) (h2 : k ≤ row.length) (hp : p < row.length) : (bothN (leastN (lowsN row j) j) (leastN (lowsN row k) k)).getD p 0 ≤ row.getD p 0 := by
  have e1 : (leastN (lowsN row j) j).length = row.length := by rw [leastN_len, lowsN_len]; omega
  have e2 : (leastN (lowsN row k) k).length = row.length := by rw [leastN_len, lowsN_len]; omega
  rw [bothN_getD (by omega) (by omega), leastN_getD (by rw [lowsN_len]; omega), leastN_getD (by rw [lowsN_len]; omega)]
  exact Int.max_le.mpr ⟨least_le hj h1 rfl hp, least_le hk h2 rfl hp⟩
theorem lows_between {a b c : List Int} {k : Nat} (hk : 1 ≤ k) (h : k ≤ a.length) (l1 : a.length = b.length) (l2 : b.length = c.length) (h1 : ∀ p, p < a.length → a.getD p 0 ≤ b.getD p 0) (h2 : ∀ p, p < a.length → b.getD p 0 ≤ c.getD p 0) (e : lowsN a k = lowsN c k) : lowsN b k = lowsN a k := by
  have n1 := lowsN_len a k
  have n2 := lowsN_len b k
  refine ext_getD (by omega) fun f hf => ?_
  rw [lowsN_getD (by omega), lowsN_getD (by omega)]
  have q1 := lows_mono hk l1 h1 (f := f) (by omega)
  have q2 := lows_mono hk l2 (fun p hp => h2 p (by omega)) (f := f) (by omega)
  have q3 : minL (win a k f) = minL (win c k f) := by
    rw [← lowsN_getD (row := a) (by omega), ← lowsN_getD (row := c) (by omega), e]
  omega
theorem lows_both {row : List Int} {j k : Nat} (hj : 1 ≤ j) (hk : 1 ≤ k) (h1 : j ≤ row.length) (h2 : k ≤ row.length) : lowsN (bothN (leastN (lowsN row j) j) (leastN (lowsN row k) k)) j = lowsN row j ∧ lowsN (bothN (leastN (lowsN row j) j) (leastN (lowsN row k) k)) k = lowsN row k := by
  have e1 : (leastN (lowsN row j) j).length = row.length := by rw [leastN_len, lowsN_len]; omega
  have e2 : (leastN (lowsN row k) k).length = row.length := by rw [leastN_len, lowsN_len]; omega
  have e3 := bothN_len (a := leastN (lowsN row j) j) (b := leastN (lowsN row k) k) (by omega)
  have le := fun p (hp : p < row.length) => both_le hj hk h1 h2 hp
  constructor
  · have q := lows_between (a := leastN (lowsN row j) j) (b := bothN (leastN (lowsN row j) j) (leastN (lowsN row k) k)) (c := row) hj (by omega) (by omega) (by omega) (fun p hp => by rw [bothN_getD (by omega) (by omega)]; exact Int.le_max_left _ _) (fun p hp => le p (by omega)) (lows_least hj h1 rfl)
    rw [q]
    exact lows_least hj h1 rfl
  · have q := lows_between (a := leastN (lowsN row k) k) (b := bothN (leastN (lowsN row j) j) (leastN (lowsN row k) k)) (c := row) hk (by omega) (by omega) (by omega) (fun p hp => by rw [bothN_getD (by omega) (by omega)]; exact Int.le_max_right _ _) (fun p hp => le p (by omega)) (lows_least hk h2 rfl)
    rw [q]
    exact lows_least hk h2 rfl

/-! all rows, in order -/
def allN : Nat → Nat → List (List Int)
  | 0, _ => [[]]
  | n + 1, m => (allN n m).flatMap fun r => (List.range (m + 1)).map fun v : Nat => r ++ [(v : Int)]
def allP : Nat → Nat → List (List Int)
  | 0, _ => [[]]
  | n + 1, m => (List.range (m + 1)).flatMap fun v : Nat => (allP n m).map fun r => (v : Int) :: r
theorem allP_app : ∀ n m, allP (n + 1) m = (allP n m).flatMap fun r => (List.range (m + 1)).map fun v : Nat => r ++ [(v : Int)]
  | 0, m => by
    show (List.range (m + 1)).flatMap (fun v : Nat => [[(v : Int)]]) = (List.range (m + 1)).map (fun v : Nat => [(v : Int)]) ++ []
    rw [List.append_nil]
    induction List.range (m + 1) with
    | nil => rfl
    | cons x xs ih => rw [List.flatMap_cons, ih]; rfl
  | n + 1, m => by
    have ih := allP_app n m
    show (List.range (m + 1)).flatMap (fun v : Nat => (allP (n + 1) m).map fun r => (v : Int) :: r) = ((List.range (m + 1)).flatMap fun v : Nat => (allP n m).map fun r => (v : Int) :: r).flatMap _
    rw [List.flatMap_assoc]
    congr 1
    funext v
    rw [ih, List.map_flatMap, List.flatMap_map]
    congr 1
    funext r
    rw [List.map_map]
    rfl
theorem allN_allP : ∀ n m, allN n m = allP n m
  | 0, _ => rfl
  | n + 1, m => by
    rw [allP_app, ← allN_allP n m]
    rfl
theorem mem_allP : ∀ {n m : Nat} {x : List Int}, x ∈ allP n m ↔ x.length = n ∧ ∀ v ∈ x, 0 ≤ v ∧ v ≤ (m : Int)
  | 0, m, x => by
    show x ∈ [[]] ↔ _
    constructor
    · intro h
      have : x = [] := by simpa using h
      subst this
      exact ⟨rfl, fun v hv => by cases hv⟩
    · rintro ⟨h, _⟩
      rw [List.length_eq_zero_iff.mp h]
      exact List.mem_cons_self
  | n + 1, m, x => by
    have ih := fun y => mem_allP (n := n) (m := m) (x := y)
    show x ∈ (List.range (m + 1)).flatMap (fun v : Nat => (allP n m).map fun r => (v : Int) :: r) ↔ _
    constructor
    · intro h
      obtain ⟨v, hv, hx⟩ := List.mem_flatMap.mp h
      obtain ⟨r, hr, rfl⟩ := List.mem_map.mp hx
      obtain ⟨h1, h2⟩ := (ih r).mp hr
      have := List.mem_range.mp hv
      refine ⟨by rw [List.length_cons, h1], fun u hu => ?_⟩
      rcases List.mem_cons.mp hu with rfl | hu
      · omega
      · exact h2 u hu
    · rintro ⟨h1, h2⟩
      cases x with
      | nil => simp at h1
      | cons v r =>
        have hv := h2 v List.mem_cons_self
        refine List.mem_flatMap.mpr ⟨v.toNat, List.mem_range.mpr (by omega), List.mem_map.mpr ⟨r, (ih r).mpr ⟨by simpa using h1, fun u hu => h2 u (List.mem_cons_of_mem _ hu)⟩, ?_⟩⟩
        rw [show ((v.toNat : Nat) : Int) = v by omega]
theorem nodup_flat {α β : Type} {f : α → List β} : ∀ {xs : List α}, xs.Nodup → (∀ x ∈ xs, (f x).Nodup) → (∀ x ∈ xs, ∀ y ∈ xs, x ≠ y → ∀ b ∈ f x, b ∉ f y) → (xs.flatMap f).Nodup
  | [], _, _, _ => List.nodup_nil
  | x :: xs, h1, h2, h3 => by
    obtain ⟨a1, a2⟩ := List.nodup_cons.mp h1
    rw [List.flatMap_cons]
    refine List.nodup_append.mpr ⟨h2 x List.mem_cons_self, nodup_flat a2 (fun y hy => h2 y (List.mem_cons_of_mem _ hy)) (fun y hy z hz => h3 y (List.mem_cons_of_mem _ hy) z (List.mem_cons_of_mem _ hz)), fun b hb c hc => ?_⟩
    obtain ⟨y, hy, hcy⟩ := List.mem_flatMap.mp hc
    exact fun z => h3 x List.mem_cons_self y (List.mem_cons_of_mem _ hy) (fun w => a1 (by rw [w]; exact hy)) b hb (by rw [z]; exact hcy)
theorem allP_nodup : ∀ n m, (allP n m).Nodup
  | 0, _ => by simp [allP]
  | n + 1, m => by
    refine nodup_flat List.nodup_range (fun v _ => ?_) (fun v _ u _ hne b hb hc => ?_)
    · rw [List.nodup_iff_pairwise_ne, List.pairwise_map]
      exact (List.nodup_iff_pairwise_ne.mp (allP_nodup n m)).imp fun {a b} h z => h (by injection z)
    · obtain ⟨r, _, rfl⟩ := List.mem_map.mp hb
      obtain ⟨r', _, e⟩ := List.mem_map.mp hc
      injection e with e _
      exact hne (by omega)
theorem allN_len : ∀ n m, (allN n m).length = (m + 1) ^ n
  | 0, _ => rfl
  | n + 1, m => by
    have h : ∀ xs : List (List Int), (xs.flatMap fun r => (List.range (m + 1)).map fun v : Nat => r ++ [(v : Int)]).length = xs.length * (m + 1) := fun xs => by
      induction xs with
      | nil => simp
      | cons x xs ih => rw [List.flatMap_cons, List.length_append, ih, List.length_map, List.length_range, List.length_cons, Nat.succ_mul, Nat.add_comm]
    show ((allN n m).flatMap _).length = _
    rw [h, allN_len n m, Nat.pow_succ]
theorem flat_take {α : Type} (f : List Int → List α) {xs : List (List Int)} {i : Nat} {x : List Int} (h : xs[i]? = some x) : (xs.take (i + 1)).flatMap f = (xs.take i).flatMap f ++ f x := by
  rw [List.take_add_one, h, List.flatMap_append]
  simp
theorem flat_take_len {f : List Int → List (List Int)} {m : Nat} (hf : ∀ x, (f x).length = m + 1) : ∀ xs : List (List Int), (xs.flatMap f).length = xs.length * (m + 1)
  | [] => by simp
  | x :: xs => by rw [List.flatMap_cons, List.length_append, hf, flat_take_len hf xs, List.length_cons, Nat.succ_mul, Nat.add_comm]

/-! rows with a low row and a high row -/
def topAt (h : List Int) (k p : Nat) : Int := minL ((h.drop (p + 1 - k)).take (p + 1 - (p + 1 - k)))
theorem topAt_le {m : List Int} {k p : Nat} (hk : 1 ≤ k) (hm : 0 < m.length) (hp : p < m.length + k - 1) (t : Int) : t ≤ topAt m k p ↔ ∀ f, f < m.length → f ≤ p → p < f + k → t ≤ m.getD f 0 := by
  unfold topAt
  rw [le_minL_iff (take_drop_ne hk hm hp)]
  constructor
  · intro h f h1 h2 h3
    exact h _ (mem_take_drop.mpr ⟨f, by omega, by omega, h1, rfl⟩)
  · intro h x hx
    obtain ⟨f, h1, h2, h3, rfl⟩ := mem_take_drop.mp hx
    exact h f h3 (by omega) (by omega)
def okEnd (low high : List Int) (k : Nat) (row : List Int) : Bool := decide (row.length < k) || (decide (minL (row.drop (row.length - k)) = low.getD (row.length - k) 0) && decide (maxL (row.drop (row.length - k)) = high.getD (row.length - k) 0))
def grN (low high : List Int) (k : Nat) : Nat → List Int → List (List Int)
  | 0, row => if okEnd low high k row = true then [row] else []
  | m + 1, row => if okEnd low high k row = true then (List.range (topAt high k row.length - leastAt low k row.length + 1).toNat).flatMap fun i : Nat => grN low high k m (row ++ [leastAt low k row.length + (i : Int)]) else []
def okAll (low high : List Int) (k : Nat) (o : List Int) : Bool := decide (lowsN o k = low) && decide (highsN o k = high)
def winOk (low high : List Int) (k : Nat) (row : List Int) (f : Nat) : Prop := minL (win row k f) = low.getD f 0 ∧ maxL (win row k f) = high.getD f 0
theorem okEnd_iff {low high row : List Int} {k : Nat} : okEnd low high k row = true ↔ (k ≤ row.length → winOk low high k row (row.length - k)) := by
  unfold okEnd winOk
  simp only [Bool.or_eq_true, Bool.and_eq_true, decide_eq_true_eq]
  have e : k ≤ row.length → win row k (row.length - k) = row.drop (row.length - k) := fun h => List.take_of_length_le (by rw [List.length_drop]; omega)
  constructor
  · rintro (h | h) hk
    · omega
    · rw [e hk]; exact h
  · intro h
    by_cases hk : k ≤ row.length
    · right
      have := h hk
      rw [e hk] at this
      exact this
    · left; omega
theorem okAll_iff {low high o : List Int} {k : Nat} (hl : low.length = high.length) (hn : o.length + 1 = low.length + k) (hk : 1 ≤ k) (h1 : 1 ≤ low.length) : okAll low high k o = true ↔ ∀ f, f + k ≤ o.length → winOk low high k o f := by
  unfold okAll winOk
  simp only [Bool.and_eq_true, decide_eq_true_eq]
  have l1 := lowsN_len o k
  have l2 := highsN_len o k
  constructor
  · rintro ⟨e1, e2⟩ f hf
    refine ⟨?_, ?_⟩
    · rw [← e1]; exact (lowsN_getD (by omega)).symm
    · rw [← e2]; exact (highsN_getD (by omega)).symm
  · intro h
    refine ⟨ext_getD (by omega) fun f hf => ?_, ext_getD (by omega) fun f hf => ?_⟩
    · rw [lowsN_getD (by omega)]; exact (h f (by omega)).1
    · rw [highsN_getD (by omega)]; exact (h f (by omega)).2
theorem win_pre {row x : List Int} {k f : Nat} (h : f + k ≤ row.length) : win (row ++ x) k f = win row k f := by
  unfold win
  rw [List.drop_append_of_le_length (by omega), List.take_append_of_le_length (by rw [List.length_drop]; omega)]
theorem flt_flat {α β : Type} (q : β → Bool) (f : α → List β) : ∀ xs : List α, (xs.flatMap f).filter q = xs.flatMap fun a => (f a).filter q
  | [] => rfl
  | x :: xs => by rw [List.flatMap_cons, List.filter_append, flt_flat q f xs, List.flatMap_cons]
theorem flat_nil {α β : Type} {f : α → List β} {xs : List α} (h : ∀ x ∈ xs, f x = []) : xs.flatMap f = [] := List.flatMap_eq_nil_iff.mpr h
/-- a range within a range, nothing outside -/
theorem flat_sub {β : Type} {f : Int → List β} {b : Int} {n N : Nat} (hb : 0 ≤ b) (hn : n = 0 ∨ b + (n : Int) ≤ (N : Int)) (ho : ∀ v : Int, v < b ∨ b + (n : Int) ≤ v → f v = []) : (List.range n).flatMap (fun i : Nat => f (b + (i : Int))) = (List.range N).flatMap fun v : Nat => f (v : Int) := by
  rcases hn with rfl | hn
  · rw [flat_nil (xs := List.range N) fun v _ => ho _ (by omega)]
    rfl
  · obtain ⟨c, rfl⟩ : ∃ c : Nat, b = (c : Int) := ⟨b.toNat, by omega⟩
    obtain ⟨d, rfl⟩ : ∃ d, N = c + n + d := ⟨N - (c + n), by omega⟩
    rw [List.range_add, List.flatMap_append, List.range_add, List.flatMap_append, List.flatMap_map, List.flatMap_map, flat_nil (xs := List.range c) fun v hv => ho _ (.inl (by have := List.mem_range.mp hv; omega)), flat_nil (xs := List.range d) fun v hv => ho _ (.inr (by omega)), List.nil_append, List.append_nil]
    congr 1
theorem gr_all {low high : List Int} {k mo : Nat} (hk : 1 ≤ k) (h1 : 1 ≤ low.length) (hl : low.length = high.length) (hlo : ∀ x ∈ low, 0 ≤ x) (hhi : ∀ x ∈ high, x ≤ (mo : Int)) : ∀ (m : Nat) (row : List Int), row.length + m + 1 = low.length + k → (∀ f, f + k < row.length → winOk low high k row f) →
    grN low high k m row = ((allP m mo).filter fun x => okAll low high k (row ++ x)).map fun x => row ++ x
  | 0, row, hn, hp => by
    show (if okEnd low high k row = true then [row] else []) = _
    have e : okAll low high k (row ++ []) = okEnd low high k row := by
      rw [List.append_nil, Bool.eq_iff_iff, okAll_iff hl (by omega) hk h1, okEnd_iff]
      constructor
      · intro h hkr; exact h _ (by omega)
      · intro h f hf
        by_cases hfe : f + k = row.length
        · have := h (by omega)
          rw [show row.length - k = f by omega] at this
          exact this
        · exact hp f (by omega)
    show _ = ([[]].filter fun x => okAll low high k (row ++ x)).map fun x => row ++ x
    rw [List.filter_cons, e]
    cases okEnd low high k row <;> simp
  | m + 1, row, hn, hp => by
    show (if okEnd low high k row = true then _ else []) = _
    by_cases hE : okEnd low high k row = true
    · rw [if_pos hE]
      have pf : ∀ f, f + k ≤ row.length → winOk low high k row f := fun f hf => by
        by_cases hfe : f + k = row.length
        · have := okEnd_iff.mp hE (by omega)
          rw [show row.length - k = f by omega] at this
          exact this
        · exact hp f (by omega)
      have ih : ∀ v : Int, grN low high k m (row ++ [v]) = ((allP m mo).filter fun x => okAll low high k (row ++ [v] ++ x)).map fun x => row ++ [v] ++ x := fun v => gr_all hk h1 hl hlo hhi m (row ++ [v]) (by simp; omega) fun f hf => by
        rw [List.length_append] at hf
        have := pf f (by simp at hf; omega)
        unfold winOk at this ⊢
        rw [win_pre (by simp at hf; omega)]
        exact this
      have hp' : row.length < low.length + k - 1 := by omega
      -- a value that goes on lies between
      have need : ∀ (v : Int) (x : List Int), x ∈ allP m mo → okAll low high k (row ++ [v] ++ x) = true → leastAt low k row.length ≤ v ∧ v ≤ topAt high k row.length := fun v x hx h => by
        obtain ⟨xl, _⟩ := mem_allP.mp hx
        have ol : (row ++ [v] ++ x).length = row.length + 1 + m := by simp [xl]; omega
        have h := (okAll_iff hl (by omega) hk h1).mp h
        have gv : (row ++ [v] ++ x).getD row.length 0 = v := by
          rw [List.append_assoc, List.getD_eq_getElem?_getD, List.getElem?_append_right (Nat.le_refl _), Nat.sub_self]
          rfl
        refine ⟨(leastAt_le hk (by omega) hp' _).mpr fun f f1 f2 f3 => ?_, (topAt_le hk (by omega) (by omega) _).mpr fun f f1 f2 f3 => ?_⟩
        · have := (h f (by omega)).1
          rw [← this]
          exact minL_le ((mem_win (by omega)).mpr ⟨row.length, f2, f3, gv⟩)
        · have := (h f (by omega)).2
          rw [← this]
          exact le_maxL ((mem_win (by omega)).mpr ⟨row.length, f2, f3, gv⟩)
      have e0 : ∀ v : Int, (v < leastAt low k row.length ∨ topAt high k row.length < v) → grN low high k m (row ++ [v]) = [] := fun v hv => by
        rw [ih v, List.map_eq_nil_iff, List.filter_eq_nil_iff]
        intro x hx h
        have := need v x hx h
        omega
      have b0 : 0 ≤ leastAt low k row.length := by
        obtain ⟨f, f1, f2, f3, _⟩ := (le_leastAt hk (by omega) hp' _).mp (Int.le_refl (leastAt low k row.length))
        exact (le_leastAt hk (by omega) hp' 0).mpr ⟨f, f1, f2, f3, hlo _ (getD_mem f1)⟩
      have t0 : topAt high k row.length ≤ (mo : Int) := by
        obtain ⟨f, f1, f2, f3, _⟩ := (le_leastAt hk (by omega) hp' _).mp (Int.le_refl (leastAt low k row.length))
        have := (topAt_le hk (by omega) (by omega) _).mp (Int.le_refl (topAt high k row.length)) f (by omega) f2 f3
        have := hhi _ (getD_mem (show f < high.length by omega))
        omega
      rw [flat_sub (f := fun v => grN low high k m (row ++ [v])) (N := mo + 1) b0 (by omega) fun v hv => e0 v (by omega)]
      show _ = (((List.range (mo + 1)).flatMap fun v : Nat => (allP m mo).map fun r => (v : Int) :: r).filter _).map _
      rw [flt_flat, List.map_flatMap]
      congr 1
      funext v
      rw [ih, List.filter_map, List.map_map]
      have ea : ∀ x : List Int, row ++ [(v : Int)] ++ x = row ++ ((v : Int) :: x) := fun x => by simp
      simp only [ea]
      rfl
    · rw [if_neg hE]
      symm
      rw [List.map_eq_nil_iff, List.filter_eq_nil_iff]
      intro x hx h
      obtain ⟨xl, _⟩ := mem_allP.mp hx
      have h := (okAll_iff hl (by rw [List.length_append, xl]; omega) hk h1).mp h
      refine hE (okEnd_iff.mpr fun hkr => ?_)
      have := h (row.length - k) (by rw [List.length_append]; omega)
      unfold winOk at this ⊢
      rw [win_pre (by omega)] at this
      exact this
/-- all rows with both, in order -/
theorem gr_good {low high : List Int} {k mo : Nat} (hk : 1 ≤ k) (h1 : 1 ≤ low.length) (hl : low.length = high.length) (hlo : ∀ x ∈ low, 0 ≤ x) (hhi : ∀ x ∈ high, x ≤ (mo : Int)) : grN low high k (low.length + k - 1) [] = (allN (low.length + k - 1) mo).filter fun o => okAll low high k o := by
  rw [gr_all hk h1 hl hlo hhi _ [] (by simp; omega) (fun f hf => by simp at hf), allN_allP]
  simp

/-! the places that can still be least, the state of a slider -/
def dueN (k : Nat) (vs : List Int) : List Int := ((List.range vs.length).filter fun j => decide (vs.length ≤ j + k) && (vs.drop (j + 1)).all fun v => decide (vs.getD j 0 < v)).map fun j : Nat => (j : Int)
def stN (k : Nat) (vs : List Int) : SlS := ⟨k, vs, dueN k vs, (List.range vs.length).map fun i => dueN k (vs.take i)⟩
def leD (k : Nat) (vs : List Int) : PyData := if vs.length < k then .none else .int (minL (vs.drop (vs.length - k)))
theorem due_step {k : Nat} (k1 : 1 ≤ k) (vs : List Int) (v : Int) : dueN k (vs ++ [v]) = (dueN k vs).filter (fun o => decide (o > (vs.length : Int) - (k : Int)) && decide (vs.getD o.toNat 0 < v)) ++ [(vs.length : Int)] := by
  unfold dueN
  rw [List.length_append, List.length_singleton, List.range_succ, List.filter_append, List.map_append, List.filter_map]
  congr 1
  · rw [List.filter_filter]
    congr 1
    refine List.filter_congr fun j hj => ?_
    have hj := List.mem_range.mp hj
    simp only [Function.comp]
    have ga : (vs ++ [v]).getD j 0 = vs.getD j 0 := by rw [List.getD_eq_getElem?_getD, List.getD_eq_getElem?_getD, List.getElem?_append_left hj]
    rw [ga, List.drop_append_of_le_length (by omega), List.all_append, show ((j : Int)).toNat = j by omega]
    simp only [List.all_cons, List.all_nil, Bool.and_true]
    cases (vs.drop (j + 1)).all fun v => decide (vs.getD j 0 < v) with
    | false => simp
    | true =>
      simp only [Bool.and_true, Bool.true_and]
      rw [Bool.eq_iff_iff]
      simp only [Bool.and_eq_true, decide_eq_true_eq]
      omega
  · rw [List.filter_cons, if_pos]
    · rfl
    · rw [List.drop_eq_nil_of_le (by simp)]
      simp
      omega
theorem st_push {k : Nat} (k1 : 1 ≤ k) (vs : List Int) (v : Int) : (⟨k, vs ++ [v], (dueN k vs).filter (fun o => decide (o > (vs.length : Int) - (k : Int)) && decide (vs.getD o.toNat 0 < v)) ++ [(vs.length : Int)], (List.range vs.length).map (fun i => dueN k (vs.take i)) ++ [dueN k vs]⟩ : SlS) = stN k (vs ++ [v]) := by
  unfold stN
  rw [due_step k1]
  congr 1
  rw [List.length_append, List.length_singleton, List.range_succ, List.map_append]
  congr 1
  · refine List.map_congr_left fun i hi => ?_
    have := List.mem_range.mp hi
    rw [List.take_append_of_le_length (by omega)]
  · show _ = [dueN k ((vs ++ [v]).take vs.length)]
    rw [List.take_append_of_le_length (Nat.le_refl _), List.take_length]
theorem st_past {k : Nat} (vs : List Int) (v : Int) : (stN k (vs ++ [v])).past = (stN k vs).past ++ [dueN k vs] := by
  show (List.range (vs ++ [v]).length).map _ = (List.range vs.length).map _ ++ _
  rw [List.length_append, List.length_singleton, List.range_succ, List.map_append]
  congr 1
  · refine List.map_congr_left fun i hi => ?_
    have := List.mem_range.mp hi
    rw [List.take_append_of_le_length (by omega)]
  · show [dueN k ((vs ++ [v]).take vs.length)] = _
    rw [List.take_append_of_le_length (Nat.le_refl _), List.take_length]
theorem due_mem {k : Nat} {vs : List Int} {o : Int} : o ∈ dueN k vs ↔ ∃ j : Nat, o = (j : Int) ∧ j < vs.length ∧ vs.length ≤ j + k ∧ ∀ i, j < i → i < vs.length → vs.getD j 0 < vs.getD i 0 := by
  unfold dueN
  rw [List.mem_map]
  constructor
  · rintro ⟨j, hj, rfl⟩
    obtain ⟨h1, h2⟩ := List.mem_filter.mp hj
    rw [Bool.and_eq_true, decide_eq_true_eq, List.all_eq_true] at h2
    refine ⟨j, rfl, List.mem_range.mp h1, h2.1, fun i i1 i2 => ?_⟩
    have hm : vs.getD i 0 ∈ vs.drop (j + 1) := by
      rw [List.mem_iff_getElem?]
      exact ⟨i - (j + 1), by rw [List.getElem?_drop, show j + 1 + (i - (j + 1)) = i by omega, List.getD_eq_getElem?_getD, List.getElem?_eq_getElem i2]; rfl⟩
    exact of_decide_eq_true (h2.2 _ hm)
  · rintro ⟨j, rfl, h1, h2, h3⟩
    refine ⟨j, List.mem_filter.mpr ⟨List.mem_range.mpr h1, ?_⟩, rfl⟩
    rw [Bool.and_eq_true, decide_eq_true_eq, List.all_eq_true]
    refine ⟨h2, fun v hv => ?_⟩
    obtain ⟨i, hi⟩ := List.mem_iff_getElem?.mp hv
    rw [List.getElem?_drop] at hi
    have hl := (List.getElem?_eq_some_iff.mp hi).1
    have := h3 (j + 1 + i) (by omega) hl
    have e : vs.getD (j + 1 + i) 0 = v := by rw [List.getD_eq_getElem?_getD, hi]; rfl
    rw [e] at this
    exact decide_eq_true this
theorem due_lt {k : Nat} {vs : List Int} : (dueN k vs).Pairwise (· < ·) := by
  unfold dueN
  rw [List.pairwise_map]
  exact (List.pairwise_lt_range.filter _).imp fun {a b} h => by omega
theorem due_head {k : Nat} (k1 : 1 ≤ k) {vs : List Int} (h : k ≤ vs.length) : ∃ (o : Nat) (r : List Int), dueN k vs = (o : Int) :: r ∧ o < vs.length ∧ vs.getD o 0 = minL (vs.drop (vs.length - k)) := by
  have hne : vs.drop (vs.length - k) ≠ [] := fun z => by
    have := congrArg List.length z
    rw [List.length_drop] at this
    simp at this
    omega
  obtain ⟨p, p1, ⟨p2, p3⟩, p4⟩ := last_of (n := vs.length) (q := fun i => vs.length ≤ i + k ∧ vs.getD i 0 = minL (vs.drop (vs.length - k))) (by
    obtain ⟨i, hi, e⟩ := mem_getD (minL_mem hne)
    rw [List.length_drop] at hi
    refine ⟨vs.length - k + i, by omega, by omega, ?_⟩
    rw [← e, List.getD_eq_getElem?_getD, List.getD_eq_getElem?_getD, List.getElem?_drop])
  have ge : ∀ i, vs.length ≤ i + k → i < vs.length → minL (vs.drop (vs.length - k)) ≤ vs.getD i 0 := fun i i1 i2 => by
    refine minL_le ?_
    rw [List.mem_iff_getElem?]
    exact ⟨i - (vs.length - k), by rw [List.getElem?_drop, show vs.length - k + (i - (vs.length - k)) = i by omega, List.getD_eq_getElem?_getD, List.getElem?_eq_getElem i2]; rfl⟩
  have pm : (p : Int) ∈ dueN k vs := due_mem.mpr ⟨p, rfl, p1, p2, fun i i1 i2 => by
    have h1 := ge i (by omega) i2
    have h2 := p4 i i1 i2
    rw [p3]
    rcases Int.lt_or_eq_of_le h1 with z | z
    · exact z
    · exact absurd ⟨by omega, z.symm⟩ h2⟩
  cases hd : dueN k vs with
  | nil => rw [hd] at pm; cases pm
  | cons x r =>
    have hx : x ∈ dueN k vs := by rw [hd]; exact List.mem_cons_self
    obtain ⟨j, rfl, j1, j2, j3⟩ := due_mem.mp hx
    refine ⟨j, r, rfl, j1, ?_⟩
    have hs := due_lt (k := k) (vs := vs)
    rw [hd] at hs pm
    rcases List.mem_cons.mp pm with z | z
    · have : p = j := by omega
      rw [← this]; exact p3
    · have := (List.pairwise_cons.mp hs).1 _ z
      have h1 := j3 p (by omega) p1
      have h2 := ge j j2 j1
      omega

abbrev s_is_int : Stmt := topS 9
theorem sc_is_int : FnScope ["value", "low", "high"] ["value", "low", "high"] (defScope s_is_int) := ⟨rfl, rfl, rfl, by decide +kernel, rfl, by decide +kernel, by decide +kernel⟩
def isIntD (d : PyData) (lo hi : Int) : Bool := match d with
  | .int i => decide (lo ≤ i) && decide (i ≤ hi)
  | _ => false
def R_is_int : List PyData → Out → Prop := fun ds out => ∃ d lo hi, ds = [d, .int lo, .int hi] ∧ out = .ret (.bool (isIntD d lo hi))
theorem len_is_int : ∀ ds out, R_is_int ds out → ds.length = 3 := by
  rintro _ _ ⟨_, _, _, rfl, _⟩; rfl
theorem int_is {w : PyData} {lo hi : Int} (h : isIntD w lo hi = true) : ∃ i, w = .int i ∧ lo ≤ i ∧ i ≤ hi := by
  cases w <;> first | (simp [isIntD] at h; exact ⟨_, rfl, h.1, h.2⟩) | (simp [isIntD] at h)
theorem int_ok {i lo hi : Int} (h1 : lo ≤ i) (h2 : i ≤ hi) : isIntD (.int i) lo hi = true := by
  unfold isIntD
  simp [h1, h2]
set_option maxHeartbeats 4000000 in
theorem ok_is_int (Df : Def K mg "is_int" s_is_int ["value", "low", "high"]) (B : Bt mg) : Ent P w K mg base "is_int" ["value", "low", "high"] 1 (SpD g R_is_int) := Df.ent fun f fd Fn => by
  refine fn_data (k := 0) Fn sc_is_int (len_is_int) (by decide) fun cdv A outer s H E hr => ⟨_, (pss_one (ps_ret (pe_and (pe_callB (k_isi (K := K)) (by rfl) B.b_isinstance (by decide +kernel) (pa_cons (pv 0) (pa_cons (pe_bltn (v := .ty "int") (by rfl) B.b_int (by decide +kernel) rfl) pa_nil))) (pe_and (pe_not (pe_callB (k_isi (K := K)) (by rfl) B.b_isinstance (by decide +kernel) (pa_cons (pv 0) (pa_cons (pe_bltn (v := .ty "bool") (by rfl) B.b_bool (by decide +kernel) rfl) pa_nil)))) (pe_one (pe_chain L2.op_le L2.op_le (pv 1) (pv 0) (pv 2))))))), fun C0 H0 ds out hE hR => ?_⟩
  obtain ⟨d, lo, hi, rfl, rfl⟩ := hR
  show WS _ _ [.d d, .d (.int lo), .d (.int hi)] [] _
  walk_at "w"
  refine ⟨fun h1 => ?_, fun h1 => ?_⟩
  · walk_at "w"
    refine ⟨fun h2 => ?_, fun h2 => ?_⟩
    · cases d <;> simp [isiD] at h1 h2
      walk_at "w"
      refine ⟨fun h3 => ?_, fun h3 => ?_⟩
      · walk_at "w"
        show _ = _
        simp only [isIntD, h3, Bool.true_and]
      · show _ = _
        simp only [isIntD, h3, Bool.false_and]
    · cases d <;> simp [isiD] at h1 h2
      rfl
  · cases d <;> simp [isiD] at h1 <;> rfl

abbrev s_is_row : Stmt := topS 10
theorem sc_is_row : FnScope ["value", "height"] ["value"] (defScope s_is_row) := ⟨rfl, rfl, rfl, by decide +kernel, rfl, by decide +kernel, by decide +kernel⟩
def rowItem (d : PyData) : Bool := isIntD d 0 9
def isRowD (d : PyData) : Bool := match d with
  | .list ds => decide (1 ≤ ds.length) && decide (ds.length ≤ 12) && ds.all rowItem
  | _ => false
def R_is_row : List PyData → Out → Prop := fun ds out => ∃ d, ds = [d] ∧ (∀ l, d = .list l → l.length ≤ 50000) ∧ out = .ret (.bool (isRowD d))
theorem len_is_row : ∀ ds out, R_is_row ds out → ds.length = 1 := by
  rintro _ _ ⟨_, rfl, _⟩; rfl
set_option maxHeartbeats 4000000 in
theorem ok_is_row (Df : Def K mg "is_row" s_is_row ["value"]) (B : Bt mg) {t_MOST_VALUES : Tok} (k_MOST_VALUES : mg "MOST_VALUES" = some (.int 12 t_MOST_VALUES)) {t_MOST_VALUE : Tok} (k_MOST_VALUE : mg "MOST_VALUE" = some (.int 9 t_MOST_VALUE)) (n_is_int : Ent P w K mg base "is_int" ["value", "low", "high"] 1 (SpD g R_is_int)) : Ent P w K mg base "is_row" ["value"] 2 (SpD g R_is_row) := Df.ent fun f fd Fn => by
  refine fn_data (k := 1) Fn sc_is_row (len_is_row) (by decide) fun cdv A outer s H E hr => ⟨_, (pss_cons (ps_if (PW.pt (pw_or (pt_not (pt_val (pe_callB (k_isi (K := K)) (by rfl) B.b_isinstance (by decide +kernel) (pa_cons (pv 0) (pa_cons (pe_bltn (v := .ty "list") (by rfl) B.b_list (by decide +kernel) rfl) pa_nil))))) (pw_or1 (pt_not (pt_chain L2.op_le L2.op_le pe_int (pe_callB (k_len (K := K)) (by rfl) B.b_len (by decide +kernel) (pa_cons (pv 0) pa_nil)) (pe_glob (v := .int 12) (by rfl) k_MOST_VALUES ⟨_, rfl⟩)))))) (pss_one (ps_ret pe_bl)) pss_nil)
      (pss_one (ps_ret (pe_callB (k_all (K := K)) (by rfl) B.b_all (by decide +kernel) (pa_cons (pe_lc (own := [("height", 1)]) (tt := tYes) rfl sc_is_row.nd (k_list (K := K) (pv 0)) (blkOk_by (own := [("height", 1)]) (N := ["value", "height"]) (sc := defScope s_is_row) (by decide +kernel)) (fun _ _ _ _ _ => (pg_name (i := 1) sc_is_row.nd rfl (by first | exact Or.inl rfl | exact Or.inr rfl))) (fun _ _ _ _ _ => pts_nil) (fun _ _ _ _ _ => (pe_ent n_is_int hr passL (pa_cons (pv 1) (pa_cons pe_int (pa_cons (pe_glob (v := .int 9) (by rfl) k_MOST_VALUE ⟨_, rfl⟩) pa_nil)))))) pa_nil))))), fun C0 H0 ds out hE hR => ?_⟩
  obtain ⟨d, rfl, hsz, rfl⟩ := hR
  show WS _ _ [.d d, .un] [] _
  walk_at "w"
  refine ⟨fun h1 => ?_, fun h1 => ⟨fun _ => ?_, fun z => by cases z⟩⟩
  · cases d <;> simp [isiD] at h1
    rename_i l
    walk_at "w"
    refine ⟨fun h2 => ?_, fun h2 => ?_⟩
    · have h5 : 1 ≤ l.length := by simp at h2; omega
      walk_at "w"
      refine ⟨fun h3 => ?_, fun h3 => ws_next ?_⟩
      · walk_at "w"
        show _ = _
        have : ¬ l.length ≤ 12 := by simp at h3; omega
        simp [isRowD, this]
      · have h4 : l.length ≤ 12 := by simp at h3; omega
        walk_at "w"
        refine ev_lcM ?_
        walk_at "w"
        refine ⟨by omega, fun i => .bool (rowItem (l.getD i .none)), fun i d hd => ⟨_, sg_name (by decide), ?_⟩, ?_⟩
        · walk_at "w"
          refine ⟨_, ⟨_, _, _, rfl, rfl⟩, ?_⟩
          show _ = PyData.bool (rowItem (l.getD i .none))
          rw [List.getD_eq_getElem?_getD, hd]
          rfl
        · have e : (PyData.list ((List.range l.length).map fun i => PyData.bool (rowItem (l.getD i .none)))) = dB (l.map rowItem) := by
            unfold dB
            congr 1
            refine List.ext_getElem (by simp) fun i h1 h2 => ?_
            simp at h1
            simp [h1]
          rw [e]
          walk_at "w"
          show _ = _
          simp [isRowD, h4, h5, List.all_map, Function.comp_def]
    · walk_at "w"
      refine ⟨fun _ => ?_, fun z => by cases z⟩
      walk_at "w"
      show _ = _
      have : ¬ 1 ≤ l.length := by simp at h2; omega
      simp [isRowD, this]
  · walk_at "w"
    cases d <;> simp [isiD] at h1 <;> rfl

abbrev s_check_row : Stmt := topS 11
theorem sc_check_row : FnScope ["value"] ["value"] (defScope s_check_row) := ⟨rfl, rfl, rfl, by decide +kernel, rfl, by decide +kernel, by decide +kernel⟩
def R_check_row : List PyData → Out → Prop := fun ds out => ∃ d, ds = [d] ∧ (∀ l, d = .list l → l.length ≤ 50000) ∧ out = if isRowD d then .ret .none else .exc .row
theorem len_check_row : ∀ ds out, R_check_row ds out → ds.length = 1 := by
  rintro _ _ ⟨_, rfl, _⟩; rfl
set_option maxHeartbeats 4000000 in
theorem ok_check_row (Df : Def K mg "check_row" s_check_row ["value"]) (B : Bt mg) (x_BadRow : ExT K mg "BadRow" (g .row)) (n_is_row : Ent P w K mg base "is_row" ["value"] 2 (SpD g R_is_row)) : Ent P w K mg base "check_row" ["value"] 3 (SpD g R_check_row) := Df.ent fun f fd Fn => by
  refine fn_data (k := 2) Fn sc_check_row (len_check_row) (by decide) fun cdv A outer s H E hr => ⟨_, (pss_one (ps_if (pt_not (pt_val (pe_ent n_is_row hr (pass_own (takes_of rfl rfl rfl rfl)) (pa_cons (pv 0) pa_nil)))) (pss_one (ps_rz x_BadRow (by rfl) (takes_of rfl rfl rfl rfl))) pss_nil)), fun C0 H0 ds out hE hR => ?_⟩
  obtain ⟨d, rfl, hsz, ho⟩ := hR
  show WS _ _ [.d d] [] _
  walk_at "w"
  refine ⟨_, ⟨_, rfl, hsz, rfl⟩, _, rfl, fun h1 => ?_, fun h1 => ws_next ?_⟩
  · have h1 : isRowD d = false := by simpa using h1
    rw [h1] at ho
    exact ws_raise (e := .row) ho
  · have h1 : isRowD d = true := by simpa using h1
    rw [h1] at ho
    exact ho
theorem mapI_inj : ∀ {a b : List Int}, a.map PyData.int = b.map PyData.int → a = b
  | [], [], _ => rfl
  | [], _ :: _, h => by cases h
  | _ :: _, [], h => by cases h
  | x :: a, y :: b, h => by
    rw [List.map_cons, List.map_cons] at h
    injection h with h1 h2
    injection h1 with h1
    rw [h1, mapI_inj h2]
theorem dL_inj {a b : List Int} (h : dL a = dL b) : a = b := mapI_inj (by injection h)
def okRow (row : List Int) : Prop := 1 ≤ row.length ∧ row.length ≤ 12 ∧ ∀ x ∈ row, 0 ≤ x ∧ x ≤ 9
def Sz (d : PyData) : Prop := ∀ l, d = .list l → l.length ≤ 50000
theorem sz_dL {row : List Int} (h : row.length ≤ 50000) : Sz (dL row) := fun l e => by
  injection e with e
  rw [← e, List.length_map]
  exact h
theorem rowItem_int (i : Int) : rowItem (.int i) = true ↔ 0 ≤ i ∧ i ≤ 9 := by
  unfold rowItem isIntD
  simp
theorem isRow_dL (row : List Int) : isRowD (dL row) = true ↔ okRow row := by
  unfold isRowD okRow dL
  simp only [Bool.and_eq_true, decide_eq_true_eq, List.length_map, List.all_eq_true, List.mem_map]
  constructor
  · rintro ⟨⟨h1, h2⟩, h3⟩
    exact ⟨h1, h2, fun x hx => (rowItem_int x).mp (h3 _ ⟨x, hx, rfl⟩)⟩
  · rintro ⟨h1, h2, h3⟩
    refine ⟨⟨h1, h2⟩, ?_⟩
    rintro _ ⟨x, hx, rfl⟩
    exact (rowItem_int x).mpr (h3 x hx)
theorem rowItem_is {d : PyData} (h : rowItem d = true) : ∃ i, d = .int i := by
  cases d <;> first | (exact ⟨_, rfl⟩) | (simp [rowItem, isIntD] at h)
theorem ints_of : ∀ {l : List PyData}, l.all rowItem = true → ∃ row : List Int, l = row.map PyData.int
  | [], _ => ⟨[], rfl⟩
  | d :: l, h => by
    rw [List.all_cons, Bool.and_eq_true] at h
    obtain ⟨i, rfl⟩ := rowItem_is h.1
    obtain ⟨row, rfl⟩ := ints_of h.2
    exact ⟨i :: row, rfl⟩
theorem isRow_is {d : PyData} (h : isRowD d = true) : ∃ row, d = dL row ∧ okRow row := by
  cases d with
  | list l =>
    have h' := h
    unfold isRowD at h'
    simp only [Bool.and_eq_true] at h'
    obtain ⟨row, rfl⟩ := ints_of h'.2
    exact ⟨row, rfl, (isRow_dL row).mp h⟩
  | _ => cases h
theorem okRow.sz {row : List Int} (h : okRow row) : Sz (dL row) := sz_dL (by have := h.2.1; omega)
theorem okRow.ne {row : List Int} (h : okRow row) : row ≠ [] := fun z => by have := h.1; rw [z] at this; simp at this
/-- what a call of check_row needs of a row -/
theorem cr_ok {row : List Int} (h : okRow row) : R_check_row [dL row] (.ret .none) := ⟨_, rfl, h.sz, by rw [(isRow_dL row).mpr h]; rfl⟩
theorem ws_cr {F : FC} {ks : List SK} {ms : Mem} {D : DE} {i : Nat} {d : PyData} {u : TS} (hi : ks[i]? = some (.d d)) (hs : Sz d) (h1 : ∀ row, d = dL row → okRow row → WS F u ks ms D) (h2 : isRowD d = false → F.ex .row) :
    WS F (tSeq (tDrop (tCall (SpD F.g R_check_row) [] F.E (tCons (tVar i) tNil))) u) ks ms D := by
  cases e : isRowD d with
  | true =>
    obtain ⟨row, rfl, ok⟩ := isRow_is e
    exact ws_seq (ws_drop (ev_call (ea_cons (ev_var hi (ea_nil ⟨_, cr_ok ok, h1 row rfl ok⟩)))))
  | false => exact ws_seq (ws_drop (ev_callX (ea_cons (ev_var hi (ea_nil ⟨.row, ⟨_, rfl, hs, by rw [e]; rfl⟩, h2 e⟩)))))
/-- a def of one row that checks it first -/
def RR (body : List Int → Out → Prop) : List PyData → Out → Prop := fun ds out => ∃ d, ds = [d] ∧ Sz d ∧ ((isRowD d = false ∧ out = .exc .row) ∨ ∃ row, d = dL row ∧ okRow row ∧ body row out)
theorem RR.ok {body : List Int → Out → Prop} {row : List Int} {out : Out} (h : okRow row) (hb : body row out) : RR body [dL row] out := ⟨_, rfl, h.sz, .inr ⟨row, rfl, h, hb⟩⟩
theorem RR.len {body : List Int → Out → Prop} : ∀ ds out, RR body ds out → ds.length = 1 := by
  rintro _ _ ⟨_, rfl, _⟩; rfl
theorem ws_RR {g : Exn → Addr} {C0 H0 : Hp} {E : XK} {out : Out} {hE} {body : List Int → Out → Prop} {ds : List PyData} {n : Nat} {D : DE} {u : TS} (hR : RR body ds out)
    (h : ∀ row, okRow row → body row out → WS (mkF g C0 H0 E out hE) u (.d (dL row) :: List.replicate (n - 1) .un) [] D) :
    WS (mkF g C0 H0 E out hE) (tSeq (tDrop (tCall (SpD g R_check_row) [] E (tCons (tVar 0) tNil))) u) (iniK n ds) [] D := by
  obtain ⟨d, rfl, hs, hc⟩ := hR
  refine ws_cr (F := mkF g C0 H0 E out hE) (d := d) rfl hs (fun row e ok => ?_) (fun e => ?_)
  · subst e
    rcases hc with ⟨h0, _⟩ | ⟨row', e, _, hb⟩
    · rw [(isRow_dL row).mpr ok] at h0; cases h0
    · have e := dL_inj e
      subst e
      exact h row ok hb
  · rcases hc with ⟨_, ho⟩ | ⟨row, e', ok, _⟩
    · exact ho
    · rw [e', (isRow_dL row).mpr ok] at e; cases e

abbrev s_check_low : Stmt := topS 12
theorem sc_check_low : FnScope ["row", "width"] ["row", "width"] (defScope s_check_low) := ⟨rfl, rfl, rfl, by decide +kernel, rfl, by decide +kernel, by decide +kernel⟩
/-- a def of a row and a width that checks them as a low row and its width -/
def RL (body : List Int → Nat → Out → Prop) : List PyData → Out → Prop := fun ds out => ∃ d w, ds = [d, w] ∧ Sz d ∧ ((isRowD d = false ∧ out = .exc .row) ∨ ∃ row, d = dL row ∧ okRow row ∧
  ((isIntD w 1 (13 - row.length) = false ∧ out = .exc .width) ∨ ∃ k : Nat, w = .int (k : Int) ∧ 1 ≤ k ∧ k + row.length ≤ 13 ∧ body row k out))
theorem RL.ok {body : List Int → Nat → Out → Prop} {row : List Int} {k : Nat} {out : Out} (h : okRow row) (h1 : 1 ≤ k) (h2 : k + row.length ≤ 13) (hb : body row k out) : RL body [dL row, .int (k : Int)] out := ⟨_, _, rfl, h.sz, .inr ⟨row, rfl, h, .inr ⟨k, rfl, h1, h2, hb⟩⟩⟩
theorem RL.len {body : List Int → Nat → Out → Prop} : ∀ ds out, RL body ds out → ds.length = 2 := by
  rintro _ _ ⟨_, _, rfl, _⟩; rfl
def R_check_low : List PyData → Out → Prop := RL fun _ _ out => out = .ret .none
theorem len_check_low : ∀ ds out, R_check_low ds out → ds.length = 2 := RL.len
set_option maxHeartbeats 4000000 in
theorem ok_check_low (Df : Def K mg "check_low" s_check_low ["row", "width"]) (B : Bt mg) {t_MOST_VALUES : Tok} (k_MOST_VALUES : mg "MOST_VALUES" = some (.int 12 t_MOST_VALUES)) (x_BadWidth : ExT K mg "BadWidth" (g .width)) (n_check_row : Ent P w K mg base "check_row" ["value"] 3 (SpD g R_check_row)) (n_is_int : Ent P w K mg base "is_int" ["value", "low", "high"] 1 (SpD g R_is_int)) : Ent P w K mg base "check_low" ["row", "width"] 4 (SpD g R_check_low) := Df.ent fun f fd Fn => by
  refine fn_data (k := 3) Fn sc_check_low (len_check_low) (by decide) fun cdv A outer s H E hr => ⟨_, (pss_cons (ps_expr (pe_ent n_check_row hr (pass_own (takes_of rfl rfl rfl rfl)) (pa_cons (pv 0) pa_nil)))
      (pss_one (ps_if (pt_not (pt_val (pe_ent n_is_int hr (pass_own (takes_of rfl rfl rfl rfl)) (pa_cons (pv 1) (pa_cons pe_int (pa_cons (pe_op L2.op_sub (pe_op L2.op_add (pe_glob (v := .int 12) (by rfl) k_MOST_VALUES ⟨_, rfl⟩) pe_int) (pe_callB (k_len (K := K)) (by rfl) B.b_len (by decide +kernel) (pa_cons (pv 0) pa_nil))) pa_nil)))))) (pss_one (ps_rz x_BadWidth (by rfl) (takes_of rfl rfl rfl rfl))) pss_nil))), fun C0 H0 ds out hE hR => ?_⟩
  obtain ⟨d, w, rfl, hs, hc⟩ := hR
  show WS _ _ [.d d, .d w] [] _
  refine ws_cr (F := mkF g C0 H0 E out hE) rfl hs (fun row e ok => ?_) (fun e => ?_)
  · subst e
    have hc : (isIntD w 1 (13 - row.length) = false ∧ out = .exc .width) ∨ ∃ k : Nat, w = .int (k : Int) ∧ 1 ≤ k ∧ k + row.length ≤ 13 ∧ out = .ret .none := by
      rcases hc with ⟨h0, _⟩ | ⟨row', e, _, hc⟩
      · rw [(isRow_dL row).mpr ok] at h0; cases h0
      · have e := dL_inj e
        subst e
        exact hc
    walk_at "w"
    refine ⟨_, ⟨_, _, _, rfl, rfl⟩, _, rfl, fun h1 => ?_, fun h1 => ws_next ?_⟩
    · rcases hc with ⟨_, ho⟩ | ⟨k, rfl, k1, k2, _⟩
      · exact ws_raise (F := mkF g C0 H0 E out hE) (e := .width) ho
      · rw [int_ok (by omega) (by omega)] at h1; cases h1
    · rcases hc with ⟨h0, _⟩ | ⟨k, rfl, k1, k2, ho⟩
      · rw [show (12 : Int) + 1 - (row.length : Int) = 13 - (row.length : Int) by omega, h0] at h1; cases h1
      · exact ho
  · rcases hc with ⟨_, ho⟩ | ⟨row, e', ok, _⟩
    · exact ho
    · rw [e', (isRow_dL row).mpr ok] at e; cases e
theorem ws_cl {F : FC} {ks : List SK} {ms : Mem} {D : DE} {i j : Nat} {d w : PyData} {u : TS} (hi : ks[i]? = some (.d d)) (hj : ks[j]? = some (.d w)) (hs : Sz d)
    (h1 : ∀ row k, d = dL row → w = .int ((k : Nat) : Int) → okRow row → 1 ≤ k → k + row.length ≤ 13 → WS F u ks ms D) (h2 : isRowD d = false → F.ex .row) (h3 : ∀ row, d = dL row → okRow row → isIntD w 1 (13 - row.length) = false → F.ex .width) :
    WS F (tSeq (tDrop (tCall (SpD F.g R_check_low) [] F.E (tCons (tVar i) (tCons (tVar j) tNil)))) u) ks ms D := by
  cases e : isRowD d with
  | true =>
    obtain ⟨row, rfl, ok⟩ := isRow_is e
    cases e2 : isIntD w 1 (13 - row.length) with
    | true =>
      obtain ⟨i', rfl, l1, l2⟩ := int_is e2
      obtain ⟨k, rfl⟩ : ∃ k : Nat, i' = (k : Int) := ⟨i'.toNat, by omega⟩
      exact ws_seq (ws_drop (ev_call (ea_cons (ev_var hi (ea_cons (ev_var hj (ea_nil ⟨_, RL.ok ok (by omega) (by omega) rfl, h1 row k rfl rfl ok (by omega) (by omega)⟩)))))))
    | false => exact ws_seq (ws_drop (ev_callX (ea_cons (ev_var hi (ea_cons (ev_var hj (ea_nil ⟨.width, ⟨_, _, rfl, hs, .inr ⟨row, rfl, ok, .inl ⟨e2, rfl⟩⟩⟩, h3 row rfl ok e2⟩)))))))
  | false => exact ws_seq (ws_drop (ev_callX (ea_cons (ev_var hi (ea_cons (ev_var hj (ea_nil ⟨.row, ⟨_, _, rfl, hs, .inl ⟨e, rfl⟩⟩, h2 e⟩)))))))
theorem ws_RL {g : Exn → Addr} {C0 H0 : Hp} {E : XK} {out : Out} {hE} {body : List Int → Nat → Out → Prop} {ds : List PyData} {n : Nat} {D : DE} {u : TS} (hR : RL body ds out)
    (h : ∀ row k, okRow row → 1 ≤ k → k + row.length ≤ 13 → body row k out → WS (mkF g C0 H0 E out hE) u (.d (dL row) :: .d (.int (k : Int)) :: List.replicate (n - 2) .un) [] D) :
    WS (mkF g C0 H0 E out hE) (tSeq (tDrop (tCall (SpD g R_check_low) [] E (tCons (tVar 0) (tCons (tVar 1) tNil)))) u) (iniK n ds) [] D := by
  obtain ⟨d, w, rfl, hs, hc⟩ := hR
  refine ws_cl (F := mkF g C0 H0 E out hE) (d := d) (w := w) rfl rfl hs (fun row k e1 e2 ok h1 h2 => ?_) (fun e => ?_) (fun row e1 ok e => ?_)
  · subst e1 e2
    refine h row k ok h1 h2 ?_
    rcases hc with ⟨h0, _⟩ | ⟨row', e, _, ⟨h0, _⟩ | ⟨k', e', _, _, hb⟩⟩
    · rw [(isRow_dL row).mpr ok] at h0; cases h0
    · have e := dL_inj e
      subst e
      rw [int_ok (by omega) (by omega)] at h0; cases h0
    · have e := dL_inj e
      subst e
      have e' : k = k' := by injection e' with e'; omega
      rw [e']
      exact hb
  · rcases hc with ⟨_, ho⟩ | ⟨row, e', ok, _⟩
    · exact ho
    · rw [e', (isRow_dL row).mpr ok] at e; cases e
  · subst e1
    rcases hc with ⟨h0, _⟩ | ⟨row', e', _, ⟨_, ho⟩ | ⟨k', e'', _, _, hb⟩⟩
    · rw [(isRow_dL row).mpr ok] at h0; cases h0
    · exact ho
    · have e' := dL_inj e'
      subst e'
      rw [e'', int_ok (by omega) (by omega)] at e; cases e

abbrev s_valleys : Stmt := topS 14
theorem sc_valleys : FnScope ["row", "found", "first", "last", "limit", "value"] ["row"] (defScope s_valleys) := ⟨rfl, rfl, rfl, by decide +kernel, rfl, by decide +kernel, by decide +kernel⟩
def R_valleys : List PyData → Out → Prop := fun ds out => ∃ row : List Int, ds = [dL row] ∧ row.length ≤ 100 ∧ out = .ret (dLP (valleysN row))
theorem len_valleys : ∀ ds out, R_valleys ds out → ds.length = 1 := by
  rintro _ _ ⟨_, rfl, _⟩; rfl
theorem cut_seg (row : List Int) (i j : Nat) : cut row (some (i : Int)) (some ((j : Int) + 1)) = seg row i j := by
  rw [show (j : Int) + 1 = ((j + 1 : Nat) : Int) by omega, cut_nat]
  rfl
theorem atI_row {row : List Int} {z : Int} {j : Nat} (e : z = (j : Int)) (h : j < row.length) : atI (row.map PyData.int) z = some (.int (row.getD j 0)) := atI_map (f := PyData.int) (atI_getD e h 0)
set_option maxHeartbeats 4000000 in
theorem ok_valleys (Df : Def K mg "valleys" s_valleys ["row"]) (B : Bt mg) : Ent P w K mg base "valleys" ["row"] 1 (SpD g R_valleys) := Df.ent fun f fd Fn => by
  refine fn_data (k := 0) Fn sc_valleys (len_valleys) (by decide) fun cdv A outer s H E hr => ⟨_, (pss_cons (ps_set (i := 1) sc_valleys.nd rfl (by first | exact Or.inl rfl | exact Or.inr rfl) (pe_lst pa_nil))
      (pss_cons (ps_for (passes_of rfl) rfl (pi_range2 (by rfl) B.b_range (pa_cons pe_int (pa_cons (pe_op L2.op_sub (pe_callB (k_len (K := K)) (by rfl) B.b_len (by decide +kernel) (pa_cons (pv 0) pa_nil)) pe_int) pa_nil))) (pg_name (i := 2) sc_valleys.nd rfl (by first | exact Or.inl rfl | exact Or.inr rfl)) (pss_one (ps_for (passes_of rfl) rfl (pi_range2 (by rfl) B.b_range (pa_cons (pv 2) (pa_cons (pe_op L2.op_sub (pe_callB (k_len (K := K)) (by rfl) B.b_len (by decide +kernel) (pa_cons (pv 0) pa_nil)) pe_int) pa_nil))) (pg_name (i := 3) sc_valleys.nd rfl (by first | exact Or.inl rfl | exact Or.inr rfl)) (pss_cons (ps_set (i := 4) sc_valleys.nd rfl (by first | exact Or.inl rfl | exact Or.inr rfl) (pe_callB (cr_min2 rfl) (by rfl) B.b_min (by decide +kernel) (pa_cons (pe_ix (k_ixL (K := K)) (pv 0) (pe_op L2.op_sub (pv 2) pe_int) (fun _ _ => rfl)) (pa_cons (pe_ix (k_ixL (K := K)) (pv 0) (pe_op L2.op_add (pv 3) pe_int) (fun _ _ => rfl)) pa_nil))))
      (pss_one (ps_if (pt_val (pe_callB (k_all (K := K)) (by rfl) B.b_all (by decide +kernel) (pa_cons (pe_lc (own := [("value", 5)]) (tt := tYes) rfl sc_valleys.nd (k_list (K := K) (pe_slice (k_slL (K := K)) (pv 0) (po_some (pv 2)) (po_some (pe_op L2.op_add (pv 3) pe_int)))) (blkOk_by (own := [("value", 5)]) (N := ["row", "found", "first", "last", "limit", "value"]) (sc := defScope s_valleys) (by decide +kernel)) (fun _ _ _ _ _ => (pg_name (i := 5) sc_valleys.nd rfl (by first | exact Or.inl rfl | exact Or.inr rfl))) (fun _ _ _ _ _ => pts_nil) (fun _ _ _ _ _ => (pe_cmpR L2.op_lt (pv 5) (pv 4) (nomark _)))) pa_nil))) (pss_one (ps_expr (k_bm (K := K) PySem.F.plainAttrs_list PySem.F.slot_list_append PySem.F.type_list_append L2.mt_append (pv 1) (pa_cons (pe_tup (pa_cons (pv 2) (pa_cons (pv 3) pa_nil))) pa_nil)))) pss_nil))))))
      (pss_one (ps_ret (pv 1))))), fun C0 H0 ds out hE hR => ?_⟩
  obtain ⟨row, rfl, hn, rfl⟩ := hR
  show WS _ _ [.d (dL row), .un, .un, .un, .un, .un] [] _
  refine ws_seq (ws_asgM (ea_nil ⟨by decide, fun l hf => ?_⟩))
  refine ws_seq (ws_for (vs := [2]) ?_)
  walk_at "w"
  refine ⟨_, _, rfl, ⟨by omega, by omega, by omega, by omega⟩, ?_⟩
  have e1 : ((row.length : Int) - 1 - 1).toNat = row.length - 2 := by omega
  rw [e1, rangeD_len]
  refine ⟨fun i ks ms => i ≤ row.length - 2 ∧ ∃ a b c d, ks = [.d (dL row), .v (.ref l), a, b, c, d] ∧ ms = [(l, .l (((List.range i).flatMap fun a => valFrom row (a + 1) (row.length - 2 - a)).map dP))], ⟨Nat.zero_le _, _, _, _, _, rfl, rfl⟩, ?_, ?_⟩
  · rintro i d _ _ hd ⟨hi0, a, b, c, e, rfl, rfl⟩
    obtain ⟨hi, rfl⟩ := rangeD_get hd
    refine ⟨_, sg_name (by decide), ?_⟩
    rw [show (1 : Int) + (i : Int) = ((i + 1 : Nat) : Int) by omega]
    refine ws_for (vs := [3]) ?_
    walk_at "w"
    refine ⟨_, _, rfl, ⟨by omega, by omega, by omega, by omega⟩, ?_⟩
    have e2 : ((row.length : Int) - 1 - ((i + 1 : Nat) : Int)).toNat = row.length - 2 - i := by omega
    rw [e2, rangeD_len]
    refine ⟨fun j ks ms => j ≤ row.length - 2 - i ∧ ∃ b c d, ks = [.d (dL row), .v (.ref l), .d (.int ((i + 1 : Nat) : Int)), b, c, d] ∧ ms = [(l, .l ((((List.range i).flatMap fun a => valFrom row (a + 1) (row.length - 2 - a)) ++ valFrom row (i + 1) j).map dP))], ⟨Nat.zero_le _, b, c, e, rfl, ?_⟩, ?_, ?_⟩
    · simp [valFrom]
    · rintro j d _ _ hd ⟨hj0, b, c, e, rfl, rfl⟩
      obtain ⟨hj, rfl⟩ := rangeD_get hd
      refine ⟨_, sg_name (by decide), ?_⟩
      rw [show ((i + 1 : Nat) : Int) + (j : Int) = ((i + 1 + j : Nat) : Int) by omega]
      walk_at "w"
      refine op_ixL (atI_row (j := i) (by omega) (by omega)) ?_
      walk_at "w"
      refine op_ixL (atI_row (j := i + 1 + j + 1) (by omega) (by omega)) ?_
      walk_at "w"
      refine ev_lcF PyData.int ?_
      walk_at "w"
      rw [cut_seg]
      refine ⟨seg row (i + 1) (i + 1 + j), fun v => .bool (decide (v < min (row.getD i 0) (row.getD (i + 1 + j + 1) 0))), rfl, ?_, fun v _ => ⟨_, sg_name (by decide), ?_⟩, ?_⟩
      · unfold seg
        rw [List.length_take, List.length_drop]
        omega
      · walk_at "w"
        rfl
      have e3 : (PyData.list ((seg row (i + 1) (i + 1 + j)).map fun v => PyData.bool (decide (v < min (row.getD i 0) (row.getD (i + 1 + j + 1) 0))))) = dB ((seg row (i + 1) (i + 1 + j)).map fun v => decide (v < min (row.getD i 0) (row.getD (i + 1 + j + 1) 0))) := by
        unfold dB
        rw [List.map_map]
        rfl
      rw [e3]
      walk_at "w"
      have e4 : (((seg row (i + 1) (i + 1 + j)).map fun v => decide (v < min (row.getD i 0) (row.getD (i + 1 + j + 1) 0))).all id) = isVal row (i + 1) (i + 1 + j) := by
        unfold isVal
        rw [List.all_map]
        rfl
      rw [e4]
      refine ⟨fun hb => ?_, fun hb => ws_next ?_⟩
      · refine ws_append (i := 1) rfl List.mem_cons_self hf ?_ ?_
        · rw [List.length_map, List.length_append]
          have h1 := valleys_len hn i
          have h2 := valFrom_len row (i + 1) j
          omega
        walk_at "w"
        refine ⟨by omega, _, _, _, rfl, ?_⟩
        simp [setM, valFrom, List.range_succ, List.filter_append, hb]
      · refine ⟨by omega, _, _, _, rfl, ?_⟩
        simp [valFrom, List.range_succ, List.filter_append, hb]
    · rintro _ _ ⟨_, b, c, e, rfl, rfl⟩
      refine ⟨by omega, _, _, _, _, rfl, ?_⟩
      rw [List.range_succ, List.flatMap_append]
      simp
  · rintro _ _ ⟨_, a, b, c, e, rfl, rfl⟩
    refine ws_freeze (i := 1) rfl List.mem_cons_self hf ?_
    walk_at "w"
    rfl

abbrev s_short_ones : Stmt := topS 15
theorem sc_short_ones : FnScope ["row", "width", "one"] ["row", "width"] (defScope s_short_ones) := ⟨rfl, rfl, rfl, by decide +kernel, rfl, by decide +kernel, by decide +kernel⟩
def R_short_ones : List PyData → Out → Prop := fun ds out => ∃ (row : List Int) (k : Nat), ds = [dL row, .int (k : Int)] ∧ row.length ≤ 100 ∧ out = .ret (dLP (shortsN row k))
theorem len_short_ones : ∀ ds out, R_short_ones ds out → ds.length = 2 := by
  rintro _ _ ⟨_, _, rfl, _⟩; rfl
theorem dP_0 (p : Int × Int) : atI [PyData.int p.1, .int p.2] 0 = some (.int p.1) := rfl
theorem dP_1 (p : Int × Int) : atI [PyData.int p.1, .int p.2] 1 = some (.int p.2) := rfl
set_option maxHeartbeats 4000000 in
theorem ok_short_ones (Df : Def K mg "short_ones" s_short_ones ["row", "width"]) (B : Bt mg) (n_valleys : Ent P w K mg base "valleys" ["row"] 1 (SpD g R_valleys)) : Ent P w K mg base "short_ones" ["row", "width"] 2 (SpD g R_short_ones) := Df.ent fun f fd Fn => by
  refine fn_data (k := 1) Fn sc_short_ones (len_short_ones) (by decide) fun cdv A outer s H E hr => ⟨_, (pss_one (ps_ret (pe_lc (own := [("one", 2)])  rfl sc_short_ones.nd (k_list (K := K) (pe_ent n_valleys hr (pass_own (takes_of rfl rfl rfl rfl)) (pa_cons (pv 0) pa_nil))) (blkOk_by (own := [("one", 2)]) (N := ["row", "width", "one"]) (sc := defScope s_short_ones) (by decide +kernel)) (fun _ _ _ _ _ => (pg_name (i := 2) sc_short_ones.nd rfl (by first | exact Or.inl rfl | exact Or.inr rfl))) (fun _ _ _ _ _ => (pts_one (pt_cmpR L2.op_lt (pe_op L2.op_add (pe_op L2.op_sub (pe_ix (k_ixT (K := K)) (pv 2) pe_int (fun _ _ => rfl)) (pe_ix (k_ixT (K := K)) (pv 2) pe_int (fun _ _ => rfl))) pe_int) (pv 1) (nomark _)))) (fun _ _ _ _ _ => (pv 2))))), fun C0 H0 ds out hE hR => ?_⟩
  obtain ⟨row, k, rfl, hn, rfl⟩ := hR
  show WS _ _ [.d (dL row), .d (.int (k : Int)), .un] [] _
  refine ws_ret (ev_lcB dP ?_)
  walk_at "w"
  refine ⟨_, ⟨row, rfl, hn, rfl⟩, ?_⟩
  walk_at "w"
  refine ⟨valleysN row, fun p => decide (p.2 - p.1 + 1 < (k : Int)), dP, rfl, ?_, fun p _ => ⟨_, sg_name (by decide), ?_⟩, ?_⟩
  · have := valleys_len hn (row.length - 2)
    unfold valleysN
    omega
  · walk_at "w"
    refine op_ixT (dP_1 p) ?_
    walk_at "w"
    refine op_ixT (dP_0 p) ?_
    walk_at "w"
    refine ⟨rfl, fun _ => ?_⟩
    walk_at "w"
    rfl
  · rfl

abbrev s_check_kind : Stmt := topS 19
theorem sc_check_kind : FnScope ["length", "width", "most"] ["length", "width", "most"] (defScope s_check_kind) := ⟨rfl, rfl, rfl, by decide +kernel, rfl, by decide +kernel, by decide +kernel⟩
/-- a def of a length, a width and a greatest value that checks them -/
def RK (body : Nat → Nat → Nat → Out → Prop) : List PyData → Out → Prop := fun ds out => ∃ a b c, ds = [a, b, c] ∧ ((isIntD a 1 6 = false ∧ out = .exc .number) ∨ ∃ n : Nat, a = .int (n : Int) ∧ 1 ≤ n ∧ n ≤ 6 ∧
  ((isIntD b 1 (13 - (n : Int)) = false ∧ out = .exc .width) ∨ ∃ k : Nat, b = .int (k : Int) ∧ 1 ≤ k ∧ k + n ≤ 13 ∧ ((isIntD c 0 3 = false ∧ out = .exc .number) ∨ ∃ m : Nat, c = .int (m : Int) ∧ m ≤ 3 ∧ body n k m out)))
theorem RK.len {body : Nat → Nat → Nat → Out → Prop} : ∀ ds out, RK body ds out → ds.length = 3 := by
  rintro _ _ ⟨_, _, _, rfl, _⟩; rfl
theorem RK.ok {body : Nat → Nat → Nat → Out → Prop} {n k m : Nat} {out : Out} (n1 : 1 ≤ n) (n6 : n ≤ 6) (k1 : 1 ≤ k) (k2 : k + n ≤ 13) (m3 : m ≤ 3) (h : body n k m out) : RK body [.int (n : Int), .int (k : Int), .int (m : Int)] out :=
  ⟨_, _, _, rfl, .inr ⟨n, rfl, n1, n6, .inr ⟨k, rfl, k1, k2, .inr ⟨m, rfl, m3, h⟩⟩⟩⟩
def R_check_kind : List PyData → Out → Prop := RK fun _ _ _ out => out = .ret .none
theorem len_check_kind : ∀ ds out, R_check_kind ds out → ds.length = 3 := RK.len
set_option maxHeartbeats 4000000 in
theorem ok_check_kind (Df : Def K mg "check_kind" s_check_kind ["length", "width", "most"]) (B : Bt mg) {t_MOST_LENGTH : Tok} (k_MOST_LENGTH : mg "MOST_LENGTH" = some (.int 6 t_MOST_LENGTH)) {t_MOST_SEARCH : Tok} (k_MOST_SEARCH : mg "MOST_SEARCH" = some (.int 3 t_MOST_SEARCH)) (x_BadNumber : ExT K mg "BadNumber" (g .number)) (x_BadWidth : ExT K mg "BadWidth" (g .width)) (n_is_int : Ent P w K mg base "is_int" ["value", "low", "high"] 1 (SpD g R_is_int)) : Ent P w K mg base "check_kind" ["length", "width", "most"] 2 (SpD g R_check_kind) := Df.ent fun f fd Fn => by
  refine fn_data (k := 1) Fn sc_check_kind (len_check_kind) (by decide) fun cdv A outer s H E hr => ⟨_, (pss_cons (ps_if (pt_not (pt_val (pe_ent n_is_int hr (pass_own (takes_of rfl rfl rfl rfl)) (pa_cons (pv 0) (pa_cons pe_int (pa_cons (pe_glob (v := .int 6) (by rfl) k_MOST_LENGTH ⟨_, rfl⟩) pa_nil)))))) (pss_one (ps_rz x_BadNumber (by rfl) (takes_of rfl rfl rfl rfl))) pss_nil)
      (pss_cons (ps_if (pt_not (pt_val (pe_ent n_is_int hr (pass_own (takes_of rfl rfl rfl rfl)) (pa_cons (pv 1) (pa_cons pe_int (pa_cons (pe_op L2.op_sub pe_int (pv 0)) pa_nil)))))) (pss_one (ps_rz x_BadWidth (by rfl) (takes_of rfl rfl rfl rfl))) pss_nil)
      (pss_one (ps_if (pt_not (pt_val (pe_ent n_is_int hr (pass_own (takes_of rfl rfl rfl rfl)) (pa_cons (pv 2) (pa_cons pe_int (pa_cons (pe_glob (v := .int 3) (by rfl) k_MOST_SEARCH ⟨_, rfl⟩) pa_nil)))))) (pss_one (ps_rz x_BadNumber (by rfl) (takes_of rfl rfl rfl rfl))) pss_nil)))), fun C0 H0 ds out hE hR => ?_⟩
  obtain ⟨a, b, c, rfl, hc⟩ := hR
  show WS _ _ [.d a, .d b, .d c] [] _
  walk_at "w"
  refine ⟨_, ⟨_, _, _, rfl, rfl⟩, _, rfl, fun h1 => ?_, fun h1 => ws_next ?_⟩
  · rw [Bool.not_eq_true'] at h1
    rcases hc with ⟨_, ho⟩ | ⟨n, rfl, n1, n6, _⟩
    · exact ws_raise (F := mkF g C0 H0 E out hE) (e := .number) ho
    · rw [int_ok (by omega) (by omega)] at h1; cases h1
  rw [Bool.not_eq_false'] at h1
  obtain ⟨n, rfl, n1, n6, hc⟩ : ∃ n : Nat, a = .int (n : Int) ∧ 1 ≤ n ∧ n ≤ 6 ∧
      ((isIntD b 1 (13 - (n : Int)) = false ∧ out = .exc .width) ∨ ∃ k : Nat, b = .int (k : Int) ∧ 1 ≤ k ∧ k + n ≤ 13 ∧ ((isIntD c 0 3 = false ∧ out = .exc .number) ∨ ∃ m : Nat, c = .int (m : Int) ∧ m ≤ 3 ∧ out = .ret .none)) := by
    rcases hc with ⟨z, _⟩ | hc
    · rw [z] at h1; cases h1
    · exact hc
  walk_at "w"
  refine ⟨_, ⟨_, _, _, rfl, rfl⟩, _, rfl, fun h1 => ?_, fun h1 => ws_next ?_⟩
  · rw [Bool.not_eq_true'] at h1
    rcases hc with ⟨_, ho⟩ | ⟨k, rfl, k1, k2, _⟩
    · exact ws_raise (F := mkF g C0 H0 E out hE) (e := .width) ho
    · rw [int_ok (by omega) (by omega)] at h1; cases h1
  rw [Bool.not_eq_false'] at h1
  obtain ⟨k, rfl, k1, k2, hc⟩ : ∃ k : Nat, b = .int (k : Int) ∧ 1 ≤ k ∧ k + n ≤ 13 ∧ ((isIntD c 0 3 = false ∧ out = .exc .number) ∨ ∃ m : Nat, c = .int (m : Int) ∧ m ≤ 3 ∧ out = .ret .none) := by
    rcases hc with ⟨z, _⟩ | hc
    · rw [z] at h1; cases h1
    · exact hc
  walk_at "w"
  refine ⟨_, ⟨_, _, _, rfl, rfl⟩, _, rfl, fun h1 => ?_, fun h1 => ws_next ?_⟩
  · rw [Bool.not_eq_true'] at h1
    rcases hc with ⟨_, ho⟩ | ⟨m, rfl, m3, _⟩
    · exact ws_raise (F := mkF g C0 H0 E out hE) (e := .number) ho
    · rw [int_ok (by omega) (by omega)] at h1; cases h1
  rw [Bool.not_eq_false'] at h1
  rcases hc with ⟨z, _⟩ | ⟨m, rfl, m3, ho⟩
  · rw [z] at h1; cases h1
  · exact ho
/-- check_kind(.., .., ..), then the rest: the arguments by a reading ta -/
theorem ws_rkA {F : FC} {ks : List SK} {ms : Mem} {D : DE} {body : Nat → Nat → Nat → Out → Prop} {a b c : PyData} {out : Out} {u : TS} {ta : TA} (hA : ∀ {Pd : List PyData → Prop}, Pd [a, b, c] → EvA F ms ta ks Pd) (hR : RK body [a, b, c] out) (hx : ∀ e, out = .exc e → F.ex e)
    (h : ∀ (n k m : Nat), a = .int (n : Int) → b = .int (k : Int) → c = .int (m : Int) → 1 ≤ n → n ≤ 6 → 1 ≤ k → k + n ≤ 13 → m ≤ 3 → body n k m out → WS F u ks ms D) :
    WS F (tSeq (tDrop (tCall (SpD F.g R_check_kind) [] F.E ta)) u) ks ms D := by
  obtain ⟨a', b', c', e, hc⟩ := hR
  injection e with e1 e2
  injection e2 with e2 e3
  injection e3 with e3 _
  subst e1 e2 e3
  have raise : ∀ e : Exn, out = .exc e → R_check_kind [a, b, c] (.exc e) → WS F (tSeq (tDrop (tCall (SpD F.g R_check_kind) [] F.E ta)) u) ks ms D := fun e ho hr => ws_seq (ws_drop (ev_callX (hA ⟨e, hr, hx e ho⟩)))
  rcases hc with ⟨z, ho⟩ | ⟨n, rfl, n1, n6, ⟨z, ho⟩ | ⟨k, rfl, k1, k2, ⟨z, ho⟩ | ⟨m, rfl, m3, hb⟩⟩⟩
  · exact raise .number ho ⟨_, _, _, rfl, .inl ⟨z, rfl⟩⟩
  · exact raise .width ho ⟨_, _, _, rfl, .inr ⟨n, rfl, n1, n6, .inl ⟨z, rfl⟩⟩⟩
  · exact raise .number ho ⟨_, _, _, rfl, .inr ⟨n, rfl, n1, n6, .inr ⟨k, rfl, k1, k2, .inl ⟨z, rfl⟩⟩⟩⟩
  · exact ws_seq (ws_drop (ev_call (hA ⟨_, RK.ok n1 n6 k1 k2 m3 rfl, h n k m rfl rfl rfl n1 n6 k1 k2 m3 hb⟩)))
theorem ws_rk {F : FC} {ks : List SK} {ms : Mem} {D : DE} {body : Nat → Nat → Nat → Out → Prop} {a b c : PyData} {out : Out} {u : TS} (hR : RK body [a, b, c] out) (h0 : ks[0]? = some (.d a)) (h1 : ks[1]? = some (.d b)) (h2 : ks[2]? = some (.d c)) (hx : ∀ e, out = .exc e → F.ex e)
    (h : ∀ (n k m : Nat), a = .int (n : Int) → b = .int (k : Int) → c = .int (m : Int) → 1 ≤ n → n ≤ 6 → 1 ≤ k → k + n ≤ 13 → m ≤ 3 → body n k m out → WS F u ks ms D) :
    WS F (tSeq (tDrop (tCall (SpD F.g R_check_kind) [] F.E (tCons (tVar 0) (tCons (tVar 1) (tCons (tVar 2) tNil))))) u) ks ms D :=
  ws_rkA (fun q => ea_cons (ev_var h0 (ea_cons (ev_var h1 (ea_cons (ev_var h2 (ea_nil q))))))) hR hx h

abbrev s_all_rows : Stmt := topS 20
theorem sc_all_rows : FnScope ["length", "width", "most", "rows", "turn", "longer", "row", "value"] ["length", "width", "most"] (defScope s_all_rows) := ⟨rfl, rfl, rfl, by decide +kernel, rfl, by decide +kernel, by decide +kernel⟩
/-- all low rows of a kind -/
def lowAll (n k m : Nat) : List (List Int) := (allN n m).filter fun r => (shortsN r k).isEmpty
theorem pow6 {n m : Nat} (n6 : n ≤ 6) (m3 : m ≤ 3) : (m + 1) ^ n ≤ 4096 := by
  have h1 : (m + 1) ^ n ≤ 4 ^ n := Nat.pow_le_pow_left (by omega) n
  have h2 : 4 ^ n ≤ 4 ^ 6 := Nat.pow_le_pow_right (by decide) n6
  omega
theorem lowAll_len {n k m : Nat} (n6 : n ≤ 6) (m3 : m ≤ 3) : (lowAll n k m).length ≤ 4096 := Nat.le_trans (List.length_filter_le _ _) (by rw [allN_len]; exact pow6 n6 m3)
theorem mem_lowAll {n k m : Nat} {r : List Int} : r ∈ lowAll n k m ↔ r.length = n ∧ (∀ v ∈ r, 0 ≤ v ∧ v ≤ (m : Int)) ∧ shortsN r k = [] := by
  unfold lowAll
  rw [List.mem_filter, allN_allP, mem_allP, List.isEmpty_iff]
  exact ⟨fun ⟨⟨a, b⟩, c⟩ => ⟨a, b, c⟩, fun ⟨a, b, c⟩ => ⟨⟨a, b⟩, c⟩⟩
def R_all_rows : List PyData → Out → Prop := fun ds out => ∃ n k m : Nat, ds = [.int (n : Int), .int (k : Int), .int (m : Int)] ∧ n ≤ 6 ∧ m ≤ 3 ∧ out = .ret (dLL (lowAll n k m))
theorem len_all_rows : ∀ ds out, R_all_rows ds out → ds.length = 3 := by
  rintro _ _ ⟨_, _, _, rfl, _⟩; rfl
set_option maxHeartbeats 4000000 in
theorem ok_all_rows (Df : Def K mg "all_rows" s_all_rows ["length", "width", "most"]) (B : Bt mg) (n_short_ones : Ent P w K mg base "short_ones" ["row", "width"] 2 (SpD g R_short_ones)) : Ent P w K mg base "all_rows" ["length", "width", "most"] 3 (SpD g R_all_rows) := Df.ent fun f fd Fn => by
  refine fn_data (k := 2) Fn sc_all_rows (len_all_rows) (by decide) fun cdv A outer s H E hr => ⟨_, (pss_cons (ps_set (i := 3) sc_all_rows.nd rfl (by first | exact Or.inl rfl | exact Or.inr rfl) (pe_lst (pa_cons (pe_lst pa_nil) pa_nil)))
      (pss_cons (ps_for (passes_of rfl) rfl (pi_range1 (by rfl) B.b_range (pa_cons (pv 0) pa_nil)) (pg_name (i := 4) sc_all_rows.nd rfl (by first | exact Or.inl rfl | exact Or.inr rfl)) (pss_cons (ps_set (i := 5) sc_all_rows.nd rfl (by first | exact Or.inl rfl | exact Or.inr rfl) (pe_lst pa_nil))
      (pss_cons (ps_for (passes_of rfl) rfl (k_list (K := K) (pv 3)) (pg_name (i := 6) sc_all_rows.nd rfl (by first | exact Or.inl rfl | exact Or.inr rfl)) (pss_one (ps_aug (i := 5) sc_all_rows.nd rfl (by first | exact Or.inl rfl | exact Or.inr rfl) (pe_lc (own := [("value", 7)]) (tt := tYes) rfl sc_all_rows.nd (pi_range1 (by rfl) B.b_range (pa_cons (pe_op L2.op_add (pv 2) pe_int) pa_nil)) (blkOk_by (own := [("value", 7)]) (N := ["length", "width", "most", "rows", "turn", "longer", "row", "value"]) (sc := defScope s_all_rows) (by decide +kernel)) (fun _ _ _ _ _ => (pg_name (i := 7) sc_all_rows.nd rfl (by first | exact Or.inl rfl | exact Or.inr rfl))) (fun _ _ _ _ _ => pts_nil) (fun _ _ _ _ _ => (pe_op L2.op_cat (pv 6) (pe_lst (pa_cons (pv 7) pa_nil))))) ip_ext)))
      (pss_one (ps_set (i := 3) sc_all_rows.nd rfl (by first | exact Or.inl rfl | exact Or.inr rfl) (pv 5))))))
      (pss_one (ps_ret (pe_lc (own := [("row", 6)])  rfl sc_all_rows.nd (k_list (K := K) (pv 3)) (blkOk_by (own := [("row", 6)]) (N := ["length", "width", "most", "rows", "turn", "longer", "row", "value"]) (sc := defScope s_all_rows) (by decide +kernel)) (fun _ _ _ _ _ => (pg_name (i := 6) sc_all_rows.nd rfl (by first | exact Or.inl rfl | exact Or.inr rfl))) (fun _ _ _ _ _ => (pts_one (pt_cmpR (k_eqD (K := K) hr.units) (pe_ent n_short_ones hr passL (pa_cons (pv 6) (pa_cons (pv 1) pa_nil))) (pe_lst pa_nil) (nomark _)))) (fun _ _ _ _ _ => (pv 6))))))), fun C0 H0 ds out hE hR => ?_⟩
  obtain ⟨n, k, m, rfl, n6, m3, rfl⟩ := hR
  show WS _ _ [.d (.int (n : Int)), .d (.int (k : Int)), .d (.int (m : Int)), .un, .un, .un, .un, .un] [] _
  have hs := pow6 n6 m3
  walk_at "w"
  refine ws_for (vs := [4]) ?_
  walk_at "w"
  refine ⟨by omega, by omega, ?_⟩
  rw [show ((n : Int)).toNat = n by omega, rangeD_len]
  refine ⟨fun i ks ms => i ≤ n ∧ ms = [] ∧ ∃ a b c e, ks = [.d (.int (n : Int)), .d (.int (k : Int)), .d (.int (m : Int)), .d (dLL (allN i m)), a, b, c, e], ⟨Nat.zero_le _, rfl, _, _, _, _, rfl⟩, ?_, ?_⟩
  · rintro i d _ _ hd ⟨_, rfl, a, b, c, e, rfl⟩
    obtain ⟨hi, rfl⟩ := rangeD_get hd
    refine ⟨_, sg_name (by decide), ?_⟩
    have hp : (m + 1) ^ (i + 1) ≤ (m + 1) ^ n := Nat.pow_le_pow_right (by omega) (by omega)
    have hl := allN_len i m
    have hl2 := allN_len (i + 1) m
    refine ws_seq (ws_asgM (ea_nil ⟨by decide, fun l hf => ?_⟩))
    refine ws_seq (ws_for (vs := [6]) ?_)
    walk_at "w"
    rw [List.length_map]
    refine ⟨fun j ks ms => ms = [(l, .l ((((allN i m).take j).flatMap fun r => (List.range (m + 1)).map fun v : Nat => r ++ [(v : Int)]).map dL))] ∧ ∃ a c e, ks = [.d (.int (n : Int)), .d (.int (k : Int)), .d (.int (m : Int)), .d (dLL (allN i m)), a, .v (.ref l), c, e], ⟨rfl, _, _, _, rfl⟩, ?_, ?_⟩
    · rintro j d _ _ hd ⟨rfl, a, c, e, rfl⟩
      obtain ⟨r, hr, rfl⟩ := map_get hd
      have hrl : r.length ≤ 100 := by
        have : r.length = i := by
          have := mem_allP.mp (by rw [← allN_allP]; exact List.mem_of_getElem? hr)
          exact this.1
        omega
      refine ⟨_, sg_name (by decide), ?_⟩
      refine ws_extH rfl hf ?_
      refine ev_lcF (fun v : Nat => PyData.int (0 + (v : Int))) ?_
      walk_at "w"
      refine ⟨by omega, by omega, List.range (m + 1), fun v => dL (r ++ [(v : Int)]), ?_, by rw [List.length_range]; omega, fun v hv => ⟨_, sg_name (by decide), ?_⟩, ?_⟩
      · rw [show ((m : Int) + 1).toNat = m + 1 by omega]
        rfl
      · walk_at "w"
        refine op_cat (by simp; omega) ?_
        rw [Int.zero_add]
        show _ = dL (r ++ [(v : Int)])
        unfold dL
        rw [List.map_append]
        rfl
      have htl := flat_take_len (f := fun r => (List.range (m + 1)).map fun v : Nat => r ++ [(v : Int)]) (m := m) (fun x => by simp) ((allN i m).take j)
      have hj := (List.getElem?_eq_some_iff.mp hr).1
      have hmul : j * (m + 1) ≤ (allN i m).length * (m + 1) := Nat.mul_le_mul (by omega) (Nat.le_refl _)
      have hmul2 : (allN i m).length * (m + 1) = (m + 1) ^ (i + 1) := by rw [hl, Nat.pow_succ]
      refine ⟨_, rfl, by rw [List.length_map, List.length_map, List.length_range, htl, List.length_take, Nat.min_eq_left (by omega)]; omega, ?_, a, .d (dL r), e, rfl⟩
      rw [flat_take _ hr, List.map_append, List.map_map]
      rfl
    · rintro _ _ ⟨rfl, a, c, e, rfl⟩
      rw [List.take_length]
      refine ws_freezeH (i := 5) rfl hf ?_
      walk_at "w"
      exact ⟨hi, rfl, _, _, _, _, rfl⟩
  · rintro _ _ ⟨_, rfl, a, b, c, e, rfl⟩
    have hl := allN_len n m
    refine ws_ret (ev_lcB dL ?_)
    walk_at "w"
    refine ⟨allN n m, fun r => (shortsN r k).isEmpty, dL, rfl, by omega, fun r hr => ⟨_, sg_name (by decide), ?_⟩, rfl⟩
    have hrl := (mem_allP.mp (by rw [← allN_allP]; exact hr)).1
    walk_at "w"
    refine ⟨_, ⟨r, k, rfl, by omega, rfl⟩, ?_⟩
    walk_at "w"
    refine ⟨rfl, fun _ => ?_⟩
    walk_at "w"
    rfl

abbrev s_low_rows : Stmt := topS 21
theorem sc_low_rows : FnScope ["length", "width", "most"] ["length", "width", "most"] (defScope s_low_rows) := ⟨rfl, rfl, rfl, by decide +kernel, rfl, by decide +kernel, by decide +kernel⟩
def R_low_rows : List PyData → Out → Prop := RK fun n k m out => out = .ret (dLL (lowAll n k m))
theorem len_low_rows : ∀ ds out, R_low_rows ds out → ds.length = 3 := RK.len
set_option maxHeartbeats 4000000 in
theorem ok_low_rows (Df : Def K mg "low_rows" s_low_rows ["length", "width", "most"]) (B : Bt mg) (n_check_kind : Ent P w K mg base "check_kind" ["length", "width", "most"] 2 (SpD g R_check_kind)) (n_all_rows : Ent P w K mg base "all_rows" ["length", "width", "most"] 3 (SpD g R_all_rows)) : Ent P w K mg base "low_rows" ["length", "width", "most"] 4 (SpD g R_low_rows) := Df.ent fun f fd Fn => by
  refine fn_data (k := 3) Fn sc_low_rows (len_low_rows) (by decide) fun cdv A outer s H E hr => ⟨_, (pss_cons (ps_expr (pe_ent n_check_kind hr (pass_own (takes_of rfl rfl rfl rfl)) (pa_cons (pv 0) (pa_cons (pv 1) (pa_cons (pv 2) pa_nil)))))
      (pss_one (ps_ret (pe_ent n_all_rows hr (pass_own (takes_of rfl rfl rfl rfl)) (pa_cons (pv 0) (pa_cons (pv 1) (pa_cons (pv 2) pa_nil))))))), fun C0 H0 ds out hE hR => ?_⟩
  obtain ⟨a, b, c, rfl, _⟩ := id hR
  show WS _ _ [.d a, .d b, .d c] [] _
  refine ws_rk (F := mkF g C0 H0 E out hE) hR rfl rfl rfl (fun _ z => z) fun n k m e1 e2 e3 n1 n6 k1 k2 m3 hb => ?_
  subst e1 e2 e3 hb
  walk_at "w"
  exact ⟨_, ⟨n, k, m, rfl, n6, m3, rfl⟩, rfl⟩

abbrev s_count_low_rows : Stmt := topS 22
theorem sc_count_low_rows : FnScope ["length", "width", "most"] ["length", "width", "most"] (defScope s_count_low_rows) := ⟨rfl, rfl, rfl, by decide +kernel, rfl, by decide +kernel, by decide +kernel⟩
def R_count_low_rows : List PyData → Out → Prop := RK fun n k m out => out = .ret (.int ((lowAll n k m).length : Int))
theorem len_count_low_rows : ∀ ds out, R_count_low_rows ds out → ds.length = 3 := RK.len
set_option maxHeartbeats 4000000 in
theorem ok_count_low_rows (Df : Def K mg "count_low_rows" s_count_low_rows ["length", "width", "most"]) (B : Bt mg) (n_check_kind : Ent P w K mg base "check_kind" ["length", "width", "most"] 2 (SpD g R_check_kind)) (n_all_rows : Ent P w K mg base "all_rows" ["length", "width", "most"] 3 (SpD g R_all_rows)) : Ent P w K mg base "count_low_rows" ["length", "width", "most"] 4 (SpD g R_count_low_rows) := Df.ent fun f fd Fn => by
  refine fn_data (k := 3) Fn sc_count_low_rows (len_count_low_rows) (by decide) fun cdv A outer s H E hr => ⟨_, (pss_cons (ps_expr (pe_ent n_check_kind hr (pass_own (takes_of rfl rfl rfl rfl)) (pa_cons (pv 0) (pa_cons (pv 1) (pa_cons (pv 2) pa_nil)))))
      (pss_one (ps_ret (pe_callB (k_len (K := K)) (by rfl) B.b_len (by decide +kernel) (pa_cons (pe_ent n_all_rows hr (pass_own (takes_of rfl rfl rfl rfl)) (pa_cons (pv 0) (pa_cons (pv 1) (pa_cons (pv 2) pa_nil)))) pa_nil))))), fun C0 H0 ds out hE hR => ?_⟩
  obtain ⟨a, b, c, rfl, _⟩ := id hR
  show WS _ _ [.d a, .d b, .d c] [] _
  refine ws_rk (F := mkF g C0 H0 E out hE) hR rfl rfl rfl (fun _ z => z) fun n k m e1 e2 e3 n1 n6 k1 k2 m3 hb => ?_
  subst e1 e2 e3 hb
  have gl := lowAll_len (k := k) n6 m3
  walk_at "w"
  refine ⟨_, ⟨n, k, m, rfl, n6, m3, rfl⟩, ?_⟩
  walk_at "w"
  rfl

abbrev s_low_row_at : Stmt := topS 23
theorem sc_low_row_at : FnScope ["length", "width", "most", "rank", "found"] ["length", "width", "most", "rank"] (defScope s_low_row_at) := ⟨rfl, rfl, rfl, by decide +kernel, rfl, by decide +kernel, by decide +kernel⟩
def R_low_row_at : List PyData → Out → Prop := fun ds out => ∃ a b c y, ds = [a, b, c, y] ∧ RK (fun n k m out => (isIntD y 0 (((lowAll n k m).length : Int) - 1) = false ∧ out = .exc .number) ∨ ∃ (r : Nat) (o : List Int), y = .int (r : Int) ∧ (lowAll n k m)[r]? = some o ∧ out = .ret (dL o)) [a, b, c] out
theorem len_low_row_at : ∀ ds out, R_low_row_at ds out → ds.length = 4 := by
  rintro _ _ ⟨_, _, _, _, rfl, _⟩; rfl
set_option maxHeartbeats 4000000 in
theorem ok_low_row_at (Df : Def K mg "low_row_at" s_low_row_at ["length", "width", "most", "rank"]) (B : Bt mg) (x_BadNumber : ExT K mg "BadNumber" (g .number)) (n_check_kind : Ent P w K mg base "check_kind" ["length", "width", "most"] 2 (SpD g R_check_kind)) (n_all_rows : Ent P w K mg base "all_rows" ["length", "width", "most"] 3 (SpD g R_all_rows)) (n_is_int : Ent P w K mg base "is_int" ["value", "low", "high"] 1 (SpD g R_is_int)) : Ent P w K mg base "low_row_at" ["length", "width", "most", "rank"] 4 (SpD g R_low_row_at) := Df.ent fun f fd Fn => by
  refine fn_data (k := 3) Fn sc_low_row_at (len_low_row_at) (by decide) fun cdv A outer s H E hr => ⟨_, (pss_cons (ps_expr (pe_ent n_check_kind hr (pass_own (takes_of rfl rfl rfl rfl)) (pa_cons (pv 0) (pa_cons (pv 1) (pa_cons (pv 2) pa_nil)))))
      (pss_cons (ps_set (i := 4) sc_low_row_at.nd rfl (by first | exact Or.inl rfl | exact Or.inr rfl) (pe_ent n_all_rows hr (pass_own (takes_of rfl rfl rfl rfl)) (pa_cons (pv 0) (pa_cons (pv 1) (pa_cons (pv 2) pa_nil)))))
      (pss_cons (ps_if (pt_not (pt_val (pe_ent n_is_int hr (pass_own (takes_of rfl rfl rfl rfl)) (pa_cons (pv 3) (pa_cons pe_int (pa_cons (pe_op L2.op_sub (pe_callB (k_len (K := K)) (by rfl) B.b_len (by decide +kernel) (pa_cons (pv 4) pa_nil)) pe_int) pa_nil)))))) (pss_one (ps_rz x_BadNumber (by rfl) (takes_of rfl rfl rfl rfl))) pss_nil)
      (pss_one (ps_ret (pe_ix (k_ixL (K := K)) (pv 4) (pv 3) (fun _ _ => rfl))))))), fun C0 H0 ds out hE hR => ?_⟩
  obtain ⟨a, b, c, y, rfl, hR⟩ := hR
  show WS _ _ [.d a, .d b, .d c, .d y, .un] [] _
  refine ws_rk (F := mkF g C0 H0 E out hE) hR rfl rfl rfl (fun _ z => z) fun n k m e1 e2 e3 n1 n6 k1 k2 m3 hb => ?_
  subst e1 e2 e3
  have gl := lowAll_len (k := k) n6 m3
  walk_at "w"
  refine ⟨_, ⟨n, k, m, rfl, n6, m3, rfl⟩, ?_⟩
  walk_at "w"
  refine ⟨_, ⟨_, _, _, rfl, rfl⟩, _, rfl, fun h1 => ?_, fun h1 => ws_next ?_⟩
  · rw [Bool.not_eq_true'] at h1
    rcases hb with ⟨_, hb⟩ | ⟨r, o, rfl, hr, _⟩
    · exact ws_raise (F := mkF g C0 H0 E out hE) (e := .number) hb
    · have := (List.getElem?_eq_some_iff.mp hr).1
      rw [int_ok (by omega) (by omega)] at h1
      cases h1
  rw [Bool.not_eq_false'] at h1
  obtain ⟨r, o, rfl, hr, hb⟩ : ∃ (r : Nat) (o : List Int), y = .int (r : Int) ∧ (lowAll n k m)[r]? = some o ∧ out = .ret (dL o) := by
    rcases hb with ⟨z, _⟩ | hb
    · rw [z] at h1; cases h1
    · exact hb
  subst hb
  walk_at "w"
  refine op_ixL (d := dL o) (atI_map (f := dL) (atI_nat hr)) rfl

abbrev s_rank_of_low : Stmt := topS 24
theorem sc_rank_of_low : FnScope ["row", "width", "most", "found"] ["row", "width", "most"] (defScope s_rank_of_low) := ⟨rfl, rfl, rfl, by decide +kernel, rfl, by decide +kernel, by decide +kernel⟩
def R_rank_of_low : List PyData → Out → Prop := fun ds out => ∃ d b c, ds = [d, b, c] ∧ Sz d ∧ ((isRowD d = false ∧ out = .exc .row) ∨ ∃ row, d = dL row ∧ okRow row ∧
  RK (fun n k m out => (row ∉ lowAll n k m ∧ out = .exc .row) ∨ (row ∈ lowAll n k m ∧ out = .ret (.int ((lowAll n k m).idxOf row : Nat)))) [.int (row.length : Int), b, c] out)
theorem len_rank_of_low : ∀ ds out, R_rank_of_low ds out → ds.length = 3 := by
  rintro _ _ ⟨_, _, _, rfl, _⟩; rfl
set_option maxHeartbeats 4000000 in
theorem ok_rank_of_low (Df : Def K mg "rank_of_low" s_rank_of_low ["row", "width", "most"]) (B : Bt mg) (x_BadRow : ExT K mg "BadRow" (g .row)) (n_check_row : Ent P w K mg base "check_row" ["value"] 3 (SpD g R_check_row)) (n_check_kind : Ent P w K mg base "check_kind" ["length", "width", "most"] 2 (SpD g R_check_kind)) (n_all_rows : Ent P w K mg base "all_rows" ["length", "width", "most"] 3 (SpD g R_all_rows)) : Ent P w K mg base "rank_of_low" ["row", "width", "most"] 4 (SpD g R_rank_of_low) := Df.ent fun f fd Fn => by
  refine fn_data (k := 3) Fn sc_rank_of_low (len_rank_of_low) (by decide) fun cdv A outer s H E hr => ⟨_, (pss_cons (ps_expr (pe_ent n_check_row hr (pass_own (takes_of rfl rfl rfl rfl)) (pa_cons (pv 0) pa_nil)))
      (pss_cons (ps_expr (pe_ent n_check_kind hr (pass_own (takes_of rfl rfl rfl rfl)) (pa_cons (pe_callB (k_len (K := K)) (by rfl) B.b_len (by decide +kernel) (pa_cons (pv 0) pa_nil)) (pa_cons (pv 1) (pa_cons (pv 2) pa_nil)))))
      (pss_cons (ps_set (i := 3) sc_rank_of_low.nd rfl (by first | exact Or.inl rfl | exact Or.inr rfl) (pe_ent n_all_rows hr (pass_own (takes_of rfl rfl rfl rfl)) (pa_cons (pe_callB (k_len (K := K)) (by rfl) B.b_len (by decide +kernel) (pa_cons (pv 0) pa_nil)) (pa_cons (pv 1) (pa_cons (pv 2) pa_nil)))))
      (pss_cons (ps_if (pt_cmpR (k_notInD (K := K) (u65 hr)) (pv 0) (pv 3) (by rfl)) (pss_one (ps_rz x_BadRow (by rfl) (takes_of rfl rfl rfl rfl))) pss_nil)
      (pss_one (ps_ret (k_bm (K := K) PySem.F.plainAttrs_list PySem.F.slot_list_index PySem.F.type_list_index (k_indexD (K := K) (u65 hr)) (pv 3) (pa_cons (pv 0) pa_nil)))))))), fun C0 H0 ds out hE hR => ?_⟩
  obtain ⟨d, b, c, rfl, hs, hc⟩ := hR
  show WS _ _ [.d d, .d b, .d c, .un] [] _
  refine ws_cr (F := mkF g C0 H0 E out hE) rfl hs (fun row e ok => ?_) (fun e => ?_)
  · subst e
    have hR : RK (fun n k m out => (row ∉ lowAll n k m ∧ out = .exc .row) ∨ (row ∈ lowAll n k m ∧ out = .ret (.int ((lowAll n k m).idxOf row : Nat)))) [.int (row.length : Int), b, c] out := by
      rcases hc with ⟨h0, _⟩ | ⟨row', e, _, hc⟩
      · rw [(isRow_dL row).mpr ok] at h0; cases h0
      · have e := dL_inj e
        subst e
        exact hc
    refine ws_rkA (F := mkF g C0 H0 E out hE) (fun q => ea_cons (ev_cb (ea_cons (ev_var rfl (ea_nil (on_lenM (ea_cons (ev_var rfl (ea_cons (ev_var rfl (ea_nil q))))))))))) hR (fun _ z => z) fun n k m e1 e2 e3 n1 n6 k1 k2 m3 hb => ?_
    subst e2 e3
    have e1 : row.length = n := by injection e1 with e1; omega
    subst e1
    have gl := lowAll_len (k := k) n6 m3
    walk_at "w"
    refine ⟨_, ⟨row.length, k, m, rfl, n6, m3, rfl⟩, ?_⟩
    walk_at "w"
    refine op_notInR ?_
    refine ⟨_, rfl, fun h1 => ?_, fun h1 => ws_next ?_⟩
    · have h1 : row ∉ lowAll row.length k m := by simpa using h1
      rcases hb with ⟨_, hb⟩ | ⟨z, _⟩
      · exact ws_raise (F := mkF g C0 H0 E out hE) (e := .row) hb
      · exact absurd z h1
    · have h1 : row ∈ lowAll row.length k m := by simpa using h1
      rcases hb with ⟨z, _⟩ | ⟨_, hb⟩
      · exact absurd h1 z
      subst hb
      walk_at "w"
      exact om_indexR h1 rfl
  · rcases hc with ⟨_, ho⟩ | ⟨row, rfl, ok, _⟩
    · exact ho
    · rw [(isRow_dL row).mpr ok] at e; cases e

abbrev s_lows : Stmt := topS 26
theorem sc_lows : FnScope ["row", "width", "first"] ["row", "width"] (defScope s_lows) := ⟨rfl, rfl, rfl, by decide +kernel, rfl, by decide +kernel, by decide +kernel⟩
def R_lows : List PyData → Out → Prop := fun ds out => ∃ (row : List Int) (k : Nat), ds = [dL row, .int (k : Int)] ∧ 1 ≤ k ∧ k ≤ row.length ∧ row.length ≤ 1000 ∧ out = .ret (dL (lowsN row k))
theorem len_lows : ∀ ds out, R_lows ds out → ds.length = 2 := by
  rintro _ _ ⟨_, _, rfl, _⟩; rfl
set_option maxHeartbeats 4000000 in
theorem ok_lows (Df : Def K mg "lows" s_lows ["row", "width"]) (B : Bt mg) : Ent P w K mg base "lows" ["row", "width"] 1 (SpD g R_lows) := Df.ent fun f fd Fn => by
  refine fn_data (k := 0) Fn sc_lows (len_lows) (by decide) fun cdv A outer s H E hr => ⟨_, (pss_one (ps_ret (pe_lc (own := [("first", 2)]) (tt := tYes) rfl sc_lows.nd (pi_range1 (by rfl) B.b_range (pa_cons (pe_op L2.op_add (pe_op L2.op_sub (pe_callB (k_len (K := K)) (by rfl) B.b_len (by decide +kernel) (pa_cons (pv 0) pa_nil)) (pv 1)) pe_int) pa_nil)) (blkOk_by (own := [("first", 2)]) (N := ["row", "width", "first"]) (sc := defScope s_lows) (by decide +kernel)) (fun _ _ _ _ _ => (pg_name (i := 2) sc_lows.nd rfl (by first | exact Or.inl rfl | exact Or.inr rfl))) (fun _ _ _ _ _ => pts_nil) (fun _ _ _ _ _ => (pe_callB (k_min (K := K)) (by rfl) B.b_min (by decide +kernel) (pa_cons (pe_slice (k_slL (K := K)) (pv 0) (po_some (pv 2)) (po_some (pe_op L2.op_add (pv 2) (pv 1)))) pa_nil)))))), fun C0 H0 ds out hE hR => ?_⟩
  obtain ⟨row, k, rfl, hk1, hk2, hn, rfl⟩ := hR
  show WS _ _ [.d (dL row), .d (.int (k : Int)), .un] [] _
  walk_at "w"
  refine ev_lcM ?_
  walk_at "w"
  have e1 : ((row.length : Int) - (k : Int) + 1).toNat = row.length + 1 - k := by omega
  refine ⟨by omega, by omega, ?_⟩
  rw [e1, rangeD_len]
  refine ⟨by omega, fun f => .int (minL (win row k f)), fun i d hd => ⟨_, sg_name (by decide), ?_⟩, ?_⟩
  · obtain ⟨hi, rfl⟩ := rangeD_get hd
    walk_at "w"
    rw [cut_win]
    exact on_min (win_ne hk1 (by omega)) rfl
  · show _ = _
    unfold lowsN dL
    rw [List.map_map]
    rfl

abbrev s_lowest_origin : Stmt := topS 28
theorem sc_lowest_origin : FnScope ["row", "width", "found", "place"] ["row", "width"] (defScope s_lowest_origin) := ⟨rfl, rfl, rfl, by decide +kernel, rfl, by decide +kernel, by decide +kernel⟩
def R_lowest_origin : List PyData → Out → Prop := fun ds out => ∃ (row : List Int) (k : Nat), ds = [dL row, .int (k : Int)] ∧ 1 ≤ row.length ∧ 1 ≤ k ∧ row.length + k ≤ 1000 ∧ out = .ret (dL (leastN row k))
theorem len_lowest_origin : ∀ ds out, R_lowest_origin ds out → ds.length = 2 := by
  rintro _ _ ⟨_, _, rfl, _⟩; rfl
theorem cut_least (row : List Int) (k i : Nat) (hk : 1 ≤ k) : cut row (some (max 0 ((0 : Int) + (i : Int) - (k : Int) + 1))) (some ((0 : Int) + (i : Int) + 1)) = (row.drop (i + 1 - k)).take (i + 1 - (i + 1 - k)) := by
  rw [show max 0 ((0 : Int) + (i : Int) - (k : Int) + 1) = ((i + 1 - k : Nat) : Int) by omega, show (0 : Int) + (i : Int) + 1 = ((i + 1 : Nat) : Int) by omega, cut_nat]
set_option maxHeartbeats 4000000 in
theorem ok_lowest_origin (Df : Def K mg "lowest_origin" s_lowest_origin ["row", "width"]) (B : Bt mg) : Ent P w K mg base "lowest_origin" ["row", "width"] 1 (SpD g R_lowest_origin) := Df.ent fun f fd Fn => by
  refine fn_data (k := 0) Fn sc_lowest_origin (len_lowest_origin) (by decide) fun cdv A outer s H E hr => ⟨_, (pss_cons (ps_set (i := 2) sc_lowest_origin.nd rfl (by first | exact Or.inl rfl | exact Or.inr rfl) (pe_lst pa_nil))
      (pss_cons (ps_for (passes_of rfl) rfl (pi_range1 (by rfl) B.b_range (pa_cons (pe_op L2.op_sub (pe_op L2.op_add (pe_callB (k_len (K := K)) (by rfl) B.b_len (by decide +kernel) (pa_cons (pv 0) pa_nil)) (pv 1)) pe_int) pa_nil)) (pg_name (i := 3) sc_lowest_origin.nd rfl (by first | exact Or.inl rfl | exact Or.inr rfl)) (pss_one (ps_expr (k_bm (K := K) PySem.F.plainAttrs_list PySem.F.slot_list_append PySem.F.type_list_append L2.mt_append (pv 2) (pa_cons (pe_callB (k_max (K := K)) (by rfl) B.b_max (by decide +kernel) (pa_cons (pe_slice (k_slL (K := K)) (pv 0) (po_some (pe_callB (cr_max2 rfl) (by rfl) B.b_max (by decide +kernel) (pa_cons pe_int (pa_cons (pe_op L2.op_add (pe_op L2.op_sub (pv 3) (pv 1)) pe_int) pa_nil)))) (po_some (pe_op L2.op_add (pv 3) pe_int))) pa_nil)) pa_nil)))))
      (pss_one (ps_ret (pv 2))))), fun C0 H0 ds out hE hR => ?_⟩
  obtain ⟨row, k, rfl, hr, hk1, hn, rfl⟩ := hR
  show WS _ _ [.d (dL row), .d (.int (k : Int)), .un, .un] [] _
  refine ws_seq (ws_asgM (ea_nil ⟨by decide, fun l hf => ?_⟩))
  refine ws_seq (ws_for (vs := [3]) ?_)
  walk_at "w"
  refine ⟨by omega, by omega, ?_⟩
  rw [show ((row.length : Int) + (k : Int) - 1).toNat = row.length + k - 1 by omega, rangeD_len]
  refine ⟨fun i ks ms => i ≤ row.length + k - 1 ∧ ∃ a, ks = [.d (dL row), .d (.int (k : Int)), .v (.ref l), a] ∧ ms = [(l, .l ((List.range i).map fun p => PyData.int (leastAt row k p)))], ⟨Nat.zero_le _, _, rfl, rfl⟩, ?_, ?_⟩
  · rintro i d _ _ hd ⟨_, a, rfl, rfl⟩
    obtain ⟨hi, rfl⟩ := rangeD_get hd
    refine ⟨_, sg_name (by decide), ?_⟩
    refine ws_append (i := 2) rfl List.mem_cons_self hf ?_ ?_
    · rw [List.length_map, List.length_range]; omega
    walk_at "w"
    rw [cut_least row k i hk1]
    refine on_max (take_drop_ne hk1 hr hi) ⟨hi, _, rfl, ?_⟩
    show [(if l = l then (l, MO.l _) else _)] = _
    rw [if_pos rfl, List.range_succ, List.map_append]
    rfl
  · rintro _ _ ⟨_, a, rfl, rfl⟩
    refine ws_freeze (i := 2) rfl List.mem_cons_self hf ?_
    walk_at "w"
    show _ = _
    unfold leastN dL
    rw [List.map_map]
    rfl

abbrev s_is_origin : Stmt := topS 29
theorem sc_is_origin : FnScope ["other", "row", "width"] ["other", "row", "width"] (defScope s_is_origin) := ⟨rfl, rfl, rfl, by decide +kernel, rfl, by decide +kernel, by decide +kernel⟩
def isOrg (o row : List Int) (k : Nat) : Bool := decide (o.length = row.length + k - 1) && decide (lowsN o k = row)
def R_is_origin : List PyData → Out → Prop := fun ds out => ∃ d r w, ds = [d, r, w] ∧ Sz d ∧ Sz r ∧ ((isRowD d = false ∧ out = .exc .row) ∨ ∃ o, d = dL o ∧ okRow o ∧ RL (fun row k out => out = .ret (.bool (isOrg o row k))) [r, w] out)
theorem len_is_origin : ∀ ds out, R_is_origin ds out → ds.length = 3 := by
  rintro _ _ ⟨_, _, _, rfl, _⟩; rfl
theorem R_is_origin_ok {o row : List Int} {k : Nat} (ok : okRow o) (ok2 : okRow row) (k1 : 1 ≤ k) (k2 : k + row.length ≤ 13) : R_is_origin [dL o, dL row, .int (k : Int)] (.ret (.bool (isOrg o row k))) := ⟨_, _, _, rfl, ok.sz, ok2.sz, .inr ⟨o, rfl, ok, RL.ok ok2 k1 k2 rfl⟩⟩
theorem RL.split {body : List Int → Nat → Out → Prop} {r w : PyData} {out : Out} (h : RL body [r, w] out) : (isRowD r = false ∧ out = .exc .row) ∨ ∃ row, r = dL row ∧ okRow row ∧
    ((isIntD w 1 (13 - row.length) = false ∧ out = .exc .width) ∨ ∃ k : Nat, w = .int (k : Int) ∧ 1 ≤ k ∧ k + row.length ≤ 13 ∧ body row k out) := by
  obtain ⟨d, w', e, _, hc⟩ := h
  injection e with e1 e2
  injection e2 with e2 _
  subst e1 e2
  exact hc
set_option maxHeartbeats 4000000 in
theorem ok_is_origin (Df : Def K mg "is_origin" s_is_origin ["other", "row", "width"]) (B : Bt mg) (n_check_row : Ent P w K mg base "check_row" ["value"] 3 (SpD g R_check_row)) (n_check_low : Ent P w K mg base "check_low" ["row", "width"] 4 (SpD g R_check_low)) (n_lows : Ent P w K mg base "lows" ["row", "width"] 1 (SpD g R_lows)) : Ent P w K mg base "is_origin" ["other", "row", "width"] 5 (SpD g R_is_origin) := Df.ent fun f fd Fn => by
  refine fn_data (k := 4) Fn sc_is_origin (len_is_origin) (by decide) fun cdv A outer s H E hr => ⟨_, (pss_cons (ps_expr (pe_ent n_check_row hr (pass_own (takes_of rfl rfl rfl rfl)) (pa_cons (pv 0) pa_nil)))
      (pss_cons (ps_expr (pe_ent n_check_low hr (pass_own (takes_of rfl rfl rfl rfl)) (pa_cons (pv 1) (pa_cons (pv 2) pa_nil))))
      (pss_one (ps_ret (pe_and (pe_cmpR L2.op_eq (pe_callB (k_len (K := K)) (by rfl) B.b_len (by decide +kernel) (pa_cons (pv 0) pa_nil)) (pe_op L2.op_sub (pe_op L2.op_add (pe_callB (k_len (K := K)) (by rfl) B.b_len (by decide +kernel) (pa_cons (pv 1) pa_nil)) (pv 2)) pe_int) (nomark _)) (pe_one (pe_cmpR (k_eqD (K := K) hr.units) (pe_ent n_lows hr (pass_own (takes_of rfl rfl rfl rfl)) (pa_cons (pv 0) (pa_cons (pv 2) pa_nil))) (pv 1) (nomark _)))))))), fun C0 H0 ds out hE hR => ?_⟩
  obtain ⟨d, r, w, rfl, hs, hs2, hc⟩ := hR
  show WS _ _ [.d d, .d r, .d w] [] _
  refine ws_cr (F := mkF g C0 H0 E out hE) rfl hs (fun o e1 oko => ?_) (fun h0 => ?_)
  · subst e1
    have hc : RL (fun row k out => out = .ret (.bool (isOrg o row k))) [r, w] out := by
      rcases hc with ⟨h0, _⟩ | ⟨o', e, _, hc⟩
      · rw [(isRow_dL o).mpr oko] at h0; cases h0
      · have e := dL_inj e
        subst e
        exact hc
    have hc := hc.split
    refine ws_cl (F := mkF g C0 H0 E out hE) (d := r) (w := w) rfl rfl hs2 (fun row k e1 e2 ok h1 h2 => ?_) (fun e => ?_) (fun row e1 ok e => ?_)
    · subst e1 e2
      have ho : out = .ret (.bool (isOrg o row k)) := by
        rcases hc with ⟨h0, _⟩ | ⟨row', e, _, ⟨h0, _⟩ | ⟨k', e', _, _, hb⟩⟩
        · rw [(isRow_dL row).mpr ok] at h0; cases h0
        · have e := dL_inj e
          subst e
          rw [int_ok (by omega) (by omega)] at h0; cases h0
        · have e := dL_inj e
          subst e
          have e' : k = k' := by injection e' with e'; omega
          rw [e']
          exact hb
      have l1 := oko.1
      have l2 := oko.2.1
      walk_at "w"
      refine ⟨fun hb => ?_, fun hb => ?_⟩
      · walk_at "w"
        have hl : o.length = row.length + k - 1 := by simp at hb; omega
        have := ok.1
        refine ⟨_, ⟨o, k, rfl, h1, by omega, by omega, rfl⟩, ?_⟩
        walk_at "w"
        show out = _
        rw [ho]
        unfold isOrg
        rw [decide_eq_true hl, Bool.true_and]
      · show out = _
        rw [ho]
        unfold isOrg
        have hl : ¬ o.length = row.length + k - 1 := by simp at hb; omega
        rw [decide_eq_false hl, Bool.false_and]
    · rcases hc with ⟨_, ho⟩ | ⟨row, e', ok, _⟩
      · exact ho
      · rw [e', (isRow_dL row).mpr ok] at e; cases e
    · rcases hc with ⟨h0, _⟩ | ⟨row', e', _, ⟨_, ho⟩ | ⟨k', e2, k1, k2, _⟩⟩
      · rw [e1, (isRow_dL row).mpr ok] at h0; cases h0
      · exact ho
      · rw [e1] at e'
        have e' := dL_inj e'
        subst e'
        rw [e2, int_ok (by omega) (by omega)] at e; cases e
  · rcases hc with ⟨_, ho⟩ | ⟨o, e', ok, _⟩
    · exact ho
    · rw [e', (isRow_dL o).mpr ok] at h0; cases h0

abbrev s_common_origin : Stmt := topS 30
theorem sc_common_origin : FnScope ["one", "first_width", "other", "second_width", "found", "a", "b"] ["one", "first_width", "other", "second_width"] (defScope s_common_origin) := ⟨rfl, rfl, rfl, by decide +kernel, rfl, by decide +kernel, by decide +kernel⟩
/-- for low rows and widths of origins of one length -/
def hasBoth (a : List Int) (j : Nat) (b : List Int) (k : Nat) : Prop := lowsN (bothN (leastN a j) (leastN b k)) j = a ∧ lowsN (bothN (leastN a j) (leastN b k)) k = b
instance (a : List Int) (j : Nat) (b : List Int) (k : Nat) : Decidable (hasBoth a j b k) := inferInstanceAs (Decidable (_ ∧ _))
theorem ws_rlI {F : FC} {ks : List SK} {ms : Mem} {D : DE} {body : List Int → Nat → Out → Prop} {d w : PyData} {out : Out} {u : TS} {i j : Nat} (hR : RL body [d, w] out) (h0 : ks[i]? = some (.d d)) (h1 : ks[j]? = some (.d w)) (hx : ∀ e, out = .exc e → F.ex e)
    (h : ∀ (row : List Int) (k : Nat), d = dL row → w = .int (k : Int) → okRow row → 1 ≤ k → k + row.length ≤ 13 → body row k out → WS F u ks ms D) :
    WS F (tSeq (tDrop (tCall (SpD F.g R_check_low) [] F.E (tCons (tVar i) (tCons (tVar j) tNil)))) u) ks ms D := by
  obtain ⟨d', w', e, hs, hc⟩ := hR
  injection e with e1 e2
  injection e2 with e2 _
  subst e1 e2
  have raise : ∀ e : Exn, out = .exc e → R_check_low [d, w] (.exc e) → WS F (tSeq (tDrop (tCall (SpD F.g R_check_low) [] F.E (tCons (tVar i) (tCons (tVar j) tNil)))) u) ks ms D := fun e ho hr =>
    ws_seq (ws_drop (ev_callX (ea_cons (ev_var h0 (ea_cons (ev_var h1 (ea_nil ⟨e, hr, hx e ho⟩)))))))
  rcases hc with ⟨h2, ho⟩ | ⟨row, rfl, ok, ⟨h2, ho⟩ | ⟨k, rfl, k1, k2, hb⟩⟩
  · exact raise .row ho ⟨_, _, rfl, hs, .inl ⟨h2, rfl⟩⟩
  · exact raise .width ho ⟨_, _, rfl, hs, .inr ⟨row, rfl, ok, .inl ⟨h2, rfl⟩⟩⟩
  · exact ws_seq (ws_drop (ev_call (ea_cons (ev_var h0 (ea_cons (ev_var h1 (ea_nil ⟨_, RL.ok ok k1 k2 rfl, h row k rfl rfl ok k1 k2 hb⟩)))))))
def R_common_origin : List PyData → Out → Prop := fun ds out => ∃ x u y v, ds = [x, u, y, v] ∧ RL (fun a j out => RL (fun b k out => (a.length + j ≠ b.length + k ∧ out = .exc .width) ∨ (a.length + j = b.length + k ∧ out = if hasBoth a j b k then .ret (dL (bothN (leastN a j) (leastN b k))) else .exc .gone)) [y, v] out) [x, u] out
theorem len_common_origin : ∀ ds out, R_common_origin ds out → ds.length = 4 := by
  rintro _ _ ⟨_, _, _, _, rfl, _⟩; rfl
set_option maxHeartbeats 4000000 in
theorem ok_common_origin (Df : Def K mg "common_origin" s_common_origin ["one", "first_width", "other", "second_width"]) (B : Bt mg) (x_BadWidth : ExT K mg "BadWidth" (g .width)) (x_NotFound : ExT K mg "NotFound" (g .gone)) (n_check_low : Ent P w K mg base "check_low" ["row", "width"] 4 (SpD g R_check_low)) (n_lowest_origin : Ent P w K mg base "lowest_origin" ["row", "width"] 1 (SpD g R_lowest_origin)) (n_lows : Ent P w K mg base "lows" ["row", "width"] 1 (SpD g R_lows)) : Ent P w K mg base "common_origin" ["one", "first_width", "other", "second_width"] 5 (SpD g R_common_origin) := Df.ent fun f fd Fn => by
  refine fn_data (k := 4) Fn sc_common_origin (len_common_origin) (by decide) fun cdv A outer s H E hr => ⟨_, (pss_cons (ps_expr (pe_ent n_check_low hr (pass_own (takes_of rfl rfl rfl rfl)) (pa_cons (pv 0) (pa_cons (pv 1) pa_nil))))
      (pss_cons (ps_expr (pe_ent n_check_low hr (pass_own (takes_of rfl rfl rfl rfl)) (pa_cons (pv 2) (pa_cons (pv 3) pa_nil))))
      (pss_cons (ps_if (pt_cmpR L2.op_ne (pe_op L2.op_add (pe_callB (k_len (K := K)) (by rfl) B.b_len (by decide +kernel) (pa_cons (pv 0) pa_nil)) (pv 1)) (pe_op L2.op_add (pe_callB (k_len (K := K)) (by rfl) B.b_len (by decide +kernel) (pa_cons (pv 2) pa_nil)) (pv 3)) (nomark _)) (pss_one (ps_rz x_BadWidth (by rfl) (takes_of rfl rfl rfl rfl))) pss_nil)
      (pss_cons (ps_setLc (i := 4) (own := [("a", 5), ("b", 6)]) (tt := tYes) rfl sc_common_origin.nd rfl rfl (sw_true rfl rfl rfl (by decide +kernel)) (k_zip (K := K) (by rfl) B.b_zip (pa_cons (pe_ent n_lowest_origin hr (pass_own (takes_of rfl rfl rfl rfl)) (pa_cons (pv 0) (pa_cons (pv 1) pa_nil))) (pa_cons (pe_ent n_lowest_origin hr (pass_own (takes_of rfl rfl rfl rfl)) (pa_cons (pv 2) (pa_cons (pv 3) pa_nil))) pa_nil))) (blkOk_by (own := [("a", 5), ("b", 6)]) (N := ["one", "first_width", "other", "second_width", "found", "a", "b"]) (sc := defScope s_common_origin) (by decide +kernel)) (fun _ _ _ _ _ => (k_tg (K := K) (n := 2) rfl (pgs_cons (pg_name (i := 5) sc_common_origin.nd rfl (by first | exact Or.inl rfl | exact Or.inr rfl)) (pgs_cons (pg_name (i := 6) sc_common_origin.nd rfl (by first | exact Or.inl rfl | exact Or.inr rfl)) pgs_nil)))) (fun _ _ _ _ _ => pts_nil) (fun _ _ _ _ _ => (pe_callB (cr_max2 rfl) (by rfl) B.b_max (by decide +kernel) (pa_cons (pv 5) (pa_cons (pv 6) pa_nil)))))
      (pss_cons (ps_if (PW.pt (pw_or (pt_cmpR (k_neD (K := K) hr.units) (pe_ent n_lows hr (pass_own (takes_of rfl rfl rfl rfl)) (pa_cons (pv 4) (pa_cons (pv 1) pa_nil))) (pv 0) (nomark _)) (pw_or1 (pt_cmpR (k_neD (K := K) hr.units) (pe_ent n_lows hr (pass_own (takes_of rfl rfl rfl rfl)) (pa_cons (pv 4) (pa_cons (pv 3) pa_nil))) (pv 2) (nomark _))))) (pss_one (ps_rz x_NotFound (by rfl) (takes_of rfl rfl rfl rfl))) pss_nil)
      (pss_one (ps_ret (pv 4)))))))), fun C0 H0 ds out hE hR => ?_⟩
  obtain ⟨x, u, y, v, rfl, hR⟩ := hR
  show WS _ _ [.d x, .d u, .d y, .d v, .un, .un, .un] [] _
  refine ws_rlI (F := mkF g C0 H0 E out hE) hR rfl rfl (fun _ z => z) fun a j e1 e2 oka j1 j2 hR2 => ?_
  subst e1 e2
  refine ws_rlI (F := mkF g C0 H0 E out hE) hR2 rfl rfl (fun _ z => z) fun b k e1 e2 okb k1 k2 hb => ?_
  subst e1 e2
  have a1 := oka.1
  have b1 := okb.1
  walk_at "w"
  by_cases hl : a.length + j = b.length + k
  case neg =>
    rcases hb with ⟨_, ho⟩ | ⟨z, _⟩
    · exact c_tt (by simp; omega) (ws_raise (F := mkF g C0 H0 E out hE) (e := .width) ho)
    · exact absurd z hl
  have ho : out = if hasBoth a j b k then .ret (dL (bothN (leastN a j) (leastN b k))) else .exc .gone := by
    rcases hb with ⟨z, _⟩ | ⟨_, ho⟩
    · exact absurd hl z
    · exact ho
  refine c_tf (by simp; omega) (ws_next ?_)
  walk_at "w"
  refine ev_lcF dP ?_
  walk_at "w"
  refine ⟨_, ⟨a, j, rfl, a1, j1, by omega, rfl⟩, ?_⟩
  walk_at "w"
  refine ⟨_, ⟨b, k, rfl, b1, k1, by omega, rfl⟩, ?_⟩
  have e1 := leastN_len a j
  have e2 := leastN_len b k
  have e3 := bothN_len (a := leastN a j) (b := leastN b k) (by omega)
  walk_at "w"
  refine ⟨_, _, rfl, (leastN a j).zip (leastN b k), fun p => .int (max p.1 p.2), zipI _ _, by rw [List.length_zip]; omega, fun p _ => ⟨_, sg_pair (by decide) (by decide), ?_⟩, ?_⟩
  · walk_at "w"
    rfl
  rw [show (PyData.list (((leastN a j).zip (leastN b k)).map fun p => PyData.int (max p.1 p.2))) = dL (bothN (leastN a j) (leastN b k)) by unfold dL bothN; rw [List.map_map]; rfl]
  walk_at "w"
  refine ⟨_, ⟨_, j, rfl, j1, by omega, by omega, rfl⟩, ?_⟩
  walk_at "w"
  by_cases h : hasBoth a j b k
  · rw [if_pos h] at ho
    refine c_ff (by rw [h.1]; simp) ?_
    walk_at "w"
    refine ⟨_, ⟨_, k, rfl, k1, by omega, by omega, rfl⟩, ?_⟩
    walk_at "w"
    refine c_tf (by rw [h.2]; simp) (ws_next ?_)
    walk_at "w"
    exact ho
  · rw [if_neg h] at ho
    refine ⟨fun h1 => ?_, fun h1 => ?_⟩
    · walk_at "w"
      refine ⟨_, ⟨_, k, rfl, k1, by omega, by omega, rfl⟩, ?_⟩
      walk_at "w"
      refine c_tt ?_ (ws_raise (F := mkF g C0 H0 E out hE) (e := .gone) ho)
      have h1 : lowsN (bothN (leastN a j) (leastN b k)) j = a := by simpa using h1
      have h2 : ¬ lowsN (bothN (leastN a j) (leastN b k)) k = b := fun z => h ⟨h1, z⟩
      simp [h2]
    · exact c_tt rfl (ws_raise (F := mkF g C0 H0 E out hE) (e := .gone) ho)

abbrev s_check_pair : Stmt := topS 34
theorem sc_check_pair : FnScope ["low", "high", "width"] ["low", "high", "width"] (defScope s_check_pair) := ⟨rfl, rfl, rfl, by decide +kernel, rfl, by decide +kernel, by decide +kernel⟩
/-- a def of two rows and a width that checks them as a pair -/
def RP (body : List Int → List Int → Nat → Out → Prop) : List PyData → Out → Prop := fun ds out => ∃ a b w, ds = [a, b, w] ∧ Sz a ∧ Sz b ∧ ((isRowD a = false ∧ out = .exc .row) ∨ ∃ low, a = dL low ∧ okRow low ∧ ((isRowD b = false ∧ out = .exc .row) ∨ ∃ high, b = dL high ∧ okRow high ∧
  (((low.length ≠ high.length ∨ 5 < maxL low ∨ 5 < maxL high) ∧ out = .exc .row) ∨ ((low.length = high.length ∧ maxL low ≤ 5 ∧ maxL high ≤ 5) ∧ ((isIntD w 1 (8 - (low.length : Int)) = false ∧ out = .exc .width) ∨ ∃ k : Nat, w = .int (k : Int) ∧ 1 ≤ k ∧ k + low.length ≤ 8 ∧ body low high k out)))))
theorem RP.len {body : List Int → List Int → Nat → Out → Prop} : ∀ ds out, RP body ds out → ds.length = 3 := by
  rintro _ _ ⟨_, _, _, rfl, _⟩; rfl
theorem RP.ok {body : List Int → List Int → Nat → Out → Prop} {low high : List Int} {k : Nat} {out : Out} (ha : okRow low) (hb : okRow high) (hl : low.length = high.length) (h1 : maxL low ≤ 5) (h2 : maxL high ≤ 5) (k1 : 1 ≤ k) (k2 : k + low.length ≤ 8) (h : body low high k out) : RP body [dL low, dL high, .int (k : Int)] out :=
  ⟨_, _, _, rfl, ha.sz, hb.sz, .inr ⟨low, rfl, ha, .inr ⟨high, rfl, hb, .inr ⟨⟨hl, h1, h2⟩, .inr ⟨k, rfl, k1, k2, h⟩⟩⟩⟩⟩
def R_check_pair : List PyData → Out → Prop := RP fun _ _ _ out => out = .ret .none
theorem len_check_pair : ∀ ds out, R_check_pair ds out → ds.length = 3 := RP.len
set_option maxHeartbeats 4000000 in
theorem ok_check_pair (Df : Def K mg "check_pair" s_check_pair ["low", "high", "width"]) (B : Bt mg) {t_MOST_SMALL : Tok} (k_MOST_SMALL : mg "MOST_SMALL" = some (.int 5 t_MOST_SMALL)) {t_MOST_SIZE : Tok} (k_MOST_SIZE : mg "MOST_SIZE" = some (.int 7 t_MOST_SIZE)) (x_BadRow : ExT K mg "BadRow" (g .row)) (x_BadWidth : ExT K mg "BadWidth" (g .width)) (n_check_row : Ent P w K mg base "check_row" ["value"] 3 (SpD g R_check_row)) (n_is_int : Ent P w K mg base "is_int" ["value", "low", "high"] 1 (SpD g R_is_int)) : Ent P w K mg base "check_pair" ["low", "high", "width"] 4 (SpD g R_check_pair) := Df.ent fun f fd Fn => by
  refine fn_data (k := 3) Fn sc_check_pair (len_check_pair) (by decide) fun cdv A outer s H E hr => ⟨_, (pss_cons (ps_expr (pe_ent n_check_row hr (pass_own (takes_of rfl rfl rfl rfl)) (pa_cons (pv 0) pa_nil)))
      (pss_cons (ps_expr (pe_ent n_check_row hr (pass_own (takes_of rfl rfl rfl rfl)) (pa_cons (pv 1) pa_nil)))
      (pss_cons (ps_if (PW.pt (pw_or (pt_cmpR L2.op_ne (pe_callB (k_len (K := K)) (by rfl) B.b_len (by decide +kernel) (pa_cons (pv 0) pa_nil)) (pe_callB (k_len (K := K)) (by rfl) B.b_len (by decide +kernel) (pa_cons (pv 1) pa_nil)) (nomark _)) (pw_or (pt_cmpR L2.op_gt (pe_callB (k_max (K := K)) (by rfl) B.b_max (by decide +kernel) (pa_cons (pv 0) pa_nil)) (pe_glob (v := .int 5) (by rfl) k_MOST_SMALL ⟨_, rfl⟩) (nomark _)) (pw_or1 (pt_cmpR L2.op_gt (pe_callB (k_max (K := K)) (by rfl) B.b_max (by decide +kernel) (pa_cons (pv 1) pa_nil)) (pe_glob (v := .int 5) (by rfl) k_MOST_SMALL ⟨_, rfl⟩) (nomark _)))))) (pss_one (ps_rz x_BadRow (by rfl) (takes_of rfl rfl rfl rfl))) pss_nil)
      (pss_one (ps_if (pt_not (pt_val (pe_ent n_is_int hr (pass_own (takes_of rfl rfl rfl rfl)) (pa_cons (pv 2) (pa_cons pe_int (pa_cons (pe_op L2.op_sub (pe_op L2.op_add (pe_glob (v := .int 7) (by rfl) k_MOST_SIZE ⟨_, rfl⟩) pe_int) (pe_callB (k_len (K := K)) (by rfl) B.b_len (by decide +kernel) (pa_cons (pv 0) pa_nil))) pa_nil)))))) (pss_one (ps_rz x_BadWidth (by rfl) (takes_of rfl rfl rfl rfl))) pss_nil))))), fun C0 H0 ds out hE hR => ?_⟩
  obtain ⟨a, b, w', rfl, sa, sb, hc⟩ := hR
  show WS _ _ [.d a, .d b, .d w'] [] _
  refine ws_cr (F := mkF g C0 H0 E out hE) rfl sa (fun low e ok => ?_) (fun e => ?_)
  · subst e
    have hc : (isRowD b = false ∧ out = .exc .row) ∨ ∃ high, b = dL high ∧ okRow high ∧ (((low.length ≠ high.length ∨ 5 < maxL low ∨ 5 < maxL high) ∧ out = .exc .row) ∨ ((low.length = high.length ∧ maxL low ≤ 5 ∧ maxL high ≤ 5) ∧ ((isIntD w' 1 (8 - (low.length : Int)) = false ∧ out = .exc .width) ∨ ∃ k : Nat, w' = .int (k : Int) ∧ 1 ≤ k ∧ k + low.length ≤ 8 ∧ out = .ret .none))) := by
      rcases hc with ⟨h0, _⟩ | ⟨row', e, _, hc⟩
      · rw [(isRow_dL low).mpr ok] at h0; cases h0
      · have e := dL_inj e
        subst e
        exact hc
    refine ws_cr (F := mkF g C0 H0 E out hE) rfl sb (fun high e okh => ?_) (fun e => ?_)
    · subst e
      have hc : ((low.length ≠ high.length ∨ 5 < maxL low ∨ 5 < maxL high) ∧ out = .exc .row) ∨ ((low.length = high.length ∧ maxL low ≤ 5 ∧ maxL high ≤ 5) ∧ ((isIntD w' 1 (8 - (low.length : Int)) = false ∧ out = .exc .width) ∨ ∃ k : Nat, w' = .int (k : Int) ∧ 1 ≤ k ∧ k + low.length ≤ 8 ∧ out = .ret .none)) := by
        rcases hc with ⟨h0, _⟩ | ⟨row', e, _, hc⟩
        · rw [(isRow_dL high).mpr okh] at h0; cases h0
        · have e := dL_inj e
          subst e
          exact hc
      have last : (low.length = high.length ∧ maxL low ≤ 5 ∧ maxL high ≤ 5) → (isIntD w' 1 (8 - (low.length : Int)) = false ∧ out = .exc .width) ∨ ∃ k : Nat, w' = .int (k : Int) ∧ 1 ≤ k ∧ k + low.length ≤ 8 ∧ out = .ret .none := fun h => by
        rcases hc with ⟨z, _⟩ | ⟨_, hc⟩
        · omega
        · exact hc
      have bad : (low.length ≠ high.length ∨ 5 < maxL low ∨ 5 < maxL high) → out = .exc .row := fun h => by
        rcases hc with ⟨_, hc⟩ | ⟨z, _⟩
        · exact hc
        · omega
      walk_at "w"
      by_cases c1 : low.length = high.length
      · refine c_ff (by rw [c1]; simp) ?_
        walk_at "w"
        refine on_max ok.ne ?_
        walk_at "w"
        by_cases c2 : 5 < maxL low
        · exact c_ft (decide_eq_true c2) (c_tt rfl (ws_raise (F := mkF g C0 H0 E out hE) (e := .row) (bad (.inr (.inl c2)))))
        refine c_ff (decide_eq_false c2) ?_
        walk_at "w"
        refine on_max okh.ne ?_
        walk_at "w"
        by_cases c3 : 5 < maxL high
        · exact c_tt (decide_eq_true c3) (ws_raise (F := mkF g C0 H0 E out hE) (e := .row) (bad (.inr (.inr c3))))
        refine c_tf (decide_eq_false c3) (ws_next ?_)
        have hc := last ⟨c1, by omega, by omega⟩
        walk_at "w"
        refine ⟨_, ⟨_, _, _, rfl, rfl⟩, _, rfl, fun h1 => ?_, fun h1 => ws_next ?_⟩
        · rcases hc with ⟨_, ho⟩ | ⟨k, rfl, k1, k2, _⟩
          · exact ws_raise (F := mkF g C0 H0 E out hE) (e := .width) ho
          · rw [int_ok (by omega) (by omega)] at h1; cases h1
        · rcases hc with ⟨h0, _⟩ | ⟨k, rfl, k1, k2, ho⟩
          · rw [show (7 : Int) + 1 - (low.length : Int) = 8 - (low.length : Int) by omega, h0] at h1; cases h1
          · exact ho
      · exact c_ft (by simp; omega) (c_tt rfl (ws_raise (F := mkF g C0 H0 E out hE) (e := .row) (bad (.inl c1))))
    · rcases hc with ⟨_, ho⟩ | ⟨row, e', ok, _⟩
      · exact ho
      · rw [e', (isRow_dL row).mpr ok] at e; cases e
  · rcases hc with ⟨_, ho⟩ | ⟨row, e', ok, _⟩
    · exact ho
    · rw [e', (isRow_dL row).mpr ok] at e; cases e
/-- check_pair(low, high, width), then the rest -/
theorem ws_rp {F : FC} {ks : List SK} {ms : Mem} {D : DE} {body : List Int → List Int → Nat → Out → Prop} {a b w : PyData} {out : Out} {u : TS} (hR : RP body [a, b, w] out) (h0 : ks[0]? = some (.d a)) (h1 : ks[1]? = some (.d b)) (h2 : ks[2]? = some (.d w)) (hx : ∀ e, out = .exc e → F.ex e)
    (h : ∀ (low high : List Int) (k : Nat), a = dL low → b = dL high → w = .int (k : Int) → okRow low → okRow high → low.length = high.length → maxL low ≤ 5 → maxL high ≤ 5 → 1 ≤ k → k + low.length ≤ 8 → body low high k out → WS F u ks ms D) :
    WS F (tSeq (tDrop (tCall (SpD F.g R_check_pair) [] F.E (tCons (tVar 0) (tCons (tVar 1) (tCons (tVar 2) tNil))))) u) ks ms D := by
  obtain ⟨a', b', w', e, sa, sb, hc⟩ := hR
  injection e with e1 e2
  injection e2 with e2 e3
  injection e3 with e3 _
  subst e1 e2 e3
  have raise : ∀ e : Exn, out = .exc e → R_check_pair [a, b, w] (.exc e) → WS F (tSeq (tDrop (tCall (SpD F.g R_check_pair) [] F.E (tCons (tVar 0) (tCons (tVar 1) (tCons (tVar 2) tNil))))) u) ks ms D := fun e ho hr =>
    ws_seq (ws_drop (ev_callX (ea_cons (ev_var h0 (ea_cons (ev_var h1 (ea_cons (ev_var h2 (ea_nil ⟨e, hr, hx e ho⟩)))))))))
  rcases hc with ⟨z, ho⟩ | ⟨low, rfl, ok, ⟨z, ho⟩ | ⟨high, rfl, okh, ⟨z, ho⟩ | ⟨z, ⟨z2, ho⟩ | ⟨k, rfl, k1, k2, hb⟩⟩⟩⟩
  · exact raise .row ho ⟨_, _, _, rfl, sa, sb, .inl ⟨z, rfl⟩⟩
  · exact raise .row ho ⟨_, _, _, rfl, sa, sb, .inr ⟨low, rfl, ok, .inl ⟨z, rfl⟩⟩⟩
  · exact raise .row ho ⟨_, _, _, rfl, sa, sb, .inr ⟨low, rfl, ok, .inr ⟨high, rfl, okh, .inl ⟨z, rfl⟩⟩⟩⟩
  · exact raise .width ho ⟨_, _, _, rfl, sa, sb, .inr ⟨low, rfl, ok, .inr ⟨high, rfl, okh, .inr ⟨z, .inl ⟨z2, rfl⟩⟩⟩⟩⟩
  · exact ws_seq (ws_drop (ev_call (ea_cons (ev_var h0 (ea_cons (ev_var h1 (ea_cons (ev_var h2 (ea_nil ⟨_, RP.ok ok okh z.1 z.2.1 z.2.2 k1 k2 rfl, h low high k rfl rfl rfl ok okh z.1 z.2.1 z.2.2 k1 k2 hb⟩)))))))))

abbrev s_grown : Stmt := topS 35
theorem sc_grown : FnScope ["low", "high", "width", "row", "first", "window", "place", "bottom", "top", "found", "value"] ["low", "high", "width", "row"] (defScope s_grown) := ⟨rfl, rfl, rfl, by decide +kernel, rfl, by decide +kernel, by decide +kernel⟩
--KIND rec
--SPD
--SP (SpD g (R_grown 9))
def R_grown : Nat → List PyData → Out → Prop
  | 0 => fun _ _ => False
  | m + 1 => fun ds out => ∃ (low high : List Int) (k mo : Nat) (row : List Int), ds = [dL low, dL high, .int (k : Int), dL row] ∧ 1 ≤ k ∧ 1 ≤ low.length ∧ low.length = high.length ∧ low.length + k ≤ 14 ∧ row.length + 1 ≤ low.length + k ∧ low.length + k - 1 - row.length ≤ m ∧ (∀ x ∈ low, 0 ≤ x ∧ x ≤ 9) ∧ (∀ x ∈ high, 0 ≤ x ∧ x ≤ (mo : Int)) ∧ mo ≤ 9 ∧ (mo + 1) ^ (low.length + k - 1) ≤ 50000 ∧ (∀ f, f + k < row.length → winOk low high k row f) ∧ out = .ret (dLL (grN low high k (low.length + k - 1 - row.length) row))
theorem len_grown : ∀ m ds out, R_grown m ds out → ds.length = 4
  | 0, _, _, h => h.elim
  | m + 1, _, _, h => by obtain ⟨_, _, _, _, _, rfl, _⟩ := h; rfl
theorem allP_len (n m : Nat) : (allP n m).length = (m + 1) ^ n := by
  induction n with
  | zero => rfl
  | succ n ih =>
    have h : ∀ xs : List Nat, (xs.flatMap fun v : Nat => (allP n m).map fun r => (v : Int) :: r).length = xs.length * (m + 1) ^ n := fun xs => by
      induction xs with
      | nil => simp
      | cons x xs ih2 => rw [List.flatMap_cons, List.length_append, ih2, List.length_map, ih, List.length_cons, Nat.succ_mul, Nat.add_comm]
    show ((List.range (m + 1)).flatMap _).length = _
    rw [h, List.length_range, Nat.pow_succ, Nat.mul_comm]
theorem gr_len {low high : List Int} {k mo : Nat} (hk : 1 ≤ k) (h1 : 1 ≤ low.length) (hl : low.length = high.length) (hlo : ∀ x ∈ low, 0 ≤ x) (hhi : ∀ x ∈ high, x ≤ (mo : Int)) {m : Nat} {row : List Int} (hn : row.length + m + 1 = low.length + k) (hp : ∀ f, f + k < row.length → winOk low high k row f) : (grN low high k m row).length ≤ (mo + 1) ^ m := by
  rw [gr_all hk h1 hl hlo hhi m row hn hp, List.length_map]
  exact Nat.le_trans (List.length_filter_le _ _) (by rw [allP_len]; exact Nat.le_refl _)
theorem gr_end {low high : List Int} {k m : Nat} {row : List Int} (h : okEnd low high k row = false) : grN low high k m row = [] := by
  cases m with
  | zero => show (if _ then _ else _) = _; rw [h]; rfl
  | succ m => show (if _ then _ else _) = _; rw [h]; rfl
set_option maxHeartbeats 4000000 in
theorem ok_grown_rec (Df : Def K mg "grown" s_grown ["low", "high", "width", "row"]) (B : Bt mg) : ∀ m : Nat, Ent P w K mg base "grown" ["low", "high", "width", "row"] (3 + m) (SpD g (R_grown m)) := by
  intro m
  induction m
  · exact ent_noD Df
  rename_i m n_grown
  refine Df.ent fun f fd Fn => ?_
  refine fn_data (k := 3 + m) Fn sc_grown (len_grown (m + 1)) (by decide) fun cdv A outer s H E hr => ⟨_, (pss_cons (ps_set (i := 4) sc_grown.nd rfl (by first | exact Or.inl rfl | exact Or.inr rfl) (pe_op L2.op_sub (pe_callB (k_len (K := K)) (by rfl) B.b_len (by decide +kernel) (pa_cons (pv 3) pa_nil)) (pv 2)))
      (pss_cons (ps_if (pt_cmpR L2.op_ge (pv 4) pe_int (nomark _)) (pss_cons (ps_set (i := 5) sc_grown.nd rfl (by first | exact Or.inl rfl | exact Or.inr rfl) (pe_slice (k_slL (K := K)) (pv 3) (po_some (pv 4)) po_none))
      (pss_one (ps_if (PW.pt (pw_or (pt_cmpR L2.op_ne (pe_callB (k_min (K := K)) (by rfl) B.b_min (by decide +kernel) (pa_cons (pv 5) pa_nil)) (pe_ix (k_ixL (K := K)) (pv 0) (pv 4) (fun _ _ => rfl)) (nomark _)) (pw_or1 (pt_cmpR L2.op_ne (pe_callB (k_max (K := K)) (by rfl) B.b_max (by decide +kernel) (pa_cons (pv 5) pa_nil)) (pe_ix (k_ixL (K := K)) (pv 1) (pv 4) (fun _ _ => rfl)) (nomark _))))) (pss_one (ps_ret (pe_lst pa_nil))) pss_nil))) pss_nil)
      (pss_cons (ps_if (pt_cmpR L2.op_eq (pe_callB (k_len (K := K)) (by rfl) B.b_len (by decide +kernel) (pa_cons (pv 3) pa_nil)) (pe_op L2.op_sub (pe_op L2.op_add (pe_callB (k_len (K := K)) (by rfl) B.b_len (by decide +kernel) (pa_cons (pv 0) pa_nil)) (pv 2)) pe_int) (nomark _)) (pss_one (ps_ret (pe_lst (pa_cons (pv 3) pa_nil)))) pss_nil)
      (pss_cons (ps_set (i := 6) sc_grown.nd rfl (by first | exact Or.inl rfl | exact Or.inr rfl) (pe_callB (k_len (K := K)) (by rfl) B.b_len (by decide +kernel) (pa_cons (pv 3) pa_nil)))
      (pss_cons (ps_set (i := 7) sc_grown.nd rfl (by first | exact Or.inl rfl | exact Or.inr rfl) (pe_callB (k_max (K := K)) (by rfl) B.b_max (by decide +kernel) (pa_cons (pe_slice (k_slL (K := K)) (pv 0) (po_some (pe_callB (cr_max2 rfl) (by rfl) B.b_max (by decide +kernel) (pa_cons pe_int (pa_cons (pe_op L2.op_add (pe_op L2.op_sub (pv 6) (pv 2)) pe_int) pa_nil)))) (po_some (pe_op L2.op_add (pv 6) pe_int))) pa_nil)))
      (pss_cons (ps_set (i := 8) sc_grown.nd rfl (by first | exact Or.inl rfl | exact Or.inr rfl) (pe_callB (k_min (K := K)) (by rfl) B.b_min (by decide +kernel) (pa_cons (pe_slice (k_slL (K := K)) (pv 1) (po_some (pe_callB (cr_max2 rfl) (by rfl) B.b_max (by decide +kernel) (pa_cons pe_int (pa_cons (pe_op L2.op_add (pe_op L2.op_sub (pv 6) (pv 2)) pe_int) pa_nil)))) (po_some (pe_op L2.op_add (pv 6) pe_int))) pa_nil)))
      (pss_cons (ps_set (i := 9) sc_grown.nd rfl (by first | exact Or.inl rfl | exact Or.inr rfl) (pe_lst pa_nil))
      (pss_cons (ps_for (passes_of rfl) rfl (pi_range2 (by rfl) B.b_range (pa_cons (pv 7) (pa_cons (pe_op L2.op_add (pv 8) pe_int) pa_nil))) (pg_name (i := 10) sc_grown.nd rfl (by first | exact Or.inl rfl | exact Or.inr rfl)) (pss_one (ps_aug (i := 9) sc_grown.nd rfl (by first | exact Or.inl rfl | exact Or.inr rfl) (pe_ent n_grown hr (pass_own (takes_of rfl rfl rfl rfl)) (pa_cons (pv 0) (pa_cons (pv 1) (pa_cons (pv 2) (pa_cons (pe_op L2.op_cat (pv 3) (pe_lst (pa_cons (pv 10) pa_nil))) pa_nil)))) (hj := by omega)) ip_ext)))
      (pss_one (ps_ret (pv 9))))))))))), fun C0 H0 ds out hE hR => ?_⟩
  obtain ⟨low, high, k, mo, row, rfl, k1, l1, hl, hn, hr, hm, hlo, hhi, m9, pw, hp, rfl⟩ := hR
  show WS _ _ [.d (dL low), .d (dL high), .d (.int (k : Int)), .d (dL row), .un, .un, .un, .un, .un, .un, .un] [] _
  have l2 : low.length ≤ 13 := by omega
  refine ws_seq (ws_asg (ev_op (ev_cb (ea_cons (ev_var rfl (ea_nil (on_lenM (ev_var rfl (op_int ?_)))))))))
  refine ws_inv (fun ks ms => ms = [] ∧ okEnd low high k row = true ∧ ∃ y, ks = [.d (dL low), .d (dL high), .d (.int (k : Int)), .d (dL row), .d (.int ((row.length : Int) - (k : Int))), y, .un, .un, .un, .un, .un]) ?_ ?_
  · walk_at "w"
    by_cases hk : k ≤ row.length
    · refine c_tt (by simp; omega) ?_
      have dne : row.drop (row.length - k) ≠ [] := fun z => by
        have := congrArg List.length z
        rw [List.length_drop] at this
        simp at this
        omega
      have ce : cut row (some ((row.length : Int) - (k : Int))) none = row.drop (row.length - k) := by
        rw [show (row.length : Int) - (k : Int) = ((row.length - k : Nat) : Int) by omega, cut_from]
      walk_at "w"
      rw [ce]
      refine on_min dne ?_
      walk_at "w"
      refine op_ixL (atI_map (f := PyData.int) (atI_getD (j := row.length - k) (by omega) (by omega) 0)) ?_
      walk_at "w"
      by_cases c1 : minL (row.drop (row.length - k)) = low.getD (row.length - k) 0
      · refine c_ff (by rw [c1]; simp) ?_
        walk_at "w"
        refine on_max dne ?_
        walk_at "w"
        refine op_ixL (atI_map (f := PyData.int) (atI_getD (j := row.length - k) (by omega) (by omega) 0)) ?_
        walk_at "w"
        by_cases c2 : maxL (row.drop (row.length - k)) = high.getD (row.length - k) 0
        · refine c_tf (by rw [c2]; simp) (ws_next ⟨rfl, ?_, _, rfl⟩)
          unfold okEnd
          rw [decide_eq_true c1, decide_eq_true c2]
          simp
        · refine c_tt (by rw [decide_eq_false c2]; rfl) ?_
          walk_at "w"
          show _ = _
          rw [gr_end]
          · rfl
          · unfold okEnd
            rw [decide_eq_false c2, decide_eq_false (show ¬ row.length < k by omega)]
            simp
      · refine c_ft (by rw [decide_eq_false c1]; rfl) (c_tt rfl ?_)
        walk_at "w"
        show _ = _
        rw [gr_end]
        · rfl
        · unfold okEnd
          rw [decide_eq_false c1, decide_eq_false (show ¬ row.length < k by omega)]
          simp
    · refine c_tf (by simp; omega) (ws_next ⟨rfl, ?_, _, rfl⟩)
      unfold okEnd
      rw [decide_eq_true (show row.length < k by omega), Bool.true_or]
  rintro _ _ ⟨rfl, hE, y, rfl⟩
  walk_at "w"
  by_cases he : row.length + 1 = low.length + k
  · refine c_tt (by simp; omega) ?_
    walk_at "w"
    show _ = _
    rw [show low.length + k - 1 - row.length = 0 by omega]
    show Out.ret (dLL (if okEnd low high k row = true then [row] else [])) = _
    rw [if_pos hE]
    rfl
  refine c_tf (by simp; omega) (ws_next ?_)
  obtain ⟨j, ej⟩ : ∃ j, low.length + k - 1 - row.length = j + 1 := ⟨low.length + k - 1 - row.length - 1, by omega⟩
  have pf : ∀ f, f + k ≤ row.length → winOk low high k row f := fun f hf => by
    by_cases hfe : f + k = row.length
    · have := okEnd_iff.mp hE (by omega)
      rw [show row.length - k = f by omega] at this
      exact this
    · exact hp f (by omega)
  have pf2 : ∀ v : Int, ∀ f, f + k < (row ++ [v]).length → winOk low high k (row ++ [v]) f := fun v f hf => by
    rw [List.length_append] at hf
    have := pf f (by simp at hf; omega)
    unfold winOk at this ⊢
    rw [win_pre (by simp at hf; omega)]
    exact this
  have hp' : row.length < low.length + k - 1 := by omega
  walk_at "w"
  rw [show cut low (some (max 0 ((row.length : Int) - (k : Int) + 1))) (some ((row.length : Int) + 1)) = (low.drop (row.length + 1 - k)).take (row.length + 1 - (row.length + 1 - k)) by
    rw [show max 0 ((row.length : Int) - (k : Int) + 1) = ((row.length + 1 - k : Nat) : Int) by omega, show (row.length : Int) + 1 = ((row.length + 1 : Nat) : Int) by omega, cut_nat]]
  refine on_max (take_drop_ne k1 (by omega) hp') ?_
  walk_at "w"
  rw [show cut high (some (max 0 ((row.length : Int) - (k : Int) + 1))) (some ((row.length : Int) + 1)) = (high.drop (row.length + 1 - k)).take (row.length + 1 - (row.length + 1 - k)) by
    rw [show max 0 ((row.length : Int) - (k : Int) + 1) = ((row.length + 1 - k : Nat) : Int) by omega, show (row.length : Int) + 1 = ((row.length + 1 : Nat) : Int) by omega, cut_nat]]
  refine on_min (take_drop_ne k1 (by omega) (by omega)) ?_
  rw [show maxL ((low.drop (row.length + 1 - k)).take (row.length + 1 - (row.length + 1 - k))) = leastAt low k row.length from rfl, show minL ((high.drop (row.length + 1 - k)).take (row.length + 1 - (row.length + 1 - k))) = topAt high k row.length from rfl]
  obtain ⟨f, f1, f2, f3, _⟩ := (le_leastAt k1 (by omega) hp' _).mp (Int.le_refl (leastAt low k row.length))
  have b0 : 0 ≤ leastAt low k row.length := (le_leastAt k1 (by omega) hp' 0).mpr ⟨f, f1, f2, f3, (hlo _ (getD_mem f1)).1⟩
  have b9 : leastAt low k row.length ≤ 9 := (leastAt_le k1 (by omega) hp' 9).mpr fun f f1 _ _ => (hlo _ (getD_mem f1)).2
  have t0 : topAt high k row.length ≤ (mo : Int) := by
    have h1 := (topAt_le k1 (by omega) (by omega) _).mp (Int.le_refl (topAt high k row.length)) f (by omega) f2 f3
    have h2 := (hhi _ (getD_mem (show f < high.length by omega))).2
    omega
  have tn : 0 ≤ topAt high k row.length := (topAt_le k1 (by omega) (by omega) 0).mpr fun f f1 _ _ => (hhi _ (getD_mem f1)).1
  refine ws_seq (ws_asgM (ea_nil ⟨by decide, fun l hf => ?_⟩))
  refine ws_seq (ws_for (vs := [10]) ?_)
  walk_at "w"
  refine ⟨_, _, rfl, ⟨by omega, by omega, by omega, by omega⟩, ?_⟩
  rw [rangeD_len, show (topAt high k row.length + 1 - leastAt low k row.length).toNat = (topAt high k row.length - leastAt low k row.length + 1).toNat by omega]
  have glen : ∀ v : Int, (grN low high k j (row ++ [v])).length ≤ (mo + 1) ^ j := fun v => gr_len k1 l1 hl (fun x hx => (hlo x hx).1) (fun x hx => (hhi x hx).2) (by simp; omega) (pf2 v)
  have pj : (mo + 1) ^ (j + 1) ≤ (mo + 1) ^ (low.length + k - 1) := Nat.pow_le_pow_right (by omega) (by omega)
  have flen : ∀ i : Nat, ((List.range i).flatMap fun a : Nat => grN low high k j (row ++ [leastAt low k row.length + (a : Int)])).length ≤ i * (mo + 1) ^ j := fun i => by
    induction i with
    | zero => simp
    | succ i ih =>
      rw [List.range_succ, List.flatMap_append, List.length_append, Nat.succ_mul, List.flatMap_cons, List.flatMap_nil, List.append_nil]
      have := glen (leastAt low k row.length + (i : Int))
      omega
  refine ⟨fun i ks ms => i ≤ (topAt high k row.length - leastAt low k row.length + 1).toNat ∧ ms = [(l, .l (((List.range i).flatMap fun a : Nat => grN low high k j (row ++ [leastAt low k row.length + (a : Int)])).map dL))] ∧ ∃ x, ks = [.d (dL low), .d (dL high), .d (.int (k : Int)), .d (dL row), .d (.int ((row.length : Int) - (k : Int))), y, .d (.int (row.length : Int)), .d (.int (leastAt low k row.length)), .d (.int (topAt high k row.length)), .v (.ref l), x], ⟨Nat.zero_le _, rfl, _, rfl⟩, ?_, ?_⟩
  · rintro i d _ _ hd ⟨_, rfl, x, rfl⟩
    obtain ⟨hi, rfl⟩ := rangeD_get hd
    refine ⟨_, sg_name (by decide), ?_⟩
    refine ws_extH rfl hf ?_
    walk_at "w"
    refine op_cat (by simp; omega) ?_
    rw [show (PyData.list (row.map PyData.int ++ [PyData.int (leastAt low k row.length + (i : Int))])) = dL (row ++ [leastAt low k row.length + (i : Int)]) by unfold dL; rw [List.map_append]; rfl]
    walk_at "w"
    have hmj : ∃ m', m = m' + 1 := ⟨m - 1, by omega⟩
    obtain ⟨m', rfl⟩ := hmj
    refine ⟨_, ⟨low, high, k, mo, row ++ [leastAt low k row.length + (i : Int)], rfl, k1, l1, hl, hn, by simp; omega, by simp; omega, hlo, hhi, m9, pw, pf2 _, rfl⟩, ?_⟩
    rw [show low.length + k - 1 - (row ++ [leastAt low k row.length + (i : Int)]).length = j by simp; omega]
    have g1 := glen (leastAt low k row.length + (i : Int))
    have g2 := flen i
    have g3 : (i + 1) * (mo + 1) ^ j ≤ (mo + 1) * (mo + 1) ^ j := Nat.mul_le_mul (by omega) (Nat.le_refl _)
    rw [Nat.succ_mul] at g3
    rw [Nat.pow_succ, Nat.mul_comm] at pj
    refine ⟨_, rfl, by rw [List.length_map, List.length_map]; omega, hi, ?_, _, rfl⟩
    rw [List.range_succ, List.flatMap_append, List.map_append]
    simp
  · rintro _ _ ⟨_, rfl, x, rfl⟩
    refine ws_freezeH (i := 9) rfl hf ?_
    walk_at "w"
    show _ = _
    rw [ej]
    show Out.ret (dLL (if okEnd low high k row = true then _ else [])) = _
    rw [if_pos hE]
theorem ok_grown (Df : Def K mg "grown" s_grown ["low", "high", "width", "row"]) (B : Bt mg) : Ent P w K mg base "grown" ["low", "high", "width", "row"] 12 (SpD g (R_grown 9)) := ok_grown_rec Df B 9

abbrev s_rows_with_both : Stmt := topS 36
theorem sc_rows_with_both : FnScope ["low", "high", "width"] ["low", "high", "width"] (defScope s_rows_with_both) := ⟨rfl, rfl, rfl, by decide +kernel, rfl, by decide +kernel, by decide +kernel⟩
def grA (low high : List Int) (k : Nat) : List (List Int) := grN low high k (low.length + k - 1) []
def SmlB (low high : List Int) (k : Nat) : Prop := ∃ mo : Nat, (∀ x ∈ high, x ≤ (mo : Int)) ∧ mo ≤ 9 ∧ (mo + 1) ^ (low.length + k - 1) ≤ 50000
theorem grown_at {low high : List Int} {k : Nat} (oka : okRow low) (okb : okRow high) (hl : low.length = high.length) (k1 : 1 ≤ k) (k2 : k + low.length ≤ 8) (hs : SmlB low high k) : R_grown 9 [dL low, dL high, .int (k : Int), dL []] (.ret (dLL (grA low high k))) := by
  obtain ⟨mo, h1, h2, h3⟩ := hs
  have := oka.1
  exact ⟨low, high, k, mo, [], rfl, k1, this, hl, by omega, by simp; omega, by simp; omega, oka.2.2, fun x hx => ⟨(okb.2.2 x hx).1, h1 x hx⟩, h2, h3, fun f hf => by simp at hf, rfl⟩
theorem grA_len {low high : List Int} {k : Nat} (oka : okRow low) (hl : low.length = high.length) (k1 : 1 ≤ k) (hs : SmlB low high k) : (grA low high k).length ≤ 50000 := by
  obtain ⟨mo, h1, h2, h3⟩ := hs
  have := oka.1
  exact Nat.le_trans (gr_len k1 this hl (fun x hx => (oka.2.2 x hx).1) h1 (by simp; omega) (fun f hf => by simp at hf)) h3
theorem grA_mem {low high o : List Int} {k : Nat} (oka : okRow low) (hl : low.length = high.length) (k1 : 1 ≤ k) (hs : SmlB low high k) (h : o ∈ grA low high k) : o.length = low.length + k - 1 := by
  obtain ⟨mo, h1, h2, h3⟩ := hs
  have := oka.1
  unfold grA at h
  rw [gr_all k1 this hl (fun x hx => (oka.2.2 x hx).1) h1 _ [] (by simp; omega) (fun f hf => by simp at hf)] at h
  obtain ⟨x, hx, rfl⟩ := List.mem_map.mp h
  exact (mem_allP.mp (List.mem_filter.mp hx).1).1
def R_rows_with_both : List PyData → Out → Prop := RP fun low high k out => SmlB low high k ∧ out = .ret (dLL (grA low high k))
theorem len_rows_with_both : ∀ ds out, R_rows_with_both ds out → ds.length = 3 := RP.len
set_option maxHeartbeats 4000000 in
theorem ok_rows_with_both (Df : Def K mg "rows_with_both" s_rows_with_both ["low", "high", "width"]) (B : Bt mg) (n_check_pair : Ent P w K mg base "check_pair" ["low", "high", "width"] 4 (SpD g R_check_pair)) (n_grown : Ent P w K mg base "grown" ["low", "high", "width", "row"] 12 (SpD g (R_grown 9))) : Ent P w K mg base "rows_with_both" ["low", "high", "width"] 13 (SpD g R_rows_with_both) := Df.ent fun f fd Fn => by
  refine fn_data (k := 12) Fn sc_rows_with_both (len_rows_with_both) (by decide) fun cdv A outer s H E hr => ⟨_, (pss_cons (ps_expr (pe_ent n_check_pair hr (pass_own (takes_of rfl rfl rfl rfl)) (pa_cons (pv 0) (pa_cons (pv 1) (pa_cons (pv 2) pa_nil)))))
      (pss_one (ps_ret (pe_ent n_grown hr (pass_own (takes_of rfl rfl rfl rfl)) (pa_cons (pv 0) (pa_cons (pv 1) (pa_cons (pv 2) (pa_cons (pe_lst pa_nil) pa_nil)))))))), fun C0 H0 ds out hE hR => ?_⟩
  obtain ⟨a, b, w', rfl, _⟩ := id hR
  show WS _ _ [.d a, .d b, .d w'] [] _
  refine ws_rp (F := mkF g C0 H0 E out hE) hR rfl rfl rfl (fun _ z => z) fun low high k e1 e2 e3 oka okb hl l5 h5 k1 k2 hb => ?_
  subst e1 e2 e3
  obtain ⟨hs, rfl⟩ := hb
  walk_at "w"
  exact ⟨_, grown_at oka okb hl k1 k2 hs, rfl⟩

abbrev s_count_with_both : Stmt := topS 37
theorem sc_count_with_both : FnScope ["low", "high", "width"] ["low", "high", "width"] (defScope s_count_with_both) := ⟨rfl, rfl, rfl, by decide +kernel, rfl, by decide +kernel, by decide +kernel⟩
def R_count_with_both : List PyData → Out → Prop := RP fun low high k out => SmlB low high k ∧ out = .ret (.int ((grA low high k).length : Int))
theorem len_count_with_both : ∀ ds out, R_count_with_both ds out → ds.length = 3 := RP.len
set_option maxHeartbeats 4000000 in
theorem ok_count_with_both (Df : Def K mg "count_with_both" s_count_with_both ["low", "high", "width"]) (B : Bt mg) (n_check_pair : Ent P w K mg base "check_pair" ["low", "high", "width"] 4 (SpD g R_check_pair)) (n_grown : Ent P w K mg base "grown" ["low", "high", "width", "row"] 12 (SpD g (R_grown 9))) : Ent P w K mg base "count_with_both" ["low", "high", "width"] 13 (SpD g R_count_with_both) := Df.ent fun f fd Fn => by
  refine fn_data (k := 12) Fn sc_count_with_both (len_count_with_both) (by decide) fun cdv A outer s H E hr => ⟨_, (pss_cons (ps_expr (pe_ent n_check_pair hr (pass_own (takes_of rfl rfl rfl rfl)) (pa_cons (pv 0) (pa_cons (pv 1) (pa_cons (pv 2) pa_nil)))))
      (pss_one (ps_ret (pe_callB (k_len (K := K)) (by rfl) B.b_len (by decide +kernel) (pa_cons (pe_ent n_grown hr (pass_own (takes_of rfl rfl rfl rfl)) (pa_cons (pv 0) (pa_cons (pv 1) (pa_cons (pv 2) (pa_cons (pe_lst pa_nil) pa_nil))))) pa_nil))))), fun C0 H0 ds out hE hR => ?_⟩
  obtain ⟨a, b, w', rfl, _⟩ := id hR
  show WS _ _ [.d a, .d b, .d w'] [] _
  refine ws_rp (F := mkF g C0 H0 E out hE) hR rfl rfl rfl (fun _ z => z) fun low high k e1 e2 e3 oka okb hl l5 h5 k1 k2 hb => ?_
  subst e1 e2 e3
  obtain ⟨hs, rfl⟩ := hb
  have gl := grA_len oka hl k1 hs
  walk_at "w"
  refine ⟨_, grown_at oka okb hl k1 k2 hs, ?_⟩
  walk_at "w"
  rfl

abbrev s_first_with_both : Stmt := topS 38
theorem sc_first_with_both : FnScope ["low", "high", "width", "found"] ["low", "high", "width"] (defScope s_first_with_both) := ⟨rfl, rfl, rfl, by decide +kernel, rfl, by decide +kernel, by decide +kernel⟩
def R_first_with_both : List PyData → Out → Prop := RP fun low high k out => SmlB low high k ∧ ((grA low high k = [] ∧ out = .exc .gone) ∨ ∃ o, (grA low high k)[0]? = some o ∧ out = .ret (dL o))
theorem len_first_with_both : ∀ ds out, R_first_with_both ds out → ds.length = 3 := RP.len
set_option maxHeartbeats 4000000 in
theorem ok_first_with_both (Df : Def K mg "first_with_both" s_first_with_both ["low", "high", "width"]) (B : Bt mg) (x_NotFound : ExT K mg "NotFound" (g .gone)) (n_check_pair : Ent P w K mg base "check_pair" ["low", "high", "width"] 4 (SpD g R_check_pair)) (n_grown : Ent P w K mg base "grown" ["low", "high", "width", "row"] 12 (SpD g (R_grown 9))) : Ent P w K mg base "first_with_both" ["low", "high", "width"] 13 (SpD g R_first_with_both) := Df.ent fun f fd Fn => by
  refine fn_data (k := 12) Fn sc_first_with_both (len_first_with_both) (by decide) fun cdv A outer s H E hr => ⟨_, (pss_cons (ps_expr (pe_ent n_check_pair hr (pass_own (takes_of rfl rfl rfl rfl)) (pa_cons (pv 0) (pa_cons (pv 1) (pa_cons (pv 2) pa_nil)))))
      (pss_cons (ps_set (i := 3) sc_first_with_both.nd rfl (by first | exact Or.inl rfl | exact Or.inr rfl) (pe_ent n_grown hr (pass_own (takes_of rfl rfl rfl rfl)) (pa_cons (pv 0) (pa_cons (pv 1) (pa_cons (pv 2) (pa_cons (pe_lst pa_nil) pa_nil))))))
      (pss_cons (ps_if (pt_cmpR (k_eqD (K := K) hr.units) (pv 3) (pe_lst pa_nil) (nomark _)) (pss_one (ps_rz x_NotFound (by rfl) (takes_of rfl rfl rfl rfl))) pss_nil)
      (pss_one (ps_ret (pe_ix (k_ixL (K := K)) (pv 3) pe_int (fun _ _ => rfl))))))), fun C0 H0 ds out hE hR => ?_⟩
  obtain ⟨a, b, w', rfl, _⟩ := id hR
  show WS _ _ [.d a, .d b, .d w', .un] [] _
  refine ws_rp (F := mkF g C0 H0 E out hE) hR rfl rfl rfl (fun _ z => z) fun low high k e1 e2 e3 oka okb hl l5 h5 k1 k2 hb => ?_
  subst e1 e2 e3
  obtain ⟨hs, hb⟩ := hb
  have gl := grA_len oka hl k1 hs
  walk_at "w"
  refine ⟨_, grown_at oka okb hl k1 k2 hs, ?_⟩
  walk_at "w"
  refine op_eq0 (sh_dLL _) (by decide) ?_
  refine ⟨_, rfl, fun h1 => ?_, fun h1 => ws_next ?_⟩
  · rw [List.isEmpty_iff] at h1
    rcases hb with ⟨_, hb⟩ | ⟨o, hr, _⟩
    · exact ws_raise (F := mkF g C0 H0 E out hE) (e := .gone) hb
    · rw [h1] at hr; simp at hr
  obtain ⟨o, hr, hb⟩ : ∃ o, (grA low high k)[0]? = some o ∧ out = .ret (dL o) := by
    rcases hb with ⟨z, _⟩ | hb
    · rw [z] at h1; cases h1
    · exact hb
  subst hb
  walk_at "w"
  refine op_ixL (d := dL o) (atI_map (f := dL) (i := ((0 : Nat) : Int)) (atI_nat hr)) rfl

abbrev s_row_with_both : Stmt := topS 39
theorem sc_row_with_both : FnScope ["low", "high", "width", "rank", "found"] ["low", "high", "width", "rank"] (defScope s_row_with_both) := ⟨rfl, rfl, rfl, by decide +kernel, rfl, by decide +kernel, by decide +kernel⟩
def R_row_with_both : List PyData → Out → Prop := fun ds out => ∃ a b w y, ds = [a, b, w, y] ∧ RP (fun low high k out => SmlB low high k ∧ ((isIntD y 0 (((grA low high k).length : Int) - 1) = false ∧ out = .exc .number) ∨ ∃ (r : Nat) (o : List Int), y = .int (r : Int) ∧ (grA low high k)[r]? = some o ∧ out = .ret (dL o))) [a, b, w] out
theorem len_row_with_both : ∀ ds out, R_row_with_both ds out → ds.length = 4 := by
  rintro _ _ ⟨_, _, _, _, rfl, _⟩; rfl
set_option maxHeartbeats 4000000 in
theorem ok_row_with_both (Df : Def K mg "row_with_both" s_row_with_both ["low", "high", "width", "rank"]) (B : Bt mg) (x_BadNumber : ExT K mg "BadNumber" (g .number)) (n_check_pair : Ent P w K mg base "check_pair" ["low", "high", "width"] 4 (SpD g R_check_pair)) (n_grown : Ent P w K mg base "grown" ["low", "high", "width", "row"] 12 (SpD g (R_grown 9))) (n_is_int : Ent P w K mg base "is_int" ["value", "low", "high"] 1 (SpD g R_is_int)) : Ent P w K mg base "row_with_both" ["low", "high", "width", "rank"] 13 (SpD g R_row_with_both) := Df.ent fun f fd Fn => by
  refine fn_data (k := 12) Fn sc_row_with_both (len_row_with_both) (by decide) fun cdv A outer s H E hr => ⟨_, (pss_cons (ps_expr (pe_ent n_check_pair hr (pass_own (takes_of rfl rfl rfl rfl)) (pa_cons (pv 0) (pa_cons (pv 1) (pa_cons (pv 2) pa_nil)))))
      (pss_cons (ps_set (i := 4) sc_row_with_both.nd rfl (by first | exact Or.inl rfl | exact Or.inr rfl) (pe_ent n_grown hr (pass_own (takes_of rfl rfl rfl rfl)) (pa_cons (pv 0) (pa_cons (pv 1) (pa_cons (pv 2) (pa_cons (pe_lst pa_nil) pa_nil))))))
      (pss_cons (ps_if (pt_not (pt_val (pe_ent n_is_int hr (pass_own (takes_of rfl rfl rfl rfl)) (pa_cons (pv 3) (pa_cons pe_int (pa_cons (pe_op L2.op_sub (pe_callB (k_len (K := K)) (by rfl) B.b_len (by decide +kernel) (pa_cons (pv 4) pa_nil)) pe_int) pa_nil)))))) (pss_one (ps_rz x_BadNumber (by rfl) (takes_of rfl rfl rfl rfl))) pss_nil)
      (pss_one (ps_ret (pe_ix (k_ixL (K := K)) (pv 4) (pv 3) (fun _ _ => rfl))))))), fun C0 H0 ds out hE hR => ?_⟩
  obtain ⟨a, b, w', y, rfl, hR⟩ := hR
  show WS _ _ [.d a, .d b, .d w', .d y, .un] [] _
  refine ws_rp (F := mkF g C0 H0 E out hE) hR rfl rfl rfl (fun _ z => z) fun low high k e1 e2 e3 oka okb hl l5 h5 k1 k2 hb => ?_
  subst e1 e2 e3
  obtain ⟨hs, hb⟩ := hb
  have gl := grA_len oka hl k1 hs
  walk_at "w"
  refine ⟨_, grown_at oka okb hl k1 k2 hs, ?_⟩
  walk_at "w"
  refine ⟨_, ⟨_, _, _, rfl, rfl⟩, _, rfl, fun h1 => ?_, fun h1 => ws_next ?_⟩
  · rw [Bool.not_eq_true'] at h1
    rcases hb with ⟨_, hb⟩ | ⟨r, o, rfl, hr, _⟩
    · exact ws_raise (F := mkF g C0 H0 E out hE) (e := .number) hb
    · have := (List.getElem?_eq_some_iff.mp hr).1
      rw [int_ok (by omega) (by omega)] at h1
      cases h1
  rw [Bool.not_eq_false'] at h1
  obtain ⟨r, o, rfl, hr, hb⟩ : ∃ (r : Nat) (o : List Int), y = .int (r : Int) ∧ (grA low high k)[r]? = some o ∧ out = .ret (dL o) := by
    rcases hb with ⟨z, _⟩ | hb
    · rw [z] at h1; cases h1
    · exact hb
  subst hb
  walk_at "w"
  refine op_ixL (d := dL o) (atI_map (f := dL) (atI_nat hr)) rfl

abbrev s_sure_values : Stmt := topS 40
theorem sc_sure_values : FnScope ["low", "high", "width", "found", "sure", "place", "values", "row"] ["low", "high", "width"] (defScope s_sure_values) := ⟨rfl, rfl, rfl, by decide +kernel, rfl, by decide +kernel, by decide +kernel⟩
def sureN (rows : List (List Int)) (n : Nat) : List PyData := (List.range n).map fun p : Nat => if minL (rows.map fun r => r.getD p 0) = maxL (rows.map fun r => r.getD p 0) then .int ((rows.map fun r => r.getD p 0).getD 0 0) else .none
def R_sure_values : List PyData → Out → Prop := RP fun low high k out => SmlB low high k ∧ ((grA low high k = [] ∧ out = .exc .gone) ∨ (grA low high k ≠ [] ∧ out = .ret (.list (sureN (grA low high k) (low.length + k - 1)))))
theorem len_sure_values : ∀ ds out, R_sure_values ds out → ds.length = 3 := RP.len
set_option maxHeartbeats 4000000 in
theorem ok_sure_values (Df : Def K mg "sure_values" s_sure_values ["low", "high", "width"]) (B : Bt mg) (x_NotFound : ExT K mg "NotFound" (g .gone)) (n_check_pair : Ent P w K mg base "check_pair" ["low", "high", "width"] 4 (SpD g R_check_pair)) (n_grown : Ent P w K mg base "grown" ["low", "high", "width", "row"] 12 (SpD g (R_grown 9))) : Ent P w K mg base "sure_values" ["low", "high", "width"] 13 (SpD g R_sure_values) := Df.ent fun f fd Fn => by
  refine fn_data (k := 12) Fn sc_sure_values (len_sure_values) (by decide) fun cdv A outer s H E hr => ⟨_, (pss_cons (ps_expr (pe_ent n_check_pair hr (pass_own (takes_of rfl rfl rfl rfl)) (pa_cons (pv 0) (pa_cons (pv 1) (pa_cons (pv 2) pa_nil)))))
      (pss_cons (ps_set (i := 3) sc_sure_values.nd rfl (by first | exact Or.inl rfl | exact Or.inr rfl) (pe_ent n_grown hr (pass_own (takes_of rfl rfl rfl rfl)) (pa_cons (pv 0) (pa_cons (pv 1) (pa_cons (pv 2) (pa_cons (pe_lst pa_nil) pa_nil))))))
      (pss_cons (ps_if (pt_cmpR (k_eqD (K := K) hr.units) (pv 3) (pe_lst pa_nil) (nomark _)) (pss_one (ps_rz x_NotFound (by rfl) (takes_of rfl rfl rfl rfl))) pss_nil)
      (pss_cons (ps_set (i := 4) sc_sure_values.nd rfl (by first | exact Or.inl rfl | exact Or.inr rfl) (pe_lst pa_nil))
      (pss_cons (ps_for (passes_of rfl) rfl (pi_range1 (by rfl) B.b_range (pa_cons (pe_callB (k_len (K := K)) (by rfl) B.b_len (by decide +kernel) (pa_cons (pe_ix (k_ixL (K := K)) (pv 3) pe_int (fun _ _ => rfl)) pa_nil)) pa_nil)) (pg_name (i := 5) sc_sure_values.nd rfl (by first | exact Or.inl rfl | exact Or.inr rfl)) (pss_cons (ps_setLc (i := 6) (own := [("row", 7)]) (tt := tYes) rfl sc_sure_values.nd rfl rfl (sw_true rfl rfl rfl (by decide +kernel)) (k_list (K := K) (pv 3)) (blkOk_by (own := [("row", 7)]) (N := ["low", "high", "width", "found", "sure", "place", "values", "row"]) (sc := defScope s_sure_values) (by decide +kernel)) (fun _ _ _ _ _ => (pg_name (i := 7) sc_sure_values.nd rfl (by first | exact Or.inl rfl | exact Or.inr rfl))) (fun _ _ _ _ _ => pts_nil) (fun _ _ _ _ _ => (pe_ix (k_ixL (K := K)) (pv 7) (pv 5) (fun _ _ => rfl))))
      (pss_one (ps_expr (k_bm (K := K) PySem.F.plainAttrs_list PySem.F.slot_list_append PySem.F.type_list_append L2.mt_append (pv 4) (pa_cons (pe_ifExp (pt_cmpR L2.op_eq (pe_callB (k_min (K := K)) (by rfl) B.b_min (by decide +kernel) (pa_cons (pv 6) pa_nil)) (pe_callB (k_max (K := K)) (by rfl) B.b_max (by decide +kernel) (pa_cons (pv 6) pa_nil)) (nomark _)) (pe_ix (k_ixL (K := K)) (pv 6) pe_int (fun _ _ => rfl)) pe_non) pa_nil))))))
      (pss_one (ps_ret (pv 4)))))))), fun C0 H0 ds out hE hR => ?_⟩
  obtain ⟨a, b, w', rfl, _⟩ := id hR
  show WS _ _ [.d a, .d b, .d w', .un, .un, .un, .un, .un] [] _
  refine ws_rp (F := mkF g C0 H0 E out hE) hR rfl rfl rfl (fun _ z => z) fun low high k e1 e2 e3 oka okb hl l5 h5 k1 k2 hb => ?_
  subst e1 e2 e3
  obtain ⟨hs, hb⟩ := hb
  have gl := grA_len oka hl k1 hs
  have gm := fun o (h : o ∈ grA low high k) => grA_mem oka hl k1 hs h
  walk_at "w"
  refine ⟨_, grown_at oka okb hl k1 k2 hs, ?_⟩
  walk_at "w"
  refine op_eq0 (sh_dLL _) (by decide) ?_
  refine ⟨_, rfl, fun h1 => ?_, fun h1 => ws_next ?_⟩
  · rw [List.isEmpty_iff] at h1
    rcases hb with ⟨_, hb⟩ | ⟨z, _⟩
    · exact ws_raise (F := mkF g C0 H0 E out hE) (e := .gone) hb
    · exact absurd h1 z
  obtain ⟨ne, hb⟩ : grA low high k ≠ [] ∧ out = .ret (.list (sureN (grA low high k) (low.length + k - 1))) := by
    rcases hb with ⟨z, _⟩ | hb
    · rw [z] at h1; cases h1
    · exact hb
  subst hb
  obtain ⟨o, hr⟩ : ∃ o, (grA low high k)[0]? = some o := by
    cases h : grA low high k with
    | nil => exact absurd h ne
    | cons x xs => exact ⟨x, rfl⟩
  have ol := gm o (List.mem_of_getElem? hr)
  refine ws_seq (ws_asgM (ea_nil ⟨by decide, fun l hf => ?_⟩))
  refine ws_seq (ws_for (vs := [5]) ?_)
  walk_at "w"
  refine op_ixL (d := dL o) (atI_map (f := dL) (i := ((0 : Nat) : Int)) (atI_nat hr)) ?_
  walk_at "w"
  refine ⟨by omega, by omega, ?_⟩
  rw [show ((o.length : Nat) : Int).toNat = low.length + k - 1 by omega, rangeD_len]
  refine ⟨fun i ks ms => i ≤ low.length + k - 1 ∧ ms = [(l, .l (sureN (grA low high k) i))] ∧ ∃ x y z, ks = [.d (dL low), .d (dL high), .d (.int (k : Int)), .d (dLL (grA low high k)), .v (.ref l), x, y, z], ⟨Nat.zero_le _, rfl, _, _, _, rfl⟩, ?_, ?_⟩
  · rintro i d _ _ hd ⟨_, rfl, x, y, z, rfl⟩
    obtain ⟨hi, rfl⟩ := rangeD_get hd
    refine ⟨_, sg_name (by decide), ?_⟩
    refine ws_seq (ws_asg (ev_lcF dL ?_))
    walk_at "w"
    refine ⟨grA low high k, fun r => .int (r.getD i 0), rfl, by omega, fun r hr => ⟨_, sg_name (by decide), ?_⟩, ?_⟩
    · walk_at "w"
      refine op_ixL (atI_map (f := PyData.int) (atI_getD (j := i) (by omega) (by rw [gm r hr]; omega) 0)) rfl
    rw [show (PyData.list ((grA low high k).map fun r => PyData.int (r.getD i 0))) = dL ((grA low high k).map fun r => r.getD i 0) by unfold dL; rw [List.map_map]; rfl]
    have vne : ((grA low high k).map fun r => r.getD i 0) ≠ [] := fun z => ne (List.map_eq_nil_iff.mp z)
    refine ws_appendH rfl hf (by unfold sureN; simp; omega) ?_
    walk_at "w"
    refine on_min vne ?_
    walk_at "w"
    refine on_max vne ?_
    walk_at "w"
    refine ev_both (if minL ((grA low high k).map fun r => r.getD i 0) = maxL ((grA low high k).map fun r => r.getD i 0) then .int (((grA low high k).map fun r => r.getD i 0).getD 0 0) else .none) (fun hb => ?_) (fun hb => ?_) ?_
    · rw [if_pos (of_decide_eq_true hb)]
      walk_at "w"
      exact op_ixL (atI_map (f := PyData.int) (atI_getD (j := 0) rfl (by have := List.length_pos_iff.mpr vne; omega) 0)) rfl
    · rw [if_neg (of_decide_eq_false hb)]
      walk_at "w"
      rfl
    · refine ⟨hi, ?_, _, _, _, rfl⟩
      unfold sureN
      rw [List.range_succ, List.map_append]
      rfl
  · rintro _ _ ⟨_, rfl, x, y, z, rfl⟩
    refine ws_freezeH (i := 4) rfl hf ?_
    walk_at "w"
    rfl

abbrev s_checked : Stmt := topS 42
theorem sc_checked : FnScope ["row"] ["row"] (defScope s_checked) := ⟨rfl, rfl, rfl, by decide +kernel, rfl, by decide +kernel, by decide +kernel⟩
def R_checked : List PyData → Out → Prop := RR fun row out => out = .ret (dL row)
theorem len_checked : ∀ ds out, R_checked ds out → ds.length = 1 := RR.len
set_option maxHeartbeats 4000000 in
theorem ok_checked (Df : Def K mg "checked" s_checked ["row"]) (B : Bt mg) (x_BadRow : ExT K mg "BadRow" (g .row)) (n_is_row : Ent P w K mg base "is_row" ["value"] 2 (SpD g R_is_row)) : Ent P w K mg base "checked" ["row"] 3 (SpD g R_checked) := Df.ent fun f fd Fn => by
  refine fn_data (k := 2) Fn sc_checked (len_checked) (by decide) fun cdv A outer s H E hr => ⟨_, (pss_cons (ps_if (pt_not (pt_val (pe_ent n_is_row hr (pass_own (takes_of rfl rfl rfl rfl)) (pa_cons (pv 0) pa_nil)))) (pss_one (ps_rz x_BadRow (by rfl) (takes_of rfl rfl rfl rfl))) pss_nil)
      (pss_one (ps_ret (pv 0)))), fun C0 H0 ds out hE hR => ?_⟩
  obtain ⟨d, rfl, hs, hc⟩ := hR
  show WS _ _ [.d d] [] _
  walk_at "w"
  refine ⟨_, ⟨_, rfl, hs, rfl⟩, _, rfl, fun h1 => ?_, fun h1 => ws_next ?_⟩
  · rcases hc with ⟨_, ho⟩ | ⟨row, e', ok, _⟩
    · exact ws_raise (F := mkF g C0 H0 E out hE) (e := .row) ho
    · rw [e', (isRow_dL row).mpr ok] at h1; cases h1
  · rcases hc with ⟨h0, _⟩ | ⟨row, rfl, ok, ho⟩
    · rw [h0] at h1; cases h1
    · walk_at "w"
      exact ho

abbrev s_backward : Stmt := topS 43
theorem sc_backward : FnScope ["row"] ["row"] (defScope s_backward) := ⟨rfl, rfl, rfl, by decide +kernel, rfl, by decide +kernel, by decide +kernel⟩
def R_backward : List PyData → Out → Prop := RR fun row out => out = .ret (dL row.reverse)
theorem len_backward : ∀ ds out, R_backward ds out → ds.length = 1 := RR.len
set_option maxHeartbeats 4000000 in
theorem ok_backward (Df : Def K mg "backward" s_backward ["row"]) (B : Bt mg) (n_check_row : Ent P w K mg base "check_row" ["value"] 3 (SpD g R_check_row)) : Ent P w K mg base "backward" ["row"] 4 (SpD g R_backward) := Df.ent fun f fd Fn => by
  refine fn_data (k := 3) Fn sc_backward (len_backward) (by decide) fun cdv A outer s H E hr => ⟨_, (pss_cons (ps_expr (pe_ent n_check_row hr (pass_own (takes_of rfl rfl rfl rfl)) (pa_cons (pv 0) pa_nil)))
      (pss_one (ps_ret (k_revL (K := K) (pv 0))))), fun C0 H0 ds out hE hR => ?_⟩
  refine ws_RR hR fun row ok hb => ?_
  subst hb
  walk_at "w"
  show _ = _
  unfold dL
  rw [List.map_reverse]

abbrev s_turned_over : Stmt := topS 44
theorem sc_turned_over : FnScope ["row", "value"] ["row"] (defScope s_turned_over) := ⟨rfl, rfl, rfl, by decide +kernel, rfl, by decide +kernel, by decide +kernel⟩
def R_turned_over : List PyData → Out → Prop := RR fun row out => out = .ret (dL (row.map fun v => 9 - v))
theorem len_turned_over : ∀ ds out, R_turned_over ds out → ds.length = 1 := RR.len
set_option maxHeartbeats 4000000 in
theorem ok_turned_over (Df : Def K mg "turned_over" s_turned_over ["row"]) (B : Bt mg) {t_MOST_VALUE : Tok} (k_MOST_VALUE : mg "MOST_VALUE" = some (.int 9 t_MOST_VALUE)) (n_check_row : Ent P w K mg base "check_row" ["value"] 3 (SpD g R_check_row)) : Ent P w K mg base "turned_over" ["row"] 4 (SpD g R_turned_over) := Df.ent fun f fd Fn => by
  refine fn_data (k := 3) Fn sc_turned_over (len_turned_over) (by decide) fun cdv A outer s H E hr => ⟨_, (pss_cons (ps_expr (pe_ent n_check_row hr (pass_own (takes_of rfl rfl rfl rfl)) (pa_cons (pv 0) pa_nil)))
      (pss_one (ps_ret (pe_lc (own := [("value", 1)]) (tt := tYes) rfl sc_turned_over.nd (k_list (K := K) (pv 0)) (blkOk_by (own := [("value", 1)]) (N := ["row", "value"]) (sc := defScope s_turned_over) (by decide +kernel)) (fun _ _ _ _ _ => (pg_name (i := 1) sc_turned_over.nd rfl (by first | exact Or.inl rfl | exact Or.inr rfl))) (fun _ _ _ _ _ => pts_nil) (fun _ _ _ _ _ => (pe_op L2.op_sub (pe_glob (v := .int 9) (by rfl) k_MOST_VALUE ⟨_, rfl⟩) (pv 1))))))), fun C0 H0 ds out hE hR => ?_⟩
  refine ws_RR hR fun row ok hb => ?_
  subst hb
  refine ws_ret (ev_lcF PyData.int ?_)
  walk_at "w"
  refine ⟨row, fun v => .int (9 - v), rfl, by have := ok.2.1; omega, fun v _ => ⟨_, sg_name (by decide), ?_⟩, ?_⟩
  · walk_at "w"
    rfl
  · show _ = _
    unfold dL
    rw [List.map_map]
    rfl

abbrev s_led : Stmt := topS 45
theorem sc_led : FnScope ["row", "table", "value", "k"] ["row", "table"] (defScope s_led) := ⟨rfl, rfl, rfl, by decide +kernel, rfl, by decide +kernel, by decide +kernel⟩
/-- a table that does not fall -/
def tabOk (ts : List Int) : Prop := ts.length = 10 ∧ (∀ t ∈ ts, 0 ≤ t ∧ t ≤ 9) ∧ ∀ i, i < 9 → ts.getD i 0 ≤ ts.getD (i + 1) 0
/-- not a table: no tuple, not ten, not integers from 0 to 9, or it falls -/
def badTab (d : PyData) : Prop := (∀ ts, d ≠ .tuple ts) ∨ ∃ ts, d = .tuple ts ∧ ts.length ≤ 1000 ∧ (ts.length ≠ 10 ∨ (ts.length = 10 ∧ ((ts.all fun t => isIntD t 0 9) = false ∨ ∃ ns : List Int, ts = ns.map PyData.int ∧ ((List.range 9).all fun i => decide (ns.getD i 0 ≤ ns.getD (i + 1) 0)) = false)))
def R_led : List PyData → Out → Prop := fun ds out => ∃ d tb, ds = [d, tb] ∧ Sz d ∧ ((isRowD d = false ∧ out = .exc .row) ∨ ∃ row, d = dL row ∧ okRow row ∧ ((badTab tb ∧ out = .exc .number) ∨ ∃ ts, tb = dT ts ∧ tabOk ts ∧ out = .ret (dL (row.map fun v => ts.getD v.toNat 0))))
theorem len_led : ∀ ds out, R_led ds out → ds.length = 2 := by
  rintro _ _ ⟨_, _, rfl, _⟩; rfl
theorem R_led_ok {row ts : List Int} (ok : okRow row) (ht : tabOk ts) : R_led [dL row, dT ts] (.ret (dL (row.map fun v => ts.getD v.toNat 0))) := ⟨_, _, rfl, ok.sz, .inr ⟨row, rfl, ok, .inr ⟨ts, rfl, ht, rfl⟩⟩⟩
theorem isiT_ff {d : PyData} (h : ∀ ts, d ≠ .tuple ts) : isiD "tuple" d = false := by
  cases d <;> first | rfl | exact absurd rfl (h _)
set_option maxHeartbeats 4000000 in
theorem ok_led (Df : Def K mg "led" s_led ["row", "table"]) (B : Bt mg) {t_MOST_VALUE : Tok} (k_MOST_VALUE : mg "MOST_VALUE" = some (.int 9 t_MOST_VALUE)) (x_BadNumber : ExT K mg "BadNumber" (g .number)) (n_check_row : Ent P w K mg base "check_row" ["value"] 3 (SpD g R_check_row)) (n_is_int : Ent P w K mg base "is_int" ["value", "low", "high"] 1 (SpD g R_is_int)) : Ent P w K mg base "led" ["row", "table"] 4 (SpD g R_led) := Df.ent fun f fd Fn => by
  refine fn_data (k := 3) Fn sc_led (len_led) (by decide) fun cdv A outer s H E hr => ⟨_, (pss_cons (ps_expr (pe_ent n_check_row hr (pass_own (takes_of rfl rfl rfl rfl)) (pa_cons (pv 0) pa_nil)))
      (pss_cons (ps_if (PW.pt (pw_or (pt_not (pt_val (pe_callB (k_isi (K := K)) (by rfl) B.b_isinstance (by decide +kernel) (pa_cons (pv 1) (pa_cons (pe_bltn (v := .ty "tuple") (by rfl) B.b_tuple (by decide +kernel) rfl) pa_nil))))) (pw_or1 (pt_cmpR L2.op_ne (pe_callB (k_len (K := K)) (by rfl) B.b_len (by decide +kernel) (pa_cons (pv 1) pa_nil)) (pe_op L2.op_add (pe_glob (v := .int 9) (by rfl) k_MOST_VALUE ⟨_, rfl⟩) pe_int) (nomark _))))) (pss_one (ps_rz x_BadNumber (by rfl) (takes_of rfl rfl rfl rfl))) pss_nil)
      (pss_cons (ps_if (pt_not (pt_val (pe_callB (k_all (K := K)) (by rfl) B.b_all (by decide +kernel) (pa_cons (pe_lc (own := [("value", 2)]) (tt := tYes) rfl sc_led.nd (k_tup (K := K) (pv 1)) (blkOk_by (own := [("value", 2)]) (N := ["row", "table", "value", "k"]) (sc := defScope s_led) (by decide +kernel)) (fun _ _ _ _ _ => (pg_name (i := 2) sc_led.nd rfl (by first | exact Or.inl rfl | exact Or.inr rfl))) (fun _ _ _ _ _ => pts_nil) (fun _ _ _ _ _ => (pe_ent n_is_int hr passL (pa_cons (pv 2) (pa_cons pe_int (pa_cons (pe_glob (v := .int 9) (by rfl) k_MOST_VALUE ⟨_, rfl⟩) pa_nil)))))) pa_nil)))) (pss_one (ps_rz x_BadNumber (by rfl) (takes_of rfl rfl rfl rfl))) pss_nil)
      (pss_cons (ps_if (pt_not (pt_val (pe_callB (k_all (K := K)) (by rfl) B.b_all (by decide +kernel) (pa_cons (pe_lc (own := [("k", 3)]) (tt := tYes) rfl sc_led.nd (pi_range1 (by rfl) B.b_range (pa_cons (pe_glob (v := .int 9) (by rfl) k_MOST_VALUE ⟨_, rfl⟩) pa_nil)) (blkOk_by (own := [("k", 3)]) (N := ["row", "table", "value", "k"]) (sc := defScope s_led) (by decide +kernel)) (fun _ _ _ _ _ => (pg_name (i := 3) sc_led.nd rfl (by first | exact Or.inl rfl | exact Or.inr rfl))) (fun _ _ _ _ _ => pts_nil) (fun _ _ _ _ _ => (pe_cmpR L2.op_le (pe_ix (k_ixT (K := K)) (pv 1) (pv 3) (fun _ _ => rfl)) (pe_ix (k_ixT (K := K)) (pv 1) (pe_op L2.op_add (pv 3) pe_int) (fun _ _ => rfl)) (nomark _)))) pa_nil)))) (pss_one (ps_rz x_BadNumber (by rfl) (takes_of rfl rfl rfl rfl))) pss_nil)
      (pss_one (ps_ret (pe_lc (own := [("value", 2)]) (tt := tYes) rfl sc_led.nd (k_list (K := K) (pv 0)) (blkOk_by (own := [("value", 2)]) (N := ["row", "table", "value", "k"]) (sc := defScope s_led) (by decide +kernel)) (fun _ _ _ _ _ => (pg_name (i := 2) sc_led.nd rfl (by first | exact Or.inl rfl | exact Or.inr rfl))) (fun _ _ _ _ _ => pts_nil) (fun _ _ _ _ _ => (pe_ix (k_ixT (K := K)) (pv 1) (pv 2) (fun _ _ => rfl)))))))))), fun C0 H0 ds out hE hR => ?_⟩
  obtain ⟨d, tb, rfl, hs, hc⟩ := hR
  show WS _ _ [.d d, .d tb, .un, .un] [] _
  refine ws_cr (F := mkF g C0 H0 E out hE) rfl hs (fun row e ok => ?_) (fun e => ?_)
  · subst e
    have hc : (badTab tb ∧ out = .exc .number) ∨ ∃ ts, tb = dT ts ∧ tabOk ts ∧ out = .ret (dL (row.map fun v => ts.getD v.toNat 0)) := by
      rcases hc with ⟨h0, _⟩ | ⟨row', e, _, hc⟩
      · rw [(isRow_dL row).mpr ok] at h0; cases h0
      · have e := dL_inj e
        subst e
        exact hc
    have hl := ok.2.1
    have rz : out = .exc .number → ∀ {ks ms D}, WS (mkF g C0 H0 E out hE) (tRz E (g .number)) ks ms D := fun ho {_ _ _} => ws_raise (F := mkF g C0 H0 E out hE) (e := .number) ho
    by_cases hT : ∃ ts, tb = .tuple ts
    · obtain ⟨ts, rfl⟩ := hT
      have hlen : ts.length ≤ 1000 := by
        rcases hc with ⟨hnt | ⟨ts', e, h, _⟩, _⟩ | ⟨ns, e, ht, _⟩
        · exact absurd rfl (hnt ts)
        · injection e with e; rw [e]; exact h
        · injection e with e; rw [e, List.length_map, ht.1]; decide
      walk_at "w"
      refine c_ff (by simp [isiD]) ?_
      walk_at "w"
      by_cases h10 : ts.length = 10
      · refine c_tf (by simp [h10]) (ws_next ?_)
        walk_at "w"
        refine ev_lcF (fun d : PyData => d) ?_
        walk_at "w"
        refine ⟨ts, fun t => .bool (isIntD t 0 9), by simp, by omega, fun t _ => ⟨_, sg_name (by decide), ?_⟩, ?_⟩
        · refine ev_call ?_
          walk_at "w"
          exact ⟨_, ⟨_, _, _, rfl, rfl⟩, rfl⟩
        have e1 : (PyData.list (ts.map fun t => PyData.bool (isIntD t 0 9))) = dB (ts.map fun t => isIntD t 0 9) := by
          unfold dB; rw [List.map_map]; rfl
        rw [e1]
        walk_at "w"
        rw [List.all_map]
        have ef : (ts.all (id ∘ fun t => isIntD t 0 9)) = ts.all rowItem := rfl
        rw [ef]
        cases ha : ts.all rowItem with
        | false =>
          refine c_tt (by rfl) (rz ?_)
          rcases hc with ⟨_, ho⟩ | ⟨ns, e, ht, _⟩
          · exact ho
          · injection e with e
            rw [e, List.all_map] at ha
            exfalso
            have : ns.all (rowItem ∘ PyData.int) = true := List.all_eq_true.mpr fun t hx => int_ok (ht.2.1 t hx).1 (ht.2.1 t hx).2
            rw [this] at ha
            cases ha
        | true =>
          obtain ⟨ns, rfl⟩ := ints_of ha
          rw [List.length_map] at h10
          refine c_tf (by rfl) (ws_next ?_)
          walk_at "w"
          refine ev_lcM ?_
          walk_at "w"
          refine ⟨by decide, by decide, ?_⟩
          rw [show (9 : Int).toNat = 9 from rfl, rangeD_len]
          refine ⟨by decide, fun i => .bool (decide (ns.getD i 0 ≤ ns.getD (i + 1) 0)), fun i d hd => ⟨_, sg_name (by decide), ?_⟩, ?_⟩
          · obtain ⟨hi, rfl⟩ := rangeD_get hd
            walk_at "w"
            refine op_ixT (atI_map (f := PyData.int) (atI_getD (j := i) (by omega) (by omega) 0)) ?_
            walk_at "w"
            refine op_ixT (atI_map (f := PyData.int) (atI_getD (j := i + 1) (by omega) (by omega) 0)) ?_
            walk_at "w"
            rfl
          have e2 : (PyData.list ((List.range 9).map fun i => PyData.bool (decide (ns.getD i 0 ≤ ns.getD (i + 1) 0)))) = dB ((List.range 9).map fun i => decide (ns.getD i 0 ≤ ns.getD (i + 1) 0)) := by
            unfold dB; rw [List.map_map]; rfl
          rw [e2]
          walk_at "w"
          rw [List.all_map]
          have ef2 : ((List.range 9).all (id ∘ fun i => decide (ns.getD i 0 ≤ ns.getD (i + 1) 0))) = (List.range 9).all fun i => decide (ns.getD i 0 ≤ ns.getD (i + 1) 0) := rfl
          rw [ef2]
          cases hm : (List.range 9).all fun i => decide (ns.getD i 0 ≤ ns.getD (i + 1) 0) with
          | false =>
            refine c_tt (by rfl) (rz ?_)
            rcases hc with ⟨_, ho⟩ | ⟨ns', e, ht, _⟩
            · exact ho
            · exfalso
              injection e with e
              have e := mapI_inj e
              subst e
              have : ((List.range 9).all fun i => decide (ns.getD i 0 ≤ ns.getD (i + 1) 0)) = true := List.all_eq_true.mpr fun i hi => decide_eq_true (ht.2.2 i (List.mem_range.mp hi))
              rw [this] at hm
              cases hm
          | true =>
            have ho : out = .ret (dL (row.map fun v => ns.getD v.toNat 0)) := by
              rcases hc with ⟨hnt | ⟨ts', e, _, hb⟩, ho⟩ | ⟨ns', e, ht, ho⟩
              · exact absurd rfl (hnt _)
              · exfalso
                injection e with e
                subst e
                rcases hb with hb | ⟨_, hb | ⟨ns', e, hb⟩⟩
                · rw [List.length_map] at hb; exact hb h10
                · have hb : (List.map PyData.int ns).all rowItem = false := hb
                  rw [ha] at hb; cases hb
                · have e := mapI_inj e
                  subst e
                  rw [hm] at hb; cases hb
              · injection e with e
                have e := mapI_inj e
                subst e
                exact ho
            refine c_tf (by rfl) (ws_next ?_)
            refine ws_ret (ev_lcF PyData.int ?_)
            walk_at "w"
            refine ⟨row, fun v => .int (ns.getD v.toNat 0), rfl, by omega, fun v hv => ⟨_, sg_name (by decide), ?_⟩, ?_⟩
            · have hvv := ok.2.2 v hv
              walk_at "w"
              exact op_ixT (atI_map (f := PyData.int) (atI_getD (j := v.toNat) (by omega) (by rw [h10]; omega) 0)) rfl
            · show out = _
              rw [ho]
              unfold dL
              rw [List.map_map]
              rfl
      · refine c_tt ?_ (rz ?_)
        · simp
          omega
        · rcases hc with ⟨_, ho⟩ | ⟨ns, e, ht, _⟩
          · exact ho
          · injection e with e
            rw [e, List.length_map] at h10
            exact absurd ht.1 h10
    · walk_at "w"
      rw [isiT_ff (fun ts e => hT ⟨ts, e⟩)]
      refine c_ft (by simp) ⟨fun _ => rz ?_, fun z => by cases z⟩
      rcases hc with ⟨_, ho⟩ | ⟨ns, e, _⟩
      · exact ho
      · exact absurd ⟨_, e⟩ hT
  · rcases hc with ⟨_, ho⟩ | ⟨row, e', ok, _⟩
    · exact ho
    · rw [e', (isRow_dL row).mpr ok] at e; cases e

abbrev s_part_of : Stmt := topS 46
theorem sc_part_of : FnScope ["row", "first", "last"] ["row", "first", "last"] (defScope s_part_of) := ⟨rfl, rfl, rfl, by decide +kernel, rfl, by decide +kernel, by decide +kernel⟩
def R_part_of : List PyData → Out → Prop := fun ds out => ∃ d x y, ds = [d, x, y] ∧ Sz d ∧ ((isRowD d = false ∧ out = .exc .row) ∨ ∃ row, d = dL row ∧ okRow row ∧
  ((isIntD x 0 ((row.length : Int) - 1) = false ∧ out = .exc .number) ∨ ∃ f : Nat, x = .int (f : Int) ∧ f < row.length ∧ ((isIntD y ((f : Int) + 1) row.length = false ∧ out = .exc .number) ∨ ∃ l : Nat, y = .int (l : Int) ∧ f < l ∧ l ≤ row.length ∧ out = .ret (dL ((row.drop f).take (l - f))))))
theorem len_part_of : ∀ ds out, R_part_of ds out → ds.length = 3 := by
  rintro _ _ ⟨_, _, _, rfl, _⟩; rfl
set_option maxHeartbeats 4000000 in
theorem ok_part_of (Df : Def K mg "part_of" s_part_of ["row", "first", "last"]) (B : Bt mg) (x_BadNumber : ExT K mg "BadNumber" (g .number)) (n_check_row : Ent P w K mg base "check_row" ["value"] 3 (SpD g R_check_row)) (n_is_int : Ent P w K mg base "is_int" ["value", "low", "high"] 1 (SpD g R_is_int)) : Ent P w K mg base "part_of" ["row", "first", "last"] 4 (SpD g R_part_of) := Df.ent fun f fd Fn => by
  refine fn_data (k := 3) Fn sc_part_of (len_part_of) (by decide) fun cdv A outer s H E hr => ⟨_, (pss_cons (ps_expr (pe_ent n_check_row hr (pass_own (takes_of rfl rfl rfl rfl)) (pa_cons (pv 0) pa_nil)))
      (pss_cons (ps_if (PW.pt (pw_or (pt_not (pt_val (pe_ent n_is_int hr (pass_own (takes_of rfl rfl rfl rfl)) (pa_cons (pv 1) (pa_cons pe_int (pa_cons (pe_op L2.op_sub (pe_callB (k_len (K := K)) (by rfl) B.b_len (by decide +kernel) (pa_cons (pv 0) pa_nil)) pe_int) pa_nil)))))) (pw_or1 (pt_not (pt_val (pe_ent n_is_int hr (pass_own (takes_of rfl rfl rfl rfl)) (pa_cons (pv 2) (pa_cons (pe_op L2.op_add (pv 1) pe_int) (pa_cons (pe_callB (k_len (K := K)) (by rfl) B.b_len (by decide +kernel) (pa_cons (pv 0) pa_nil)) pa_nil))))))))) (pss_one (ps_rz x_BadNumber (by rfl) (takes_of rfl rfl rfl rfl))) pss_nil)
      (pss_one (ps_ret (pe_slice (k_slL (K := K)) (pv 0) (po_some (pv 1)) (po_some (pv 2))))))), fun C0 H0 ds out hE hR => ?_⟩
  obtain ⟨d, x, y, rfl, hs, hc⟩ := hR
  show WS _ _ [.d d, .d x, .d y] [] _
  refine ws_cr (F := mkF g C0 H0 E out hE) rfl hs (fun row e ok => ?_) (fun e => ?_)
  · subst e
    have hc : (isIntD x 0 ((row.length : Int) - 1) = false ∧ out = .exc .number) ∨ ∃ f : Nat, x = .int (f : Int) ∧ f < row.length ∧ ((isIntD y ((f : Int) + 1) row.length = false ∧ out = .exc .number) ∨ ∃ l : Nat, y = .int (l : Int) ∧ f < l ∧ l ≤ row.length ∧ out = .ret (dL ((row.drop f).take (l - f)))) := by
      rcases hc with ⟨h0, _⟩ | ⟨row', e, _, hc⟩
      · rw [(isRow_dL row).mpr ok] at h0; cases h0
      · have e := dL_inj e
        subst e
        exact hc
    walk_at "w"
    refine ⟨_, ⟨_, _, _, rfl, rfl⟩, _, rfl, fun h1 => ?_, fun h1 => ?_⟩
    · have h1 : isIntD x 0 ((row.length : Int) - 1) = true := by simpa using h1
      rcases hc with ⟨h0, _⟩ | ⟨f, rfl, hf, hc⟩
      · rw [h0] at h1; cases h1
      · walk_at "w"
        refine ⟨_, ⟨_, _, _, rfl, rfl⟩, _, rfl, fun h2 => ?_, fun h2 => ws_next ?_⟩
        · rcases hc with ⟨_, ho⟩ | ⟨l, rfl, hl1, hl2, _⟩
          · exact ws_raise (F := mkF g C0 H0 E out hE) (e := .number) ho
          · rw [int_ok (by omega) (by omega)] at h2; cases h2
        · rcases hc with ⟨h0, _⟩ | ⟨l, rfl, hl1, hl2, ho⟩
          · rw [h0] at h2; cases h2
          · walk_at "w"
            show out = _
            rw [ho, cut_nat]
    · rcases hc with ⟨_, ho⟩ | ⟨f, rfl, hf, _⟩
      · exact ⟨fun _ => ws_raise (F := mkF g C0 H0 E out hE) (e := .number) ho, fun z => by cases z⟩
      · rw [int_ok (by omega) (by omega)] at h1; cases h1
  · rcases hc with ⟨_, ho⟩ | ⟨row, e', ok, _⟩
    · exact ho
    · rw [e', (isRow_dL row).mpr ok] at e; cases e

abbrev s_joined : Stmt := topS 47
theorem sc_joined : FnScope ["one", "other"] ["one", "other"] (defScope s_joined) := ⟨rfl, rfl, rfl, by decide +kernel, rfl, by decide +kernel, by decide +kernel⟩
def R_joined : List PyData → Out → Prop := fun ds out => ∃ d e, ds = [d, e] ∧ Sz d ∧ Sz e ∧ ((isRowD d = false ∧ out = .exc .row) ∨ (isRowD e = false ∧ out = .exc .row) ∨ ∃ a b, d = dL a ∧ e = dL b ∧ okRow a ∧ okRow b ∧ out = if a.length + b.length ≤ 12 then .ret (dL (a ++ b)) else .exc .row)
theorem len_joined : ∀ ds out, R_joined ds out → ds.length = 2 := by
  rintro _ _ ⟨_, _, rfl, _⟩; rfl
set_option maxHeartbeats 4000000 in
theorem ok_joined (Df : Def K mg "joined" s_joined ["one", "other"]) (B : Bt mg) (n_check_row : Ent P w K mg base "check_row" ["value"] 3 (SpD g R_check_row)) (n_checked : Ent P w K mg base "checked" ["row"] 3 (SpD g R_checked)) : Ent P w K mg base "joined" ["one", "other"] 4 (SpD g R_joined) := Df.ent fun f fd Fn => by
  refine fn_data (k := 3) Fn sc_joined (len_joined) (by decide) fun cdv A outer s H E hr => ⟨_, (pss_cons (ps_expr (pe_ent n_check_row hr (pass_own (takes_of rfl rfl rfl rfl)) (pa_cons (pv 0) pa_nil)))
      (pss_cons (ps_expr (pe_ent n_check_row hr (pass_own (takes_of rfl rfl rfl rfl)) (pa_cons (pv 1) pa_nil)))
      (pss_one (ps_ret (pe_ent n_checked hr (pass_own (takes_of rfl rfl rfl rfl)) (pa_cons (pe_op L2.op_cat (pv 0) (pv 1)) pa_nil)))))), fun C0 H0 ds out hE hR => ?_⟩
  obtain ⟨d, e, rfl, hs, hs2, hc⟩ := hR
  show WS _ _ [.d d, .d e] [] _
  refine ws_cr (F := mkF g C0 H0 E out hE) rfl hs (fun a e1 oka => ?_) (fun h0 => ?_)
  · subst e1
    refine ws_cr (F := mkF g C0 H0 E out hE) rfl hs2 (fun b e2 okb => ?_) (fun h0 => ?_)
    · subst e2
      have ho : out = if a.length + b.length ≤ 12 then .ret (dL (a ++ b)) else .exc .row := by
        rcases hc with ⟨h0, _⟩ | ⟨h0, _⟩ | ⟨a', b', e1, e2, _, _, ho⟩
        · rw [(isRow_dL a).mpr oka] at h0; cases h0
        · rw [(isRow_dL b).mpr okb] at h0; cases h0
        · rw [dL_inj e1, dL_inj e2]; exact ho
      have l1 := oka.2.1
      have l2 := okb.2.1
      refine ws_ret (ev_callB (F := mkF g C0 H0 E out hE) ?_)
      walk_at "w"
      refine op_cat (by simp; omega) ?_
      walk_at "w"
      have e3 : (PyData.list (List.map PyData.int a ++ List.map PyData.int b)) = dL (a ++ b) := by
        unfold dL; rw [List.map_append]
      rw [e3]
      by_cases hl : a.length + b.length ≤ 12
      · rw [if_pos hl] at ho
        exact ⟨.ret (dL (a ++ b)), RR.ok ⟨by rw [List.length_append]; have := oka.1; omega, by rw [List.length_append]; exact hl, fun x hx => (List.mem_append.mp hx).elim (oka.2.2 x) (okb.2.2 x)⟩ rfl, ho⟩
      · rw [if_neg hl] at ho
        refine ⟨.exc .row, ⟨_, rfl, sz_dL (by rw [List.length_append]; omega), .inl ⟨?_, rfl⟩⟩, ho⟩
        cases h : isRowD (dL (a ++ b)) with
        | false => rfl
        | true =>
          have := ((isRow_dL _).mp h).2.1
          rw [List.length_append] at this
          omega
    · rcases hc with ⟨_, ho⟩ | ⟨_, ho⟩ | ⟨a', b', _, e2, _, okb, _⟩
      · exact ho
      · exact ho
      · rw [e2, (isRow_dL b').mpr okb] at h0; cases h0
  · rcases hc with ⟨_, ho⟩ | ⟨_, ho⟩ | ⟨a', b', e1, _, oka, _, _⟩
    · exact ho
    · exact ho
    · rw [e1, (isRow_dL a').mpr oka] at h0; cases h0

abbrev s_Slider___init : Stmt := inClass (topS 49) 0
theorem sc_Slider___init : FnScope ["self", "width"] ["self", "width"] (defScope s_Slider___init) := ⟨rfl, rfl, rfl, by decide +kernel, rfl, by decide +kernel, by decide +kernel⟩
--KIND ini
--SP (SpIni Cc g fun d => isIntD d 1 12 = false)
set_option maxHeartbeats 4000000 in
theorem ok_Slider___init (Df : DefI K mg Cc "Slider" "Slider.__init__" s_Slider___init ["self", "width"]) (TS : TxS K Cc) (B : Bt mg) {t_MOST_VALUES : Tok} (k_MOST_VALUES : mg "MOST_VALUES" = some (.int 12 t_MOST_VALUES)) (x_BadWidth : ExT K mg "BadWidth" (g .width)) (n_is_int : Ent P w K mg base "is_int" ["value", "low", "high"] 1 (SpD g R_is_int)) : IEnt P w K mg base Cc "Slider" ["self", "width"] 2 (SpIni Cc g fun d => isIntD d 1 12 = false) := Df.ent fun f fd Fn => by
  refine fn_ini (k := 1) (Cc := Cc) (g := g) (Bad := fun d => isIntD d 1 12 = false) Fn sc_Slider___init rfl fun cdv Ar outer s H E hr => ⟨_, (pss_cons (ps_if (pt_not (pt_val (pe_ent n_is_int hr (pass_own (takes_of rfl rfl rfl rfl)) (pa_cons (pv 1) (pa_cons pe_int (pa_cons (pe_glob (v := .int 12) (by rfl) k_MOST_VALUES ⟨_, rfl⟩) pa_nil)))))) (pss_one (ps_rz x_BadWidth (by rfl) (takes_of rfl rfl rfl rfl))) pss_nil)
      (pss_cons (k_sfld (K := K) (pv 0) (pv 1) rfl)
      (pss_cons (k_sfld (K := K) (pv 0) (pe_lst pa_nil) rfl)
      (pss_cons (k_sfld (K := K) (pv 0) (pe_lst pa_nil) rfl)
      (pss_one (k_sfld (K := K) (pv 0) (pe_lst pa_nil) rfl)))))), fun C0 H0 x dx d hX => ?_⟩
  have T : TxS K Cc := TS
  walk_at "w"
  refine ⟨_, ⟨_, _, _, rfl, rfl⟩, _, rfl, fun h1 => ?_, fun h1 => ws_next ?_⟩
  · rw [Bool.not_eq_true'] at h1
    exact ws_raiseS (F := iniF g C0 H0 E x dx) (e := .width) fun σ H C r => hX _ σ H C h1 r
  rw [Bool.not_eq_false'] at h1
  obtain ⟨k, rfl, k1, k2⟩ := int_is h1
  exact ws_ini4 T rfl rfl rfl fun vi pa f1 f2 => ⟨k, vi, pa, rfl, k1, k2, f1, f2, rfl⟩

abbrev s_Slider_least : Stmt := inClass (topS 49) 2
theorem sc_Slider_least : FnScope ["self"] ["self"] (defScope s_Slider_least) := ⟨rfl, rfl, rfl, by decide +kernel, rfl, by decide +kernel, by decide +kernel⟩
--KIND sl
def R_Slider_least : List PyData → SlS → Out → SlS → Prop := fun ds S out S' => ∃ (k : Nat) (vs : List Int), ds = [] ∧ S = stN k vs ∧ 1 ≤ k ∧ vs.length ≤ 1000 ∧ out = .ret (leD k vs) ∧ S' = S
theorem len_Slider_least : ∀ ds S out S', R_Slider_least ds S out S' → ds.length + 1 = 1 := by
  rintro _ _ _ _ ⟨_, _, rfl, _⟩; rfl
set_option maxHeartbeats 4000000 in
theorem ok_Slider_least (Df : DefM K Cc "least" "Slider.least" s_Slider_least ["self"]) (TS : TxS K Cc) (B : Bt mg) : MEnt P w K mg base Cc "least" ["self"] 1 (SpSl Cc g R_Slider_least) := Df.ent fun f fd Fn => by
  refine fn_sl (k := 0) (Cc := Cc) (g := g) Fn sc_Slider_least (len_Slider_least) (by decide) fun cdv Ar outer s H E hr => ⟨_, (pss_cons (ps_if (pt_cmpR L2.op_lt (pe_callB (k_len (K := K)) (by rfl) B.b_len (by decide +kernel) (pa_cons (k_fld (K := K) (pv 0) rfl) pa_nil)) (k_fld (K := K) (pv 0) rfl) (nomark _)) (pss_one (ps_ret pe_non)) pss_nil)
      (pss_one (ps_ret (pe_ix (k_ixL (K := K)) (k_fld (K := K) (pv 0) rfl) (pe_ix (k_ixL (K := K)) (k_fld (K := K) (pv 0) rfl) pe_int (fun _ _ => rfl)) (fun _ _ => rfl))))), fun C0 H0 A S S' ds out nd hR hX => ?_⟩
  obtain ⟨k, vs, rfl, rfl, k1, hl, rfl, rfl⟩ := hR
  show WS _ _ [.v (.ref A.x)] (slM Cc A (stN k vs)) _
  have hv : (A.vi, MO.l (vs.map PyData.int)) ∈ slM Cc A (stN k vs) := List.mem_cons_of_mem _ (List.mem_cons_of_mem _ List.mem_cons_self)
  refine ws_seq (ws_if (et_test (ev_op (ev_lenA (ra_V TS rfl (fun _ z => z)) hv (ev_fW TS rfl (fun _ z => z) (op_bool ?_))))))
  rw [List.length_map]
  refine ⟨_, rfl, fun h1 => ?_, fun h1 => ws_next ?_⟩
  · have h1 : vs.length < k := by have := of_decide_eq_true h1; exact Int.ofNat_lt.mp this
    refine ws_ret (ev_cN ⟨?_, fun _ z => z⟩)
    unfold leD
    rw [if_pos h1]
  · have h1 : ¬ vs.length < k := fun z => by have := of_decide_eq_false h1; exact this (Int.ofNat_lt.mpr z)
    obtain ⟨o, r, e1, e2, e3⟩ := due_head k1 (show k ≤ vs.length by omega)
    refine ws_ret (ev_ixA (ra_V TS rfl (fun _ z => z)) hv (ev_op (ev_fL TS rfl (fun _ z => z) (ev_cI (op_ixL (d := .int (o : Int)) ?_ ⟨(o : Int), .int (vs.getD o 0), rfl, ?_, ?_, fun _ z => z⟩)))))
    · show atI ((dueN k vs).map PyData.int) 0 = _
      rw [e1]
      exact atI_map (f := PyData.int) (i := ((0 : Nat) : Int)) (atI_nat rfl)
    · exact atI_map (f := PyData.int) (atI_getD (j := o) rfl e2 0)
    · unfold leD
      rw [if_neg h1, e3]

abbrev s_Slider_push : Stmt := inClass (topS 49) 1
theorem sc_Slider_push : FnScope ["self", "value", "place", "line", "one"] ["self", "value"] (defScope s_Slider_push) := ⟨rfl, rfl, rfl, by decide +kernel, rfl, by decide +kernel, by decide +kernel⟩
--KIND sl
def R_Slider_push : List PyData → SlS → Out → SlS → Prop := fun ds S out S' => ∃ (k : Nat) (vs : List Int) (d : PyData), ds = [d] ∧ S = stN k vs ∧ 1 ≤ k ∧ vs.length < 1000 ∧
  ((isIntD d 0 9 = false ∧ out = .exc .number ∧ S' = S) ∨ ∃ v : Int, d = .int v ∧ 0 ≤ v ∧ v ≤ 9 ∧ out = .ret (leD k (vs ++ [v])) ∧ S' = stN k (vs ++ [v]))
theorem len_Slider_push : ∀ ds S out S', R_Slider_push ds S out S' → ds.length + 1 = 2 := by
  rintro _ _ _ _ ⟨_, _, _, rfl, _⟩; rfl
set_option maxHeartbeats 4000000 in
theorem ok_Slider_push (Df : DefM K Cc "push" "Slider.push" s_Slider_push ["self", "value"]) (TS : TxS K Cc) (B : Bt mg) {t_MOST_VALUE : Tok} (k_MOST_VALUE : mg "MOST_VALUE" = some (.int 9 t_MOST_VALUE)) (x_BadNumber : ExT K mg "BadNumber" (g .number)) (n_is_int : Ent P w K mg base "is_int" ["value", "low", "high"] 1 (SpD g R_is_int)) (n_Slider_least : MEnt P w K mg base Cc "least" ["self"] 1 (SpSl Cc g R_Slider_least)) : MEnt P w K mg base Cc "push" ["self", "value"] 2 (SpSl Cc g R_Slider_push) := Df.ent fun f fd Fn => by
  refine fn_sl (k := 1) (Cc := Cc) (g := g) Fn sc_Slider_push (len_Slider_push) (by decide) fun cdv Ar outer s H E hr => ⟨_, (pss_cons (ps_if (pt_not (pt_val (pe_ent n_is_int hr (pass_own (takes_of rfl rfl rfl rfl)) (pa_cons (pv 1) (pa_cons pe_int (pa_cons (pe_glob (v := .int 9) (by rfl) k_MOST_VALUE ⟨_, rfl⟩) pa_nil)))))) (pss_one (ps_rz x_BadNumber (by rfl) (takes_of rfl rfl rfl rfl))) pss_nil)
      (pss_cons (ps_expr (k_bm (K := K) PySem.F.plainAttrs_list PySem.F.slot_list_append PySem.F.type_list_append L2.mt_append (k_fld (K := K) (pv 0) rfl) (pa_cons (k_fld (K := K) (pv 0) rfl) pa_nil)))
      (pss_cons (ps_set (i := 2) sc_Slider_push.nd rfl (by first | exact Or.inl rfl | exact Or.inr rfl) (pe_callB (k_len (K := K)) (by rfl) B.b_len (by decide +kernel) (pa_cons (k_fld (K := K) (pv 0) rfl) pa_nil)))
      (pss_cons (ps_expr (k_bm (K := K) PySem.F.plainAttrs_list PySem.F.slot_list_append PySem.F.type_list_append L2.mt_append (k_fld (K := K) (pv 0) rfl) (pa_cons (pv 1) pa_nil)))
      (pss_cons (ps_setLc (i := 3) (own := [("one", 4)])  rfl sc_Slider_push.nd rfl rfl (sw_true rfl rfl rfl (by decide +kernel)) (k_list (K := K) (k_fld (K := K) (pv 0) rfl)) (blkOk_by (own := [("one", 4)]) (N := ["self", "value", "place", "line", "one"]) (sc := defScope s_Slider_push) (by decide +kernel)) (fun _ _ _ _ _ => (pg_name (i := 4) sc_Slider_push.nd rfl (by first | exact Or.inl rfl | exact Or.inr rfl))) (fun _ _ _ _ _ => (pts_one (PW.pt (pw_and (pt_cmpR L2.op_gt (pv 4) (pe_op L2.op_sub (pv 2) (k_fld (K := K) (pv 0) rfl)) (nomark _)) (pw_and1 (pt_cmpR L2.op_lt (pe_ix (k_ixL (K := K)) (k_fld (K := K) (pv 0) rfl) (pv 4) (fun _ _ => rfl)) (pv 1) (nomark _))))))) (fun _ _ _ _ _ => (pv 4)))
      (pss_cons (k_sfld (K := K) (pv 0) (pe_op L2.op_cat (pv 3) (pe_lst (pa_cons (pv 2) pa_nil))) rfl)
      (pss_one (ps_ret (pe_ment0 n_Slider_least TS hr (pass_own (takes_of rfl rfl rfl rfl)) (pv 0)))))))))), fun C0 H0 A S S' ds out nd hR hX => ?_⟩
  obtain ⟨k, vs, d, rfl, rfl, k1, hl, hb⟩ := hR
  show WS _ _ [.v (.ref A.x), .d d, .un, .un, .un] (slM Cc A (stN k vs) ++ []) _
  walk_at "w"
  refine ⟨_, ⟨_, _, _, rfl, rfl⟩, _, rfl, fun h1 => ?_, fun h1 => ws_next ?_⟩
  · rw [Bool.not_eq_true'] at h1
    rcases hb with ⟨_, ho, rfl⟩ | ⟨v, rfl, v0, v9, _⟩
    · exact ws_raiseS (F := slF g C0 H0 E Cc A out _) (e := .number) fun σ H C r => hX .number _ _ σ H C ho (fun _ z => z) r
    · rw [int_ok v0 v9] at h1; cases h1
  rw [Bool.not_eq_false'] at h1
  obtain ⟨v, rfl, v0, v9, rfl, rfl⟩ : ∃ v : Int, d = .int v ∧ 0 ≤ v ∧ v ≤ 9 ∧ out = .ret (leD k (vs ++ [v])) ∧ S' = stN k (vs ++ [v]) := by
    rcases hb with ⟨z, _⟩ | hb
    · rw [z] at h1; cases h1
    · exact hb
  have hD : ∀ p, p ∈ (slF g C0 H0 E Cc A (.ret (leD k (vs ++ [v]))) (stN k (vs ++ [v]))).dw → p ∈ slW A := fun _ z => z
  refine ws_seq (ws_appP (S := stN k vs) TS rfl hD (by show ((List.range vs.length).map _).length < _; simp; omega) (ev_fL (S := stN k vs) TS rfl (fun _ z => z) ⟨_, rfl, ?_⟩))
  obtain ⟨S1, e1⟩ : ∃ S1 : SlS, S1 = { stN k vs with past := (stN k vs).past ++ [dueN k vs] } := ⟨_, rfl⟩
  show WS _ _ _ (slM Cc A { stN k vs with past := (stN k vs).past ++ [dueN k vs] } ++ []) _
  rw [← e1]
  have v1 : S1.vs = vs := by rw [e1]; rfl
  refine ws_seq (ws_asg (ev_lenA (ds := vs.map PyData.int) (ra_V (S := S1) TS rfl (fun _ z => z)) (by rw [← v1]; exact List.mem_cons_of_mem _ (List.mem_cons_of_mem _ List.mem_cons_self)) ?_))
  rw [List.length_map]
  refine ws_seq (ws_appV (S := S1) TS rfl hD (by rw [v1]; omega) (ev_var rfl ⟨v, rfl, ?_⟩))
  obtain ⟨S2, e2⟩ : ∃ S2 : SlS, S2 = { S1 with vs := S1.vs ++ [v] } := ⟨_, rfl⟩
  show WS _ _ _ (slM Cc A { S1 with vs := S1.vs ++ [v] } ++ []) _
  rw [← e2]
  have v2 : S2.vs = vs ++ [v] := by rw [e2, ← v1]
  have l2 : S2.line = dueN k vs := by rw [e2, e1]; rfl
  have k2 : S2.k = (k : Int) := by rw [e2, e1]; rfl
  have dl : (dueN k vs).length ≤ vs.length := by
    unfold dueN
    rw [List.length_map]
    exact Nat.le_trans (List.length_filter_le _ _) (by simp)
  refine ws_seq (ws_asg (ev_lcB PyData.int ?_))
  refine ei_list (ev_fL (S := S2) TS rfl (fun _ z => z) ?_)
  rw [l2]
  refine ⟨_, rfl, dueN k vs, fun o => decide (o > (vs.length : Int) - (k : Int)) && decide (vs.getD o.toNat 0 < v), PyData.int, rfl, by omega, fun o ho => ⟨_, sg_name (by decide), ?_⟩, ?_⟩
  · obtain ⟨j, rfl, j1, j2, j3⟩ := due_mem.mp ho
    walk_at "w"
    refine ev_fW (S := S2) TS rfl (fun _ z => z) ?_
    rw [k2]
    walk_at "w"
    have hv2 : (A.vi, MO.l ((vs ++ [v]).map PyData.int)) ∈ slM Cc A S2 ++ [] := by rw [← v2]; exact List.mem_cons_of_mem _ (List.mem_cons_of_mem _ List.mem_cons_self)
    by_cases c : (j : Int) > (vs.length : Int) - (k : Int)
    · refine c_tt (decide_eq_true c) ?_
      refine et_test (ev_op (ev_ixA (ra_V (S := S2) TS rfl (fun _ z => z)) hv2 (ev_var rfl ⟨(j : Int), .int (vs.getD j 0), rfl, ?_, ?_⟩)))
      · have ga : (vs ++ [v]).getD j 0 = vs.getD j 0 := by rw [List.getD_eq_getElem?_getD, List.getD_eq_getElem?_getD, List.getElem?_append_left j1]
        rw [← ga]
        exact atI_map (f := PyData.int) (atI_getD (j := j) rfl (by simp; omega) 0)
      walk_at "w"
      refine ⟨?_, fun _ => ?_⟩
      · show _ = (decide ((j : Int) > (vs.length : Int) - (k : Int)) && decide (vs.getD ((j : Int)).toNat 0 < v))
        rw [decide_eq_true c, Bool.true_and, show ((j : Int)).toNat = j by omega]
      walk_at "w"
      rfl
    · refine c_tf (decide_eq_false c) ?_
      have e : (decide ((j : Int) > (vs.length : Int) - (k : Int)) && decide (vs.getD ((j : Int)).toNat 0 < v)) = false := by rw [decide_eq_false c, Bool.false_and]
      exact ⟨e.symm, fun z => absurd (e.symm.trans z) (by decide)⟩
  have fl := List.length_filter_le (fun o => decide (o > (vs.length : Int) - (k : Int)) && decide (vs.getD o.toNat 0 < v)) (dueN k vs)
  refine ws_seq (ws_setL (S := S2) TS rfl hD (ev_op (ev_var rfl ?_)))
  walk_at "w"
  refine op_cat (by rw [List.length_map]; show _ + 1 ≤ _; omega) ⟨(dueN k vs).filter (fun o => decide (o > (vs.length : Int) - (k : Int)) && decide (vs.getD o.toNat 0 < v)) ++ [(vs.length : Int)], by unfold dL; rw [List.map_append]; rfl, ?_⟩
  have e3 : ({ S2 with line := (dueN k vs).filter (fun o => decide (o > (vs.length : Int) - (k : Int)) && decide (vs.getD o.toNat 0 < v)) ++ [(vs.length : Int)] } : SlS) = stN k (vs ++ [v]) := by
    rw [← st_push k1, e2, e1]
    rfl
  rw [e3]
  refine ws_ret (ev_methSl (S := stN k (vs ++ [v])) rfl (fun _ z => z) nd ⟨by decide +kernel, by decide +kernel, by decide +kernel, by decide +kernel⟩ (ea_nil ⟨_, ⟨k, vs ++ [v], rfl, rfl, k1, by simp; omega, rfl, rfl⟩, rfl, fun _ z => z⟩))

abbrev s_Slider_places : Stmt := inClass (topS 49) 3
theorem sc_Slider_places : FnScope ["self"] ["self"] (defScope s_Slider_places) := ⟨rfl, rfl, rfl, by decide +kernel, rfl, by decide +kernel, by decide +kernel⟩
--KIND sl
def R_Slider_places : List PyData → SlS → Out → SlS → Prop := fun ds S out S' => ∃ (k : Nat) (vs : List Int), ds = [] ∧ S = stN k vs ∧ vs.length ≤ 1000 ∧ out = .ret (dL (dueN k vs)) ∧ S' = S
theorem len_Slider_places : ∀ ds S out S', R_Slider_places ds S out S' → ds.length + 1 = 1 := by
  rintro _ _ _ _ ⟨_, _, rfl, _⟩; rfl
set_option maxHeartbeats 4000000 in
theorem ok_Slider_places (Df : DefM K Cc "places" "Slider.places" s_Slider_places ["self"]) (TS : TxS K Cc) (B : Bt mg) : MEnt P w K mg base Cc "places" ["self"] 1 (SpSl Cc g R_Slider_places) := Df.ent fun f fd Fn => by
  refine fn_sl (k := 0) (Cc := Cc) (g := g) Fn sc_Slider_places (len_Slider_places) (by decide) fun cdv Ar outer s H E hr => ⟨_, (pss_one (ps_ret (pe_callTy (k_listOf (K := K)) (by rfl) B.b_list (by decide +kernel) (pa_cons (k_fld (K := K) (pv 0) rfl) pa_nil)))), fun C0 H0 A S S' ds out nd hR hX => ?_⟩
  obtain ⟨k, vs, rfl, rfl, hl, rfl, rfl⟩ := hR
  show WS _ _ [.v (.ref A.x)] (slM Cc A (stN k vs)) _
  refine ws_ret (ev_cb (ea_cons (ev_fL TS rfl (fun _ z => z) (ea_nil ?_))))
  exact on_listL ⟨rfl, fun _ z => z⟩

abbrev s_Slider_low_row : Stmt := inClass (topS 49) 4
theorem sc_Slider_low_row : FnScope ["self", "found", "first"] ["self"] (defScope s_Slider_low_row) := ⟨rfl, rfl, rfl, by decide +kernel, rfl, by decide +kernel, by decide +kernel⟩
--KIND sl
def R_Slider_low_row : List PyData → SlS → Out → SlS → Prop := fun ds S out S' => ∃ (k : Nat) (vs : List Int), ds = [] ∧ S = stN k vs ∧ 1 ≤ k ∧ k ≤ 12 ∧ vs.length ≤ 1000 ∧ out = .ret (dL (lowsN vs k)) ∧ S' = S
theorem len_Slider_low_row : ∀ ds S out S', R_Slider_low_row ds S out S' → ds.length + 1 = 1 := by
  rintro _ _ _ _ ⟨_, _, rfl, _⟩; rfl
set_option maxHeartbeats 4000000 in
theorem ok_Slider_low_row (Df : DefM K Cc "low_row" "Slider.low_row" s_Slider_low_row ["self"]) (TS : TxS K Cc) (B : Bt mg) : MEnt P w K mg base Cc "low_row" ["self"] 1 (SpSl Cc g R_Slider_low_row) := Df.ent fun f fd Fn => by
  refine fn_sl (k := 0) (Cc := Cc) (g := g) Fn sc_Slider_low_row (len_Slider_low_row) (by decide) fun cdv Ar outer s H E hr => ⟨_, (pss_cons (ps_set (i := 1) sc_Slider_low_row.nd rfl (by first | exact Or.inl rfl | exact Or.inr rfl) (pe_lst pa_nil))
      (pss_cons (ps_for (passes_of rfl) rfl (pi_range1 (by rfl) B.b_range (pa_cons (pe_op L2.op_add (pe_op L2.op_sub (pe_callB (k_len (K := K)) (by rfl) B.b_len (by decide +kernel) (pa_cons (k_fld (K := K) (pv 0) rfl) pa_nil)) (k_fld (K := K) (pv 0) rfl)) pe_int) pa_nil)) (pg_name (i := 2) sc_Slider_low_row.nd rfl (by first | exact Or.inl rfl | exact Or.inr rfl)) (pss_one (ps_expr (k_bm (K := K) PySem.F.plainAttrs_list PySem.F.slot_list_append PySem.F.type_list_append L2.mt_append (pv 1) (pa_cons (pe_callB (k_min (K := K)) (by rfl) B.b_min (by decide +kernel) (pa_cons (pe_slice (k_slL (K := K)) (k_fld (K := K) (pv 0) rfl) (po_some (pv 2)) (po_some (pe_op L2.op_add (pv 2) (k_fld (K := K) (pv 0) rfl)))) pa_nil)) pa_nil)))))
      (pss_one (ps_ret (pv 1))))), fun C0 H0 A S S' ds out nd hR hX => ?_⟩
  obtain ⟨k, vs, rfl, rfl, k1, k2, hl, rfl, rfl⟩ := hR
  show WS _ _ [.v (.ref A.x), .un, .un] (slM Cc A (stN k vs)) _
  refine ws_seq (ws_asgM (ea_nil ⟨by decide, fun l hf => ?_⟩))
  have hs : slM Cc A (stN k vs) ⊆ (l, MO.l []) :: slM Cc A (stN k vs) := List.subset_cons_self _ _
  have hv : ∀ {m : Addr × MO}, (A.vi, MO.l (vs.map PyData.int)) ∈ m :: slM Cc A (stN k vs) := fun {m} => List.mem_cons_of_mem _ (List.mem_cons_of_mem _ (List.mem_cons_of_mem _ List.mem_cons_self))
  refine ws_seq (ws_for (vs := [2]) ?_)
  refine ei_range1 (ea_cons (ev_op (ev_op (ev_lenA (ra_V TS rfl hs) hv (ev_fW TS rfl hs (op_int (ev_cI (op_int ?_))))))))
  rw [List.length_map]
  refine ea_nil ⟨_, rfl, ?_, ?_, ?_⟩
  · show (-100000 : Int) ≤ (vs.length : Int) - (k : Int) + 1
    omega
  · show (vs.length : Int) - (k : Int) + 1 ≤ 100000
    omega
  show ∃ I, _
  rw [show ((vs.length : Int) - (stN k vs).k + 1).toNat = vs.length + 1 - k by show ((vs.length : Int) - (k : Int) + 1).toNat = _; omega, rangeD_len]
  refine ⟨fun i ks ms => i ≤ vs.length + 1 - k ∧ ms = (l, .l ((List.range i).map fun f => PyData.int (minL (win vs k f)))) :: slM Cc A (stN k vs) ∧ ∃ x, ks = [.v (.ref A.x), .v (.ref l), x], ⟨Nat.zero_le _, rfl, _, rfl⟩, ?_, ?_⟩
  · rintro i d _ _ hd ⟨_, rfl, x, rfl⟩
    obtain ⟨hi, rfl⟩ := rangeD_get hd
    refine ⟨_, sg_name (by decide), ?_⟩
    refine ws_appendH rfl hf (by simp; omega) ?_
    refine ev_cb (ea_cons (ev_slA (ra_V (S := stN k vs) TS rfl (List.subset_cons_self _ _)) hv (eo_some (ev_var rfl ⟨_, rfl, eo_some (ev_op (ev_var rfl (ev_fW (S := stN k vs) TS rfl (List.subset_cons_self _ _) (op_int ⟨_, rfl, ?_⟩))))⟩))))
    have ec : cut (vs.map PyData.int) (some ((0 : Int) + (i : Int))) (some ((0 : Int) + (i : Int) + (k : Int))) = (win vs k i).map PyData.int := by rw [cut_map, cut_win]
    show EvA _ _ _ _ fun xs => OpN _ _ _ _ (PyData.list (cut (vs.map PyData.int) (some ((0 : Int) + (i : Int))) (some ((0 : Int) + (i : Int) + (k : Int)))) :: xs) _
    rw [ec]
    refine ea_nil (on_min (win_ne k1 (by omega)) ⟨hi, ?_, _, rfl⟩)
    rw [List.range_succ, List.map_append]
    rfl
  · rintro _ _ ⟨_, rfl, x, rfl⟩
    refine ws_freezeH (i := 1) rfl hf ?_
    refine ws_ret (ev_var rfl ⟨?_, fun _ z => z⟩)
    show Out.ret (dL (lowsN vs k)) = _
    unfold lowsN dL
    rw [List.map_map]
    rfl

abbrev s_Slider_undo : Stmt := inClass (topS 49) 5
theorem sc_Slider_undo : FnScope ["self"] ["self"] (defScope s_Slider_undo) := ⟨rfl, rfl, rfl, by decide +kernel, rfl, by decide +kernel, by decide +kernel⟩
--KIND sl
def R_Slider_undo : List PyData → SlS → Out → SlS → Prop := fun ds S out S' => ∃ (k : Nat) (vs : List Int), ds = [] ∧ S = stN k vs ∧ ((vs = [] ∧ out = .exc .gone ∧ S' = S) ∨ ∃ ws v, vs = ws ++ [v] ∧ out = .ret (.int v) ∧ S' = stN k ws)
theorem len_Slider_undo : ∀ ds S out S', R_Slider_undo ds S out S' → ds.length + 1 = 1 := by
  rintro _ _ _ _ ⟨_, _, rfl, _⟩; rfl
set_option maxHeartbeats 4000000 in
theorem ok_Slider_undo (Df : DefM K Cc "undo" "Slider.undo" s_Slider_undo ["self"]) (TS : TxS K Cc) (B : Bt mg) (x_NotFound : ExT K mg "NotFound" (g .gone)) : MEnt P w K mg base Cc "undo" ["self"] 1 (SpSl Cc g R_Slider_undo) := Df.ent fun f fd Fn => by
  refine fn_sl (k := 0) (Cc := Cc) (g := g) Fn sc_Slider_undo (len_Slider_undo) (by decide) fun cdv Ar outer s H E hr => ⟨_, (pss_cons (ps_if (pt_cmpR (k_eqD (K := K) hr.units) (k_fld (K := K) (pv 0) rfl) (pe_lst pa_nil) (nomark _)) (pss_one (ps_rz x_NotFound (by rfl) (takes_of rfl rfl rfl rfl))) pss_nil)
      (pss_cons (k_sfld (K := K) (pv 0) (k_bm0 (K := K) PySem.F.plainAttrs_list PySem.F.slot_list_pop PySem.F.type_list_pop L2.mt_pop (k_fld (K := K) (pv 0) rfl)) rfl)
      (pss_one (ps_ret (k_bm0 (K := K) PySem.F.plainAttrs_list PySem.F.slot_list_pop PySem.F.type_list_pop L2.mt_pop (k_fld (K := K) (pv 0) rfl)))))), fun C0 H0 A S S' ds out nd hR hX => ?_⟩
  obtain ⟨k, vs, rfl, rfl, hb⟩ := hR
  show WS _ _ [.v (.ref A.x)] (slM Cc A (stN k vs) ++ []) _
  have hv : (A.vi, MO.l (vs.map PyData.int)) ∈ slM Cc A (stN k vs) ++ [] := List.mem_cons_of_mem _ (List.mem_cons_of_mem _ List.mem_cons_self)
  refine ws_seq (ws_if (et_test (ev_eqA (ra_V TS rfl (fun _ z => z)) hv (ev_lst0 ⟨rfl, _, rfl, fun h1 => ?_, fun h1 => ws_next ?_⟩))))
  · rcases hb with ⟨rfl, ho, rfl⟩ | ⟨ws, v, rfl, _⟩
    · exact ws_raiseS (F := slF g C0 H0 E Cc A out _) (e := .gone) fun σ H C r => hX .gone _ _ σ H C ho (fun _ z => z) r
    · simp at h1
  · rcases hb with ⟨rfl, _, _⟩ | ⟨ws, v, rfl, rfl, rfl⟩
    · simp at h1
    refine ws_seq (ws_popL (S := stN k (ws ++ [v])) (past := (stN k ws).past) (line := dueN k ws) TS rfl (fun _ z => z) (st_past ws v) ?_)
    refine ws_retEM (em_popV (vs := ws) (v := v) TS rfl (fun _ z => z) rfl ?_)
    exact ⟨rfl, fun _ z => z⟩

abbrev s_Slider___len : Stmt := inClass (topS 49) 6
theorem sc_Slider___len : FnScope ["self"] ["self"] (defScope s_Slider___len) := ⟨rfl, rfl, rfl, by decide +kernel, rfl, by decide +kernel, by decide +kernel⟩
--KIND sl
def R_Slider___len : List PyData → SlS → Out → SlS → Prop := fun ds S out S' => ∃ (k : Nat) (vs : List Int), ds = [] ∧ S = stN k vs ∧ out = .ret (.int (vs.length : Nat)) ∧ S' = S
theorem len_Slider___len : ∀ ds S out S', R_Slider___len ds S out S' → ds.length + 1 = 1 := by
  rintro _ _ _ _ ⟨_, _, rfl, _⟩; rfl
set_option maxHeartbeats 4000000 in
theorem ok_Slider___len (Df : DefM K Cc "__len__" "Slider.__len__" s_Slider___len ["self"]) (TS : TxS K Cc) (B : Bt mg) : MEnt P w K mg base Cc "__len__" ["self"] 1 (SpSl Cc g R_Slider___len) := Df.ent fun f fd Fn => by
  refine fn_sl (k := 0) (Cc := Cc) (g := g) Fn sc_Slider___len (len_Slider___len) (by decide) fun cdv Ar outer s H E hr => ⟨_, (pss_one (ps_ret (pe_callB (k_len (K := K)) (by rfl) B.b_len (by decide +kernel) (pa_cons (k_fld (K := K) (pv 0) rfl) pa_nil)))), fun C0 H0 A S S' ds out nd hR hX => ?_⟩
  obtain ⟨k, vs, rfl, rfl, rfl, rfl⟩ := hR
  show WS _ _ [.v (.ref A.x)] (slM Cc A (stN k vs)) _
  have hv : (A.vi, MO.l (vs.map PyData.int)) ∈ slM Cc A (stN k vs) := List.mem_cons_of_mem _ (List.mem_cons_of_mem _ List.mem_cons_self)
  refine ws_ret (ev_lenA (ra_V TS rfl (fun _ z => z)) hv ?_)
  rw [List.length_map]
  exact ⟨rfl, fun _ z => z⟩

abbrev s_format_row : Stmt := topS 51
theorem sc_format_row : FnScope ["row", "value"] ["row"] (defScope s_format_row) := ⟨rfl, rfl, rfl, by decide +kernel, rfl, by decide +kernel, by decide +kernel⟩
def R_format_row : List PyData → Out → Prop := RR fun row out => out = .ret (.str (digS row))
theorem len_format_row : ∀ ds out, R_format_row ds out → ds.length = 1 := RR.len
set_option maxHeartbeats 4000000 in
theorem ok_format_row (Df : Def K mg "format_row" s_format_row ["row"]) (B : Bt mg) (n_check_row : Ent P w K mg base "check_row" ["value"] 3 (SpD g R_check_row)) : Ent P w K mg base "format_row" ["row"] 4 (SpD g R_format_row) := Df.ent fun f fd Fn => by
  refine fn_data (k := 3) Fn sc_format_row (len_format_row) (by decide) fun cdv A outer s H E hr => ⟨_, (pss_cons (ps_expr (pe_ent n_check_row hr (pass_own (takes_of rfl rfl rfl rfl)) (pa_cons (pv 0) pa_nil)))
      (pss_one (ps_ret (k_join (K := K) pe_str (pe_lc (own := [("value", 1)]) (tt := tYes) rfl sc_format_row.nd (k_list (K := K) (pv 0)) (blkOk_by (own := [("value", 1)]) (N := ["row", "value"]) (sc := defScope s_format_row) (by decide +kernel)) (fun _ _ _ _ _ => (pg_name (i := 1) sc_format_row.nd rfl (by first | exact Or.inl rfl | exact Or.inr rfl))) (fun _ _ _ _ _ => pts_nil) (fun _ _ _ _ _ => (pe_callTy cr_str (by rfl) B.b_str (by decide +kernel) (pa_cons (pv 1) pa_nil)))))))), fun C0 H0 ds out hE hR => ?_⟩
  refine ws_RR hR fun row ok hb => ?_
  subst hb
  show WS _ _ [.d (dL row), .un] [] _
  have l2 := ok.2.1
  walk_at "w"
  refine ev_lcF PyData.int ?_
  walk_at "w"
  refine ⟨row, fun v => .str ⟨#[dig v]⟩, rfl, by omega, fun v hv => ⟨_, sg_name (by decide), ?_⟩, om_digs (by omega) rfl⟩
  have := ok.2.2 v hv
  walk_at "w"
  refine on_strI (by omega) (by omega) ?_
  rw [str_dig (by omega) (by omega)]

abbrev s_drawn : Stmt := topS 52
theorem sc_drawn : FnScope ["row", "found", "height", "value"] ["row"] (defScope s_drawn) := ⟨rfl, rfl, rfl, by decide +kernel, rfl, by decide +kernel, by decide +kernel⟩
def rowSigns (row : List Int) (h : Int) : Str := ⟨(row.map fun v => if h ≤ v then 35 else 46).toArray⟩
theorem tl_rowSigns (row : List Int) (h : Int) : TL.tl (rowSigns row h) = row.map fun v => if h ≤ v then 35 else 46 := rfl
def drawnN (row : List Int) : List Str := (List.range (maxL row).toNat).map fun i : Nat => rowSigns row (maxL row + (i : Int) * (-1))
def R_drawn : List PyData → Out → Prop := RR fun row out => out = .ret (dS (drawnN row))
theorem len_drawn : ∀ ds out, R_drawn ds out → ds.length = 1 := RR.len
def sgn (h v : Int) : Str := if h ≤ v then "#" else "."
theorem join_signs (row : List Int) (h : Int) : Txt.join "" (row.map (sgn h)) = rowSigns row h := by
  refine TL.ext_tl ?_
  rw [TL.join_eq, TL.tl_join, show TL.tl ("" : Str) = [] from by rw [TL.tl_ofString]; rfl, joinL_nil, tl_rowSigns, List.map_map]
  induction row with
  | nil => rfl
  | cons v row ih =>
    rw [List.map_cons, List.flatten_cons, List.map_cons, ih]
    show TL.tl (sgn h v) ++ _ = _
    have e : TL.tl (sgn h v) = [if h ≤ v then 35 else 46] := by
      unfold sgn
      split <;> (rw [TL.tl_ofString]; rfl)
    rw [e]
    rfl
theorem sgn_len (h v : Int) : (sgn h v).length = 1 := by
  unfold sgn
  split <;> rfl
theorem om_signs {F : FC} {R : Mem} {ks : List SK} {P : PyData → Prop} {K : PySem.W.Frag} {row : List Int} {h : Int} (hn : row.length ≤ 50000) (p : P (.str (rowSigns row h))) : OpM F R ks (rJoin K) (.str "") [.list (row.map fun v => PyData.str (sgn h v))] P := by
  rw [show (PyData.list (row.map fun v => PyData.str (sgn h v))) = dS (row.map (sgn h)) by unfold dS; rw [List.map_map]; rfl]
  refine om_join ?_ (by rw [join_signs]; exact p)
  rw [List.length_map]
  have : ((row.map (sgn h)).map (·.length)).sum = row.length := by
    clear p hn
    induction row with
    | nil => rfl
    | cons v row ih =>
      rw [List.map_cons, List.map_cons, List.sum_cons, ih, List.length_cons, sgn_len, Nat.add_comm]
  rw [this]
  show _ + _ * 0 ≤ _
  omega
theorem ev_sgn {F : FC} {R : Mem} {ks : List SK} {t v : Int} {b : Bool} (hb : b = decide (v ≥ t)) {G : PyData → Prop} (h : G (.str (sgn t v))) : (b = true → Ev F R (tC (.str "#")) ks G) ∧ (b = false → Ev F R (tC (.str ".")) ks G) :=
  ev_both (.str (sgn t v)) (fun z => ev_cS (by rw [hb] at z; have := of_decide_eq_true z; unfold sgn; rw [if_pos this])) (fun z => ev_cS (by rw [hb] at z; have := of_decide_eq_false z; unfold sgn; rw [if_neg this])) h
set_option maxHeartbeats 4000000 in
theorem ok_drawn (Df : Def K mg "drawn" s_drawn ["row"]) (B : Bt mg) (n_check_row : Ent P w K mg base "check_row" ["value"] 3 (SpD g R_check_row)) : Ent P w K mg base "drawn" ["row"] 4 (SpD g R_drawn) := Df.ent fun f fd Fn => by
  refine fn_data (k := 3) Fn sc_drawn (len_drawn) (by decide) fun cdv A outer s H E hr => ⟨_, (pss_cons (ps_expr (pe_ent n_check_row hr (pass_own (takes_of rfl rfl rfl rfl)) (pa_cons (pv 0) pa_nil)))
      (pss_cons (ps_set (i := 1) sc_drawn.nd rfl (by first | exact Or.inl rfl | exact Or.inr rfl) (pe_lst pa_nil))
      (pss_cons (ps_for (passes_of rfl) rfl (pi_range3 (by rfl) B.b_range (pa_cons (pe_callB (k_max (K := K)) (by rfl) B.b_max (by decide +kernel) (pa_cons (pv 0) pa_nil)) (pa_cons pe_int (pa_cons (pe_un un_neg pe_int) pa_nil)))) (pg_name (i := 2) sc_drawn.nd rfl (by first | exact Or.inl rfl | exact Or.inr rfl)) (pss_one (ps_expr (k_bm (K := K) PySem.F.plainAttrs_list PySem.F.slot_list_append PySem.F.type_list_append L2.mt_append (pv 1) (pa_cons (k_join (K := K) pe_str (pe_lc (own := [("value", 3)]) (tt := tYes) rfl sc_drawn.nd (k_list (K := K) (pv 0)) (blkOk_by (own := [("value", 3)]) (N := ["row", "found", "height", "value"]) (sc := defScope s_drawn) (by decide +kernel)) (fun _ _ _ _ _ => (pg_name (i := 3) sc_drawn.nd rfl (by first | exact Or.inl rfl | exact Or.inr rfl))) (fun _ _ _ _ _ => pts_nil) (fun _ _ _ _ _ => (pe_ifExp (pt_cmpR L2.op_ge (pv 3) (pv 2) (nomark _)) pe_str pe_str)))) pa_nil)))))
      (pss_one (ps_ret (pv 1)))))), fun C0 H0 ds out hE hR => ?_⟩
  refine ws_RR hR fun row ok hb => ?_
  subst hb
  show WS _ _ [.d (dL row), .un, .un, .un] [] _
  have l2 := ok.2.1
  have hm := ok.2.2 _ (maxL_mem ok.ne)
  refine ws_seq (ws_asgM (ea_nil ⟨by decide, fun l hf => ?_⟩))
  refine ws_seq (ws_for (vs := [2]) ?_)
  walk_at "w"
  refine on_max ok.ne ?_
  walk_at "w"
  refine ⟨_, _, _, _, rfl, RgC.neg (by omega) (by omega) (by omega) (by omega), ?_⟩
  rw [show (maxL row - 0).toNat = (maxL row).toNat by rw [Int.sub_zero], List.length_map, List.length_range]
  refine ⟨fun i ks ms => i ≤ (maxL row).toNat ∧ ∃ a b, ks = [.d (dL row), .v (.ref l), a, b] ∧ ms = [(l, .l ((List.range i).map fun j : Nat => PyData.str (rowSigns row (maxL row + (j : Int) * (-1)))))], ⟨Nat.zero_le _, _, _, rfl, rfl⟩, ?_, ?_⟩
  · rintro i d _ _ hd ⟨_, a, b, rfl, rfl⟩
    obtain ⟨j, hj, rfl⟩ := map_get hd
    have hi : i < (maxL row).toNat := by
      have := (List.getElem?_eq_some_iff.mp hj).1
      simpa using this
    rw [List.getElem?_range hi] at hj
    cases hj
    refine ⟨_, sg_name (by decide), ?_⟩
    refine ws_appendH rfl hf (by simp; omega) ?_
    walk_at "w"
    refine ev_lcF PyData.int ?_
    walk_at "w"
    refine ⟨row, fun v => .str (sgn (maxL row + (i : Int) * (-1)) v), rfl, by omega, fun v hv => ⟨_, sg_name (by decide), ?_⟩, om_signs (by omega) ?_⟩
    · walk_at "w"
      exact ev_sgn rfl rfl
    refine ⟨hi, _, _, rfl, ?_⟩
    rw [List.range_succ, List.map_append]
    rfl
  · rintro _ _ ⟨_, a, b, rfl, rfl⟩
    refine ws_freezeH (i := 1) rfl hf ?_
    walk_at "w"
    show _ = _
    unfold drawnN dS
    rw [List.map_map]
    rfl

abbrev s_law_start : Stmt := topS 54
theorem sc_law_start : FnScope ["script"] ["script"] (defScope s_law_start) := ⟨rfl, rfl, rfl, by decide +kernel, rfl, by decide +kernel, by decide +kernel⟩
--KIND raw
--SP (SpStart K)
set_option maxHeartbeats 4000000 in
theorem ok_law_start (Df : Def K mg "_law_start" s_law_start ["script"]) (B : Bt mg) : Ent P w K mg base "_law_start" ["script"] 1 (SpStart K) := Df.ent fun f fd Fn => by
  refine Fn.okX (k := 0) sc_law_start ?_ (fun cdv A outer s H vs Q E hr h => ⟨_, (pss_one (ps_ret (pe_lst (pa_cons (pe_ifExp (pt_cmpR (k_neD (K := K) hr.units) (pv 0) (pe_lst pa_nil) (nomark _)) (pe_callTy (k_listOf (K := K)) (by rfl) B.b_list (by decide +kernel) (pa_cons (pv 0) pa_nil)) (pe_lst (pa_cons pe_int pa_nil))) (pa_cons pe_int pa_nil))))), ?_⟩)
  · intro vs H Q E h
    obtain ⟨a, ns, rfl, _⟩ := h
    rfl
  · obtain ⟨a, ns, rfl, hS, hq⟩ := h
    refine ⟨_, rfl, Nat.zero_le _, fun p hp => ⟨dL ns, .list [], .lst ?_ (dp_ints _ _ ns), .lst (SqL.of upd_same) .nil, (sh_dL ns).ok, (sh_nil 0).ok, _, rfl, ?_⟩⟩
    · exact Same.seq (fun b o e => by rw [upd_ne (ne_of_none e hp)]; exact e) hS
    · have e0 : PyData.eqv (dL ns) (.list []) = ns.isEmpty := by
        cases ns <;> simp [PyData.eqv, PyData.eqvAll]
      rw [e0]
      have e1 : Ex H (upd H p (.lst [])) := Ex.new hp
      cases hn : ns with
      | nil =>
        refine iteF ⟨by show 1 ≤ sizeLine; decide, fun q hq1 => ⟨by show 2 ≤ sizeLine; decide, fun r hr1 => ?_⟩⟩
        have n1 : H q = none := e1.free hq1
        have n2 : H r = none := e1.free ((Ex.new hq1).free hr1)
        refine hq r q _ n2 n1 ((e1.trans (Ex.new hq1)).trans (Ex.new hr1)) ⟨⟨0, upd_same⟩, [0], by simp, ?_⟩
        rw [upd_ne (fun z => by rw [z, upd_same] at hr1; cases hr1), upd_same]
        rfl
      | cons n1 ns1 =>
        refine iteT ⟨_, rfl, a, ns.map V.int, rfl, .inl (Same.seq e1 hS), fun q hq1 => ⟨by show 2 ≤ sizeLine; decide, fun r hr1 => ?_⟩⟩
        have n1 : H q = none := e1.free hq1
        have n2 : H r = none := e1.free ((Ex.new hq1).free hr1)
        refine hq r q _ n2 n1 ((e1.trans (Ex.new hq1)).trans (Ex.new hr1)) ⟨⟨0, upd_same⟩, ns, by rw [hn]; simp, ?_⟩
        rw [upd_ne (fun z => by rw [z, upd_same] at hr1; cases hr1), upd_same]

abbrev s_law_draw : Stmt := topS 55
theorem sc_law_draw : FnScope ["draws", "limit", "numbers", "at", "cell", "mixed"] ["draws", "limit"] (defScope s_law_draw) := ⟨rfl, rfl, rfl, by decide +kernel, rfl, by decide +kernel, by decide +kernel⟩
--KIND raw
--SP (SpDr Pre_law_draw R_law_draw)
def Pre_law_draw : List PyData → Prop := fun ds => ∃ lim : Int, ds = [.int lim] ∧ 0 < lim ∧ lim < 1000000000
def R_law_draw : List PyData → PyData → Prop := fun ds d => ∃ lim r : Int, ds = [.int lim] ∧ d = .int r ∧ 0 ≤ r ∧ r < lim
set_option maxHeartbeats 4000000 in
theorem ok_law_draw (Df : Def K mg "_law_draw" s_law_draw ["draws", "limit"]) (B : Bt mg) : Ent P w K mg base "_law_draw" ["draws", "limit"] 1 (SpDr Pre_law_draw R_law_draw) := Df.ent fun f fd Fn => by
  refine Fn.okX (k := 0) sc_law_draw ?_ (fun cdv A outer s H vs Q E hr h => ⟨_, (pss_cons (ps_set (i := 2) sc_law_draw.nd rfl (by first | exact Or.inl rfl | exact Or.inr rfl) (pe_ix (k_ixL (K := K)) (pv 0) pe_int (fun _ _ => rfl)))
      (pss_cons (ps_asg (pe_op L2.op_add (pe_ix (k_ixL (K := K)) (pv 0) pe_int (fun _ _ => rfl)) pe_int) (pg_sub (pv 0) pe_int L2.set_list))
      (pss_cons (ps_set (i := 3) sc_law_draw.nd rfl (by first | exact Or.inl rfl | exact Or.inr rfl) (pe_op L2.op_mod (pe_ix (k_ixL (K := K)) (pv 0) pe_int (fun _ _ => rfl)) (pe_callB (k_len (K := K)) (by rfl) B.b_len (by decide +kernel) (pa_cons (pv 2) pa_nil))))
      (pss_cons (ps_set (i := 4) sc_law_draw.nd rfl (by first | exact Or.inl rfl | exact Or.inr rfl) (pe_ix (k_ixL (K := K)) (pv 2) (pv 3) (fun _ _ => rfl)))
      (pss_cons (ps_if (pt_cmpR L2.op_ge (pv 4) pe_int (nomark _)) (pss_cons (ps_asg (pe_op L2.op_fdiv (pv 4) (pv 1)) (pg_sub (pv 2) (pv 3) L2.set_list))
      (pss_one (ps_ret (pe_op L2.op_mod (pv 4) (pv 1))))) pss_nil)
      (pss_cons (ps_set (i := 5) sc_law_draw.nd rfl (by first | exact Or.inl rfl | exact Or.inr rfl) (pe_op L2.op_mod (pe_op L2.op_add (pv 4) (pe_op L2.op_mul pe_int (pe_ix (k_ixL (K := K)) (pv 0) pe_int (fun _ _ => rfl)))) pe_int))
      (pss_cons (ps_set (i := 5) sc_law_draw.nd rfl (by first | exact Or.inl rfl | exact Or.inr rfl) (pe_op L2.op_mod (pe_op L2.op_pow (pv 5) pe_int) pe_int))
      (pss_one (ps_ret (pe_op L2.op_mod (pe_op L2.op_fdiv (pe_op L2.op_mod (pe_op L2.op_add (pe_op L2.op_mul (pe_op L2.op_fdiv (pv 5) pe_int) pe_int) (pv 5)) pe_int) pe_int) (pv 1))))))))))), ?_⟩)
  · intro vs H Q E h
    obtain ⟨C, ds, dr, nu, vs', rfl, _, _, _, _, hd, ⟨lim, rfl, _⟩, _⟩ := h
    rw [List.length_cons, hd.length]
    rfl
  · obtain ⟨C, ds, dr, nu, vs', rfl, eC, c1, c2, hD, hd, ⟨lim, rfl, h0, h1⟩, hq⟩ := h
    obtain ⟨v, rfl, hv⟩ := dn_one hd
    cases hv
    obtain ⟨c, hdr⟩ := hD.d
    obtain ⟨ns, hne, hnu⟩ := hD.n
    have hlen : 0 < (ns.length : Int) := by
      have := List.length_pos_iff.mpr hne
      omega
    have ndn := hD.ne
    -- numbers = draws[0]; draws[1] = draws[1] + 1
    refine ⟨_, rfl, dr, _, 0, _, rfl, rfl, SqL.of hdr, rfl, ?_⟩
    refine ⟨_, rfl, dr, _, 1, _, rfl, rfl, SqL.of hdr, rfl, c, 1, rfl, rfl, _, rfl, dr, _, 1, 1, rfl, rfl, hdr, rfl, ?_⟩
    have hdr1 : (upd H dr (.lst ([V.ref nu, .int c].set 1 (.int (c + 1))))) dr = some (.lst [.ref nu, .int (c + 1)]) := upd_same
    have hnu1 : (upd H dr (.lst ([V.ref nu, .int c].set 1 (.int (c + 1))))) nu = some (.lst (ns.map V.int)) := by rw [upd_ne ndn.symm]; exact hnu
    generalize hH1 : (upd H dr (.lst ([V.ref nu, .int c].set 1 (.int (c + 1))))) = H1 at hdr1 hnu1
    have kp1 : ∀ a o, H a = some o → a ≠ dr → H1 a = some o := fun a o e z => by rw [← hH1, upd_ne z]; exact e
    -- at = draws[1] % len(numbers); cell = numbers[at]
    refine ⟨_, rfl, dr, _, 1, _, rfl, rfl, SqL.of hdr1, rfl, _, rfl, nu, _, rfl, .inl (SqL.of hnu1), c + 1, _, rfl, rfl, by rw [List.length_map]; exact hlen, ?_⟩
    rw [List.length_map]
    have ha0 : 0 ≤ (c + 1) % (ns.length : Int) := Int.emod_nonneg _ (by omega)
    have ha1 : (c + 1) % (ns.length : Int) < (ns.length : Int) := Int.emod_lt_of_pos _ hlen
    obtain ⟨j, ej⟩ : ∃ j : Nat, (c + 1) % (ns.length : Int) = (j : Int) := ⟨((c + 1) % (ns.length : Int)).toNat, by omega⟩
    dsimp only
    rw [ej] at ha1 ⊢
    have hj : j < ns.length := by omega
    refine ⟨_, rfl, _, rfl, nu, _, (j : Int), .int ns[j], rfl, rfl, SqL.of hnu1, at_of rfl (by rw [List.getElem?_map]; simp [hj]), ?_⟩
    have fin : ∀ r H', 0 ≤ r → r < lim → (∀ a o, H1 a = some o → a ≠ dr → a ≠ nu → H' a = some o) → DrAt H' dr nu → Q (.int r) H' := fun r H' r0 r1 kp hD' =>
      hq (.int r) (.int r) H' C ⟨lim, r, rfl, rfl, r0, r1⟩ (fun a o e n1 n2 => kp a o (kp1 a o e n1) n1 n2) hD' (Ex.refl C)
        (fun a o e => ⟨kp a o (kp1 a o (eC _ _ e) (fun z => by rw [z, c1] at e; cases e)) (fun z => by rw [z, c1] at e; cases e) (fun z => by rw [z, c2] at e; cases e), .inl e⟩) (.int r)
    -- if cell >= 10 ** 18
    refine ⟨_, rfl, _, _, rfl, rfl, _, rfl, ?_⟩
    by_cases hc : (1000000000000000000 : Int) ≤ ns[j]
    · rw [decide_eq_true hc]
      refine iteT ?_
      refine ⟨_, rfl, _, rfl, _, _, rfl, rfl, ⟨h0, by omega⟩, _, rfl, _, rfl, nu, _, (j : Int), j, rfl, rfl, hnu1, by unfold ixN; rw [if_pos (by omega), if_pos (by rw [List.length_map]; omega), Int.toNat_natCast], ?_⟩
      refine ⟨_, rfl, _, rfl, _, _, rfl, rfl, h0, ?_⟩
      refine fin _ _ (Int.emod_nonneg _ (by omega)) (Int.emod_lt_of_pos _ h0) (fun a o e n1 n2 => by rw [upd_ne n2]; exact e) ⟨⟨c + 1, by rw [upd_ne ndn]; exact hdr1⟩, ns.set j (ns[j] / lim), ?_, ?_⟩
      · intro z
        have := congrArg List.length z
        rw [List.length_set] at this
        simp at this
        exact hne this
      · rw [upd_same, List.map_set]
    · rw [decide_eq_false hc]
      refine iteF ?_
      -- mixed = (cell + 104729 * draws[1]) % 4294967291
      refine ⟨_, rfl, _, rfl, dr, _, 1, _, rfl, rfl, SqL.of hdr1, rfl, 104729, c + 1, rfl, rfl, .inl ⟨by decide, by decide⟩, _, _, rfl, rfl, _, 4294967291, rfl, rfl, (show (0 : Int) < 4294967291 by decide), ?_⟩
      have hm0 : 0 ≤ (ns[j] + 104729 * (c + 1)) % 4294967291 := Int.emod_nonneg _ (by decide)
      have hm1 : (ns[j] + 104729 * (c + 1)) % 4294967291 < 4294967291 := Int.emod_lt_of_pos _ (by decide)
      dsimp only
      generalize (ns[j] + 104729 * (c + 1)) % 4294967291 = m at hm0 hm1
      -- mixed = mixed ** 5 % 4294967279
      refine ⟨_, rfl, m, 5, rfl, rfl, ⟨by decide, by decide, by omega⟩, _, 4294967279, rfl, rfl, (show (0 : Int) < 4294967279 by decide), ?_⟩
      have hp0 : 0 ≤ m ^ (5 : Int).toNat % 4294967279 := Int.emod_nonneg _ (by decide)
      have hp1 : m ^ (5 : Int).toNat % 4294967279 < 4294967279 := Int.emod_lt_of_pos _ (by decide)
      dsimp only
      generalize m ^ (5 : Int).toNat % 4294967279 = p at hp0 hp1
      -- return (mixed // 64 * 69621 + mixed) % 4294967231 // 8 % limit
      refine ⟨_, rfl, p, 64, rfl, rfl, ⟨by decide, by decide⟩, _, 69621, rfl, rfl, .inr ⟨by decide, by decide⟩, _, rfl, _, p, rfl, rfl, _, 4294967231, rfl, rfl, (show (0 : Int) < 4294967231 by decide), _, 8, rfl, rfl, ⟨by decide, by decide⟩, _, rfl, _, lim, rfl, rfl, h0, ?_⟩
      exact fin _ _ (Int.emod_nonneg _ (by omega)) (Int.emod_lt_of_pos _ h0) (fun a o e _ _ => e) ⟨⟨c + 1, hdr1⟩, ns, hne, hnu1⟩
theorem draw_is {lim : Int} {d : PyData} (h : R_law_draw [.int lim] d) : ∃ r, d = .int r ∧ 0 ≤ r ∧ r < lim := by
  obtain ⟨l, r, e, rfl, h0, h1⟩ := h
  injection e with e _
  injection e with e
  exact ⟨r, rfl, h0, by omega⟩
theorem ev_draw {F : FC} {R : Mem} {ks : List SK} {te : TE} {Q : PyData → Prop} {i : Nat} {dr nu : Addr} {E : XK} (hi : ks[i]? = some (.v (.ref dr))) (h1 : (dr, MO.dr nu) ∈ R) (h2 : (nu, MO.nu) ∈ R)
    (h : Ev F R te ks fun y => ∃ lim : Int, y = .int lim ∧ (0 < lim ∧ lim < 1000000000) ∧ ∀ r : Int, 0 ≤ r → r < lim → Q (.int r)) : Ev F R (tCall (SpDr Pre_law_draw R_law_draw) [] E (tCons (tVar i) (tCons te tNil))) ks Q :=
  ev_callDr hi h1 h2 (ea_cons (h.imp fun y hy => ea_nil (by
    obtain ⟨lim, rfl, l1, l2⟩ := hy
    refine ⟨⟨lim, rfl, l1⟩, fun d hd => ?_⟩
    obtain ⟨r, rfl, r0, r1⟩ := draw_is hd
    exact l2 r r0 r1)))
local macro_rules | `(tactic| walk_at "w1") => `(tactic| ((with_reducible refine ev_draw (dr := ?r) (nu := ?n) ?h0 ?h1 ?h2 ?_); (case h0 => exact rfl); (case h1 => walk_at "mem"); (case h2 => walk_at "mem")))

abbrev s_law_error : Stmt := topS 56
theorem sc_law_error : FnScope ["caught", "kinds"] ["caught"] (defScope s_law_error) := ⟨rfl, rfl, rfl, by decide +kernel, rfl, by decide +kernel, by decide +kernel⟩
--KIND err
--SP (SpErr g)
theorem rel_ref (C : Addr) : ∀ u, RelV (V.ref C) u → u = Value.ref C := fun u h => h
theorem rel_ty (x : String) : ∀ u, RelV (V.ty x) u → u = Value.type x := fun u h => h
local macro_rules | `(tactic| walk_at "w1") => `(tactic| ((with_reducible refine ev_isV (a := ?a) (D := ?D) (cv := ?cv) (b := ?b) ?h0 ?h1 ?h2 ?h3 ?h4 ?_); (case h0 => exact rfl); (case h1 => walk_at "mem"); (case h2 => exact ErrT.xc (by assumption) _); (case h3 => first | exact rel_ref _ | exact rel_ty _); (case h4 => first | exact ErrT.kd (by assumption) _ _ | exact ErrT.kw (by assumption) _ | exact ErrT.kv (by assumption) _)))
def kindsOf (e : Exn) : List Bool := [decide (e = .row), decide (e = .width), decide (e = .number), decide (e = .text), decide (e = .gone)]
def kindNo : Exn → Nat
  | .row => 0
  | .width => 1
  | .number => 2
  | .text => 3
  | .gone => 4
theorem kinds_count (e : Exn) : (kindsOf e).count true = 1 := by cases e <;> decide
theorem kinds_mem (e : Exn) : true ∈ kindsOf e := by cases e <;> decide
theorem kinds_idx (e : Exn) : (kindsOf e).idxOf true = kindNo e := by cases e <;> decide
set_option maxHeartbeats 4000000 in
theorem ok_law_error (Df : Def K mg "_law_error" s_law_error ["caught"]) (B : Bt mg) (x_BadNumber : ExT K mg "BadNumber" (g .number)) (x_BadWidth : ExT K mg "BadWidth" (g .width)) (x_BadRow : ExT K mg "BadRow" (g .row)) (x_NotFound : ExT K mg "NotFound" (g .gone)) (x_BadText : ExT K mg "BadText" (g .text)) {a_W : Addr} (T : ErrT K mg g a_W) : Ent P w K mg base "_law_error" ["caught"] 1 (SpErr g) := Df.ent fun f fd Fn => by
  refine fn_err (k := 0) Fn sc_law_error fun cdv A outer s H E hr => ⟨_, (pss_cons (ps_set (i := 1) sc_law_error.nd rfl (by first | exact Or.inl rfl | exact Or.inr rfl) (pe_lst (pa_cons (pe_callB (k_isV (K := K)) (by rfl) B.b_isinstance (by decide +kernel) (pa_cons (pv 0) (pa_cons (pe_glob (v := .ref (g .row)) (by rfl) x_BadRow.g rfl) pa_nil))) (pa_cons (pe_callB (k_isV (K := K)) (by rfl) B.b_isinstance (by decide +kernel) (pa_cons (pv 0) (pa_cons (pe_glob (v := .ref (g .width)) (by rfl) x_BadWidth.g rfl) pa_nil))) (pa_cons (pe_callB (k_isV (K := K)) (by rfl) B.b_isinstance (by decide +kernel) (pa_cons (pv 0) (pa_cons (pe_glob (v := .ref (g .number)) (by rfl) x_BadNumber.g rfl) pa_nil))) pa_nil)))))
      (pss_cons (ps_set (i := 1) sc_law_error.nd rfl (by first | exact Or.inl rfl | exact Or.inr rfl) (pe_op L2.op_cat (pv 1) (pe_lst (pa_cons (pe_callB (k_isV (K := K)) (by rfl) B.b_isinstance (by decide +kernel) (pa_cons (pv 0) (pa_cons (pe_glob (v := .ref (g .text)) (by rfl) x_BadText.g rfl) pa_nil))) (pa_cons (pe_callB (k_isV (K := K)) (by rfl) B.b_isinstance (by decide +kernel) (pa_cons (pv 0) (pa_cons (pe_glob (v := .ref (g .gone)) (by rfl) x_NotFound.g rfl) pa_nil))) pa_nil)))))
      (pss_cons (ps_if (PW.pt (pw_or (pt_cmpR L2.op_ne (k_bm (K := K) PySem.F.plainAttrs_list PySem.F.slot_list_count PySem.F.type_list_count (k_countD (K := K) hr.units) (pv 1) (pa_cons pe_bl pa_nil)) pe_int (nomark _)) (pw_or (pt_not (pt_val (pe_callB (k_isV (K := K)) (by rfl) B.b_isinstance (by decide +kernel) (pa_cons (pv 0) (pa_cons (pe_glob (v := .ref a_W) (by rfl) T.gw rfl) pa_nil))))) (pw_or1 (pt_not (pt_val (pe_callB (k_isV (K := K)) (by rfl) B.b_isinstance (by decide +kernel) (pa_cons (pv 0) (pa_cons (pe_bltn (v := .ty "ValueError") (by rfl) B.b_ValueError (by decide +kernel) rfl) pa_nil))))))))) (pss_one (ps_ret pe_str)) pss_nil)
      (pss_one (ps_ret (pe_ix (k_ixL (K := K)) (pe_lst (pa_cons pe_str (pa_cons pe_str (pa_cons pe_str (pa_cons pe_str (pa_cons pe_str pa_nil)))))) (k_bm (K := K) PySem.F.plainAttrs_list PySem.F.slot_list_index PySem.F.type_list_index (k_index (K := K)) (pv 1) (pa_cons pe_bl pa_nil)) (fun _ _ => rfl))))))), fun H0 a e => ?_⟩
  show WS _ _ [.v (.ref a), .un] [(a, .o (ExV (.ref (g e)) none a))] _
  walk_at "w"
  refine op_cat (by simp) ?_
  rw [show (PyData.list ([PyData.bool (decide (e = Exn.row)), PyData.bool (decide (e = Exn.width)), PyData.bool (decide (e = Exn.number))] ++ [PyData.bool (decide (e = Exn.text)), PyData.bool (decide (e = Exn.gone))])) = dB (kindsOf e) from rfl]
  walk_at "w"
  refine om_countB ?_
  rw [kinds_count]
  walk_at "w"
  refine c_ff (by rfl) ?_
  walk_at "w"
  refine c_ff (by rfl) ?_
  walk_at "w"
  refine c_tf (by rfl) (ws_next ?_)
  walk_at "w"
  refine om_indexB (kinds_mem e) ?_
  rw [kinds_idx]
  refine op_ixL (d := .str (nameOf e)) ?_ rfl
  cases e <;> rfl

abbrev s_law_list : Stmt := topS 57
theorem sc_law_list : FnScope ["kind", "length", "width", "most"] ["kind", "length", "width", "most"] (defScope s_law_list) := ⟨rfl, rfl, rfl, by decide +kernel, rfl, by decide +kernel, by decide +kernel⟩
def law_listR : Nat → PyData → PyData → PyData → Out → Prop
  | 0, d, w, x => fun out => R_low_rows [d, w, x] out
  | 1, d, w, x => fun out => R_count_low_rows [d, w, x] out
  | _, d, w, x => fun out => R_low_row_at [d, w, x, .none] out
def R_law_list : List PyData → Out → Prop := fun ds out => ∃ (i : Nat) (d w x : PyData), ds = [.int (i : Int), d, w, x] ∧ i < 3 ∧ law_listR i d w x out
theorem len_law_list : ∀ ds out, R_law_list ds out → ds.length = 4 := by
  rintro _ _ ⟨_, _, _, _, rfl, _⟩; rfl
set_option maxHeartbeats 4000000 in
theorem ok_law_list (Df : Def K mg "_law_list" s_law_list ["kind", "length", "width", "most"]) (B : Bt mg) (n_low_rows : Ent P w K mg base "low_rows" ["length", "width", "most"] 4 (SpD g R_low_rows)) (n_count_low_rows : Ent P w K mg base "count_low_rows" ["length", "width", "most"] 4 (SpD g R_count_low_rows)) (n_low_row_at : Ent P w K mg base "low_row_at" ["length", "width", "most", "rank"] 4 (SpD g R_low_row_at)) : Ent P w K mg base "_law_list" ["kind", "length", "width", "most"] 5 (SpD g R_law_list) := Df.ent fun f fd Fn => by
  refine fn_data (k := 4) Fn sc_law_list (len_law_list) (by decide) fun cdv A outer s H E hr => ⟨_, (pss_cons (ps_if (pt_cmpR L2.op_eq (pv 0) pe_int (nomark _)) (pss_one (ps_ret (pe_ent n_low_rows hr (pass_own (takes_of rfl rfl rfl rfl)) (pa_cons (pv 1) (pa_cons (pv 2) (pa_cons (pv 3) pa_nil)))))) pss_nil)
      (pss_cons (ps_if (pt_cmpR L2.op_eq (pv 0) pe_int (nomark _)) (pss_one (ps_ret (pe_ent n_count_low_rows hr (pass_own (takes_of rfl rfl rfl rfl)) (pa_cons (pv 1) (pa_cons (pv 2) (pa_cons (pv 3) pa_nil)))))) pss_nil)
      (pss_one (ps_ret (pe_ent n_low_row_at hr (pass_own (takes_of rfl rfl rfl rfl)) (pa_cons (pv 1) (pa_cons (pv 2) (pa_cons (pv 3) (pa_cons pe_non pa_nil))))))))), fun C0 H0 ds out hE hR => ?_⟩
  obtain ⟨i, d, w, x, rfl, hi, h⟩ := hR
  obtain rfl | rfl | rfl : i = 0 ∨ i = 1 ∨ i = 2 := by omega
  · show WS _ _ [.d (.int 0), .d d, .d w, .d x] [] _
    walk_at "w"
    refine c_tt (by decide) ?_
    refine ws_ret (ev_callB (F := mkF g C0 H0 E out hE) ?_)
    walk_at "w"
    refine ⟨out, h, ?_⟩
    cases out <;> rfl
  · show WS _ _ [.d (.int 1), .d d, .d w, .d x] [] _
    walk_at "w"
    refine c_tf (by decide) (ws_next ?_)
    walk_at "w"
    refine c_tt (by decide) ?_
    refine ws_ret (ev_callB (F := mkF g C0 H0 E out hE) ?_)
    walk_at "w"
    refine ⟨out, h, ?_⟩
    cases out <;> rfl
  · show WS _ _ [.d (.int 2), .d d, .d w, .d x] [] _
    walk_at "w"
    refine c_tf (by decide) (ws_next ?_)
    walk_at "w"
    refine c_tf (by decide) (ws_next ?_)
    refine ws_ret (ev_callB (F := mkF g C0 H0 E out hE) ?_)
    walk_at "w"
    refine ⟨out, h, ?_⟩
    cases out <;> rfl

abbrev s_law_pair : Stmt := topS 58
theorem sc_law_pair : FnScope ["kind", "low", "high", "width"] ["kind", "low", "high", "width"] (defScope s_law_pair) := ⟨rfl, rfl, rfl, by decide +kernel, rfl, by decide +kernel, by decide +kernel⟩
def law_pairR : Nat → PyData → PyData → PyData → Out → Prop
  | 0, d, w, x => fun out => R_rows_with_both [d, w, x] out
  | 1, d, w, x => fun out => R_count_with_both [d, w, x] out
  | 2, d, w, x => fun out => R_first_with_both [d, w, x] out
  | 3, d, w, x => fun out => R_sure_values [d, w, x] out
  | _, d, w, x => fun out => R_row_with_both [d, w, x, .none] out
def R_law_pair : List PyData → Out → Prop := fun ds out => ∃ (i : Nat) (d w x : PyData), ds = [.int (i : Int), d, w, x] ∧ i < 5 ∧ law_pairR i d w x out
theorem len_law_pair : ∀ ds out, R_law_pair ds out → ds.length = 4 := by
  rintro _ _ ⟨_, _, _, _, rfl, _⟩; rfl
set_option maxHeartbeats 4000000 in
theorem ok_law_pair (Df : Def K mg "_law_pair" s_law_pair ["kind", "low", "high", "width"]) (B : Bt mg) (n_rows_with_both : Ent P w K mg base "rows_with_both" ["low", "high", "width"] 13 (SpD g R_rows_with_both)) (n_count_with_both : Ent P w K mg base "count_with_both" ["low", "high", "width"] 13 (SpD g R_count_with_both)) (n_first_with_both : Ent P w K mg base "first_with_both" ["low", "high", "width"] 13 (SpD g R_first_with_both)) (n_sure_values : Ent P w K mg base "sure_values" ["low", "high", "width"] 13 (SpD g R_sure_values)) (n_row_with_both : Ent P w K mg base "row_with_both" ["low", "high", "width", "rank"] 13 (SpD g R_row_with_both)) : Ent P w K mg base "_law_pair" ["kind", "low", "high", "width"] 14 (SpD g R_law_pair) := Df.ent fun f fd Fn => by
  refine fn_data (k := 13) Fn sc_law_pair (len_law_pair) (by decide) fun cdv A outer s H E hr => ⟨_, (pss_cons (ps_if (pt_cmpR L2.op_eq (pv 0) pe_int (nomark _)) (pss_one (ps_ret (pe_ent n_rows_with_both hr (pass_own (takes_of rfl rfl rfl rfl)) (pa_cons (pv 1) (pa_cons (pv 2) (pa_cons (pv 3) pa_nil)))))) pss_nil)
      (pss_cons (ps_if (pt_cmpR L2.op_eq (pv 0) pe_int (nomark _)) (pss_one (ps_ret (pe_ent n_count_with_both hr (pass_own (takes_of rfl rfl rfl rfl)) (pa_cons (pv 1) (pa_cons (pv 2) (pa_cons (pv 3) pa_nil)))))) pss_nil)
      (pss_cons (ps_if (pt_cmpR L2.op_eq (pv 0) pe_int (nomark _)) (pss_one (ps_ret (pe_ent n_first_with_both hr (pass_own (takes_of rfl rfl rfl rfl)) (pa_cons (pv 1) (pa_cons (pv 2) (pa_cons (pv 3) pa_nil)))))) pss_nil)
      (pss_cons (ps_if (pt_cmpR L2.op_eq (pv 0) pe_int (nomark _)) (pss_one (ps_ret (pe_ent n_sure_values hr (pass_own (takes_of rfl rfl rfl rfl)) (pa_cons (pv 1) (pa_cons (pv 2) (pa_cons (pv 3) pa_nil)))))) pss_nil)
      (pss_one (ps_ret (pe_ent n_row_with_both hr (pass_own (takes_of rfl rfl rfl rfl)) (pa_cons (pv 1) (pa_cons (pv 2) (pa_cons (pv 3) (pa_cons pe_non pa_nil))))))))))), fun C0 H0 ds out hE hR => ?_⟩
  obtain ⟨i, d, w, x, rfl, hi, h⟩ := hR
  obtain rfl | rfl | rfl | rfl | rfl : i = 0 ∨ i = 1 ∨ i = 2 ∨ i = 3 ∨ i = 4 := by omega
  · show WS _ _ [.d (.int 0), .d d, .d w, .d x] [] _
    walk_at "w"
    refine c_tt (by decide) ?_
    refine ws_ret (ev_callB (F := mkF g C0 H0 E out hE) ?_)
    walk_at "w"
    refine ⟨out, h, ?_⟩
    cases out <;> rfl
  · show WS _ _ [.d (.int 1), .d d, .d w, .d x] [] _
    walk_at "w"
    refine c_tf (by decide) (ws_next ?_)
    walk_at "w"
    refine c_tt (by decide) ?_
    refine ws_ret (ev_callB (F := mkF g C0 H0 E out hE) ?_)
    walk_at "w"
    refine ⟨out, h, ?_⟩
    cases out <;> rfl
  · show WS _ _ [.d (.int 2), .d d, .d w, .d x] [] _
    walk_at "w"
    refine c_tf (by decide) (ws_next ?_)
    walk_at "w"
    refine c_tf (by decide) (ws_next ?_)
    walk_at "w"
    refine c_tt (by decide) ?_
    refine ws_ret (ev_callB (F := mkF g C0 H0 E out hE) ?_)
    walk_at "w"
    refine ⟨out, h, ?_⟩
    cases out <;> rfl
  · show WS _ _ [.d (.int 3), .d d, .d w, .d x] [] _
    walk_at "w"
    refine c_tf (by decide) (ws_next ?_)
    walk_at "w"
    refine c_tf (by decide) (ws_next ?_)
    walk_at "w"
    refine c_tf (by decide) (ws_next ?_)
    walk_at "w"
    refine c_tt (by decide) ?_
    refine ws_ret (ev_callB (F := mkF g C0 H0 E out hE) ?_)
    walk_at "w"
    refine ⟨out, h, ?_⟩
    cases out <;> rfl
  · show WS _ _ [.d (.int 4), .d d, .d w, .d x] [] _
    walk_at "w"
    refine c_tf (by decide) (ws_next ?_)
    walk_at "w"
    refine c_tf (by decide) (ws_next ?_)
    walk_at "w"
    refine c_tf (by decide) (ws_next ?_)
    walk_at "w"
    refine c_tf (by decide) (ws_next ?_)
    refine ws_ret (ev_callB (F := mkF g C0 H0 E out hE) ?_)
    walk_at "w"
    refine ⟨out, h, ?_⟩
    cases out <;> rfl

abbrev s_law_call : Stmt := topS 59
theorem sc_law_call : FnScope ["kind", "one", "two"] ["kind", "one", "two"] (defScope s_law_call) := ⟨rfl, rfl, rfl, by decide +kernel, rfl, by decide +kernel, by decide +kernel⟩
def law_callR : Nat → PyData → PyData → Out → Prop
  | 0, d, w => fun out => R_backward [d] out
  | 1, d, w => fun out => R_turned_over [d] out
  | 2, d, w => fun out => R_led [d, w] out
  | 3, d, w => fun out => R_part_of [d, w, .int 2] out
  | 4, d, w => fun out => R_part_of [d, .int 0, w] out
  | 5, d, w => fun out => R_joined [d, w] out
  | 6, d, w => fun out => R_rank_of_low [d, w, .int 1] out
  | 7, d, w => fun out => R_rank_of_low [dL [0, 0], .int 2, d] out
  | 8, d, w => fun out => R_common_origin [d, .int 2, w, .int 2] out
  | 9, d, w => fun out => R_format_row [d] out
  | 10, d, w => fun out => R_drawn [d] out
  | 11, d, w => fun out => R_is_origin [d, w, .int 2] out
  | _, _, _ => fun _ => False
def R_law_call : List PyData → Out → Prop := fun ds out => ∃ (i : Nat) (d w : PyData), ds = [.int (i : Int), d, w] ∧ i < 12 ∧ law_callR i d w out
theorem len_law_call : ∀ ds out, R_law_call ds out → ds.length = 3 := by
  rintro _ _ ⟨_, _, _, rfl, _⟩; rfl
set_option maxHeartbeats 4000000 in
theorem ok_law_call (Df : Def K mg "_law_call" s_law_call ["kind", "one", "two"]) (TS : TxS K Cc) (B : Bt mg) (n_backward : Ent P w K mg base "backward" ["row"] 4 (SpD g R_backward)) (n_turned_over : Ent P w K mg base "turned_over" ["row"] 4 (SpD g R_turned_over)) (n_led : Ent P w K mg base "led" ["row", "table"] 4 (SpD g R_led)) (n_part_of : Ent P w K mg base "part_of" ["row", "first", "last"] 4 (SpD g R_part_of)) (n_joined : Ent P w K mg base "joined" ["one", "other"] 4 (SpD g R_joined)) (n_rank_of_low : Ent P w K mg base "rank_of_low" ["row", "width", "most"] 4 (SpD g R_rank_of_low)) (n_common_origin : Ent P w K mg base "common_origin" ["one", "first_width", "other", "second_width"] 5 (SpD g R_common_origin)) (n_format_row : Ent P w K mg base "format_row" ["row"] 4 (SpD g R_format_row)) (n_drawn : Ent P w K mg base "drawn" ["row"] 4 (SpD g R_drawn)) (n_is_origin : Ent P w K mg base "is_origin" ["other", "row", "width"] 5 (SpD g R_is_origin)) (n_Slider___init : IEnt P w K mg base Cc "Slider" ["self", "width"] 2 (SpIni Cc g fun d => isIntD d 1 12 = false)) (n_Slider_push : MEnt P w K mg base Cc "push" ["self", "value"] 2 (SpSl Cc g R_Slider_push)) (n_Slider_undo : MEnt P w K mg base Cc "undo" ["self"] 1 (SpSl Cc g R_Slider_undo)) : Ent P w K mg base "_law_call" ["kind", "one", "two"] 6 (SpD g R_law_call) := Df.ent fun f fd Fn => by
  refine fn_data (k := 5) Fn sc_law_call (len_law_call) (by decide) fun cdv A outer s H E hr => ⟨_, (pss_cons (ps_if (pt_cmpR L2.op_eq (pv 0) pe_int (nomark _)) (pss_one (ps_ret (pe_ent n_backward hr (pass_own (takes_of rfl rfl rfl rfl)) (pa_cons (pv 1) pa_nil)))) pss_nil)
      (pss_cons (ps_if (pt_cmpR L2.op_eq (pv 0) pe_int (nomark _)) (pss_one (ps_ret (pe_ent n_turned_over hr (pass_own (takes_of rfl rfl rfl rfl)) (pa_cons (pv 1) pa_nil)))) pss_nil)
      (pss_cons (ps_if (pt_cmpR L2.op_eq (pv 0) pe_int (nomark _)) (pss_one (ps_ret (pe_ent n_led hr (pass_own (takes_of rfl rfl rfl rfl)) (pa_cons (pv 1) (pa_cons (pv 2) pa_nil))))) pss_nil)
      (pss_cons (ps_if (pt_cmpR L2.op_eq (pv 0) pe_int (nomark _)) (pss_one (ps_ret (pe_ent n_part_of hr (pass_own (takes_of rfl rfl rfl rfl)) (pa_cons (pv 1) (pa_cons (pv 2) (pa_cons pe_int pa_nil)))))) pss_nil)
      (pss_cons (ps_if (pt_cmpR L2.op_eq (pv 0) pe_int (nomark _)) (pss_one (ps_ret (pe_ent n_part_of hr (pass_own (takes_of rfl rfl rfl rfl)) (pa_cons (pv 1) (pa_cons pe_int (pa_cons (pv 2) pa_nil)))))) pss_nil)
      (pss_cons (ps_if (pt_cmpR L2.op_eq (pv 0) pe_int (nomark _)) (pss_one (ps_ret (pe_ent n_joined hr (pass_own (takes_of rfl rfl rfl rfl)) (pa_cons (pv 1) (pa_cons (pv 2) pa_nil))))) pss_nil)
      (pss_cons (ps_if (pt_cmpR L2.op_eq (pv 0) pe_int (nomark _)) (pss_one (ps_ret (pe_ent n_rank_of_low hr (pass_own (takes_of rfl rfl rfl rfl)) (pa_cons (pv 1) (pa_cons (pv 2) (pa_cons pe_int pa_nil)))))) pss_nil)
      (pss_cons (ps_if (pt_cmpR L2.op_eq (pv 0) pe_int (nomark _)) (pss_one (ps_ret (pe_ent n_rank_of_low hr (pass_own (takes_of rfl rfl rfl rfl)) (pa_cons (pe_lst (pa_cons pe_int (pa_cons pe_int pa_nil))) (pa_cons pe_int (pa_cons (pv 1) pa_nil)))))) pss_nil)
      (pss_cons (ps_if (pt_cmpR L2.op_eq (pv 0) pe_int (nomark _)) (pss_one (ps_ret (pe_ent n_common_origin hr (pass_own (takes_of rfl rfl rfl rfl)) (pa_cons (pv 1) (pa_cons pe_int (pa_cons (pv 2) (pa_cons pe_int pa_nil))))))) pss_nil)
      (pss_cons (ps_if (pt_cmpR L2.op_eq (pv 0) pe_int (nomark _)) (pss_one (ps_ret (pe_ent n_format_row hr (pass_own (takes_of rfl rfl rfl rfl)) (pa_cons (pv 1) pa_nil)))) pss_nil)
      (pss_cons (ps_if (pt_cmpR L2.op_eq (pv 0) pe_int (nomark _)) (pss_one (ps_ret (pe_ent n_drawn hr (pass_own (takes_of rfl rfl rfl rfl)) (pa_cons (pv 1) pa_nil)))) pss_nil)
      (pss_cons (ps_if (pt_cmpR L2.op_eq (pv 0) pe_int (nomark _)) (pss_one (ps_ret (pe_ent n_is_origin hr (pass_own (takes_of rfl rfl rfl rfl)) (pa_cons (pv 1) (pa_cons (pv 2) (pa_cons pe_int pa_nil)))))) pss_nil)
      (pss_cons (ps_if (pt_cmpR L2.op_eq (pv 0) pe_int (nomark _)) (pss_one (ps_ret (pe_ient n_Slider___init hr (pass_own (takes_of rfl rfl rfl rfl)) (pa_cons (pv 1) pa_nil)))) pss_nil)
      (pss_one (ps_ret (pe_ifExp (pt_cmpR L2.op_eq (pv 0) pe_int (nomark _)) (pe_ment n_Slider_push TS hr (pass_own (takes_of rfl rfl rfl rfl)) (pv 1) (pa_cons (pv 2) pa_nil)) (pe_ment0 n_Slider_undo TS hr (pass_own (takes_of rfl rfl rfl rfl)) (pv 1)))))))))))))))))), fun C0 H0 ds out hE hR => ?_⟩
  obtain ⟨i, d, w, rfl, hi, h⟩ := hR
  obtain rfl | rfl | rfl | rfl | rfl | rfl | rfl | rfl | rfl | rfl | rfl | rfl : i = 0 ∨ i = 1 ∨ i = 2 ∨ i = 3 ∨ i = 4 ∨ i = 5 ∨ i = 6 ∨ i = 7 ∨ i = 8 ∨ i = 9 ∨ i = 10 ∨ i = 11 := by omega
  · show WS _ _ [.d (.int 0), .d d, .d w] [] _
    walk_at "w"
    refine c_tt (by decide) ?_
    refine ws_ret (ev_callB (F := mkF g C0 H0 E out hE) ?_)
    walk_at "w"
    refine ⟨out, h, ?_⟩
    cases out <;> rfl
  · show WS _ _ [.d (.int 1), .d d, .d w] [] _
    walk_at "w"
    refine c_tf (by decide) (ws_next ?_)
    walk_at "w"
    refine c_tt (by decide) ?_
    refine ws_ret (ev_callB (F := mkF g C0 H0 E out hE) ?_)
    walk_at "w"
    refine ⟨out, h, ?_⟩
    cases out <;> rfl
  · show WS _ _ [.d (.int 2), .d d, .d w] [] _
    walk_at "w"
    refine c_tf (by decide) (ws_next ?_)
    walk_at "w"
    refine c_tf (by decide) (ws_next ?_)
    walk_at "w"
    refine c_tt (by decide) ?_
    refine ws_ret (ev_callB (F := mkF g C0 H0 E out hE) ?_)
    walk_at "w"
    refine ⟨out, h, ?_⟩
    cases out <;> rfl
  · show WS _ _ [.d (.int 3), .d d, .d w] [] _
    walk_at "w"
    refine c_tf (by decide) (ws_next ?_)
    walk_at "w"
    refine c_tf (by decide) (ws_next ?_)
    walk_at "w"
    refine c_tf (by decide) (ws_next ?_)
    walk_at "w"
    refine c_tt (by decide) ?_
    refine ws_ret (ev_callB (F := mkF g C0 H0 E out hE) ?_)
    walk_at "w"
    refine ⟨out, h, ?_⟩
    cases out <;> rfl
  · show WS _ _ [.d (.int 4), .d d, .d w] [] _
    walk_at "w"
    refine c_tf (by decide) (ws_next ?_)
    walk_at "w"
    refine c_tf (by decide) (ws_next ?_)
    walk_at "w"
    refine c_tf (by decide) (ws_next ?_)
    walk_at "w"
    refine c_tf (by decide) (ws_next ?_)
    walk_at "w"
    refine c_tt (by decide) ?_
    refine ws_ret (ev_callB (F := mkF g C0 H0 E out hE) ?_)
    walk_at "w"
    refine ⟨out, h, ?_⟩
    cases out <;> rfl
  · show WS _ _ [.d (.int 5), .d d, .d w] [] _
    walk_at "w"
    refine c_tf (by decide) (ws_next ?_)
    walk_at "w"
    refine c_tf (by decide) (ws_next ?_)
    walk_at "w"
    refine c_tf (by decide) (ws_next ?_)
    walk_at "w"
    refine c_tf (by decide) (ws_next ?_)
    walk_at "w"
    refine c_tf (by decide) (ws_next ?_)
    walk_at "w"
    refine c_tt (by decide) ?_
    refine ws_ret (ev_callB (F := mkF g C0 H0 E out hE) ?_)
    walk_at "w"
    refine ⟨out, h, ?_⟩
    cases out <;> rfl
  · show WS _ _ [.d (.int 6), .d d, .d w] [] _
    walk_at "w"
    refine c_tf (by decide) (ws_next ?_)
    walk_at "w"
    refine c_tf (by decide) (ws_next ?_)
    walk_at "w"
    refine c_tf (by decide) (ws_next ?_)
    walk_at "w"
    refine c_tf (by decide) (ws_next ?_)
    walk_at "w"
    refine c_tf (by decide) (ws_next ?_)
    walk_at "w"
    refine c_tf (by decide) (ws_next ?_)
    walk_at "w"
    refine c_tt (by decide) ?_
    refine ws_ret (ev_callB (F := mkF g C0 H0 E out hE) ?_)
    walk_at "w"
    refine ⟨out, h, ?_⟩
    cases out <;> rfl
  · show WS _ _ [.d (.int 7), .d d, .d w] [] _
    walk_at "w"
    refine c_tf (by decide) (ws_next ?_)
    walk_at "w"
    refine c_tf (by decide) (ws_next ?_)
    walk_at "w"
    refine c_tf (by decide) (ws_next ?_)
    walk_at "w"
    refine c_tf (by decide) (ws_next ?_)
    walk_at "w"
    refine c_tf (by decide) (ws_next ?_)
    walk_at "w"
    refine c_tf (by decide) (ws_next ?_)
    walk_at "w"
    refine c_tf (by decide) (ws_next ?_)
    walk_at "w"
    refine c_tt (by decide) ?_
    refine ws_ret (ev_callB (F := mkF g C0 H0 E out hE) ?_)
    walk_at "w"
    refine ⟨out, h, ?_⟩
    cases out <;> rfl
  · show WS _ _ [.d (.int 8), .d d, .d w] [] _
    walk_at "w"
    refine c_tf (by decide) (ws_next ?_)
    walk_at "w"
    refine c_tf (by decide) (ws_next ?_)
    walk_at "w"
    refine c_tf (by decide) (ws_next ?_)
    walk_at "w"
    refine c_tf (by decide) (ws_next ?_)
    walk_at "w"
    refine c_tf (by decide) (ws_next ?_)
    walk_at "w"
    refine c_tf (by decide) (ws_next ?_)
    walk_at "w"
    refine c_tf (by decide) (ws_next ?_)
    walk_at "w"
    refine c_tf (by decide) (ws_next ?_)
    walk_at "w"
    refine c_tt (by decide) ?_
    refine ws_ret (ev_callB (F := mkF g C0 H0 E out hE) ?_)
    walk_at "w"
    refine ⟨out, h, ?_⟩
    cases out <;> rfl
  · show WS _ _ [.d (.int 9), .d d, .d w] [] _
    walk_at "w"
    refine c_tf (by decide) (ws_next ?_)
    walk_at "w"
    refine c_tf (by decide) (ws_next ?_)
    walk_at "w"
    refine c_tf (by decide) (ws_next ?_)
    walk_at "w"
    refine c_tf (by decide) (ws_next ?_)
    walk_at "w"
    refine c_tf (by decide) (ws_next ?_)
    walk_at "w"
    refine c_tf (by decide) (ws_next ?_)
    walk_at "w"
    refine c_tf (by decide) (ws_next ?_)
    walk_at "w"
    refine c_tf (by decide) (ws_next ?_)
    walk_at "w"
    refine c_tf (by decide) (ws_next ?_)
    walk_at "w"
    refine c_tt (by decide) ?_
    refine ws_ret (ev_callB (F := mkF g C0 H0 E out hE) ?_)
    walk_at "w"
    refine ⟨out, h, ?_⟩
    cases out <;> rfl
  · show WS _ _ [.d (.int 10), .d d, .d w] [] _
    walk_at "w"
    refine c_tf (by decide) (ws_next ?_)
    walk_at "w"
    refine c_tf (by decide) (ws_next ?_)
    walk_at "w"
    refine c_tf (by decide) (ws_next ?_)
    walk_at "w"
    refine c_tf (by decide) (ws_next ?_)
    walk_at "w"
    refine c_tf (by decide) (ws_next ?_)
    walk_at "w"
    refine c_tf (by decide) (ws_next ?_)
    walk_at "w"
    refine c_tf (by decide) (ws_next ?_)
    walk_at "w"
    refine c_tf (by decide) (ws_next ?_)
    walk_at "w"
    refine c_tf (by decide) (ws_next ?_)
    walk_at "w"
    refine c_tf (by decide) (ws_next ?_)
    walk_at "w"
    refine c_tt (by decide) ?_
    refine ws_ret (ev_callB (F := mkF g C0 H0 E out hE) ?_)
    walk_at "w"
    refine ⟨out, h, ?_⟩
    cases out <;> rfl
  · show WS _ _ [.d (.int 11), .d d, .d w] [] _
    walk_at "w"
    refine c_tf (by decide) (ws_next ?_)
    walk_at "w"
    refine c_tf (by decide) (ws_next ?_)
    walk_at "w"
    refine c_tf (by decide) (ws_next ?_)
    walk_at "w"
    refine c_tf (by decide) (ws_next ?_)
    walk_at "w"
    refine c_tf (by decide) (ws_next ?_)
    walk_at "w"
    refine c_tf (by decide) (ws_next ?_)
    walk_at "w"
    refine c_tf (by decide) (ws_next ?_)
    walk_at "w"
    refine c_tf (by decide) (ws_next ?_)
    walk_at "w"
    refine c_tf (by decide) (ws_next ?_)
    walk_at "w"
    refine c_tf (by decide) (ws_next ?_)
    walk_at "w"
    refine c_tf (by decide) (ws_next ?_)
    walk_at "w"
    refine c_tt (by decide) ?_
    refine ws_ret (ev_callB (F := mkF g C0 H0 E out hE) ?_)
    walk_at "w"
    refine ⟨out, h, ?_⟩
    cases out <;> rfl

abbrev s_law_asked : Stmt := topS 60
theorem sc_law_asked : FnScope ["group", "kind", "one", "two", "three", "caught", "e"] ["group", "kind", "one", "two", "three"] (defScope s_law_asked) := ⟨rfl, rfl, rfl, by decide +kernel, rfl, by decide +kernel, by decide +kernel⟩
def doneS : Out → Str
  | .ret _ => "done"
  | .exc e => nameOf e
def askR (g i : Nat) (d w x : PyData) (o : Out) : Prop := if g = 1 then R_law_list [.int (i : Int), d, w, x] o else if g = 2 then R_law_pair [.int (i : Int), d, w, x] o else R_law_call [.int (i : Int), d, w] o
def R_law_asked : List PyData → Out → Prop := fun ds out => ∃ (g i : Nat) (d w x : PyData) (o : Out), ds = [.int (g : Int), .int (i : Int), d, w, x] ∧ askR g i d w x o ∧ out = .ret (.str (doneS o))
theorem len_law_asked : ∀ ds out, R_law_asked ds out → ds.length = 5 := by
  rintro _ _ ⟨_, _, _, _, _, _, rfl, _⟩; rfl
set_option maxHeartbeats 4000000 in
theorem ok_law_asked (Df : Def K mg "_law_asked" s_law_asked ["group", "kind", "one", "two", "three"]) (B : Bt mg) {a_W : Addr} (T : ErrT K mg g a_W) (n_law_list : Ent P w K mg base "_law_list" ["kind", "length", "width", "most"] 5 (SpD g R_law_list)) (n_law_pair : Ent P w K mg base "_law_pair" ["kind", "low", "high", "width"] 14 (SpD g R_law_pair)) (n_law_call : Ent P w K mg base "_law_call" ["kind", "one", "two"] 6 (SpD g R_law_call)) (n_law_error : Ent P w K mg base "_law_error" ["caught"] 1 (SpErr g)) : Ent P w K mg base "_law_asked" ["group", "kind", "one", "two", "three"] 15 (SpD g R_law_asked) := Df.ent fun f fd Fn => by
  refine fn_data (k := 14) Fn sc_law_asked (len_law_asked) (by decide) fun cdv A outer s H E hr => ⟨_, (pss_cons (ps_set (i := 5) sc_law_asked.nd rfl (by first | exact Or.inl rfl | exact Or.inr rfl) pe_non)
      (pss_cons (ps_try (i := 6) (j := 5) rfl rfl rfl sc_law_asked.nd rfl (by rfl) ⟨by rfl, by decide, .inl T.gw⟩ (takes_of rfl rfl rfl rfl) (fun W pn xe tk po => (pss_one (ps_if (pt_cmpR L2.op_eq (pv 0) pe_int (nomark _)) (pss_one (ps_expr (pe_entS n_law_list hr tk (pa_cons (pv 1) (pa_cons (pv 2) (pa_cons (pv 3) (pa_cons (pv 4) pa_nil))))))) (pss_one (ps_if (pt_cmpR L2.op_eq (pv 0) pe_int (nomark _)) (pss_one (ps_expr (pe_entS n_law_pair hr tk (pa_cons (pv 1) (pa_cons (pv 2) (pa_cons (pv 3) (pa_cons (pv 4) pa_nil))))))) (pss_one (ps_expr (pe_entS n_law_call hr tk (pa_cons (pv 1) (pa_cons (pv 2) (pa_cons (pv 3) pa_nil))))))))))) (fun a oe pn => (ps_set (i := 5) sc_law_asked.nd rfl (by first | exact Or.inl rfl | exact Or.inr rfl) (pv 6))))
      (pss_one (ps_ret (pe_ifExp (pt_cmpR op_isN1 (pv 5) pe_non (nomark _)) pe_str (pe_ent n_law_error hr (pass_own (takes_of rfl rfl rfl rfl)) (pa_cons (pv 5) pa_nil))))))), fun C0 H0 ds out hE hR => ?_⟩
  obtain ⟨gr, i, d, w', x', o, rfl, ho, rfl⟩ := hR
  show WS _ _ [.d (.int (gr : Int)), .d (.int (i : Int)), .d d, .d w', .d x', .un, .un] [] _
  walk_at "w"
  refine ws_try (g := g) (fun e ks' => o = .exc e ∧ ks' = [.d (.int (gr : Int)), .d (.int (i : Int)), .d d, .d w', .d x', .d .none, .un]) (by decide) (fun F' W f1 f2 f3 hW => ?_) ?_
  · unfold askR at ho
    walk_at "w"
    by_cases g1 : gr = 1
    · rw [if_pos g1] at ho
      refine c_tt (decide_eq_true (by omega)) (ws_drop (ev_callS hW ?_))
      walk_at "w"
      refine ⟨o, ho, ?_⟩
      cases o with
      | exc e => exact ⟨rfl, rfl⟩
      | ret x =>
        show WS (mkF g C0 H0 E (.ret (.str "done")) hE) _ _ _ _
        walk_at "w"
        refine c_tt (by rfl) ?_
        walk_at "w"
        rfl
    refine c_tf (decide_eq_false (by omega)) ?_
    rw [if_neg g1] at ho
    walk_at "w"
    by_cases g2 : gr = 2
    · rw [if_pos g2] at ho
      refine c_tt (decide_eq_true (by omega)) (ws_drop (ev_callS hW ?_))
      walk_at "w"
      refine ⟨o, ho, ?_⟩
      cases o with
      | exc e => exact ⟨rfl, rfl⟩
      | ret x =>
        show WS (mkF g C0 H0 E (.ret (.str "done")) hE) _ _ _ _
        walk_at "w"
        refine c_tt (by rfl) ?_
        walk_at "w"
        rfl
    refine c_tf (decide_eq_false (by omega)) ?_
    rw [if_neg g2] at ho
    refine ws_drop (ev_callS hW ?_)
    walk_at "w"
    refine ⟨o, ho, ?_⟩
    cases o with
    | exc e => exact ⟨rfl, rfl⟩
    | ret x =>
      show WS (mkF g C0 H0 E (.ret (.str "done")) hE) _ _ _ _
      walk_at "w"
      refine c_tt (by rfl) ?_
      walk_at "w"
      rfl
  · rintro e _ ⟨rfl, rfl⟩
    refine ⟨T.em _, by simp, fun x _ => ?_⟩
    show WS (mkF g C0 H0 E (.ret (.str (doneS (.exc e)))) hE) _ [.d (.int (gr : Int)), .d (.int (i : Int)), .d d, .d w', .d x', .v (.ref x), .un] [(x, .o (ExV (.ref (g e)) none x))] _
    refine ws_ret (ev_if (et_isNoneV rfl ⟨(fun z => nomatch z), fun _ => ?_⟩))
    exact ev_callE (e := e) rfl List.mem_cons_self rfl

abbrev s_law_call_M : Stmt := topS 59
theorem sc_law_call_M : FnScope ["kind", "one", "two"] ["kind", "one", "two"] (defScope s_law_call_M) := ⟨rfl, rfl, rfl, by decide +kernel, rfl, by decide +kernel, by decide +kernel⟩
--KIND raw
--SP (SpMk3 g fun d => isIntD d 1 12 = false)
/-- an if on the first argument that does not hold -/
theorem raw_skip {Ec : Ends} {σ : L2.St} {H : Hp} {j : Int} {a rest : L2.TS} (h0 : σ[0]? = some (some (V.int 12))) (hj : j ≠ 12) (h : rest Ec σ H) : tSeq (tIfS (tTest (tOp rEq (tVar 0) (tC (V.int j)))) a tNext) rest Ec σ H := by
  refine ⟨_, h0, rfl, _, rfl, ?_⟩
  have e : decide (V.int 12 = V.int j) = false := by simpa using fun z : (12 : Int) = j => hj z.symm
  rw [e]
  exact h
set_option maxHeartbeats 4000000 in
theorem ok_law_call_M (Df : Def K mg "_law_call" s_law_call_M ["kind", "one", "two"]) (TS : TxS K Cc) (B : Bt mg) (n_backward : Ent P w K mg base "backward" ["row"] 4 (SpD g R_backward)) (n_turned_over : Ent P w K mg base "turned_over" ["row"] 4 (SpD g R_turned_over)) (n_led : Ent P w K mg base "led" ["row", "table"] 4 (SpD g R_led)) (n_part_of : Ent P w K mg base "part_of" ["row", "first", "last"] 4 (SpD g R_part_of)) (n_joined : Ent P w K mg base "joined" ["one", "other"] 4 (SpD g R_joined)) (n_rank_of_low : Ent P w K mg base "rank_of_low" ["row", "width", "most"] 4 (SpD g R_rank_of_low)) (n_common_origin : Ent P w K mg base "common_origin" ["one", "first_width", "other", "second_width"] 5 (SpD g R_common_origin)) (n_format_row : Ent P w K mg base "format_row" ["row"] 4 (SpD g R_format_row)) (n_drawn : Ent P w K mg base "drawn" ["row"] 4 (SpD g R_drawn)) (n_is_origin : Ent P w K mg base "is_origin" ["other", "row", "width"] 5 (SpD g R_is_origin)) (n_Slider___init : IEnt P w K mg base Cc "Slider" ["self", "width"] 2 (SpIni Cc g fun d => isIntD d 1 12 = false)) (n_Slider_push : MEnt P w K mg base Cc "push" ["self", "value"] 2 (SpSl Cc g R_Slider_push)) (n_Slider_undo : MEnt P w K mg base Cc "undo" ["self"] 1 (SpSl Cc g R_Slider_undo)) : Ent P w K mg base "_law_call" ["kind", "one", "two"] 6 (SpMk3 g fun d => isIntD d 1 12 = false) := Df.ent fun f fd Fn => by
  refine Fn.okX (k := 5) sc_law_call_M ?_ (fun cdv A outer s H vs Q E hr h => ⟨_, (pss_cons (ps_if (pt_cmpR L2.op_eq (pv 0) pe_int (nomark _)) (pss_one (ps_ret (pe_ent n_backward hr (pass_own (takes_of rfl rfl rfl rfl)) (pa_cons (pv 1) pa_nil)))) pss_nil)
      (pss_cons (ps_if (pt_cmpR L2.op_eq (pv 0) pe_int (nomark _)) (pss_one (ps_ret (pe_ent n_turned_over hr (pass_own (takes_of rfl rfl rfl rfl)) (pa_cons (pv 1) pa_nil)))) pss_nil)
      (pss_cons (ps_if (pt_cmpR L2.op_eq (pv 0) pe_int (nomark _)) (pss_one (ps_ret (pe_ent n_led hr (pass_own (takes_of rfl rfl rfl rfl)) (pa_cons (pv 1) (pa_cons (pv 2) pa_nil))))) pss_nil)
      (pss_cons (ps_if (pt_cmpR L2.op_eq (pv 0) pe_int (nomark _)) (pss_one (ps_ret (pe_ent n_part_of hr (pass_own (takes_of rfl rfl rfl rfl)) (pa_cons (pv 1) (pa_cons (pv 2) (pa_cons pe_int pa_nil)))))) pss_nil)
      (pss_cons (ps_if (pt_cmpR L2.op_eq (pv 0) pe_int (nomark _)) (pss_one (ps_ret (pe_ent n_part_of hr (pass_own (takes_of rfl rfl rfl rfl)) (pa_cons (pv 1) (pa_cons pe_int (pa_cons (pv 2) pa_nil)))))) pss_nil)
      (pss_cons (ps_if (pt_cmpR L2.op_eq (pv 0) pe_int (nomark _)) (pss_one (ps_ret (pe_ent n_joined hr (pass_own (takes_of rfl rfl rfl rfl)) (pa_cons (pv 1) (pa_cons (pv 2) pa_nil))))) pss_nil)
      (pss_cons (ps_if (pt_cmpR L2.op_eq (pv 0) pe_int (nomark _)) (pss_one (ps_ret (pe_ent n_rank_of_low hr (pass_own (takes_of rfl rfl rfl rfl)) (pa_cons (pv 1) (pa_cons (pv 2) (pa_cons pe_int pa_nil)))))) pss_nil)
      (pss_cons (ps_if (pt_cmpR L2.op_eq (pv 0) pe_int (nomark _)) (pss_one (ps_ret (pe_ent n_rank_of_low hr (pass_own (takes_of rfl rfl rfl rfl)) (pa_cons (pe_lst (pa_cons pe_int (pa_cons pe_int pa_nil))) (pa_cons pe_int (pa_cons (pv 1) pa_nil)))))) pss_nil)
      (pss_cons (ps_if (pt_cmpR L2.op_eq (pv 0) pe_int (nomark _)) (pss_one (ps_ret (pe_ent n_common_origin hr (pass_own (takes_of rfl rfl rfl rfl)) (pa_cons (pv 1) (pa_cons pe_int (pa_cons (pv 2) (pa_cons pe_int pa_nil))))))) pss_nil)
      (pss_cons (ps_if (pt_cmpR L2.op_eq (pv 0) pe_int (nomark _)) (pss_one (ps_ret (pe_ent n_format_row hr (pass_own (takes_of rfl rfl rfl rfl)) (pa_cons (pv 1) pa_nil)))) pss_nil)
      (pss_cons (ps_if (pt_cmpR L2.op_eq (pv 0) pe_int (nomark _)) (pss_one (ps_ret (pe_ent n_drawn hr (pass_own (takes_of rfl rfl rfl rfl)) (pa_cons (pv 1) pa_nil)))) pss_nil)
      (pss_cons (ps_if (pt_cmpR L2.op_eq (pv 0) pe_int (nomark _)) (pss_one (ps_ret (pe_ent n_is_origin hr (pass_own (takes_of rfl rfl rfl rfl)) (pa_cons (pv 1) (pa_cons (pv 2) (pa_cons pe_int pa_nil)))))) pss_nil)
      (pss_cons (ps_if (pt_cmpR L2.op_eq (pv 0) pe_int (nomark _)) (pss_one (ps_ret (pe_ient n_Slider___init hr (pass_own (takes_of rfl rfl rfl rfl)) (pa_cons (pv 1) pa_nil)))) pss_nil)
      (pss_one (ps_ret (pe_ifExp (pt_cmpR L2.op_eq (pv 0) pe_int (nomark _)) (pe_ment n_Slider_push TS hr (pass_own (takes_of rfl rfl rfl rfl)) (pv 1) (pa_cons (pv 2) pa_nil)) (pe_ment0 n_Slider_undo TS hr (pass_own (takes_of rfl rfl rfl rfl)) (pv 1)))))))))))))))))), ?_⟩)
  · rintro vs H Q E ⟨C, u1, u2, d, rfl, _⟩
    rfl
  · obtain ⟨C, u1, u2, d, rfl, eC, hd, hB, hor, hQ⟩ := h
    refine raw_skip rfl (by decide) ?_
    refine raw_skip rfl (by decide) ?_
    refine raw_skip rfl (by decide) ?_
    refine raw_skip rfl (by decide) ?_
    refine raw_skip rfl (by decide) ?_
    refine raw_skip rfl (by decide) ?_
    refine raw_skip rfl (by decide) ?_
    refine raw_skip rfl (by decide) ?_
    refine raw_skip rfl (by decide) ?_
    refine raw_skip rfl (by decide) ?_
    refine raw_skip rfl (by decide) ?_
    refine raw_skip rfl (by decide) ?_
    refine ⟨_, rfl, rfl, _, rfl, ?_⟩
    have e12 : decide (V.int 12 = V.int 12) = true := decide_eq_true rfl
    rw [e12]
    refine iteT ?_
    refine ⟨u1, rfl, fun x dx nx nd ne => ?_⟩
    have up : ∀ a o, H a = some o → a ≠ x ∧ a ≠ dx := fun a o e => ⟨(fun z => by rw [z, nx] at e; cases e), (fun z => by rw [z, nd] at e; cases e)⟩
    have hx : ∀ a o, H a = some o → (upd (upd H dx (.own x)) x (.ins Cc dx [])) a = some o := fun a o e => by
      obtain ⟨n1, n2⟩ := up a o e
      rw [upd_ne n1, upd_ne n2]; exact e
    refine ⟨C, x, dx, u1, d, rfl, fun a o z => hx a o (eC a o z), eC.free nx, eC.free nd, Ne.symm ne, upd_same, by rw [upd_ne ne, upd_same], hd, fun hb H' C' kp _ _ => hB hb H' fun a o z => kp a o (hx a o z) (up a o z).1 (up a o z).2, fun k ek k1 k2 A' H' C' _ _ _ _ _ kp _ _ _ => ⟨rfl, hQ ?_ _ H' fun a o z => kp a o (hx a o z) (up a o z).1 (up a o z).2⟩⟩
    show ¬ isIntD d 1 12 = false
    rw [ek, int_ok k1 k2]
    decide

abbrev s_law_asked_M : Stmt := topS 60
theorem sc_law_asked_M : FnScope ["group", "kind", "one", "two", "three", "caught", "e"] ["group", "kind", "one", "two", "three"] (defScope s_law_asked_M) := ⟨rfl, rfl, rfl, by decide +kernel, rfl, by decide +kernel, by decide +kernel⟩
def R_law_asked_M : List PyData → Out → Prop := fun ds out => ∃ (d w x : PyData), ds = [.int 3, .int 12, d, w, x] ∧ ((isIntD d 1 12 = false ∧ out = .ret (.str "width")) ∨ ∃ k : Int, d = .int k ∧ 1 ≤ k ∧ k ≤ 12 ∧ out = .ret (.str "done"))
theorem len_law_asked_M : ∀ ds out, R_law_asked_M ds out → ds.length = 5 := by
  rintro _ _ ⟨_, _, _, rfl, _⟩; rfl
set_option maxHeartbeats 4000000 in
theorem ok_law_asked_M (Df : Def K mg "_law_asked" s_law_asked_M ["group", "kind", "one", "two", "three"]) (B : Bt mg) {a_W : Addr} (T : ErrT K mg g a_W) (n_law_list : Ent P w K mg base "_law_list" ["kind", "length", "width", "most"] 5 (SpD g R_law_list)) (n_law_pair : Ent P w K mg base "_law_pair" ["kind", "low", "high", "width"] 14 (SpD g R_law_pair)) (n_law_call_M : Ent P w K mg base "_law_call" ["kind", "one", "two"] 6 (SpMk3 g fun d => isIntD d 1 12 = false)) (n_law_error : Ent P w K mg base "_law_error" ["caught"] 1 (SpErr g)) : Ent P w K mg base "_law_asked" ["group", "kind", "one", "two", "three"] 15 (SpD g R_law_asked_M) := Df.ent fun f fd Fn => by
  refine fn_data (k := 14) Fn sc_law_asked_M (len_law_asked_M) (by decide) fun cdv A outer s H E hr => ⟨_, (pss_cons (ps_set (i := 5) sc_law_asked_M.nd rfl (by first | exact Or.inl rfl | exact Or.inr rfl) pe_non)
      (pss_cons (ps_try (i := 6) (j := 5) rfl rfl rfl sc_law_asked_M.nd rfl (by rfl) ⟨by rfl, by decide, .inl T.gw⟩ (takes_of rfl rfl rfl rfl) (fun W pn xe tk po => (pss_one (ps_if (pt_cmpR L2.op_eq (pv 0) pe_int (nomark _)) (pss_one (ps_expr (pe_entS n_law_list hr tk (pa_cons (pv 1) (pa_cons (pv 2) (pa_cons (pv 3) (pa_cons (pv 4) pa_nil))))))) (pss_one (ps_if (pt_cmpR L2.op_eq (pv 0) pe_int (nomark _)) (pss_one (ps_expr (pe_entS n_law_pair hr tk (pa_cons (pv 1) (pa_cons (pv 2) (pa_cons (pv 3) (pa_cons (pv 4) pa_nil))))))) (pss_one (ps_expr (pe_entS n_law_call_M hr tk (pa_cons (pv 1) (pa_cons (pv 2) (pa_cons (pv 3) pa_nil))))))))))) (fun a oe pn => (ps_set (i := 5) sc_law_asked_M.nd rfl (by first | exact Or.inl rfl | exact Or.inr rfl) (pv 6))))
      (pss_one (ps_ret (pe_ifExp (pt_cmpR op_isN1 (pv 5) pe_non (nomark _)) pe_str (pe_ent n_law_error hr (pass_own (takes_of rfl rfl rfl rfl)) (pa_cons (pv 5) pa_nil))))))), fun C0 H0 ds out hE hR => ?_⟩
  obtain ⟨d, w', x', rfl, hb⟩ := hR
  show WS _ _ [.d (.int 3), .d (.int 12), .d d, .d w', .d x', .un, .un] [] _
  walk_at "w"
  refine ws_try (g := g) (fun e ks' => isIntD d 1 12 = false ∧ e = .width ∧ ks' = [.d (.int 3), .d (.int 12), .d d, .d w', .d x', .d .none, .un]) (by decide) (fun F' W f1 f2 f3 hW => ?_) ?_
  · walk_at "w"
    refine c_tf (by decide) ?_
    walk_at "w"
    refine c_tf (by decide) ?_
    refine ws_dropMk hW ?_
    walk_at "w"
    refine ⟨d, w', rfl, ?_, fun h => ⟨h, rfl, rfl⟩, fun h => ?_⟩
    · rcases hb with ⟨h, _⟩ | ⟨k, rfl, k1, k2, _⟩
      · exact .inl h
      · exact .inr ⟨k, rfl, k1, k2, by rw [int_ok k1 k2]; decide⟩
    · have ho : out = .ret (.str "done") := by
        rcases hb with ⟨z, _⟩ | ⟨k, rfl, k1, k2, ho⟩
        · exact absurd z h
        · exact ho
      subst ho
      show WS (mkF g C0 H0 E (.ret (.str "done")) hE) _ _ _ _
      walk_at "w"
      refine c_tt (by rfl) ?_
      walk_at "w"
      rfl
  · rintro e _ ⟨h, rfl, rfl⟩
    have ho : out = .ret (.str "width") := by
      rcases hb with ⟨_, ho⟩ | ⟨k, rfl, k1, k2, _⟩
      · exact ho
      · rw [int_ok k1 k2] at h; cases h
    subst ho
    refine ⟨T.em _, by simp, fun x _ => ?_⟩
    show WS (mkF g C0 H0 E (.ret (.str (nameOf .width))) hE) _ [.d (.int 3), .d (.int 12), .d d, .d w', .d x', .v (.ref x), .un] [(x, .o (ExV (.ref (g .width)) none x))] _
    refine ws_ret (ev_if (et_isNoneV rfl ⟨(fun z => nomatch z), fun _ => ?_⟩))
    exact ev_callE (e := .width) rfl List.mem_cons_self rfl

abbrev s_law_call_S : Stmt := topS 59
theorem sc_law_call_S : FnScope ["kind", "one", "two"] ["kind", "one", "two"] (defScope s_law_call_S) := ⟨rfl, rfl, rfl, by decide +kernel, rfl, by decide +kernel, by decide +kernel⟩
--SP (SpX3 Cc g R_law_call_S)
--KIND x3
def R_law_call_S : List PyData → SlS → Exn → Prop := fun ds S e => ∃ (k : Nat) (vs : List Int) (d : PyData), S = stN k vs ∧ 1 ≤ k ∧ vs.length < 1000 ∧ ((ds = [.int 13, d] ∧ isIntD d 0 9 = false ∧ e = .number) ∨ (ds = [.int 14, d] ∧ vs = [] ∧ e = .gone))
theorem mpush : ∀ {m : Str}, m = "push" → ¬ m = nW ∧ ¬ m = nV ∧ ¬ m = nL ∧ ¬ m = nP := fun {m} e => by rw [e]; exact ⟨by decide +kernel, by decide +kernel, by decide +kernel, by decide +kernel⟩
theorem mundo : ∀ {m : Str}, m = "undo" → ¬ m = nW ∧ ¬ m = nV ∧ ¬ m = nL ∧ ¬ m = nP := fun {m} e => by rw [e]; exact ⟨by decide +kernel, by decide +kernel, by decide +kernel, by decide +kernel⟩
set_option maxHeartbeats 4000000 in
theorem ok_law_call_S (Df : Def K mg "_law_call" s_law_call_S ["kind", "one", "two"]) (TS : TxS K Cc) (B : Bt mg) (n_backward : Ent P w K mg base "backward" ["row"] 4 (SpD g R_backward)) (n_turned_over : Ent P w K mg base "turned_over" ["row"] 4 (SpD g R_turned_over)) (n_led : Ent P w K mg base "led" ["row", "table"] 4 (SpD g R_led)) (n_part_of : Ent P w K mg base "part_of" ["row", "first", "last"] 4 (SpD g R_part_of)) (n_joined : Ent P w K mg base "joined" ["one", "other"] 4 (SpD g R_joined)) (n_rank_of_low : Ent P w K mg base "rank_of_low" ["row", "width", "most"] 4 (SpD g R_rank_of_low)) (n_common_origin : Ent P w K mg base "common_origin" ["one", "first_width", "other", "second_width"] 5 (SpD g R_common_origin)) (n_format_row : Ent P w K mg base "format_row" ["row"] 4 (SpD g R_format_row)) (n_drawn : Ent P w K mg base "drawn" ["row"] 4 (SpD g R_drawn)) (n_is_origin : Ent P w K mg base "is_origin" ["other", "row", "width"] 5 (SpD g R_is_origin)) (n_Slider___init : IEnt P w K mg base Cc "Slider" ["self", "width"] 2 (SpIni Cc g fun d => isIntD d 1 12 = false)) (n_Slider_push : MEnt P w K mg base Cc "push" ["self", "value"] 2 (SpSl Cc g R_Slider_push)) (n_Slider_undo : MEnt P w K mg base Cc "undo" ["self"] 1 (SpSl Cc g R_Slider_undo)) : Ent P w K mg base "_law_call" ["kind", "one", "two"] 6 (SpX3 Cc g R_law_call_S) := Df.ent fun f fd Fn => by
  refine fn_x3 (k := 5) (Cc := Cc) (g := g) (Rx := R_law_call_S) Fn sc_law_call_S fun cdv Ar outer s H E hr => ⟨_, (pss_cons (ps_if (pt_cmpR L2.op_eq (pv 0) pe_int (nomark _)) (pss_one (ps_ret (pe_ent n_backward hr (pass_own (takes_of rfl rfl rfl rfl)) (pa_cons (pv 1) pa_nil)))) pss_nil)
      (pss_cons (ps_if (pt_cmpR L2.op_eq (pv 0) pe_int (nomark _)) (pss_one (ps_ret (pe_ent n_turned_over hr (pass_own (takes_of rfl rfl rfl rfl)) (pa_cons (pv 1) pa_nil)))) pss_nil)
      (pss_cons (ps_if (pt_cmpR L2.op_eq (pv 0) pe_int (nomark _)) (pss_one (ps_ret (pe_ent n_led hr (pass_own (takes_of rfl rfl rfl rfl)) (pa_cons (pv 1) (pa_cons (pv 2) pa_nil))))) pss_nil)
      (pss_cons (ps_if (pt_cmpR L2.op_eq (pv 0) pe_int (nomark _)) (pss_one (ps_ret (pe_ent n_part_of hr (pass_own (takes_of rfl rfl rfl rfl)) (pa_cons (pv 1) (pa_cons (pv 2) (pa_cons pe_int pa_nil)))))) pss_nil)
      (pss_cons (ps_if (pt_cmpR L2.op_eq (pv 0) pe_int (nomark _)) (pss_one (ps_ret (pe_ent n_part_of hr (pass_own (takes_of rfl rfl rfl rfl)) (pa_cons (pv 1) (pa_cons pe_int (pa_cons (pv 2) pa_nil)))))) pss_nil)
      (pss_cons (ps_if (pt_cmpR L2.op_eq (pv 0) pe_int (nomark _)) (pss_one (ps_ret (pe_ent n_joined hr (pass_own (takes_of rfl rfl rfl rfl)) (pa_cons (pv 1) (pa_cons (pv 2) pa_nil))))) pss_nil)
      (pss_cons (ps_if (pt_cmpR L2.op_eq (pv 0) pe_int (nomark _)) (pss_one (ps_ret (pe_ent n_rank_of_low hr (pass_own (takes_of rfl rfl rfl rfl)) (pa_cons (pv 1) (pa_cons (pv 2) (pa_cons pe_int pa_nil)))))) pss_nil)
      (pss_cons (ps_if (pt_cmpR L2.op_eq (pv 0) pe_int (nomark _)) (pss_one (ps_ret (pe_ent n_rank_of_low hr (pass_own (takes_of rfl rfl rfl rfl)) (pa_cons (pe_lst (pa_cons pe_int (pa_cons pe_int pa_nil))) (pa_cons pe_int (pa_cons (pv 1) pa_nil)))))) pss_nil)
      (pss_cons (ps_if (pt_cmpR L2.op_eq (pv 0) pe_int (nomark _)) (pss_one (ps_ret (pe_ent n_common_origin hr (pass_own (takes_of rfl rfl rfl rfl)) (pa_cons (pv 1) (pa_cons pe_int (pa_cons (pv 2) (pa_cons pe_int pa_nil))))))) pss_nil)
      (pss_cons (ps_if (pt_cmpR L2.op_eq (pv 0) pe_int (nomark _)) (pss_one (ps_ret (pe_ent n_format_row hr (pass_own (takes_of rfl rfl rfl rfl)) (pa_cons (pv 1) pa_nil)))) pss_nil)
      (pss_cons (ps_if (pt_cmpR L2.op_eq (pv 0) pe_int (nomark _)) (pss_one (ps_ret (pe_ent n_drawn hr (pass_own (takes_of rfl rfl rfl rfl)) (pa_cons (pv 1) pa_nil)))) pss_nil)
      (pss_cons (ps_if (pt_cmpR L2.op_eq (pv 0) pe_int (nomark _)) (pss_one (ps_ret (pe_ent n_is_origin hr (pass_own (takes_of rfl rfl rfl rfl)) (pa_cons (pv 1) (pa_cons (pv 2) (pa_cons pe_int pa_nil)))))) pss_nil)
      (pss_cons (ps_if (pt_cmpR L2.op_eq (pv 0) pe_int (nomark _)) (pss_one (ps_ret (pe_ient n_Slider___init hr (pass_own (takes_of rfl rfl rfl rfl)) (pa_cons (pv 1) pa_nil)))) pss_nil)
      (pss_one (ps_ret (pe_ifExp (pt_cmpR L2.op_eq (pv 0) pe_int (nomark _)) (pe_ment n_Slider_push TS hr (pass_own (takes_of rfl rfl rfl rfl)) (pv 1) (pa_cons (pv 2) pa_nil)) (pe_ment0 n_Slider_undo TS hr (pass_own (takes_of rfl rfl rfl rfl)) (pv 1)))))))))))))))))), fun C0 H0 A S d0 d2 e nd hR hX => ?_⟩
  obtain ⟨k, vs, d, rfl, k1, hl, hb⟩ := hR
  have hi : ∃ n : Int, d0 = .int n ∧ 12 < n := by
    rcases hb with ⟨e1, _⟩ | ⟨e1, _⟩
    · injection e1 with e1 _; exact ⟨13, e1, by decide⟩
    · injection e1 with e1 _; exact ⟨14, e1, by decide⟩
  obtain ⟨n, rfl, n12⟩ := hi
  walk_at "w"
  refine c_tf (decide_eq_false (by omega)) (ws_next ?_)
  walk_at "w"
  refine c_tf (decide_eq_false (by omega)) (ws_next ?_)
  walk_at "w"
  refine c_tf (decide_eq_false (by omega)) (ws_next ?_)
  walk_at "w"
  refine c_tf (decide_eq_false (by omega)) (ws_next ?_)
  walk_at "w"
  refine c_tf (decide_eq_false (by omega)) (ws_next ?_)
  walk_at "w"
  refine c_tf (decide_eq_false (by omega)) (ws_next ?_)
  walk_at "w"
  refine c_tf (decide_eq_false (by omega)) (ws_next ?_)
  walk_at "w"
  refine c_tf (decide_eq_false (by omega)) (ws_next ?_)
  walk_at "w"
  refine c_tf (decide_eq_false (by omega)) (ws_next ?_)
  walk_at "w"
  refine c_tf (decide_eq_false (by omega)) (ws_next ?_)
  walk_at "w"
  refine c_tf (decide_eq_false (by omega)) (ws_next ?_)
  walk_at "w"
  refine c_tf (decide_eq_false (by omega)) (ws_next ?_)
  walk_at "w"
  refine c_tf (decide_eq_false (by omega)) (ws_next ?_)
  refine ws_ret (ev_if ?_)
  walk_at "w"
  rcases hb with ⟨e1, hd, rfl⟩ | ⟨e1, rfl, rfl⟩
  · injection e1 with e1 e2
    injection e1 with e1
    injection e2 with e2 _
    subst e1 e2
    exact c_tt (by decide) (ev_methX rfl (fun _ z => z) nd (mpush rfl) (ea_cons (ev_var rfl (ea_nil ⟨.number, ⟨k, vs, _, rfl, rfl, k1, hl, .inl ⟨hd, rfl, rfl⟩⟩, fun ms σ ks H C hs r => hX ms σ ks H C hs r⟩))))
  · injection e1 with e1 e2
    injection e1 with e1
    subst e1
    exact c_tf (by decide) (ev_methX rfl (fun _ z => z) nd (mundo rfl) (ea_nil ⟨.gone, ⟨k, [], rfl, rfl, .inl ⟨rfl, rfl, rfl⟩⟩, fun ms σ ks H C hs r => hX ms σ ks H C hs r⟩))

abbrev s_law_asked_S : Stmt := topS 60
theorem sc_law_asked_S : FnScope ["group", "kind", "one", "two", "three", "caught", "e"] ["group", "kind", "one", "two", "three"] (defScope s_law_asked_S) := ⟨rfl, rfl, rfl, by decide +kernel, rfl, by decide +kernel, by decide +kernel⟩
--SP (SpSl5 Cc R_law_asked_S)
--KIND sl5
def R_law_asked_S : List PyData → SlS → PyData → Prop := fun ds S r => ∃ (i d x : PyData) (e : Exn), ds = [.int 3, i, d, x] ∧ R_law_call_S [i, d] S e ∧ r = .str (nameOf e)
set_option maxHeartbeats 4000000 in
theorem ok_law_asked_S (Df : Def K mg "_law_asked" s_law_asked_S ["group", "kind", "one", "two", "three"]) (TS : TxS K Cc) (B : Bt mg) {a_W : Addr} (T : ErrT K mg g a_W) (n_law_list : Ent P w K mg base "_law_list" ["kind", "length", "width", "most"] 5 (SpD g R_law_list)) (n_law_pair : Ent P w K mg base "_law_pair" ["kind", "low", "high", "width"] 14 (SpD g R_law_pair)) (n_law_call_S : Ent P w K mg base "_law_call" ["kind", "one", "two"] 6 (SpX3 Cc g R_law_call_S)) (n_law_error : Ent P w K mg base "_law_error" ["caught"] 1 (SpErr g)) : Ent P w K mg base "_law_asked" ["group", "kind", "one", "two", "three"] 15 (SpSl5 Cc R_law_asked_S) := Df.ent fun f fd Fn => by
  refine fn_sl5 (k := 14) (Cc := Cc) (g := g) (Rl := R_law_asked_S) Fn sc_law_asked_S fun cdv Ar outer s H E hr => ⟨_, (pss_cons (ps_set (i := 5) sc_law_asked_S.nd rfl (by first | exact Or.inl rfl | exact Or.inr rfl) pe_non)
      (pss_cons (ps_try (i := 6) (j := 5) rfl rfl rfl sc_law_asked_S.nd rfl (by rfl) ⟨by rfl, by decide, .inl T.gw⟩ (takes_of rfl rfl rfl rfl) (fun W pn xe tk po => (pss_one (ps_if (pt_cmpR L2.op_eq (pv 0) pe_int (nomark _)) (pss_one (ps_expr (pe_entS n_law_list hr tk (pa_cons (pv 1) (pa_cons (pv 2) (pa_cons (pv 3) (pa_cons (pv 4) pa_nil))))))) (pss_one (ps_if (pt_cmpR L2.op_eq (pv 0) pe_int (nomark _)) (pss_one (ps_expr (pe_entS n_law_pair hr tk (pa_cons (pv 1) (pa_cons (pv 2) (pa_cons (pv 3) (pa_cons (pv 4) pa_nil))))))) (pss_one (ps_expr (pe_entS n_law_call_S hr tk (pa_cons (pv 1) (pa_cons (pv 2) (pa_cons (pv 3) pa_nil))))))))))) (fun a oe pn => (ps_set (i := 5) sc_law_asked_S.nd rfl (by first | exact Or.inl rfl | exact Or.inr rfl) (pv 6))))
      (pss_one (ps_ret (pe_ifExp (pt_cmpR op_isN1 (pv 5) pe_non (nomark _)) pe_str (pe_ent n_law_error hr (pass_own (takes_of rfl rfl rfl rfl)) (pa_cons (pv 5) pa_nil))))))), fun C0 H0 A S d0 d1 d3 d4 rr nd hR => ?_⟩
  obtain ⟨i, d, x, e, hds, hR, rfl⟩ := hR
  injection hds with z0 hds
  injection hds with z1 hds
  injection hds with z2 hds
  injection hds with z3 _
  subst z0 z1 z2 z3
  walk_at "w"
  refine ws_try (g := g) (fun e' ks' => e' = e ∧ ks' = [.d (.int 3), .d d1, .v (.ref A.x), .d d3, .d d4, .d .none, .un]) (by decide) (fun F' W f1 f2 f3 hW => ?_) ?_
  · walk_at "w"
    refine c_tf (by decide) ?_
    walk_at "w"
    refine c_tf (by decide) ?_
    exact ws_dropX3 (S := S) hW rfl (fun _ z => z) nd (ev_var rfl (ev_var rfl ⟨e, hR, rfl, rfl⟩))
  · rintro e' _ ⟨h1, rfl⟩
    have h1 : e' = e := h1
    rw [h1]
    refine ⟨T.em _, by simp, fun y _ => ?_⟩
    show WS (s5F g C0 H0 E Cc A S (.str (nameOf e))) _ [.d (.int 3), .d d1, .v (.ref A.x), .d d3, .d d4, .v (.ref y), .un] ((y, .o (ExV (.ref (g e)) none y)) :: slM Cc A S) _
    refine ws_ret (ev_if (et_isNoneV rfl ⟨(fun z => nomatch z), fun _ => ?_⟩))
    exact ev_callE (e := e) rfl List.mem_cons_self ⟨rfl, List.subset_cons_self _ _⟩

abbrev s_Slider_places_F : Stmt := inClass (topS 49) 3
theorem sc_Slider_places_F : FnScope ["self"] ["self"] (defScope s_Slider_places_F) := ⟨rfl, rfl, rfl, by decide +kernel, rfl, by decide +kernel, by decide +kernel⟩
--SP (SpNewL Cc R_Slider_places_F)
--KIND line
def R_Slider_places_F : SlS → List Int → Prop := fun S xs => xs = S.line
set_option maxHeartbeats 4000000 in
theorem ok_Slider_places_F (Df : DefM K Cc "places" "Slider.places" s_Slider_places_F ["self"]) (TS : TxS K Cc) (B : Bt mg) : MEnt P w K mg base Cc "places" ["self"] 1 (SpNewL Cc R_Slider_places_F) := Df.ent fun f fd Fn => by
  exact fn_line (k := 0) TS (fun S xs h => h) Fn sc_Slider_places_F fun cdv Ar outer s H E hr => (pss_one (ps_ret (pe_callTy (k_listOf (K := K)) (by rfl) B.b_list (by decide +kernel) (pa_cons (k_fld (K := K) (pv 0) rfl) pa_nil))))


abbrev s_Slider_low_row_F : Stmt := inClass (topS 49) 4
theorem sc_Slider_low_row_F : FnScope ["self", "found", "first"] ["self"] (defScope s_Slider_low_row_F) := ⟨rfl, rfl, rfl, by decide +kernel, rfl, by decide +kernel, by decide +kernel⟩
--SP (SpNewL Cc R_Slider_low_row_F)
--KIND new
def R_Slider_low_row_F : SlS → List Int → Prop := fun S xs => ∃ (k : Nat) (vs : List Int), S = stN k vs ∧ 1 ≤ k ∧ k ≤ 12 ∧ vs.length ≤ 1000 ∧ xs = lowsN vs k
set_option maxHeartbeats 4000000 in
theorem ok_Slider_low_row_F (Df : DefM K Cc "low_row" "Slider.low_row" s_Slider_low_row_F ["self"]) (TS : TxS K Cc) (B : Bt mg) : MEnt P w K mg base Cc "low_row" ["self"] 1 (SpNewL Cc R_Slider_low_row_F) := Df.ent fun f fd Fn => by
  refine fn_new (k := 0) (i := 1) (Cc := Cc) (g := fun _ => 0) (Rn := R_Slider_low_row_F) Fn sc_Slider_low_row_F (by decide) fun cdv Ar outer s H E hr => ⟨_, _, (pss_cons (ps_set (i := 1) sc_Slider_low_row_F.nd rfl (by first | exact Or.inl rfl | exact Or.inr rfl) (pe_lst pa_nil))
      (pss_cons (ps_for (passes_of rfl) rfl (pi_range1 (by rfl) B.b_range (pa_cons (pe_op L2.op_add (pe_op L2.op_sub (pe_callB (k_len (K := K)) (by rfl) B.b_len (by decide +kernel) (pa_cons (k_fld (K := K) (pv 0) rfl) pa_nil)) (k_fld (K := K) (pv 0) rfl)) pe_int) pa_nil)) (pg_name (i := 2) sc_Slider_low_row_F.nd rfl (by first | exact Or.inl rfl | exact Or.inr rfl)) (pss_one (ps_expr (k_bm (K := K) PySem.F.plainAttrs_list PySem.F.slot_list_append PySem.F.type_list_append L2.mt_append (pv 1) (pa_cons (pe_callB (k_min (K := K)) (by rfl) B.b_min (by decide +kernel) (pa_cons (pe_slice (k_slL (K := K)) (k_fld (K := K) (pv 0) rfl) (po_some (pv 2)) (po_some (pe_op L2.op_add (pv 2) (k_fld (K := K) (pv 0) rfl)))) pa_nil)) pa_nil)))))
      (pss_one (ps_ret (pv 1))))), fun C0 H0 A S xs nd hR => ?_⟩
  obtain ⟨k, vs, rfl, k1, k2, hl, rfl⟩ := hR
  show WS _ _ [.v (.ref A.x), .un, .un] (slM Cc A (stN k vs)) _
  refine ws_seq (ws_asgM (ea_nil ⟨by decide, fun l hf => ?_⟩))
  have hs : slM Cc A (stN k vs) ⊆ (l, MO.l []) :: slM Cc A (stN k vs) := List.subset_cons_self _ _
  have hv : ∀ {m : Addr × MO}, (A.vi, MO.l (vs.map PyData.int)) ∈ m :: slM Cc A (stN k vs) := fun {m} => List.mem_cons_of_mem _ (List.mem_cons_of_mem _ (List.mem_cons_of_mem _ List.mem_cons_self))
  refine ws_for (vs := [2]) ?_
  refine ei_range1 (ea_cons (ev_op (ev_op (ev_lenA (ra_V TS rfl hs) hv (ev_fW TS rfl hs (op_int (ev_cI (op_int ?_))))))))
  rw [List.length_map]
  refine ea_nil ⟨_, rfl, ?_, ?_, ?_⟩
  · show (-100000 : Int) ≤ (vs.length : Int) - (k : Int) + 1
    omega
  · show (vs.length : Int) - (k : Int) + 1 ≤ 100000
    omega
  show ∃ I, _
  rw [show ((vs.length : Int) - (stN k vs).k + 1).toNat = vs.length + 1 - k by show ((vs.length : Int) - (k : Int) + 1).toNat = _; omega, rangeD_len]
  refine ⟨fun i ks ms => i ≤ vs.length + 1 - k ∧ ms = (l, .l ((List.range i).map fun f => PyData.int (minL (win vs k f)))) :: slM Cc A (stN k vs) ∧ ∃ x, ks = [.v (.ref A.x), .v (.ref l), x], ⟨Nat.zero_le _, rfl, _, rfl⟩, ?_, ?_⟩
  · rintro i d _ _ hd ⟨_, rfl, x, rfl⟩
    obtain ⟨hi, rfl⟩ := rangeD_get hd
    refine ⟨_, sg_name (by decide), ?_⟩
    refine ws_appendH rfl hf (by simp; omega) ?_
    refine ev_cb (ea_cons (ev_slA (ra_V (S := stN k vs) TS rfl (List.subset_cons_self _ _)) hv (eo_some (ev_var rfl ⟨_, rfl, eo_some (ev_op (ev_var rfl (ev_fW (S := stN k vs) TS rfl (List.subset_cons_self _ _) (op_int ⟨_, rfl, ?_⟩))))⟩))))
    have ec : cut (vs.map PyData.int) (some ((0 : Int) + (i : Int))) (some ((0 : Int) + (i : Int) + (k : Int))) = (win vs k i).map PyData.int := by rw [cut_map, cut_win]
    show EvA _ _ _ _ fun xs => OpN _ _ _ _ (PyData.list (cut (vs.map PyData.int) (some ((0 : Int) + (i : Int))) (some ((0 : Int) + (i : Int) + (k : Int)))) :: xs) _
    rw [ec]
    refine ea_nil (on_min (win_ne k1 (by omega)) ⟨hi, ?_, _, rfl⟩)
    rw [List.range_succ, List.map_append]
    rfl
  · rintro _ _ ⟨_, rfl, x, rfl⟩
    refine ⟨l, rfl, ?_, hf, List.subset_cons_self _ _⟩
    have e : (lowsN vs k).map PyData.int = (List.range (vs.length + 1 - k)).map fun f => PyData.int (minL (win vs k f)) := by
      unfold lowsN
      rw [List.map_map]
      rfl
    rw [e]
    exact List.mem_cons_self

abbrev s_law_slider : Stmt := topS 61
theorem sc_law_slider : FnScope ["bad", "shown", "value"] [] (defScope s_law_slider) := ⟨rfl, rfl, rfl, by decide +kernel, rfl, by decide +kernel, by decide +kernel⟩
theorem op_neSS {F : FC} {R : Mem} {ks : List SK} {P : PyData → Prop} {K : PySem.W.Frag} {a b : List Str} (ha : ∀ z ∈ a, PySem.PyData.strOk z = true) (e : a = b) (p : P (.bool false)) : Op2 F R ks (rNeD K) (dS a) (dS b) P := by
  subst e
  have sh : Shp 1 (dS a) := sh_list fun x hx => by
    obtain ⟨y, hy, rfl⟩ := List.mem_map.mp hx
    exact sh_str 0 (ha y hy)
  refine op_ned (sh.ok (by decide)) (sh.ok (by decide)) ?_
  rw [show PyData.eqv (dS a) (dS a) = true from (ap_list ap_str a a).trans (decide_eq_true rfl)]
  exact p
theorem op_neS1 {F : FC} {R : Mem} {ks : List SK} {P : PyData → Prop} {K : PySem.W.Frag} {a : Str} (ha : PySem.PyData.strOk a = true) (p : P (.bool false)) : Op2 F R ks (rNeD K) (.str a) (.str a) P := by
  refine op_ned ((sh_str 0 ha).ok (by decide)) ((sh_str 0 ha).ok (by decide)) ?_
  rw [show PyData.eqv (.str a) (.str a) = true from (ap_str a a).trans (decide_eq_true rfl)]
  exact p
theorem op_eqS1 {F : FC} {R : Mem} {ks : List SK} {P : PyData → Prop} {K : PySem.W.Frag} {a : Str} (ha : PySem.PyData.strOk a = true) (p : P (.bool true)) : Op2 F R ks (rEqD K) (.str a) (.str a) P := by
  refine op_eqd ((sh_str 0 ha).ok (by decide)) ((sh_str 0 ha).ok (by decide)) ?_
  rw [show PyData.eqv (.str a) (.str a) = true from (ap_str a a).trans (decide_eq_true rfl)]
  exact p
theorem rep_str (n : Nat) (z : Str) : (PyData.list (List.replicate n [PyData.str z]).flatten) = dS (List.replicate n z) := by
  unfold dS
  congr 1
  induction n with
  | zero => rfl
  | succ n ih => rw [List.replicate_succ, List.flatten_cons, ih, List.replicate_succ, List.map_cons]; rfl
theorem map_const {n : Nat} {f : Nat → Str} {z : Str} (h : ∀ i, i < n → f i = z) : (List.range n).map f = List.replicate n z := by
  refine List.ext_getElem (by simp) fun i h1 h2 => ?_
  simp at h1
  simp [h i h1]
theorem strD (n : Nat) (f : Nat → Str) : (PyData.list ((List.range n).map fun i => PyData.str (f i))) = dS ((List.range n).map f) := by
  unfold dS
  rw [List.map_map]
  rfl
theorem ones_ok (n : Nat) (h1 : 1 ≤ n) (h2 : n ≤ 12) : okRow (List.replicate n 1) := ⟨by simp; omega, by simp; omega, fun x hx => by
  obtain ⟨_, rfl⟩ := List.mem_replicate.mp hx
  decide⟩
theorem rep_int (n : Nat) (v : Int) : (PyData.list (List.replicate n [PyData.int v]).flatten) = dL (List.replicate n v) := by
  unfold dL
  congr 1
  induction n with
  | zero => rfl
  | succ n ih => rw [List.replicate_succ, List.flatten_cons, ih, List.replicate_succ, List.map_cons]; rfl
theorem rep_okS {n : Nat} {z : Str} (h : PySem.PyData.strOk z = true) : ∀ y ∈ List.replicate n z, PySem.PyData.strOk y = true := fun y hy => by
  obtain ⟨_, rfl⟩ := List.mem_replicate.mp hy
  exact h
theorem rep_okS' {n : Nat} {z : Str} (h : PySem.PyData.strOk z = true) : ∀ y ∈ (List.range n).map (fun _ => z), PySem.PyData.strOk y = true := fun y hy => by
  obtain ⟨_, _, rfl⟩ := List.mem_map.mp hy
  exact h
theorem int_no {i lo hi : Int} (h : ¬ (lo ≤ i ∧ i ≤ hi)) : isIntD (.int i) lo hi = false := by
  cases e : isIntD (.int i) lo hi with
  | false => rfl
  | true =>
    obtain ⟨j, e2, h1, h2⟩ := int_is e
    injection e2 with e2
    exact absurd ⟨by omega, by omega⟩ h
theorem names_ok {a : List Str} (h : a.all PySem.PyData.strOk = true) : ∀ z ∈ a, PySem.PyData.strOk z = true := List.all_eq_true.mp h
def oI : Option Int → PyData
  | none => .none
  | some i => .int i
theorem ap_oI : Apart oI := fun a b => by
  cases a <;> cases b <;> simp [oI, PyData.eqv]
  rw [Bool.beq_eq_decide_eq]
theorem sh_oI (a : Option Int) : Shp 0 (oI a) := by
  cases a
  · exact sh_none 0
  · exact sh_int 0 _
theorem su_oI (G : List (List Int)) (n : Nat) : sureN G n = ((List.range n).map fun p : Nat => if minL (G.map fun r => r.getD p 0) = maxL (G.map fun r => r.getD p 0) then some ((G.map fun r => r.getD p 0).getD 0 0) else none).map oI := by
  unfold sureN
  rw [List.map_map]
  refine List.map_congr_left fun p _ => ?_
  show _ = oI (if _ then _ else _)
  split <;> rfl
def R_law_slider : List PyData → Out → Prop := fun ds out => ds = [] ∧ out = .ret (.bool true)
theorem len_law_slider : ∀ ds out, R_law_slider ds out → ds.length = 0 := by
  rintro _ _ ⟨rfl, _⟩; rfl
theorem mm {m : Str} (h : m ∈ (["push", "undo", "least", "places", "low_row"] : List Str)) : ¬ m = nW ∧ ¬ m = nV ∧ ¬ m = nL ∧ ¬ m = nP := by
  simp only [List.mem_cons, List.not_mem_nil, or_false] at h
  rcases h with rfl | rfl | rfl | rfl | rfl <;> exact ⟨by decide +kernel, by decide +kernel, by decide +kernel, by decide +kernel⟩
theorem w1 : leD 2 [3] = .none := rfl
theorem w2 : leD 2 [3, 1] = .int 1 := by
  show PyData.int (minL ([3, 1].drop 0)) = _
  rfl
theorem w3 : leD 2 [3, 1, 2] = .int 1 := by
  show PyData.int (minL ([3, 1, 2].drop 1)) = _
  rfl
theorem w4 : dueN 2 [3, 1, 2] = [1, 2] := by decide +kernel
theorem w5 : lowsN [3, 1, 2] 2 = [1, 1] := by decide +kernel
theorem w6 : dueN 2 [3, 1] = [1] := by decide +kernel
theorem w7 : lowsN [3, 1] 2 = [1] := by decide +kernel
set_option maxHeartbeats 4000000 in
theorem ok_law_slider (Df : Def K mg "_law_slider" s_law_slider []) (TS : TxS K Cc) (B : Bt mg) (n_law_asked_M : Ent P w K mg base "_law_asked" ["group", "kind", "one", "two", "three"] 15 (SpD g R_law_asked_M)) (n_Slider___init : IEnt P w K mg base Cc "Slider" ["self", "width"] 2 (SpIni Cc g fun d => isIntD d 1 12 = false)) (n_law_asked_S : Ent P w K mg base "_law_asked" ["group", "kind", "one", "two", "three"] 15 (SpSl5 Cc R_law_asked_S)) (n_Slider_least : MEnt P w K mg base Cc "least" ["self"] 1 (SpSl Cc g R_Slider_least)) (n_Slider_low_row : MEnt P w K mg base Cc "low_row" ["self"] 1 (SpSl Cc g R_Slider_low_row)) (n_Slider_places : MEnt P w K mg base Cc "places" ["self"] 1 (SpSl Cc g R_Slider_places)) (n_Slider_push : MEnt P w K mg base Cc "push" ["self", "value"] 2 (SpSl Cc g R_Slider_push)) (n_Slider_places_F : MEnt P w K mg base Cc "places" ["self"] 1 (SpNewL Cc R_Slider_places_F)) (n_Slider_low_row_F : MEnt P w K mg base Cc "low_row" ["self"] 1 (SpNewL Cc R_Slider_low_row_F)) (n_Slider_undo : MEnt P w K mg base Cc "undo" ["self"] 1 (SpSl Cc g R_Slider_undo)) : Ent P w K mg base "_law_slider" [] 16 (SpD g R_law_slider) := Df.ent fun f fd Fn => by
  refine fn_data (k := 15) Fn sc_law_slider (len_law_slider) (by decide) fun cdv A outer s H E hr => ⟨_, (pss_cons (ps_if (pt_cmpR (k_neD (K := K) hr.units) (pe_lc (own := [("bad", 0)]) (tt := tYes) rfl sc_law_slider.nd (k_tup (K := K) (pe_tup (pa_cons pe_non (pa_cons pe_int (pa_cons pe_int (pa_cons pe_bl (pa_cons pe_str (pa_cons pe_int pa_nil)))))))) (blkOk_by (own := [("bad", 0)]) (N := ["bad", "shown", "value"]) (sc := defScope s_law_slider) (by decide +kernel)) (fun _ _ _ _ _ => (pg_name (i := 0) sc_law_slider.nd rfl (by first | exact Or.inl rfl | exact Or.inr rfl))) (fun _ _ _ _ _ => pts_nil) (fun _ _ _ _ _ => (pe_ent n_law_asked_M hr passL (pa_cons pe_int (pa_cons pe_int (pa_cons (pv 0) (pa_cons pe_int (pa_cons pe_int pa_nil)))))))) (pe_op L2.op_cat (pe_op L2.op_rep (pe_lst (pa_cons pe_str pa_nil)) pe_int) (pe_lst (pa_cons pe_str pa_nil))) (nomark _)) (pss_one (ps_ret pe_bl)) pss_nil)
      (pss_cons (ps_set (i := 1) sc_law_slider.nd rfl (by first | exact Or.inl rfl | exact Or.inr rfl) (pe_ient n_Slider___init hr (pass_own (takes_of rfl rfl rfl rfl)) (pa_cons pe_int pa_nil)))
      (pss_cons (ps_for (passes_of rfl) rfl (k_list (K := K) (pe_lst (pa_cons pe_non (pa_cons pe_int (pa_cons (pe_op L2.op_sub pe_int pe_int) (pa_cons pe_bl (pa_cons pe_str pa_nil))))))) (pg_name (i := 0) sc_law_slider.nd rfl (by first | exact Or.inl rfl | exact Or.inr rfl)) (pss_one (ps_if (pt_cmpR (k_neD (K := K) hr.units) (pe_ent n_law_asked_S hr (pass_own (takes_of rfl rfl rfl rfl)) (pa_cons pe_int (pa_cons pe_int (pa_cons (pv 1) (pa_cons (pv 0) (pa_cons pe_int pa_nil)))))) pe_str (nomark _)) (pss_one (ps_ret pe_bl)) pss_nil)))
      (pss_cons (ps_if (PW.pt (pw_or (pt_cmpR (k_neD (K := K) hr.units) (pe_ent n_law_asked_S hr (pass_own (takes_of rfl rfl rfl rfl)) (pa_cons pe_int (pa_cons pe_int (pa_cons (pv 1) (pa_cons pe_int (pa_cons pe_int pa_nil)))))) pe_str (nomark _)) (pw_or (pt_cmpR op_notN1 (pe_ment0 n_Slider_least TS hr (pass_own (takes_of rfl rfl rfl rfl)) (pv 1)) pe_non (nomark _)) (pw_or (pt_cmpR (k_neD (K := K) hr.units) (pe_ment0 n_Slider_low_row TS hr (pass_own (takes_of rfl rfl rfl rfl)) (pv 1)) (pe_lst pa_nil) (nomark _)) (pw_or1 (pt_cmpR (k_neD (K := K) hr.units) (pe_ment0 n_Slider_places TS hr (pass_own (takes_of rfl rfl rfl rfl)) (pv 1)) (pe_lst pa_nil) (nomark _))))))) (pss_one (ps_ret pe_bl)) pss_nil)
      (pss_cons (ps_if (PW.pt (pw_or (pt_cmpR (k_neD (K := K) hr.units) (pe_lc (own := [("value", 2)]) (tt := tYes) rfl sc_law_slider.nd (k_tup (K := K) (pe_tup (pa_cons pe_int (pa_cons pe_int (pa_cons pe_int pa_nil))))) (blkOk_by (own := [("value", 2)]) (N := ["bad", "shown", "value"]) (sc := defScope s_law_slider) (by decide +kernel)) (fun _ _ _ _ _ => (pg_name (i := 2) sc_law_slider.nd rfl (by first | exact Or.inl rfl | exact Or.inr rfl))) (fun _ _ _ _ _ => pts_nil) (fun _ _ _ _ _ => (pe_ment n_Slider_push TS hr passL (pv 1) (pa_cons (pv 2) pa_nil)))) (pe_lst (pa_cons pe_non (pa_cons pe_int (pa_cons pe_int pa_nil)))) (nomark _)) (pw_or1 (pt_cmpR (k_neD (K := K) hr.units) (pe_ment0 n_Slider_places TS hr (pass_own (takes_of rfl rfl rfl rfl)) (pv 1)) (pe_lst (pa_cons pe_int (pa_cons pe_int pa_nil))) (nomark _))))) (pss_one (ps_ret pe_bl)) pss_nil)
      (pss_cons (ps_expr (k_bm (K := K) PySem.F.plainAttrs_list PySem.F.slot_list_append PySem.F.type_list_append L2.mt_append (pe_ment0 n_Slider_places_F TS hr (pass_own (takes_of rfl rfl rfl rfl)) (pv 1)) (pa_cons pe_int pa_nil)))
      (pss_cons (ps_expr (k_bm (K := K) PySem.F.plainAttrs_list PySem.F.slot_list_append PySem.F.type_list_append L2.mt_append (pe_ment0 n_Slider_low_row_F TS hr (pass_own (takes_of rfl rfl rfl rfl)) (pv 1)) (pa_cons pe_int pa_nil)))
      (pss_cons (ps_if (PW.pt (pw_or (pt_cmpR (k_neD (K := K) hr.units) (pe_ment0 n_Slider_places TS hr (pass_own (takes_of rfl rfl rfl rfl)) (pv 1)) (pe_lst (pa_cons pe_int (pa_cons pe_int pa_nil))) (nomark _)) (pw_or1 (pt_cmpR (k_neD (K := K) hr.units) (pe_ment0 n_Slider_low_row TS hr (pass_own (takes_of rfl rfl rfl rfl)) (pv 1)) (pe_lst (pa_cons pe_int (pa_cons pe_int pa_nil))) (nomark _))))) (pss_one (ps_ret pe_bl)) pss_nil)
      (pss_one (ps_ret (pe_and (pe_cmpR (k_eqD (K := K) hr.units) (pe_ment0 n_Slider_undo TS hr (pass_own (takes_of rfl rfl rfl rfl)) (pv 1)) pe_int (nomark _)) (pe_and (pe_cmpR (k_eqD (K := K) hr.units) (pe_ment0 n_Slider_least TS hr (pass_own (takes_of rfl rfl rfl rfl)) (pv 1)) pe_int (nomark _)) (pe_and (pe_cmpR (k_eqD (K := K) hr.units) (pe_ment0 n_Slider_places TS hr (pass_own (takes_of rfl rfl rfl rfl)) (pv 1)) (pe_lst (pa_cons pe_int pa_nil)) (nomark _)) (pe_one (pe_cmpR (k_eqD (K := K) hr.units) (pe_ment0 n_Slider_low_row TS hr (pass_own (takes_of rfl rfl rfl rfl)) (pv 1)) (pe_lst (pa_cons pe_int pa_nil)) (nomark _)))))))))))))))), fun C0 H0 ds out hE hR => ?_⟩
  obtain ⟨rfl, rfl⟩ := hR
  show WS _ _ [.un, .un, .un] [] _
  refine ws_seq (ws_if (et_test (ev_op (ev_lcF (fun d : PyData => d) ?_))))
  walk_at "w"
  refine ⟨[.none, .int 0, .int 13, .bool true, .str "1", .int 12], fun d => .str (if isIntD d 1 12 then "done" else "width"), rfl, by decide, fun d hd => ⟨_, sg_name (by decide), ?_⟩, ?_⟩
  · walk_at "w"
    refine ⟨_, ⟨d, .int 0, .int 0, rfl, ?_⟩, rfl⟩
    cases h : isIntD d 1 12 with
    | false => exact .inl ⟨rfl, by show Out.ret (.str (if isIntD d 1 12 = true then _ else _)) = _; rw [h]; rfl⟩
    | true =>
      obtain ⟨k, rfl, k1, k2⟩ := int_is h
      exact .inr ⟨k, rfl, k1, k2, by show Out.ret (.str (if isIntD (.int k) 1 12 = true then _ else _)) = _; rw [h]; rfl⟩
  walk_at "w"
  refine op_rep (n := 5) (by decide) (by decide) ?_
  walk_at "w"
  refine op_cat (by decide) ?_
  refine op_neSS (a := ["width", "width", "width", "width", "width", "done"]) (b := List.replicate 5 ("width" : Str) ++ [("done" : Str)]) (names_ok (by decide +kernel)) rfl ⟨_, rfl, c_tf rfl (ws_next ?_)⟩
  refine ws_seq (ws_asgNew (P := fun _ _ => True) (en_make (Cc := Cc) (ea_cons (ev_cI (ea_nil ⟨2, rfl, by decide, by decide, by decide, fun A nd => ?_⟩)))))
  show WS _ _ [.un, .v (.ref A.x), .un] (slM Cc A (stN 2 []) ++ []) _
  have hD : ∀ p, p ∈ (mkF g C0 H0 E (.ret (.bool true)) hE).dw → p ∈ slW A := fun p hp => by cases hp
  have hs : ∀ S, slM Cc A S ⊆ slM Cc A S ++ [] := fun S => List.subset_append_left _ _
  refine ws_seq (ws_for (vs := [0]) ?_)
  walk_at "w"
  refine ⟨fun i ks ms => ms = slM Cc A (stN 2 []) ++ [] ∧ ∃ x : SK, ks = [x, .v (.ref A.x), .un], ⟨rfl, _, rfl⟩, ?_, ?_⟩
  · rintro i d _ _ hd ⟨rfl, x, rfl⟩
    have hb : isIntD d 0 9 = false := by
      have hm := List.mem_of_getElem? hd
      simp only [List.mem_cons, List.not_mem_nil, or_false] at hm
      rcases hm with rfl | rfl | rfl | rfl | rfl <;> decide
    refine ⟨_, sg_name (by decide), ?_⟩
    refine ws_if (et_test (ev_op (ev_callSl5 (S := stN 2 []) rfl (hs _) nd (ev_cI (ev_cI (ev_var rfl (ev_cI ⟨.str "number", ⟨.int 13, d, .int 0, .number, rfl, ⟨2, [], d, rfl, by decide, by decide, .inl ⟨rfl, hb, rfl⟩⟩, rfl⟩, ?_⟩)))))))
    walk_at "w"
    exact op_neS1 (by decide +kernel) ⟨_, rfl, c_tf rfl (ws_next ⟨rfl, _, rfl⟩)⟩
  rintro _ _ ⟨rfl, x, rfl⟩
  refine ws_seq (ws_if ?_)
  walk_at "w"
  refine ev_callSl5 (S := stN 2 []) rfl (hs _) nd (ev_cI (ev_cI (ev_cI (ev_cI ⟨.str "none", ⟨.int 14, .int 0, .int 0, .gone, rfl, ⟨2, [], .int 0, rfl, by decide, by decide, .inr ⟨rfl, rfl, rfl⟩⟩, rfl⟩, ?_⟩))))
  walk_at "w"
  refine op_neS1 (by decide +kernel) ⟨_, rfl, c_ff rfl ?_⟩
  walk_at "w"
  refine ev_methSl (S := stN 2 []) rfl (hs _) nd (mm (by simp)) (ea_nil ⟨_, ⟨2, [], rfl, rfl, by decide, by decide, rfl, rfl⟩, ?_⟩)
  rw [show leD 2 [] = .none from rfl]
  walk_at "w"
  refine c_ff rfl ?_
  walk_at "w"
  refine ev_methSl (S := stN 2 []) rfl (hs _) nd (mm (by simp)) (ea_nil ⟨_, ⟨2, [], rfl, rfl, by decide, by decide, by decide, rfl, rfl⟩, ?_⟩)
  rw [show lowsN [] 2 = [] from rfl]
  walk_at "w"
  refine c_ff rfl ?_
  walk_at "w"
  refine ev_methSl (S := stN 2 []) rfl (hs _) nd (mm (by simp)) (ea_nil ⟨_, ⟨2, [], rfl, rfl, by decide, rfl, rfl⟩, ?_⟩)
  rw [show dueN 2 [] = [] from rfl]
  walk_at "w"
  refine c_tf rfl (ws_next ?_)
  -- three are taken
  refine ws_seq (ws_ifOrT (em_op (em_lcS ?_)))
  walk_at "w"
  refine ⟨by decide, fun i => stN 2 (([3, 1, 2] : List Int).take i), fun i => leD 2 (([3, 1, 2] : List Int).take (i + 1)), rfl, fun i d hd => ⟨_, sg_name (by decide), fun y => ?_⟩, ?_⟩
  · have hi : i < 3 := (List.getElem?_eq_some_iff.mp hd).1
    have h3 : i = 0 ∨ i = 1 ∨ i = 2 := by omega
    refine em_methSl (S := stN 2 (([3, 1, 2] : List Int).take i)) (S' := stN 2 (([3, 1, 2] : List Int).take (i + 1))) rfl (dw_sl hD) (mm (by simp)) (ea_cons (ev_var rfl (ea_nil ?_)))
    rcases h3 with rfl | rfl | rfl
    · cases hd
      exact ⟨_, ⟨2, [], .int 3, rfl, rfl, by decide, by decide, .inr ⟨3, rfl, by decide, by decide, rfl, rfl⟩⟩, rfl, rfl⟩
    · cases hd
      exact ⟨_, ⟨2, [3], .int 1, rfl, rfl, by decide, by decide, .inr ⟨1, rfl, by decide, by decide, rfl, rfl⟩⟩, rfl, rfl⟩
    · cases hd
      exact ⟨_, ⟨2, [3, 1], .int 2, rfl, rfl, by decide, by decide, .inr ⟨2, rfl, by decide, by decide, rfl, rfl⟩⟩, rfl, rfl⟩
  show Ev _ (slM Cc A (stN 2 [3, 1, 2]) ++ []) _ _ fun y => Op2 _ (slM Cc A (stN 2 [3, 1, 2]) ++ []) _ _ (PyData.list [leD 2 [3], leD 2 [3, 1], leD 2 [3, 1, 2]]) y _
  rw [w1, w2, w3]
  walk_at "w"
  refine op_neA (f := fun xs : List (Option Int) => PyData.list (xs.map oI)) (n := 1) (a := [none, some 1, some 1]) (b := [none, some 1, some 1]) (ap_list ap_oI) (fun a => sh_map sh_oI a) (by decide) ⟨_, rfl, (fun z => by simp at z), fun _ => ?_⟩
  refine et_test (ev_op (ev_methSl (S := stN 2 [3, 1, 2]) rfl (hs _) nd (mm (by simp)) (ea_nil ⟨_, ⟨2, [3, 1, 2], rfl, rfl, by decide, rfl, rfl⟩, ?_⟩)))
  rw [w4]
  walk_at "w"
  refine op_neL (b := [1, 2]) ⟨_, rfl, c_tf (by decide) (ws_next ?_)⟩
  refine ws_seq (ws_appNew (S := stN 2 [3, 1, 2]) (xs := dueN 2 [3, 1, 2]) rfl (hs _) nd (mm (by simp)) rfl (by rw [w4]; decide) ?_)
  refine ws_seq (ws_appNew (S := stN 2 [3, 1, 2]) (xs := lowsN [3, 1, 2] 2) rfl (hs _) nd (mm (by simp)) ⟨2, [3, 1, 2], rfl, by decide, by decide, by decide, rfl⟩ (by rw [w5]; decide) ?_)
  refine ws_seq (ws_if ?_)
  walk_at "w"
  refine ev_methSl (S := stN 2 [3, 1, 2]) rfl (hs _) nd (mm (by simp)) (ea_nil ⟨_, ⟨2, [3, 1, 2], rfl, rfl, by decide, rfl, rfl⟩, ?_⟩)
  rw [w4]
  walk_at "w"
  refine op_neL (b := [1, 2]) ⟨_, rfl, c_ff (by decide) ?_⟩
  walk_at "w"
  refine ev_methSl (S := stN 2 [3, 1, 2]) rfl (hs _) nd (mm (by simp)) (ea_nil ⟨_, ⟨2, [3, 1, 2], rfl, rfl, by decide, by decide, by decide, rfl, rfl⟩, ?_⟩)
  rw [w5]
  walk_at "w"
  refine op_neL (b := [1, 1]) ⟨_, rfl, c_tf (by decide) (ws_next ?_)⟩
  refine ws_retEM (em_andV (em_op (em_methSl (S := stN 2 [3, 1, 2]) (S' := stN 2 [3, 1]) rfl (dw_sl hD) (mm (by simp)) (ea_nil ⟨_, ⟨2, [3, 1, 2], rfl, rfl, .inr ⟨[3, 1], 2, rfl, rfl, rfl⟩⟩, ?_⟩))))
  walk_at "w"
  refine c_tt (by decide) ?_
  walk_at "w"
  refine ev_methSl (S := stN 2 [3, 1]) rfl (hs _) nd (mm (by simp)) (ea_nil ⟨_, ⟨2, [3, 1], rfl, rfl, by decide, by decide, rfl, rfl⟩, ?_⟩)
  rw [w2]
  walk_at "w"
  refine c_tt (by decide) ?_
  walk_at "w"
  refine ev_methSl (S := stN 2 [3, 1]) rfl (hs _) nd (mm (by simp)) (ea_nil ⟨_, ⟨2, [3, 1], rfl, rfl, by decide, rfl, rfl⟩, ?_⟩)
  rw [w6]
  walk_at "w"
  refine op_eqL (b := [1]) ⟨_, rfl, c_tt (by decide) ?_⟩
  walk_at "w"
  refine ev_methSl (S := stN 2 [3, 1]) rfl (hs _) nd (mm (by simp)) (ea_nil ⟨_, ⟨2, [3, 1], rfl, rfl, by decide, by decide, by decide, rfl, rfl⟩, ?_⟩)
  rw [w7]
  walk_at "w"
  exact op_eqL (b := [1]) rfl

abbrev s_law_ranked : Stmt := topS 62
theorem sc_law_ranked : FnScope ["kind", "rank", "caught", "e"] ["kind", "rank"] (defScope s_law_ranked) := ⟨rfl, rfl, rfl, by decide +kernel, rfl, by decide +kernel, by decide +kernel⟩
def R_law_ranked : List PyData → Out → Prop := fun ds out => ∃ (i : Nat) (d : PyData) (o : Out), ds = [.int (i : Int), d] ∧ (if i = 0 then R_row_with_both [dL [1], dL [2], .int 2, d] o else R_low_row_at [.int 1, .int 2, .int 1, d] o) ∧ out = .ret (.str (doneS o))
theorem len_law_ranked : ∀ ds out, R_law_ranked ds out → ds.length = 2 := by
  rintro _ _ ⟨_, _, _, rfl, _⟩; rfl
set_option maxHeartbeats 4000000 in
theorem ok_law_ranked (Df : Def K mg "_law_ranked" s_law_ranked ["kind", "rank"]) (B : Bt mg) {a_W : Addr} (T : ErrT K mg g a_W) (n_row_with_both : Ent P w K mg base "row_with_both" ["low", "high", "width", "rank"] 13 (SpD g R_row_with_both)) (n_low_row_at : Ent P w K mg base "low_row_at" ["length", "width", "most", "rank"] 4 (SpD g R_low_row_at)) (n_law_error : Ent P w K mg base "_law_error" ["caught"] 1 (SpErr g)) : Ent P w K mg base "_law_ranked" ["kind", "rank"] 14 (SpD g R_law_ranked) := Df.ent fun f fd Fn => by
  refine fn_data (k := 13) Fn sc_law_ranked (len_law_ranked) (by decide) fun cdv A outer s H E hr => ⟨_, (pss_cons (ps_set (i := 2) sc_law_ranked.nd rfl (by first | exact Or.inl rfl | exact Or.inr rfl) pe_non)
      (pss_cons (ps_try (i := 3) (j := 2) rfl rfl rfl sc_law_ranked.nd rfl (by rfl) ⟨by rfl, by decide, .inl T.gw⟩ (takes_of rfl rfl rfl rfl) (fun W pn xe tk po => (pss_one (ps_if (pt_cmpR L2.op_eq (pv 0) pe_int (nomark _)) (pss_one (ps_expr (pe_entS n_row_with_both hr tk (pa_cons (pe_lst (pa_cons pe_int pa_nil)) (pa_cons (pe_lst (pa_cons pe_int pa_nil)) (pa_cons pe_int (pa_cons (pv 1) pa_nil))))))) (pss_one (ps_expr (pe_entS n_low_row_at hr tk (pa_cons pe_int (pa_cons pe_int (pa_cons pe_int (pa_cons (pv 1) pa_nil)))))))))) (fun a oe pn => (ps_set (i := 2) sc_law_ranked.nd rfl (by first | exact Or.inl rfl | exact Or.inr rfl) (pv 3))))
      (pss_one (ps_ret (pe_ifExp (pt_cmpR op_isN1 (pv 2) pe_non (nomark _)) pe_str (pe_ent n_law_error hr (pass_own (takes_of rfl rfl rfl rfl)) (pa_cons (pv 2) pa_nil))))))), fun C0 H0 ds out hE hR => ?_⟩
  obtain ⟨i, d, o, rfl, ho, rfl⟩ := hR
  show WS _ _ [.d (.int (i : Int)), .d d, .un, .un] [] _
  walk_at "w"
  refine ws_try (g := g) (fun e ks' => o = .exc e ∧ ks' = [.d (.int (i : Int)), .d d, .d .none, .un]) (by decide) (fun F' W f1 f2 f3 hW => ?_) ?_
  · walk_at "w"
    by_cases g1 : i = 0
    · rw [if_pos g1] at ho
      refine c_tt (decide_eq_true (by omega)) (ws_drop (ev_callS hW ?_))
      walk_at "w"
      refine ⟨o, ho, ?_⟩
      cases o with
      | exc e => exact ⟨rfl, rfl⟩
      | ret x =>
        show WS (mkF g C0 H0 E (.ret (.str "done")) hE) _ _ _ _
        walk_at "w"
        refine c_tt (by rfl) ?_
        walk_at "w"
        rfl
    rw [if_neg g1] at ho
    refine c_tf (decide_eq_false (by omega)) (ws_drop (ev_callS hW ?_))
    walk_at "w"
    refine ⟨o, ho, ?_⟩
    cases o with
    | exc e => exact ⟨rfl, rfl⟩
    | ret x =>
      show WS (mkF g C0 H0 E (.ret (.str "done")) hE) _ _ _ _
      walk_at "w"
      refine c_tt (by rfl) ?_
      walk_at "w"
      rfl
  · rintro e _ ⟨rfl, rfl⟩
    refine ⟨T.em _, by simp, fun x _ => ?_⟩
    show WS (mkF g C0 H0 E (.ret (.str (doneS (.exc e)))) hE) _ [.d (.int (i : Int)), .d d, .v (.ref x), .un] [(x, .o (ExV (.ref (g e)) none x))] _
    refine ws_ret (ev_if (et_isNoneV rfl ⟨(fun z => nomatch z), fun _ => ?_⟩))
    exact ev_callE (e := e) rfl List.mem_cons_self rfl

abbrev s_law_pairs : Stmt := topS 63
theorem sc_law_pairs : FnScope ["bad", "k", "low", "high", "rank"] [] (defScope s_law_pairs) := ⟨rfl, rfl, rfl, by decide +kernel, rfl, by decide +kernel, by decide +kernel⟩
def R_law_pairs : List PyData → Out → Prop := fun ds out => ds = [] ∧ out = .ret (.bool true)
theorem len_law_pairs : ∀ ds out, R_law_pairs ds out → ds.length = 0 := by
  rintro _ _ ⟨rfl, _⟩; rfl
theorem five {i : Nat} (h : i < 5) : i = 0 ∨ i = 1 ∨ i = 2 ∨ i = 3 ∨ i = 4 := by omega
theorem pairAll {d w x : PyData} {o : Out} {i : Nat} (hi : i < 5) (h : ∀ body, RP body [d, w, x] o) : law_pairR i d w x o := by
  rcases five hi with rfl | rfl | rfl | rfl | rfl
  · exact (h _ : R_rows_with_both [d, w, x] o)
  · exact (h _ : R_count_with_both [d, w, x] o)
  · exact (h _ : R_first_with_both [d, w, x] o)
  · exact (h _ : R_sure_values [d, w, x] o)
  · exact (⟨_, _, _, _, rfl, h _⟩ : R_row_with_both [d, w, x, .none] o)
theorem askP {i : Nat} {d w x : PyData} {o : Out} (hi : i < 5) (h : law_pairR i d w x o) : R_law_asked [.int 2, .int (i : Int), d, w, x] (.ret (.str (doneS o))) := ⟨2, i, d, w, x, o, rfl, ⟨i, d, w, x, rfl, hi, h⟩, rfl⟩
theorem r1 : okRow [1] := ⟨by decide, by decide, by decide⟩
theorem r2 : okRow [2] := ⟨by decide, by decide, by decide⟩
theorem rp_c {body : List Int → List Int → Nat → Out → Prop} {low high : List Int} {x : PyData} (ok : okRow low) (okh : okRow high) (h : low.length ≠ high.length ∨ 5 < maxL low ∨ 5 < maxL high) : RP body [dL low, dL high, x] (.exc .row) := ⟨_, _, _, rfl, ok.sz, okh.sz, .inr ⟨low, rfl, ok, .inr ⟨high, rfl, okh, .inl ⟨h, rfl⟩⟩⟩⟩
theorem rp_w {body : List Int → List Int → Nat → Out → Prop} {x : PyData} (h : isIntD x 1 7 = false) : RP body [dL [1], dL [1], x] (.exc .width) := ⟨_, _, _, rfl, r1.sz, r1.sz, .inr ⟨[1], rfl, r1, .inr ⟨[1], rfl, r1, .inr ⟨⟨rfl, by decide, by decide⟩, .inl ⟨h, rfl⟩⟩⟩⟩⟩
def badP : List PyData := [.none, .int 5, .list [], .list [.int 10], .list [.int 6], .list [.int 1, .int 1], .tuple [.int 1]]
theorem badP_ok : ∀ d ∈ badP, ∀ body x, RP body [d, dL [1], x] (.exc .row) ∧ RP body [dL [1], d, x] (.exc .row) := by
  intro d hd body x
  have a : ∀ {e : PyData}, Sz e → isRowD e = false → RP body [e, dL [1], x] (.exc .row) ∧ RP body [dL [1], e, x] (.exc .row) := fun {e} hs h => ⟨⟨_, _, _, rfl, hs, r1.sz, .inl ⟨h, rfl⟩⟩, ⟨_, _, _, rfl, r1.sz, hs, .inr ⟨[1], rfl, r1, .inl ⟨h, rfl⟩⟩⟩⟩
  unfold badP at hd
  simp only [List.mem_cons, List.not_mem_nil, or_false] at hd
  rcases hd with rfl | rfl | rfl | rfl | rfl | rfl | rfl
  · exact a (fun l e => by cases e) (by decide)
  · exact a (fun l e => by cases e) (by decide)
  · exact a (fun l e => by cases e; decide) (by decide)
  · exact a (fun l e => by cases e; decide) (by decide)
  · have h6 : okRow [6] := ⟨by decide, by decide, by decide⟩
    exact ⟨rp_c (low := [6]) (high := [1]) h6 r1 (by decide), rp_c (low := [1]) (high := [6]) r1 h6 (by decide)⟩
  · have h6 : okRow [1, 1] := ⟨by decide, by decide, by decide⟩
    exact ⟨rp_c (low := [1, 1]) (high := [1]) h6 r1 (by decide), rp_c (low := [1]) (high := [1, 1]) r1 h6 (by decide)⟩
  · exact a (fun l e => by cases e) (by decide)
def nmP : Nat → Str
  | 0 => "done"
  | 1 => "done"
  | 2 => "none"
  | 3 => "none"
  | _ => "number"
theorem gr21 : grA [2] [1] 2 = [] := by decide +kernel
theorem gr12 : grA [1] [2] 2 = [[1, 2], [2, 1]] := by decide +kernel
theorem lo12 : lowAll 1 2 1 = [[0], [1]] := by decide +kernel
theorem pair21 {i : Nat} (hi : i < 5) : ∃ o, law_pairR i (dL [2]) (dL [1]) (.int 2) o ∧ doneS o = nmP i := by
  have z : ∀ {body : List Int → List Int → Nat → Out → Prop} {o : Out}, body [2] [1] 2 o → RP body [dL [2], dL [1], .int 2] o := fun h => RP.ok (k := 2) r2 r1 rfl (by decide) (by decide) (by decide) (by decide) h
  have sm : SmlB [2] [1] 2 := ⟨1, by decide, by decide, by decide⟩
  rcases five hi with rfl | rfl | rfl | rfl | rfl
  · exact ⟨.ret _, (z ⟨sm, rfl⟩ : R_rows_with_both [dL [2], dL [1], .int 2] _), rfl⟩
  · exact ⟨.ret _, (z ⟨sm, rfl⟩ : R_count_with_both [dL [2], dL [1], .int 2] _), rfl⟩
  · exact ⟨.exc .gone, (z ⟨sm, .inl ⟨gr21, rfl⟩⟩ : R_first_with_both [dL [2], dL [1], .int 2] _), rfl⟩
  · exact ⟨.exc .gone, (z ⟨sm, .inl ⟨gr21, rfl⟩⟩ : R_sure_values [dL [2], dL [1], .int 2] _), rfl⟩
  · exact ⟨.exc .number, (⟨_, _, _, _, rfl, z ⟨sm, .inl ⟨rfl, rfl⟩⟩⟩ : R_row_with_both [dL [2], dL [1], .int 2, .none] _), rfl⟩
theorem rk0 {d : PyData} (h : isIntD d 0 1 = false) : R_law_ranked [.int 0, d] (.ret (.str "number")) := ⟨0, d, .exc .number, rfl, (⟨_, _, _, _, rfl, RP.ok (k := 2) r1 r2 rfl (by decide) (by decide) (by decide) (by decide) ⟨⟨2, by decide, by decide, by decide⟩, .inl ⟨by rw [gr12]; exact h, rfl⟩⟩⟩ : R_row_with_both [dL [1], dL [2], .int 2, d] _), rfl⟩
theorem rk1 {d : PyData} (h : isIntD d 0 1 = false) : R_law_ranked [.int 1, d] (.ret (.str "number")) := ⟨1, d, .exc .number, rfl, (⟨_, _, _, _, rfl, RK.ok (n := 1) (k := 2) (m := 1) (by decide) (by decide) (by decide) (by decide) (by decide) (.inl ⟨by rw [lo12]; exact h, rfl⟩)⟩ : R_low_row_at [.int 1, .int 2, .int 1, d] _), rfl⟩
theorem rk0d {r : Nat} (h : r < 2) : R_law_ranked [.int 0, .int (r : Int)] (.ret (.str "done")) := by
  obtain ⟨o, ho⟩ : ∃ o, (grA [1] [2] 2)[r]? = some o := ⟨_, List.getElem?_eq_getElem (by rw [gr12]; exact h)⟩
  exact ⟨0, _, .ret (dL o), rfl, (⟨_, _, _, _, rfl, RP.ok (k := 2) r1 r2 rfl (by decide) (by decide) (by decide) (by decide) ⟨⟨2, by decide, by decide, by decide⟩, .inr ⟨r, o, rfl, ho, rfl⟩⟩⟩ : R_row_with_both [dL [1], dL [2], .int 2, .int (r : Int)] _), rfl⟩
theorem rk1d : R_law_ranked [.int 1, .int 1] (.ret (.str "done")) := ⟨1, _, .ret (dL [1]), rfl, (⟨_, _, _, _, rfl, RK.ok (n := 1) (k := 2) (m := 1) (by decide) (by decide) (by decide) (by decide) (by decide) (.inr ⟨1, [1], rfl, by rw [lo12]; rfl, rfl⟩)⟩ : R_low_row_at [.int 1, .int 2, .int 1, .int 1] _), rfl⟩
set_option maxHeartbeats 4000000 in
theorem ok_law_pairs (Df : Def K mg "_law_pairs" s_law_pairs []) (B : Bt mg) (n_law_asked : Ent P w K mg base "_law_asked" ["group", "kind", "one", "two", "three"] 15 (SpD g R_law_asked)) (n_law_ranked : Ent P w K mg base "_law_ranked" ["kind", "rank"] 14 (SpD g R_law_ranked)) : Ent P w K mg base "_law_pairs" [] 16 (SpD g R_law_pairs) := Df.ent fun f fd Fn => by
  refine fn_data (k := 15) Fn sc_law_pairs (len_law_pairs) (by decide) fun cdv A outer s H E hr => ⟨_, (pss_cons (ps_for (passes_of rfl) rfl (k_list (K := K) (pe_lst (pa_cons pe_non (pa_cons pe_int (pa_cons (pe_lst pa_nil) (pa_cons (pe_lst (pa_cons pe_int pa_nil)) (pa_cons (pe_lst (pa_cons pe_int pa_nil)) (pa_cons (pe_lst (pa_cons pe_int (pa_cons pe_int pa_nil))) (pa_cons (pe_tup (pa_cons pe_int pa_nil)) pa_nil))))))))) (pg_name (i := 0) sc_law_pairs.nd rfl (by first | exact Or.inl rfl | exact Or.inr rfl)) (pss_one (ps_if (PW.pt (pw_or (pt_cmpR (k_neD (K := K) hr.units) (pe_lc (own := [("k", 1)]) (tt := tYes) rfl sc_law_pairs.nd (pi_range1 (by rfl) B.b_range (pa_cons pe_int pa_nil)) (blkOk_by (own := [("k", 1)]) (N := ["bad", "k", "low", "high", "rank"]) (sc := defScope s_law_pairs) (by decide +kernel)) (fun _ _ _ _ _ => (pg_name (i := 1) sc_law_pairs.nd rfl (by first | exact Or.inl rfl | exact Or.inr rfl))) (fun _ _ _ _ _ => pts_nil) (fun _ _ _ _ _ => (pe_ent n_law_asked hr passL (pa_cons pe_int (pa_cons (pv 1) (pa_cons (pv 0) (pa_cons (pe_lst (pa_cons pe_int pa_nil)) (pa_cons pe_non pa_nil)))))))) (pe_op L2.op_rep (pe_lst (pa_cons pe_str pa_nil)) pe_int) (nomark _)) (pw_or1 (pt_cmpR (k_neD (K := K) hr.units) (pe_lc (own := [("k", 1)]) (tt := tYes) rfl sc_law_pairs.nd (pi_range1 (by rfl) B.b_range (pa_cons pe_int pa_nil)) (blkOk_by (own := [("k", 1)]) (N := ["bad", "k", "low", "high", "rank"]) (sc := defScope s_law_pairs) (by decide +kernel)) (fun _ _ _ _ _ => (pg_name (i := 1) sc_law_pairs.nd rfl (by first | exact Or.inl rfl | exact Or.inr rfl))) (fun _ _ _ _ _ => pts_nil) (fun _ _ _ _ _ => (pe_ent n_law_asked hr passL (pa_cons pe_int (pa_cons (pv 1) (pa_cons (pe_lst (pa_cons pe_int pa_nil)) (pa_cons (pv 0) (pa_cons pe_non pa_nil)))))))) (pe_op L2.op_rep (pe_lst (pa_cons pe_str pa_nil)) pe_int) (nomark _))))) (pss_one (ps_ret pe_bl)) pss_nil)))
      (pss_cons (ps_for (passes_of rfl) rfl (k_list (K := K) (pe_lst (pa_cons pe_non (pa_cons pe_int (pa_cons pe_int (pa_cons pe_bl (pa_cons pe_str pa_nil))))))) (pg_name (i := 0) sc_law_pairs.nd rfl (by first | exact Or.inl rfl | exact Or.inr rfl)) (pss_one (ps_if (pt_cmpR (k_neD (K := K) hr.units) (pe_lc (own := [("k", 1)]) (tt := tYes) rfl sc_law_pairs.nd (pi_range1 (by rfl) B.b_range (pa_cons pe_int pa_nil)) (blkOk_by (own := [("k", 1)]) (N := ["bad", "k", "low", "high", "rank"]) (sc := defScope s_law_pairs) (by decide +kernel)) (fun _ _ _ _ _ => (pg_name (i := 1) sc_law_pairs.nd rfl (by first | exact Or.inl rfl | exact Or.inr rfl))) (fun _ _ _ _ _ => pts_nil) (fun _ _ _ _ _ => (pe_ent n_law_asked hr passL (pa_cons pe_int (pa_cons (pv 1) (pa_cons (pe_lst (pa_cons pe_int pa_nil)) (pa_cons (pe_lst (pa_cons pe_int pa_nil)) (pa_cons (pv 0) pa_nil)))))))) (pe_op L2.op_rep (pe_lst (pa_cons pe_str pa_nil)) pe_int) (nomark _)) (pss_one (ps_ret pe_bl)) pss_nil)))
      (pss_cons (ps_for (passes_of rfl) rfl (k_list (K := K) (pe_lst (pa_cons (pe_tup (pa_cons (pe_lst (pa_cons pe_int (pa_cons pe_int pa_nil))) (pa_cons (pe_lst (pa_cons pe_int (pa_cons pe_int pa_nil))) pa_nil))) (pa_cons (pe_tup (pa_cons (pe_lst (pa_cons pe_int (pa_cons pe_int pa_nil))) (pa_cons (pe_lst (pa_cons pe_int (pa_cons pe_int pa_nil))) pa_nil))) (pa_cons (pe_tup (pa_cons (pe_lst (pa_cons pe_int (pa_cons pe_int pa_nil))) (pa_cons (pe_lst (pa_cons pe_int pa_nil)) pa_nil))) pa_nil))))) (k_tg (K := K) (n := 2) rfl (pgs_cons (pg_name (i := 2) sc_law_pairs.nd rfl (by first | exact Or.inl rfl | exact Or.inr rfl)) (pgs_cons (pg_name (i := 3) sc_law_pairs.nd rfl (by first | exact Or.inl rfl | exact Or.inr rfl)) pgs_nil))) (pss_one (ps_if (pt_cmpR (k_neD (K := K) hr.units) (pe_lc (own := [("k", 1)]) (tt := tYes) rfl sc_law_pairs.nd (pi_range1 (by rfl) B.b_range (pa_cons pe_int pa_nil)) (blkOk_by (own := [("k", 1)]) (N := ["bad", "k", "low", "high", "rank"]) (sc := defScope s_law_pairs) (by decide +kernel)) (fun _ _ _ _ _ => (pg_name (i := 1) sc_law_pairs.nd rfl (by first | exact Or.inl rfl | exact Or.inr rfl))) (fun _ _ _ _ _ => pts_nil) (fun _ _ _ _ _ => (pe_ent n_law_asked hr passL (pa_cons pe_int (pa_cons (pv 1) (pa_cons (pv 2) (pa_cons (pv 3) (pa_cons pe_int pa_nil)))))))) (pe_op L2.op_rep (pe_lst (pa_cons pe_str pa_nil)) pe_int) (nomark _)) (pss_one (ps_ret pe_bl)) pss_nil)))
      (pss_cons (ps_if (pt_cmpR (k_neD (K := K) hr.units) (pe_lc (own := [("k", 1)]) (tt := tYes) rfl sc_law_pairs.nd (pi_range1 (by rfl) B.b_range (pa_cons pe_int pa_nil)) (blkOk_by (own := [("k", 1)]) (N := ["bad", "k", "low", "high", "rank"]) (sc := defScope s_law_pairs) (by decide +kernel)) (fun _ _ _ _ _ => (pg_name (i := 1) sc_law_pairs.nd rfl (by first | exact Or.inl rfl | exact Or.inr rfl))) (fun _ _ _ _ _ => pts_nil) (fun _ _ _ _ _ => (pe_ent n_law_asked hr passL (pa_cons pe_int (pa_cons (pv 1) (pa_cons (pe_lst (pa_cons pe_int pa_nil)) (pa_cons (pe_lst (pa_cons pe_int pa_nil)) (pa_cons pe_int pa_nil)))))))) (pe_lst (pa_cons pe_str (pa_cons pe_str (pa_cons pe_str (pa_cons pe_str (pa_cons pe_str pa_nil)))))) (nomark _)) (pss_one (ps_ret pe_bl)) pss_nil)
      (pss_cons (ps_for (passes_of rfl) rfl (k_list (K := K) (pe_lst (pa_cons pe_non (pa_cons (pe_op L2.op_sub pe_int pe_int) (pa_cons pe_int (pa_cons pe_bl pa_nil)))))) (pg_name (i := 0) sc_law_pairs.nd rfl (by first | exact Or.inl rfl | exact Or.inr rfl)) (pss_one (ps_if (PW.pt (pw_or (pt_cmpR (k_neD (K := K) hr.units) (pe_ent n_law_ranked hr (pass_own (takes_of rfl rfl rfl rfl)) (pa_cons pe_int (pa_cons (pv 0) pa_nil))) pe_str (nomark _)) (pw_or1 (pt_cmpR (k_neD (K := K) hr.units) (pe_ent n_law_ranked hr (pass_own (takes_of rfl rfl rfl rfl)) (pa_cons pe_int (pa_cons (pe_ifExp (pt_cmpR op_isT (pv 0) pe_bl (nomark _)) pe_int (pv 0)) pa_nil))) pe_str (nomark _))))) (pss_one (ps_ret pe_bl)) pss_nil)))
      (pss_cons (ps_if (PW.pt (pw_or (pt_cmpR (k_neD (K := K) hr.units) (pe_lc (own := [("rank", 4)]) (tt := tYes) rfl sc_law_pairs.nd (k_tup (K := K) (pe_tup (pa_cons pe_int (pa_cons pe_int pa_nil)))) (blkOk_by (own := [("rank", 4)]) (N := ["bad", "k", "low", "high", "rank"]) (sc := defScope s_law_pairs) (by decide +kernel)) (fun _ _ _ _ _ => (pg_name (i := 4) sc_law_pairs.nd rfl (by first | exact Or.inl rfl | exact Or.inr rfl))) (fun _ _ _ _ _ => pts_nil) (fun _ _ _ _ _ => (pe_ent n_law_ranked hr passL (pa_cons pe_int (pa_cons (pv 4) pa_nil))))) (pe_op L2.op_rep (pe_lst (pa_cons pe_str pa_nil)) pe_int) (nomark _)) (pw_or (pt_cmpR (k_neD (K := K) hr.units) (pe_ent n_law_ranked hr (pass_own (takes_of rfl rfl rfl rfl)) (pa_cons pe_int (pa_cons pe_int pa_nil))) pe_str (nomark _)) (pw_or1 (pt_cmpR (k_neD (K := K) hr.units) (pe_ent n_law_ranked hr (pass_own (takes_of rfl rfl rfl rfl)) (pa_cons pe_int (pa_cons pe_bl pa_nil))) pe_str (nomark _)))))) (pss_one (ps_ret pe_bl)) pss_nil)
      (pss_one (ps_ret (pe_cmpR (k_eqD (K := K) hr.units) (pe_ent n_law_asked hr (pass_own (takes_of rfl rfl rfl rfl)) (pa_cons pe_int (pa_cons pe_int (pa_cons (pe_lst (pa_cons pe_int pa_nil)) (pa_cons (pe_lst (pa_cons pe_int pa_nil)) (pa_cons pe_int pa_nil)))))) pe_str (nomark _)))))))))), fun C0 H0 ds out hE hR => ?_⟩
  obtain ⟨rfl, rfl⟩ := hR
  show WS _ _ [.un, .un, .un, .un, .un] [] _
  refine ws_seq (ws_for (vs := [0]) ?_)
  walk_at "w"
  refine ⟨fun i ks ms => ms = [] ∧ ∃ x y : SK, ks = [x, y, .un, .un, .un], ⟨rfl, _, _, rfl⟩, ?_, ?_⟩
  · rintro i d _ _ hd ⟨rfl, x, y, rfl⟩
    have hb := badP_ok d (List.mem_of_getElem? hd)
    refine ⟨_, sg_name (by decide), ?_⟩
    walk_at "w"
    refine ev_lcF (fun k : Nat => PyData.int (0 + (k : Int))) ?_
    walk_at "w"
    refine ⟨by decide, by decide, List.range 5, fun _ => .str "row", rfl, by decide, fun k hk => ⟨_, sg_name (by decide), ?_⟩, ?_⟩
    · walk_at "w"
      rw [Int.zero_add]
      exact ⟨_, askP (List.mem_range.mp hk) (pairAll (List.mem_range.mp hk) fun b => (hb b _).1), rfl⟩
    rw [strD 5 fun _ => "row"]
    walk_at "w"
    refine op_rep (n := 5) (by decide) (by decide) ?_
    rw [rep_str]
    refine op_neSS (rep_okS' (by decide +kernel)) (map_const fun _ _ => rfl) ⟨_, rfl, c_ff rfl ?_⟩
    walk_at "w"
    refine ev_lcF (fun k : Nat => PyData.int (0 + (k : Int))) ?_
    walk_at "w"
    refine ⟨by decide, by decide, List.range 5, fun _ => .str "row", rfl, by decide, fun k hk => ⟨_, sg_name (by decide), ?_⟩, ?_⟩
    · walk_at "w"
      rw [Int.zero_add]
      exact ⟨_, askP (List.mem_range.mp hk) (pairAll (List.mem_range.mp hk) fun b => (hb b _).2), rfl⟩
    rw [strD 5 fun _ => "row"]
    walk_at "w"
    refine op_rep (n := 5) (by decide) (by decide) ?_
    rw [rep_str]
    exact op_neSS (rep_okS' (by decide +kernel)) (map_const fun _ _ => rfl) ⟨_, rfl, c_tf rfl (ws_next ⟨rfl, _, _, rfl⟩)⟩
  rintro _ _ ⟨rfl, x, y, rfl⟩
  refine ws_seq (ws_for (vs := [0]) ?_)
  walk_at "w"
  refine ⟨fun i ks ms => ms = [] ∧ ∃ x y : SK, ks = [x, y, .un, .un, .un], ⟨rfl, _, _, rfl⟩, ?_, ?_⟩
  · rintro i d _ _ hd ⟨rfl, x, y, rfl⟩
    have hb : isIntD d 1 7 = false := by
      have hm := List.mem_of_getElem? hd
      simp only [List.mem_cons, List.not_mem_nil, or_false] at hm
      rcases hm with rfl | rfl | rfl | rfl | rfl <;> decide
    refine ⟨_, sg_name (by decide), ?_⟩
    walk_at "w"
    refine ev_lcF (fun k : Nat => PyData.int (0 + (k : Int))) ?_
    walk_at "w"
    refine ⟨by decide, by decide, List.range 5, fun _ => .str "width", rfl, by decide, fun k hk => ⟨_, sg_name (by decide), ?_⟩, ?_⟩
    · walk_at "w"
      rw [Int.zero_add]
      exact ⟨_, askP (o := .exc .width) (List.mem_range.mp hk) (pairAll (List.mem_range.mp hk) fun b => rp_w hb), rfl⟩
    rw [strD 5 fun _ => "width"]
    walk_at "w"
    refine op_rep (n := 5) (by decide) (by decide) ?_
    rw [rep_str]
    exact op_neSS (rep_okS' (by decide +kernel)) (map_const fun _ _ => rfl) ⟨_, rfl, c_tf rfl (ws_next ⟨rfl, _, _, rfl⟩)⟩
  rintro _ _ ⟨rfl, x, y, rfl⟩
  refine ws_seq (ws_for (vs := [2, 3]) ?_)
  walk_at "w"
  refine ⟨fun i ks ms => ms = [] ∧ ∃ x y z u : SK, ks = [x, y, z, u, .un], ⟨rfl, _, _, _, _, rfl⟩, ?_, ?_⟩
  · rintro i d _ _ hd ⟨rfl, x, y, z, u, rfl⟩
    obtain ⟨lo, hi', rfl, hb⟩ : ∃ lo hi' : List Int, d = .tuple [dL lo, dL hi'] ∧ ∀ body x, RP body [dL lo, dL hi', x] (.exc .row) := by
      have hm := List.mem_of_getElem? hd
      simp only [List.mem_cons, List.not_mem_nil, or_false] at hm
      rcases hm with rfl | rfl | rfl
      · exact ⟨[0, 6], [1, 1], rfl, fun _ _ => rp_c ⟨by decide, by decide, by decide⟩ ⟨by decide, by decide, by decide⟩ (by decide)⟩
      · exact ⟨[0, 0], [0, 6], rfl, fun _ _ => rp_c ⟨by decide, by decide, by decide⟩ ⟨by decide, by decide, by decide⟩ (by decide)⟩
      · exact ⟨[0, 0], [0], rfl, fun _ _ => rp_c ⟨by decide, by decide, by decide⟩ ⟨by decide, by decide, by decide⟩ (by decide)⟩
    refine ⟨_, sg_pair (by decide) (by decide), ?_⟩
    walk_at "w"
    refine ev_lcF (fun k : Nat => PyData.int (0 + (k : Int))) ?_
    walk_at "w"
    refine ⟨by decide, by decide, List.range 5, fun _ => .str "row", rfl, by decide, fun k hk => ⟨_, sg_name (by decide), ?_⟩, ?_⟩
    · walk_at "w"
      rw [Int.zero_add]
      exact ⟨_, askP (List.mem_range.mp hk) (pairAll (List.mem_range.mp hk) fun b => hb b _), rfl⟩
    rw [strD 5 fun _ => "row"]
    walk_at "w"
    refine op_rep (n := 5) (by decide) (by decide) ?_
    rw [rep_str]
    exact op_neSS (rep_okS' (by decide +kernel)) (map_const fun _ _ => rfl) ⟨_, rfl, c_tf rfl (ws_next ⟨rfl, _, _, _, _, rfl⟩)⟩
  rintro _ _ ⟨rfl, x, y, z, u, rfl⟩
  walk_at "w"
  refine ev_lcF (fun k : Nat => PyData.int (0 + (k : Int))) ?_
  walk_at "w"
  refine ⟨by decide, by decide, List.range 5, fun k => .str (nmP k), rfl, by decide, fun k hk => ⟨_, sg_name (by decide), ?_⟩, ?_⟩
  · have hk := List.mem_range.mp hk
    obtain ⟨o, h1, h2⟩ := pair21 hk
    walk_at "w"
    rw [Int.zero_add]
    exact ⟨_, askP hk h1, by rw [h2]⟩
  rw [strD 5 nmP]
  walk_at "w"
  refine op_neSS (b := ["done", "done", "none", "none", "number"]) (names_ok (by decide +kernel)) rfl ⟨_, rfl, c_tf rfl (ws_next ?_)⟩
  refine ws_seq (ws_for (vs := [0]) ?_)
  walk_at "w"
  refine ⟨fun i ks ms => ms = [] ∧ ∃ x y z u : SK, ks = [x, y, z, u, .un], ⟨rfl, _, _, _, _, rfl⟩, ?_, ?_⟩
  · rintro i d _ _ hd ⟨rfl, x, y, z, u, rfl⟩
    have hm := List.mem_of_getElem? hd
    simp only [List.mem_cons, List.not_mem_nil, or_false] at hm
    have hb : isIntD d 0 1 = false := by
      rcases hm with rfl | rfl | rfl | rfl <;> decide
    refine ⟨_, sg_name (by decide), ?_⟩
    walk_at "w"
    refine ⟨_, rk0 hb, ?_⟩
    walk_at "w"
    refine op_neS1 (by decide +kernel) ⟨_, rfl, c_ff rfl ?_⟩
    walk_at "w"
    rcases hm with rfl | rfl | rfl | rfl
    · refine op_isTn ⟨_, rfl, c_tf rfl ?_⟩
      walk_at "w"
      refine ⟨_, rk1 hb, ?_⟩
      walk_at "w"
      exact op_neS1 (by decide +kernel) ⟨_, rfl, c_tf rfl (ws_next ⟨rfl, _, _, _, _, rfl⟩)⟩
    · refine op_isTi ⟨_, rfl, c_tf rfl ?_⟩
      walk_at "w"
      refine ⟨_, rk1 hb, ?_⟩
      walk_at "w"
      exact op_neS1 (by decide +kernel) ⟨_, rfl, c_tf rfl (ws_next ⟨rfl, _, _, _, _, rfl⟩)⟩
    · refine op_isTi ⟨_, rfl, c_tf rfl ?_⟩
      walk_at "w"
      refine ⟨_, rk1 hb, ?_⟩
      walk_at "w"
      exact op_neS1 (by decide +kernel) ⟨_, rfl, c_tf rfl (ws_next ⟨rfl, _, _, _, _, rfl⟩)⟩
    · refine op_isTb ⟨_, rfl, c_tt rfl ?_⟩
      walk_at "w"
      refine ⟨_, rk1 (d := .int 2) (by decide), ?_⟩
      walk_at "w"
      exact op_neS1 (by decide +kernel) ⟨_, rfl, c_tf rfl (ws_next ⟨rfl, _, _, _, _, rfl⟩)⟩
  rintro _ _ ⟨rfl, x, y, z, u, rfl⟩
  refine ws_seq (ws_if ?_)
  walk_at "w"
  refine ev_lcF (fun k : Nat => PyData.int (k : Int)) ?_
  walk_at "w"
  refine ⟨[0, 1], fun _ => .str "done", rfl, by decide, fun k hk => ⟨_, sg_name (by decide), ?_⟩, ?_⟩
  · walk_at "w"
    exact ⟨_, rk0d (r := k) (by simp at hk; omega), rfl⟩
  walk_at "w"
  refine op_rep (n := 2) (by decide) (by decide) ?_
  rw [rep_str]
  refine op_neSS (a := ["done", "done"]) (names_ok (by decide +kernel)) rfl ⟨_, rfl, c_ff rfl ?_⟩
  walk_at "w"
  refine ⟨_, rk1d, ?_⟩
  walk_at "w"
  refine op_neS1 (by decide +kernel) ⟨_, rfl, c_ff rfl ?_⟩
  walk_at "w"
  refine ⟨_, rk1 (d := .bool true) (by decide), ?_⟩
  walk_at "w"
  refine op_neS1 (by decide +kernel) ⟨_, rfl, c_tf rfl (ws_next ?_)⟩
  walk_at "w"
  refine ⟨_, askP (i := 1) (o := .ret _) (by decide) (RP.ok (k := 7) r1 r1 rfl (by decide) (by decide) (by decide) (by decide) ⟨⟨1, by decide, by decide, by decide⟩, rfl⟩ : R_count_with_both [dL [1], dL [1], .int 7] _), ?_⟩
  walk_at "w"
  exact op_eqS1 (by decide +kernel) rfl

abbrev s_law : Stmt := topS 64
theorem sc_law : FnScope ["script", "draws", "bad", "k", "length", "good", "many"] ["script"] (defScope s_law) := ⟨rfl, rfl, rfl, by decide +kernel, rfl, by decide +kernel, by decide +kernel⟩
--KIND law
--SP (spLaw K)
theorem ask3 {i : Nat} {d w x : PyData} {o : Out} (hi : i < 12) (h : law_callR i d w o) : R_law_asked [.int 3, .int (i : Int), d, w, x] (.ret (.str (doneS o))) := ⟨3, i, d, w, x, o, rfl, ⟨i, d, w, rfl, hi, h⟩, rfl⟩
theorem ask1 {i : Nat} {d w x : PyData} {o : Out} (hi : i < 3) (h : law_listR i d w x o) : R_law_asked [.int 1, .int (i : Int), d, w, x] (.ret (.str (doneS o))) := ⟨1, i, d, w, x, o, rfl, ⟨i, d, w, x, rfl, hi, h⟩, rfl⟩
theorem sn : Sz .none := fun l e => by cases e
theorem three {i : Nat} (h : i < 3) : i = 0 ∨ i = 1 ∨ i = 2 := by omega
theorem listAll {d w x : PyData} {o : Out} {i : Nat} (hi : i < 3) (h : ∀ body, RK body [d, w, x] o) : law_listR i d w x o := by
  rcases three hi with rfl | rfl | rfl
  · exact (h _ : R_low_rows [d, w, x] o)
  · exact (h _ : R_count_low_rows [d, w, x] o)
  · exact (⟨_, _, _, _, rfl, h _⟩ : R_low_row_at [d, w, x, .none] o)
def badR : List PyData := [.none, .int 5, .list [], .tuple [.int 1, .int 2], .list [.int 10], .list [.bool true], .list (List.replicate 13 [PyData.int 0]).flatten]
theorem badR_ok : ∀ d ∈ badR, Sz d ∧ isRowD d = false := by
  intro d hd
  unfold badR at hd
  simp only [List.mem_cons, List.not_mem_nil, or_false] at hd
  rcases hd with rfl | rfl | rfl | rfl | rfl | rfl | rfl
  all_goals exact ⟨fun l e => by cases e <;> decide, by decide⟩
theorem call_row {d : PyData} {i : Nat} (hi : i ∈ [0, 1, 2, 3, 4, 5, 6, 8, 9, 10, 11]) (hs : Sz d) (h : isRowD d = false) : i < 12 ∧ law_callR i d .none (.exc .row) := by
  have rr : ∀ body, RR body [d] (.exc .row) := fun _ => ⟨_, rfl, hs, .inl ⟨h, rfl⟩⟩
  simp only [List.mem_cons, List.not_mem_nil, or_false] at hi
  rcases hi with rfl | rfl | rfl | rfl | rfl | rfl | rfl | rfl | rfl | rfl | rfl
  · exact ⟨by decide, (rr _ : R_backward [d] _)⟩
  · exact ⟨by decide, (rr _ : R_turned_over [d] _)⟩
  · exact ⟨by decide, (⟨_, _, rfl, hs, .inl ⟨h, rfl⟩⟩ : R_led [d, .none] _)⟩
  · exact ⟨by decide, (⟨_, _, _, rfl, hs, .inl ⟨h, rfl⟩⟩ : R_part_of [d, .none, .int 2] _)⟩
  · exact ⟨by decide, (⟨_, _, _, rfl, hs, .inl ⟨h, rfl⟩⟩ : R_part_of [d, .int 0, .none] _)⟩
  · exact ⟨by decide, (⟨_, _, rfl, hs, sn, .inl ⟨h, rfl⟩⟩ : R_joined [d, .none] _)⟩
  · exact ⟨by decide, (⟨_, _, _, rfl, hs, .inl ⟨h, rfl⟩⟩ : R_rank_of_low [d, .none, .int 1] _)⟩
  · exact ⟨by decide, (⟨_, _, _, _, rfl, ⟨_, _, rfl, hs, .inl ⟨h, rfl⟩⟩⟩ : R_common_origin [d, .int 2, .none, .int 2] _)⟩
  · exact ⟨by decide, (rr _ : R_format_row [d] _)⟩
  · exact ⟨by decide, (rr _ : R_drawn [d] _)⟩
  · exact ⟨by decide, (⟨_, _, _, rfl, hs, sn, .inl ⟨h, rfl⟩⟩ : R_is_origin [d, .none, .int 2] _)⟩
theorem call_row2 {d : PyData} {i : Nat} (hi : i ∈ [5, 8, 11]) (hs : Sz d) (h : isRowD d = false) : i < 12 ∧ law_callR i (dL [1]) d (.exc .row) := by
  simp only [List.mem_cons, List.not_mem_nil, or_false] at hi
  rcases hi with rfl | rfl | rfl
  · exact ⟨by decide, (⟨_, _, rfl, r1.sz, hs, .inr (.inl ⟨h, rfl⟩)⟩ : R_joined [dL [1], d] _)⟩
  · exact ⟨by decide, (⟨_, _, _, _, rfl, RL.ok (k := 2) r1 (by decide) (by decide) ⟨_, _, rfl, hs, .inl ⟨h, rfl⟩⟩⟩ : R_common_origin [dL [1], .int 2, d, .int 2] _)⟩
  · exact ⟨by decide, (⟨_, _, _, rfl, r1.sz, hs, .inr ⟨[1], rfl, r1, ⟨_, _, rfl, hs, .inl ⟨h, rfl⟩⟩⟩⟩ : R_is_origin [dL [1], d, .int 2] _)⟩
theorem r00 : okRow [0, 0] := ⟨by decide, by decide, by decide⟩
theorem rank7 {d : PyData} (h : isIntD d 0 3 = false) : law_callR 7 d (.int 0) (.exc .number) := (⟨_, _, _, rfl, r00.sz, .inr ⟨[0, 0], rfl, r00, ⟨_, _, _, rfl, .inr ⟨2, rfl, by decide, by decide, .inr ⟨2, rfl, by decide, by decide, .inl ⟨h, rfl⟩⟩⟩⟩⟩⟩ : R_rank_of_low [dL [0, 0], .int 2, d] _)
theorem rank7d : ∃ x, law_callR 7 (.int 3) (.int 0) (.ret x) := ⟨_, (⟨_, _, _, rfl, r00.sz, .inr ⟨[0, 0], rfl, r00, RK.ok (n := 2) (k := 2) (m := 3) (by decide) (by decide) (by decide) (by decide) (by decide) (.inr ⟨mem_lowAll.mpr ⟨rfl, by decide, by decide +kernel⟩, rfl⟩)⟩⟩ : R_rank_of_low [dL [0, 0], .int 2, .int 3] _)⟩
theorem r17 : okRow (List.replicate 7 1) := ⟨by decide, by decide, by decide⟩
theorem rk6a : law_callR 6 (dL (List.replicate 7 1)) (.int 2) (.exc .number) := (⟨_, _, _, rfl, r17.sz, .inr ⟨_, rfl, r17, ⟨_, _, _, rfl, .inl ⟨by decide, rfl⟩⟩⟩⟩ : R_rank_of_low [dL (List.replicate 7 1), .int 2, .int 1] _)
theorem r101 : okRow [1, 0, 1] := ⟨by decide, by decide, by decide⟩
theorem rk6b : law_callR 6 (dL [1, 0, 1]) (.int 2) (.exc .row) := (⟨_, _, _, rfl, r101.sz, .inr ⟨[1, 0, 1], rfl, r101, RK.ok (n := 3) (k := 2) (m := 1) (by decide) (by decide) (by decide) (by decide) (by decide) (.inl ⟨by decide +kernel, rfl⟩)⟩⟩ : R_rank_of_low [dL [1, 0, 1], .int 2, .int 1] _)
theorem rk6c : law_callR 6 (dL [2]) (.int 2) (.exc .row) := (⟨_, _, _, rfl, r2.sz, .inr ⟨[2], rfl, r2, RK.ok (n := 1) (k := 2) (m := 1) (by decide) (by decide) (by decide) (by decide) (by decide) (.inl ⟨by decide +kernel, rfl⟩)⟩⟩ : R_rank_of_low [dL [2], .int 2, .int 1] _)
theorem rk6d : law_callR 6 (dL [1]) .none (.exc .width) := (⟨_, _, _, rfl, r1.sz, .inr ⟨[1], rfl, r1, ⟨_, _, _, rfl, .inr ⟨1, rfl, by decide, by decide, .inl ⟨rfl, rfl⟩⟩⟩⟩⟩ : R_rank_of_low [dL [1], .none, .int 1] _)
def ten10 : List Int := [0, 1, 2, 3, 4, 5, 6, 7, 8, 9]
def badT : List PyData := [.none, .int 5, .list (ten10.map .int), .tuple ((ten10.take 9).map .int), .tuple (ten10.reverse.map .int), .tuple ((ten10.take 9).map .int ++ [.int 10]), .tuple ([.bool true] ++ (ten10.drop 1).map .int)]
theorem badT_ok : ∀ d ∈ badT, law_callR 2 (dL [1]) d (.exc .number) := by
  intro d hd
  have z : badTab d → law_callR 2 (dL [1]) d (.exc .number) := fun h => (⟨_, _, rfl, r1.sz, .inr ⟨[1], rfl, r1, .inl ⟨h, rfl⟩⟩⟩ : R_led [dL [1], d] _)
  refine z ?_
  unfold badT at hd
  simp only [List.mem_cons, List.not_mem_nil, or_false] at hd
  rcases hd with rfl | rfl | rfl | rfl | rfl | rfl | rfl
  · exact .inl fun ts e => by cases e
  · exact .inl fun ts e => by cases e
  · exact .inl fun ts e => by cases e
  · exact .inr ⟨_, rfl, by decide, .inl (by decide)⟩
  · exact .inr ⟨_, rfl, by decide, .inr ⟨by decide, .inr ⟨ten10.reverse, rfl, by decide⟩⟩⟩
  · exact .inr ⟨_, rfl, by decide, .inr ⟨by decide, .inl (by decide)⟩⟩
  · exact .inr ⟨_, rfl, by decide, .inr ⟨by decide, .inl (by decide)⟩⟩
theorem r12 : okRow [1, 2] := ⟨by decide, by decide, by decide⟩
theorem r11 : okRow [1, 1] := ⟨by decide, by decide, by decide⟩
theorem part3 {d : PyData} (h : isIntD d 0 1 = false) : law_callR 3 (dL [1, 2]) d (.exc .number) := (⟨_, _, _, rfl, r12.sz, .inr ⟨[1, 2], rfl, r12, .inl ⟨h, rfl⟩⟩⟩ : R_part_of [dL [1, 2], d, .int 2] _)
theorem part4 {d : PyData} (h : isIntD d 1 1 = false) : law_callR 4 (dL [1]) d (.exc .number) := (⟨_, _, _, rfl, r1.sz, .inr ⟨[1], rfl, r1, .inr ⟨0, rfl, by decide, .inl ⟨h, rfl⟩⟩⟩⟩ : R_part_of [dL [1], .int 0, d] _)
theorem zer (n : Nat) (h1 : 1 ≤ n) (h2 : n ≤ 12) : okRow (List.replicate n 0) := ⟨by simp; omega, by simp; omega, fun x hx => by
  have := List.eq_of_mem_replicate hx
  omega⟩
theorem join5 : ∃ x, law_callR 5 (dL (List.replicate 7 0)) (dL (List.replicate 5 0)) (.ret x) := ⟨_, (⟨_, _, rfl, (zer 7 (by decide) (by decide)).sz, (zer 5 (by decide) (by decide)).sz, .inr (.inr ⟨_, _, rfl, rfl, zer 7 (by decide) (by decide), zer 5 (by decide) (by decide), by rw [if_pos (by decide)]⟩)⟩ : R_joined [dL (List.replicate 7 0), dL (List.replicate 5 0)] _)⟩
theorem join6 : law_callR 5 (dL (List.replicate 7 0)) (dL (List.replicate 6 0)) (.exc .row) := (⟨_, _, rfl, (zer 7 (by decide) (by decide)).sz, (zer 6 (by decide) (by decide)).sz, .inr (.inr ⟨_, _, rfl, rfl, zer 7 (by decide) (by decide), zer 6 (by decide) (by decide), by rw [if_neg (by decide)]⟩)⟩ : R_joined [dL (List.replicate 7 0), dL (List.replicate 6 0)] _)
theorem com8a : law_callR 8 (dL [1, 1]) (dL [1]) (.exc .width) := (⟨_, _, _, _, rfl, RL.ok (k := 2) r11 (by decide) (by decide) (RL.ok (k := 2) r1 (by decide) (by decide) (.inl ⟨by decide, rfl⟩))⟩ : R_common_origin [dL [1, 1], .int 2, dL [1], .int 2] _)
theorem com8b : law_callR 8 (dL [1, 1]) (dL [1, 2]) (.exc .gone) := (⟨_, _, _, _, rfl, RL.ok (k := 2) r11 (by decide) (by decide) (RL.ok (k := 2) r12 (by decide) (by decide) (.inr ⟨by decide, by rw [if_neg (by decide +kernel)]⟩))⟩ : R_common_origin [dL [1, 1], .int 2, dL [1, 2], .int 2] _)
def nmL : Nat → Str
  | 0 => "done"
  | 1 => "done"
  | _ => "number"
theorem list_done {n i : Nat} (n1 : 1 ≤ n) (n3 : n ≤ 3) (hi : i < 3) : ∃ o, law_listR i (.int (n : Int)) (.int ((13 - n : Nat) : Int)) (.int 3) o ∧ doneS o = nmL i := by
  have z : ∀ {body : Nat → Nat → Nat → Out → Prop} {o : Out}, body n (13 - n) 3 o → RK body [.int (n : Int), .int ((13 - n : Nat) : Int), .int 3] o := fun h => RK.ok (m := 3) n1 (by omega) (by omega) (by omega) (by decide) h
  rcases three hi with rfl | rfl | rfl
  · exact ⟨.ret _, (z rfl : R_low_rows [.int (n : Int), .int ((13 - n : Nat) : Int), .int 3] _), rfl⟩
  · exact ⟨.ret _, (z rfl : R_count_low_rows [.int (n : Int), .int ((13 - n : Nat) : Int), .int 3] _), rfl⟩
  · exact ⟨.exc .number, (⟨_, _, _, _, rfl, z (.inl ⟨rfl, rfl⟩)⟩ : R_low_row_at [.int (n : Int), .int ((13 - n : Nat) : Int), .int 3, .none] _), rfl⟩
theorem cnt621 : law_listR 1 (.int 6) (.int 2) (.int 1) (.ret (.int ((lowAll 6 2 1).length : Int))) := (RK.ok (n := 6) (k := 2) (m := 1) (by decide) (by decide) (by decide) (by decide) (by decide) rfl : R_count_low_rows [.int 6, .int 2, .int 1] _)
theorem ev_trg1 {F : FC} {R : Mem} {ks : List SK} {P : PyData → Prop} {ta : TE} (h : Ev F R ta ks fun x => ∃ n : Int, x = .int n ∧ 0 ≤ n ∧ n ≤ 90000 ∧ P (.tuple (rangeD 0 n.toNat))) : Ev F R (tTupRg (tRg1 ta)) ks P := fun ms σ H C hR r Q q =>
  h ms σ H C hR r _ fun v1 H1 C1 x p1 r1 e1 d1 => by
    obtain ⟨n, rfl, n0, n1, p⟩ := p1
    cases d1
    refine ⟨n, rfl, RgOk.of_le (by omega) (by omega) (by omega) n0, fun l hl => ?_⟩
    obtain ⟨r2, x2⟩ := r1.new hl (.tup (rgV 0 n))
    have e := dn_rgV (upd C1 l (.tup (rgV 0 n))) 0 n
    rw [show (n - 0).toNat = n.toNat by omega] at e
    exact q _ _ _ _ p r2 (e1.trans x2) (.tup upd_same e)
theorem rg10 : rangeD 0 (10 : Int).toNat = ten10.map PyData.int := by rfl
theorem badT_get {i : Nat} {d : PyData} {l : List PyData} (e : l = badT) (h : l[i]? = some d) : law_callR 2 (dL [1]) d (.exc .number) := badT_ok d (by rw [← e]; exact List.mem_of_getElem? h)
set_option maxHeartbeats 4000000 in
theorem ok_law {f : Addr} {fd : FuncData} (Fn : Fun K "law" "law" s_law f fd) (B : Bt mg) (n_law_start : Ent P w K mg base "_law_start" ["script"] 1 (SpStart K)) (n_law_asked : Ent P w K mg base "_law_asked" ["group", "kind", "one", "two", "three"] 15 (SpD g R_law_asked)) (n_law_draw : Ent P w K mg base "_law_draw" ["draws", "limit"] 1 (SpDr Pre_law_draw R_law_draw)) (n_law_pairs : Ent P w K mg base "_law_pairs" [] 16 (SpD g R_law_pairs)) (n_law_slider : Ent P w K mg base "_law_slider" [] 16 (SpD g R_law_slider)) : FnOk P w K mg base (L2.CX P w) 17 f fd ["script"] (spLaw K) := by
  refine fn_law (k := 16) (fun _ => 0) Fn sc_law fun cdv A outer s H E hr => ⟨_, (pss_cons (ps_set (i := 1) sc_law.nd rfl (by first | exact Or.inl rfl | exact Or.inr rfl) (pe_ent n_law_start hr (pass_own (takes_of rfl rfl rfl rfl)) (pa_cons (pv 0) pa_nil)))
      (pss_cons (ps_for (passes_of rfl) rfl (k_list (K := K) (pe_lst (pa_cons pe_non (pa_cons pe_int (pa_cons (pe_lst pa_nil) (pa_cons (pe_tup (pa_cons pe_int (pa_cons pe_int pa_nil))) (pa_cons (pe_lst (pa_cons pe_int pa_nil)) (pa_cons (pe_lst (pa_cons pe_bl pa_nil)) (pa_cons (pe_op L2.op_rep (pe_lst (pa_cons pe_int pa_nil)) pe_int) pa_nil))))))))) (pg_name (i := 2) sc_law.nd rfl (by first | exact Or.inl rfl | exact Or.inr rfl)) (pss_cons (ps_if (pt_cmpR (k_neD (K := K) hr.units) (pe_lc (own := [("k", 3)]) (tt := tYes) rfl sc_law.nd (k_tup (K := K) (pe_tup (pa_cons pe_int (pa_cons pe_int (pa_cons pe_int (pa_cons pe_int (pa_cons pe_int (pa_cons pe_int (pa_cons pe_int (pa_cons pe_int (pa_cons pe_int (pa_cons pe_int (pa_cons pe_int pa_nil))))))))))))) (blkOk_by (own := [("k", 3)]) (N := ["script", "draws", "bad", "k", "length", "good", "many"]) (sc := defScope s_law) (by decide +kernel)) (fun _ _ _ _ _ => (pg_name (i := 3) sc_law.nd rfl (by first | exact Or.inl rfl | exact Or.inr rfl))) (fun _ _ _ _ _ => pts_nil) (fun _ _ _ _ _ => (pe_ent n_law_asked hr passL (pa_cons pe_int (pa_cons (pv 3) (pa_cons (pv 2) (pa_cons pe_non (pa_cons pe_int pa_nil)))))))) (pe_op L2.op_rep (pe_lst (pa_cons pe_str pa_nil)) pe_int) (nomark _)) (pss_one (ps_ret pe_bl)) pss_nil)
      (pss_one (ps_if (pt_cmpR (k_neD (K := K) hr.units) (pe_lc (own := [("k", 3)]) (tt := tYes) rfl sc_law.nd (k_tup (K := K) (pe_tup (pa_cons pe_int (pa_cons pe_int (pa_cons pe_int pa_nil))))) (blkOk_by (own := [("k", 3)]) (N := ["script", "draws", "bad", "k", "length", "good", "many"]) (sc := defScope s_law) (by decide +kernel)) (fun _ _ _ _ _ => (pg_name (i := 3) sc_law.nd rfl (by first | exact Or.inl rfl | exact Or.inr rfl))) (fun _ _ _ _ _ => pts_nil) (fun _ _ _ _ _ => (pe_ent n_law_asked hr passL (pa_cons pe_int (pa_cons (pv 3) (pa_cons (pe_lst (pa_cons pe_int pa_nil)) (pa_cons (pv 2) (pa_cons pe_int pa_nil)))))))) (pe_op L2.op_rep (pe_lst (pa_cons pe_str pa_nil)) pe_int) (nomark _)) (pss_one (ps_ret pe_bl)) pss_nil))))
      (pss_cons (ps_for (passes_of rfl) rfl (k_list (K := K) (pe_lst (pa_cons pe_non (pa_cons pe_int (pa_cons pe_int (pa_cons (pe_op L2.op_sub pe_int pe_int) (pa_cons pe_bl (pa_cons pe_str pa_nil)))))))) (pg_name (i := 2) sc_law.nd rfl (by first | exact Or.inl rfl | exact Or.inr rfl)) (pss_one (ps_if (pt_cmpR (k_neD (K := K) hr.units) (pe_lc (own := [("k", 3)]) (tt := tYes) rfl sc_law.nd (pi_range1 (by rfl) B.b_range (pa_cons pe_int pa_nil)) (blkOk_by (own := [("k", 3)]) (N := ["script", "draws", "bad", "k", "length", "good", "many"]) (sc := defScope s_law) (by decide +kernel)) (fun _ _ _ _ _ => (pg_name (i := 3) sc_law.nd rfl (by first | exact Or.inl rfl | exact Or.inr rfl))) (fun _ _ _ _ _ => pts_nil) (fun _ _ _ _ _ => (pe_ent n_law_asked hr passL (pa_cons pe_int (pa_cons (pv 3) (pa_cons (pv 2) (pa_cons pe_non (pa_cons pe_non pa_nil)))))))) (pe_op L2.op_rep (pe_lst (pa_cons pe_str pa_nil)) pe_int) (nomark _)) (pss_one (ps_ret pe_bl)) pss_nil)))
      (pss_cons (ps_set (i := 4) sc_law.nd rfl (by first | exact Or.inl rfl | exact Or.inr rfl) (pe_op L2.op_add pe_int (pe_ent n_law_draw hr (pass_own (takes_of rfl rfl rfl rfl)) (pa_cons (pv 1) (pa_cons pe_int pa_nil)))))
      (pss_cons (ps_for (passes_of rfl) rfl (k_list (K := K) (pe_lst (pa_cons pe_non (pa_cons pe_int (pa_cons (pe_op L2.op_sub pe_int (pv 4)) (pa_cons pe_bl pa_nil)))))) (pg_name (i := 2) sc_law.nd rfl (by first | exact Or.inl rfl | exact Or.inr rfl)) (pss_one (ps_if (pt_cmpR (k_neD (K := K) hr.units) (pe_lc (own := [("k", 3)]) (tt := tYes) rfl sc_law.nd (pi_range1 (by rfl) B.b_range (pa_cons pe_int pa_nil)) (blkOk_by (own := [("k", 3)]) (N := ["script", "draws", "bad", "k", "length", "good", "many"]) (sc := defScope s_law) (by decide +kernel)) (fun _ _ _ _ _ => (pg_name (i := 3) sc_law.nd rfl (by first | exact Or.inl rfl | exact Or.inr rfl))) (fun _ _ _ _ _ => pts_nil) (fun _ _ _ _ _ => (pe_ent n_law_asked hr passL (pa_cons pe_int (pa_cons (pv 3) (pa_cons (pv 4) (pa_cons (pv 2) (pa_cons pe_non pa_nil)))))))) (pe_op L2.op_rep (pe_lst (pa_cons pe_str pa_nil)) pe_int) (nomark _)) (pss_one (ps_ret pe_bl)) pss_nil)))
      (pss_cons (ps_for (passes_of rfl) rfl (k_list (K := K) (pe_lst (pa_cons pe_non (pa_cons pe_int (pa_cons (pe_op L2.op_sub pe_int pe_int) (pa_cons pe_bl pa_nil)))))) (pg_name (i := 2) sc_law.nd rfl (by first | exact Or.inl rfl | exact Or.inr rfl)) (pss_one (ps_if (PW.pt (pw_or (pt_cmpR (k_neD (K := K) hr.units) (pe_lc (own := [("k", 3)]) (tt := tYes) rfl sc_law.nd (pi_range1 (by rfl) B.b_range (pa_cons pe_int pa_nil)) (blkOk_by (own := [("k", 3)]) (N := ["script", "draws", "bad", "k", "length", "good", "many"]) (sc := defScope s_law) (by decide +kernel)) (fun _ _ _ _ _ => (pg_name (i := 3) sc_law.nd rfl (by first | exact Or.inl rfl | exact Or.inr rfl))) (fun _ _ _ _ _ => pts_nil) (fun _ _ _ _ _ => (pe_ent n_law_asked hr passL (pa_cons pe_int (pa_cons (pv 3) (pa_cons (pv 4) (pa_cons pe_int (pa_cons (pv 2) pa_nil)))))))) (pe_op L2.op_rep (pe_lst (pa_cons pe_str pa_nil)) pe_int) (nomark _)) (pw_or1 (pt_cmpR (k_neD (K := K) hr.units) (pe_ent n_law_asked hr (pass_own (takes_of rfl rfl rfl rfl)) (pa_cons pe_int (pa_cons pe_int (pa_cons (pv 2) (pa_cons pe_int (pa_cons pe_int pa_nil)))))) pe_str (nomark _))))) (pss_one (ps_ret pe_bl)) pss_nil)))
      (pss_cons (ps_if (PW.pt (pw_or (pt_cmpR (k_neD (K := K) hr.units) (pe_lc (own := [("k", 3)]) (tt := tYes) rfl sc_law.nd (pi_range1 (by rfl) B.b_range (pa_cons pe_int pa_nil)) (blkOk_by (own := [("k", 3)]) (N := ["script", "draws", "bad", "k", "length", "good", "many"]) (sc := defScope s_law) (by decide +kernel)) (fun _ _ _ _ _ => (pg_name (i := 3) sc_law.nd rfl (by first | exact Or.inl rfl | exact Or.inr rfl))) (fun _ _ _ _ _ => pts_nil) (fun _ _ _ _ _ => (pe_ent n_law_asked hr passL (pa_cons pe_int (pa_cons (pv 3) (pa_cons (pv 4) (pa_cons (pe_op L2.op_sub pe_int (pv 4)) (pa_cons pe_int pa_nil)))))))) (pe_lst (pa_cons pe_str (pa_cons pe_str (pa_cons pe_str pa_nil)))) (nomark _)) (pw_or1 (pt_cmpR (k_neD (K := K) hr.units) (pe_lst (pa_cons (pe_ent n_law_asked hr (pass_own (takes_of rfl rfl rfl rfl)) (pa_cons pe_int (pa_cons pe_int (pa_cons pe_int (pa_cons pe_int (pa_cons pe_int pa_nil)))))) (pa_cons (pe_ent n_law_asked hr (pass_own (takes_of rfl rfl rfl rfl)) (pa_cons pe_int (pa_cons pe_int (pa_cons pe_int (pa_cons pe_int (pa_cons pe_int pa_nil)))))) pa_nil))) (pe_op L2.op_rep (pe_lst (pa_cons pe_str pa_nil)) pe_int) (nomark _))))) (pss_one (ps_ret pe_bl)) pss_nil)
      (pss_cons (ps_if (pt_cmpR (k_neD (K := K) hr.units) (pe_lst (pa_cons (pe_ent n_law_asked hr (pass_own (takes_of rfl rfl rfl rfl)) (pa_cons pe_int (pa_cons pe_int (pa_cons (pe_op L2.op_rep (pe_lst (pa_cons pe_int pa_nil)) pe_int) (pa_cons pe_int (pa_cons pe_int pa_nil)))))) (pa_cons (pe_ent n_law_asked hr (pass_own (takes_of rfl rfl rfl rfl)) (pa_cons pe_int (pa_cons pe_int (pa_cons (pe_lst (pa_cons pe_int (pa_cons pe_int (pa_cons pe_int pa_nil)))) (pa_cons pe_int (pa_cons pe_int pa_nil)))))) (pa_cons (pe_ent n_law_asked hr (pass_own (takes_of rfl rfl rfl rfl)) (pa_cons pe_int (pa_cons pe_int (pa_cons (pe_lst (pa_cons pe_int pa_nil)) (pa_cons pe_int (pa_cons pe_int pa_nil)))))) (pa_cons (pe_ent n_law_asked hr (pass_own (takes_of rfl rfl rfl rfl)) (pa_cons pe_int (pa_cons pe_int (pa_cons (pe_lst (pa_cons pe_int pa_nil)) (pa_cons pe_non (pa_cons pe_int pa_nil)))))) pa_nil))))) (pe_lst (pa_cons pe_str (pa_cons pe_str (pa_cons pe_str (pa_cons pe_str pa_nil))))) (nomark _)) (pss_one (ps_ret pe_bl)) pss_nil)
      (pss_cons (ps_set (i := 5) sc_law.nd rfl (by first | exact Or.inl rfl | exact Or.inr rfl) (pe_tupRg (by rfl) (by rfl) B.b_tuple (prg_1 (by rfl) B.b_range pe_int)))
      (pss_cons (ps_for (passes_of rfl) rfl (k_list (K := K) (pe_lst (pa_cons pe_non (pa_cons pe_int (pa_cons (pe_callTy (k_listOf (K := K)) (by rfl) B.b_list (by decide +kernel) (pa_cons (pv 5) pa_nil)) (pa_cons (pe_slice (k_slA (K := K)) (pv 5) po_none (po_some pe_int)) (pa_cons (k_revT (K := K) (pv 5)) (pa_cons (pe_op (k_catA (K := K)) (pe_slice (k_slA (K := K)) (pv 5) po_none (po_some pe_int)) (pe_tup (pa_cons pe_int pa_nil))) (pa_cons (pe_op (k_catA (K := K)) (pe_tup (pa_cons pe_bl pa_nil)) (pe_slice (k_slA (K := K)) (pv 5) (po_some pe_int) po_none)) pa_nil))))))))) (pg_name (i := 2) sc_law.nd rfl (by first | exact Or.inl rfl | exact Or.inr rfl)) (pss_one (ps_if (pt_cmpR (k_neD (K := K) hr.units) (pe_ent n_law_asked hr (pass_own (takes_of rfl rfl rfl rfl)) (pa_cons pe_int (pa_cons pe_int (pa_cons (pe_lst (pa_cons pe_int pa_nil)) (pa_cons (pv 2) (pa_cons pe_int pa_nil)))))) pe_str (nomark _)) (pss_one (ps_ret pe_bl)) pss_nil)))
      (pss_cons (ps_for (passes_of rfl) rfl (k_list (K := K) (pe_lst (pa_cons pe_non (pa_cons pe_int (pa_cons (pe_op L2.op_sub pe_int pe_int) (pa_cons pe_bl (pa_cons pe_str pa_nil))))))) (pg_name (i := 2) sc_law.nd rfl (by first | exact Or.inl rfl | exact Or.inr rfl)) (pss_one (ps_if (PW.pt (pw_or (pt_cmpR (k_neD (K := K) hr.units) (pe_ent n_law_asked hr (pass_own (takes_of rfl rfl rfl rfl)) (pa_cons pe_int (pa_cons pe_int (pa_cons (pe_lst (pa_cons pe_int (pa_cons pe_int pa_nil))) (pa_cons (pv 2) (pa_cons pe_int pa_nil)))))) pe_str (nomark _)) (pw_or1 (pt_cmpR (k_neD (K := K) hr.units) (pe_ent n_law_asked hr (pass_own (takes_of rfl rfl rfl rfl)) (pa_cons pe_int (pa_cons pe_int (pa_cons (pe_lst (pa_cons pe_int pa_nil)) (pa_cons (pv 2) (pa_cons pe_int pa_nil)))))) pe_str (nomark _))))) (pss_one (ps_ret pe_bl)) pss_nil)))
      (pss_cons (ps_if (PW.pt (pw_or (pt_cmpR (k_neD (K := K) hr.units) (pe_lc (own := [("many", 6)]) (tt := tYes) rfl sc_law.nd (k_tup (K := K) (pe_tup (pa_cons pe_int (pa_cons pe_int pa_nil)))) (blkOk_by (own := [("many", 6)]) (N := ["script", "draws", "bad", "k", "length", "good", "many"]) (sc := defScope s_law) (by decide +kernel)) (fun _ _ _ _ _ => (pg_name (i := 6) sc_law.nd rfl (by first | exact Or.inl rfl | exact Or.inr rfl))) (fun _ _ _ _ _ => pts_nil) (fun _ _ _ _ _ => (pe_ent n_law_asked hr passL (pa_cons pe_int (pa_cons pe_int (pa_cons (pe_op L2.op_rep (pe_lst (pa_cons pe_int pa_nil)) pe_int) (pa_cons (pe_op L2.op_rep (pe_lst (pa_cons pe_int pa_nil)) (pv 6)) (pa_cons pe_int pa_nil)))))))) (pe_lst (pa_cons pe_str (pa_cons pe_str pa_nil))) (nomark _)) (pw_or1 (pt_cmpR (k_neD (K := K) hr.units) (pe_ent n_law_asked hr (pass_own (takes_of rfl rfl rfl rfl)) (pa_cons pe_int (pa_cons pe_int (pa_cons (pe_lst (pa_cons pe_int (pa_cons pe_int pa_nil))) (pa_cons (pe_lst (pa_cons pe_int pa_nil)) (pa_cons pe_int pa_nil)))))) pe_str (nomark _))))) (pss_one (ps_ret pe_bl)) pss_nil)
      (pss_one (ps_ret (pe_and (pe_cmpR (k_eqD (K := K) hr.units) (pe_ent n_law_asked hr (pass_own (takes_of rfl rfl rfl rfl)) (pa_cons pe_int (pa_cons pe_int (pa_cons (pe_lst (pa_cons pe_int (pa_cons pe_int pa_nil))) (pa_cons (pe_lst (pa_cons pe_int (pa_cons pe_int pa_nil))) (pa_cons pe_int pa_nil)))))) pe_str (nomark _)) (pe_and (pe_ent0 n_law_pairs hr (pass_own (takes_of rfl rfl rfl rfl))) (pe_one (pe_ent0 n_law_slider hr (pass_own (takes_of rfl rfl rfl rfl)))))))))))))))))))), fun H0 a ns hS => ?_⟩
  show WS _ _ [.v (.ref a), .un, .un, .un, .un, .un, .un] [] _
  refine ws_seq (ws_start rfl hS fun dr nu => ?_)
  refine ws_seq (ws_for (vs := [2]) ?_)
  walk_at "w"
  refine op_rep (n := 13) (by decide) (by decide) ?_
  walk_at "w"
  refine ⟨fun i ks ms => ms = [(dr, .dr nu), (nu, .nu)] ∧ ∃ x y : SK, ks = [.v (.ref a), .v (.ref dr), x, y, .un, .un, .un], ⟨rfl, _, _, rfl⟩, ?_, ?_⟩
  · rintro i d _ _ hd ⟨rfl, x, y, rfl⟩
    obtain ⟨hs, hb⟩ := badR_ok d (List.mem_of_getElem? hd)
    refine ⟨_, sg_name (by decide), ?_⟩
    walk_at "w"
    refine ev_lcF (fun k : Nat => PyData.int (k : Int)) ?_
    walk_at "w"
    refine ⟨[0, 1, 2, 3, 4, 5, 6, 8, 9, 10, 11], fun _ => .str "row", rfl, by decide, fun k hk => ⟨_, sg_name (by decide), ?_⟩, ?_⟩
    · walk_at "w"
      obtain ⟨h1, h2⟩ := call_row hk hs hb
      exact ⟨_, ask3 h1 h2, rfl⟩
    walk_at "w"
    refine op_rep (n := 11) (by decide) (by decide) ?_
    rw [rep_str]
    refine op_neSS (a := List.replicate 11 ("row" : Str)) (names_ok (by decide +kernel)) rfl ⟨_, rfl, c_tf rfl (ws_next ?_)⟩
    walk_at "w"
    refine ev_lcF (fun k : Nat => PyData.int (k : Int)) ?_
    walk_at "w"
    refine ⟨[5, 8, 11], fun _ => .str "row", rfl, by decide, fun k hk => ⟨_, sg_name (by decide), ?_⟩, ?_⟩
    · walk_at "w"
      obtain ⟨h1, h2⟩ := call_row2 hk hs hb
      exact ⟨_, ask3 h1 h2, rfl⟩
    walk_at "w"
    refine op_rep (n := 3) (by decide) (by decide) ?_
    rw [rep_str]
    exact op_neSS (a := List.replicate 3 ("row" : Str)) (names_ok (by decide +kernel)) rfl ⟨_, rfl, c_tf rfl (ws_next ⟨rfl, _, _, rfl⟩)⟩
  rintro _ _ ⟨rfl, x, y, rfl⟩
  refine ws_seq (ws_for (vs := [2]) ?_)
  walk_at "w"
  refine ⟨fun i ks ms => ms = [(dr, .dr nu), (nu, .nu)] ∧ ∃ x y : SK, ks = [.v (.ref a), .v (.ref dr), x, y, .un, .un, .un], ⟨rfl, _, _, rfl⟩, ?_, ?_⟩
  · rintro i d _ _ hd ⟨rfl, x, y, rfl⟩
    have hb : isIntD d 1 6 = false := by
      have hm := List.mem_of_getElem? hd
      simp only [List.mem_cons, List.not_mem_nil, or_false] at hm
      rcases hm with rfl | rfl | rfl | rfl | rfl | rfl <;> decide
    refine ⟨_, sg_name (by decide), ?_⟩
    walk_at "w"
    refine ev_lcF (fun k : Nat => PyData.int (0 + (k : Int))) ?_
    walk_at "w"
    refine ⟨by decide, by decide, List.range 3, fun _ => .str "number", rfl, by decide, fun k hk => ⟨_, sg_name (by decide), ?_⟩, ?_⟩
    · walk_at "w"
      rw [Int.zero_add]
      exact ⟨_, ask1 (o := .exc .number) (List.mem_range.mp hk) (listAll (List.mem_range.mp hk) fun _ => ⟨_, _, _, rfl, .inl ⟨hb, rfl⟩⟩), rfl⟩
    rw [strD 3 fun _ => "number"]
    walk_at "w"
    refine op_rep (n := 3) (by decide) (by decide) ?_
    rw [rep_str]
    exact op_neSS (rep_okS' (by decide +kernel)) (map_const fun _ _ => rfl) ⟨_, rfl, c_tf rfl (ws_next ⟨rfl, _, _, rfl⟩)⟩
  rintro _ _ ⟨rfl, x, y, rfl⟩
  walk_at "w"
  refine ⟨⟨by decide, by decide⟩, fun s0 s1 s2 => ?_⟩
  obtain ⟨n, en⟩ : ∃ n : Nat, 1 + s0 = (n : Int) := ⟨(1 + s0).toNat, by omega⟩
  have n1 : 1 ≤ n := by omega
  have n3 : n ≤ 3 := by omega
  walk_at "w"
  rw [en]
  show WS _ _ [.v (.ref a), .v (.ref dr), x, y, .d (.int (n : Int)), .un, .un] _ _
  refine ws_for (vs := [2]) ?_
  walk_at "w"
  refine ⟨fun i ks ms => ms = [(dr, .dr nu), (nu, .nu)] ∧ ∃ x y : SK, ks = [.v (.ref a), .v (.ref dr), x, y, .d (.int (n : Int)), .un, .un], ⟨rfl, _, _, rfl⟩, ?_, ?_⟩
  · rintro i d _ _ hd ⟨rfl, x, y, rfl⟩
    have hb : isIntD d 1 (13 - (n : Int)) = false := by
      have hm := List.mem_of_getElem? hd
      simp only [List.mem_cons, List.not_mem_nil, or_false] at hm
      rcases hm with rfl | rfl | rfl | rfl
      · rfl
      · rfl
      · exact int_no (by omega)
      · rfl
    refine ⟨_, sg_name (by decide), ?_⟩
    walk_at "w"
    refine ev_lcF (fun k : Nat => PyData.int (0 + (k : Int))) ?_
    walk_at "w"
    refine ⟨by decide, by decide, List.range 3, fun _ => .str "width", rfl, by decide, fun k hk => ⟨_, sg_name (by decide), ?_⟩, ?_⟩
    · walk_at "w"
      rw [Int.zero_add]
      exact ⟨_, ask1 (o := .exc .width) (List.mem_range.mp hk) (listAll (List.mem_range.mp hk) fun _ => ⟨_, _, _, rfl, .inr ⟨n, rfl, n1, by omega, .inl ⟨hb, rfl⟩⟩⟩), rfl⟩
    rw [strD 3 fun _ => "width"]
    walk_at "w"
    refine op_rep (n := 3) (by decide) (by decide) ?_
    rw [rep_str]
    exact op_neSS (rep_okS' (by decide +kernel)) (map_const fun _ _ => rfl) ⟨_, rfl, c_tf rfl (ws_next ⟨rfl, _, _, rfl⟩)⟩
  rintro _ _ ⟨rfl, x, y, rfl⟩
  refine ws_seq (ws_for (vs := [2]) ?_)
  walk_at "w"
  refine ⟨fun i ks ms => ms = [(dr, .dr nu), (nu, .nu)] ∧ ∃ x y : SK, ks = [.v (.ref a), .v (.ref dr), x, y, .d (.int (n : Int)), .un, .un], ⟨rfl, _, _, rfl⟩, ?_, ?_⟩
  · rintro i d _ _ hd ⟨rfl, x, y, rfl⟩
    have hb : isIntD d 0 3 = false := by
      have hm := List.mem_of_getElem? hd
      simp only [List.mem_cons, List.not_mem_nil, or_false] at hm
      rcases hm with rfl | rfl | rfl | rfl <;> decide
    refine ⟨_, sg_name (by decide), ?_⟩
    walk_at "w"
    refine ev_lcF (fun k : Nat => PyData.int (0 + (k : Int))) ?_
    walk_at "w"
    refine ⟨by decide, by decide, List.range 3, fun _ => .str "number", rfl, by decide, fun k hk => ⟨_, sg_name (by decide), ?_⟩, ?_⟩
    · walk_at "w"
      rw [Int.zero_add]
      exact ⟨_, ask1 (o := .exc .number) (List.mem_range.mp hk) (listAll (List.mem_range.mp hk) fun _ => ⟨_, _, _, rfl, .inr ⟨n, rfl, n1, by omega, .inr ⟨2, rfl, by decide, by omega, .inl ⟨hb, rfl⟩⟩⟩⟩), rfl⟩
    rw [strD 3 fun _ => "number"]
    walk_at "w"
    refine op_rep (n := 3) (by decide) (by decide) ?_
    rw [rep_str]
    refine op_neSS (rep_okS' (by decide +kernel)) (map_const fun _ _ => rfl) ⟨_, rfl, c_ff rfl ?_⟩
    walk_at "w"
    refine ⟨_, ask3 (i := 7) (by decide) (rank7 hb), ?_⟩
    walk_at "w"
    exact op_neS1 (by decide +kernel) ⟨_, rfl, c_tf rfl (ws_next ⟨rfl, _, _, rfl⟩)⟩
  rintro _ _ ⟨rfl, x, y, rfl⟩
  refine ws_seq (ws_if ?_)
  walk_at "w"
  refine ev_lcF (fun k : Nat => PyData.int (0 + (k : Int))) ?_
  walk_at "w"
  refine ⟨by decide, by decide, List.range 3, fun k => .str (nmL k), rfl, by decide, fun k hk => ⟨_, sg_name (by decide), ?_⟩, ?_⟩
  · have hk := List.mem_range.mp hk
    obtain ⟨o, h1, h2⟩ := list_done n1 n3 hk
    walk_at "w"
    rw [Int.zero_add, show (13 : Int) - (n : Int) = ((13 - n : Nat) : Int) by omega]
    exact ⟨_, ask1 hk h1, by rw [h2]⟩
  rw [strD 3 nmL]
  walk_at "w"
  refine op_neSS (b := ["done", "done", "number"]) (names_ok (by decide +kernel)) rfl ⟨_, rfl, c_ff rfl ?_⟩
  walk_at "w"
  refine ⟨_, ask1 (i := 1) (by decide) cnt621, ?_⟩
  walk_at "w"
  obtain ⟨_, h7⟩ := rank7d
  refine ⟨_, ask3 (i := 7) (by decide) h7, ?_⟩
  walk_at "w"
  refine op_rep (n := 2) (by decide) (by decide) ?_
  rw [rep_str]
  refine op_neSS (a := ["done", "done"]) (names_ok (by decide +kernel)) rfl ⟨_, rfl, c_tf rfl (ws_next ?_)⟩
  refine ws_seq (ws_if ?_)
  walk_at "w"
  refine op_rep (n := 7) (by decide) (by decide) ?_
  rw [rep_int]
  walk_at "w"
  refine ⟨_, ask3 (i := 6) (by decide) rk6a, ?_⟩
  walk_at "w"
  refine ⟨_, ask3 (i := 6) (by decide) rk6b, ?_⟩
  walk_at "w"
  refine ⟨_, ask3 (i := 6) (by decide) rk6c, ?_⟩
  walk_at "w"
  refine ⟨_, ask3 (i := 6) (by decide) rk6d, ?_⟩
  walk_at "w"
  refine op_neSS (a := ["number", "row", "row", "width"]) (b := ["number", "row", "row", "width"]) (names_ok (by decide +kernel)) rfl ⟨_, rfl, c_tf rfl (ws_next ?_)⟩
  walk_at "w"
  refine ev_trg1 ?_
  walk_at "w"
  refine ⟨by decide, by decide, ?_⟩
  rw [rg10]
  show WS _ _ [.v (.ref a), .v (.ref dr), x, y, .d (.int (n : Int)), .d (.tuple (ten10.map PyData.int)), .un] _ _
  refine ws_seq (ws_for (vs := [2]) ?_)
  walk_at "w"
  refine on_listT ?_
  walk_at "w"
  refine op_catT2 (by decide) ?_
  walk_at "w"
  refine op_catT2 (by decide) ?_
  walk_at "w"
  refine ⟨fun i ks ms => ms = [(dr, .dr nu), (nu, .nu)] ∧ ∃ x y : SK, ks = [.v (.ref a), .v (.ref dr), x, y, .d (.int (n : Int)), .d (.tuple (ten10.map PyData.int)), .un], ⟨rfl, _, _, rfl⟩, ?_, ?_⟩
  · rintro i d _ _ hd ⟨rfl, x, y, rfl⟩
    have hb : law_callR 2 (dL [1]) d (.exc .number) := badT_get (by rfl) hd
    refine ⟨_, sg_name (by decide), ?_⟩
    walk_at "w"
    refine ⟨_, ask3 (i := 2) (by decide) hb, ?_⟩
    walk_at "w"
    exact op_neS1 (by decide +kernel) ⟨_, rfl, c_tf rfl (ws_next ⟨rfl, _, _, rfl⟩)⟩
  rintro _ _ ⟨rfl, x, y, rfl⟩
  refine ws_seq (ws_for (vs := [2]) ?_)
  walk_at "w"
  refine ⟨fun i ks ms => ms = [(dr, .dr nu), (nu, .nu)] ∧ ∃ x y : SK, ks = [.v (.ref a), .v (.ref dr), x, y, .d (.int (n : Int)), .d (.tuple (ten10.map PyData.int)), .un], ⟨rfl, _, _, rfl⟩, ?_, ?_⟩
  · rintro i d _ _ hd ⟨rfl, x, y, rfl⟩
    have hb : isIntD d 0 1 = false ∧ isIntD d 1 1 = false := by
      have hm := List.mem_of_getElem? hd
      simp only [List.mem_cons, List.not_mem_nil, or_false] at hm
      rcases hm with rfl | rfl | rfl | rfl | rfl <;> decide
    refine ⟨_, sg_name (by decide), ?_⟩
    walk_at "w"
    refine ⟨_, ask3 (i := 3) (by decide) (part3 hb.1), ?_⟩
    walk_at "w"
    refine op_neS1 (by decide +kernel) ⟨_, rfl, c_ff rfl ?_⟩
    walk_at "w"
    refine ⟨_, ask3 (i := 4) (by decide) (part4 hb.2), ?_⟩
    walk_at "w"
    exact op_neS1 (by decide +kernel) ⟨_, rfl, c_tf rfl (ws_next ⟨rfl, _, _, rfl⟩)⟩
  rintro _ _ ⟨rfl, x, y, rfl⟩
  refine ws_seq (ws_if ?_)
  walk_at "w"
  refine ev_lcF (fun k : Nat => PyData.int (k : Int)) ?_
  walk_at "w"
  refine ⟨[5, 6], fun k => .str (if k = 5 then "done" else "row"), rfl, by decide, fun k hk => ⟨_, sg_name (by decide), ?_⟩, ?_⟩
  · have hk : k = 5 ∨ k = 6 := by simpa using hk
    walk_at "w"
    refine op_rep (n := 7) (by decide) (by decide) ?_
    rw [rep_int]
    walk_at "w"
    refine op_rep (n := k) (by simp; omega) (by omega) ?_
    rw [rep_int]
    walk_at "w"
    rcases hk with rfl | rfl
    · obtain ⟨_, h5⟩ := join5
      exact ⟨_, ask3 (i := 5) (by decide) h5, rfl⟩
    · exact ⟨_, ask3 (i := 5) (by decide) join6, rfl⟩
  walk_at "w"
  refine op_neSS (a := ["done", "row"]) (b := ["done", "row"]) (names_ok (by decide +kernel)) rfl ⟨_, rfl, c_ff rfl ?_⟩
  walk_at "w"
  refine ⟨_, ask3 (i := 8) (by decide) com8a, ?_⟩
  walk_at "w"
  refine op_neS1 (by decide +kernel) ⟨_, rfl, c_tf rfl (ws_next ?_)⟩
  walk_at "w"
  refine ⟨_, ask3 (i := 8) (by decide) com8b, ?_⟩
  walk_at "w"
  refine op_eqS1 (by decide +kernel) ⟨_, rfl, fun _ => ?_, fun h => by cases h⟩
  walk_at "w"
  refine ⟨_, ⟨rfl, rfl⟩, ?_⟩
  refine ⟨_, rfl, fun _ => ?_, fun h => by cases h⟩
  walk_at "w"
  exact ⟨_, ⟨rfl, rfl⟩, rfl⟩
end
end WL
open PySem PySem.W PyProof.Rows
set_option maxRecDepth 100000 in
set_option maxHeartbeats 0 in
theorem PySem.Challenge.cw_windowlows_k18_more_errors_holds : PySem.Challenge.rw_windowlows_k18_more_errors.Holds := by
  w_on; o_law; k_head; (case hw => w_witness2)
  k_fill
  refine DL.walk (l := PySem.Challenge.rw_windowlows_k18_more_errors) (k := 17) ⟨rfl, by decide, by decide⟩ rfl rfl (fun w h Y => PySem.W.kIn_of Y) ?F
  case F =>
    intro w mg fa h KX G hmg
    have B : DL.Bt mg := by
      refine' DL.bt_mk KX G ?e1 ?e2 ?e3 ?e4 ?e5 ?e6 ?e7 ?e8 ?e9 ?e10 ?e11 ?e12 ?e13 ?e14 ?e15 ?e16 ?e17 ?e18 <;> k_is
    obtain ⟨g, a_W, x_BadRow, x_BadWidth, x_BadNumber, x_BadText, x_NotFound, T⟩ : DL.ErrAll KX mg := by
      refine' DL.err_all KX G ?aw ?a1 ?a2 ?a3 ?a4 ?a5 ?hn ?ht ?wd ?wt ?wb ?ww (fun a => DL.ext_mk KX G a ?ex1 ?kp1 ?sb1 ?ty1) (fun a => DL.ext_mk KX G a ?ex2 ?kp2 ?sb2 ?ty2) (fun a => DL.ext_mk KX G a ?ex3 ?kp3 ?sb3 ?ty3) (fun a => DL.ext_mk KX G a ?ex4 ?kp4 ?sb4 ?ty4) (fun a => DL.ext_mk KX G a ?ex5 ?kp5 ?sb5 ?ty5) ⟨?hg1, ?hk1, ?hd1, ?ha1, ?hm1, ?sw1, ?sv1⟩ ⟨?hg2, ?hk2, ?hd2, ?ha2, ?hm2, ?sw2, ?sv2⟩ ⟨?hg3, ?hk3, ?hd3, ?ha3, ?hm3, ?sw3, ?sv3⟩ ⟨?hg4, ?hk4, ?hd4, ?ha4, ?hm4, ?sw4, ?sv4⟩ ⟨?hg5, ?hk5, ?hd5, ?ha5, ?hm5, ?sw5, ?sv5⟩ ?k11 ?k12 ?k13 ?k14 ?k15 ?k21 ?k22 ?k23 ?k24 ?k25 ?k31 ?k32 ?k33 ?k34 ?k35 ?k41 ?k42 ?k43 ?k44 ?k45 ?k51 ?k52 ?k53 ?k54 ?k55
      (case aw => k_is)
      (case a1 => k_is)
      (case a2 => k_is)
      (case a3 => k_is)
      (case a4 => k_is)
      (case a5 => k_is)
      (case hn => k_is)
      (case ht => k_is)
      (case wd => k_is)
      (case wt => k_is)
      (case wb => k_is)
      (case ww => k_is)
      (case ex1 => k_exc); (case kp1 => k_is); (case sb1 => k_is); (case ty1 => k_is); (case hg1 => k_is); (case hk1 => k_is); (case hd1 => k_is); (case ha1 => k_is); (case hm1 => k_is); (case sw1 => k_is); (case sv1 => k_is)
      (case k11 => k_is); (case k12 => k_is); (case k13 => k_is); (case k14 => k_is); (case k15 => k_is)
      (case ex2 => k_exc); (case kp2 => k_is); (case sb2 => k_is); (case ty2 => k_is); (case hg2 => k_is); (case hk2 => k_is); (case hd2 => k_is); (case ha2 => k_is); (case hm2 => k_is); (case sw2 => k_is); (case sv2 => k_is)
      (case k21 => k_is); (case k22 => k_is); (case k23 => k_is); (case k24 => k_is); (case k25 => k_is)
      (case ex3 => k_exc); (case kp3 => k_is); (case sb3 => k_is); (case ty3 => k_is); (case hg3 => k_is); (case hk3 => k_is); (case hd3 => k_is); (case ha3 => k_is); (case hm3 => k_is); (case sw3 => k_is); (case sv3 => k_is)
      (case k31 => k_is); (case k32 => k_is); (case k33 => k_is); (case k34 => k_is); (case k35 => k_is)
      (case ex4 => k_exc); (case kp4 => k_is); (case sb4 => k_is); (case ty4 => k_is); (case hg4 => k_is); (case hk4 => k_is); (case hd4 => k_is); (case ha4 => k_is); (case hm4 => k_is); (case sw4 => k_is); (case sv4 => k_is)
      (case k41 => k_is); (case k42 => k_is); (case k43 => k_is); (case k44 => k_is); (case k45 => k_is)
      (case ex5 => k_exc); (case kp5 => k_is); (case sb5 => k_is); (case ty5 => k_is); (case hg5 => k_is); (case hk5 => k_is); (case hd5 => k_is); (case ha5 => k_is); (case hm5 => k_is); (case sw5 => k_is); (case sv5 => k_is)
      (case k51 => k_is); (case k52 => k_is); (case k53 => k_is); (case k54 => k_is); (case k55 => k_is)
    obtain ⟨t_MOST_VALUES, k_MOST_VALUES⟩ : ∃ t, mg "MOST_VALUES" = some (.int 12 t) := by
      obtain ⟨v, hv, t, ht⟩ : ∃ v, mg "MOST_VALUES" = some v ∧ ∃ t, v = .int 12 t := by
        refine' ⟨_, PySem.W.mg_of KX G ?a, _, ?b⟩
        (case a => k_is); (case b => rfl)
      exact ⟨t, by rw [hv, ht]⟩
    obtain ⟨t_MOST_VALUE, k_MOST_VALUE⟩ : ∃ t, mg "MOST_VALUE" = some (.int 9 t) := by
      obtain ⟨v, hv, t, ht⟩ : ∃ v, mg "MOST_VALUE" = some v ∧ ∃ t, v = .int 9 t := by
        refine' ⟨_, PySem.W.mg_of KX G ?a, _, ?b⟩
        (case a => k_is); (case b => rfl)
      exact ⟨t, by rw [hv, ht]⟩
    obtain ⟨t_MOST_LENGTH, k_MOST_LENGTH⟩ : ∃ t, mg "MOST_LENGTH" = some (.int 6 t) := by
      obtain ⟨v, hv, t, ht⟩ : ∃ v, mg "MOST_LENGTH" = some v ∧ ∃ t, v = .int 6 t := by
        refine' ⟨_, PySem.W.mg_of KX G ?a, _, ?b⟩
        (case a => k_is); (case b => rfl)
      exact ⟨t, by rw [hv, ht]⟩
    obtain ⟨t_MOST_SEARCH, k_MOST_SEARCH⟩ : ∃ t, mg "MOST_SEARCH" = some (.int 3 t) := by
      obtain ⟨v, hv, t, ht⟩ : ∃ v, mg "MOST_SEARCH" = some v ∧ ∃ t, v = .int 3 t := by
        refine' ⟨_, PySem.W.mg_of KX G ?a, _, ?b⟩
        (case a => k_is); (case b => rfl)
      exact ⟨t, by rw [hv, ht]⟩
    obtain ⟨t_MOST_SIZE, k_MOST_SIZE⟩ : ∃ t, mg "MOST_SIZE" = some (.int 7 t) := by
      obtain ⟨v, hv, t, ht⟩ : ∃ v, mg "MOST_SIZE" = some v ∧ ∃ t, v = .int 7 t := by
        refine' ⟨_, PySem.W.mg_of KX G ?a, _, ?b⟩
        (case a => k_is); (case b => rfl)
      exact ⟨t, by rw [hv, ht]⟩
    obtain ⟨t_MOST_SMALL, k_MOST_SMALL⟩ : ∃ t, mg "MOST_SMALL" = some (.int 5 t) := by
      obtain ⟨v, hv, t, ht⟩ : ∃ v, mg "MOST_SMALL" = some v ∧ ∃ t, v = .int 5 t := by
        refine' ⟨_, PySem.W.mg_of KX G ?a, _, ?b⟩
        (case a => k_is); (case b => rfl)
      exact ⟨t, by rw [hv, ht]⟩
    obtain ⟨Cc, TS, d_Slider___init, d_Slider_push, d_Slider_least, d_Slider_places, d_Slider_low_row, d_Slider_undo, d_Slider___len⟩ : DL.SlAll KX mg WL.s_Slider___init WL.s_Slider_push WL.s_Slider_least WL.s_Slider_places WL.s_Slider_low_row WL.s_Slider_undo WL.s_Slider___len := by
      refine' DL.sl_all KX G ?aC ?a0 ?i0 ?l0 ?c0 ?k0 (fun _ _ _ _ _ _ us hl => match us, hl with | [_, _], _ => rfl) ?a1 ?i1 ?l1 ?c1 ?k1 (fun _ _ _ _ _ _ us hl => match us, hl with | [_, _], _ => rfl) ?a2 ?i2 ?l2 ?c2 ?k2 (fun _ _ _ _ _ _ us hl => match us, hl with | [_], _ => rfl) ?a3 ?i3 ?l3 ?c3 ?k3 (fun _ _ _ _ _ _ us hl => match us, hl with | [_], _ => rfl) ?a4 ?i4 ?l4 ?c4 ?k4 (fun _ _ _ _ _ _ us hl => match us, hl with | [_], _ => rfl) ?a5 ?i5 ?l5 ?c5 ?k5 (fun _ _ _ _ _ _ us hl => match us, hl with | [_], _ => rfl) ?a6 ?i6 ?l6 ?c6 ?k6 (fun _ _ _ _ _ _ us hl => match us, hl with | [_], _ => rfl) ?pg ?hd ?po ?sa ?mk ?kc ?n1 ?n2 ?n3 ?n4
      (case aC => k_is)
      (case a0 => k_is)
      (case i0 => k_is)
      (case l0 => k_is)
      (case c0 => k_is)
      (case k0 => k_is)
      (case a1 => k_is)
      (case i1 => k_is)
      (case l1 => k_is)
      (case c1 => k_is)
      (case k1 => k_is)
      (case a2 => k_is)
      (case i2 => k_is)
      (case l2 => k_is)
      (case c2 => k_is)
      (case k2 => k_is)
      (case a3 => k_is)
      (case i3 => k_is)
      (case l3 => k_is)
      (case c3 => k_is)
      (case k3 => k_is)
      (case a4 => k_is)
      (case i4 => k_is)
      (case l4 => k_is)
      (case c4 => k_is)
      (case k4 => k_is)
      (case a5 => k_is)
      (case i5 => k_is)
      (case l5 => k_is)
      (case c5 => k_is)
      (case k5 => k_is)
      (case a6 => k_is)
      (case i6 => k_is)
      (case l6 => k_is)
      (case c6 => k_is)
      (case k6 => k_is)
      (case pg => k_is)
      (case hd => k_is)
      (case po => k_is)
      (case sa => k_is)
      (case mk => k_is)
      (case kc => k_is)
      (case n1 => k_is)
      (case n2 => k_is)
      (case n3 => k_is)
      (case n4 => k_is)
    have d_is_int : DL.DefX KX mg "is_int" WL.s_is_int ["value", "low", "high"] := by
      refine' DL.def_mk KX G ?a ?l ?c ?k (fun _ _ _ _ _ _ us hl => match us, hl with | [_, _, _], _ => rfl)
      (case a => k_is); (case l => k_is); (case c => k_is); (case k => k_is)
    have d_is_row : DL.DefX KX mg "is_row" WL.s_is_row ["value"] := by
      refine' DL.def_mk KX G ?a ?l ?c ?k (fun _ _ _ _ _ _ us hl => match us, hl with | [_], _ => rfl)
      (case a => k_is); (case l => k_is); (case c => k_is); (case k => k_is)
    have d_check_row : DL.DefX KX mg "check_row" WL.s_check_row ["value"] := by
      refine' DL.def_mk KX G ?a ?l ?c ?k (fun _ _ _ _ _ _ us hl => match us, hl with | [_], _ => rfl)
      (case a => k_is); (case l => k_is); (case c => k_is); (case k => k_is)
    have d_check_low : DL.DefX KX mg "check_low" WL.s_check_low ["row", "width"] := by
      refine' DL.def_mk KX G ?a ?l ?c ?k (fun _ _ _ _ _ _ us hl => match us, hl with | [_, _], _ => rfl)
      (case a => k_is); (case l => k_is); (case c => k_is); (case k => k_is)
    have d_valleys : DL.DefX KX mg "valleys" WL.s_valleys ["row"] := by
      refine' DL.def_mk KX G ?a ?l ?c ?k (fun _ _ _ _ _ _ us hl => match us, hl with | [_], _ => rfl)
      (case a => k_is); (case l => k_is); (case c => k_is); (case k => k_is)
    have d_short_ones : DL.DefX KX mg "short_ones" WL.s_short_ones ["row", "width"] := by
      refine' DL.def_mk KX G ?a ?l ?c ?k (fun _ _ _ _ _ _ us hl => match us, hl with | [_, _], _ => rfl)
      (case a => k_is); (case l => k_is); (case c => k_is); (case k => k_is)
    have d_check_kind : DL.DefX KX mg "check_kind" WL.s_check_kind ["length", "width", "most"] := by
      refine' DL.def_mk KX G ?a ?l ?c ?k (fun _ _ _ _ _ _ us hl => match us, hl with | [_, _, _], _ => rfl)
      (case a => k_is); (case l => k_is); (case c => k_is); (case k => k_is)
    have d_all_rows : DL.DefX KX mg "all_rows" WL.s_all_rows ["length", "width", "most"] := by
      refine' DL.def_mk KX G ?a ?l ?c ?k (fun _ _ _ _ _ _ us hl => match us, hl with | [_, _, _], _ => rfl)
      (case a => k_is); (case l => k_is); (case c => k_is); (case k => k_is)
    have d_low_rows : DL.DefX KX mg "low_rows" WL.s_low_rows ["length", "width", "most"] := by
      refine' DL.def_mk KX G ?a ?l ?c ?k (fun _ _ _ _ _ _ us hl => match us, hl with | [_, _, _], _ => rfl)
      (case a => k_is); (case l => k_is); (case c => k_is); (case k => k_is)
    have d_count_low_rows : DL.DefX KX mg "count_low_rows" WL.s_count_low_rows ["length", "width", "most"] := by
      refine' DL.def_mk KX G ?a ?l ?c ?k (fun _ _ _ _ _ _ us hl => match us, hl with | [_, _, _], _ => rfl)
      (case a => k_is); (case l => k_is); (case c => k_is); (case k => k_is)
    have d_low_row_at : DL.DefX KX mg "low_row_at" WL.s_low_row_at ["length", "width", "most", "rank"] := by
      refine' DL.def_mk KX G ?a ?l ?c ?k (fun _ _ _ _ _ _ us hl => match us, hl with | [_, _, _, _], _ => rfl)
      (case a => k_is); (case l => k_is); (case c => k_is); (case k => k_is)
    have d_rank_of_low : DL.DefX KX mg "rank_of_low" WL.s_rank_of_low ["row", "width", "most"] := by
      refine' DL.def_mk KX G ?a ?l ?c ?k (fun _ _ _ _ _ _ us hl => match us, hl with | [_, _, _], _ => rfl)
      (case a => k_is); (case l => k_is); (case c => k_is); (case k => k_is)
    have d_lows : DL.DefX KX mg "lows" WL.s_lows ["row", "width"] := by
      refine' DL.def_mk KX G ?a ?l ?c ?k (fun _ _ _ _ _ _ us hl => match us, hl with | [_, _], _ => rfl)
      (case a => k_is); (case l => k_is); (case c => k_is); (case k => k_is)
    have d_lowest_origin : DL.DefX KX mg "lowest_origin" WL.s_lowest_origin ["row", "width"] := by
      refine' DL.def_mk KX G ?a ?l ?c ?k (fun _ _ _ _ _ _ us hl => match us, hl with | [_, _], _ => rfl)
      (case a => k_is); (case l => k_is); (case c => k_is); (case k => k_is)
    have d_is_origin : DL.DefX KX mg "is_origin" WL.s_is_origin ["other", "row", "width"] := by
      refine' DL.def_mk KX G ?a ?l ?c ?k (fun _ _ _ _ _ _ us hl => match us, hl with | [_, _, _], _ => rfl)
      (case a => k_is); (case l => k_is); (case c => k_is); (case k => k_is)
    have d_common_origin : DL.DefX KX mg "common_origin" WL.s_common_origin ["one", "first_width", "other", "second_width"] := by
      refine' DL.def_mk KX G ?a ?l ?c ?k (fun _ _ _ _ _ _ us hl => match us, hl with | [_, _, _, _], _ => rfl)
      (case a => k_is); (case l => k_is); (case c => k_is); (case k => k_is)
    have d_check_pair : DL.DefX KX mg "check_pair" WL.s_check_pair ["low", "high", "width"] := by
      refine' DL.def_mk KX G ?a ?l ?c ?k (fun _ _ _ _ _ _ us hl => match us, hl with | [_, _, _], _ => rfl)
      (case a => k_is); (case l => k_is); (case c => k_is); (case k => k_is)
    have d_grown : DL.DefX KX mg "grown" WL.s_grown ["low", "high", "width", "row"] := by
      refine' DL.def_mk KX G ?a ?l ?c ?k (fun _ _ _ _ _ _ us hl => match us, hl with | [_, _, _, _], _ => rfl)
      (case a => k_is); (case l => k_is); (case c => k_is); (case k => k_is)
    have d_rows_with_both : DL.DefX KX mg "rows_with_both" WL.s_rows_with_both ["low", "high", "width"] := by
      refine' DL.def_mk KX G ?a ?l ?c ?k (fun _ _ _ _ _ _ us hl => match us, hl with | [_, _, _], _ => rfl)
      (case a => k_is); (case l => k_is); (case c => k_is); (case k => k_is)
    have d_count_with_both : DL.DefX KX mg "count_with_both" WL.s_count_with_both ["low", "high", "width"] := by
      refine' DL.def_mk KX G ?a ?l ?c ?k (fun _ _ _ _ _ _ us hl => match us, hl with | [_, _, _], _ => rfl)
      (case a => k_is); (case l => k_is); (case c => k_is); (case k => k_is)
    have d_first_with_both : DL.DefX KX mg "first_with_both" WL.s_first_with_both ["low", "high", "width"] := by
      refine' DL.def_mk KX G ?a ?l ?c ?k (fun _ _ _ _ _ _ us hl => match us, hl with | [_, _, _], _ => rfl)
      (case a => k_is); (case l => k_is); (case c => k_is); (case k => k_is)
    have d_row_with_both : DL.DefX KX mg "row_with_both" WL.s_row_with_both ["low", "high", "width", "rank"] := by
      refine' DL.def_mk KX G ?a ?l ?c ?k (fun _ _ _ _ _ _ us hl => match us, hl with | [_, _, _, _], _ => rfl)
      (case a => k_is); (case l => k_is); (case c => k_is); (case k => k_is)
    have d_sure_values : DL.DefX KX mg "sure_values" WL.s_sure_values ["low", "high", "width"] := by
      refine' DL.def_mk KX G ?a ?l ?c ?k (fun _ _ _ _ _ _ us hl => match us, hl with | [_, _, _], _ => rfl)
      (case a => k_is); (case l => k_is); (case c => k_is); (case k => k_is)
    have d_checked : DL.DefX KX mg "checked" WL.s_checked ["row"] := by
      refine' DL.def_mk KX G ?a ?l ?c ?k (fun _ _ _ _ _ _ us hl => match us, hl with | [_], _ => rfl)
      (case a => k_is); (case l => k_is); (case c => k_is); (case k => k_is)
    have d_backward : DL.DefX KX mg "backward" WL.s_backward ["row"] := by
      refine' DL.def_mk KX G ?a ?l ?c ?k (fun _ _ _ _ _ _ us hl => match us, hl with | [_], _ => rfl)
      (case a => k_is); (case l => k_is); (case c => k_is); (case k => k_is)
    have d_turned_over : DL.DefX KX mg "turned_over" WL.s_turned_over ["row"] := by
      refine' DL.def_mk KX G ?a ?l ?c ?k (fun _ _ _ _ _ _ us hl => match us, hl with | [_], _ => rfl)
      (case a => k_is); (case l => k_is); (case c => k_is); (case k => k_is)
    have d_led : DL.DefX KX mg "led" WL.s_led ["row", "table"] := by
      refine' DL.def_mk KX G ?a ?l ?c ?k (fun _ _ _ _ _ _ us hl => match us, hl with | [_, _], _ => rfl)
      (case a => k_is); (case l => k_is); (case c => k_is); (case k => k_is)
    have d_part_of : DL.DefX KX mg "part_of" WL.s_part_of ["row", "first", "last"] := by
      refine' DL.def_mk KX G ?a ?l ?c ?k (fun _ _ _ _ _ _ us hl => match us, hl with | [_, _, _], _ => rfl)
      (case a => k_is); (case l => k_is); (case c => k_is); (case k => k_is)
    have d_joined : DL.DefX KX mg "joined" WL.s_joined ["one", "other"] := by
      refine' DL.def_mk KX G ?a ?l ?c ?k (fun _ _ _ _ _ _ us hl => match us, hl with | [_, _], _ => rfl)
      (case a => k_is); (case l => k_is); (case c => k_is); (case k => k_is)
    have d_format_row : DL.DefX KX mg "format_row" WL.s_format_row ["row"] := by
      refine' DL.def_mk KX G ?a ?l ?c ?k (fun _ _ _ _ _ _ us hl => match us, hl with | [_], _ => rfl)
      (case a => k_is); (case l => k_is); (case c => k_is); (case k => k_is)
    have d_drawn : DL.DefX KX mg "drawn" WL.s_drawn ["row"] := by
      refine' DL.def_mk KX G ?a ?l ?c ?k (fun _ _ _ _ _ _ us hl => match us, hl with | [_], _ => rfl)
      (case a => k_is); (case l => k_is); (case c => k_is); (case k => k_is)
    have d_law_start : DL.DefX KX mg "_law_start" WL.s_law_start ["script"] := by
      refine' DL.def_mk KX G ?a ?l ?c ?k (fun _ _ _ _ _ _ us hl => match us, hl with | [_], _ => rfl)
      (case a => k_is); (case l => k_is); (case c => k_is); (case k => k_is)
    have d_law_draw : DL.DefX KX mg "_law_draw" WL.s_law_draw ["draws", "limit"] := by
      refine' DL.def_mk KX G ?a ?l ?c ?k (fun _ _ _ _ _ _ us hl => match us, hl with | [_, _], _ => rfl)
      (case a => k_is); (case l => k_is); (case c => k_is); (case k => k_is)
    have d_law_error : DL.DefX KX mg "_law_error" WL.s_law_error ["caught"] := by
      refine' DL.def_mk KX G ?a ?l ?c ?k (fun _ _ _ _ _ _ us hl => match us, hl with | [_], _ => rfl)
      (case a => k_is); (case l => k_is); (case c => k_is); (case k => k_is)
    have d_law_list : DL.DefX KX mg "_law_list" WL.s_law_list ["kind", "length", "width", "most"] := by
      refine' DL.def_mk KX G ?a ?l ?c ?k (fun _ _ _ _ _ _ us hl => match us, hl with | [_, _, _, _], _ => rfl)
      (case a => k_is); (case l => k_is); (case c => k_is); (case k => k_is)
    have d_law_pair : DL.DefX KX mg "_law_pair" WL.s_law_pair ["kind", "low", "high", "width"] := by
      refine' DL.def_mk KX G ?a ?l ?c ?k (fun _ _ _ _ _ _ us hl => match us, hl with | [_, _, _, _], _ => rfl)
      (case a => k_is); (case l => k_is); (case c => k_is); (case k => k_is)
    have d_law_call : DL.DefX KX mg "_law_call" WL.s_law_call ["kind", "one", "two"] := by
      refine' DL.def_mk KX G ?a ?l ?c ?k (fun _ _ _ _ _ _ us hl => match us, hl with | [_, _, _], _ => rfl)
      (case a => k_is); (case l => k_is); (case c => k_is); (case k => k_is)
    have d_law_asked : DL.DefX KX mg "_law_asked" WL.s_law_asked ["group", "kind", "one", "two", "three"] := by
      refine' DL.def_mk KX G ?a ?l ?c ?k (fun _ _ _ _ _ _ us hl => match us, hl with | [_, _, _, _, _], _ => rfl)
      (case a => k_is); (case l => k_is); (case c => k_is); (case k => k_is)
    have d_law_call_M : DL.DefX KX mg "_law_call" WL.s_law_call_M ["kind", "one", "two"] := by
      refine' DL.def_mk KX G ?a ?l ?c ?k (fun _ _ _ _ _ _ us hl => match us, hl with | [_, _, _], _ => rfl)
      (case a => k_is); (case l => k_is); (case c => k_is); (case k => k_is)
    have d_law_asked_M : DL.DefX KX mg "_law_asked" WL.s_law_asked_M ["group", "kind", "one", "two", "three"] := by
      refine' DL.def_mk KX G ?a ?l ?c ?k (fun _ _ _ _ _ _ us hl => match us, hl with | [_, _, _, _, _], _ => rfl)
      (case a => k_is); (case l => k_is); (case c => k_is); (case k => k_is)
    have d_law_call_S : DL.DefX KX mg "_law_call" WL.s_law_call_S ["kind", "one", "two"] := by
      refine' DL.def_mk KX G ?a ?l ?c ?k (fun _ _ _ _ _ _ us hl => match us, hl with | [_, _, _], _ => rfl)
      (case a => k_is); (case l => k_is); (case c => k_is); (case k => k_is)
    have d_law_asked_S : DL.DefX KX mg "_law_asked" WL.s_law_asked_S ["group", "kind", "one", "two", "three"] := by
      refine' DL.def_mk KX G ?a ?l ?c ?k (fun _ _ _ _ _ _ us hl => match us, hl with | [_, _, _, _, _], _ => rfl)
      (case a => k_is); (case l => k_is); (case c => k_is); (case k => k_is)
    have d_Slider_places_F : DL.DefM _ Cc "places" "Slider.places" WL.s_Slider_places_F ["self"] := d_Slider_places
    have d_Slider_low_row_F : DL.DefM _ Cc "low_row" "Slider.low_row" WL.s_Slider_low_row_F ["self"] := d_Slider_low_row
    have d_law_slider : DL.DefX KX mg "_law_slider" WL.s_law_slider [] := by
      refine' DL.def_mk KX G ?a ?l ?c ?k (fun _ _ _ _ _ _ us hl => match us, hl with | [], _ => rfl)
      (case a => k_is); (case l => k_is); (case c => k_is); (case k => k_is)
    have d_law_ranked : DL.DefX KX mg "_law_ranked" WL.s_law_ranked ["kind", "rank"] := by
      refine' DL.def_mk KX G ?a ?l ?c ?k (fun _ _ _ _ _ _ us hl => match us, hl with | [_, _], _ => rfl)
      (case a => k_is); (case l => k_is); (case c => k_is); (case k => k_is)
    have d_law_pairs : DL.DefX KX mg "_law_pairs" WL.s_law_pairs [] := by
      refine' DL.def_mk KX G ?a ?l ?c ?k (fun _ _ _ _ _ _ us hl => match us, hl with | [], _ => rfl)
      (case a => k_is); (case l => k_is); (case c => k_is); (case k => k_is)
    obtain ⟨fd, Fn, hb⟩ : ∃ fd, DL.FunX KX "law" WL.s_law fa fd ∧ ∀ (s : Shared) (v : Value), BindsTo s fd ⟨[v], []⟩ [("script", v)] := by
      refine' DL.law_mk KX G hmg ?a ?l ?c ?k (fun _ _ _ _ _ _ _ => rfl)
      (case a => k_is); (case l => k_is); (case c => k_is); (case k => k_is)
    refine ⟨fd, hb, fun base _ _ => ?_⟩
    have n_is_int := WL.ok_is_int (P := PySem.Challenge.rw_windowlows_k18_more_errors.prog) (w := w) (base := base) (g := g) d_is_int B
    have n_is_row := WL.ok_is_row (P := PySem.Challenge.rw_windowlows_k18_more_errors.prog) (w := w) (base := base) (g := g) d_is_row B k_MOST_VALUES k_MOST_VALUE n_is_int
    have n_check_row := WL.ok_check_row (P := PySem.Challenge.rw_windowlows_k18_more_errors.prog) (w := w) (base := base) (g := g) d_check_row B x_BadRow n_is_row
    have n_check_low := WL.ok_check_low (P := PySem.Challenge.rw_windowlows_k18_more_errors.prog) (w := w) (base := base) (g := g) d_check_low B k_MOST_VALUES x_BadWidth n_check_row n_is_int
    have n_valleys := WL.ok_valleys (P := PySem.Challenge.rw_windowlows_k18_more_errors.prog) (w := w) (base := base) (g := g) d_valleys B
    have n_short_ones := WL.ok_short_ones (P := PySem.Challenge.rw_windowlows_k18_more_errors.prog) (w := w) (base := base) (g := g) d_short_ones B n_valleys
    have n_check_kind := WL.ok_check_kind (P := PySem.Challenge.rw_windowlows_k18_more_errors.prog) (w := w) (base := base) (g := g) d_check_kind B k_MOST_LENGTH k_MOST_SEARCH x_BadNumber x_BadWidth n_is_int
    have n_all_rows := WL.ok_all_rows (P := PySem.Challenge.rw_windowlows_k18_more_errors.prog) (w := w) (base := base) (g := g) d_all_rows B n_short_ones
    have n_low_rows := WL.ok_low_rows (P := PySem.Challenge.rw_windowlows_k18_more_errors.prog) (w := w) (base := base) (g := g) d_low_rows B n_check_kind n_all_rows
    have n_count_low_rows := WL.ok_count_low_rows (P := PySem.Challenge.rw_windowlows_k18_more_errors.prog) (w := w) (base := base) (g := g) d_count_low_rows B n_check_kind n_all_rows
    have n_low_row_at := WL.ok_low_row_at (P := PySem.Challenge.rw_windowlows_k18_more_errors.prog) (w := w) (base := base) (g := g) d_low_row_at B x_BadNumber n_check_kind n_all_rows n_is_int
    have n_rank_of_low := WL.ok_rank_of_low (P := PySem.Challenge.rw_windowlows_k18_more_errors.prog) (w := w) (base := base) (g := g) d_rank_of_low B x_BadRow n_check_row n_check_kind n_all_rows
    have n_lows := WL.ok_lows (P := PySem.Challenge.rw_windowlows_k18_more_errors.prog) (w := w) (base := base) (g := g) d_lows B
    have n_lowest_origin := WL.ok_lowest_origin (P := PySem.Challenge.rw_windowlows_k18_more_errors.prog) (w := w) (base := base) (g := g) d_lowest_origin B
    have n_is_origin := WL.ok_is_origin (P := PySem.Challenge.rw_windowlows_k18_more_errors.prog) (w := w) (base := base) (g := g) d_is_origin B n_check_row n_check_low n_lows
    have n_common_origin := WL.ok_common_origin (P := PySem.Challenge.rw_windowlows_k18_more_errors.prog) (w := w) (base := base) (g := g) d_common_origin B x_BadWidth x_NotFound n_check_low n_lowest_origin n_lows
    have n_check_pair := WL.ok_check_pair (P := PySem.Challenge.rw_windowlows_k18_more_errors.prog) (w := w) (base := base) (g := g) d_check_pair B k_MOST_SMALL k_MOST_SIZE x_BadRow x_BadWidth n_check_row n_is_int
    have n_grown := WL.ok_grown (P := PySem.Challenge.rw_windowlows_k18_more_errors.prog) (w := w) (base := base) (g := g) d_grown B
    have n_rows_with_both := WL.ok_rows_with_both (P := PySem.Challenge.rw_windowlows_k18_more_errors.prog) (w := w) (base := base) (g := g) d_rows_with_both B n_check_pair n_grown
    have n_count_with_both := WL.ok_count_with_both (P := PySem.Challenge.rw_windowlows_k18_more_errors.prog) (w := w) (base := base) (g := g) d_count_with_both B n_check_pair n_grown
    have n_first_with_both := WL.ok_first_with_both (P := PySem.Challenge.rw_windowlows_k18_more_errors.prog) (w := w) (base := base) (g := g) d_first_with_both B x_NotFound n_check_pair n_grown
    have n_row_with_both := WL.ok_row_with_both (P := PySem.Challenge.rw_windowlows_k18_more_errors.prog) (w := w) (base := base) (g := g) d_row_with_both B x_BadNumber n_check_pair n_grown n_is_int
    have n_sure_values := WL.ok_sure_values (P := PySem.Challenge.rw_windowlows_k18_more_errors.prog) (w := w) (base := base) (g := g) d_sure_values B x_NotFound n_check_pair n_grown
    have n_checked := WL.ok_checked (P := PySem.Challenge.rw_windowlows_k18_more_errors.prog) (w := w) (base := base) (g := g) d_checked B x_BadRow n_is_row
    have n_backward := WL.ok_backward (P := PySem.Challenge.rw_windowlows_k18_more_errors.prog) (w := w) (base := base) (g := g) d_backward B n_check_row
    have n_turned_over := WL.ok_turned_over (P := PySem.Challenge.rw_windowlows_k18_more_errors.prog) (w := w) (base := base) (g := g) d_turned_over B k_MOST_VALUE n_check_row
    have n_led := WL.ok_led (P := PySem.Challenge.rw_windowlows_k18_more_errors.prog) (w := w) (base := base) (g := g) d_led B k_MOST_VALUE x_BadNumber n_check_row n_is_int
    have n_part_of := WL.ok_part_of (P := PySem.Challenge.rw_windowlows_k18_more_errors.prog) (w := w) (base := base) (g := g) d_part_of B x_BadNumber n_check_row n_is_int
    have n_joined := WL.ok_joined (P := PySem.Challenge.rw_windowlows_k18_more_errors.prog) (w := w) (base := base) (g := g) d_joined B n_check_row n_checked
    have n_Slider___init := WL.ok_Slider___init (P := PySem.Challenge.rw_windowlows_k18_more_errors.prog) (w := w) (base := base) (g := g) d_Slider___init TS B k_MOST_VALUES x_BadWidth n_is_int
    have n_Slider_least := WL.ok_Slider_least (P := PySem.Challenge.rw_windowlows_k18_more_errors.prog) (w := w) (base := base) (g := g) d_Slider_least TS B
    have n_Slider_push := WL.ok_Slider_push (P := PySem.Challenge.rw_windowlows_k18_more_errors.prog) (w := w) (base := base) (g := g) d_Slider_push TS B k_MOST_VALUE x_BadNumber n_is_int n_Slider_least
    have n_Slider_places := WL.ok_Slider_places (P := PySem.Challenge.rw_windowlows_k18_more_errors.prog) (w := w) (base := base) (g := g) d_Slider_places TS B
    have n_Slider_low_row := WL.ok_Slider_low_row (P := PySem.Challenge.rw_windowlows_k18_more_errors.prog) (w := w) (base := base) (g := g) d_Slider_low_row TS B
    have n_Slider_undo := WL.ok_Slider_undo (P := PySem.Challenge.rw_windowlows_k18_more_errors.prog) (w := w) (base := base) (g := g) d_Slider_undo TS B x_NotFound
    have n_Slider___len := WL.ok_Slider___len (P := PySem.Challenge.rw_windowlows_k18_more_errors.prog) (w := w) (base := base) (g := g) d_Slider___len TS B
    have n_format_row := WL.ok_format_row (P := PySem.Challenge.rw_windowlows_k18_more_errors.prog) (w := w) (base := base) (g := g) d_format_row B n_check_row
    have n_drawn := WL.ok_drawn (P := PySem.Challenge.rw_windowlows_k18_more_errors.prog) (w := w) (base := base) (g := g) d_drawn B n_check_row
    have n_law_start := WL.ok_law_start (P := PySem.Challenge.rw_windowlows_k18_more_errors.prog) (w := w) (base := base) d_law_start B
    have n_law_draw := WL.ok_law_draw (P := PySem.Challenge.rw_windowlows_k18_more_errors.prog) (w := w) (base := base) d_law_draw B
    have n_law_error := WL.ok_law_error (P := PySem.Challenge.rw_windowlows_k18_more_errors.prog) (w := w) (base := base) (g := g) d_law_error B x_BadNumber x_BadWidth x_BadRow x_NotFound x_BadText T
    have n_law_list := WL.ok_law_list (P := PySem.Challenge.rw_windowlows_k18_more_errors.prog) (w := w) (base := base) (g := g) d_law_list B n_low_rows n_count_low_rows n_low_row_at
    have n_law_pair := WL.ok_law_pair (P := PySem.Challenge.rw_windowlows_k18_more_errors.prog) (w := w) (base := base) (g := g) d_law_pair B n_rows_with_both n_count_with_both n_first_with_both n_sure_values n_row_with_both
    have n_law_call := WL.ok_law_call (P := PySem.Challenge.rw_windowlows_k18_more_errors.prog) (w := w) (base := base) (g := g) d_law_call TS B n_backward n_turned_over n_led n_part_of n_joined n_rank_of_low n_common_origin n_format_row n_drawn n_is_origin n_Slider___init n_Slider_push n_Slider_undo
    have n_law_asked := WL.ok_law_asked (P := PySem.Challenge.rw_windowlows_k18_more_errors.prog) (w := w) (base := base) (g := g) d_law_asked B T n_law_list n_law_pair n_law_call n_law_error
    have n_law_call_M := WL.ok_law_call_M (P := PySem.Challenge.rw_windowlows_k18_more_errors.prog) (w := w) (base := base) (g := g) d_law_call_M TS B n_backward n_turned_over n_led n_part_of n_joined n_rank_of_low n_common_origin n_format_row n_drawn n_is_origin n_Slider___init n_Slider_push n_Slider_undo
    have n_law_asked_M := WL.ok_law_asked_M (P := PySem.Challenge.rw_windowlows_k18_more_errors.prog) (w := w) (base := base) (g := g) d_law_asked_M B T n_law_list n_law_pair n_law_call_M n_law_error
    have n_law_call_S := WL.ok_law_call_S (P := PySem.Challenge.rw_windowlows_k18_more_errors.prog) (w := w) (base := base) (g := g) d_law_call_S TS B n_backward n_turned_over n_led n_part_of n_joined n_rank_of_low n_common_origin n_format_row n_drawn n_is_origin n_Slider___init n_Slider_push n_Slider_undo
    have n_law_asked_S := WL.ok_law_asked_S (P := PySem.Challenge.rw_windowlows_k18_more_errors.prog) (w := w) (base := base) d_law_asked_S TS B T n_law_list n_law_pair n_law_call_S n_law_error
    have n_Slider_places_F := WL.ok_Slider_places_F (P := PySem.Challenge.rw_windowlows_k18_more_errors.prog) (w := w) (base := base) d_Slider_places_F TS B
    have n_Slider_low_row_F := WL.ok_Slider_low_row_F (P := PySem.Challenge.rw_windowlows_k18_more_errors.prog) (w := w) (base := base) d_Slider_low_row_F TS B
    have n_law_slider := WL.ok_law_slider (P := PySem.Challenge.rw_windowlows_k18_more_errors.prog) (w := w) (base := base) (g := g) d_law_slider TS B n_law_asked_M n_Slider___init n_law_asked_S n_Slider_least n_Slider_low_row n_Slider_places n_Slider_push n_Slider_places_F n_Slider_low_row_F n_Slider_undo
    have n_law_ranked := WL.ok_law_ranked (P := PySem.Challenge.rw_windowlows_k18_more_errors.prog) (w := w) (base := base) (g := g) d_law_ranked B T n_row_with_both n_low_row_at n_law_error
    have n_law_pairs := WL.ok_law_pairs (P := PySem.Challenge.rw_windowlows_k18_more_errors.prog) (w := w) (base := base) (g := g) d_law_pairs B n_law_asked n_law_ranked
    exact WL.ok_law (P := PySem.Challenge.rw_windowlows_k18_more_errors.prog) (w := w) (base := base) Fn B n_law_start n_law_asked n_law_draw n_law_pairs n_law_slider
