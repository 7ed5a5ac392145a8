import PyProof.Rows.All
import Wide.All
import OpenK.AllK
import Wide.FinOn
import HandS.ForMost
import HandS.ForExc
import HandS.Style
import HandS.Deep
import HandS.IsInst
import HandS.Walk
import HandS.SortInts
import HandS.SetFor
import HandS.ExcIs
import HandS.ExcValue
import HandS.Strs
import HandS.Conv
import HandS.Text
import HandS.TupSets
import HandS.Dict
import HandS.TupMul
import PySem.Challenge.RW_gapgroups_k18_more_errors
set_option Elab.async false
set_option linter.all false
set_option maxRecDepth 100000
set_option maxHeartbeats 4000000
/-! Gapgroups: a small language of pure data over the hand layer. Data trees, slots with ownership, denotations; each construct's rule is shown once. -/
namespace GG
open PySem L2

/-! ### data and their places in the heap -/
abbrev D := PyData
/-- the package's own errors -/
inductive EK where
  | mo | nu | gr | la | te | no
  deriving DecidableEq

mutual
/-- v stands for the datum d in H; none of its objects lies in A -/
def Rep (H : Hp) (A : Addr → Prop) : PyData → V → Prop
  | .none, v => v = .non
  | .bool b, v => v = .bl b
  | .int i, v => v = .int i
  | .str s, v => v = .str s
  | .list ds, v => ∃ a vs, v = .ref a ∧ ¬ A a ∧ H a = some (.lst vs) ∧ Reps H A ds vs
  | .tuple ds, v => ∃ a vs, v = .ref a ∧ ¬ A a ∧ H a = some (.tup vs) ∧ Reps H A ds vs
  | .dict _, _ => False
def Reps (H : Hp) (A : Addr → Prop) : List PyData → List V → Prop
  | [], vs => vs = []
  | d :: ds, vs => ∃ v r, vs = v :: r ∧ Rep H A d v ∧ Reps H A ds r
end

section
variable {H H' : Hp} {A A' : Addr → Prop}
mutual
theorem Rep.mono (k : ∀ a o, ¬ A a → H a = some o → H' a = some o ∧ ¬ A' a) : ∀ (d : PyData) (v : V), Rep H A d v → Rep H' A' d v
  | .none, _, h => h
  | .bool _, _, h => h
  | .int _, _, h => h
  | .str _, _, h => h
  | .list ds, v, h => by
    simp only [Rep] at h ⊢
    obtain ⟨a, vs, e, na, ha, hs⟩ := h
    exact ⟨a, vs, e, (k a _ na ha).2, (k a _ na ha).1, Reps.mono k ds vs hs⟩
  | .tuple ds, v, h => by
    simp only [Rep] at h ⊢
    obtain ⟨a, vs, e, na, ha, hs⟩ := h
    exact ⟨a, vs, e, (k a _ na ha).2, (k a _ na ha).1, Reps.mono k ds vs hs⟩
  | .dict _, _, h => h
theorem Reps.mono (k : ∀ a o, ¬ A a → H a = some o → H' a = some o ∧ ¬ A' a) : ∀ (ds : List PyData) (vs : List V), Reps H A ds vs → Reps H' A' ds vs
  | [], _, h => h
  | d :: ds, vs, h => by
    simp only [Reps] at h ⊢
    obtain ⟨v, r, e, h1, h2⟩ := h
    exact ⟨v, r, e, Rep.mono k d v h1, Reps.mono k ds r h2⟩
end
mutual
theorem Rep.dp {K : PySem.W.Frag} : ∀ (d : PyData) (v : V), Rep H A d v → Dp K H v d
  | .none, _, h => by cases h; exact .non
  | .bool b, _, h => by cases h; exact .bl b
  | .int i, _, h => by cases h; exact .int i
  | .str x, _, h => by cases h; exact .str x
  | .list ds, v, h => by
    simp only [Rep] at h
    obtain ⟨a, vs, rfl, _, ha, hs⟩ := h
    exact .lst (SqL.of ha) (Reps.dp ds vs hs)
  | .tuple ds, v, h => by
    simp only [Rep] at h
    obtain ⟨a, vs, rfl, _, ha, hs⟩ := h
    exact .tup (SqT.of ha) (Reps.dp ds vs hs)
  | .dict _, _, h => by simp only [Rep] at h
theorem Reps.dp {K : PySem.W.Frag} : ∀ (ds : List PyData) (vs : List V), Reps H A ds vs → DpAll K H vs ds
  | [], vs, h => by
    simp only [Reps] at h
    subst h
    exact .nil
  | d :: ds, vs, h => by
    simp only [Reps] at h
    obtain ⟨v, r, rfl, h1, h2⟩ := h
    exact .cons (Rep.dp d v h1) (Reps.dp ds r h2)
end
theorem Reps.len : ∀ {ds : List PyData} {vs : List V}, Reps H A ds vs → vs.length = ds.length
  | [], vs, h => by
    simp only [Reps] at h
    subst h
    rfl
  | d :: ds, vs, h => by
    simp only [Reps] at h
    obtain ⟨v, r, rfl, _, h2⟩ := h
    simp [h2.len]
theorem Reps.nil : Reps H A [] [] := by simp only [Reps]
theorem Reps.cons {d : PyData} {ds : List PyData} {v : V} {vs : List V} (h : Rep H A d v) (hs : Reps H A ds vs) : Reps H A (d :: ds) (v :: vs) := by
  simp only [Reps]
  exact ⟨v, vs, rfl, h, hs⟩
theorem Reps.uncons {d : PyData} {ds : List PyData} {vs : List V} (h : Reps H A (d :: ds) vs) : ∃ v r, vs = v :: r ∧ Rep H A d v ∧ Reps H A ds r := by
  simpa only [Reps] using h
theorem Reps.get : ∀ {ds : List PyData} {vs : List V} {i : Nat} {d : PyData}, Reps H A ds vs → ds[i]? = some d → ∃ v, vs[i]? = some v ∧ Rep H A d v
  | [], _, _, _, _, e => by simp at e
  | d :: ds, vs, 0, x, h, e => by
    obtain ⟨v, r, rfl, h1, h2⟩ := h.uncons
    cases (show d = x by simpa using e)
    exact ⟨v, rfl, h1⟩
  | d :: ds, vs, i + 1, x, h, e => by
    obtain ⟨v, r, rfl, h1, h2⟩ := h.uncons
    obtain ⟨u, h3, h4⟩ := Reps.get (i := i) h2 (by simpa using e)
    exact ⟨u, by simpa using h3, h4⟩
theorem Reps.get' : ∀ {ds : List PyData} {vs : List V} {i : Nat} {v : V}, Reps H A ds vs → vs[i]? = some v → ∃ d, ds[i]? = some d ∧ Rep H A d v := fun {ds vs i v} h e => by
  have hl := h.len
  have h1 : i < ds.length := by
    have := (List.getElem?_eq_some_iff.mp e).1
    omega
  obtain ⟨u, h3, h4⟩ := h.get (List.getElem?_eq_getElem h1)
  rw [e] at h3
  cases h3
  exact ⟨_, List.getElem?_eq_getElem h1, h4⟩
theorem Reps.append : ∀ {ds es : List PyData} {vs us : List V}, Reps H A ds vs → Reps H A es us → Reps H A (ds ++ es) (vs ++ us)
  | [], es, vs, us, h, h' => by
    simp only [Reps] at h
    subst h
    exact h'
  | d :: ds, es, vs, us, h, h' => by
    obtain ⟨v, r, rfl, h1, h2⟩ := h.uncons
    exact Reps.cons h1 (h2.append h')
theorem Reps.take : ∀ {ds : List PyData} {vs : List V} (n : Nat), Reps H A ds vs → Reps H A (ds.take n) (vs.take n)
  | _, _, 0, _ => by simp [Reps]
  | [], vs, n + 1, h => by
    simp only [Reps] at h
    subst h
    simp [Reps]
  | d :: ds, vs, n + 1, h => by
    obtain ⟨v, r, rfl, h1, h2⟩ := h.uncons
    exact Reps.cons h1 (h2.take n)
theorem Reps.drop : ∀ {ds : List PyData} {vs : List V} (n : Nat), Reps H A ds vs → Reps H A (ds.drop n) (vs.drop n)
  | _, _, 0, h => h
  | [], vs, n + 1, h => by
    simp only [Reps] at h
    subst h
    simp [Reps]
  | d :: ds, vs, n + 1, h => by
    obtain ⟨v, r, rfl, h1, h2⟩ := h.uncons
    exact h2.drop n
theorem Reps.rev : ∀ {ds : List PyData} {vs : List V}, Reps H A ds vs → Reps H A ds.reverse vs.reverse
  | [], vs, h => by
    simp only [Reps] at h
    subst h
    exact Reps.nil
  | d :: ds, vs, h => by
    obtain ⟨v, r, rfl, h1, h2⟩ := h.uncons
    rw [List.reverse_cons, List.reverse_cons]
    exact h2.rev.append (Reps.cons h1 Reps.nil)
/-- ints are ints -/
theorem Reps.ints : ∀ {ns : List Int} {vs : List V}, Reps H A (ns.map PyData.int) vs → vs = ns.map V.int
  | [], vs, h => by
    simpa only [List.map_nil, Reps] using h
  | n :: ns, vs, h => by
    obtain ⟨v, r, rfl, h1, h2⟩ := Reps.uncons (d := .int n) (ds := ns.map PyData.int) h
    simp only [Rep] at h1
    subst h1
    rw [h2.ints]
    rfl
theorem Reps.ofInts : ∀ (ns : List Int), Reps H A (ns.map PyData.int) (ns.map V.int)
  | [] => Reps.nil
  | n :: ns => Reps.cons (d := .int n) (by simp only [Rep]) (Reps.ofInts ns)
theorem Reps.bools : ∀ {bs : List Bool} {vs : List V}, Reps H A (bs.map PyData.bool) vs → vs = bs.map V.bl
  | [], vs, h => by
    simpa only [List.map_nil, Reps] using h
  | n :: ns, vs, h => by
    obtain ⟨v, r, rfl, h1, h2⟩ := Reps.uncons (d := .bool n) (ds := ns.map PyData.bool) h
    simp only [Rep] at h1
    subst h1
    rw [h2.bools]
    rfl
end

/-! ### slots -/
inductive Slot where
  | emp
  /-- a datum, nobody writes it -/
  | val (d : D)
  /-- a list of one's own, held by this name alone -/
  | own (ds : List D)
  /-- the law's draws: [numbers, count] -/
  | drw (ns : List Int) (c : Int)
  /-- a caught error -/
  | exc (k : EK)
  /-- a stream: b = it is the parameter's -/
  | stm (b : Bool) (g l : Int) (line : List Int) (told : Int)
  /-- a dict of one's own, its keys ints, its values ints and texts -/
  | dct (kvs : List (Int × Key))

/-- the dict's entries in the heap -/
def dkV (kvs : List (Int × Key)) : List (Key × V) := kvs.map fun kv => (Sum.inl kv.1, kV kv.2)

/-- where the classes of the errors stand, and that of streams -/
structure Cc where
  cl : EK → Addr
  sc : Addr

/-- the frame of a run: what is not to be met, the heap at the entry, what may be written of it; where the draws stand, and a stream -/
structure Frm where
  Z : Addr → Prop
  H : Hp
  I : Addr → Prop
  da : Addr
  db : Addr
  sx : Addr
  sd : Addr

/-- a caught error's object -/
def ExT (C a : Addr) : HO := .ext fun h => ∃ (oe : Obj) (vs : Array Value), h.get? a = some oe ∧ Zc (.ref C) none oe ∧ oe.data = .fields vs

/-- a stream's fields -/
def sFs (g l : Int) (p : Addr) (told : Int) : List (Str × V) := [("gap", .int g), ("lateness", .int l), ("line", .ref p), ("told", .int told)]
/-- a stream stands at a, its dict at d -/
def StmAt (cc : Cc) (H : Hp) (A : Addr → Prop) (a d : Addr) (g l : Int) (line : List Int) (told : Int) : Prop := H d = some (.own a) ∧ ∃ p, H a = some (.ins cc.sc d (sFs g l p told)) ∧ ¬ A p ∧ H p = some (.lst (line.map V.int))
theorem StmAt.mono {cc : Cc} {H H' : Hp} {A A' : Addr → Prop} {a d : Addr} {g l : Int} {line : List Int} {told : Int} (k : ∀ a o, ¬ A a → H a = some o → H' a = some o ∧ ¬ A' a) (ka : H' a = H a) (kd : H' d = H d) (h : StmAt cc H A a d g l line told) : StmAt cc H' A' a d g l line told := by
  obtain ⟨h1, p, h2, h3, h4⟩ := h
  exact ⟨kd.trans h1, p, ka.trans h2, (k p _ h3 h4).2, (k p _ h3 h4).1⟩

def SlotOk (cc : Cc) (fr : Frm) (H : Hp) (A : Addr → Prop) (ow : List Addr) (x : Option (Option V)) : Slot → Prop
  | .emp => ow = []
  | .val d => ow = [] ∧ ∃ v, x = some (some v) ∧ Rep H A d v
  | .own ds => ∃ p vs, ow = [p] ∧ x = some (some (.ref p)) ∧ H p = some (.lst vs) ∧ Reps H A ds vs
  | .drw ns c => ow = [fr.da, fr.db] ∧ fr.da ≠ fr.db ∧ x = some (some (.ref fr.da)) ∧ H fr.da = some (.lst [.ref fr.db, .int c]) ∧ H fr.db = some (.lst (ns.map V.int))
  | .exc k => ow = [] ∧ ∃ a, x = some (some (.ref a)) ∧ ¬ A a ∧ H a = some (ExT (cc.cl k) a)
  | .stm b g l line told => ∃ a d, ow = [a, d] ∧ (b = true → a = fr.sx ∧ d = fr.sd) ∧ x = some (some (.ref a)) ∧ StmAt cc H A a d g l line told
  | .dct kvs => ∃ p, ow = [p] ∧ x = some (some (.ref p)) ∧ H p = some (.dK (dkV kvs))

theorem SlotOk.mono {cc : Cc} {fr : Frm} {H H' : Hp} {A A' : Addr → Prop} {ow : List Addr} {x : Option (Option V)} (k : ∀ a o, ¬ A a → H a = some o → H' a = some o ∧ ¬ A' a) (kw : ∀ a, a ∈ ow → H' a = H a) :
    ∀ {s : Slot}, SlotOk cc fr H A ow x s → SlotOk cc fr H' A' ow x s
  | .emp, h => h
  | .val d, ⟨h1, v, h2, h3⟩ => ⟨h1, v, h2, Rep.mono k d v h3⟩
  | .own ds, ⟨p, vs, h1, h2, h3, h4⟩ => ⟨p, vs, h1, h2, by rw [kw p (by rw [h1]; simp)]; exact h3, Reps.mono k ds vs h4⟩
  | .drw ns c, ⟨h1, h2, h3, h4, h5⟩ => ⟨h1, h2, h3, by rw [kw _ (by rw [h1]; simp)]; exact h4, by rw [kw _ (by rw [h1]; simp)]; exact h5⟩
  | .exc e, ⟨h1, a, h2, h3, h4⟩ => ⟨h1, a, h2, (k a _ h3 h4).2, (k a _ h3 h4).1⟩
  | .stm b g l line told, ⟨a, d, h1, h2, h3, h4⟩ => ⟨a, d, h1, h2, h3, h4.mono k (kw a (by rw [h1]; simp)) (kw d (by rw [h1]; simp))⟩
  | .dct kvs, ⟨p, h1, h2, h3⟩ => ⟨p, h1, h2, by rw [kw p (by rw [h1]; simp)]; exact h3⟩

abbrev Env' := List Slot

/-- what a datum must not meet -/
def Av (fr : Frm) (O : Nat → List Addr) (x : Addr) : Prop := fr.Z x ∨ ∃ i, x ∈ O i

structure Rel (cc : Cc) (fr : Frm) (O : Nat → List Addr) (σ : L2.St) (H : Hp) (ρ : Env') : Prop where
  len : ρ.length = σ.length
  zin : ∀ x, fr.Z x → fr.H x ≠ none
  frame : ∀ x o, ¬ fr.I x → fr.H x = some o → H x = some o
  dom : ∀ x, fr.H x ≠ none → H x ≠ none
  own : ∀ i x, x ∈ O i → (fr.H x = none ∨ fr.I x) ∧ H x ≠ none
  dis : ∀ i j x, x ∈ O i → x ∈ O j → i = j
  new : ∀ i ds, ρ[i]? = some (.own ds) → ∀ x, x ∈ O i → ¬ fr.Z x
  slot : ∀ i s, ρ[i]? = some s → SlotOk cc fr H (Av fr O) (O i) (σ[i]?) s

/-- from H to H': only what is owned is written, what comes is new -/
structure Mv (O : Nat → List Addr) (H : Hp) (O' : Nat → List Addr) (H' : Hp) : Prop where
  step : ∀ x o, (∀ i, x ∉ O i) → H x = some o → H' x = some o
  own : ∀ i x, x ∈ O' i → (∃ j, x ∈ O j) ∨ H x = none
  dom : ∀ x, H x ≠ none → H' x ≠ none

theorem Mv.refl (O : Nat → List Addr) (H : Hp) : Mv O H O H := ⟨fun _ _ _ e => e, fun i _ h => .inl ⟨i, h⟩, fun _ h => h⟩
theorem Mv.trans {O O1 O2 : Nat → List Addr} {H H1 H2 : Hp} (a : Mv O H O1 H1) (b : Mv O1 H1 O2 H2) : Mv O H O2 H2 where
  step := fun x o hx e => b.step x o (fun i hi => by
    rcases a.own i x hi with ⟨j, hj⟩ | z
    · exact hx j hj
    · rw [e] at z; cases z) (a.step x o hx e)
  own := fun i x hx => by
    rcases b.own i x hx with ⟨j, hj⟩ | z
    · exact a.own j x hj
    · refine .inr ?_
      cases e : H x with
      | none => rfl
      | some o => exact absurd z (a.dom x (by rw [e]; simp))
  dom := fun x h => b.dom x (a.dom x h)

section
variable {cc : Cc} {fr : Frm} {O O' : Nat → List Addr} {σ σ' : L2.St} {H H' : Hp} {ρ ρ' : Env'}
theorem Av.not {x : Addr} (h : ¬ Av fr O x) : ∀ i, x ∉ O i := fun i hi => h (.inr ⟨i, hi⟩)
/-- what a datum needs along a move -/
theorem Mv.keep (m : Mv O H O' H') : ∀ a o, ¬ Av fr O a → H a = some o → H' a = some o ∧ ¬ Av fr O' a := fun a o h e =>
  ⟨m.step a o (Av.not h) e, fun z => by
    rcases z with z | ⟨i, z⟩
    · exact h (.inl z)
    · rcases m.own i a z with ⟨j, hj⟩ | q
      · exact h (.inr ⟨j, hj⟩)
      · rw [e] at q; cases q⟩
theorem Mv.rep (m : Mv O H O' H') {d : D} {v : V} (h : Rep H (Av fr O) d v) : Rep H' (Av fr O') d v := Rep.mono m.keep d v h
theorem Mv.reps (m : Mv O H O' H') {ds : List D} {vs : List V} (h : Reps H (Av fr O) ds vs) : Reps H' (Av fr O') ds vs := Reps.mono m.keep ds vs h

/-- new objects alone -/
theorem Mv.new (e : Same H H') : Mv O H O H' := ⟨fun x o _ h => e x o h, fun i _ h => .inl ⟨i, h⟩, fun x h => by
  cases q : H x with
  | none => exact absurd q h
  | some o => rw [e x o q]; simp⟩
theorem Rel.more (R : Rel cc fr O σ H ρ) (e : Same H H') : Rel cc fr O σ H' ρ where
  len := R.len
  zin := R.zin
  frame := fun x o h q => e x o (R.frame x o h q)
  dom := fun x h => (Mv.new (O := O) e).dom x (R.dom x h)
  own := fun i x h => ⟨(R.own i x h).1, (Mv.new (O := O) e).dom x (R.own i x h).2⟩
  dis := R.dis
  new := R.new
  slot := fun i s h => (R.slot i s h).mono (fun a o na q => ⟨e a o q, na⟩) fun a ha => by
    cases q : H a with
    | none => exact absurd q (R.own i a ha).2
    | some o => exact e a o q
theorem Rel.zH (R : Rel cc fr O σ H ρ) {x : Addr} (h : Av fr O x) : H x ≠ none := by
  rcases h with h | ⟨i, h⟩
  · exact R.dom x (R.zin x h)
  · exact (R.own i x h).2
/-- a new place is nobody's -/
theorem Rel.fresh (R : Rel cc fr O σ H ρ) {p : Addr} (h : H p = none) : ¬ Av fr O p := fun z => R.zH z h

theorem same_upd {p : Addr} {o : HO} (h : H p = none) : Same H (upd H p o) := fun a u e => by
  rw [upd_ne (ne_of_none e h)]
  exact e

/-- the owned part of slot i let go, a datum stored -/
def off (O : Nat → List Addr) (i : Nat) : Nat → List Addr := fun j => if j = i then [] else O j
theorem off_self {i : Nat} : off O i i = [] := by simp [off]
theorem off_ne {i j : Nat} (h : j ≠ i) : off O i j = O j := by simp [off, h]
theorem mem_off {i j : Nat} {x : Addr} (h : x ∈ off O i j) : x ∈ O j ∧ j ≠ i := by
  by_cases e : j = i
  · subst e; rw [off_self] at h; cases h
  · rw [off_ne e] at h; exact ⟨h, e⟩
theorem av_off {i : Nat} {x : Addr} (h : Av fr (off O i) x) : Av fr O x := by
  rcases h with h | ⟨j, h⟩
  · exact .inl h
  · exact .inr ⟨j, (mem_off h).1⟩
theorem mv_off {i : Nat} : Mv O H (off O i) H := ⟨fun _ _ _ e => e, fun j _ h => .inl ⟨j, (mem_off h).1⟩, fun _ h => h⟩
theorem Rel.set (R : Rel cc fr O σ H ρ) {i : Nat} {d : D} {v : V} (h : Rep H (Av fr O) d v) : Rel cc fr (off O i) (σ.set i (some v)) H (ρ.set i (.val d)) where
  len := by simpa using R.len
  zin := R.zin
  frame := R.frame
  dom := R.dom
  own := fun j x hx => R.own j x (mem_off hx).1
  dis := fun j k x hj hk => R.dis j k x (mem_off hj).1 (mem_off hk).1
  new := fun j ds hs x hx => by
    obtain ⟨h1, h2⟩ := mem_off hx
    rw [List.getElem?_set_ne (Ne.symm h2)] at hs
    exact R.new j ds hs x h1
  slot := fun j s hs => by
    by_cases e : i = j
    · subst e
      by_cases hl : i < ρ.length
      · rw [List.getElem?_set_self hl] at hs
        cases hs
        refine ⟨off_self, v, ?_, Rep.mono (fun a o na q => ⟨q, fun z => na (av_off z)⟩) d v h⟩
        rw [List.getElem?_set_self (by rw [← R.len]; exact hl)]
      · rw [List.getElem?_eq_none (by simpa using hl)] at hs; cases hs
    · rw [List.getElem?_set_ne e] at hs
      rw [List.getElem?_set_ne e, off_ne (Ne.symm e)]
      exact (R.slot j s hs).mono (fun a o na q => ⟨q, fun z => na (av_off z)⟩) fun _ _ => rfl
/-- an owned list is frozen -/
theorem Rel.freeze (R : Rel cc fr O σ H ρ) {i : Nat} {ds : List D} (hi : ρ[i]? = some (.own ds)) : ∃ v, σ[i]? = some (some v) ∧ Rep H (Av fr (off O i)) (.list ds) v ∧ Rel cc fr (off O i) σ H (ρ.set i (.val (.list ds))) := by
  obtain ⟨p, vs, h1, h2, h3, h4⟩ := R.slot i _ hi
  have hl : i < ρ.length := (List.getElem?_eq_some_iff.mp hi).1
  have np : ¬ Av fr (off O i) p := fun z => by
    rcases z with z | ⟨j, z⟩
    · exact R.new i ds hi p (by rw [h1]; simp) z
    · obtain ⟨z1, z2⟩ := mem_off z
      exact z2 (R.dis j i p z1 (by rw [h1]; simp))
  have hr : Rep H (Av fr (off O i)) (.list ds) (.ref p) := by
    simp only [Rep]
    exact ⟨p, vs, rfl, np, h3, Reps.mono (fun a o na q => ⟨q, fun z => na (av_off z)⟩) ds vs h4⟩
  refine ⟨.ref p, h2, hr, ⟨by simpa using R.len, R.zin, R.frame, R.dom, fun j x hx => R.own j x (mem_off hx).1, fun j k x hj hk => R.dis j k x (mem_off hj).1 (mem_off hk).1, fun j es hs x hx => ?_, fun j s hs => ?_⟩⟩
  · obtain ⟨q1, q2⟩ := mem_off hx
    rw [List.getElem?_set_ne (Ne.symm q2)] at hs
    exact R.new j es hs x q1
  · by_cases e : i = j
    · subst e
      rw [List.getElem?_set_self hl] at hs
      cases hs
      exact ⟨off_self, .ref p, h2, hr⟩
    · rw [List.getElem?_set_ne e] at hs
      rw [off_ne (Ne.symm e)]
      exact (R.slot j s hs).mono (fun a o na q => ⟨q, fun z => na (av_off z)⟩) fun _ _ => rfl
end

/-! ### results -/
inductive Res (α : Type) where
  | ok (a : α) (ρ : Env')
  | er (k : EK) (ρ : Env')
  | st
def Res.bind {α β : Type} (r : Res α) (g : α → Env' → Res β) : Res β := match r with
  | .ok a ρ => g a ρ
  | .er k ρ => .er k ρ
  | .st => .st
abbrev Den (α : Type) := Env' → Res α

/-- what is wished of a result: P of its value; W of an error -/
def Post {α : Type} (cc : Cc) (W : WX) (fr : Frm) (O : Nat → List Addr) (σ : L2.St) (H : Hp) (r : Res α) (P : α → (Nat → List Addr) → Hp → Prop) : Prop := match r with
  | .ok a ρ' => ∀ O' H', Rel cc fr O' σ H' ρ' → Mv O H O' H' → P a O' H'
  | .er k ρ' => ∀ O' H', Rel cc fr O' σ H' ρ' → Mv O H O' H' → W (.ref (cc.cl k)) none σ H'
  | .st => False
abbrev PE' (fr : Frm) (Q : VK) : D → (Nat → List Addr) → Hp → Prop := fun d O' H' => ∀ v, Rep H' (Av fr O') d v → Q v H'

/-- a reading of an expression keeps what the denotation says -/
def SndE (cc : Cc) (W : WX) (t : TE) (f : Den D) : Prop := ∀ (fr : Frm) (O : Nat → List Addr) (σ : L2.St) (H : Hp) (ρ : Env') (Q : VK), Rel cc fr O σ H ρ → Post cc W fr O σ H (f ρ) (PE' fr Q) → t σ H Q
def SndT (cc : Cc) (W : WX) (t : TT) (f : Den Bool) : Prop := ∀ (fr : Frm) (O : Nat → List Addr) (σ : L2.St) (H : Hp) (ρ : Env') (Q : Bool → Hp → Prop), Rel cc fr O σ H ρ → Post cc W fr O σ H (f ρ) (fun b _ H' => Q b H') → t σ H Q
def SndL (cc : Cc) (W : WX) (t : TA) (f : Den (List D)) : Prop := ∀ (fr : Frm) (O : Nat → List Addr) (σ : L2.St) (H : Hp) (ρ : Env') (Q : List V → Hp → Prop), Rel cc fr O σ H ρ → Post cc W fr O σ H (f ρ) (fun ds O' H' => ∀ vs, Reps H' (Av fr O') ds vs → Q vs H') → t σ H Q

section
variable {cc : Cc} {W : WX} {fr : Frm} {O O' : Nat → List Addr} {σ σ' : L2.St} {H H' : Hp} {ρ ρ' : Env'} {α β : Type}
theorem Post.bind {r : Res α} {g : α → Env' → Res β} {P : β → (Nat → List Addr) → Hp → Prop} {P1 : α → (Nat → List Addr) → Hp → Prop} (h : Post cc W fr O σ H (r.bind g) P)
    (k : ∀ a ρ1 O1 H1, Rel cc fr O1 σ H1 ρ1 → Mv O H O1 H1 → Post cc W fr O1 σ H1 (g a ρ1) P → P1 a O1 H1) : Post cc W fr O σ H r P1 := by
  cases r with
  | ok a ρ1 =>
    intro O1 H1 R1 m1
    refine k a ρ1 O1 H1 R1 m1 ?_
    have h : Post cc W fr O σ H (g a ρ1) P := h
    cases e : g a ρ1 with
    | ok b ρ2 =>
      rw [e] at h
      exact fun O2 H2 R2 m2 => h O2 H2 R2 (m1.trans m2)
    | er x ρ2 =>
      rw [e] at h
      exact fun O2 H2 R2 m2 => h O2 H2 R2 (m1.trans m2)
    | st =>
      rw [e] at h
      exact h
  | er x ρ1 => exact h
  | st => exact h
/-- a value at once, the heap grown -/
theorem Post.now {a : α} {P : α → (Nat → List Addr) → Hp → Prop} (h : Post cc W fr O σ H (.ok a ρ) P) (R : Rel cc fr O σ H ρ) (e : Same H H') : P a O H' := h O H' (R.more e) (Mv.new e)
theorem Post.here {a : α} {P : α → (Nat → List Addr) → Hp → Prop} (h : Post cc W fr O σ H (.ok a ρ) P) (R : Rel cc fr O σ H ρ) : P a O H := h O H R (Mv.refl O H)
end

/-! ### expressions -/
def dC (d : D) : Den D := fun ρ => .ok d ρ
/-- a name: what is owned is frozen -/
def dV (i : Nat) : Den D := fun ρ => match ρ[i]? with
  | some (.val d) => .ok d ρ
  | some (.own ds) => .ok (.list ds) (ρ.set i (.val (.list ds)))
  | _ => .st
def dB1 {α : Type} (g : D → Option α) (f : Den D) : Den α := fun ρ => (f ρ).bind fun x ρ1 => match g x with
  | some d => .ok d ρ1
  | none => .st
def dB2 {α : Type} (g : D → D → Option α) (f1 f2 : Den D) : Den α := fun ρ => (f1 ρ).bind fun x ρ1 => (f2 ρ1).bind fun y ρ2 => match g x y with
  | some d => .ok d ρ2
  | none => .st
def dNil : Den (List D) := fun ρ => .ok [] ρ
def dCons (f : Den D) (fs : Den (List D)) : Den (List D) := fun ρ => (f ρ).bind fun x ρ1 => (fs ρ1).bind fun xs ρ2 => .ok (x :: xs) ρ2
def dBL {α : Type} (g : List D → Option α) (fs : Den (List D)) : Den α := fun ρ => (fs ρ).bind fun xs ρ1 => match g xs with
  | some d => .ok d ρ1
  | none => .st

/-- operations on values: from data to data, new objects alone -/
def OkR2 (r : R2) (g : D → D → Option D) : Prop := ∀ (H : Hp) (A : Addr → Prop) (x y : V) (dx dy d : D) (Q : VK), (∀ p, H p = none → ¬ A p) → Rep H A dx x → Rep H A dy y → g dx dy = some d → (∀ v H', Same H H' → Rep H' A d v → Q v H') → r x y H Q
def OkR1 (r : V → Hp → VK → Prop) (g : D → Option D) : Prop := ∀ (H : Hp) (A : Addr → Prop) (x : V) (dx d : D) (Q : VK), (∀ p, H p = none → ¬ A p) → Rep H A dx x → g dx = some d → (∀ v H', Same H H' → Rep H' A d v → Q v H') → r x H Q
def OkRL (r : List V → Hp → VK → Prop) (g : List D → Option D) : Prop := ∀ (H : Hp) (A : Addr → Prop) (xs : List V) (ds : List D) (d : D) (Q : VK), (∀ p, H p = none → ¬ A p) → Reps H A ds xs → g ds = some d → (∀ v H', Same H H' → Rep H' A d v → Q v H') → r xs H Q
def OkRM (r : V → List V → Hp → VK → Prop) (g : D → List D → Option D) : Prop := ∀ (H : Hp) (A : Addr → Prop) (x : V) (xs : List V) (dx : D) (ds : List D) (d : D) (Q : VK), (∀ p, H p = none → ¬ A p) → Rep H A dx x → Reps H A ds xs → g dx ds = some d → (∀ v H', Same H H' → Rep H' A d v → Q v H') → r x xs H Q

section
variable {cc : Cc} {W : WX} {ta tb te : TE} {f g f1 f2 : Den D} {tl : TA} {fs : Den (List D)}
theorem snd_c {v : V} {d : D} (h : ∀ H A, Rep H A d v) : SndE cc W (tC v) (dC d) := fun fr O σ H ρ Q R p => p.here R v (h _ _)
theorem snd_v {i : Nat} : SndE cc W (tVar i) (dV i) := fun fr O σ H ρ Q R p => by
  unfold dV at p
  cases e : ρ[i]? with
  | none => rw [e] at p; exact p.elim
  | some s =>
    rw [e] at p
    cases s with
    | val d =>
      obtain ⟨_, v, h2, h3⟩ := R.slot i _ e
      exact ⟨v, h2, p.here R v h3⟩
    | own ds =>
      obtain ⟨v, h1, h2, h3⟩ := R.freeze e
      exact ⟨v, h1, p (off O i) H h3 mv_off v h2⟩
    | emp => exact p.elim
    | drw ns c => exact p.elim
    | exc k => exact p.elim
    | stm b g l line told => exact p.elim
    | dct kvs => exact p.elim
theorem snd_op {r : R2} {g : D → D → Option D} (hr : OkR2 r g) (ha : SndE cc W ta f1) (hb : SndE cc W tb f2) : SndE cc W (tOp r ta tb) (dB2 g f1 f2) := fun fr O σ H ρ Q R p =>
  ha fr O σ H ρ _ R (p.bind fun d ρ1 O1 H1 R1 m1 p1 v hv => hb fr O1 σ H1 ρ1 _ R1 (p1.bind fun e ρ2 O2 H2 R2 m2 p2 u hu => by
    cases q : g d e with
    | none => rw [q] at p2; exact p2.elim
    | some z =>
      rw [q] at p2
      exact hr H2 (Av fr O2) v u d e z Q (fun p hp => R2.fresh hp) (m2.rep hv) hu q fun v' H' s' hv' => p2.now R2 s' v' hv'))
theorem snd_un {r : V → Hp → VK → Prop} {g : D → Option D} (hr : OkR1 r g) (ha : SndE cc W ta f1) : SndE cc W (tUn r ta) (dB1 g f1) := fun fr O σ H ρ Q R p =>
  ha fr O σ H ρ _ R (p.bind fun d ρ1 O1 H1 R1 m1 p1 v hv => by
    cases q : g d with
    | none => rw [q] at p1; exact p1.elim
    | some z =>
      rw [q] at p1
      exact hr H1 (Av fr O1) v d z Q (fun p hp => R1.fresh hp) hv q fun v' H' s' hv' => p1.now R1 s' v' hv')
theorem snd_nil : SndL cc W tNil dNil := fun fr O σ H ρ Q R p => p.here R [] Reps.nil
theorem snd_cons (ha : SndE cc W ta f) (hl : SndL cc W tl fs) : SndL cc W (tCons ta tl) (dCons f fs) := fun fr O σ H ρ Q R p =>
  ha fr O σ H ρ _ R (p.bind fun d ρ1 O1 H1 R1 m1 p1 v hv => hl fr O1 σ H1 ρ1 _ R1 (p1.bind fun ds ρ2 O2 H2 R2 m2 p2 vs hvs => p2.here R2 (v :: vs) (Reps.cons (m2.rep hv) hvs)))
theorem snd_cb {r : List V → Hp → VK → Prop} {g : List D → Option D} (hr : OkRL r g) (hl : SndL cc W tl fs) : SndE cc W (tCB r tl) (dBL g fs) := fun fr O σ H ρ Q R p =>
  hl fr O σ H ρ _ R (p.bind fun ds ρ1 O1 H1 R1 m1 p1 vs hvs => by
    cases q : g ds with
    | none => rw [q] at p1; exact p1.elim
    | some z =>
      rw [q] at p1
      exact hr H1 (Av fr O1) vs ds z Q (fun p hp => R1.fresh hp) hvs q fun v' H' s' hv' => p1.now R1 s' v' hv')
end
end GG

namespace GG
open PySem L2

/-! ### displays, tests, branches -/
def gTupD (xs : List D) : Option D := if xs.length ≤ 100000 then some (.tuple xs) else none
def gLstD (xs : List D) : Option D := if xs.length ≤ 100000 then some (.list xs) else none
def asB : D → Option Bool
  | .bool b => some b
  | _ => none
/-- a test of two parts -/
def dAnd (f g : Den Bool) : Den Bool := fun ρ => (f ρ).bind fun b ρ1 => if b = true then g ρ1 else .ok false ρ1
def dOr (f g : Den Bool) : Den Bool := fun ρ => (f ρ).bind fun b ρ1 => if b = true then .ok true ρ1 else g ρ1
def dNot (f : Den Bool) : Den Bool := fun ρ => (f ρ).bind fun b ρ1 => .ok (!b) ρ1
def dTst (f : Den D) : Den Bool := dB1 asB f
/-- a truth value as a datum -/
def dBo (f : Den Bool) : Den D := fun ρ => (f ρ).bind fun b ρ1 => .ok (.bool b) ρ1
def dIf (c : Den Bool) (f g : Den D) : Den D := fun ρ => (c ρ).bind fun b ρ1 => if b = true then f ρ1 else g ρ1
/-- a op b op' c -/
def dChain (g g' : D → D → Option Bool) (f1 f2 f3 : Den D) : Den Bool := fun ρ => (f1 ρ).bind fun x ρ1 => (f2 ρ1).bind fun y ρ2 => match g x y with
  | some true => (f3 ρ2).bind fun z ρ3 => match g' y z with
    | some b => .ok b ρ3
    | none => .st
  | some false => .ok false ρ2
  | none => .st
/-- an operation whose value is a truth value -/
abbrev bo (g : D → D → Option Bool) : D → D → Option D := fun x y => (g x y).map PyData.bool

section
variable {cc : Cc} {W : WX} {ta tb te td : TE} {t u : TT} {f g f1 f2 f3 : Den D} {c c1 c2 : Den Bool} {tl : TA} {fs : Den (List D)}
theorem sz5 {n : Nat} (h : n ≤ 100000) : n ≤ sizeLine := Nat.le_trans h (by decide)
theorem snd_tup (hl : SndL cc W tl fs) : SndE cc W (tTup tl) (dBL gTupD fs) := fun fr O σ H ρ Q R p =>
  hl fr O σ H ρ _ R (p.bind fun ds ρ1 O1 H1 R1 m1 p1 vs hvs => by
    unfold gTupD at p1
    by_cases hz : ds.length ≤ 100000
    · rw [if_pos hz] at p1
      refine ⟨sz5 (by rw [hvs.len]; exact hz), fun q hq => p1.now R1 (same_upd hq) _ ?_⟩
      simp only [Rep]
      exact ⟨q, vs, rfl, R1.fresh hq, upd_same, Reps.mono (fun a o na e => ⟨same_upd hq a o e, na⟩) ds vs hvs⟩
    · rw [if_neg hz] at p1; exact p1.elim)
theorem snd_lst (hl : SndL cc W tl fs) : SndE cc W (tLst tl) (dBL gLstD fs) := fun fr O σ H ρ Q R p =>
  hl fr O σ H ρ _ R (p.bind fun ds ρ1 O1 H1 R1 m1 p1 vs hvs => by
    unfold gLstD at p1
    by_cases hz : ds.length ≤ 100000
    · rw [if_pos hz] at p1
      refine ⟨sz5 (by rw [hvs.len]; exact hz), fun q hq => p1.now R1 (same_upd hq) _ ?_⟩
      simp only [Rep]
      exact ⟨q, vs, rfl, R1.fresh hq, upd_same, Reps.mono (fun a o na e => ⟨same_upd hq a o e, na⟩) ds vs hvs⟩
    · rw [if_neg hz] at p1; exact p1.elim)
theorem snd_tst (h : SndE cc W te f) : SndT cc W (tB te) (dTst f) := fun fr O σ H ρ Q R p =>
  h fr O σ H ρ _ R (Post.bind (P := fun b _ H' => Q b H') p fun d ρ1 O1 H1 R1 m1 p1 v hv => by
    cases d with
    | bool b =>
      simp only [Rep] at hv
      exact ⟨b, hv, Post.here p1 R1⟩
    | _ => exact False.elim p1)
theorem snd_and (h1 : SndT cc W t c1) (h2 : SndT cc W u c2) : SndT cc W (tAnd t u) (dAnd c1 c2) := fun fr O σ H ρ Q R p =>
  h1 fr O σ H ρ _ R (p.bind fun b ρ1 O1 H1 R1 m1 p1 => by
    cases b with
    | true => exact h2 fr O1 σ H1 ρ1 Q R1 p1
    | false => exact Post.here p1 R1)
theorem snd_or (h1 : SndT cc W t c1) (h2 : SndT cc W u c2) : SndT cc W (tOr t u) (dOr c1 c2) := fun fr O σ H ρ Q R p =>
  h1 fr O σ H ρ _ R (p.bind fun b ρ1 O1 H1 R1 m1 p1 => by
    cases b with
    | true => exact Post.here p1 R1
    | false => exact h2 fr O1 σ H1 ρ1 Q R1 p1)
theorem snd_not (h1 : SndT cc W t c1) : SndT cc W (tNot t) (dNot c1) := fun fr O σ H ρ Q R p =>
  h1 fr O σ H ρ _ R (p.bind fun b ρ1 O1 H1 R1 m1 p1 => Post.here p1 R1)
theorem snd_if (hc : SndT cc W t c) (ha : SndE cc W ta f) (hb : SndE cc W tb g) : SndE cc W (tIf t ta tb) (dIf c f g) := fun fr O σ H ρ Q R p =>
  hc fr O σ H ρ _ R (p.bind fun b ρ1 O1 H1 R1 m1 p1 => by
    cases b with
    | true => exact ha fr O1 σ H1 ρ1 Q R1 p1
    | false => exact hb fr O1 σ H1 ρ1 Q R1 p1)
/-- a test read as a value is the test of the value -/
theorem rep_bool {H : Hp} {A : Addr → Prop} {b : Bool} : Rep H A (.bool b) (.bl b) := by simp only [Rep]
/-- truth values joined: the values of and, or, not -/
theorem snd_andV (h1 : SndE cc W ta (dBo c1)) (h2 : SndE cc W tb (dBo c2)) : SndE cc W (tAndV ta tb) (dBo (dAnd c1 c2)) := fun fr O σ H ρ Q R p =>
  h1 fr O σ H ρ _ R (by
    unfold dBo dAnd at p
    unfold dBo
    cases e : c1 ρ with
    | st => rw [e] at p; exact p
    | er k ρ1 => rw [e] at p; exact p
    | ok b ρ1 =>
      rw [e] at p
      intro O1 H1 R1 m1 v hv
      simp only [Rep] at hv
      subst hv
      refine ⟨b, rfl, ?_⟩
      cases b with
      | true =>
        refine h2 fr O1 σ H1 ρ1 Q R1 ?_
        have p : Post cc W fr O σ H ((c2 ρ1).bind fun b ρ2 => .ok (.bool b) ρ2) (PE' fr Q) := p
        unfold dBo
        cases e2 : c2 ρ1 with
        | st => rw [e2] at p; exact p
        | er k ρ2 => rw [e2] at p; exact fun O2 H2 R2 m2 => p O2 H2 R2 (m1.trans m2)
        | ok b2 ρ2 => rw [e2] at p; exact fun O2 H2 R2 m2 => p O2 H2 R2 (m1.trans m2)
      | false => exact (show Post cc W fr O σ H (.ok (.bool false) ρ1) (PE' fr Q) from p) O1 H1 R1 m1 _ rep_bool)
theorem snd_orV (h1 : SndE cc W ta (dBo c1)) (h2 : SndE cc W tb (dBo c2)) : SndE cc W (tOrV ta tb) (dBo (dOr c1 c2)) := fun fr O σ H ρ Q R p =>
  h1 fr O σ H ρ _ R (by
    unfold dBo dOr at p
    unfold dBo
    cases e : c1 ρ with
    | st => rw [e] at p; exact p
    | er k ρ1 => rw [e] at p; exact p
    | ok b ρ1 =>
      rw [e] at p
      intro O1 H1 R1 m1 v hv
      simp only [Rep] at hv
      subst hv
      refine ⟨b, rfl, ?_⟩
      cases b with
      | false =>
        refine h2 fr O1 σ H1 ρ1 Q R1 ?_
        have p : Post cc W fr O σ H ((c2 ρ1).bind fun b ρ2 => .ok (.bool b) ρ2) (PE' fr Q) := p
        unfold dBo
        cases e2 : c2 ρ1 with
        | st => rw [e2] at p; exact p
        | er k ρ2 => rw [e2] at p; exact fun O2 H2 R2 m2 => p O2 H2 R2 (m1.trans m2)
        | ok b2 ρ2 => rw [e2] at p; exact fun O2 H2 R2 m2 => p O2 H2 R2 (m1.trans m2)
      | true => exact (show Post cc W fr O σ H (.ok (.bool true) ρ1) (PE' fr Q) from p) O1 H1 R1 m1 _ rep_bool)
theorem snd_notV (h1 : SndE cc W ta (dBo c1)) : SndE cc W (tNotV ta) (dBo (dNot c1)) := fun fr O σ H ρ Q R p =>
  h1 fr O σ H ρ _ R (by
    unfold dBo dNot at p
    unfold dBo
    cases e : c1 ρ with
    | st => rw [e] at p; exact p
    | er k ρ1 => rw [e] at p; exact p
    | ok b ρ1 =>
      rw [e] at p
      intro O1 H1 R1 m1 v hv
      simp only [Rep] at hv
      subst hv
      exact ⟨b, rfl, p O1 H1 R1 m1 _ rep_bool⟩)
/-- a value that is a truth value -/
theorem snd_bo (h : SndE cc W te f) : SndE cc W te (dBo (dTst f)) := fun fr O σ H ρ Q R p =>
  h fr O σ H ρ Q R (by
    unfold dBo dTst dB1 at p
    cases e : f ρ with
    | st => rw [e] at p; exact p
    | er k ρ1 => rw [e] at p; exact p
    | ok d ρ1 =>
      rw [e] at p
      cases d with
      | bool b => exact p
      | _ => exact p.elim)
/-- a test whose parts are tests, as a value -/
theorem snd_chain {r r' : R2} {g1 g2 : D → D → Option Bool} (hr : OkR2 r (bo g1)) (hr' : OkR2 r' (bo g2)) (ha : SndE cc W ta f1) (hb : SndE cc W tb f2) (hd : SndE cc W td f3) : SndE cc W (tChain r r' ta tb td) (dBo (dChain g1 g2 f1 f2 f3)) := fun fr O σ H ρ Q R p => by
  have p' : Post cc W fr O σ H ((f1 ρ).bind fun x ρ1 => (f2 ρ1).bind fun y ρ2 => match g1 x y with
      | some true => (f3 ρ2).bind fun z ρ3 => (match g2 y z with | some b => .ok (.bool b) ρ3 | none => .st)
      | some false => .ok (.bool false) ρ2
      | none => .st) (PE' fr Q) := by
    unfold dBo dChain at p
    cases e1 : f1 ρ with
    | st => rw [e1] at p; exact p
    | er k ρ1 => rw [e1] at p; exact p
    | ok x ρ1 =>
      rw [e1] at p
      show Post cc W fr O σ H ((f2 ρ1).bind _) (PE' fr Q)
      have p : Post cc W fr O σ H (Res.bind (Res.bind (f2 ρ1) _) _) (PE' fr Q) := p
      cases e2 : f2 ρ1 with
      | st => rw [e2] at p; exact p
      | er k ρ2 => rw [e2] at p; exact p
      | ok y ρ2 =>
        rw [e2] at p
        cases eg : g1 x y with
        | none => simp only [Res.bind, eg] at p ⊢; exact p
        | some b =>
          cases b with
          | false => simp only [Res.bind, eg] at p ⊢; exact p
          | true =>
            simp only [Res.bind, eg] at p ⊢
            cases e3 : f3 ρ2 with
            | st => rw [e3] at p; exact p
            | er k ρ3 => rw [e3] at p; exact p
            | ok z ρ3 =>
              rw [e3] at p
              cases eh : g2 y z with
              | none => simp only [eh] at p ⊢; exact p
              | some b2 => simp only [eh] at p ⊢; exact p
  refine ha fr O σ H ρ _ R (p'.bind fun x ρ1 O1 H1 R1 m1 p1 v hv => hb fr O1 σ H1 ρ1 _ R1 (p1.bind fun y ρ2 O2 H2 R2 m2 p2 u hu => ?_))
  cases eg : g1 x y with
  | none => simp only [eg] at p2; exact p2.elim
  | some b =>
    refine hr H2 (Av fr O2) v u x y (.bool b) _ (fun p hp => R2.fresh hp) (m2.rep hv) hu (by simp [bo, eg]) fun z H3 s3 hz => ?_
    simp only [Rep] at hz
    subst hz
    refine ⟨b, rfl, ?_⟩
    cases b with
    | false =>
      simp only [eg] at p2
      exact p2.now R2 s3 _ rep_bool
    | true =>
      simp only [eg] at p2
      refine hd fr O2 σ H3 ρ2 _ (R2.more s3) ?_
      have p3 : Post cc W fr O2 σ H3 ((f3 ρ2).bind fun z ρ3 => (match g2 y z with | some b => .ok (.bool b) ρ3 | none => .st)) (PE' fr Q) := by
        cases e3 : f3 ρ2 with
        | st => rw [e3] at p2; exact p2
        | er k ρ3 => rw [e3] at p2; exact fun O' H' R' m' => p2 O' H' R' ((Mv.new s3).trans m')
        | ok z ρ3 =>
          rw [e3] at p2
          simp only [Res.bind] at p2 ⊢
          cases eh : g2 y z with
          | none => simp only [eh] at p2; exact p2
          | some b2 => simp only [eh] at p2 ⊢; exact fun O' H' R' m' => p2 O' H' R' ((Mv.new s3).trans m')
      refine p3.bind fun z ρ3 O3 H4 R3 m3 p4 w' hw => ?_
      cases eh : g2 y z with
      | none => simp only [eh] at p4; exact p4.elim
      | some b2 =>
        simp only [eh] at p4
        exact hr' H4 (Av fr O3) u w' y z (.bool b2) Q (fun p hp => R3.fresh hp) (m3.rep ((Mv.new s3).rep hu)) hw (by simp [bo, eh]) fun v' H5 s5 hv' => p4.now R3 s5 v' hv'
end

/-! ### the operations -/
def gAdd : D → D → Option D
  | .int i, .int j => some (.int (i + j))
  | .list xs, .list ys => if xs.length + ys.length ≤ 100000 then some (.list (xs ++ ys)) else none
  | .str a, .str b => if a.length + b.length ≤ 100000 then some (.str (a ++ b)) else none
  | _, _ => none
def gSub : D → D → Option D
  | .int i, .int j => some (.int (i - j))
  | _, _ => none
def gMul : D → D → Option D
  | .int i, .int j => if (-(2 ^ 64) < i ∧ i < 2 ^ 64) ∨ (-(2 ^ 64) < j ∧ j < 2 ^ 64) then some (.int (i * j)) else none
  | .list xs, .int k => if -(2 ^ 63) ≤ k ∧ k < 2 ^ 63 ∧ xs.length * k.toNat ≤ 100000 then some (.list (List.replicate k.toNat xs).flatten) else none
  | _, _ => none
def gDiv : D → D → Option D
  | .int i, .int j => if 0 < j ∧ j < 1073741824 then some (.int (i / j)) else none
  | _, _ => none
def gMod : D → D → Option D
  | .int i, .int j => if 0 < j then some (.int (i % j)) else none
  | _, _ => none
def gNeg : D → Option D
  | .int i => some (.int (-i))
  | _ => none
def gCmp (p : Int → Int → Bool) : D → D → Option Bool
  | .int i, .int j => some (p i j)
  | _, _ => none
abbrev gLt := gCmp fun i j => decide (i < j)
abbrev gLe := gCmp fun i j => decide (i ≤ j)
abbrev gGt := gCmp fun i j => decide (j < i)
abbrev gGe := gCmp fun i j => decide (j ≤ i)
def gEq (d e : D) : Option Bool := if SeqAt.shaped d && SeqAt.shaped e then some (PyData.eqv d e) else none
def gNe (d e : D) : Option Bool := if SeqAt.shaped d && SeqAt.shaped e then some (!PyData.eqv d e) else none
def gIn (d e : D) : Option Bool := match e with
  | .list ds => if SeqAt.shaped d && SeqAt.shaped (.list ds) then some (ds.any fun z => PyData.eqv z d) else none
  | _ => none
def gNotIn (d e : D) : Option Bool := match e with
  | .list ds => if SeqAt.shaped d && SeqAt.shaped (.list ds) then some (!ds.any fun z => PyData.eqv z d) else none
  | _ => none
def isN : D → Bool
  | .none => true
  | _ => false
def gIs (d e : D) : Option Bool := match e with
  | .none => some (isN d)
  | .bool b => (asB d).map fun a => decide (a = b)
  | _ => none
def gIsNot (d e : D) : Option Bool := match e with
  | .none => some (!isN d)
  | .bool b => (asB d).map fun a => !decide (a = b)
  | _ => none
def gIx (d e : D) : Option D := match d, e with
  | .list ds, .int i => atI ds i
  | .tuple ds, .int i => atI ds i
  | _, _ => none

section
variable {K : PySem.W.Frag}
abbrev rPlus : R2 := fun x y H Q => rI0 (fun i j => .int (i + j)) x y H Q ∨ (rCat x y H Q ∨ ∃ i j, x = .str i ∧ y = .str j ∧ i.length + j.length ≤ sizeLine ∧ Q (.str (i ++ j)) H)
theorem or_plus {X : Cx} : OpR X (binaryOp .Add) rPlus := op_add.or (op_cat.or op_add_str)
theorem ok_plus : OkR2 rPlus gAdd := fun H A x y dx dy d Q fr hx hy hg k => by
  cases dx <;> cases dy <;> simp only [gAdd] at hg <;> try (cases hg; done)
  · simp only [Rep] at hx hy
    cases hg
    exact .inl ⟨_, _, hx, hy, k _ _ (Same.refl H) (by simp only [Rep])⟩
  · rename_i a b
    simp only [Rep] at hx hy
    split at hg
    · rename_i hl
      cases hg
      exact .inr (.inr ⟨a, b, hx, hy, sz5 hl, k _ _ (Same.refl H) (by simp only [Rep])⟩)
    · cases hg
  · rename_i xs ys
    simp only [Rep] at hx hy
    split at hg
    · rename_i hl
      cases hg
      obtain ⟨a, vs, rfl, na, ha, hs⟩ := hx
      obtain ⟨b, us, rfl, nb, hb, ht⟩ := hy
      refine .inr (.inl ⟨a, b, vs, us, rfl, rfl, ha, hb, sz5 (by rw [hs.len, ht.len]; exact hl), fun p hp => k _ _ (same_upd hp) ?_⟩)
      simp only [Rep]
      exact ⟨p, _, rfl, fr p hp, upd_same, (Reps.mono (fun a o na e => ⟨same_upd hp a o e, na⟩) xs vs hs).append (Reps.mono (fun a o na e => ⟨same_upd hp a o e, na⟩) ys us ht)⟩
    · cases hg
theorem ok_sub : OkR2 (rI0 fun i j => .int (i - j)) gSub := fun H A x y dx dy d Q fr hx hy hg k => by
  cases dx <;> cases dy <;> simp only [gSub] at hg <;> try (cases hg; done)
  simp only [Rep] at hx hy
  cases hg
  exact ⟨_, _, hx, hy, k _ _ (Same.refl H) (by simp only [Rep])⟩
abbrev rTimes : R2 := fun x y H Q => rI CMul (fun i j => .int (i * j)) x y H Q ∨ rRep x y H Q
theorem or_times {X : Cx} : OpR X (binaryOp .Mult) rTimes := op_mul.or op_rep
theorem reps_rep {H : Hp} {A : Addr → Prop} {ds : List D} {vs : List V} (h : Reps H A ds vs) : ∀ n, Reps H A (List.replicate n ds).flatten (List.replicate n vs).flatten
  | 0 => Reps.nil
  | n + 1 => by
    rw [List.replicate_succ, List.replicate_succ, List.flatten_cons, List.flatten_cons]
    exact h.append (reps_rep h n)
theorem ok_times : OkR2 rTimes gMul := fun H A x y dx dy d Q fr hx hy hg k => by
  cases dx <;> cases dy <;> simp only [gMul] at hg <;> try (cases hg; done)
  · simp only [Rep] at hx hy
    split at hg
    · rename_i hc
      cases hg
      exact .inl ⟨_, _, hx, hy, hc, k _ _ (Same.refl H) (by simp only [Rep])⟩
    · cases hg
  · rename_i xs i
    simp only [Rep] at hx hy
    split at hg
    · rename_i hl
      cases hg
      obtain ⟨a, vs, rfl, na, ha, hs⟩ := hx
      refine .inr ⟨a, i, vs, rfl, hy, ha, hl.1, hl.2.1, sz5 (by rw [hs.len]; exact hl.2.2), fun p hp => k _ _ (same_upd hp) ?_⟩
      simp only [Rep]
      exact ⟨p, _, rfl, fr p hp, upd_same, reps_rep (Reps.mono (fun a o na e => ⟨same_upd hp a o e, na⟩) xs vs hs) _⟩
    · cases hg
theorem ok_div : OkR2 (rI CDiv fun i j => .int (i / j)) gDiv := fun H A x y dx dy d Q fr hx hy hg k => by
  cases dx <;> cases dy <;> simp only [gDiv] at hg <;> try (cases hg; done)
  simp only [Rep] at hx hy
  split at hg
  · rename_i hc
    cases hg
    exact ⟨_, _, hx, hy, hc, k _ _ (Same.refl H) (by simp only [Rep])⟩
  · cases hg
theorem ok_mod : OkR2 (rI (fun _ j => 0 < j) fun i j => .int (i % j)) gMod := fun H A x y dx dy d Q fr hx hy hg k => by
  cases dx <;> cases dy <;> simp only [gMod] at hg <;> try (cases hg; done)
  simp only [Rep] at hx hy
  split at hg
  · rename_i hc
    cases hg
    exact ⟨_, _, hx, hy, hc, k _ _ (Same.refl H) (by simp only [Rep])⟩
  · cases hg
theorem ok_neg : OkR1 (rU fun i => .int (-i)) gNeg := fun H A x dx d Q fr hx hg k => by
  cases dx <;> simp only [gNeg] at hg <;> try (cases hg; done)
  simp only [Rep] at hx
  cases hg
  exact ⟨_, hx, k _ _ (Same.refl H) (by simp only [Rep])⟩
theorem ok_cmp {p : Int → Int → Bool} : OkR2 (rI0 fun i j => .bl (p i j)) (bo (gCmp p)) := fun H A x y dx dy d Q fr hx hy hg k => by
  cases dx <;> cases dy <;> simp only [bo, gCmp, Option.map] at hg <;> try (cases hg; done)
  simp only [Rep] at hx hy
  cases hg
  exact ⟨_, _, hx, hy, k _ _ (Same.refl H) (by simp only [Rep])⟩
theorem ok_eq : OkR2 (rEqD K) (bo gEq) := fun H A x y dx dy d Q fr hx hy hg k => by
  simp only [bo, gEq] at hg
  split at hg
  · rename_i hc
    cases hg
    rw [Bool.and_eq_true] at hc
    exact ⟨dx, dy, Rep.dp dx x hx, Rep.dp dy y hy, hc.1, hc.2, k _ _ (Same.refl H) (by simp only [Rep])⟩
  · cases hg
theorem ok_ne : OkR2 (rNeD K) (bo gNe) := fun H A x y dx dy d Q fr hx hy hg k => by
  simp only [bo, gNe] at hg
  split at hg
  · rename_i hc
    cases hg
    rw [Bool.and_eq_true] at hc
    exact ⟨dx, dy, Rep.dp dx x hx, Rep.dp dy y hy, hc.1, hc.2, k _ _ (Same.refl H) (by simp only [Rep])⟩
  · cases hg
theorem ok_in : OkR2 (rInD K) (bo gIn) := fun H A x y dx dy d Q fr hx hy hg k => by
  cases dy <;> simp only [bo, gIn] at hg <;> try (cases hg; done)
  split at hg
  · rename_i hc
    cases hg
    rw [Bool.and_eq_true] at hc
    exact ⟨dx, _, Rep.dp dx x hx, Rep.dp _ y hy, hc.1, hc.2, k _ _ (Same.refl H) (by simp only [Rep])⟩
  · cases hg
theorem ok_notIn : OkR2 (rNotInD K) (bo gNotIn) := fun H A x y dx dy d Q fr hx hy hg k => by
  cases dy <;> simp only [bo, gNotIn] at hg <;> try (cases hg; done)
  split at hg
  · rename_i hc
    cases hg
    rw [Bool.and_eq_true] at hc
    exact ⟨dx, _, Rep.dp dx x hx, Rep.dp _ y hy, hc.1, hc.2, k _ _ (Same.refl H) (by simp only [Rep])⟩
  · cases hg
theorem rep_isN {H : Hp} {A : Addr → Prop} {d : D} {x : V} (h : Rep H A d x) : decide (x = .non) = isN d := by
  cases d <;> simp only [Rep] at h
  · subst h; rfl
  · subst h; rfl
  · subst h; rfl
  · subst h; rfl
  · obtain ⟨a, vs, rfl, _⟩ := h; rfl
  · obtain ⟨a, vs, rfl, _⟩ := h; rfl
abbrev rIs' : R2 := fun x y H Q => (y = .non ∧ Q (.bl (decide (x = .non))) H) ∨ rIsB x y H Q
abbrev rIsNot' : R2 := fun x y H Q => (y = .non ∧ Q (.bl (!decide (x = .non))) H) ∨ rNotB x y H Q
theorem or_is {X : Cx} : OpR X (compareOp .Is) rIs' := op_isN.or op_isBl
theorem or_isNot {X : Cx} : OpR X (compareOp .IsNot) rIsNot' := op_notN.or op_notBl
theorem ok_is : OkR2 rIs' (bo gIs) := fun H A x y dx dy d Q fr hx hy hg k => by
  cases dy <;> simp only [bo, gIs] at hg <;> try (cases hg; done)
  · simp only [Rep] at hy
    cases hg
    exact .inl ⟨hy, by rw [rep_isN hx]; exact k _ _ (Same.refl H) (by simp only [Rep])⟩
  · simp only [Rep] at hy
    cases dx <;> simp only [asB, Option.map] at hg <;> try (cases hg; done)
    simp only [Rep] at hx
    cases hg
    exact .inr ⟨_, _, hx, hy, k _ _ (Same.refl H) (by simp only [Rep])⟩
theorem ok_isNot : OkR2 rIsNot' (bo gIsNot) := fun H A x y dx dy d Q fr hx hy hg k => by
  cases dy <;> simp only [bo, gIsNot] at hg <;> try (cases hg; done)
  · simp only [Rep] at hy
    cases hg
    exact .inl ⟨hy, by rw [rep_isN hx]; exact k _ _ (Same.refl H) (by simp only [Rep])⟩
  · simp only [Rep] at hy
    cases dx <;> simp only [asB, Option.map] at hg <;> try (cases hg; done)
    simp only [Rep] at hx
    cases hg
    exact .inr ⟨_, _, hx, hy, k _ _ (Same.refl H) (by simp only [Rep])⟩
theorem reps_atI {H : Hp} {A : Addr → Prop} {ds : List D} {vs : List V} {i : Int} {d : D} (h : Reps H A ds vs) (e : atI ds i = some d) : ∃ v, atI vs i = some v ∧ Rep H A d v := by
  unfold atI at e ⊢
  rw [h.len]
  cases q : ixN ds.length i with
  | none => rw [q] at e; cases e
  | some j => rw [q] at e; exact h.get e
abbrev rSub' (K : PySem.W.Frag) : R2 := fun x y H Q => rIxL K x y H Q ∨ rIxT K x y H Q
theorem ix_lt {X : Cx} : IxR X (rSub' X.K) := ix_list.or ix_tup
theorem ok_ix : OkR2 (rSub' K) gIx := fun H A x y dx dy d Q fr hx hy hg k => by
  cases dx <;> cases dy <;> simp only [gIx] at hg <;> try (cases hg; done)
  · simp only [Rep] at hx hy
    obtain ⟨a, vs, rfl, na, ha, hs⟩ := hx
    obtain ⟨v, h1, h2⟩ := reps_atI hs hg
    exact .inl ⟨a, vs, _, v, rfl, hy, SqL.of ha, h1, k _ _ (Same.refl H) h2⟩
  · simp only [Rep] at hx hy
    obtain ⟨a, vs, rfl, na, ha, hs⟩ := hx
    obtain ⟨v, h1, h2⟩ := reps_atI hs hg
    exact .inr ⟨a, vs, _, v, rfl, hy, SqT.of ha, h1, k _ _ (Same.refl H) h2⟩
end
end GG

namespace GG
open PySem PySem.Spec PyProof.Rows L2

/-! ### pure functions: data in, data out -/
inductive Out where
  | ok (d : D)
  | er (k : EK)
  | st
abbrev PFn := List D → Out
def Out.at (o : Out) (ρ : Env') : Res D := match o with
  | .ok d => .ok d ρ
  | .er k => .er k ρ
  | .st => .st
def dCall (P : PFn) (fs : Den (List D)) : Den D := fun ρ => (fs ρ).bind fun ds ρ1 => (P ds).at ρ1
/-- the promise of a pure function -/
def spP (cc : Cc) (P : PFn) : Sp := fun vs H Q E => ∃ (Z : Addr → Prop) (ds : List D), (∀ x, Z x → H x ≠ none) ∧ Reps H Z ds vs ∧ (match P ds with
  | .ok d => ∀ v H', Same H H' → Rep H' Z d v → Q v H'
  | .er k => ∀ H', Same H H' → E (.ref (cc.cl k)) none H'
  | .st => False)
section
variable {cc : Cc} {W : WX} {tl : TA} {fs : Den (List D)}
theorem snd_call {P : PFn} (hl : SndL cc W tl fs) : SndE cc W (tCallS (spP cc P) (WE W) tl) (dCall P fs) := fun fr O σ H ρ Q R p =>
  hl fr O σ H ρ _ R (p.bind fun ds ρ1 O1 H1 R1 m1 p1 vs hvs => by
    refine ⟨Av fr O1, ds, fun x hx => R1.zH hx, hvs, ?_⟩
    cases eq : P ds with
    | st => rw [eq] at p1; exact p1.elim
    | ok d => rw [eq] at p1; exact fun v H' s' hv => p1.now R1 s' v hv
    | er k => rw [eq] at p1; exact fun H' s' => p1 O1 H' (R1.more s') (Mv.new s'))
end

/-! ### statements -/
inductive Fl where
  | nx
  | rt (d : D)
def PostS (cc : Cc) (W : WX) (fr : Frm) (O : Nat → List Addr) (H : Hp) (r : Res Fl) (D : Ends) : Prop := match r with
  | .ok .nx ρ' => ∀ σ' O' H', Rel cc fr O' σ' H' ρ' → Mv O H O' H' → D.nx σ' H'
  | .ok (.rt d) ρ' => ∀ σ' O' H' v, Rel cc fr O' σ' H' ρ' → Mv O H O' H' → Rep H' (Av fr O') d v → D.rt v H'
  | .er k ρ' => ∀ σ' O' H', Rel cc fr O' σ' H' ρ' → Mv O H O' H' → W (.ref (cc.cl k)) none σ' H'
  | .st => False
def SndS (cc : Cc) (W : WX) (t : TS) (G : Den Fl) : Prop := ∀ (fr : Frm) (O : Nat → List Addr) (σ : L2.St) (H : Hp) (ρ : Env') (D : Ends), Rel cc fr O σ H ρ → PostS cc W fr O H (G ρ) D → t D σ H

def dSeq (g h : Den Fl) : Den Fl := fun ρ => match g ρ with
  | .ok .nx ρ1 => h ρ1
  | r => r
def dSkip : Den Fl := fun ρ => .ok .nx ρ
def dExp {α : Type} (f : Den α) : Den Fl := fun ρ => (f ρ).bind fun _ ρ1 => .ok .nx ρ1
def dRet (f : Den D) : Den Fl := fun ρ => (f ρ).bind fun d ρ1 => .ok (.rt d) ρ1
def dIfS (c : Den Bool) (g h : Den Fl) : Den Fl := fun ρ => (c ρ).bind fun b ρ1 => if b = true then g ρ1 else h ρ1
def dAsg (i : Nat) (f : Den D) : Den Fl := fun ρ => (f ρ).bind fun d ρ1 => .ok .nx (ρ1.set i (.val d))
/-- several targets of a tuple -/
def setAll : List Nat → List D → Env' → Option Env'
  | [], [], ρ => some ρ
  | i :: is, d :: ds, ρ => setAll is ds (ρ.set i (.val d))
  | _, _, _ => none
def asT : D → Option (List D)
  | .tuple ds => some ds
  | _ => none
/-- what is stored of a datum: one name, or the names of a tuple -/
inductive Tg where
  | n (i : Nat)
  | t (is : List Nat)
def Tg.put (g : Tg) (d : D) (ρ : Env') : Option Env' := match g with
  | .n i => some (ρ.set i (.val d))
  | .t is => (asT d).bind fun ds => setAll is ds ρ
def dAsgT (g : Tg) (f : Den D) : Den Fl := fun ρ => (f ρ).bind fun d ρ1 => match g.put d ρ1 with
  | some ρ2 => .ok .nx ρ2
  | none => .st
/-- a, b = x, y: the tuple itself is not made -/
def dPar (is : List Nat) (fs : Den (List D)) : Den Fl := fun ρ => (fs ρ).bind fun ds ρ1 => match setAll is ds ρ1 with
  | some ρ2 => .ok .nx ρ2
  | none => .st
def dAug (i : Nat) (op : Int → Int → Int) (f : Den D) : Den Fl := fun ρ => match ρ[i]? with
  | some (.val (.int a)) => (f ρ).bind fun d ρ1 => match d with
    | .int b => .ok .nx (ρ1.set i (.val (.int (op a b))))
    | _ => .st
  | _ => .st
def dRaise (k : EK) : Den Fl := fun ρ => .er k ρ

section
variable {cc : Cc} {W : WX} {fr : Frm} {O O' : Nat → List Addr} {σ σ' : L2.St} {H H' : Hp} {ρ ρ' : Env'}
theorem PostS.of {α : Type} {r : Res α} {g : α → Env' → Res Fl} {D : Ends} {P1 : α → (Nat → List Addr) → Hp → Prop} (h : PostS cc W fr O H (r.bind g) D)
    (k : ∀ a ρ1 O1 H1, Rel cc fr O1 σ H1 ρ1 → Mv O H O1 H1 → PostS cc W fr O1 H1 (g a ρ1) D → P1 a O1 H1) : Post cc W fr O σ H r P1 := by
  cases r with
  | ok a ρ1 =>
    intro O1 H1 R1 m1
    refine k a ρ1 O1 H1 R1 m1 ?_
    have h : PostS cc W fr O H (g a ρ1) D := h
    cases e : g a ρ1 with
    | ok b ρ2 =>
      rw [e] at h
      cases b with
      | nx => exact fun σ2 O2 H2 R2 m2 => h σ2 O2 H2 R2 (m1.trans m2)
      | rt d => exact fun σ2 O2 H2 v R2 m2 => h σ2 O2 H2 v R2 (m1.trans m2)
    | er x ρ2 =>
      rw [e] at h
      exact fun σ2 O2 H2 R2 m2 => h σ2 O2 H2 R2 (m1.trans m2)
    | st =>
      rw [e] at h
      exact h
  | er x ρ1 => exact fun O1 H1 R1 m1 => h σ O1 H1 R1 m1
  | st => exact h
theorem PostS.later {r : Res Fl} {D : Ends} (m : Mv O H O' H') (h : PostS cc W fr O H r D) : PostS cc W fr O' H' r D := by
  cases r with
  | ok b ρ2 =>
    cases b with
    | nx => exact fun σ2 O2 H2 R2 m2 => h σ2 O2 H2 R2 (m.trans m2)
    | rt d => exact fun σ2 O2 H2 v R2 m2 => h σ2 O2 H2 v R2 (m.trans m2)
  | er x ρ2 => exact fun σ2 O2 H2 R2 m2 => h σ2 O2 H2 R2 (m.trans m2)
  | st => exact h
end

section
variable {cc : Cc} {W : WX} {ta tb te : TE} {t u : TS} {tt : TT} {f : Den D} {g h : Den Fl} {c : Den Bool} {tl : TA} {fs : Den (List D)}
theorem sns_skip : SndS cc W tNext dSkip := fun fr O σ H ρ D R p => p σ O H R (Mv.refl O H)
theorem sns_seq (h1 : SndS cc W t g) (h2 : SndS cc W u h) : SndS cc W (tSeq t u) (dSeq g h) := fun fr O σ H ρ D R p => by
  refine h1 fr O σ H ρ _ R ?_
  unfold dSeq at p
  cases e : g ρ with
  | st => rw [e] at p; exact p
  | er k ρ1 => rw [e] at p; exact p
  | ok b ρ1 =>
    rw [e] at p
    cases b with
    | rt d => exact p
    | nx => exact fun σ1 O1 H1 R1 m1 => h2 fr O1 σ1 H1 ρ1 D R1 (PostS.later m1 p)
theorem sns_exp (he : SndE cc W te f) : SndS cc W (tDrop te) (dExp f) := fun fr O σ H ρ D R p =>
  he fr O σ H ρ _ R (PostS.of p fun d ρ1 O1 H1 R1 m1 p1 v hv => p1 σ O1 H1 R1 (Mv.refl _ _))
theorem sns_ret (he : SndE cc W te f) : SndS cc W (tRet te) (dRet f) := fun fr O σ H ρ D R p =>
  he fr O σ H ρ _ R (PostS.of p fun d ρ1 O1 H1 R1 m1 p1 v hv => p1 σ O1 H1 v R1 (Mv.refl _ _) hv)
theorem sns_if (hc : SndT cc W tt c) (h1 : SndS cc W t g) (h2 : SndS cc W u h) : SndS cc W (tIfS tt t u) (dIfS c g h) := fun fr O σ H ρ D R p =>
  hc fr O σ H ρ _ R (PostS.of p fun b ρ1 O1 H1 R1 m1 p1 => by
    cases b with
    | true => exact h1 fr O1 σ H1 ρ1 D R1 p1
    | false => exact h2 fr O1 σ H1 ρ1 D R1 p1)
theorem sns_asg {i : Nat} (he : SndE cc W te f) : SndS cc W (tAsg te (gName i)) (dAsg i f) := fun fr O σ H ρ D R p =>
  he fr O σ H ρ _ R (PostS.of p fun d ρ1 O1 H1 R1 m1 p1 v hv => p1 _ _ _ (R1.set hv) mv_off)
/-- targets -/
def SndG (cc : Cc) (g : TG) (tg : Tg) : Prop := ∀ (fr : Frm) (O : Nat → List Addr) (σ : L2.St) (H : Hp) (ρ ρ' : Env') (d : D) (v : V) (Q : L2.St → Hp → Prop), Rel cc fr O σ H ρ → Rep H (Av fr O) d v → tg.put d ρ = some ρ' →
  (∀ σ' O', Rel cc fr O' σ' H ρ' → Mv O H O' H → (∀ j, (∀ i, (tg = .n i ∨ ∃ is, tg = .t is ∧ i ∈ is) → j ≠ i) → σ'[j]? = σ[j]?) → σ'.length = σ.length → Q σ' H) → g v σ H Q
theorem sng_name {i : Nat} : SndG cc (gName i) (.n i) := fun fr O σ H ρ ρ' d v Q R hv e k => by
  cases e
  exact k _ _ (R.set hv) mv_off (fun j hj => List.getElem?_set_ne (Ne.symm (hj i (.inl rfl)))) (by simp)
def gNames : List Nat → TGs
  | [] => gNil
  | i :: is => gCons (gName i) (gNames is)
theorem gNames_ok : ∀ (is : List Nat) (fr : Frm) (O : Nat → List Addr) (σ : L2.St) (H : Hp) (ρ ρ' : Env') (ds : List D) (vs : List V) (Q : L2.St → Hp → Prop), Rel cc fr O σ H ρ → Reps H (Av fr O) ds vs → setAll is ds ρ = some ρ' →
    (∀ σ' O', Rel cc fr O' σ' H ρ' → Mv O H O' H → (∀ j, j ∉ is → σ'[j]? = σ[j]?) → σ'.length = σ.length → Q σ' H) → gNames is vs σ H Q
  | [], fr, O, σ, H, ρ, ρ', ds, vs, Q, R, hv, e, k => by
    cases ds with
    | nil =>
      cases e
      simp only [Reps] at hv
      exact ⟨hv, k σ O R (Mv.refl _ _) (fun _ _ => rfl) rfl⟩
    | cons d ds => cases e
  | i :: is, fr, O, σ, H, ρ, ρ', ds, vs, Q, R, hv, e, k => by
    cases ds with
    | nil => cases e
    | cons d ds =>
      obtain ⟨v, r, rfl, h1, h2⟩ := hv.uncons
      refine ⟨v, r, rfl, gNames_ok is fr (off O i) _ H _ ρ' ds r Q (R.set h1) (mv_off.reps h2) e fun σ' O' R' m' s' l' => k σ' O' R' (mv_off.trans m') (fun j hj => ?_) (by simpa using l')⟩
      rw [s' j (fun z => hj (List.mem_cons_of_mem _ z))]
      exact List.getElem?_set_ne (fun z => hj (by rw [z]; exact List.mem_cons_self))
theorem setAll_len : ∀ {is : List Nat} {ds : List D} {ρ ρ' : Env'}, setAll is ds ρ = some ρ' → is.length = ds.length
  | [], [], _, _, _ => rfl
  | [], _ :: _, _, _, e => by cases e
  | _ :: _, [], _, _, e => by cases e
  | i :: is, d :: ds, ρ, ρ', e => by
    have := setAll_len (is := is) (ds := ds) e
    simp [this]
theorem sng_tup {K : PySem.W.Frag} {is : List Nat} {n : Nat} (hn : is.length = n) : SndG cc (L2.gTup K n (gNames is)) (.t is) := fun fr O σ H ρ ρ' d v Q R hv e k => by
  cases d <;> simp only [Tg.put, asT, Option.bind] at e <;> try (cases e; done)
  simp only [Rep] at hv
  obtain ⟨a, vs, rfl, na, ha, hs⟩ := hv
  refine ⟨a, vs, rfl, SqT.of ha, by rw [hs.len, ← setAll_len e, hn], gNames_ok is fr O σ H ρ ρ' _ vs Q R hs e fun σ' O' R' m' s' l' => k σ' O' R' m' (fun j hj => s' j fun z => hj j (.inr ⟨is, rfl, z⟩) rfl) l'⟩
theorem sns_asgT {g : TG} {tg : Tg} (hg : SndG cc g tg) (he : SndE cc W te f) : SndS cc W (tAsg te g) (dAsgT tg f) := fun fr O σ H ρ D R p =>
  he fr O σ H ρ _ R (PostS.of p fun d ρ1 O1 H1 R1 m1 p1 v hv => by
    cases e : tg.put d ρ1 with
    | none => rw [e] at p1; exact p1.elim
    | some ρ2 =>
      rw [e] at p1
      exact hg fr O1 σ H1 ρ1 ρ2 d v _ R1 hv e fun σ' O' R' m' _ _ => p1 σ' O' H1 R' m')
theorem sns_par {i j : Nat} (hl : SndL cc W tl fs) : SndS cc W (tPar i j tl) (dPar [i, j] fs) := fun fr O σ H ρ D R p =>
  hl fr O σ H ρ _ R (PostS.of p fun ds ρ1 O1 H1 R1 m1 p1 vs hvs => by
    cases e : setAll [i, j] ds ρ1 with
    | none => rw [e] at p1; exact p1.elim
    | some ρ2 =>
      rw [e] at p1
      match ds, e, hvs with
      | [d1, d2], e, hvs =>
        obtain ⟨v1, r1, rfl, h1, hr⟩ := hvs.uncons
        obtain ⟨v2, r2, rfl, h2, hr⟩ := hr.uncons
        simp only [Reps] at hr
        subst hr
        cases e
        exact ⟨v1, v2, rfl, p1 _ _ _ ((R1.set h1).set (mv_off.rep h2)) (mv_off.trans mv_off)⟩
      | [], e, _ => cases e
      | [_], e, _ => cases e
      | _ :: _ :: _ :: _, e, _ => cases e)
theorem sns_par3 {i j l : Nat} (hl : SndL cc W tl fs) : SndS cc W (tPar3 i j l tl) (dPar [i, j, l] fs) := fun fr O σ H ρ D R p =>
  hl fr O σ H ρ _ R (PostS.of p fun ds ρ1 O1 H1 R1 m1 p1 vs hvs => by
    cases e : setAll [i, j, l] ds ρ1 with
    | none => rw [e] at p1; exact p1.elim
    | some ρ2 =>
      rw [e] at p1
      match ds, e, hvs with
      | [d1, d2, d3], e, hvs =>
        obtain ⟨v1, r1, rfl, h1, hr⟩ := hvs.uncons
        obtain ⟨v2, r2, rfl, h2, hr⟩ := hr.uncons
        obtain ⟨v3, r3, rfl, h3, hr⟩ := hr.uncons
        simp only [Reps] at hr
        subst hr
        cases e
        exact ⟨v1, v2, v3, rfl, p1 _ _ _ (((R1.set h1).set (mv_off.rep h2)).set (mv_off.rep (mv_off.rep h3))) ((mv_off.trans mv_off).trans mv_off)⟩
      | [], e, _ => cases e
      | [_], e, _ => cases e
      | [_, _], e, _ => cases e
      | _ :: _ :: _ :: _ :: _, e, _ => cases e)
theorem sns_aug {i : Nat} {op : Int → Int → Int} (he : SndE cc W te f) : SndS cc W (tAug i te (ipI op)) (dAug i op f) := fun fr O σ H ρ D R p => by
  unfold dAug at p
  cases e : ρ[i]? with
  | none => rw [e] at p; exact p.elim
  | some s =>
    rw [e] at p
    match s, e, p with
    | .val (.int a), e, p =>
      obtain ⟨_, v, h2, h3⟩ := R.slot i _ e
      simp only [Rep] at h3
      subst h3
      refine ⟨_, h2, he fr O σ H ρ _ R (PostS.of (g := fun d ρ1 => match d with | .int b => .ok .nx (ρ1.set i (.val (.int (op a b)))) | _ => .st) p fun d ρ1 O1 H1 R1 m1 p1 u hu => ?_)⟩
      match d, p1, hu with
      | .int b, p1, hu =>
        simp only [Rep] at hu
        exact ⟨a, b, rfl, hu, p1 _ _ _ (R1.set (d := .int (op a b)) (by simp only [Rep])) mv_off⟩
      | .none, p1, _ => exact p1.elim
      | .bool _, p1, _ => exact p1.elim
      | .str _, p1, _ => exact p1.elim
      | .list _, p1, _ => exact p1.elim
      | .tuple _, p1, _ => exact p1.elim
      | .dict _, p1, _ => exact p1.elim
    | .emp, _, p => exact p.elim
    | .val .none, _, p => exact p.elim
    | .val (.bool _), _, p => exact p.elim
    | .val (.str _), _, p => exact p.elim
    | .val (.list _), _, p => exact p.elim
    | .val (.tuple _), _, p => exact p.elim
    | .val (.dict _), _, p => exact p.elim
    | .own _, _, p => exact p.elim
    | .drw _ _, _, p => exact p.elim
    | .exc _, _, p => exact p.elim
    | .stm _ _ _ _ _, _, p => exact p.elim
    | .dct _, _, p => exact p.elim
theorem sns_raise {k : EK} {mk : L2.St → Hp → XK → Prop} (hk : ∀ σ H Q, Q (.ref (cc.cl k)) none H → mk σ H Q) : SndS cc W (fun _ σ H => mk σ H fun cls d H' => W cls d σ H') (dRaise k) := fun fr O σ H ρ D R p =>
  hk σ H _ (p σ O H R (Mv.refl _ _))
end

/-! ### a pure function by its body -/
def runP (n m : Nat) (G : Den Fl) : PFn := fun ds => if ds.length = n then (match G (ds.map Slot.val ++ List.replicate m .emp) with
  | .ok .nx _ => .ok .none
  | .ok (.rt d) _ => .ok d
  | .er k _ => .er k
  | .st => .st) else .st
section
variable {cc : Cc}
theorem rel_start {Z : Addr → Prop} {H : Hp} {ds : List D} {vs : List V} {m : Nat} (hz : ∀ x, Z x → H x ≠ none) (hs : Reps H Z ds vs) (da db sx sd : Addr) :
    Rel cc ⟨Z, H, fun _ => False, da, db, sx, sd⟩ (fun _ => []) (vs.map some ++ List.replicate m none) H (ds.map Slot.val ++ List.replicate m .emp) where
  len := by simp [hs.len]
  zin := hz
  frame := fun _ _ _ e => e
  dom := fun _ h => h
  own := fun _ _ h => nomatch h
  dis := fun _ _ _ h => nomatch h
  new := fun _ _ _ _ h => nomatch h
  slot := fun i s hi => by
    by_cases hl : i < ds.length
    · rw [List.getElem?_append_left (by simpa using hl), List.getElem?_map] at hi
      rw [List.getElem?_append_left (by rw [List.length_map, hs.len]; exact hl), List.getElem?_map]
      rw [List.getElem?_eq_getElem hl] at hi
      obtain ⟨v, h1, h2⟩ := hs.get (List.getElem?_eq_getElem hl)
      cases hi
      exact ⟨rfl, v, by rw [h1]; rfl, Rep.mono (fun a o na e => ⟨e, fun z => by
        rcases z with z | ⟨_, z⟩
        · exact na z
        · cases z⟩) _ v h2⟩
    · rw [List.getElem?_append_right (by simpa using hl), List.getElem?_replicate] at hi
      split at hi
      · cases hi; rfl
      · cases hi
/-- a def whose body is G -/
theorem fn_pure {P : Program} {w : World} {K : PySem.W.Frag} {mg : Str → Option Value} {base : Heap} {x qual : Str} {st : Stmt} {f : Addr} {fd : FuncData} {N ps : List Str} {k n m : Nat} {G : Den Fl} (F : Fun K x qual st f fd) (S : FnScope N ps (defScope st))
    (hn : ps.length = n) (hm : N.length = n + m)
    (hbody : ∀ (cdv : Value) (A : Around) (outer : List Env) (s : Shared) (H : Hp) (E : XK), Room k (A.deeper (envOfC qual (defScope st) s.heap.objs.size f cdv)) →
      ∃ t, PSs (cxOf (L2.CX P w) P w K mg base N qual (defScope st) f cdv A outer s H E) (defBody st) t ∧ SndS cc (fun cls d _ H' => E cls d H') t G) :
    FnOk P w K mg base (L2.CX P w) (k + 1) f fd ps (spP cc (runP n m G)) := by
  refine F.okX S (fun vs H Q E h => ?_) (fun cdv A outer s H vs Q E hr h => ?_)
  · obtain ⟨Z, ds, hz, hs, hp⟩ := h
    unfold runP at hp
    split at hp
    · rename_i hl
      by_cases hd : ds.length = n
      · rw [hs.len, hd, hn]
      · rw [if_neg hd] at hl; cases hl
    · rename_i hl
      by_cases hd : ds.length = n
      · rw [hs.len, hd, hn]
      · rw [if_neg hd] at hl; cases hl
    · exact hp.elim
  · obtain ⟨Z, ds, hz, hs, hp⟩ := h
    obtain ⟨t, ht, hg⟩ := hbody cdv A outer s H E hr
    refine ⟨t, ht, ?_⟩
    unfold runP at hp
    by_cases hd : ds.length = n
    · rw [if_pos hd] at hp
      have e : L2.start N vs = vs.map some ++ List.replicate m none := by
        unfold L2.start
        rw [hm, hs.len, hd, Nat.add_sub_cancel_left]
      rw [e]
      refine hg _ _ _ H _ _ (rel_start (cc := cc) (m := m) hz hs 0 0 0 0) ?_
      have av : ∀ {O : Nat → List Addr} {fr : Frm} {H' : Hp} {d : D} {v : V}, Rep H' (Av fr O) d v → Rep H' fr.Z d v := fun {O fr H' d v} h => Rep.mono (fun a o na q => ⟨q, fun z => na (.inl z)⟩) d v h
      cases eg : G (ds.map Slot.val ++ List.replicate m .emp) with
      | st => rw [eg] at hp; exact hp
      | er k ρ' => rw [eg] at hp; exact fun σ' O' H' R' _ => hp H' fun x o q => R'.frame x o (fun z => z) q
      | ok b ρ' =>
        rw [eg] at hp
        cases b with
        | nx => exact fun σ' O' H' R' _ => hp .non H' (fun x o q => R'.frame x o (fun z => z) q) (by simp only [Rep])
        | rt d => exact fun σ' O' H' v R' _ hv => hp v H' (fun x o q => R'.frame x o (fun z => z) q) (av hv)
    · rw [if_neg hd] at hp; exact hp.elim
end
end GG

namespace GG
open PySem PySem.Spec PyProof.Rows L2

/-! ### what is walked -/
def ItOk (fr : Frm) (O : Nat → List Addr) (H : Hp) (J : It) (ds : List D) : Prop := ∃ (G : Hp → Prop) (Y : Nat → Hp → V → Hp → Prop), Walk J ds.length G Y ∧ (∀ O' H', Mv O H O' H' → G H') ∧
  ∀ (i : Nat) (O' : Nat → List Addr) (H' H'' : Hp) (x : V) (fr' : Frm), i < ds.length → Mv O H O' H' → (∀ a, fr'.Z a → fr.Z a ∨ H a = none) → (∀ p, H' p = none → ¬ Av fr' O' p) → Y i H' x H'' →
    Same H' H'' ∧ ∃ d, ds[i]? = some d ∧ Rep H'' (Av fr' O') d x
def SndI (cc : Cc) (W : WX) (wi : TI) (f : Den (List D)) : Prop := ∀ (fr : Frm) (O : Nat → List Addr) (σ : L2.St) (H : Hp) (ρ : Env') (R : It → Hp → Prop), Rel cc fr O σ H ρ → Post cc W fr O σ H (f ρ) (fun ds O' H' => ∀ J, ItOk fr O' H' J ds → R J H') → wi σ H R

section
variable {cc : Cc} {W : WX} {fr fr' : Frm} {O O' : Nat → List Addr} {σ σ' : L2.St} {H H' : Hp} {ρ ρ' : Env'}
theorem keep2 (m : Mv O H O' H') (hz : ∀ a, fr'.Z a → fr.Z a ∨ H a = none) : ∀ a o, ¬ Av fr O a → H a = some o → H' a = some o ∧ ¬ Av fr' O' a := fun a o h e =>
  ⟨m.step a o (Av.not h) e, fun z => by
    rcases z with z | ⟨i, z⟩
    · rcases hz a z with q | q
      · exact h (.inl q)
      · rw [e] at q; cases q
    · rcases m.own i a z with ⟨j, hj⟩ | q
      · exact h (.inr ⟨j, hj⟩)
      · rw [e] at q; cases q⟩
theorem it_list {K : PySem.W.Frag} {a : Addr} {vs : List V} {ds : List D} (na : ¬ Av fr O a) (ha : H a = some (.lst vs)) (hs : Reps H (Av fr O) ds vs) : ItOk fr O H (Itl K a) ds := by
  refine ⟨fun H => SqL K H a vs, YAt vs, hs.len ▸ walk_list, fun O' H' m => SqL.of (m.step a _ (Av.not na) ha), fun i O' H' H'' x fr' hi m hz hf y => ?_⟩
  obtain ⟨rfl, hx⟩ := y
  obtain ⟨d, hd, hr⟩ := hs.get' hx
  exact ⟨Same.refl _, d, hd, Rep.mono (keep2 m hz) d x hr⟩
theorem it_tup {K : PySem.W.Frag} {a : Addr} {vs : List V} {ds : List D} (na : ¬ Av fr O a) (ha : H a = some (.tup vs)) (hs : Reps H (Av fr O) ds vs) : ItOk fr O H (Itt K a) ds := by
  refine ⟨fun H => SqT K H a vs, YAt vs, hs.len ▸ walk_tup, fun O' H' m => SqT.of (m.step a _ (Av.not na) ha), fun i O' H' H'' x fr' hi m hz hf y => ?_⟩
  obtain ⟨rfl, hx⟩ := y
  obtain ⟨d, hd, hr⟩ := hs.get' hx
  exact ⟨Same.refl _, d, hd, Rep.mono (keep2 m hz) d x hr⟩
def rng (lo hi : Int) : List D := (List.range (hi - lo).toNat).map fun k => .int (lo + (k : Nat))
theorem it_rng {lo hi : Int} : ItOk fr O H (Itr lo (hi - lo).toNat) (rng lo hi) := by
  have hl : (rng lo hi).length = (hi - lo).toNat := by simp [rng]
  refine ⟨fun _ => True, YFn fun i => .int (lo + (i : Nat)), by rw [hl]; exact walk_range, fun _ _ _ => True.intro, fun i O' H' H'' x fr' hi m hz hf y => ?_⟩
  obtain ⟨rfl, rfl⟩ := y
  refine ⟨Same.refl _, .int (lo + (i : Nat)), ?_, by simp only [Rep]⟩
  rw [hl] at hi
  simp [rng, hi]
def zipD : List D → List D → List D
  | x :: xs, y :: ys => .tuple [x, y] :: zipD xs ys
  | _, _ => []
theorem zipD_len : ∀ xs ys : List D, (zipD xs ys).length = min xs.length ys.length
  | [], _ => by simp [zipD]
  | _ :: _, [] => by simp [zipD]
  | x :: xs, y :: ys => by simp [zipD, zipD_len xs ys, Nat.succ_min_succ]
theorem zipD_get : ∀ {xs ys : List D} {i : Nat} {x y : D}, xs[i]? = some x → ys[i]? = some y → (zipD xs ys)[i]? = some (.tuple [x, y])
  | [], _, _, _, _, h, _ => by simp at h
  | _ :: _, [], _, _, _, _, h => by simp at h
  | x :: xs, y :: ys, 0, _, _, h, h' => by
    cases (show x = _ by simpa using h)
    cases (show y = _ by simpa using h')
    rfl
  | x :: xs, y :: ys, i + 1, _, _, h, h' => by
    simpa [zipD] using zipD_get (xs := xs) (ys := ys) (i := i) (by simpa using h) (by simpa using h')
theorem it_zip {K : PySem.W.Frag} {a b : Addr} {vs us : List V} {ds es : List D} (na : ¬ Av fr O a) (ha : H a = some (.lst vs)) (hs : Reps H (Av fr O) ds vs) (nb : ¬ Av fr O b) (hb : H b = some (.lst us)) (ht : Reps H (Av fr O) es us) : ItOk fr O H (Itz K a b) (zipD ds es) := by
  refine ⟨fun H => SqL K H a vs ∧ SqL K H b us, _, walk_zip (by rw [zipD_len, hs.len, ht.len]), fun O' H' m => ⟨SqL.of (m.step a _ (Av.not na) ha), SqL.of (m.step b _ (Av.not nb) hb)⟩, fun i O' H' H'' x fr' hi m hz hf y => ?_⟩
  obtain ⟨T, x1, x2, rfl, nT, rfl, h1, h2⟩ := y
  obtain ⟨d, hd, hr⟩ := hs.get' h1
  obtain ⟨e, he, hq⟩ := ht.get' h2
  refine ⟨same_upd nT, .tuple [d, e], zipD_get hd he, ?_⟩
  simp only [Rep]
  have k2 : ∀ a o, ¬ Av fr O a → H a = some o → upd H' T (.tup [x1, x2]) a = some o ∧ ¬ Av fr' O' a := fun a o na e => ⟨same_upd nT a o (keep2 (fr' := fr') m hz a o na e).1, (keep2 m hz a o na e).2⟩
  exact ⟨T, _, rfl, hf T nT, upd_same, Reps.cons (Rep.mono k2 d x1 hr) (Reps.cons (Rep.mono k2 e x2 hq) Reps.nil)⟩
def enumD (n : Int) : List D → List D
  | [] => []
  | x :: xs => .tuple [.int n, x] :: enumD (n + 1) xs
theorem enumD_len : ∀ (xs : List D) (n : Int), (enumD n xs).length = xs.length
  | [], _ => rfl
  | x :: xs, n => by simp [enumD, enumD_len xs]
theorem enumD_get : ∀ {xs : List D} {i : Nat} {x : D} {n : Int}, xs[i]? = some x → (enumD n xs)[i]? = some (.tuple [.int (n + (i : Nat)), x])
  | [], _, _, _, h => by simp at h
  | x :: xs, 0, _, n, h => by
    cases (show x = _ by simpa using h)
    simp [enumD]
  | x :: xs, i + 1, _, n, h => by
    have := enumD_get (xs := xs) (i := i) (n := n + 1) (by simpa using h)
    simp only [enumD, List.getElem?_cons_succ, this]
    congr 4
    omega
theorem it_enum {K : PySem.W.Frag} {a : Addr} {vs : List V} {ds : List D} (na : ¬ Av fr O a) (ha : H a = some (.lst vs)) (hs : Reps H (Av fr O) ds vs) : ItOk fr O H (Ite K a) (enumD 0 ds) := by
  refine ⟨fun H => SqL K H a vs, _, by rw [enumD_len, ← hs.len]; exact walk_enum, fun O' H' m => SqL.of (m.step a _ (Av.not na) ha), fun i O' H' H'' x fr' hi m hz hf y => ?_⟩
  obtain ⟨T, x1, x2, rfl, nT, rfl, h1, h2⟩ := y
  obtain ⟨e, he, hq⟩ := hs.get' h2
  cases h1
  refine ⟨same_upd nT, .tuple [.int ((i : Nat) : Int), e], ?_, ?_⟩
  · rw [enumD_get he, Int.zero_add]
  · simp only [Rep]
    have k2 : ∀ a o, ¬ Av fr O a → H a = some o → upd H' T (.tup [.int ((i : Nat) : Int), x2]) a = some o ∧ ¬ Av fr' O' a := fun a o na e => ⟨same_upd nT a o (keep2 (fr' := fr') m hz a o na e).1, (keep2 m hz a o na e).2⟩
    exact ⟨T, _, rfl, hf T nT, upd_same, Reps.cons (by simp only [Rep]) (Reps.cons (Rep.mono k2 e x2 hq) Reps.nil)⟩
end

def asL : D → Option (List D)
  | .list ds => some ds
  | _ => none
def gRng1 : List D → Option (List D)
  | [.int j] => if -(2 ^ 62) ≤ j ∧ j < 2 ^ 62 then some (rng 0 j) else none
  | _ => none
def gRng2 : List D → Option (List D)
  | [.int i, .int j] => if -(2 ^ 62) ≤ i ∧ i < 2 ^ 62 ∧ -(2 ^ 62) ≤ j ∧ j < 2 ^ 62 then some (rng i j) else none
  | _ => none
def gZip : List D → Option (List D)
  | [.list xs, .list ys] => some (zipD xs ys)
  | _ => none
def gEnum : List D → Option (List D)
  | [.list xs] => some (enumD 0 xs)
  | _ => none
section
variable {cc : Cc} {W : WX} {te : TE} {f : Den D} {tl : TA} {fs : Den (List D)} {K : PySem.W.Frag}
theorem sni_list (he : SndE cc W te f) : SndI cc W (iList K te) (dB1 asL f) := fun fr O σ H ρ R' R p =>
  he fr O σ H ρ _ R (Post.bind p fun d ρ1 O1 H1 R1 m1 p1 v hv => by
    cases d with
    | list ds =>
      simp only [Rep] at hv
      obtain ⟨a, vs, rfl, na, ha, hs⟩ := hv
      exact ⟨a, rfl, ⟨vs, SqL.of ha⟩, Post.here p1 R1 _ (it_list na ha hs)⟩
    | _ => exact False.elim p1)
theorem sni_tup (he : SndE cc W te f) : SndI cc W (iTup K te) (dB1 asT f) := fun fr O σ H ρ R' R p =>
  he fr O σ H ρ _ R (Post.bind p fun d ρ1 O1 H1 R1 m1 p1 v hv => by
    cases d with
    | tuple ds =>
      simp only [Rep] at hv
      obtain ⟨a, vs, rfl, na, ha, hs⟩ := hv
      exact ⟨a, rfl, ⟨vs, SqT.of ha⟩, Post.here p1 R1 _ (it_tup na ha hs)⟩
    | _ => exact False.elim p1)
theorem reps1 {H : Hp} {A : Addr → Prop} {d : D} {vs : List V} (h : Reps H A [d] vs) : ∃ v, vs = [v] ∧ Rep H A d v := by
  obtain ⟨v, r, rfl, h1, h2⟩ := h.uncons
  simp only [Reps] at h2
  subst h2
  exact ⟨v, rfl, h1⟩
theorem reps2 {H : Hp} {A : Addr → Prop} {d e : D} {vs : List V} (h : Reps H A [d, e] vs) : ∃ v u, vs = [v, u] ∧ Rep H A d v ∧ Rep H A e u := by
  obtain ⟨v, r, rfl, h1, h2⟩ := h.uncons
  obtain ⟨u, rfl, h3⟩ := reps1 h2
  exact ⟨v, u, rfl, h1, h3⟩
theorem sni_rng1 (hl : SndL cc W tl fs) : SndI cc W (iRng1 tl) (dBL gRng1 fs) := fun fr O σ H ρ R' R p =>
  hl fr O σ H ρ _ R (Post.bind p fun ds ρ1 O1 H1 R1 m1 p1 vs hvs => by
    cases q : gRng1 ds with
    | none => rw [q] at p1; exact False.elim p1
    | some es =>
      rw [q] at p1
      unfold gRng1 at q
      split at q
      · rename_i j
        split at q
        · rename_i hc
          cases q
          obtain ⟨v, rfl, hv⟩ := reps1 hvs
          simp only [Rep] at hv
          subst hv
          have := Post.here p1 R1 (Itr 0 (j - 0).toNat) it_rng
          rw [Int.sub_zero] at this
          exact ⟨j, rfl, hc.1, hc.2, this⟩
        · cases q
      · cases q)
theorem sni_rng2 (hl : SndL cc W tl fs) : SndI cc W (iRng2 tl) (dBL gRng2 fs) := fun fr O σ H ρ R' R p =>
  hl fr O σ H ρ _ R (Post.bind p fun ds ρ1 O1 H1 R1 m1 p1 vs hvs => by
    cases q : gRng2 ds with
    | none => rw [q] at p1; exact False.elim p1
    | some es =>
      rw [q] at p1
      unfold gRng2 at q
      split at q
      · rename_i i j
        split at q
        · rename_i hc
          cases q
          obtain ⟨v, u, rfl, hv, hu⟩ := reps2 hvs
          simp only [Rep] at hv hu
          subst hv hu
          exact ⟨i, j, rfl, hc, Post.here p1 R1 (Itr i (j - i).toNat) it_rng⟩
        · cases q
      · cases q)
theorem sni_zip (hl : SndL cc W tl fs) : SndI cc W (iZip K tl) (dBL gZip fs) := fun fr O σ H ρ R' R p =>
  hl fr O σ H ρ _ R (Post.bind p fun ds ρ1 O1 H1 R1 m1 p1 vs hvs => by
    cases q : gZip ds with
    | none => rw [q] at p1; exact False.elim p1
    | some es =>
      rw [q] at p1
      unfold gZip at q
      split at q
      · cases q
        obtain ⟨v, u, rfl, hv, hu⟩ := reps2 hvs
        simp only [Rep] at hv hu
        obtain ⟨a, vs, rfl, na, ha, hs⟩ := hv
        obtain ⟨b, us, rfl, nb, hb, ht⟩ := hu
        exact ⟨a, b, vs, us, rfl, SqL.of ha, SqL.of hb, Post.here p1 R1 _ (it_zip na ha hs nb hb ht)⟩
      · cases q)
theorem sni_enum (hl : SndL cc W tl fs) : SndI cc W (iEnum K tl) (dBL gEnum fs) := fun fr O σ H ρ R' R p =>
  hl fr O σ H ρ _ R (Post.bind p fun ds ρ1 O1 H1 R1 m1 p1 vs hvs => by
    cases q : gEnum ds with
    | none => rw [q] at p1; exact False.elim p1
    | some es =>
      rw [q] at p1
      unfold gEnum at q
      split at q
      · cases q
        obtain ⟨v, rfl, hv⟩ := reps1 hvs
        simp only [Rep] at hv
        obtain ⟨a, vs, rfl, na, ha, hs⟩ := hv
        exact ⟨a, vs, rfl, SqL.of ha, Post.here p1 R1 _ (it_enum na ha hs)⟩
      · cases q)
end

/-! ### for -/
def loop (g : Tg) (G : Den Fl) : List D → Den Fl
  | [], ρ => .ok .nx ρ
  | d :: ds, ρ => match g.put d ρ with
    | none => .st
    | some ρ1 => match G ρ1 with
      | .ok .nx ρ2 => loop g G ds ρ2
      | r => r
def dFor (it : Den (List D)) (g : Tg) (G : Den Fl) : Den Fl := fun ρ => (it ρ).bind fun ds ρ1 => loop g G ds ρ1
section
variable {cc : Cc} {W : WX} {wi : TI} {g : TG} {tb : TS} {it : Den (List D)} {tg : Tg} {G : Den Fl}
theorem sns_for (hi : SndI cc W wi it) (hg : SndG cc g tg) (hb : SndS cc W tb G) : SndS cc W (tFor wi g tb) (dFor it tg G) := fun fr O σ H ρ D R p =>
  hi fr O σ H ρ _ R (PostS.of p fun ds ρ1 O1 H1 R1 m1 p1 J hJ => by
    obtain ⟨Gd, Y, w, hG, hY⟩ := hJ
    refine for_it w (fun i σ' H' => ∃ O' ρ', Rel cc fr O' σ' H' ρ' ∧ Mv O1 H1 O' H' ∧ PostS cc W fr O' H' (loop tg G (ds.drop i) ρ') D) ⟨O1, ρ1, R1, Mv.refl _ _, p1⟩ ?_ ?_ ?_
    · rintro i σ' H' _ ⟨O', ρ', R', m', _⟩
      exact hG O' H' m'
    · rintro i x σ' H' H'' hi ⟨O', ρ', R', m', p'⟩ y
      obtain ⟨sm, d, hd, hr⟩ := hY i O' H' H'' x fr hi m' (fun a z => .inl z) (fun p hp => R'.fresh hp) y
      have R2 := R'.more sm
      have e : ds.drop i = d :: ds.drop (i + 1) := by
        obtain ⟨h1, h2⟩ := List.getElem?_eq_some_iff.mp hd
        rw [List.drop_eq_getElem_cons h1, h2]
      rw [e] at p'
      unfold loop at p'
      cases ep : tg.put d ρ' with
      | none => rw [ep] at p'; exact p'.elim
      | some ρ2 =>
        rw [ep] at p'
        dsimp only at p'
        refine hg fr O' σ' H'' ρ' ρ2 d x _ R2 hr ep fun σ2 O2 R3 m3 _ _ => hb fr O2 σ2 H'' ρ2 _ R3 ?_
        have m4 : Mv O' H' O2 H'' := (Mv.new sm).trans m3
        have p2 := PostS.later m4 p'
        clear p'
        cases eb : G ρ2 with
        | st => rw [eb] at p2; exact p2
        | er k ρ3 => rw [eb] at p2; exact p2
        | ok b ρ3 =>
          rw [eb] at p2
          cases b with
          | rt d => exact p2
          | nx => exact fun σ5 O5 H5 R5 m5 => ⟨O5, ρ3, R5, (m'.trans m4).trans m5, PostS.later m5 p2⟩
    · rintro σ' H' ⟨O', ρ', R', m', p'⟩
      rw [List.drop_length] at p'
      exact p' σ' O' H' R' (Mv.refl _ _))
end

/-! ### while: so many turns at most -/
def dWhile (c : Den Bool) (G : Den Fl) : Nat → Den Fl
  | 0, _ => .st
  | n + 1, ρ => (c ρ).bind fun b ρ1 => if b = true then (match G ρ1 with
    | .ok .nx ρ2 => dWhile c G n ρ2
    | r => r) else .ok .nx ρ1
section
variable {cc : Cc} {W : WX} {tt : TT} {tb : TS} {c : Den Bool} {G : Den Fl}
theorem sns_while {n : Nat} (hc : SndT cc W tt c) (hb : SndS cc W tb G) : SndS cc W (tWhile tt tb) (dWhile c G n) := fun fr O σ H ρ D R p => by
  refine ⟨fun m σ' H' => ∃ O' ρ', Rel cc fr O' σ' H' ρ' ∧ PostS cc W fr O' H' (dWhile c G m ρ') D, ⟨n, O, ρ, R, p⟩, ?_⟩
  rintro m σ' H' ⟨O', ρ', R', p'⟩
  cases m with
  | zero => exact p'.elim
  | succ m =>
    refine hc fr O' σ' H' ρ' _ R' (PostS.of p' fun b ρ1 O1 H1 R1 m1 p1 => ?_)
    cases b with
    | false => exact p1 σ' O1 H1 R1 (Mv.refl _ _)
    | true =>
      refine ⟨fun σ2 H2 => ∃ O2 ρ2, Rel cc fr O2 σ2 H2 ρ2 ∧ PostS cc W fr O2 H2 (dWhile c G m ρ2) D, fun σ2 H2 q => ⟨m, Nat.lt_succ_self m, q⟩, hb fr O1 σ' H1 ρ1 _ R1 ?_⟩
      have p2 : PostS cc W fr O1 H1 (match G ρ1 with | .ok .nx ρ2 => dWhile c G m ρ2 | r => r) D := p1
      cases eb : G ρ1 with
      | st => rw [eb] at p2; exact p2
      | er k ρ3 => rw [eb] at p2; exact p2
      | ok b ρ3 =>
        rw [eb] at p2
        cases b with
        | rt d => exact p2
        | nx => exact fun σ5 O5 H5 R5 m5 => ⟨O5, ρ3, R5, PostS.later m5 p2⟩
end
end GG

namespace GG
open PySem PySem.Spec PyProof.Rows L2

/-! ### list comprehensions -/
def wipeE (ρ : Env') : List Nat → Env'
  | [] => ρ
  | v :: vs => (wipeE ρ vs).set v .emp
def restore (ρ1 ρ2 : Env') : List Nat → Env'
  | [] => ρ2
  | v :: vs => (restore ρ1 ρ2 vs).set v (ρ1.getD v .emp)
def plainS : Slot → Bool
  | .emp => true
  | .val _ => true
  | _ => false
/-- errors do not leave a comprehension's block -/
def noer {α : Type} : Res α → Res α
  | .er _ _ => .st
  | r => r
def compLoop (g : Tg) (c : Den Bool) (f : Den D) (vs : List Nat) : List D → List D → Den (List D)
  | [], acc, ρ => .ok acc ρ
  | d :: ds, acc, ρ => match g.put d ρ with
    | none => .st
    | some ρ1 => (noer (c ρ1)).bind fun b ρ2 => if b = true then (noer (f ρ2)).bind fun y ρ3 => (if acc.length < 100000 then compLoop g c f vs ds (acc ++ [y]) (wipeE ρ3 vs) else .st) else compLoop g c f vs ds acc (wipeE ρ2 vs)
def dLc (it : Den (List D)) (g : Tg) (c : Den Bool) (f : Den D) (vs : List Nat) : Den D := fun ρ => (it ρ).bind fun ds ρ1 => if (vs.all fun v => plainS (ρ1.getD v .emp)) = true then (compLoop g c f vs ds [] (wipeE ρ1 vs)).bind fun acc ρ2 => .ok (.list acc) (restore ρ1 ρ2 vs) else .st
def dYes : Den Bool := fun ρ => .ok true ρ
abbrev WF : WX := fun _ _ _ _ => False

section
variable {cc : Cc} {fr : Frm} {O O' : Nat → List Addr} {σ σ' : L2.St} {H H' : Hp} {ρ ρ' : Env'}
theorem wipeE_len : ∀ (vs : List Nat) (ρ : Env'), (wipeE ρ vs).length = ρ.length
  | [], _ => rfl
  | v :: vs, ρ => by simp [wipeE, wipeE_len vs]
theorem restore_len : ∀ (vs : List Nat) (ρ1 ρ2 : Env'), (restore ρ1 ρ2 vs).length = ρ2.length
  | [], _, _ => rfl
  | v :: vs, ρ1, ρ2 => by simp [restore, restore_len vs]
theorem wipeE_in : ∀ {vs : List Nat} {ρ : Env'} {i : Nat}, i ∈ vs → i < ρ.length → (wipeE ρ vs)[i]? = some .emp
  | v :: vs, ρ, i, h, hl => by
    unfold wipeE
    by_cases e : v = i
    · subst e
      rw [List.getElem?_set_self (by rw [wipeE_len]; exact hl)]
    · rw [List.getElem?_set_ne e]
      exact wipeE_in ((List.mem_cons.mp h).resolve_left (Ne.symm e)) hl
theorem wipeE_out : ∀ {vs : List Nat} {ρ : Env'} {i : Nat}, i ∉ vs → (wipeE ρ vs)[i]? = ρ[i]?
  | [], _, _, _ => rfl
  | v :: vs, ρ, i, h => by
    unfold wipeE
    rw [List.getElem?_set_ne (fun e => h (by rw [e]; exact List.mem_cons_self))]
    exact wipeE_out fun z => h (List.mem_cons_of_mem _ z)
theorem restore_in : ∀ {vs : List Nat} {ρ1 ρ2 : Env'} {i : Nat}, i ∈ vs → i < ρ2.length → (restore ρ1 ρ2 vs)[i]? = some (ρ1.getD i .emp)
  | v :: vs, ρ1, ρ2, i, h, hl => by
    unfold restore
    by_cases e : v = i
    · subst e
      rw [List.getElem?_set_self (by rw [restore_len]; exact hl)]
    · rw [List.getElem?_set_ne e]
      exact restore_in ((List.mem_cons.mp h).resolve_left (Ne.symm e)) hl
theorem restore_out : ∀ {vs : List Nat} {ρ1 ρ2 : Env'} {i : Nat}, i ∉ vs → (restore ρ1 ρ2 vs)[i]? = ρ2[i]?
  | [], _, _, _, _ => rfl
  | v :: vs, ρ1, ρ2, i, h => by
    unfold restore
    rw [List.getElem?_set_ne (fun e => h (by rw [e]; exact List.mem_cons_self))]
    exact restore_out fun z => h (List.mem_cons_of_mem _ z)
theorem wipe_in : ∀ {vs : List Nat} {σ : L2.St} {i : Nat}, i ∉ vs → (wipe σ vs)[i]? = σ[i]?
  | [], _, _, _ => rfl
  | v :: vs, σ, i, h => by
    unfold wipe
    rw [List.getElem?_set_ne (fun e => h (by rw [e]; exact List.mem_cons_self))]
    exact wipe_in fun z => h (List.mem_cons_of_mem _ z)
theorem wipe_none : ∀ {vs : List Nat} {σ : L2.St} {i : Nat}, i ∈ vs → i < σ.length → (wipe σ vs)[i]? = some none
  | v :: vs, σ, i, h, hl => by
    unfold wipe
    by_cases e : v = i
    · subst e
      rw [List.getElem?_set_self (by rw [wipe_length]; exact hl)]
    · rw [List.getElem?_set_ne e]
      exact wipe_none ((List.mem_cons.mp h).resolve_left (Ne.symm e)) hl
theorem wipe_eq {vs : List Nat} (hl : σ'.length = σ.length) (h : ∀ j, j ∉ vs → σ'[j]? = σ[j]?) : wipe σ' vs = wipe σ vs := by
  refine List.ext_getElem? fun i => ?_
  by_cases hi : i ∈ vs
  · by_cases hlt : i < σ.length
    · rw [wipe_none hi hlt, wipe_none hi (by rw [hl]; exact hlt)]
    · rw [List.getElem?_eq_none (by rw [wipe_length, hl]; omega), List.getElem?_eq_none (by rw [wipe_length]; omega)]
  · rw [wipe_in hi, wipe_in hi]
    exact h i hi
def offs (O : Nat → List Addr) (vs : List Nat) : Nat → List Addr := fun j => if j ∈ vs then [] else O j
theorem mem_offs {vs : List Nat} {j : Nat} {x : Addr} (h : x ∈ offs O vs j) : x ∈ O j ∧ j ∉ vs := by
  unfold offs at h
  by_cases e : j ∈ vs
  · rw [if_pos e] at h; cases h
  · rw [if_neg e] at h; exact ⟨h, e⟩
theorem mv_offs {vs : List Nat} : Mv O H (offs O vs) H := ⟨fun _ _ _ e => e, fun j _ h => .inl ⟨j, (mem_offs h).1⟩, fun _ h => h⟩
theorem Rel.wipe (R : Rel cc fr O σ H ρ) (vs : List Nat) : Rel cc fr (offs O vs) (wipe σ vs) H (wipeE ρ vs) where
  len := by rw [wipeE_len, wipe_length]; exact R.len
  zin := R.zin
  frame := R.frame
  dom := R.dom
  own := fun j x hx => R.own j x (mem_offs hx).1
  dis := fun j k x hj hk => R.dis j k x (mem_offs hj).1 (mem_offs hk).1
  new := fun j ds hs x hx => by
    obtain ⟨h1, h2⟩ := mem_offs hx
    rw [wipeE_out h2] at hs
    exact R.new j ds hs x h1
  slot := fun j s hs => by
    by_cases hj : j ∈ vs
    · have hl : j < ρ.length := by
        have := (List.getElem?_eq_some_iff.mp hs).1
        rwa [wipeE_len] at this
      rw [wipeE_in hj hl] at hs
      cases hs
      show offs O vs j = []
      unfold offs
      rw [if_pos hj]
    · rw [wipeE_out hj] at hs
      rw [wipe_in hj, show offs O vs j = O j from if_neg hj]
      exact (R.slot j s hs).mono (fun a o na q => (mv_offs (H := H)).keep (fr := fr) a o na q) fun _ _ => rfl

/-- the frame of a comprehension's block: the new list at p is nobody's -/
def frB (fr : Frm) (O : Nat → List Addr) (H : Hp) (p : Addr) : Frm := ⟨fun x => fr.Z x ∨ x = p, upd H p (.lst []), fun x => x = p ∨ ∃ i, x ∈ O i, fr.da, fr.db, fr.sx, fr.sd⟩
theorem SlotOk.frB {A : Addr → Prop} {ow : List Addr} {x : Option (Option V)} {O : Nat → List Addr} {H0 : Hp} {p : Addr} : ∀ {s : Slot}, SlotOk cc fr H A ow x s ↔ SlotOk cc (frB fr O H0 p) H A ow x s := by
  intro s
  cases s <;> exact Iff.rfl
theorem Rel.toB (R : Rel cc fr O σ H ρ) {p : Addr} (hp : H p = none) : Rel cc (frB fr O H p) O σ (upd H p (.lst [])) ρ where
  len := R.len
  zin := fun x hx => by
    rcases hx with hx | hx
    · exact (Mv.new (O := O) (same_upd hp)).dom x (R.dom x (R.zin x hx))
    · rw [hx]
      show upd H p (.lst []) p ≠ none
      rw [upd_same]
      simp
  frame := fun _ _ _ e => e
  dom := fun _ h => h
  own := fun i x h => ⟨.inr (.inr ⟨i, h⟩), (Mv.new (O := O) (same_upd hp)).dom x (R.own i x h).2⟩
  dis := R.dis
  new := fun i ds hs x hx z => by
    rcases z with z | z
    · exact R.new i ds hs x hx z
    · rw [z] at hx; exact (R.own i p hx).2 hp
  slot := fun i s hs => by
    refine SlotOk.frB.mp ((R.slot i s hs).mono (fun a o na q => ⟨same_upd hp a o q, fun z => ?_⟩) fun a ha => ?_)
    · rcases z with (z | z) | z
      · exact na (.inl z)
      · rw [z, hp] at q; cases q
      · exact na (.inr z)
    · rw [upd_ne (fun z => (R.own i a ha).2 (by rw [z]; exact hp))]
/-- the new list is written -/
theorem Rel.inB {O0 : Nat → List Addr} {H0 : Hp} {p : Addr} (R : Rel cc (frB fr O0 H0 p) O σ H ρ) (np : ∀ i, p ∉ O i) (o : HO) : Rel cc (frB fr O0 H0 p) O σ (upd H p o) ρ where
  len := R.len
  zin := R.zin
  frame := fun x u hx e => by
    rw [upd_ne (fun z => hx (.inl z))]
    exact R.frame x u hx e
  dom := fun x hx => by
    by_cases e : x = p
    · rw [e, upd_same]; simp
    · rw [upd_ne e]; exact R.dom x hx
  own := fun i x h => ⟨(R.own i x h).1, by
    rw [upd_ne (fun z => np i (by rw [← z]; exact h))]
    exact (R.own i x h).2⟩
  dis := R.dis
  new := R.new
  slot := fun i s hs => (R.slot i s hs).mono (fun a u na q => ⟨by
    rw [upd_ne (fun z => na (.inl (.inr z)))]
    exact q, na⟩) fun a ha => by rw [upd_ne (fun z => np i (by rw [← z]; exact ha))]
/-- back in the def's frame -/
theorem Rel.ofB {O0 : Nat → List Addr} {H0 : Hp} {σ0 : L2.St} {ρ0 : Env'} {p : Addr} (R0 : Rel cc fr O0 σ0 H0 ρ0) (R : Rel cc (frB fr O0 H0 p) O σ H ρ) (hp : H0 p = none) : Rel cc fr O σ H ρ where
  len := R.len
  zin := R0.zin
  frame := fun x o hx e => by
    have h1 := R0.frame x o hx e
    refine R.frame x o (fun z => ?_) (same_upd hp x o h1)
    rcases z with z | ⟨i, z⟩
    · rw [z, hp] at h1; cases h1
    · rcases (R0.own i x z).1 with q | q
      · rw [e] at q; cases q
      · exact hx q
  dom := fun x hx => R.dom x ((Mv.new (O := O) (same_upd hp)).dom x (R0.dom x hx))
  own := fun i x hx => ⟨by
    rcases (R.own i x hx).1 with q | q | ⟨j, q⟩
    · refine .inl ?_
      cases e : fr.H x with
      | none => rfl
      | some o => exact absurd q ((Mv.new (O := O) (same_upd hp)).dom x (R0.dom x (by rw [e]; simp)))
    · refine .inl ?_
      cases e : fr.H x with
      | none => rfl
      | some o => exact absurd hp (by rw [← q]; exact R0.dom x (by rw [e]; simp))
    · exact (R0.own j x q).1, (R.own i x hx).2⟩
  dis := R.dis
  new := fun i ds hs x hx z => R.new i ds hs x hx (.inl z)
  slot := fun i s hs => SlotOk.frB.mpr ((R.slot i s hs).mono (fun a o na q => ⟨q, fun z => na (z.elim (fun z => .inl (.inl z)) .inr)⟩) fun _ _ => rfl)
end

section
variable {cc : Cc} {W : WX} {wi : TI} {g : TG} {tt : TT} {te : TE} {it : Den (List D)} {tg : Tg} {c : Den Bool} {f : Den D}
theorem snt_yes : SndT cc W tYes dYes := fun fr O σ H ρ Q R p => Post.here p R
def tgIn (tg : Tg) (vs : List Nat) : Bool := match tg with
  | .n i => vs.contains i
  | .t is => is.all fun i => vs.contains i
theorem snd_lc {vs : List Nat} (hi : SndI cc W wi it) (hg : SndG cc g tg) (hc : SndT cc WF tt c) (he : SndE cc WF te f) (hv : tgIn tg vs = true) : SndE cc W (tLc wi g tt te vs) (dLc it tg c f vs) := fun fr O σ H ρ Q R p =>
  hi fr O σ H ρ _ R (Post.bind p fun ds ρ1 O1 H1 R1 m1 p1 J hJ => by
    intro Dl hD
    obtain ⟨Gd, Y, w, hG, hY⟩ := hJ
    by_cases hpl : (vs.all fun v => plainS (ρ1.getD v .emp)) = true
    rotate_left
    · rw [if_neg hpl] at p1; exact p1.elim
    rw [if_pos hpl] at p1
    -- what is left of the loop
    let PR : Res (List D) → Prop := fun r => match r with
      | .ok accF ρF => ∀ O' H' us, Rel cc (frB fr O1 H1 Dl) O' (wipe σ vs) H' ρF → Mv O1 H1 O' H' → (∀ i, Dl ∉ O' i) → H' Dl = some (.lst us) → Reps H' (Av (frB fr O1 H1 Dl) O') accF us → (∀ i, i ∈ vs → i < ρF.length → ρF[i]? = some .emp) → Q (.ref Dl) H'
      | .er _ _ => False
      | .st => False
    have start : PR (compLoop tg c f vs ds [] (wipeE ρ1 vs)) := by
      cases e : compLoop tg c f vs ds [] (wipeE ρ1 vs) with
      | st => rw [e] at p1; exact p1
      | er k ρ' =>
        exfalso
        have : ∀ (ds acc : List D) (ρ : Env') (k : EK) (ρ' : Env'), compLoop tg c f vs ds acc ρ ≠ .er k ρ' := by
          intro ds
          induction ds with
          | nil => intro acc ρ k ρ' h; cases h
          | cons d ds ih =>
            intro acc ρ k ρ' h
            unfold compLoop at h
            split at h
            · cases h
            · rename_i ρ1 _
              cases ec : c ρ1 with
              | st => rw [ec] at h; cases h
              | er k2 ρ2 => rw [ec] at h; cases h
              | ok b ρ2 =>
                rw [ec] at h
                simp only [noer, Res.bind] at h
                split at h
                · cases ef : f ρ2 with
                  | st => rw [ef] at h; cases h
                  | er k2 ρ3 => rw [ef] at h; cases h
                  | ok y ρ3 =>
                    rw [ef] at h
                    simp only [noer] at h
                    split at h
                    · exact ih _ _ _ _ h
                    · cases h
                · exact ih _ _ _ _ h
        exact this _ _ _ _ _ e
      | ok accF ρF =>
        rw [e] at p1
        intro O' H' us R' m' nD hDl hus hemp
        have p2 : Post cc W fr O1 σ H1 (.ok (PyData.list accF) (restore ρ1 ρF vs)) (PE' fr Q) := p1
        have RB := Rel.ofB R1 R' hD
        have lenF : ρF.length = ρ1.length := by rw [RB.len, wipe_length, R1.len]
        refine p2 O' H' ⟨by rw [restore_len, lenF, R1.len], RB.zin, RB.frame, RB.dom, RB.own, RB.dis, fun i es hs x hx => ?_, fun i s hs => ?_⟩ m' (.ref Dl) ?_
        · by_cases hi : i ∈ vs
          · have hl : i < ρF.length := by
              have := (List.getElem?_eq_some_iff.mp hs).1
              rwa [restore_len] at this
            rw [restore_in hi hl] at hs
            have := List.all_eq_true.mp hpl i hi
            rw [Option.some.inj hs] at this
            cases this
          · rw [restore_out hi] at hs
            exact RB.new i es hs x hx
        · by_cases hi : i ∈ vs
          · have hl : i < ρF.length := by
              have := (List.getElem?_eq_some_iff.mp hs).1
              rwa [restore_len] at this
            rw [restore_in hi hl] at hs
            have hs := Option.some.inj hs
            have hpl' := List.all_eq_true.mp hpl i hi
            have hl1 : i < ρ1.length := by omega
            have e1 : ρ1[i]? = some s := by
              rw [List.getElem?_eq_getElem hl1, ← hs, List.getD_eq_getElem?_getD, List.getElem?_eq_getElem hl1]; rfl
            have o0 : O' i = [] := RB.slot i .emp (hemp i hi hl)
            rw [o0]
            have s0 := R1.slot i s e1
            cases s with
            | emp => rfl
            | val d =>
              obtain ⟨_, v, h2, h3⟩ := s0
              exact ⟨rfl, v, h2, m'.rep h3⟩
            | own _ => rw [hs] at hpl'; cases hpl'
            | drw _ _ => rw [hs] at hpl'; cases hpl'
            | exc _ => rw [hs] at hpl'; cases hpl'
            | stm _ _ _ _ _ => rw [hs] at hpl'; cases hpl'
            | dct _ => rw [hs] at hpl'; cases hpl'
          · rw [restore_out hi] at hs
            have := RB.slot i s hs
            rw [wipe_in hi] at this
            exact this
        · simp only [Rep]
          refine ⟨Dl, us, rfl, fun z => ?_, hDl, Reps.mono (fun a o na q => ⟨q, fun z => na (z.elim (fun z => .inl (.inl z)) .inr)⟩) accF us hus⟩
          rcases z with z | ⟨i, z⟩
          · exact R1.dom Dl (R1.zin Dl z) hD
          · exact nD i z
    refine lc_it w (fun i H' => ∃ O' ρ' acc us, Rel cc (frB fr O1 H1 Dl) O' (wipe σ vs) H' ρ' ∧ Mv O1 H1 O' H' ∧ (∀ i, Dl ∉ O' i) ∧ H' Dl = some (.lst us) ∧ Reps H' (Av (frB fr O1 H1 Dl) O') acc us ∧ (∀ i, i ∈ vs → i < ρ'.length → ρ'[i]? = some .emp) ∧ PR (compLoop tg c f vs (ds.drop i) acc ρ')) ?_ ?_ ?_ ?_
    · refine ⟨offs O1 vs, wipeE ρ1 vs, [], [], (R1.toB hD).wipe vs, (Mv.new (same_upd hD)).trans mv_offs, fun i h => (R1.own i Dl (mem_offs h).1).2 hD, upd_same, Reps.nil, fun i hi hl => wipeE_in hi (by rwa [wipeE_len] at hl), start⟩
    · rintro i H' _ ⟨O', ρ', acc, us, R', m', _⟩
      exact hG O' H' m'
    · rintro i x H' H'' hi ⟨O', ρ', acc, us, R', m', nD, hDl, hus, hemp, hp⟩ y
      obtain ⟨sm, d, hd, hr⟩ := hY i O' H' H'' x (frB fr O1 H1 Dl) hi m' (fun a z => z.elim .inl fun z => .inr (by rw [z]; exact hD)) (fun p hp => R'.fresh hp) y
      have R2 := R'.more sm
      have e : ds.drop i = d :: ds.drop (i + 1) := by
        obtain ⟨h1, h2⟩ := List.getElem?_eq_some_iff.mp hd
        rw [List.drop_eq_getElem_cons h1, h2]
      rw [e] at hp
      unfold compLoop at hp
      cases ep : tg.put d ρ' with
      | none => rw [ep] at hp; exact hp.elim
      | some ρ2 =>
        rw [ep] at hp
        dsimp only at hp
        refine hg (frB fr O1 H1 Dl) O' (wipe σ vs) H'' ρ' ρ2 d x _ R2 hr ep fun σ2 O2 R3 m3 k3 l3 => ?_
        have hw : wipe σ2 vs = wipe σ vs := by
          have e1 : wipe σ2 vs = wipe (wipe σ vs) vs := wipe_eq l3 fun j hj => k3 j fun i hi => by
            rintro rfl
            rcases hi with rfl | ⟨is, rfl, hi⟩
            · exact hj (by simpa [tgIn] using hv)
            · exact hj (by simpa using List.all_eq_true.mp hv _ hi)
          rw [e1]
          exact wipe_eq (wipe_length _ _) fun j hj => wipe_in hj
        refine ⟨hw, ?_⟩
        have m4 : Mv O' H' O2 H'' := (Mv.new sm).trans m3
        have nD2 : ∀ i, Dl ∉ O2 i := fun i hi => by
          rcases m4.own i Dl hi with ⟨j, hj⟩ | z
          · exact nD j hj
          · rw [hDl] at z; cases z
        have hDl2 := m4.step Dl _ (fun i => nD i) hDl
        have hus2 : Reps H'' (Av (frB fr O1 H1 Dl) O2) acc us := m4.reps hus
        cases ec : c ρ2 with
        | st => rw [ec] at hp; exact hp.elim
        | er k ρ3 => rw [ec] at hp; exact hp.elim
        | ok b ρ3 =>
          rw [ec] at hp
          simp only [noer, Res.bind] at hp
          refine hc (frB fr O1 H1 Dl) O2 σ2 H'' ρ2 _ R3 ?_
          rw [ec]
          intro O5 H5 R5 m5
          have nD5 : ∀ i, Dl ∉ O5 i := fun i hi => by
            rcases m5.own i Dl hi with ⟨j, hj⟩ | z
            · exact nD2 j hj
            · rw [hDl2] at z; cases z
          cases b with
          | false =>
            refine ⟨offs O5 vs, wipeE ρ3 vs, acc, us, ?_, ((m'.trans m4).trans m5).trans mv_offs, fun i h => nD5 i (mem_offs h).1, m5.step Dl _ nD2 hDl2, (m5.trans mv_offs).reps hus2, fun i hi hl => wipeE_in hi (by rwa [wipeE_len] at hl), hp⟩
            rw [← hw]
            exact R5.wipe vs
          | true =>
            have hp : PR (Res.bind (noer (f ρ3)) fun y ρ3 => (if acc.length < 100000 then compLoop tg c f vs (ds.drop (i + 1)) (acc ++ [y]) (wipeE ρ3 vs) else .st)) := hp
            show te σ2 H5 _
            cases ef : f ρ3 with
            | st => rw [ef] at hp; exact hp.elim
            | er k ρ4 => rw [ef] at hp; exact hp.elim
            | ok yv ρ4 =>
              rw [ef] at hp
              simp only [noer, Res.bind] at hp
              by_cases hl : acc.length < 100000
              rotate_left
              · rw [if_neg hl] at hp; exact hp.elim
              rw [if_pos hl] at hp
              refine he (frB fr O1 H1 Dl) O5 σ2 H5 ρ3 _ R5 ?_
              rw [ef]
              intro O6 H6 R6 m6 y hy
              have nD6 : ∀ i, Dl ∉ O6 i := fun i hi => by
                rcases m6.own i Dl hi with ⟨j, hj⟩ | z
                · exact nD5 j hj
                · rw [m5.step Dl _ nD2 hDl2] at z; cases z
              have hDl6 := m6.step Dl _ nD5 (m5.step Dl _ nD2 hDl2)
              have hus6 : Reps H6 (Av (frB fr O1 H1 Dl) O6) acc us := (m5.trans m6).reps hus2
              refine ⟨us, hDl6, Nat.lt_of_lt_of_le (by rw [hus6.len]; exact hl) (sz5 (Nat.le_refl _)), ?_⟩
              have mB : Mv O1 H1 O6 (upd H6 Dl (.lst (us ++ [y]))) := by
                have mm := ((m'.trans m4).trans m5).trans m6
                refine ⟨fun x o hx ex => ?_, mm.own, fun x hx => ?_⟩
                · rw [upd_ne (fun z => by rw [z, hD] at ex; cases ex)]
                  exact mm.step x o hx ex
                · by_cases e : x = Dl
                  · rw [e, upd_same]; simp
                  · rw [upd_ne e]; exact mm.dom x hx
              have kk : ∀ a o, ¬ Av (frB fr O1 H1 Dl) O6 a → H6 a = some o → upd H6 Dl (.lst (us ++ [y])) a = some o ∧ ¬ Av (frB fr O1 H1 Dl) (offs O6 vs) a := fun a o na q => ⟨by
                rw [upd_ne (fun z => na (.inl (.inr z)))]
                exact q, fun z => na (z.elim .inl fun ⟨i, z⟩ => .inr ⟨i, (mem_offs z).1⟩)⟩
              refine ⟨offs O6 vs, wipeE ρ4 vs, acc ++ [yv], us ++ [y], ?_, mB.trans mv_offs, fun i h => nD6 i (mem_offs h).1, upd_same, (Reps.mono kk acc us hus6).append (Reps.cons (Rep.mono kk yv y hy) Reps.nil), fun i hi hl => wipeE_in hi (by rwa [wipeE_len] at hl), hp⟩
              rw [← hw]
              exact (R6.inB nD6 _).wipe vs
    · rintro H' ⟨O', ρ', acc, us, R', m', nD, hDl, hus, hemp, hp⟩
      rw [List.drop_length] at hp
      exact hp O' H' us R' m' nD hDl hus hemp)
end
end GG

namespace GG
open PySem PySem.Spec PyProof.Rows L2

/-! ### lists of one's own -/
section
variable {cc : Cc} {fr : Frm} {O O' : Nat → List Addr} {σ σ' : L2.St} {H H' : Hp} {ρ ρ' : Env'}
def on (O : Nat → List Addr) (i : Nat) (p : Addr) : Nat → List Addr := fun j => if j = i then [p] else O j
theorem on_self {i : Nat} {p : Addr} : on O i p i = [p] := by simp [on]
theorem on_ne {i j : Nat} {p : Addr} (h : j ≠ i) : on O i p j = O j := by simp [on, h]
theorem mem_on {i j : Nat} {p x : Addr} (h : x ∈ on O i p j) : (j = i ∧ x = p) ∨ (j ≠ i ∧ x ∈ O j) := by
  by_cases e : j = i
  · subst e; rw [on_self] at h; exact .inl ⟨rfl, by simpa using h⟩
  · rw [on_ne e] at h; exact .inr ⟨e, h⟩
/-- a new list goes to slot i -/
theorem Rel.setOwn (R : Rel cc fr O σ H ρ) {i : Nat} {p : Addr} {vs : List V} {ds : List D} (hp : H p = none) (hs : Reps H (Av fr O) ds vs) : Rel cc fr (on O i p) (σ.set i (some (.ref p))) (upd H p (.lst vs)) (ρ.set i (.own ds)) := by
  have kp : ∀ a o, ¬ Av fr O a → H a = some o → upd H p (.lst vs) a = some o ∧ ¬ Av fr (on O i p) a := fun a o na q => ⟨same_upd hp a o q, fun z => by
    rcases z with z | ⟨j, z⟩
    · exact na (.inl z)
    · rcases mem_on z with ⟨_, z⟩ | ⟨_, z⟩
      · rw [z, hp] at q; cases q
      · exact na (.inr ⟨j, z⟩)⟩
  refine ⟨by simpa using R.len, R.zin, fun x o hx e => same_upd hp x o (R.frame x o hx e), fun x hx => (Mv.new (O := O) (same_upd hp)).dom x (R.dom x hx), fun j x hx => ?_, fun j k x hj hk => ?_, fun j es hj x hx => ?_, fun j s hj => ?_⟩
  · rcases mem_on hx with ⟨_, rfl⟩ | ⟨_, h⟩
    · refine ⟨.inl ?_, by rw [upd_same]; simp⟩
      cases e : fr.H x with
      | none => rfl
      | some o => exact absurd hp (R.dom x (by rw [e]; simp))
    · exact ⟨(R.own j x h).1, (Mv.new (O := O) (same_upd hp)).dom x (R.own j x h).2⟩
  · rcases mem_on hj with ⟨rfl, rfl⟩ | ⟨_, h⟩
    · rcases mem_on hk with ⟨rfl, _⟩ | ⟨_, h'⟩
      · rfl
      · exact absurd hp (R.own k x h').2
    · rcases mem_on hk with ⟨rfl, rfl⟩ | ⟨_, h'⟩
      · exact absurd hp (R.own j x h).2
      · exact R.dis j k x h h'
  · rcases mem_on hx with ⟨rfl, rfl⟩ | ⟨ne, h⟩
    · exact fun z => R.dom x (R.zin x z) hp
    · rw [List.getElem?_set_ne (Ne.symm ne)] at hj
      exact R.new j es hj x h
  · by_cases e : i = j
    · subst e
      by_cases hl : i < ρ.length
      · rw [List.getElem?_set_self hl] at hj
        cases hj
        exact ⟨p, vs, on_self, List.getElem?_set_self (by rw [← R.len]; exact hl), upd_same, Reps.mono kp ds vs hs⟩
      · rw [List.getElem?_eq_none (by simpa using hl)] at hj; cases hj
    · rw [List.getElem?_set_ne e] at hj
      rw [List.getElem?_set_ne e, on_ne (Ne.symm e)]
      exact (R.slot j s hj).mono kp fun a ha => upd_ne fun z => (R.own j a ha).2 (by rw [z]; exact hp)
theorem mv_own {i : Nat} {p : Addr} {o : HO} (hp : H p = none) : Mv O H (on O i p) (upd H p o) := ⟨fun x u _ e => same_upd hp x u e, fun j x hx => by
  rcases mem_on hx with ⟨_, rfl⟩ | ⟨_, h⟩
  · exact .inr hp
  · exact .inl ⟨j, h⟩, (Mv.new (O := O) (same_upd hp)).dom⟩
/-- a list of one's own is written -/
theorem Rel.upOwn (R : Rel cc fr O σ H ρ) {i : Nat} {ds es : List D} {us : List V} (hi : ρ[i]? = some (.own ds)) (hs : Reps H (Av fr O) es us) {p : Addr} (hp : σ[i]? = some (some (.ref p))) : Rel cc fr O σ (upd H p (.lst us)) (ρ.set i (.own es)) ∧ Mv O H O (upd H p (.lst us)) := by
  obtain ⟨q, vs, h1, h2, h3, h4⟩ := R.slot i _ hi
  rw [h2] at hp
  cases hp
  have hm : p ∈ O i := by rw [h1]; simp
  have kp : ∀ a o, ¬ Av fr O a → H a = some o → upd H p (.lst us) a = some o ∧ ¬ Av fr O a := fun a o na q => ⟨by
    rw [upd_ne (fun z => na (.inr ⟨i, by rw [z]; exact hm⟩))]
    exact q, na⟩
  have dm : ∀ x, H x ≠ none → upd H p (.lst us) x ≠ none := fun x hx => by
    by_cases e : x = p
    · rw [e, upd_same]; simp
    · rw [upd_ne e]; exact hx
  have hl : i < ρ.length := (List.getElem?_eq_some_iff.mp hi).1
  refine ⟨⟨by simpa using R.len, R.zin, fun x o hx e => ?_, fun x hx => dm x (R.dom x hx), fun j x hx => ⟨(R.own j x hx).1, dm x (R.own j x hx).2⟩, R.dis, fun j fs hj x hx => ?_, fun j s hj => ?_⟩, ⟨fun x o hx e => ?_, fun j x hx => .inl ⟨j, hx⟩, dm⟩⟩
  · rw [upd_ne ?_]
    · exact R.frame x o hx e
    · rintro rfl
      rcases (R.own i x hm).1 with z | z
      · rw [e] at z; cases z
      · exact hx z
  · by_cases e : i = j
    · subst e
      exact R.new i ds hi x hx
    · rw [List.getElem?_set_ne e] at hj
      exact R.new j fs hj x hx
  · by_cases e : i = j
    · subst e
      rw [List.getElem?_set_self hl] at hj
      cases hj
      exact ⟨p, us, h1, h2, upd_same, Reps.mono kp es us hs⟩
    · rw [List.getElem?_set_ne e] at hj
      exact (R.slot j s hj).mono kp fun a ha => upd_ne fun z => e (R.dis i j p hm (by rw [← z]; exact ha))
  · rw [upd_ne (fun z => hx i (by rw [z]; exact hm))]
    exact e
end

/-- x = [e, ..], written later -/
def dOwn (i : Nat) (fs : Den (List D)) : Den Fl := fun ρ => (fs ρ).bind fun ds ρ1 => if ds.length ≤ 100000 then .ok .nx (ρ1.set i (.own ds)) else .st
/-- x = list(e), written later -/
def dOwnL (i : Nat) (f : Den D) : Den Fl := fun ρ => (f ρ).bind fun d ρ1 => match d with
  | .list ds => .ok .nx (ρ1.set i (.own ds))
  | _ => .st
/-- x.append(e) -/
def dApp (i : Nat) (f : Den D) : Den Fl := fun ρ => match ρ[i]? with
  | some (.own _) => (f ρ).bind fun d ρ1 => match ρ1[i]? with
    | some (.own ds) => if ds.length < 100000 then .ok .nx (ρ1.set i (.own (ds ++ [d]))) else .st
    | _ => .st
  | _ => .st
/-- x += e, lists -/
def dExt (i : Nat) (f : Den D) : Den Fl := fun ρ => match ρ[i]? with
  | some (.own _) => (f ρ).bind fun d ρ1 => match ρ1[i]?, d with
    | some (.own ds), .list es => if ds.length + es.length ≤ 100000 then .ok .nx (ρ1.set i (.own (ds ++ es))) else .st
    | _, _ => .st
  | _ => .st
/-- the list that stands in a slot -/
def lstS : Option Slot → Option (List D)
  | some (.own ds) => some ds
  | some (.val (.list ds)) => some ds
  | _ => none
theorem Rel.listAt {cc : Cc} {fr : Frm} {O : Nat → List Addr} {σ : L2.St} {H : Hp} {ρ : Env'} (R : Rel cc fr O σ H ρ) {i : Nat} {ds : List D} (h : lstS ρ[i]? = some ds) : ∃ q us, σ[i]? = some (some (.ref q)) ∧ H q = some (.lst us) ∧ Reps H (Av fr O) ds us := by
  unfold lstS at h
  split at h
  · rename_i e
    cases h
    obtain ⟨q, us, h1, h2, h3, h4⟩ := R.slot i _ e
    exact ⟨q, us, h2, h3, h4⟩
  · rename_i e
    cases h
    obtain ⟨_, v, h2, h3⟩ := R.slot i _ e
    simp only [Rep] at h3
    obtain ⟨a, vs, rfl, na, ha, hs⟩ := h3
    exact ⟨a, vs, h2, ha, hs⟩
  · cases h
/-- x[e], x a list of one's own (it is not frozen) -/
def dIxV (i : Nat) (f : Den D) : Den D := fun ρ => match lstS ρ[i]? with
  | some _ => (f ρ).bind fun d ρ1 => match lstS ρ1[i]?, d with
    | some ds, .int k => (match atI ds k with
      | some x => .ok x ρ1
      | none => .st)
    | _, _ => .st
  | none => .st
/-- x op e, x a list of one's own, a truth value out -/
def dOpV (g : D → D → Option Bool) (i : Nat) (f : Den D) : Den D := fun ρ => match lstS ρ[i]? with
  | some _ => (f ρ).bind fun d ρ1 => match lstS ρ1[i]? with
    | some ds => (match g (.list ds) d with
      | some b => .ok (.bool b) ρ1
      | none => .st)
    | none => .st
  | none => .st
/-- x.remove(e), ints -/
def intsS : List D → Option (List Int)
  | [] => some []
  | .int i :: r => (intsS r).map (i :: ·)
  | _ :: _ => none
theorem intsS_eq : ∀ {ds : List D} {ns : List Int}, intsS ds = some ns → ds = ns.map PyData.int
  | [], ns, h => by cases h; rfl
  | .int i :: r, ns, h => by
    simp only [intsS, Option.map_eq_some_iff] at h
    obtain ⟨a, h1, rfl⟩ := h
    rw [intsS_eq h1]
    rfl
  | .none :: _, _, h => by cases h
  | .bool _ :: _, _, h => by cases h
  | .str _ :: _, _, h => by cases h
  | .list _ :: _, _, h => by cases h
  | .tuple _ :: _, _, h => by cases h
  | .dict _ :: _, _, h => by cases h
theorem intsS_map : ∀ ns : List Int, intsS (ns.map PyData.int) = some ns
  | [] => rfl
  | n :: ns => by simp [intsS, intsS_map ns]
def dRem (i : Nat) (f : Den D) : Den Fl := fun ρ => match ρ[i]? with
  | some (.own _) => (f ρ).bind fun d ρ1 => match ρ1[i]?, d with
    | some (.own ds), .int k => (match intsS ds with
      | some ns => if k ∈ ns then .ok .nx (ρ1.set i (.own ((ns.erase k).map PyData.int))) else .st
      | none => .st)
    | _, _ => .st
  | _ => .st
theorem first_at' : ∀ {ns : List Int} {k : Int}, k ∈ ns → ∃ j, ns[j]? = some k ∧ (∀ i : Nat, i < j → ns[i]? ≠ some k) ∧ ns.eraseIdx j = ns.erase k
  | n :: ns, k, h => by
    by_cases e : n = k
    · subst e
      exact ⟨0, rfl, fun _ z => absurd z (Nat.not_lt_zero _), by simp⟩
    · obtain ⟨j, h1, h2, h3⟩ := first_at' ((List.mem_cons.mp h).resolve_left (Ne.symm e))
      refine ⟨j + 1, by simpa using h1, fun i hi => ?_, ?_⟩
      · cases i with
        | zero => simpa using e
        | succ i => simpa using h2 i (by omega)
      · rw [List.eraseIdx_cons_succ, h3, List.erase_cons_tail (by simpa using e)]
section
variable {cc : Cc} {W : WX} {te : TE} {f : Den D} {tl : TA} {fs : Den (List D)} {K : PySem.W.Frag}
theorem sns_own {i : Nat} (hl : SndL cc W tl fs) : SndS cc W (tAsg (tLst tl) (gName i)) (dOwn i fs) := fun fr O σ H ρ D R p =>
  hl fr O σ H ρ _ R (PostS.of p fun ds ρ1 O1 H1 R1 m1 p1 vs hvs => by
    by_cases hz : ds.length ≤ 100000
    · rw [if_pos hz] at p1
      exact ⟨sz5 (by rw [hvs.len]; exact hz), fun q hq => p1 _ _ _ (R1.setOwn hq hvs) (mv_own hq)⟩
    · rw [if_neg hz] at p1; exact p1.elim)
abbrev rListOf (K : PySem.W.Frag) : List V → Hp → VK → Prop := fun xs H Q => ∃ p ys, xs = [.ref p] ∧ (SqL K H p ys ∨ SqT K H p ys) ∧ ∀ l, H l = none → Q (.ref l) (upd H l (.lst ys))
theorem sns_ownL {i : Nat} (he : SndE cc W te f) : SndS cc W (tAsg (tCB (rListOf K) (tCons te tNil)) (gName i)) (dOwnL i f) := fun fr O σ H ρ D R p =>
  he fr O σ H ρ _ R (PostS.of p fun d ρ1 O1 H1 R1 m1 p1 v hv => by
    split at p1
    · simp only [Rep] at hv
      obtain ⟨a, vs, rfl, na, ha, hs⟩ := hv
      exact ⟨a, vs, rfl, .inl (SqL.of ha), fun q hq => p1 _ _ _ (R1.setOwn hq hs) (mv_own hq)⟩
    · exact p1.elim)
theorem sns_app {i : Nat} (he : SndE cc W te f) : SndS cc W (tDrop (tBM K "list" rAppend (tVar i) (tCons te tNil))) (dApp i f) := fun fr O σ H ρ D R p => by
  unfold dApp at p
  split at p
  · rename_i ds0 e0
    obtain ⟨q, vs, h1, h2, h3, h4⟩ := R.slot i _ e0
    refine ⟨.ref q, h2, .inl ⟨rfl, vs, SqL.of h3⟩, he fr O σ H ρ _ R (PostS.of p fun d ρ1 O1 H1 R1 m1 p1 v hv => ?_)⟩
    split at p1
    · rename_i ds e1
      split at p1
      · rename_i hz
        obtain ⟨q', us, k1, k2, k3, k4⟩ := R1.slot i _ e1
        have eq : q' = q := by
          rw [h2] at k2
          cases k2
          rfl
        subst eq
        obtain ⟨r1, r2⟩ := R1.upOwn e1 (k4.append (Reps.cons hv Reps.nil)) k2
        exact ⟨q', us, v, rfl, rfl, k3, Nat.lt_of_lt_of_le (by rw [k4.len]; exact hz) (sz5 (Nat.le_refl _)), p1 σ O1 _ r1 r2⟩
      · exact p1.elim
    · exact p1.elim
  · exact p.elim
theorem sns_ext {i : Nat} (he : SndE cc W te f) : SndS cc W (tAug i te rExt2) (dExt i f) := fun fr O σ H ρ D R p => by
  unfold dExt at p
  split at p
  · rename_i ds0 e0
    obtain ⟨q, vs, h1, h2, h3, h4⟩ := R.slot i _ e0
    refine ⟨.ref q, h2, he fr O σ H ρ _ R (PostS.of p fun d ρ1 O1 H1 R1 m1 p1 v hv => ?_)⟩
    split at p1
    · rename_i ds es e1
      split at p1
      · rename_i hz
        obtain ⟨q', us, k1, k2, k3, k4⟩ := R1.slot i _ e1
        have eq : q' = q := by
          rw [h2] at k2
          cases k2
          rfl
        subst eq
        simp only [Rep] at hv
        obtain ⟨b, zs, rfl, nb, hb, hs⟩ := hv
        obtain ⟨r1, r2⟩ := R1.upOwn e1 (k4.append hs) k2
        refine ⟨q', b, us, zs, rfl, rfl, k3, hb, sz5 (by rw [k4.len, hs.len]; exact hz), ?_⟩
        have e2 : σ.set i (some (.ref q')) = σ := by
          refine List.ext_getElem? fun j => ?_
          by_cases e : i = j
          · subst e
            rw [List.getElem?_set_self (List.getElem?_eq_some_iff.mp k2).1, k2]
          · rw [List.getElem?_set_ne e]
        show D.nx (σ.set i (some (.ref q'))) _
        rw [e2]
        exact p1 σ O1 _ r1 r2
      · exact p1.elim
    · exact p1.elim
  · exact p.elim
theorem snd_ixV {i : Nat} (he : SndE cc W te f) : SndE cc W (tOp (rSub' K) (tVar i) te) (dIxV i f) := fun fr O σ H ρ Q R p => by
  unfold dIxV at p
  split at p
  · rename_i ds0 e0
    obtain ⟨q, vs, h2, h3, h4⟩ := R.listAt e0
    refine ⟨.ref q, h2, he fr O σ H ρ _ R (Post.bind p fun d ρ1 O1 H1 R1 m1 p1 v hv => ?_)⟩
    split at p1
    · rename_i ds k e1
      obtain ⟨q', us, k2, k3, k4⟩ := R1.listAt e1
      have eq : q' = q := by
        rw [h2] at k2
        cases k2
        rfl
      subst eq
      simp only [Rep] at hv
      subst hv
      split at p1
      · rename_i x ex
        obtain ⟨z, z1, z2⟩ := reps_atI k4 ex
        exact .inl ⟨q', us, k, z, rfl, rfl, SqL.of k3, z1, p1.here R1 z z2⟩
      · exact p1.elim
    · exact p1.elim
  · exact p.elim
theorem snd_opV {i : Nat} {r : R2} {g : D → D → Option Bool} (hr : OkR2 r (bo g)) (he : SndE cc W te f) : SndE cc W (tOp r (tVar i) te) (dOpV g i f) := fun fr O σ H ρ Q R p => by
  unfold dOpV at p
  split at p
  · rename_i ds0 e0
    obtain ⟨q, vs, h2, h3, h4⟩ := R.listAt e0
    refine ⟨.ref q, h2, he fr O σ H ρ _ R (Post.bind p fun d ρ1 O1 H1 R1 m1 p1 v hv => ?_)⟩
    split at p1
    · rename_i ds e1
      obtain ⟨q', us, k2, k3, k4⟩ := R1.listAt e1
      have eq : q' = q := by
        rw [h2] at k2
        cases k2
        rfl
      subst eq
      split at p1
      · rename_i b eb
        refine hr H1 (fun _ => False) (.ref q') v (.list ds) d (.bool b) Q (fun _ _ z => z) ?_ (Rep.mono (fun a o na q => ⟨q, fun z => z⟩) d v hv) (by simp [bo, eb]) fun v' H' s' hv' => ?_
        · simp only [Rep]
          exact ⟨q', us, rfl, fun z => z, k3, Reps.mono (fun a o na q => ⟨q, fun z => z⟩) ds us k4⟩
        · simp only [Rep] at hv'
          subst hv'
          exact p1.now R1 s' _ rep_bool
      · exact p1.elim
    · exact p1.elim
  · exact p.elim
theorem sns_rem {i : Nat} (he : SndE cc W te f) : SndS cc W (tDrop (tBM K "list" rRemI (tVar i) (tCons te tNil))) (dRem i f) := fun fr O σ H ρ D R p => by
  unfold dRem at p
  split at p
  · rename_i ds0 e0
    obtain ⟨q, vs, h1, h2, h3, h4⟩ := R.slot i _ e0
    refine ⟨.ref q, h2, .inl ⟨rfl, vs, SqL.of h3⟩, he fr O σ H ρ _ R (PostS.of p fun d ρ1 O1 H1 R1 m1 p1 v hv => ?_)⟩
    split at p1
    · rename_i ds k e1
      split at p1
      · rename_i ns en
        split at p1
        · rename_i hk
          obtain ⟨q', us, k1, k2, k3, k4⟩ := R1.slot i _ e1
          have eq : q' = q := by
            rw [h2] at k2
            cases k2
            rfl
          subst eq
          simp only [Rep] at hv
          subst hv
          have ed := intsS_eq en
          subst ed
          rw [k4.ints] at k3
          obtain ⟨j, j1, j2, j3⟩ := first_at' hk
          obtain ⟨r1, r2⟩ := R1.upOwn e1 (Reps.ofInts (ns.erase k)) k2
          refine ⟨q', ns, k, j, rfl, rfl, k3, j1, j2, ?_⟩
          rw [j3]
          exact p1 σ O1 _ r1 r2
        · exact p1.elim
      · exact p1.elim
    · exact p1.elim
  · exact p.elim
end
end GG

namespace GG
open PySem PySem.Spec PyProof.Rows L2

/-! ### built-in functions on data -/
def intsOf : List D → Option (List Int)
  | [] => some []
  | .int i :: r => (intsOf r).map (i :: ·)
  | _ :: _ => none
theorem intsOf_map : ∀ ns : List Int, intsOf (ns.map PyData.int) = some ns
  | [] => rfl
  | n :: ns => by simp [intsOf, intsOf_map ns]
theorem intsOf_eq : ∀ {ds : List D} {ns : List Int}, intsOf ds = some ns → ds = ns.map PyData.int
  | [], ns, h => by cases h; rfl
  | .int i :: r, ns, h => by
    simp only [intsOf, Option.map_eq_some_iff] at h
    obtain ⟨a, h1, rfl⟩ := h
    rw [intsOf_eq h1]
    rfl
  | .none :: _, _, h => by cases h
  | .bool _ :: _, _, h => by cases h
  | .str _ :: _, _, h => by cases h
  | .list _ :: _, _, h => by cases h
  | .tuple _ :: _, _, h => by cases h
  | .dict _ :: _, _, h => by cases h
def boolsOf : List D → Option (List Bool)
  | [] => some []
  | .bool i :: r => (boolsOf r).map (i :: ·)
  | _ :: _ => none
theorem boolsOf_map : ∀ ns : List Bool, boolsOf (ns.map PyData.bool) = some ns
  | [] => rfl
  | n :: ns => by simp [boolsOf, boolsOf_map ns]
theorem boolsOf_eq : ∀ {ds : List D} {ns : List Bool}, boolsOf ds = some ns → ds = ns.map PyData.bool
  | [], ns, h => by cases h; rfl
  | .bool i :: r, ns, h => by
    simp only [boolsOf, Option.map_eq_some_iff] at h
    obtain ⟨a, h1, rfl⟩ := h
    rw [boolsOf_eq h1]
    rfl
  | .none :: _, _, h => by cases h
  | .int _ :: _, _, h => by cases h
  | .str _ :: _, _, h => by cases h
  | .list _ :: _, _, h => by cases h
  | .tuple _ :: _, _, h => by cases h
  | .dict _ :: _, _, h => by cases h
/-- the greatest, the least -/
def mx : List Int → Int
  | [] => 0
  | [x] => x
  | x :: y :: r => max x (mx (y :: r))
def mn : List Int → Int
  | [] => 0
  | [x] => x
  | x :: y :: r => min x (mn (y :: r))
theorem mx_mem : ∀ {l : List Int}, l ≠ [] → mx l ∈ l
  | [], h => absurd rfl h
  | [x], _ => by simp [mx]
  | x :: y :: r, _ => by
    have := mx_mem (l := y :: r) (by simp)
    simp only [mx]
    rcases Int.le_total x (mx (y :: r)) with h | h
    · rw [Int.max_eq_right h]; exact List.mem_cons_of_mem _ this
    · rw [Int.max_eq_left h]; exact List.mem_cons_self
theorem mx_le : ∀ {l : List Int} {y : Int}, y ∈ l → y ≤ mx l
  | [x], y, h => by simp at h; subst h; simp [mx]
  | x :: z :: r, y, h => by
    simp only [mx]
    rcases List.mem_cons.mp h with rfl | h
    · exact Int.le_max_left _ _
    · exact Int.le_trans (mx_le h) (Int.le_max_right _ _)
theorem mn_mem : ∀ {l : List Int}, l ≠ [] → mn l ∈ l
  | [], h => absurd rfl h
  | [x], _ => by simp [mn]
  | x :: y :: r, _ => by
    have := mn_mem (l := y :: r) (by simp)
    simp only [mn]
    rcases Int.le_total x (mn (y :: r)) with h | h
    · rw [Int.min_eq_left h]; exact List.mem_cons_self
    · rw [Int.min_eq_right h]; exact List.mem_cons_of_mem _ this
theorem mn_le : ∀ {l : List Int} {y : Int}, y ∈ l → mn l ≤ y
  | [x], y, h => by simp at h; subst h; simp [mn]
  | x :: z :: r, y, h => by
    simp only [mn]
    rcases List.mem_cons.mp h with rfl | h
    · exact Int.min_le_left _ _
    · exact Int.le_trans (Int.min_le_right _ _) (mn_le h)
/-- sorted -/
def ins1 (x : Int) : List Int → List Int
  | [] => [x]
  | y :: r => if x ≤ y then x :: y :: r else y :: ins1 x r
def isort : List Int → List Int
  | [] => []
  | x :: r => ins1 x (isort r)
theorem ins1_perm (x : Int) : ∀ l : List Int, (ins1 x l).Perm (x :: l)
  | [] => .refl _
  | y :: r => by
    unfold ins1
    split
    · exact .refl _
    · exact ((ins1_perm x r).cons y).trans (.swap x y r)
theorem isort_perm : ∀ l : List Int, (isort l).Perm l
  | [] => .refl _
  | x :: r => (ins1_perm x _).trans ((isort_perm r).cons x)
theorem ins1_sorted (x : Int) : ∀ {l : List Int}, l.Pairwise (· ≤ ·) → (ins1 x l).Pairwise (· ≤ ·)
  | [], _ => by simp [ins1]
  | y :: r, h => by
    unfold ins1
    split
    · rename_i hx
      refine List.pairwise_cons.mpr ⟨fun z hz => ?_, h⟩
      rcases List.mem_cons.mp hz with rfl | hz
      · exact hx
      · exact Int.le_trans hx (List.rel_of_pairwise_cons h hz)
    · rename_i hx
      refine List.pairwise_cons.mpr ⟨fun z hz => ?_, ins1_sorted x (List.pairwise_cons.mp h).2⟩
      rcases List.mem_cons.mp ((ins1_perm x r).mem_iff.mp hz) with rfl | hz
      · omega
      · exact List.rel_of_pairwise_cons h hz
theorem isort_sorted : ∀ l : List Int, (isort l).Pairwise (· ≤ ·)
  | [] => .nil
  | x :: r => ins1_sorted x (isort_sorted r)
theorem sorted_unique : ∀ {a b : List Int}, a.Perm b → a.Pairwise (· ≤ ·) → b.Pairwise (· ≤ ·) → a = b
  | [], b, h, _, _ => (List.nil_perm.mp h).symm
  | x :: a, [], h, _, _ => absurd (List.perm_nil.mp h) (by simp)
  | x :: a, y :: b, h, ha, hb => by
    have hx : x ∈ y :: b := h.mem_iff.mp List.mem_cons_self
    have hy : y ∈ x :: a := h.mem_iff.mpr List.mem_cons_self
    have e : x = y := by
      rcases List.mem_cons.mp hx with e | hx
      · exact e
      · rcases List.mem_cons.mp hy with e | hy
        · exact e.symm
        · have h1 := List.rel_of_pairwise_cons hb hx
          have h2 := List.rel_of_pairwise_cons ha hy
          exact Int.le_antisymm h2 h1
    subst e
    rw [sorted_unique (List.perm_cons x |>.mp h) (List.pairwise_cons.mp ha).2 (List.pairwise_cons.mp hb).2]
theorem isort_id {l : List Int} (h : l.Pairwise (· ≤ ·)) : isort l = l := sorted_unique (isort_perm l) (isort_sorted l) h

def gLen : List D → Option D
  | [.list xs] => some (.int xs.length)
  | [.tuple xs] => some (.int xs.length)
  | [.str s] => if s.length ≤ 100000 then some (.int s.length) else none
  | _ => none
def gMax : List D → Option D
  | [.list ds] => (intsOf ds).bind fun ns => if ns = [] then none else some (.int (mx ns))
  | [.int i, .int j] => some (.int (if j > i then j else i))
  | _ => none
def gMin : List D → Option D
  | [.list ds] => (intsOf ds).bind fun ns => if ns = [] then none else some (.int (mn ns))
  | [.int i, .int j] => some (.int (if j < i then j else i))
  | _ => none
def gSum : List D → Option D
  | [.list ds] => (intsOf ds).map fun ns => .int ns.sum
  | _ => none
def gAll : List D → Option D
  | [.list ds] => (boolsOf ds).map fun ns => .bool (ns.all id)
  | _ => none
def gSorted : List D → Option D
  | [.list ds] => (intsOf ds).map fun ns => .list ((isort ns).map PyData.int)
  | _ => none
def gList : List D → Option D
  | [.list ds] => some (.list ds)
  | [.tuple ds] => some (.list ds)
  | _ => none
def gTuple : List D → Option D
  | [.list ds] => some (.tuple ds)
  | _ => none

section
variable {K : PySem.W.Frag}
abbrev rLen' (K : PySem.W.Frag) : List V → Hp → VK → Prop := fun xs H Q => (∃ p ys, xs = [.ref p] ∧ (SqL K H p ys ∨ SqT K H p ys) ∧ Q (.int ys.length) H) ∨ (∃ z, xs = [.str z] ∧ z.length ≤ sizeLine ∧ Q (.int z.length) H)
theorem cr_len' {X : Cx} : CallR X (.builtin "len") (rLen' X.K) := call_len_seq.or call_len_str
theorem ok_len : OkRL (rLen' K) gLen := fun H A xs ds d Q fr hs hg k => by
  unfold gLen at hg
  split at hg
  · obtain ⟨v, rfl, hv⟩ := reps1 hs
    simp only [Rep] at hv
    obtain ⟨a, vs, rfl, na, ha, hv⟩ := hv
    cases hg
    exact .inl ⟨a, vs, rfl, .inl (SqL.of ha), by rw [hv.len]; exact k _ _ (Same.refl H) (by simp only [Rep])⟩
  · obtain ⟨v, rfl, hv⟩ := reps1 hs
    simp only [Rep] at hv
    obtain ⟨a, vs, rfl, na, ha, hv⟩ := hv
    cases hg
    exact .inl ⟨a, vs, rfl, .inr (SqT.of ha), by rw [hv.len]; exact k _ _ (Same.refl H) (by simp only [Rep])⟩
  · obtain ⟨v, rfl, hv⟩ := reps1 hs
    simp only [Rep] at hv
    subst hv
    split at hg
    · rename_i hz
      cases hg
      exact .inr ⟨_, rfl, sz5 hz, k _ _ (Same.refl H) (by simp only [Rep])⟩
    · cases hg
  · cases hg
theorem ints_at {H : Hp} {A : Addr → Prop} {ds : List D} {ns : List Int} {v : V} (h : Rep H A (.list ds) v) (e : intsOf ds = some ns) : ∃ a, v = .ref a ∧ ¬ A a ∧ H a = some (.lst (ns.map V.int)) := by
  simp only [Rep] at h
  obtain ⟨a, vs, rfl, na, ha, hv⟩ := h
  rw [intsOf_eq e] at hv
  rw [hv.ints] at ha
  exact ⟨a, rfl, na, ha⟩
abbrev rMax' (K : PySem.W.Frag) : List V → Hp → VK → Prop := fun xs H Q => rMax K xs H Q ∨ (∃ i j, xs = [.int i, .int j] ∧ Q (.int (if j > i then j else i)) H)
abbrev rMin' (K : PySem.W.Frag) : List V → Hp → VK → Prop := fun xs H Q => rMin K xs H Q ∨ (∃ i j, xs = [.int i, .int j] ∧ Q (.int (if j < i then j else i)) H)
theorem cr_max' {X : Cx} (hc : X.calm = true) : CallR X (.builtin "max") (rMax' X.K) := (cr_max hc).or (call_max2 hc)
theorem cr_min' {X : Cx} (hc : X.calm = true) : CallR X (.builtin "min") (rMin' X.K) := (cr_min hc).or (call_min2 hc)
theorem ok_max : OkRL (rMax' K) gMax := fun H A xs ds d Q fr hs hg k => by
  unfold gMax at hg
  split at hg
  · obtain ⟨v, rfl, hv⟩ := reps1 hs
    simp only [Option.bind_eq_some_iff] at hg
    obtain ⟨ns, h1, h2⟩ := hg
    obtain ⟨a, rfl, na, ha⟩ := ints_at hv h1
    split at h2
    · cases h2
    · rename_i hne
      cases h2
      refine .inl ⟨a, ns, rfl, SqL.of ha, List.length_pos_iff.mpr hne, fun m hm hy => ?_⟩
      have e : m = mx ns := Int.le_antisymm (mx_le hm) (hy _ (mx_mem hne))
      rw [e]
      exact k _ _ (Same.refl H) (by simp only [Rep])
  · obtain ⟨v, u, rfl, hv, hu⟩ := reps2 hs
    simp only [Rep] at hv hu
    subst hv hu
    cases hg
    exact .inr ⟨_, _, rfl, k _ _ (Same.refl H) (by simp only [Rep])⟩
  · cases hg
theorem ok_min : OkRL (rMin' K) gMin := fun H A xs ds d Q fr hs hg k => by
  unfold gMin at hg
  split at hg
  · obtain ⟨v, rfl, hv⟩ := reps1 hs
    simp only [Option.bind_eq_some_iff] at hg
    obtain ⟨ns, h1, h2⟩ := hg
    obtain ⟨a, rfl, na, ha⟩ := ints_at hv h1
    split at h2
    · cases h2
    · rename_i hne
      cases h2
      refine .inl ⟨a, ns, rfl, SqL.of ha, List.length_pos_iff.mpr hne, fun m hm hy => ?_⟩
      have e : m = mn ns := Int.le_antisymm (hy _ (mn_mem hne)) (mn_le hm)
      rw [e]
      exact k _ _ (Same.refl H) (by simp only [Rep])
  · obtain ⟨v, u, rfl, hv, hu⟩ := reps2 hs
    simp only [Rep] at hv hu
    subst hv hu
    cases hg
    exact .inr ⟨_, _, rfl, k _ _ (Same.refl H) (by simp only [Rep])⟩
  · cases hg
theorem ok_sum : OkRL (rSum K) gSum := fun H A xs ds d Q fr hs hg k => by
  unfold gSum at hg
  split at hg
  · obtain ⟨v, rfl, hv⟩ := reps1 hs
    simp only [Option.map_eq_some_iff] at hg
    obtain ⟨ns, h1, rfl⟩ := hg
    obtain ⟨a, rfl, na, ha⟩ := ints_at hv h1
    exact ⟨a, ns, rfl, SqL.of ha, k _ _ (Same.refl H) (by simp only [Rep])⟩
  · cases hg
theorem ok_all : OkRL (rAll K) gAll := fun H A xs ds d Q fr hs hg k => by
  unfold gAll at hg
  split at hg
  · obtain ⟨v, rfl, hv⟩ := reps1 hs
    simp only [Option.map_eq_some_iff] at hg
    obtain ⟨ns, h1, rfl⟩ := hg
    simp only [Rep] at hv
    obtain ⟨a, vs, rfl, na, ha, hv⟩ := hv
    rw [boolsOf_eq h1] at hv
    rw [hv.bools] at ha
    exact ⟨a, ns, rfl, SqL.of ha, k _ _ (Same.refl H) (by simp only [Rep])⟩
  · cases hg
theorem ok_sorted : OkRL (rSortedI K) gSorted := fun H A xs ds d Q fr hs hg k => by
  unfold gSorted at hg
  split at hg
  · obtain ⟨v, rfl, hv⟩ := reps1 hs
    simp only [Option.map_eq_some_iff] at hg
    obtain ⟨ns, h1, rfl⟩ := hg
    obtain ⟨a, rfl, na, ha⟩ := ints_at hv h1
    refine ⟨a, ns, rfl, SqL.of ha, fun ns' p hp hq hf => k _ _ (same_upd hf) ?_⟩
    have e : ns' = isort ns := sorted_unique (hp.trans (isort_perm ns).symm) hq (isort_sorted ns)
    subst e
    simp only [Rep]
    exact ⟨p, _, rfl, fr p hf, upd_same, Reps.ofInts _⟩
  · cases hg
theorem ok_list : OkRL (rListOf K) gList := fun H A xs ds d Q fr hs hg k => by
  unfold gList at hg
  split at hg
  · obtain ⟨v, rfl, hv⟩ := reps1 hs
    simp only [Rep] at hv
    obtain ⟨a, vs, rfl, na, ha, hv⟩ := hv
    cases hg
    refine ⟨a, vs, rfl, .inl (SqL.of ha), fun p hp => k _ _ (same_upd hp) ?_⟩
    simp only [Rep]
    exact ⟨p, vs, rfl, fr p hp, upd_same, Reps.mono (fun a o na e => ⟨same_upd hp a o e, na⟩) _ vs hv⟩
  · obtain ⟨v, rfl, hv⟩ := reps1 hs
    simp only [Rep] at hv
    obtain ⟨a, vs, rfl, na, ha, hv⟩ := hv
    cases hg
    refine ⟨a, vs, rfl, .inr (SqT.of ha), fun p hp => k _ _ (same_upd hp) ?_⟩
    simp only [Rep]
    exact ⟨p, vs, rfl, fr p hp, upd_same, Reps.mono (fun a o na e => ⟨same_upd hp a o e, na⟩) _ vs hv⟩
  · cases hg
abbrev rTupleOf (K : PySem.W.Frag) : List V → Hp → VK → Prop := fun xs H Q => ∃ p ys, xs = [.ref p] ∧ ((SqL K H p ys ∧ ∀ l, H l = none → Q (.ref l) (upd H l (.tup ys))) ∨ (SqT K H p ys ∧ Q (.ref p) H))
theorem ok_tuple : OkRL (rTupleOf K) gTuple := fun H A xs ds d Q fr hs hg k => by
  unfold gTuple at hg
  split at hg
  · obtain ⟨v, rfl, hv⟩ := reps1 hs
    simp only [Rep] at hv
    obtain ⟨a, vs, rfl, na, ha, hv⟩ := hv
    cases hg
    refine ⟨a, vs, rfl, .inl ⟨SqL.of ha, fun p hp => k _ _ (same_upd hp) ?_⟩⟩
    simp only [Rep]
    exact ⟨p, vs, rfl, fr p hp, upd_same, Reps.mono (fun a o na e => ⟨same_upd hp a o e, na⟩) _ vs hv⟩
  · cases hg
end

/-! ### slices -/
def cutL {α : Type} (xs : List α) (lo hi : Option Int) : List α := (xs.drop (HT.sIx xs.length 0 lo)).take (HT.sIx xs.length xs.length hi - HT.sIx xs.length 0 lo)
def SndO (cc : Cc) (W : WX) (t : TO) (f : Den (Option Int)) : Prop := ∀ (fr : Frm) (O : Nat → List Addr) (σ : L2.St) (H : Hp) (ρ : Env') (Q : Option Int → Hp → Prop), Rel cc fr O σ H ρ → Post cc W fr O σ H (f ρ) (fun o _ H' => Q o H') → t σ H Q
def asI : D → Option (Option Int)
  | .int i => some (some i)
  | _ => none
def dNoP : Den (Option Int) := fun ρ => .ok none ρ
def dP (f : Den D) : Den (Option Int) := dB1 asI f
def dSl (f : Den D) (lo hi : Den (Option Int)) : Den D := fun ρ => (f ρ).bind fun d ρ1 => (lo ρ1).bind fun l ρ2 => (hi ρ2).bind fun h ρ3 => match d with
  | .list ds => .ok (.list (cutL ds l h)) ρ3
  | _ => .st
def gRev : D → Option D
  | .list ds => some (.list ds.reverse)
  | _ => none
section
variable {cc : Cc} {W : WX} {te : TE} {f : Den D} {tl th : TO} {lo hi : Den (Option Int)} {K : PySem.W.Frag}
theorem sno_none : SndO cc W tNoPart dNoP := fun fr O σ H ρ Q R p => Post.here p R
theorem sno_some (he : SndE cc W te f) : SndO cc W (tPart te) (dP f) := fun fr O σ H ρ Q R p =>
  he fr O σ H ρ _ R (Post.bind p fun d ρ1 O1 H1 R1 m1 p1 v hv => by
    cases d with
    | int i =>
      simp only [Rep] at hv
      exact ⟨i, hv, Post.here p1 R1⟩
    | _ => exact False.elim p1)
theorem reps_cut {H : Hp} {A : Addr → Prop} {ds : List D} {vs : List V} (h : Reps H A ds vs) (l u : Option Int) : Reps H A (cutL ds l u) (cutV vs l u) := by
  unfold cutL cutV
  rw [h.len]
  exact (h.drop _).take _
theorem snd_sl (he : SndE cc W te f) (hl : SndO cc W tl lo) (hh : SndO cc W th hi) : SndE cc W (tSl (rSlL K) te tl th) (dSl f lo hi) := fun fr O σ H ρ Q R p =>
  he fr O σ H ρ _ R (Post.bind p fun d ρ1 O1 H1 R1 m1 p1 v hv => hl fr O1 σ H1 ρ1 _ R1 (Post.bind p1 fun l ρ2 O2 H2 R2 m2 p2 => hh fr O2 σ H2 ρ2 _ R2 (Post.bind p2 fun u ρ3 O3 H3 R3 m3 p3 => by
    have hv3 := (m2.trans m3).rep hv
    cases d with
    | list ds =>
      simp only [Rep] at hv3
      obtain ⟨a, vs, rfl, na, ha, hs⟩ := hv3
      refine ⟨a, vs, rfl, SqL.of ha, fun q hq => Post.now p3 R3 (same_upd hq) _ ?_⟩
      simp only [Rep]
      exact ⟨q, _, rfl, R3.fresh hq, upd_same, Reps.mono (fun a o na e => ⟨same_upd hq a o e, na⟩) _ _ (reps_cut hs l u)⟩
    | _ => exact False.elim p3)))
theorem snd_rev (he : SndE cc W te f) : SndE cc W (tRevL K te) (dB1 gRev f) := fun fr O σ H ρ Q R p =>
  he fr O σ H ρ _ R (Post.bind p fun d ρ1 O1 H1 R1 m1 p1 v hv => by
    cases d with
    | list ds =>
      simp only [Rep] at hv
      obtain ⟨a, vs, rfl, na, ha, hs⟩ := hv
      refine ⟨a, vs, rfl, SqL.of ha, fun q hq => Post.now p1 R1 (same_upd hq) _ ?_⟩
      simp only [Rep]
      exact ⟨q, _, rfl, R1.fresh hq, upd_same, Reps.mono (fun a o na e => ⟨same_upd hq a o e, na⟩) _ _ hs.rev⟩
    | _ => exact False.elim p1)
end

/-! ### isinstance -/
def tyN : D → String
  | .none => "NoneType"
  | .bool _ => "bool"
  | .int _ => "int"
  | .str _ => "str"
  | .list _ => "list"
  | .tuple _ => "tuple"
  | .dict _ => "dict"
/-- of the types that are asked -/
inductive Ty where
  | int | bool | list | tuple | str
def Ty.nm : Ty → String
  | .int => "int"
  | .bool => "bool"
  | .list => "list"
  | .tuple => "tuple"
  | .str => "str"
def isA : Ty → D → Bool
  | .int, .int _ => true
  | .int, .bool _ => true
  | .bool, .bool _ => true
  | .list, .list _ => true
  | .tuple, .tuple _ => true
  | .str, .str _ => true
  | _, _ => false
def gIsA (T : Ty) (d : D) : Option D := some (.bool (isA T d))
section
variable {cc : Cc} {W : WX} {te : TE} {f : Den D} {K : PySem.W.Frag}
theorem kit_isA (T : Ty) (d : D) (hd : ∀ x, d ≠ .dict x) : PySem.W.kitOne K (.type (tyN d)) (.type T.nm) = some (isA T d) := by
  cases d with
  | dict x => exact absurd rfl (hd x)
  | none =>
    cases T with
    | int => exact kit_ty (show kitB "NoneType" "int" = some false by decide +kernel)
    | bool => exact kit_ty (show kitB "NoneType" "bool" = some false by decide +kernel)
    | list => exact kit_ty (show kitB "NoneType" "list" = some false by decide +kernel)
    | tuple => exact kit_ty (show kitB "NoneType" "tuple" = some false by decide +kernel)
    | str => exact kit_ty (show kitB "NoneType" "str" = some false by decide +kernel)
  | bool _ =>
    cases T with
    | int => exact kit_ty (show kitB "bool" "int" = some true by decide +kernel)
    | bool => exact kit_ty (show kitB "bool" "bool" = some true by decide +kernel)
    | list => exact kit_ty (show kitB "bool" "list" = some false by decide +kernel)
    | tuple => exact kit_ty (show kitB "bool" "tuple" = some false by decide +kernel)
    | str => exact kit_ty (show kitB "bool" "str" = some false by decide +kernel)
  | int _ =>
    cases T with
    | int => exact kit_ty (show kitB "int" "int" = some true by decide +kernel)
    | bool => exact kit_ty (show kitB "int" "bool" = some false by decide +kernel)
    | list => exact kit_ty (show kitB "int" "list" = some false by decide +kernel)
    | tuple => exact kit_ty (show kitB "int" "tuple" = some false by decide +kernel)
    | str => exact kit_ty (show kitB "int" "str" = some false by decide +kernel)
  | str _ =>
    cases T with
    | int => exact kit_ty (show kitB "str" "int" = some false by decide +kernel)
    | bool => exact kit_ty (show kitB "str" "bool" = some false by decide +kernel)
    | list => exact kit_ty (show kitB "str" "list" = some false by decide +kernel)
    | tuple => exact kit_ty (show kitB "str" "tuple" = some false by decide +kernel)
    | str => exact kit_ty (show kitB "str" "str" = some true by decide +kernel)
  | list _ =>
    cases T with
    | int => exact kit_ty (show kitB "list" "int" = some false by decide +kernel)
    | bool => exact kit_ty (show kitB "list" "bool" = some false by decide +kernel)
    | list => exact kit_ty (show kitB "list" "list" = some true by decide +kernel)
    | tuple => exact kit_ty (show kitB "list" "tuple" = some false by decide +kernel)
    | str => exact kit_ty (show kitB "list" "str" = some false by decide +kernel)
  | tuple _ =>
    cases T with
    | int => exact kit_ty (show kitB "tuple" "int" = some false by decide +kernel)
    | bool => exact kit_ty (show kitB "tuple" "bool" = some false by decide +kernel)
    | list => exact kit_ty (show kitB "tuple" "list" = some false by decide +kernel)
    | tuple => exact kit_ty (show kitB "tuple" "tuple" = some true by decide +kernel)
    | str => exact kit_ty (show kitB "tuple" "str" = some false by decide +kernel)
theorem rep_ty {H : Hp} {A : Addr → Prop} {d : D} {v : V} (h : Rep H A d v) : TyX K H v (.type (tyN d)) ∧ ∀ x, d ≠ .dict x := by
  cases d with
  | none => simp only [Rep] at h; subst h; exact ⟨.base .non, fun _ z => nomatch z⟩
  | bool b => simp only [Rep] at h; subst h; exact ⟨.base (.bl b), fun _ z => nomatch z⟩
  | int i => simp only [Rep] at h; subst h; exact ⟨.base (.int i), fun _ z => nomatch z⟩
  | str s => simp only [Rep] at h; subst h; exact ⟨.base (.str s), fun _ z => nomatch z⟩
  | list ds =>
    simp only [Rep] at h
    obtain ⟨a, vs, rfl, na, ha, hs⟩ := h
    exact ⟨.base (.lst ha), fun _ z => nomatch z⟩
  | tuple ds =>
    simp only [Rep] at h
    obtain ⟨a, vs, rfl, na, ha, hs⟩ := h
    exact ⟨.base (.tup ha), fun _ z => nomatch z⟩
  | dict x => simp only [Rep] at h
theorem snd_isA {T : Ty} (he : SndE cc W te f) : SndE cc W (tCB (rIsi K) (tCons te (tCons (tC (.ty T.nm)) tNil))) (dB1 (gIsA T) f) := fun fr O σ H ρ Q R p =>
  he fr O σ H ρ _ R (Post.bind p fun d ρ1 O1 H1 R1 m1 p1 v hv => by
    obtain ⟨h1, h2⟩ := rep_ty (K := K) hv
    exact ⟨v, .ty T.nm, .type (tyN d), .type T.nm, isA T d, rfl, .ty _, h1, kit_isA T d h2, Post.here p1 R1 _ rep_bool⟩)
end
end GG

namespace GG
open PySem PySem.Spec PyProof.Rows L2

/-! ### the two sides of a construct: its reading and what the reading does -/
structure DE (X : Cx) (cc : Cc) (W : WX) (e : Expr) (t : TE) (f : Den D) : Prop where
  p : PE X e t
  s : SndE cc W t f
structure DT (X : Cx) (cc : Cc) (W : WX) (e : Expr) (t : TT) (f : Den Bool) : Prop where
  p : PT X e t
  s : SndT cc W t f
/-- a test, whatever its whole is -/
structure DW (X : Cx) (cc : Cc) (W : WX) (e : Expr) (t : TT) (f : Den Bool) : Prop where
  p : PW X e t
  s : SndT cc W t f
structure DA (X : Cx) (cc : Cc) (W : WX) (es : List Expr) (t : TA) (f : Den (List D)) : Prop where
  p : PA X es t
  s : SndL cc W t f
structure DS (X : Cx) (cc : Cc) (W : WX) (st : Stmt) (t : TS) (f : Den Fl) : Prop where
  p : PS X st t
  s : SndS cc W t f
structure DSs (X : Cx) (cc : Cc) (W : WX) (st : List Stmt) (t : TS) (f : Den Fl) : Prop where
  p : PSs X st t
  s : SndS cc W t f
structure DI (X : Cx) (cc : Cc) (W : WX) (tg iter : Expr) (t : TI) (f : Den (List D)) : Prop where
  p : PI X tg iter t
  s : SndI cc W t f
structure DG (X : Cx) (cc : Cc) (tg : Expr) (t : TG) (g : Tg) : Prop where
  p : PG X tg t
  s : SndG cc t g
structure DO (X : Cx) (cc : Cc) (W : WX) (e : Option Expr) (t : TO) (f : Den (Option Int)) : Prop where
  p : PO X e t
  s : SndO cc W t f
/-- a truth value's expression -/
structure DB (X : Cx) (cc : Cc) (W : WX) (e : Expr) (t : TE) (f : Den Bool) : Prop where
  p : PE X e t
  s : SndE cc W t (dBo f)

section
variable {X : Cx} {cc : Cc} {W : WX} {a b c e o : Expr} {ta tb tc te to : TE} {f g h f1 f2 f3 : Den D} {pos : Pos} {es : List Expr} {tl : TA} {fs : Den (List D)} {k : Nat}
theorem de_v (i : Nat) {x : Str} (hN : X.N[i]? = some x := by rfl) (hv : Vis X.env.scope x := by first | exact Or.inl rfl | exact Or.inr (Or.inl rfl) | exact Or.inr (Or.inr rfl)) (hd : (x == ("__debug__" : Str)) = false := by decide)
    (hcd : (x == ("__classdict__" : Str)) = false := by decide) : DE X cc W (.Name x pos) (tVar i) (dV i) := ⟨pe_var hN hv hd hcd, snd_v⟩
theorem de_int {i : Int} {j : Nat} : DE X cc W (.Constant (.int i) j pos) (tC (.int i)) (dC (.int i)) := ⟨pe_int, snd_c fun _ _ => by simp only [Rep]⟩
theorem de_bl {i : Bool} {j : Nat} : DE X cc W (.Constant (.bool i) j pos) (tC (.bl i)) (dC (.bool i)) := ⟨pe_bl, snd_c fun _ _ => by simp only [Rep]⟩
theorem de_non {j : Nat} : DE X cc W (.Constant .none j pos) (tC .non) (dC .none) := ⟨pe_non, snd_c fun _ _ => by simp only [Rep]⟩
theorem de_str {x : Str} {j : Nat} : DE X cc W (.Constant (.str x) j pos) (tC (.str x)) (dC (.str x)) := ⟨pe_str, snd_c fun _ _ => by simp only [Rep]⟩
/-- a constant of the module -/
theorem de_gI {x : Str} {i : Int} (hm : ∃ t, X.mg x = some (.int i t)) (hg : Gl X x := by rfl) (hd : (x == ("__debug__" : Str)) = false := by decide) : DE X cc W (.Name x pos) (tC (.int i)) (dC (.int i)) := by
  obtain ⟨t, hm⟩ := hm
  exact ⟨pe_glob hg hm ⟨t, rfl⟩ hd, snd_c fun _ _ => by simp only [Rep]⟩
theorem de_gS {x : Str} {i : Str} (hm : ∃ t, X.mg x = some (.str i t)) (hg : Gl X x := by rfl) (hd : (x == ("__debug__" : Str)) = false := by decide) : DE X cc W (.Name x pos) (tC (.str i)) (dC (.str i)) := by
  obtain ⟨t, hm⟩ := hm
  exact ⟨pe_glob hg hm ⟨t, rfl⟩ hd, snd_c fun _ _ => by simp only [Rep]⟩
theorem de_add (ha : DE X cc W a ta f1) (hb : DE X cc W b tb f2) : DE X cc W (.BinOp a .Add b pos) (tOp rPlus ta tb) (dB2 gAdd f1 f2) := ⟨pe_op or_plus ha.p hb.p, snd_op ok_plus ha.s hb.s⟩
theorem de_sub (ha : DE X cc W a ta f1) (hb : DE X cc W b tb f2) : DE X cc W (.BinOp a .Sub b pos) (tOp (rI0 fun i j => .int (i - j)) ta tb) (dB2 gSub f1 f2) := ⟨pe_op op_sub ha.p hb.p, snd_op ok_sub ha.s hb.s⟩
theorem de_mul (ha : DE X cc W a ta f1) (hb : DE X cc W b tb f2) : DE X cc W (.BinOp a .Mult b pos) (tOp rTimes ta tb) (dB2 gMul f1 f2) := ⟨pe_op or_times ha.p hb.p, snd_op ok_times ha.s hb.s⟩
theorem de_div (ha : DE X cc W a ta f1) (hb : DE X cc W b tb f2) : DE X cc W (.BinOp a .FloorDiv b pos) (tOp (rI CDiv fun i j => .int (i / j)) ta tb) (dB2 gDiv f1 f2) := ⟨pe_op op_fdiv ha.p hb.p, snd_op ok_div ha.s hb.s⟩
theorem de_mod (ha : DE X cc W a ta f1) (hb : DE X cc W b tb f2) : DE X cc W (.BinOp a .Mod b pos) (tOp (rI (fun _ j => 0 < j) fun i j => .int (i % j)) ta tb) (dB2 gMod f1 f2) := ⟨pe_op op_mod ha.p hb.p, snd_op ok_mod ha.s hb.s⟩
theorem de_neg (ha : DE X cc W a ta f1) : DE X cc W (.UnaryOp .USub a pos) (tUn (rU fun i => .int (-i)) ta) (dB1 gNeg f1) := ⟨pe_un un_neg ha.p, snd_un ok_neg ha.s⟩
theorem de_ix (K : PySem.W.Frag) (ha : DE X cc W a ta f1) (hb : DE X cc W b tb f2) (hs : PlainIx b := by exact fun _ _ => rfl) (hK : X.K = K := by rfl) : DE X cc W (.Subscript a b pos) (tOp (rSub' K) ta tb) (dB2 gIx f1 f2) := by
  subst hK
  exact ⟨pe_ix ix_lt ha.p hb.p hs, snd_op ok_ix ha.s hb.s⟩
/-- x[e], x a list of one's own -/
theorem de_ixV (K : PySem.W.Frag) {x : Str} {p : Pos} (i : Nat) (hb : DE X cc W b tb f2) (hN : X.N[i]? = some x := by rfl) (hv : Vis X.env.scope x := by first | exact Or.inl rfl | exact Or.inr (Or.inl rfl) | exact Or.inr (Or.inr rfl)) (hd : (x == ("__debug__" : Str)) = false := by decide)
    (hcd : (x == ("__classdict__" : Str)) = false := by decide) (hs : PlainIx b := by exact fun _ _ => rfl) (hK : X.K = K := by rfl) : DE X cc W (.Subscript (.Name x p) b pos) (tOp (rSub' K) (tVar i) tb) (dIxV i f2) := by
  subst hK
  exact ⟨pe_ix ix_lt (pe_var hN hv hd hcd) hb.p hs, snd_ixV hb.s⟩
theorem de_neV (K : PySem.W.Frag) {x : Str} {p : Pos} (i : Nat) (hr : Room k X.A) (hb : DE X cc W b tb f2) (hN : X.N[i]? = some x := by rfl) (hv : Vis X.env.scope x := by first | exact Or.inl rfl | exact Or.inr (Or.inl rfl) | exact Or.inr (Or.inr rfl)) (hd : (x == ("__debug__" : Str)) = false := by decide)
    (hcd : (x == ("__classdict__" : Str)) = false := by decide) (hK : X.K = K := by rfl) : DE X cc W (.Compare (.Name x p) [.NotEq] [b] pos) (tOp (rNeD K) (tVar i) tb) (dOpV gNe i f2) := by
  subst hK
  exact ⟨pe_cmpR (op_neD hr.units) (pe_var hN hv hd hcd) hb.p (nomark _), snd_opV ok_ne hb.s⟩
theorem de_tup {x1 : Nat} (ha : DA X cc W es tl fs) : DE X cc W (.Tuple es x1 pos) (tTup tl) (dBL gTupD fs) := ⟨pe_tup ha.p, snd_tup ha.s⟩
theorem de_lst (ha : DA X cc W es tl fs) : DE X cc W (.List es pos) (tLst tl) (dBL gLstD fs) := ⟨pe_lst ha.p, snd_lst ha.s⟩
theorem da_nil : DA X cc W [] tNil dNil := ⟨pa_nil, snd_nil⟩
theorem da_cons (ha : DE X cc W e te f) (hl : DA X cc W es tl fs) (hs : starEach (e :: es) X.env = (false, eval e X.env) :: starEach es X.env := by rfl) : DA X cc W (e :: es) (tCons te tl) (dCons f fs) := ⟨pa_cons ha.p hl.p hs, snd_cons ha.s hl.s⟩
/-! comparisons -/
theorem de_lt (ha : DE X cc W a ta f1) (hb : DE X cc W b tb f2) : DE X cc W (.Compare a [.Lt] [b] pos) (tOp (rI0 fun i j => .bl (decide (i < j))) ta tb) (dB2 (bo gLt) f1 f2) := ⟨pe_cmpR op_lt ha.p hb.p (nomark _), snd_op ok_cmp ha.s hb.s⟩
theorem de_le (ha : DE X cc W a ta f1) (hb : DE X cc W b tb f2) : DE X cc W (.Compare a [.LtE] [b] pos) (tOp (rI0 fun i j => .bl (decide (i ≤ j))) ta tb) (dB2 (bo gLe) f1 f2) := ⟨pe_cmpR op_le ha.p hb.p (nomark _), snd_op ok_cmp ha.s hb.s⟩
theorem de_gt (ha : DE X cc W a ta f1) (hb : DE X cc W b tb f2) : DE X cc W (.Compare a [.Gt] [b] pos) (tOp (rI0 fun i j => .bl (decide (j < i))) ta tb) (dB2 (bo gGt) f1 f2) := ⟨pe_cmpR op_gt ha.p hb.p (nomark _), snd_op ok_cmp ha.s hb.s⟩
theorem de_ge (ha : DE X cc W a ta f1) (hb : DE X cc W b tb f2) : DE X cc W (.Compare a [.GtE] [b] pos) (tOp (rI0 fun i j => .bl (decide (j ≤ i))) ta tb) (dB2 (bo gGe) f1 f2) := ⟨pe_cmpR op_ge ha.p hb.p (nomark _), snd_op ok_cmp ha.s hb.s⟩
theorem de_eq (K : PySem.W.Frag) (hr : Room k X.A) (ha : DE X cc W a ta f1) (hb : DE X cc W b tb f2) (hK : X.K = K := by rfl) : DE X cc W (.Compare a [.Eq] [b] pos) (tOp (rEqD K) ta tb) (dB2 (bo gEq) f1 f2) := by
  subst hK
  exact ⟨pe_cmpR (op_eqD hr.units) ha.p hb.p (nomark _), snd_op ok_eq ha.s hb.s⟩
theorem de_ne (K : PySem.W.Frag) (hr : Room k X.A) (ha : DE X cc W a ta f1) (hb : DE X cc W b tb f2) (hK : X.K = K := by rfl) : DE X cc W (.Compare a [.NotEq] [b] pos) (tOp (rNeD K) ta tb) (dB2 (bo gNe) f1 f2) := by
  subst hK
  exact ⟨pe_cmpR (op_neD hr.units) ha.p hb.p (nomark _), snd_op ok_ne ha.s hb.s⟩
theorem room65 {A : Around} (hr : Room k A) : A.units + 65 < cLine := by have := hr.un; omega
theorem de_in (K : PySem.W.Frag) (hr : Room k X.A) (ha : DE X cc W a ta f1) (hb : DE X cc W b tb f2) (hm : behindInMarks .In b = false := by rfl) (hK : X.K = K := by rfl) : DE X cc W (.Compare a [.In] [b] pos) (tOp (rInD K) ta tb) (dB2 (bo gIn) f1 f2) := by
  subst hK
  exact ⟨pe_cmpR (op_inD (room65 hr)) ha.p hb.p hm, snd_op ok_in ha.s hb.s⟩
theorem de_notIn (K : PySem.W.Frag) (hr : Room k X.A) (ha : DE X cc W a ta f1) (hb : DE X cc W b tb f2) (hm : behindInMarks .NotIn b = false := by rfl) (hK : X.K = K := by rfl) : DE X cc W (.Compare a [.NotIn] [b] pos) (tOp (rNotInD K) ta tb) (dB2 (bo gNotIn) f1 f2) := by
  subst hK
  exact ⟨pe_cmpR (op_notInD (room65 hr)) ha.p hb.p hm, snd_op ok_notIn ha.s hb.s⟩
theorem de_is (ha : DE X cc W a ta f1) (hb : DE X cc W b tb f2) : DE X cc W (.Compare a [.Is] [b] pos) (tOp rIs' ta tb) (dB2 (bo gIs) f1 f2) := ⟨pe_cmpR or_is ha.p hb.p (nomark _), snd_op ok_is ha.s hb.s⟩
theorem de_isNot (ha : DE X cc W a ta f1) (hb : DE X cc W b tb f2) : DE X cc W (.Compare a [.IsNot] [b] pos) (tOp rIsNot' ta tb) (dB2 (bo gIsNot) f1 f2) := ⟨pe_cmpR or_isNot ha.p hb.p (nomark _), snd_op ok_isNot ha.s hb.s⟩
theorem de_chain {op op' : CmpOp} {r r' : R2} {g1 g2 : D → D → Option Bool} (ho : OpR X (compareOp op) r) (ho' : OpR X (compareOp op') r') (k1 : OkR2 r (bo g1)) (k2 : OkR2 r' (bo g2)) (ha : DE X cc W a ta f1) (hb : DE X cc W b tb f2) (hc : DE X cc W c tc f3)
    (hm : lastMarks [op, op'] [b, c] = false := by with_unfolding_all rfl) : DB X cc W (.Compare a [op, op'] [b, c] pos) (tChain r r' ta tb tc) (dChain g1 g2 f1 f2 f3) := ⟨pe_chain ho ho' ha.p hb.p hc.p hm, snd_chain k1 k2 ha.s hb.s hc.s⟩
theorem db_leLe (ha : DE X cc W a ta f1) (hb : DE X cc W b tb f2) (hc : DE X cc W c tc f3) (hm : lastMarks [.LtE, .LtE] [b, c] = false := by with_unfolding_all rfl) : DB X cc W (.Compare a [.LtE, .LtE] [b, c] pos) (tChain (rI0 fun i j => .bl (decide (i ≤ j))) (rI0 fun i j => .bl (decide (i ≤ j))) ta tb tc) (dChain gLe gLe f1 f2 f3) := de_chain op_le op_le ok_cmp ok_cmp ha hb hc hm
theorem db_leLt (ha : DE X cc W a ta f1) (hb : DE X cc W b tb f2) (hc : DE X cc W c tc f3) (hm : lastMarks [.LtE, .Lt] [b, c] = false := by with_unfolding_all rfl) : DB X cc W (.Compare a [.LtE, .Lt] [b, c] pos) (tChain (rI0 fun i j => .bl (decide (i ≤ j))) (rI0 fun i j => .bl (decide (i < j))) ta tb tc) (dChain gLe gLt f1 f2 f3) := de_chain op_le op_lt ok_cmp ok_cmp ha hb hc hm
theorem db_ltLe (ha : DE X cc W a ta f1) (hb : DE X cc W b tb f2) (hc : DE X cc W c tc f3) (hm : lastMarks [.Lt, .LtE] [b, c] = false := by with_unfolding_all rfl) : DB X cc W (.Compare a [.Lt, .LtE] [b, c] pos) (tChain (rI0 fun i j => .bl (decide (i < j))) (rI0 fun i j => .bl (decide (i ≤ j))) ta tb tc) (dChain gLt gLe f1 f2 f3) := de_chain op_lt op_le ok_cmp ok_cmp ha hb hc hm
/-! truth values -/
theorem DB.toE {c1 : Den Bool} (h : DB X cc W e te c1) : DE X cc W e te (dBo c1) := ⟨h.p, h.s⟩
theorem DE.toB (h : DE X cc W e te f) : DB X cc W e te (dTst f) := ⟨h.p, snd_bo h.s⟩
theorem db_one {op : BoolOp} {c1 : Den Bool} (h : DB X cc W a ta c1) : DB X cc W (.BoolOp op [a] pos) ta c1 := ⟨pe_one h.p, h.s⟩
theorem db_and {rest : List Expr} {c1 c2 : Den Bool} (ha : DB X cc W a ta c1) (hb : DB X cc W (.BoolOp .And (b :: rest) pos) tb c2) : DB X cc W (.BoolOp .And (a :: b :: rest) pos) (tAndV ta tb) (dAnd c1 c2) := ⟨pe_and ha.p hb.p, snd_andV ha.s hb.s⟩
theorem db_or {rest : List Expr} {c1 c2 : Den Bool} (ha : DB X cc W a ta c1) (hb : DB X cc W (.BoolOp .Or (b :: rest) pos) tb c2) : DB X cc W (.BoolOp .Or (a :: b :: rest) pos) (tOrV ta tb) (dOr c1 c2) := ⟨pe_or ha.p hb.p, snd_orV ha.s hb.s⟩
theorem db_not {c1 : Den Bool} (ha : DB X cc W a ta c1) : DB X cc W (.UnaryOp .Not a pos) (tNotV ta) (dNot c1) := ⟨pe_not ha.p, snd_notV ha.s⟩
/-! tests -/
theorem snd_tstB {c1 : Den Bool} (h : SndE cc W te (dBo c1)) : SndT cc W (tB te) c1 := fun fr O σ H ρ Q R p => by
  refine h fr O σ H ρ _ R ?_
  unfold dBo
  cases e : c1 ρ with
  | st => rw [e] at p; exact p
  | er k ρ1 => rw [e] at p; exact p
  | ok b ρ1 =>
    rw [e] at p
    intro O1 H1 R1 m1 v hv
    simp only [Rep] at hv
    exact ⟨b, hv, p O1 H1 R1 m1⟩
theorem dt_val {c1 : Den Bool} (h : DB X cc W e te c1) (he : ∀ whole, isTrue e X.env whole = (do let v ← whole; standAt e.pos; holding [v] (truthy v)) := by intro _; rfl) : DT X cc W e (tB te) c1 := ⟨pt_val h.p he, snd_tstB h.s⟩
theorem dt_cmp {op : CmpOp} {r : R2} {g : D → D → Option D} (ho : OpR X (compareOp op) r) (hk : OkR2 r g) (ha : DE X cc W a ta f1) (hb : DE X cc W b tb f2) (hm : behindInMarks op b = false) : DT X cc W (.Compare a [op] [b] pos) (tTest (tOp r ta tb)) (dTst (dB2 g f1 f2)) := ⟨pt_cmpR ho ha.p hb.p hm, snd_tst (snd_op hk ha.s hb.s)⟩
theorem dt_lt (ha : DE X cc W a ta f1) (hb : DE X cc W b tb f2) : DT X cc W (.Compare a [.Lt] [b] pos) (tTest (tOp (rI0 fun i j => .bl (decide (i < j))) ta tb)) (dTst (dB2 (bo gLt) f1 f2)) := dt_cmp op_lt ok_cmp ha hb (nomark _)
theorem dt_le (ha : DE X cc W a ta f1) (hb : DE X cc W b tb f2) : DT X cc W (.Compare a [.LtE] [b] pos) (tTest (tOp (rI0 fun i j => .bl (decide (i ≤ j))) ta tb)) (dTst (dB2 (bo gLe) f1 f2)) := dt_cmp op_le ok_cmp ha hb (nomark _)
theorem dt_gt (ha : DE X cc W a ta f1) (hb : DE X cc W b tb f2) : DT X cc W (.Compare a [.Gt] [b] pos) (tTest (tOp (rI0 fun i j => .bl (decide (j < i))) ta tb)) (dTst (dB2 (bo gGt) f1 f2)) := dt_cmp op_gt ok_cmp ha hb (nomark _)
theorem dt_ge (ha : DE X cc W a ta f1) (hb : DE X cc W b tb f2) : DT X cc W (.Compare a [.GtE] [b] pos) (tTest (tOp (rI0 fun i j => .bl (decide (j ≤ i))) ta tb)) (dTst (dB2 (bo gGe) f1 f2)) := dt_cmp op_ge ok_cmp ha hb (nomark _)
theorem dt_eq (K : PySem.W.Frag) (hr : Room k X.A) (ha : DE X cc W a ta f1) (hb : DE X cc W b tb f2) (hK : X.K = K := by rfl) : DT X cc W (.Compare a [.Eq] [b] pos) (tTest (tOp (rEqD K) ta tb)) (dTst (dB2 (bo gEq) f1 f2)) := by
  subst hK
  exact dt_cmp (op_eqD hr.units) ok_eq ha hb (nomark _)
theorem dt_ne (K : PySem.W.Frag) (hr : Room k X.A) (ha : DE X cc W a ta f1) (hb : DE X cc W b tb f2) (hK : X.K = K := by rfl) : DT X cc W (.Compare a [.NotEq] [b] pos) (tTest (tOp (rNeD K) ta tb)) (dTst (dB2 (bo gNe) f1 f2)) := by
  subst hK
  exact dt_cmp (op_neD hr.units) ok_ne ha hb (nomark _)
theorem dt_in (K : PySem.W.Frag) (hr : Room k X.A) (ha : DE X cc W a ta f1) (hb : DE X cc W b tb f2) (hm : behindInMarks .In b = false := by rfl) (hK : X.K = K := by rfl) : DT X cc W (.Compare a [.In] [b] pos) (tTest (tOp (rInD K) ta tb)) (dTst (dB2 (bo gIn) f1 f2)) := by
  subst hK
  exact dt_cmp (op_inD (room65 hr)) ok_in ha hb hm
theorem dt_notIn (K : PySem.W.Frag) (hr : Room k X.A) (ha : DE X cc W a ta f1) (hb : DE X cc W b tb f2) (hm : behindInMarks .NotIn b = false := by rfl) (hK : X.K = K := by rfl) : DT X cc W (.Compare a [.NotIn] [b] pos) (tTest (tOp (rNotInD K) ta tb)) (dTst (dB2 (bo gNotIn) f1 f2)) := by
  subst hK
  exact dt_cmp (op_notInD (room65 hr)) ok_notIn ha hb hm
theorem dt_is (ha : DE X cc W a ta f1) (hb : DE X cc W b tb f2) : DT X cc W (.Compare a [.Is] [b] pos) (tTest (tOp rIs' ta tb)) (dTst (dB2 (bo gIs) f1 f2)) := dt_cmp or_is ok_is ha hb (nomark _)
theorem dt_isNot (ha : DE X cc W a ta f1) (hb : DE X cc W b tb f2) : DT X cc W (.Compare a [.IsNot] [b] pos) (tTest (tOp rIsNot' ta tb)) (dTst (dB2 (bo gIsNot) f1 f2)) := dt_cmp or_isNot ok_isNot ha hb (nomark _)
theorem dt_neV (K : PySem.W.Frag) {x : Str} {p : Pos} (i : Nat) (hr : Room k X.A) (hb : DE X cc W b tb f2) (hN : X.N[i]? = some x := by rfl) (hv : Vis X.env.scope x := by first | exact Or.inl rfl | exact Or.inr (Or.inl rfl) | exact Or.inr (Or.inr rfl)) (hd : (x == ("__debug__" : Str)) = false := by decide)
    (hcd : (x == ("__classdict__" : Str)) = false := by decide) (hK : X.K = K := by rfl) : DT X cc W (.Compare (.Name x p) [.NotEq] [b] pos) (tTest (tOp (rNeD K) (tVar i) tb)) (dTst (dOpV gNe i f2)) := by
  subst hK
  exact ⟨pt_cmpR (op_neD hr.units) (pe_var hN hv hd hcd) hb.p (nomark _), snd_tst (snd_opV ok_ne hb.s)⟩
theorem dt_chain {op op' : CmpOp} {r r' : R2} {g1 g2 : D → D → Option Bool} (ho : OpR X (compareOp op) r) (ho' : OpR X (compareOp op') r') (k1 : OkR2 r (bo g1)) (k2 : OkR2 r' (bo g2)) (ha : DE X cc W a ta f1) (hb : DE X cc W b tb f2) (hc : DE X cc W c tc f3)
    (hm : lastMarks [op, op'] [b, c] = false := by with_unfolding_all rfl) : DT X cc W (.Compare a [op, op'] [b, c] pos) (tTest (tChain r r' ta tb tc)) (dChain g1 g2 f1 f2 f3) := ⟨pt_chain ho ho' ha.p hb.p hc.p hm, snd_tstB (snd_chain k1 k2 ha.s hb.s hc.s)⟩
theorem dt_leLe (ha : DE X cc W a ta f1) (hb : DE X cc W b tb f2) (hc : DE X cc W c tc f3) (hm : lastMarks [.LtE, .LtE] [b, c] = false := by with_unfolding_all rfl) : DT X cc W (.Compare a [.LtE, .LtE] [b, c] pos) (tTest (tChain (rI0 fun i j => .bl (decide (i ≤ j))) (rI0 fun i j => .bl (decide (i ≤ j))) ta tb tc)) (dChain gLe gLe f1 f2 f3) := dt_chain op_le op_le ok_cmp ok_cmp ha hb hc hm
theorem dt_leLt (ha : DE X cc W a ta f1) (hb : DE X cc W b tb f2) (hc : DE X cc W c tc f3) (hm : lastMarks [.LtE, .Lt] [b, c] = false := by with_unfolding_all rfl) : DT X cc W (.Compare a [.LtE, .Lt] [b, c] pos) (tTest (tChain (rI0 fun i j => .bl (decide (i ≤ j))) (rI0 fun i j => .bl (decide (i < j))) ta tb tc)) (dChain gLe gLt f1 f2 f3) := dt_chain op_le op_lt ok_cmp ok_cmp ha hb hc hm
theorem dt_ltLe (ha : DE X cc W a ta f1) (hb : DE X cc W b tb f2) (hc : DE X cc W c tc f3) (hm : lastMarks [.Lt, .LtE] [b, c] = false := by with_unfolding_all rfl) : DT X cc W (.Compare a [.Lt, .LtE] [b, c] pos) (tTest (tChain (rI0 fun i j => .bl (decide (i < j))) (rI0 fun i j => .bl (decide (i ≤ j))) ta tb tc)) (dChain gLt gLe f1 f2 f3) := dt_chain op_lt op_le ok_cmp ok_cmp ha hb hc hm
theorem DW.t {t : TT} {c1 : Den Bool} (h : DW X cc W e t c1) : DT X cc W e t c1 := ⟨h.p.pt, h.s⟩
theorem dw_and1 {t : TT} {c1 : Den Bool} (ha : DT X cc W a t c1) : DW X cc W (.BoolOp .And [a] pos) t c1 := ⟨pw_and1 ha.p, ha.s⟩
theorem dw_or1 {t : TT} {c1 : Den Bool} (ha : DT X cc W a t c1) : DW X cc W (.BoolOp .Or [a] pos) t c1 := ⟨pw_or1 ha.p, ha.s⟩
theorem dw_and {t u : TT} {c1 c2 : Den Bool} {rest : List Expr} (ha : DT X cc W a t c1) (hb : DW X cc W (.BoolOp .And (b :: rest) pos) u c2) : DW X cc W (.BoolOp .And (a :: b :: rest) pos) (tAnd t u) (dAnd c1 c2) := ⟨pw_and ha.p hb.p, snd_and ha.s hb.s⟩
theorem dw_or {t u : TT} {c1 c2 : Den Bool} {rest : List Expr} (ha : DT X cc W a t c1) (hb : DW X cc W (.BoolOp .Or (b :: rest) pos) u c2) : DW X cc W (.BoolOp .Or (a :: b :: rest) pos) (tOr t u) (dOr c1 c2) := ⟨pw_or ha.p hb.p, snd_or ha.s hb.s⟩
theorem dt_not {t : TT} {c1 : Den Bool} (ha : DT X cc W a t c1) : DT X cc W (.UnaryOp .Not a pos) (tNot t) (dNot c1) := ⟨pt_not ha.p, snd_not ha.s⟩
theorem de_if {t : TT} {c1 : Den Bool} (hc : DT X cc W c t c1) (ha : DE X cc W a ta f1) (hb : DE X cc W b tb f2) : DE X cc W (.IfExp c a b pos) (tIf t ta tb) (dIf c1 f1 f2) := ⟨pe_ifExp hc.p ha.p hb.p, snd_if hc.s ha.s hb.s⟩
/-! built-in functions -/
theorem de_cb {x : Str} {id : String} {r : List V → Hp → VK → Prop} {g : List D → Option D} {p : Pos} (hc : CallR X (.builtin id) r) (hk : OkRL r g) (hm : X.mg x = none) (hv : bootBuiltins x = some (.builtin id)) (ha : DA X cc W (e :: es) tl fs) (hn : x ≠ "__name__" := by decide) (hg : Gl X x := by rfl) (hdb : (x == ("__debug__" : Str)) = false := by decide)
    (he : starEach (e :: es) X.env = (false, eval e X.env) :: starEach es X.env := by rfl) (hpl : (backTo pos (starEach es X.env)).any (·.1) = false := by rfl) : DE X cc W (.Call (.Name x p) (e :: es) [] pos) (tCB r tl) (dBL g fs) := ⟨pe_callB hc hg hm hv ha.p hn hdb he hpl, snd_cb hk ha.s⟩
theorem de_ct {x : Str} {T : String} {r : List V → Hp → VK → Prop} {g : List D → Option D} {p : Pos} (hc : CallR X (.type T) r) (hk : OkRL r g) (hm : X.mg x = none) (hv : bootBuiltins x = some (.type T)) (ha : DA X cc W (e :: es) tl fs) (hn : x ≠ "__name__" := by decide) (hg : Gl X x := by rfl) (hdb : (x == ("__debug__" : Str)) = false := by decide)
    (he : starEach (e :: es) X.env = (false, eval e X.env) :: starEach es X.env := by rfl) (hpl : (backTo pos (starEach es X.env)).any (·.1) = false := by rfl) : DE X cc W (.Call (.Name x p) (e :: es) [] pos) (tCB r tl) (dBL g fs) := ⟨pe_callTy hc hg hm hv ha.p hn hdb he hpl, snd_cb hk ha.s⟩
theorem de_slice (K : PySem.W.Frag) {lo hi : Option Expr} {t1 t2 : TO} {o1 o2 : Den (Option Int)} {p2 : Pos} (he : DE X cc W e te f) (hl : DO X cc W lo t1 o1) (hh : DO X cc W hi t2 o2) (hK : X.K = K := by rfl) : DE X cc W (.Subscript e (.Slice lo hi none p2) pos) (tSl (rSlL K) te t1 t2) (dSl f o1 o2) := by
  subst hK
  exact ⟨pe_slice sl_list he.p hl.p hh.p, snd_sl he.s hl.s hh.s⟩
theorem do_none : DO X cc W none tNoPart dNoP := ⟨po_none, sno_none⟩
theorem do_some (he : DE X cc W e te f) : DO X cc W (some e) (tPart te) (dP f) := ⟨po_some he.p, sno_some he.s⟩
theorem de_rev (K : PySem.W.Frag) {k : Nat} {p1 p2 p3 : Pos} (he : DE X cc W e te f) (hK : X.K = K := by rfl) : DE X cc W (.Subscript e (.Slice none none (some (.UnaryOp .USub (.Constant (.int 1) k p1) p2)) p3) pos) (tRevL K te) (dB1 gRev f) := by
  subst hK
  exact ⟨pe_revL he.p, snd_rev he.s⟩
theorem de_isA (K : PySem.W.Frag) {p p2 : Pos} (T : Ty) (hm : X.mg "isinstance" = none) (hv : bootBuiltins "isinstance" = some (.builtin "isinstance")) {y : Str} (hm2 : X.mg y = none) (hv2 : bootBuiltins y = some (.type T.nm)) (ha : DE X cc W e te f) (hg : Gl X "isinstance" := by rfl) (hg2 : Gl X y := by rfl) (hn : y ≠ "__name__" := by decide) (hd : (y == ("__debug__" : Str)) = false := by decide)
    (h1 : starEach [e, .Name y p2] X.env = (false, eval e X.env) :: starEach [.Name y p2] X.env := by rfl) (h2 : starEach [.Name y p2] X.env = [(false, eval (.Name y p2) X.env)] := by rfl) (h3 : (backTo pos (starEach [.Name y p2] X.env)).any (·.1) = false := by rfl) (hK : X.K = K := by rfl) :
    DE X cc W (.Call (.Name "isinstance" p) [e, .Name y p2] [] pos) (tCB (rIsi K) (tCons te (tCons (tC (.ty T.nm)) tNil))) (dB1 (gIsA T) f) := by
  subst hK
  exact ⟨pe_callB call_isi hg hm hv (pa_cons ha.p (pa_cons (pe_bltn hg2 hm2 hv2 rfl hn hd) pa_nil h2) h1) (by decide) (by decide) h1 h3, snd_isA ha.s⟩
/-! own functions -/
end

/-- the def x keeps C, at level k -/
def Fp (P : Program) (w : World) (K : PySem.W.Frag) (mg : Str → Option Value) (base : Heap) (cc : Cc) (x : Str) (k : Nat) (C : PFn) : Prop :=
  ∃ (f : Addr) (fd : FuncData) (ps : List Str), FnOk P w K mg base (L2.CX P w) k f fd ps (spP cc C) ∧ mg x = some (.ref f) ∧ PySem.W.keepIn K (.ref f) = true ∧ Binds K fd ps []
section
variable {X : Cx} {cc : Cc} {W : WX} {a b c e o : Expr} {ta tb tc te to : TE} {f g h f1 f2 f3 : Den D} {pos : Pos} {es : List Expr} {tl : TA} {fs : Den (List D)} {k j : Nat}
theorem de_call {x : Str} {C : PFn} {p : Pos} (F : Fp X.prog X.w X.K X.mg X.base cc x j C) (hr : Room k X.A) (hj : j ≤ k) (tk : Takes X W) (ha : DA X cc W (e :: es) tl fs) (hg : Gl X x := by rfl) (hdb : (x == ("__debug__" : Str)) = false := by decide)
    (he : starEach (e :: es) X.env = (false, eval e X.env) :: starEach es X.env := by rfl) (hpl : (backTo pos (starEach es X.env)).any (·.1) = false := by rfl) : DE X cc W (.Call (.Name x p) (e :: es) [] pos) (tCallS (spP cc C) (WE W) tl) (dCall C fs) := by
  obtain ⟨f, fd, ps, F, hm, hk, hb⟩ := F
  exact ⟨pe_callS F (hr.mono hj) hg hm hk hb (fun σ => passAt tk σ) ha.p hdb he hpl, snd_call ha.s⟩
/-! statements -/
theorem dss_nil : DSs X cc W [] tNext dSkip := ⟨pss_nil, sns_skip⟩
theorem dss_cons {st : Stmt} {rest : List Stmt} {t u : TS} {G1 G2 : Den Fl} (h1 : DS X cc W st t G1) (h2 : DSs X cc W rest u G2) : DSs X cc W (st :: rest) (tSeq t u) (dSeq G1 G2) := ⟨pss_cons h1.p h2.p, sns_seq h1.s h2.s⟩
theorem dss_one {st : Stmt} {t : TS} {G : Den Fl} (h1 : DS X cc W st t G) : DSs X cc W [st] t G := ⟨pss_one h1.p, h1.s⟩
theorem ds_expr (he : DE X cc W e te f) (hs : swapsWith e none pos.line X.env = pure false := by rfl) : DS X cc W (.Expr e pos) (tDrop te) (dExp f) := ⟨ps_expr he.p hs, sns_exp he.s⟩
theorem ds_ret (he : DE X cc W e te f) : DS X cc W (.Return (some e) pos) (tRet te) (dRet f) := ⟨ps_ret he.p, sns_ret he.s⟩
theorem ds_if {A B : List Stmt} {t : TT} {u v : TS} {c1 : Den Bool} {G1 G2 : Den Fl} (hc : DT X cc W c t c1) (h1 : DSs X cc W A u G1) (h2 : DSs X cc W B v G2) : DS X cc W (.If c A B pos) (tIfS t u v) (dIfS c1 G1 G2) := ⟨ps_if hc.p h1.p h2.p, sns_if hc.s h1.s h2.s⟩
theorem dg_n (i : Nat) {x : Str} (hN : X.N.Nodup) (hx : Loc X.env.scope x := by first | exact Or.inl rfl | exact Or.inr rfl) (hi : X.N[i]? = some x := by rfl) (hf : X.fn x = true ∨ X.env.scope.names.lookup x = some .local := by first | exact .inl rfl | exact .inr rfl) : DG X cc (.Name x pos) (gName i) (.n i) := ⟨pg_name hN hi hx hf, sng_name⟩
/-- the names of a tuple -/
structure DGs (X : Cx) (es : List Expr) (is : List Nat) : Prop where
  p : PGs X es (gNames is)
theorem dgs_nil : DGs X [] [] := ⟨pgs_nil⟩
theorem dgs_cons {x : Str} {p : Pos} {is : List Nat} (i : Nat) (hN : X.N.Nodup) (h2 : DGs X es is) (hx : Loc X.env.scope x := by first | exact Or.inl rfl | exact Or.inr rfl) (hi : X.N[i]? = some x := by rfl) (hf : X.fn x = true ∨ X.env.scope.names.lookup x = some .local := by first | exact .inl rfl | exact .inr rfl)
    (hs : (assignEach (.Name x p :: es) X.env).map (·.2) = assign (.Name x p) X.env :: (assignEach es X.env).map (·.2) := by rfl) : DGs X (.Name x p :: es) (i :: is) := ⟨pgs_cons (pg_name hN hi hx hf) h2.p hs⟩
theorem dg_t (K : PySem.W.Frag) {is : List Nat} {kk : Nat} (h : DGs X es is) (hc : X.calm = true := by rfl) (hn : (assignEach es X.env).length = is.length := by rfl) (hst : (assignEach es X.env).findIdx? (·.1) = none := by rfl) (hK : X.K = K := by rfl) : DG X cc (.Tuple es kk pos) (L2.gTup K is.length (gNames is)) (.t is) := by
  subst hK
  exact ⟨pg_tup hc h.p hn hst, sng_tup rfl⟩
theorem ds_asg {tg : Expr} {t : TG} {G : Tg} (he : DE X cc W e te f) (hg : DG X cc tg t G) (hs : swapsWithSole [tg] e pos.line X.env = pure false := by rfl) (hw : swappedStores [tg] e X.env = pure none := by rfl) (h1 : (assignEach [tg] X.env).map (·.2) = [assign tg X.env] := by rfl) : DS X cc W (.Assign [tg] e pos) (tAsg te t) (dAsgT G f) := ⟨ps_asg he.p hg.p hs hw h1, sns_asgT hg.s he.s⟩
theorem ds_set (i : Nat) {x : Str} {p : Pos} (hN : X.N.Nodup) (he : DE X cc W e te f) (hx : Loc X.env.scope x := by first | exact Or.inl rfl | exact Or.inr rfl) (hi : X.N[i]? = some x := by rfl) (hs : swapsWith e (some (.Name x p)) pos.line X.env = pure false := by rfl)
    (hf : X.fn x = true ∨ X.env.scope.names.lookup x = some .local := by first | exact .inl rfl | exact .inr rfl) : DS X cc W (.Assign [.Name x p] e pos) (tAsg te (gName i)) (dAsg i f) := ⟨ps_set hN hi hx he.p hs hf, sns_asg he.s⟩
theorem ds_par {i j : Nat} {x y : Str} {px py pt pt2 : Pos} {kt k2 : Nat} (hN : X.N.Nodup) (hij : i ≠ j) (ha : DA X cc W [a, b] tl fs) (hx : X.env.scope.names.lookup x = some .local := by rfl) (hy : X.env.scope.names.lookup y = some .local := by rfl) (hi : X.N[i]? = some x := by rfl) (hj : X.N[j]? = some y := by rfl) (hc : X.calm = true := by rfl)
    (hw : swappedStores [.Tuple [.Name x px, .Name y py] kt pt] (.Tuple [a, b] k2 pt2) X.env = pure (some [x, y]) := by rfl)
    (hs : swapsWithSole [.Tuple [.Name x px, .Name y py] kt pt] (.Tuple [a, b] k2 pt2) pos.line X.env = pure false := by rfl) : DS X cc W (.Assign [.Tuple [.Name x px, .Name y py] kt pt] (.Tuple [a, b] k2 pt2) pos) (tPar i j tl) (dPar [i, j] fs) := ⟨ps_par hc hN hi hj hij hx hy ha.p hw hs, sns_par ha.s⟩
theorem ds_par3 {i j l : Nat} {x y z : Str} {px py pz pt pt2 : Pos} {kt k2 : Nat} (hN : X.N.Nodup) (hij : i ≠ j) (hil : i ≠ l) (hjl : j ≠ l) (ha : DA X cc W [a, b, c] tl fs) (hx : X.env.scope.names.lookup x = some .local := by rfl) (hy : X.env.scope.names.lookup y = some .local := by rfl) (hz : X.env.scope.names.lookup z = some .local := by rfl)
    (hi : X.N[i]? = some x := by rfl) (hj : X.N[j]? = some y := by rfl) (hl : X.N[l]? = some z := by rfl) (hc : X.calm = true := by rfl)
    (hw : swappedStores [.Tuple [.Name x px, .Name y py, .Name z pz] kt pt] (.Tuple [a, b, c] k2 pt2) X.env = pure (some [x, y, z]) := by rfl)
    (hs : swapsWithSole [.Tuple [.Name x px, .Name y py, .Name z pz] kt pt] (.Tuple [a, b, c] k2 pt2) pos.line X.env = pure false := by rfl) : DS X cc W (.Assign [.Tuple [.Name x px, .Name y py, .Name z pz] kt pt] (.Tuple [a, b, c] k2 pt2) pos) (tPar3 i j l tl) (dPar [i, j, l] fs) := ⟨ps_par3 hc hN hi hj hl hij hil hjl hx hy hz ha.p hw hs, sns_par3 ha.s⟩
theorem ds_aug {op : Operator} {g : Int → Int → Int} (i : Nat) {x : Str} {p : Pos} (ho : PIp X op (ipI g)) (hN : X.N.Nodup) (he : DE X cc W e te f) (hx : Loc X.env.scope x := by first | exact Or.inl rfl | exact Or.inr rfl) (hi : X.N[i]? = some x := by rfl)
    (hf : X.fn x = true ∨ X.env.scope.names.lookup x = some .local := by first | exact .inl rfl | exact .inr rfl) : DS X cc W (.AugAssign (.Name x p) op e pos) (tAug i te (ipI g)) (dAug i g f) := ⟨ps_aug hN hi hx he.p ho hf, sns_aug he.s⟩
theorem ds_ext (i : Nat) {x : Str} {p : Pos} (hN : X.N.Nodup) (he : DE X cc W e te f) (hx : Loc X.env.scope x := by first | exact Or.inl rfl | exact Or.inr rfl) (hi : X.N[i]? = some x := by rfl)
    (hf : X.fn x = true ∨ X.env.scope.names.lookup x = some .local := by first | exact .inl rfl | exact .inr rfl) : DS X cc W (.AugAssign (.Name x p) .Add e pos) (tAug i te rExt2) (dExt i f) := ⟨ps_aug hN hi hx he.p iop_ext hf, sns_ext he.s⟩
/-- x = [..], written later -/
theorem ds_own (i : Nat) {x : Str} {p p2 : Pos} (hN : X.N.Nodup) (ha : DA X cc W es tl fs) (hx : Loc X.env.scope x := by first | exact Or.inl rfl | exact Or.inr rfl) (hi : X.N[i]? = some x := by rfl) (hs : swapsWith (.List es p2) (some (.Name x p)) pos.line X.env = pure false := by rfl)
    (hf : X.fn x = true ∨ X.env.scope.names.lookup x = some .local := by first | exact .inl rfl | exact .inr rfl) : DS X cc W (.Assign [.Name x p] (.List es p2) pos) (tAsg (tLst tl) (gName i)) (dOwn i fs) := ⟨ps_set hN hi hx (pe_lst ha.p) hs hf, sns_own ha.s⟩
theorem ds_ownL (i : Nat) {x : Str} {p p2 p3 : Pos} (hN : X.N.Nodup) (hm : X.mg "list" = none) (hv : bootBuiltins "list" = some (.type "list")) (he : DE X cc W e te f) (hg : Gl X "list" := by rfl) (hx : Loc X.env.scope x := by first | exact Or.inl rfl | exact Or.inr rfl) (hi : X.N[i]? = some x := by rfl) (hs : swapsWith (.Call (.Name "list" p2) [e] [] p3) (some (.Name x p)) pos.line X.env = pure false := by rfl)
    (hf : X.fn x = true ∨ X.env.scope.names.lookup x = some .local := by first | exact .inl rfl | exact .inr rfl) (h1 : starEach [e] X.env = [(false, eval e X.env)] := by rfl) : DS X cc W (.Assign [.Name x p] (.Call (.Name "list" p2) [e] [] p3) pos) (tAsg (tCB (rListOf X.K) (tCons te tNil)) (gName i)) (dOwnL i f) :=
  ⟨ps_set hN hi hx (pe_callTy call_list_of hg hm hv (pa_cons he.p pa_nil h1) (by decide) (by decide) h1 (by rfl)) hs hf, sns_ownL he.s⟩
theorem ds_app (i : Nat) {x : Str} {p p2 p3 : Pos} (he : DE X cc W e te f) (hN : X.N[i]? = some x := by rfl) (hv : Vis X.env.scope x := by first | exact Or.inl rfl | exact Or.inr (Or.inl rfl) | exact Or.inr (Or.inr rfl)) (hd : (x == ("__debug__" : Str)) = false := by decide)
    (hcd : (x == ("__classdict__" : Str)) = false := by decide) (h1 : starEach [e] X.env = [(false, eval e X.env)] := by rfl)
    (hb : attributeBase (.Name x p) "append" X.env (eval (.Name x p) X.env) = eval (.Name x p) X.env := by rfl)
    (hfew : ((backTo p3 (starEach [e] X.env)).all (fun x => !x.1) && (backToKw p3 (keywordEach [] X.env)).all (fun x => x.1.isSome) && decide ([e].length + ([] : List Keyword).length + (if ([] : List Keyword).isEmpty then 0 else 1) < 30)) = true := by rfl) (hline : (p2.endLine == p3.line) = true := by rfl)
    (hs : swapsWith (.Call (.Attribute (.Name x p) "append" p2) [e] [] p3) none pos.line X.env = pure false := by rfl) : DS X cc W (.Expr (.Call (.Attribute (.Name x p) "append" p2) [e] [] p3) pos) (tDrop (tBM X.K "list" rAppend (tVar i) (tCons te tNil))) (dApp i f) :=
  ⟨ps_expr (pe_bm PySem.F.plainAttrs_list PySem.F.slot_list_append PySem.F.type_list_append mt_append (pe_var hN hv hd hcd) (pa_cons he.p pa_nil h1) hb hfew hline h1 (by rfl)) hs, sns_app he.s⟩
theorem ds_rem (i : Nat) {x : Str} {p p2 p3 : Pos} (he : DE X cc W e te f) (hN : X.N[i]? = some x := by rfl) (hv : Vis X.env.scope x := by first | exact Or.inl rfl | exact Or.inr (Or.inl rfl) | exact Or.inr (Or.inr rfl)) (hd : (x == ("__debug__" : Str)) = false := by decide)
    (hcd : (x == ("__classdict__" : Str)) = false := by decide) (h1 : starEach [e] X.env = [(false, eval e X.env)] := by rfl)
    (hb : attributeBase (.Name x p) "remove" X.env (eval (.Name x p) X.env) = eval (.Name x p) X.env := by rfl)
    (hfew : ((backTo p3 (starEach [e] X.env)).all (fun x => !x.1) && (backToKw p3 (keywordEach [] X.env)).all (fun x => x.1.isSome) && decide ([e].length + ([] : List Keyword).length + (if ([] : List Keyword).isEmpty then 0 else 1) < 30)) = true := by rfl) (hline : (p2.endLine == p3.line) = true := by rfl)
    (hs : swapsWith (.Call (.Attribute (.Name x p) "remove" p2) [e] [] p3) none pos.line X.env = pure false := by rfl) : DS X cc W (.Expr (.Call (.Attribute (.Name x p) "remove" p2) [e] [] p3) pos) (tDrop (tBM X.K "list" rRemI (tVar i) (tCons te tNil))) (dRem i f) :=
  ⟨ps_expr (pe_bm PySem.F.plainAttrs_list PySem.F.slot_list_remove PySem.F.type_list_remove mt_remove (pe_var hN hv hd hcd) (pa_cons he.p pa_nil h1) hb hfew hline h1 (by rfl)) hs, sns_rem he.s⟩
theorem ds_for {tg iter : Expr} {body : List Stmt} {wi : TI} {it : Den (List D)} {t : TG} {g : Tg} {tb : TS} {G : Den Fl} (hp : PassesOwn (model X.prog X.w) X.A X.env X.xe) (hi : DI X cc W tg iter wi it) (hg : DG X cc tg t g) (hb : DSs X cc W body tb G) (hc : X.calm = true := by rfl) (hs : ∀ x, foldedSetIterable iter X.env x = pure x := by intro _; rfl) :
    DS X cc W (.For tg iter body [] pos) (tFor wi t tb) (dFor it g G) := ⟨ps_for hp hc hi.p hg.p hb.p hs, sns_for hi.s hg.s hb.s⟩
theorem ds_while {t : TT} {body : List Stmt} {tb : TS} {c1 : Den Bool} {G : Den Fl} (n : Nat) (hp : PassesOwn (model X.prog X.w) X.A X.env X.xe) (hc : DT X cc W c t c1) (hb : DSs X cc W body tb G) : DS X cc W (.While c body [] pos) (tWhile t tb) (dWhile c1 G n) := ⟨ps_while hp hc.p hb.p, sns_while hc.s hb.s⟩
/-! what is walked -/
theorem di_list (K : PySem.W.Frag) {tg : Expr} (he : DE X cc W e te f) (hK : X.K = K := by rfl) : DI X cc W tg e (iList K te) (dB1 asL f) := by
  subst hK
  exact ⟨pi_list he.p, sni_list he.s⟩
theorem di_tup (K : PySem.W.Frag) {tg : Expr} (he : DE X cc W e te f) (hK : X.K = K := by rfl) : DI X cc W tg e (iTup K te) (dB1 asT f) := by
  subst hK
  exact ⟨pi_tup he.p, sni_tup he.s⟩
theorem di_rng1 {tg : Expr} {p : Pos} (hm : X.mg "range" = none) (ha : DA X cc W [a] tl fs) (hg : Gl X "range" := by rfl) (hs : starEach [a] X.env = [(false, eval a X.env)] := by rfl) : DI X cc W tg (.Call (.Name "range" p) [a] [] pos) (iRng1 tl) (dBL gRng1 fs) := ⟨pi_range1 hg hm ha.p hs, sni_rng1 ha.s⟩
theorem di_rng2 {tg : Expr} {p : Pos} (hm : X.mg "range" = none) (ha : DA X cc W [a, b] tl fs) (hg : Gl X "range" := by rfl) (hs : starEach [a, b] X.env = [(false, eval a X.env), (false, eval b X.env)] := by rfl) (hs2 : starEach [b] X.env = [(false, eval b X.env)] := by rfl) : DI X cc W tg (.Call (.Name "range" p) [a, b] [] pos) (iRng2 tl) (dBL gRng2 fs) := ⟨pi_range2 hg hm ha.p hs hs2, sni_rng2 ha.s⟩
theorem di_zip (K : PySem.W.Frag) {elts : List Expr} {kk : Nat} {tpos p : Pos} (hm : X.mg "zip" = none) (ha : DA X cc W [a, b] tl fs) (hg : Gl X "zip" := by rfl) (hs : starEach [a, b] X.env = (false, eval a X.env) :: starEach [b] X.env := by rfl) (hpl : (backTo pos (starEach [b] X.env)).any (·.1) = false := by rfl) (hK : X.K = K := by rfl) :
    DI X cc W (.Tuple elts kk tpos) (.Call (.Name "zip" p) [a, b] [] pos) (iZip K tl) (dBL gZip fs) := by
  subst hK
  exact ⟨pi_zip hg hm ha.p hs hpl, sni_zip ha.s⟩
theorem di_enum (K : PySem.W.Frag) {elts : List Expr} {kk : Nat} {tpos p : Pos} (hm : X.mg "enumerate" = none) (ha : DA X cc W [a] tl fs) (hg : Gl X "enumerate" := by rfl) (hs : starEach [a] X.env = [(false, eval a X.env)] := by rfl) (hK : X.K = K := by rfl) :
    DI X cc W (.Tuple elts kk tpos) (.Call (.Name "enumerate" p) [a] [] pos) (iEnum K tl) (dBL gEnum fs) := by
  subst hK
  exact ⟨pi_enum hg hm ha.p hs, sni_enum ha.s⟩
end

/-! ### comprehensions -/
structure DTs (X : Cx) (cc : Cc) (W : WX) (es : List Expr) (t : TT) (f : Den Bool) : Prop where
  p : PTs X es t
  s : SndT cc W t f
section
variable {X : Cx} {cc : Cc} {W : WX} {c elt tg iter : Expr} {te : TE} {f : Den D} {pos : Pos} {k : Nat}
theorem dts_nil : DTs X cc W [] tYes dYes := ⟨pts_nil, snt_yes⟩
theorem dts_one {t : TT} {c1 : Den Bool} (h : DT X cc W c t c1) : DTs X cc W [c] t c1 := ⟨pts_one h.p, h.s⟩
variable {ifs : List Expr} {scope : Scope} {wi : TI} {g : TG} {tt : TT} {it : Den (List D)} {G : Tg} {c1 : Den Bool}
theorem de_lc (own : List (Str × Nat)) (hN : X.N.Nodup) (hi : DI X cc W tg iter wi it) (ok : BlkOk X.N X.env.scope scope own)
    (hg : ∀ (s : Shared) (H : Hp) (C : Addr) (cl : List (Str × Addr)) (fp : List Addr), DG (X.blk s H scope (compEnvC scope cl C X.env) fp) cc tg g G)
    (ht : ∀ (s : Shared) (H : Hp) (C : Addr) (cl : List (Str × Addr)) (fp : List Addr), DTs (X.blk s H scope (compEnvC scope cl C X.env) fp) cc WF ifs tt c1)
    (he : ∀ (s : Shared) (H : Hp) (C : Addr) (cl : List (Str × Addr)) (fp : List Addr), DE (X.blk s H scope (compEnvC scope cl C X.env) fp) cc WF elt te f)
    (hv : tgIn G (own.map (·.2)) = true := by rfl) (hc : X.calm = true := by rfl) (hs : ∀ x, foldedSetIterable iter X.env x = pure x := by intro _; rfl) :
    DE X cc W (.ListComp elt [⟨tg, iter, ifs, 0⟩] scope pos) (tLc wi g tt te (own.map (·.2))) (dLc it G c1 f (own.map (·.2))) :=
  ⟨pe_lc hc hN hi.p ok (fun s H C cl fp => (hg s H C cl fp).p) (fun s H C cl fp => (ht s H C cl fp).p) (fun s H C cl fp => (he s H C cl fp).p) hs,
    snd_lc hi.s (hg X.s_0 X.H_0 0 [] []).s (ht X.s_0 X.H_0 0 [] []).s (he X.s_0 X.H_0 0 [] []).s hv⟩
/-- y = [..] on one line -/
theorem ds_setLc (i : Nat) (own : List (Str × Nat)) {y : Str} {py spos : Pos} (hN : X.N.Nodup) (hi : DI X cc W tg iter wi it) (ok : BlkOk X.N X.env.scope scope own)
    (hg : ∀ (s : Shared) (H : Hp) (C : Addr) (cl : List (Str × Addr)) (fp : List Addr), DG (X.blk s H scope (compEnvC scope cl C X.env) fp) cc tg g G)
    (ht : ∀ (s : Shared) (H : Hp) (C : Addr) (cl : List (Str × Addr)) (fp : List Addr), DTs (X.blk s H scope (compEnvC scope cl C X.env) fp) cc WF ifs tt c1)
    (he : ∀ (s : Shared) (H : Hp) (C : Addr) (cl : List (Str × Addr)) (fp : List Addr), DE (X.blk s H scope (compEnvC scope cl C X.env) fp) cc WF elt te f)
    (hsw : swapsWith (.ListComp elt [⟨tg, iter, ifs, 0⟩] scope pos) (some (.Name y py)) spos.line X.env = pure true)
    (hyl : X.env.scope.names.lookup y = some .local := by rfl) (hy : X.N[i]? = some y := by rfl) (hv : tgIn G (own.map (·.2)) = true := by rfl) (hc : X.calm = true := by rfl) (hs : ∀ x, foldedSetIterable iter X.env x = pure x := by intro _; rfl) :
    DS X cc W (.Assign [.Name y py] (.ListComp elt [⟨tg, iter, ifs, 0⟩] scope pos) spos) (tAsg (tLc wi g tt te (own.map (·.2))) (gName i)) (dAsg i (dLc it G c1 f (own.map (·.2)))) :=
  ⟨ps_setLc hc hN hy hyl hsw hi.p ok (fun s H C cl fp => (hg s H C cl fp).p) (fun s H C cl fp => (ht s H C cl fp).p) (fun s H C cl fp => (he s H C cl fp).p) hs,
    sns_asg (snd_lc hi.s (hg X.s_0 X.H_0 0 [] []).s (ht X.s_0 X.H_0 0 [] []).s (he X.s_0 X.H_0 0 [] []).s hv)⟩
end

/-! ### raise -/
structure Xc (K : PySem.W.Frag) (mg : Str → Option Value) (x : Str) (C : Addr) : Prop where
  g : mg x = some (.ref C)
  x : PySem.W.excIn K C [.type "ValueError", .type "Exception", .type "BaseException", .type "object"] "ValueError.__new__" = true
  k : PySem.W.keepIn K (.ref C) = true
  b : PySem.W.subIn K (.ref C) (.type "BaseException") = some true
  t : PySem.W.typeIn K (.ref C) = some (.type "type")
section
variable {X : Cx} {cc : Cc} {W : WX} {pos : Pos}
theorem ds_raise {x m : Str} {k : EK} {j : Nat} {p p1 p2 : Pos} (T : Xc X.K X.mg x (cc.cl k)) (tk : Takes X W) (hg : Gl X x := by rfl) (hdb : (x == ("__debug__" : Str)) = false := by decide) (hc : X.calm = true := by rfl) :
    DS X cc W (.Raise (some (.Call (.Name x p) [.Constant (.str m) j p1] [] p2)) none pos) (fun _ σ H => (fun _ H Q => Q (.ref (cc.cl k)) none H : L2.St → Hp → XK → Prop) σ H fun cls d H' => W cls d σ H') (dRaise k) :=
  ⟨ps_raise hc tk (pmk_own PySem.F.excBase_ValueError T.x T.g T.k (raises_own T.b T.t) hg hdb), sns_raise fun _ _ _ q => q⟩
end

/-! ### a def of the top -/
def Df (K : PySem.W.Frag) (mg : Str → Option Value) (x : Str) (st : Stmt) : Prop := ∃ (f : Addr) (fd : FuncData), Fun K x x st f fd ∧ mg x = some (.ref f)
theorem df_mk {K : PySem.W.Frag} {h : Heap} {mg : Str → Option Value} {x : Str} {st : Stmt} {f : Addr} {oc kV doc pm cdv ct : Value} {od an : Option Addr} {osl : Array (Option Value)} (X : K.In h) (G : h.Ns mainGlobals mg) (a : PySem.W.nsIn K mainGlobals x = some (some (.ref f)))
    (l : K.lookup f = some ⟨oc, od, .func (PySem.W.fnOf x x (defArgs st) (defBody st) (defScope st) .none kV doc pm an cdv ct), osl⟩) (c : PySem.W.codeIn K cdv x = true) (k : PySem.W.keepIn K (.ref f) = true) : Df K mg x st := ⟨f, _, fun_mk l c k, PySem.W.mg_of X G a⟩
/-- a pure def by its body: level k + 1 -/
theorem fp_of {P : Program} {w : World} {K : PySem.W.Frag} {mg : Str → Option Value} {base : Heap} {cc : Cc} {x : Str} {st : Stmt} {N ps : List Str} {k : Nat} (n m : Nat) {G : Den Fl} (d : Df K mg x st) (S : FnScope N ps (defScope st))
    (hn : ps.length = n) (hm : N.length = n + m) (hb : ∀ (kV doc pm : Value) (an : Option Addr) (cdv ct : Value) (us : List Value), us.length = ps.length → bindArgs (PySem.W.fnOf x x (defArgs st) (defBody st) (defScope st) .none kV doc pm an cdv ct) ⟨us, []⟩ = pure (ps.zip us))
    (hbody : ∀ (f : Addr) (cdv : Value) (A : Around) (outer : List Env) (s : Shared) (H : Hp) (E : XK), Room k (A.deeper (envOfC x (defScope st) s.heap.objs.size f cdv)) →
      ∃ t, DSs (cxOf (L2.CX P w) P w K mg base N x (defScope st) f cdv A outer s H E) cc (fun cls d _ H' => E cls d H') (defBody st) t G) :
    Fp P w K mg base cc x (k + 1) (runP n m G) := by
  obtain ⟨f, fd, F, hg⟩ := d
  refine ⟨f, fd, ps, fn_pure F S hn hm fun cdv A outer s H E hr => ?_, hg, F.kp, F.binds hb⟩
  obtain ⟨t, ht⟩ := hbody f cdv A outer s H E hr
  exact ⟨t, ht.p, ht.s⟩
end GG

namespace GG
open PySem PySem.Spec PyProof.Rows L2

/-! ### the built-ins' names -/
theorem bb_len : bootBuiltins "len" = some (.builtin "len") := by decide +kernel
theorem bb_max : bootBuiltins "max" = some (.builtin "max") := by decide +kernel
theorem bb_min : bootBuiltins "min" = some (.builtin "min") := by decide +kernel
theorem bb_sum : bootBuiltins "sum" = some (.builtin "sum") := by decide +kernel
theorem bb_all : bootBuiltins "all" = some (.builtin "all") := by decide +kernel
theorem bb_sorted : bootBuiltins "sorted" = some (.builtin "sorted") := by decide +kernel
theorem bb_isinstance : bootBuiltins "isinstance" = some (.builtin "isinstance") := by decide +kernel
theorem bb_list : bootBuiltins "list" = some (.type "list") := by decide +kernel
theorem bb_tuple : bootBuiltins "tuple" = some (.type "tuple") := by decide +kernel
theorem bb_int : bootBuiltins "int" = some (.type "int") := by decide +kernel
theorem bb_bool : bootBuiltins "bool" = some (.type "bool") := by decide +kernel
theorem bb_str : bootBuiltins "str" = some (.type "str") := by decide +kernel
/-- none of these is a name of the module -/
structure Bt (mg : Str → Option Value) : Prop where
  len : mg "len" = none
  range : mg "range" = none
  max : mg "max" = none
  min : mg "min" = none
  sum : mg "sum" = none
  all : mg "all" = none
  sorted : mg "sorted" = none
  isinstance : mg "isinstance" = none
  list : mg "list" = none
  tuple : mg "tuple" = none
  int : mg "int" = none
  bool : mg "bool" = none
  str : mg "str" = none
  zip : mg "zip" = none
  enumerate : mg "enumerate" = none
  set : mg "set" = none
theorem bt_mk {K : PySem.W.Frag} {h : Heap} {mg : Str → Option Value} (X : K.In h) (G : h.Ns mainGlobals mg)
    (z1 : PySem.W.nsIn K mainGlobals "len" = some none) (z2 : PySem.W.nsIn K mainGlobals "range" = some none) (z3 : PySem.W.nsIn K mainGlobals "max" = some none) (z4 : PySem.W.nsIn K mainGlobals "min" = some none)
    (z5 : PySem.W.nsIn K mainGlobals "sum" = some none) (z6 : PySem.W.nsIn K mainGlobals "all" = some none) (z7 : PySem.W.nsIn K mainGlobals "sorted" = some none) (z8 : PySem.W.nsIn K mainGlobals "isinstance" = some none)
    (z9 : PySem.W.nsIn K mainGlobals "list" = some none) (z10 : PySem.W.nsIn K mainGlobals "tuple" = some none) (z11 : PySem.W.nsIn K mainGlobals "int" = some none) (z12 : PySem.W.nsIn K mainGlobals "bool" = some none)
    (z13 : PySem.W.nsIn K mainGlobals "str" = some none) (z14 : PySem.W.nsIn K mainGlobals "zip" = some none) (z15 : PySem.W.nsIn K mainGlobals "enumerate" = some none) (z16 : PySem.W.nsIn K mainGlobals "set" = some none) : Bt mg :=
  ⟨PySem.W.mg_none_of X G z1, PySem.W.mg_none_of X G z2, PySem.W.mg_none_of X G z3, PySem.W.mg_none_of X G z4, PySem.W.mg_none_of X G z5, PySem.W.mg_none_of X G z6, PySem.W.mg_none_of X G z7, PySem.W.mg_none_of X G z8,
    PySem.W.mg_none_of X G z9, PySem.W.mg_none_of X G z10, PySem.W.mg_none_of X G z11, PySem.W.mg_none_of X G z12, PySem.W.mg_none_of X G z13, PySem.W.mg_none_of X G z14, PySem.W.mg_none_of X G z15, PySem.W.mg_none_of X G z16⟩
section
variable {X : Cx} {cc : Cc} {W : WX} {e : Expr} {es : List Expr} {tl : TA} {fs : Den (List D)} {pos p : Pos}
theorem de_len (K : PySem.W.Frag) (B : Bt X.mg) (ha : DA X cc W (e :: es) tl fs) (hg : Gl X "len" := by rfl) (he : starEach (e :: es) X.env = (false, eval e X.env) :: starEach es X.env := by rfl) (hpl : (backTo pos (starEach es X.env)).any (·.1) = false := by rfl) (hK : X.K = K := by rfl) :
    DE X cc W (.Call (.Name "len" p) (e :: es) [] pos) (tCB (rLen' K) tl) (dBL gLen fs) := by
  subst hK
  exact de_cb cr_len' ok_len B.len bb_len ha (by decide) hg (by decide) he hpl
theorem de_max (K : PySem.W.Frag) (B : Bt X.mg) (ha : DA X cc W (e :: es) tl fs) (hg : Gl X "max" := by rfl) (he : starEach (e :: es) X.env = (false, eval e X.env) :: starEach es X.env := by rfl) (hpl : (backTo pos (starEach es X.env)).any (·.1) = false := by rfl) (hc : X.calm = true := by rfl) (hK : X.K = K := by rfl) :
    DE X cc W (.Call (.Name "max" p) (e :: es) [] pos) (tCB (rMax' K) tl) (dBL gMax fs) := by
  subst hK
  exact de_cb (cr_max' hc) ok_max B.max bb_max ha (by decide) hg (by decide) he hpl
theorem de_min (K : PySem.W.Frag) (B : Bt X.mg) (ha : DA X cc W (e :: es) tl fs) (hg : Gl X "min" := by rfl) (he : starEach (e :: es) X.env = (false, eval e X.env) :: starEach es X.env := by rfl) (hpl : (backTo pos (starEach es X.env)).any (·.1) = false := by rfl) (hc : X.calm = true := by rfl) (hK : X.K = K := by rfl) :
    DE X cc W (.Call (.Name "min" p) (e :: es) [] pos) (tCB (rMin' K) tl) (dBL gMin fs) := by
  subst hK
  exact de_cb (cr_min' hc) ok_min B.min bb_min ha (by decide) hg (by decide) he hpl
theorem de_sum (K : PySem.W.Frag) (B : Bt X.mg) (ha : DA X cc W (e :: es) tl fs) (hg : Gl X "sum" := by rfl) (he : starEach (e :: es) X.env = (false, eval e X.env) :: starEach es X.env := by rfl) (hpl : (backTo pos (starEach es X.env)).any (·.1) = false := by rfl) (hc : X.calm = true := by rfl) (hK : X.K = K := by rfl) :
    DE X cc W (.Call (.Name "sum" p) (e :: es) [] pos) (tCB (rSum K) tl) (dBL gSum fs) := by
  subst hK
  exact de_cb (cr_sum hc) ok_sum B.sum bb_sum ha (by decide) hg (by decide) he hpl
theorem de_all (K : PySem.W.Frag) (B : Bt X.mg) (ha : DA X cc W (e :: es) tl fs) (hg : Gl X "all" := by rfl) (he : starEach (e :: es) X.env = (false, eval e X.env) :: starEach es X.env := by rfl) (hpl : (backTo pos (starEach es X.env)).any (·.1) = false := by rfl) (hc : X.calm = true := by rfl) (hK : X.K = K := by rfl) :
    DE X cc W (.Call (.Name "all" p) (e :: es) [] pos) (tCB (rAll K) tl) (dBL gAll fs) := by
  subst hK
  exact de_cb (cr_all hc) ok_all B.all bb_all ha (by decide) hg (by decide) he hpl
theorem de_sorted (K : PySem.W.Frag) (B : Bt X.mg) (ha : DA X cc W (e :: es) tl fs) (hg : Gl X "sorted" := by rfl) (he : starEach (e :: es) X.env = (false, eval e X.env) :: starEach es X.env := by rfl) (hpl : (backTo pos (starEach es X.env)).any (·.1) = false := by rfl) (hK : X.K = K := by rfl) :
    DE X cc W (.Call (.Name "sorted" p) (e :: es) [] pos) (tCB (rSortedI K) tl) (dBL gSorted fs) := by
  subst hK
  exact de_cb cr_sortedI ok_sorted B.sorted bb_sorted ha (by decide) hg (by decide) he hpl
theorem de_list (K : PySem.W.Frag) (B : Bt X.mg) (ha : DA X cc W (e :: es) tl fs) (hg : Gl X "list" := by rfl) (he : starEach (e :: es) X.env = (false, eval e X.env) :: starEach es X.env := by rfl) (hpl : (backTo pos (starEach es X.env)).any (·.1) = false := by rfl) (hK : X.K = K := by rfl) :
    DE X cc W (.Call (.Name "list" p) (e :: es) [] pos) (tCB (rListOf K) tl) (dBL gList fs) := by
  subst hK
  exact de_ct call_list_of ok_list B.list bb_list ha (by decide) hg (by decide) he hpl
theorem de_tuple (K : PySem.W.Frag) (B : Bt X.mg) (ha : DA X cc W (e :: es) tl fs) (hg : Gl X "tuple" := by rfl) (he : starEach (e :: es) X.env = (false, eval e X.env) :: starEach es X.env := by rfl) (hpl : (backTo pos (starEach es X.env)).any (·.1) = false := by rfl) (hK : X.K = K := by rfl) :
    DE X cc W (.Call (.Name "tuple" p) (e :: es) [] pos) (tCB (rTupleOf K) tl) (dBL gTuple fs) := by
  subst hK
  exact de_ct call_tuple_of ok_tuple B.tuple bb_tuple ha (by decide) hg (by decide) he hpl
end

/-! ### functions that take the draws -/
inductive SO where
  | ok (d : D) (ns : List Int) (c : Int)
  | st
abbrev SFn := List Int → Int → List D → SO
def dCallD (P : SFn) (i : Nat) (fs : Den (List D)) : Den D := fun ρ => match ρ[i]? with
  | some (.drw _ _) => (fs ρ).bind fun ds ρ1 => match ρ1[i]? with
    | some (.drw ns c) => (match P ns c ds with
      | .ok d ns' c' => .ok d (ρ1.set i (.drw ns' c'))
      | .st => .st)
    | _ => .st
  | _ => .st
def spD (P : SFn) : Sp := fun vs H Q _ => ∃ (Z : Addr → Prop) (da db : Addr) (ns : List Int) (c : Int) (us : List V) (ds : List D), vs = .ref da :: us ∧ da ≠ db ∧ (∀ x, Z x → H x ≠ none) ∧ Z da ∧ Z db ∧
  H da = some (.lst [.ref db, .int c]) ∧ H db = some (.lst (ns.map V.int)) ∧ Reps H Z ds us ∧ (match P ns c ds with
    | .ok d ns' c' => ∀ v H', (∀ x o, x ≠ da → x ≠ db → H x = some o → H' x = some o) → H' da = some (.lst [.ref db, .int c']) → H' db = some (.lst (ns'.map V.int)) → Rep H' Z d v → Q v H'
    | .st => False)
section
variable {cc : Cc} {fr : Frm} {O : Nat → List Addr} {σ : L2.St} {H H' : Hp} {ρ : Env'}
theorem Rel.drawn (R : Rel cc fr O σ H ρ) {i : Nat} {ns ns' : List Int} {c c' : Int} (hi : ρ[i]? = some (.drw ns c)) (k : ∀ x o, x ≠ fr.da → x ≠ fr.db → H x = some o → H' x = some o) (ha : H' fr.da = some (.lst [.ref fr.db, .int c'])) (hb : H' fr.db = some (.lst (ns'.map V.int))) :
    Rel cc fr O σ H' (ρ.set i (.drw ns' c')) ∧ Mv O H O H' := by
  obtain ⟨h1, h2, h3, h4, h5⟩ := R.slot i _ hi
  have ma : fr.da ∈ O i := by rw [h1]; simp
  have mb : fr.db ∈ O i := by rw [h1]; simp
  have hl : i < ρ.length := (List.getElem?_eq_some_iff.mp hi).1
  have dm : ∀ x, H x ≠ none → H' x ≠ none := fun x hx => by
    by_cases e1 : x = fr.da
    · rw [e1, ha]; simp
    · by_cases e2 : x = fr.db
      · rw [e2, hb]; simp
      · cases q : H x with
        | none => exact absurd q hx
        | some o => rw [k x o e1 e2 q]; simp
  have nd : ∀ x, ¬ Av fr O x → x ≠ fr.da ∧ x ≠ fr.db := fun x hx => ⟨fun z => hx (.inr ⟨i, by rw [z]; exact ma⟩), fun z => hx (.inr ⟨i, by rw [z]; exact mb⟩)⟩
  have kp : ∀ a o, ¬ Av fr O a → H a = some o → H' a = some o ∧ ¬ Av fr O a := fun a o na q => ⟨k a o (nd a na).1 (nd a na).2 q, na⟩
  refine ⟨⟨by simpa using R.len, R.zin, fun x o hx e => ?_, fun x hx => dm x (R.dom x hx), fun j x hx => ⟨(R.own j x hx).1, dm x (R.own j x hx).2⟩, R.dis, fun j ds hj x hx => ?_, fun j s hj => ?_⟩, ⟨fun x o hx e => k x o (fun z => hx i (by rw [z]; exact ma)) (fun z => hx i (by rw [z]; exact mb)) e, fun j x hx => .inl ⟨j, hx⟩, dm⟩⟩
  · refine k x o ?_ ?_ (R.frame x o hx e)
    · rintro rfl
      rcases (R.own i _ ma).1 with z | z
      · rw [e] at z; cases z
      · exact hx z
    · rintro rfl
      rcases (R.own i _ mb).1 with z | z
      · rw [e] at z; cases z
      · exact hx z
  · by_cases e : i = j
    · subst e
      rw [List.getElem?_set_self hl] at hj
      cases hj
    · rw [List.getElem?_set_ne e] at hj
      exact R.new j ds hj x hx
  · by_cases e : i = j
    · subst e
      rw [List.getElem?_set_self hl] at hj
      cases hj
      exact ⟨h1, h2, h3, ha, hb⟩
    · rw [List.getElem?_set_ne e] at hj
      refine (R.slot j s hj).mono kp fun a hm => ?_
      cases q : H a with
      | none => exact absurd q (R.own j a hm).2
      | some o => exact k a o (fun z => e (R.dis i j _ ma (by rw [← z]; exact hm))) (fun z => e (R.dis i j _ mb (by rw [← z]; exact hm))) q
end
section
variable {cc : Cc} {W : WX} {tl : TA} {fs : Den (List D)}
theorem snd_callD {P : SFn} {i : Nat} (hl : SndL cc W tl fs) : SndE cc W (tCallS (spD P) (WE W) (tCons (tVar i) tl)) (dCallD P i fs) := fun fr O σ H ρ Q R p => by
  unfold dCallD at p
  split at p
  · rename_i ns0 c0 e0
    obtain ⟨h1, h2, h3, h4, h5⟩ := R.slot i _ e0
    refine ⟨.ref fr.da, h3, hl fr O σ H ρ _ R (Post.bind p fun ds ρ1 O1 H1 R1 m1 p1 vs hvs => ?_)⟩
    split at p1
    · rename_i ns c e1
      obtain ⟨k1, k2, k3, k4, k5⟩ := R1.slot i _ e1
      have ma : Av fr O1 fr.da := .inr ⟨i, by rw [k1]; simp⟩
      have mb : Av fr O1 fr.db := .inr ⟨i, by rw [k1]; simp⟩
      refine ⟨Av fr O1, fr.da, fr.db, ns, c, vs, ds, rfl, k2, fun x hx => R1.zH hx, ma, mb, k4, k5, hvs, ?_⟩
      cases eq : P ns c ds with
      | st => rw [eq] at p1; exact p1.elim
      | ok d ns' c' =>
        rw [eq] at p1
        intro v H' hk ha hb hv
        obtain ⟨r1, r2⟩ := R1.drawn e1 hk ha hb
        exact p1 O1 H' r1 r2 v hv
    · exact p1.elim
  · exact p.elim
end
def runD (n m : Nat) (G : Den Fl) : SFn := fun ns c ds => if ds.length = n then (match G (Slot.drw ns c :: (ds.map Slot.val ++ List.replicate m Slot.emp)) with
  | Res.ok fl ρ' => (match ρ'[0]? with
    | some (Slot.drw ns' c') => .ok (match fl with | .nx => .none | .rt d => d) ns' c'
    | _ => .st)
  | _ => .st) else .st
/-- a def with the draws as its first parameter -/
theorem fn_draws {cc : Cc} {P : Program} {w : World} {K : PySem.W.Frag} {mg : Str → Option Value} {base : Heap} {x qual : Str} {st : Stmt} {f : Addr} {fd : FuncData} {N ps : List Str} {k n m : Nat} {G : Den Fl} (F : Fun K x qual st f fd) (S : FnScope N ps (defScope st))
    (hn : ps.length = n + 1) (hm : N.length = n + 1 + m)
    (hbody : ∀ (cdv : Value) (A : Around) (outer : List Env) (s : Shared) (H : Hp) (E : XK), Room k (A.deeper (envOfC qual (defScope st) s.heap.objs.size f cdv)) →
      ∃ t, PSs (cxOf (L2.CX P w) P w K mg base N qual (defScope st) f cdv A outer s H E) (defBody st) t ∧ SndS cc (fun cls d _ H' => E cls d H') t G) :
    FnOk P w K mg base (L2.CX P w) (k + 1) f fd ps (spD (runD n m G)) := by
  refine F.okX S (fun vs H Q E h => ?_) (fun cdv A outer s H vs Q E hr h => ?_)
  · obtain ⟨Z, da, db, ns, c, us, ds, rfl, _, hz, _, _, _, _, hs, hp⟩ := h
    unfold runD at hp
    by_cases hd : ds.length = n
    · rw [List.length_cons, hs.len, hd, hn]
    · rw [if_neg hd] at hp; exact hp.elim
  · obtain ⟨Z, da, db, ns, c, us, ds, rfl, hne, hz, za, zb, ha, hb, hs, hp⟩ := h
    obtain ⟨t, ht, hg⟩ := hbody cdv A outer s H E hr
    refine ⟨t, ht, ?_⟩
    unfold runD at hp
    by_cases hd : ds.length = n
    · rw [if_pos hd] at hp
      have e : L2.start N (.ref da :: us) = some (.ref da) :: (us.map some ++ List.replicate m none) := by
        unfold L2.start
        rw [hm, List.length_cons, hs.len, hd, Nat.add_sub_cancel_left]
        rfl
      rw [e]
      let fr : Frm := ⟨Z, H, fun x => x = da ∨ x = db, da, db, 0, 0⟩
      let O : Nat → List Addr := fun i => if i = 0 then [da, db] else []
      have avi : ∀ x, Av fr O x → Z x := fun x hx => by
        rcases hx with hx | ⟨i, hx⟩
        · exact hx
        · by_cases e : i = 0
          · simp only [O, e, if_pos] at hx
            rcases List.mem_cons.mp hx with rfl | hx
            · exact za
            · cases List.mem_singleton.mp hx
              exact zb
          · simp only [O, if_neg e] at hx; cases hx
      have R : Rel cc fr O (some (.ref da) :: (us.map some ++ List.replicate m none)) H (.drw ns c :: (ds.map Slot.val ++ List.replicate m .emp)) := by
        refine ⟨by simp [hs.len], hz, fun _ _ _ e => e, fun _ h => h, fun i x hx => ?_, fun i j x hi hj => ?_, fun i es hi x hx => ?_, fun i sl hi => ?_⟩
        · by_cases e : i = 0
          · simp only [O, e, if_pos] at hx
            rcases List.mem_cons.mp hx with rfl | hx
            · exact ⟨.inr (.inl rfl), hz _ za⟩
            · cases List.mem_singleton.mp hx
              exact ⟨.inr (.inr rfl), hz _ zb⟩
          · simp only [O, if_neg e] at hx; cases hx
        · by_cases e : i = 0
          · by_cases e' : j = 0
            · rw [e, e']
            · simp only [O, if_neg e'] at hj; cases hj
          · simp only [O, if_neg e] at hi; cases hi
        · by_cases e : i = 0
          · rw [e] at hi; cases hi
          · simp only [O, if_neg e] at hx; cases hx
        · cases i with
          | zero =>
            cases hi
            exact ⟨rfl, hne, rfl, ha, hb⟩
          | succ i =>
            have R0 := rel_start (cc := cc) (m := m) hz hs da db 0 0
            have s0 := R0.slot i sl (by simpa using hi)
            rw [List.getElem?_cons_succ]
            refine SlotOk.mono (fun a o na q => ⟨q, fun z => na (.inl (avi a z))⟩) (fun _ _ => rfl) (?_ : SlotOk cc fr H (Av ⟨Z, H, fun _ => False, da, db, 0, 0⟩ fun _ => []) (O (i + 1)) _ sl)
            cases sl <;> exact s0
      refine hg fr O _ H _ _ R ?_
      have av : ∀ {O : Nat → List Addr} {H' : Hp} {d : D} {v : V}, Rep H' (Av fr O) d v → Rep H' Z d v := fun {O H' d v} h => Rep.mono (fun a o na q => ⟨q, fun z => na (.inl z)⟩) d v h
      have hfin : ∀ {σ' : L2.St} {O' : Nat → List Addr} {H' : Hp} {ρ' : Env'} {ns' : List Int} {c' : Int}, Rel cc fr O' σ' H' ρ' → ρ'[0]? = some (.drw ns' c') → (∀ x o, x ≠ da → x ≠ db → H x = some o → H' x = some o) ∧ H' da = some (.lst [.ref db, .int c']) ∧ H' db = some (.lst (ns'.map V.int)) := fun {σ' O' H' ρ' ns' c'} R' e0 => by
        obtain ⟨_, _, _, q4, q5⟩ := R'.slot 0 _ e0
        exact ⟨fun x o h1 h2 q => R'.frame x o (fun z => z.elim h1 h2) q, q4, q5⟩
      cases eg : G (.drw ns c :: (ds.map Slot.val ++ List.replicate m .emp)) with
      | st => rw [eg] at hp; exact hp
      | er k ρ' => rw [eg] at hp; exact hp.elim
      | ok b ρ' =>
        rw [eg] at hp
        dsimp only at hp
        cases e0 : ρ'[0]? with
        | none => rw [e0] at hp; exact hp.elim
        | some s0 =>
          rw [e0] at hp
          cases s0 with
          | drw ns' c' =>
            cases b with
            | nx =>
              intro σ' O' H' R' _
              obtain ⟨a1, a2, a3⟩ := hfin R' e0
              exact hp .non H' a1 a2 a3 (by simp only [Rep])
            | rt d =>
              intro σ' O' H' v R' _ hv
              obtain ⟨a1, a2, a3⟩ := hfin R' e0
              exact hp v H' a1 a2 a3 (av hv)
          | emp => exact hp.elim
          | val _ => exact hp.elim
          | own _ => exact hp.elim
          | exc _ => exact hp.elim
          | stm _ _ _ _ _ => exact hp.elim
          | dct _ => exact hp.elim
    · rw [if_neg hd] at hp; exact hp.elim
/-- the def x, the draws its first parameter, keeps C -/
def Fd (P : Program) (w : World) (K : PySem.W.Frag) (mg : Str → Option Value) (base : Heap) (x : Str) (k : Nat) (C : SFn) : Prop :=
  ∃ (f : Addr) (fd : FuncData) (ps : List Str), FnOk P w K mg base (L2.CX P w) k f fd ps (spD C) ∧ mg x = some (.ref f) ∧ PySem.W.keepIn K (.ref f) = true ∧ Binds K fd ps []
theorem fd_of {P : Program} {w : World} {K : PySem.W.Frag} {mg : Str → Option Value} {base : Heap} {cc : Cc} {x : Str} {st : Stmt} {N ps : List Str} {k : Nat} (n m : Nat) {G : Den Fl} (d : Df K mg x st) (S : FnScope N ps (defScope st))
    (hn : ps.length = n + 1) (hm : N.length = n + 1 + m) (hb : ∀ (kV doc pm : Value) (an : Option Addr) (cdv ct : Value) (us : List Value), us.length = ps.length → bindArgs (PySem.W.fnOf x x (defArgs st) (defBody st) (defScope st) .none kV doc pm an cdv ct) ⟨us, []⟩ = pure (ps.zip us))
    (hbody : ∀ (f : Addr) (cdv : Value) (A : Around) (outer : List Env) (s : Shared) (H : Hp) (E : XK), Room k (A.deeper (envOfC x (defScope st) s.heap.objs.size f cdv)) →
      ∃ t, DSs (cxOf (L2.CX P w) P w K mg base N x (defScope st) f cdv A outer s H E) cc (fun cls d _ H' => E cls d H') (defBody st) t G) :
    Fd P w K mg base x (k + 1) (runD n m G) := by
  obtain ⟨f, fd, F, hg⟩ := d
  refine ⟨f, fd, ps, fn_draws (cc := cc) F S hn hm fun cdv A outer s H E hr => ?_, hg, F.kp, F.binds hb⟩
  obtain ⟨t, ht⟩ := hbody f cdv A outer s H E hr
  exact ⟨t, ht.p, ht.s⟩
section
variable {X : Cx} {cc : Cc} {W : WX} {es : List Expr} {tl : TA} {fs : Den (List D)} {pos : Pos} {k j : Nat}
theorem de_callD {x y : Str} {C : SFn} {p p2 : Pos} (i : Nat) (F : Fd X.prog X.w X.K X.mg X.base x j C) (hr : Room k X.A) (hj : j ≤ k) (tk : Takes X W) (ha : DA X cc W es tl fs) (hg : Gl X x := by rfl) (hdb : (x == ("__debug__" : Str)) = false := by decide)
    (hN : X.N[i]? = some y := by rfl) (hv : Vis X.env.scope y := by first | exact Or.inl rfl | exact Or.inr (Or.inl rfl) | exact Or.inr (Or.inr rfl)) (hd : (y == ("__debug__" : Str)) = false := by decide) (hcd : (y == ("__classdict__" : Str)) = false := by decide)
    (he : starEach (.Name y p2 :: es) X.env = (false, eval (.Name y p2) X.env) :: starEach es X.env := by rfl) (hpl : (backTo pos (starEach es X.env)).any (·.1) = false := by rfl) : DE X cc W (.Call (.Name x p) (.Name y p2 :: es) [] pos) (tCallS (spD C) (WE W) (tCons (tVar i) tl)) (dCallD C i fs) := by
  obtain ⟨f, fd, ps, F, hm, hk, hb⟩ := F
  exact ⟨pe_callS F (hr.mono hj) hg hm hk hb (fun σ => passAt tk σ) (pa_cons (pe_var hN hv hd hcd) ha.p he) hdb he hpl, snd_callD ha.s⟩
end
end GG

namespace GG
open PySem PySem.Spec PyProof.Rows L2
section
variable {P : Program} {w : World} {K : PySem.W.Frag} {mg : Str → Option Value} {base : Heap} {N : List Str} {x : Str} {sc : Scope} {f : Addr} {cdv : Value} {A : Around} {outer : List Env} {s : Shared} {H : Hp} {E : XK}
theorem tk_of : Takes (cxOf (L2.CX P w) P w K mg base N x sc f cdv A outer s H E) (fun cls d _ H' => E cls d H') := takes_of rfl rfl rfl rfl
theorem pa_of : PassesOwn (model P w) (cxOf (L2.CX P w) P w K mg base N x sc f cdv A outer s H E).A (cxOf (L2.CX P w) P w K mg base N x sc f cdv A outer s H E).env (cxOf (L2.CX P w) P w K mg base N x sc f cdv A outer s H E).xe := passes_of rfl
end

/-! ### the draws -/
def cellAt (ns : List Int) (c : Int) : Int := ns.getD ((c + 1) % (ns.length : Int)).toNat 0
def hash5 (cell c : Int) : Int := ((cell + 104729 * (c + 1)) % 4294967291) ^ 5 % 4294967279
def hashV (m : Int) : Int := (m / 64 * 69621 + m) % 4294967231 / 8
/-- one draw below a limit -/
def drawV (ns : List Int) (c lim : Int) : Int := if cellAt ns c ≥ 1000000000000000000 then cellAt ns c % lim else hashV (hash5 (cellAt ns c) c) % lim
def drawN (ns : List Int) (c lim : Int) : List Int := if cellAt ns c ≥ 1000000000000000000 then ns.set ((c + 1) % (ns.length : Int)).toNat (cellAt ns c / lim) else ns
def C__law_draw : SFn := fun ns c ds => match ds with
  | [.int lim] => if 0 < lim ∧ lim < 1073741824 ∧ ns ≠ [] then .ok (.int (drawV ns c lim)) (drawN ns c lim) (c + 1) else .st
  | _ => .st
abbrev rMod : R2 := rI (fun _ j => 0 < j) fun i j => .int (i % j)
abbrev rDiv : R2 := rI CDiv fun i j => .int (i / j)
abbrev rPow : R2 := rI CPow fun i j => .int (i ^ j.toNat)
def t_draw (K : PySem.W.Frag) : TS :=
  tSeq (tAsg (tOp (rSub' K) (tVar 0) (tC (.int 0))) (gName 2)) <|
  tSeq (tAsg (tOp rPlus (tOp (rSub' K) (tVar 0) (tC (.int 1))) (tC (.int 1))) (L2.gSub (tVar 0) (tC (.int 1)) rSetL)) <|
  tSeq (tAsg (tOp rMod (tOp (rSub' K) (tVar 0) (tC (.int 1))) (tCB (rLen' K) (tCons (tVar 2) tNil))) (gName 3)) <|
  tSeq (tAsg (tOp (rSub' K) (tVar 2) (tVar 3)) (gName 4)) <|
  tSeq (tIfS (tTest (tOp (rI0 fun i j => .bl (decide (j ≤ i))) (tVar 4) (tC (.int 1000000000000000000))))
    (tSeq (tAsg (tOp rDiv (tVar 4) (tVar 1)) (L2.gSub (tVar 2) (tVar 3) rSetL)) (tRet (tOp rMod (tVar 4) (tVar 1)))) tNext) <|
  tSeq (tAsg (tOp rMod (tOp rPlus (tVar 4) (tOp rTimes (tC (.int 104729)) (tOp (rSub' K) (tVar 0) (tC (.int 1))))) (tC (.int 4294967291))) (gName 5)) <|
  tSeq (tAsg (tOp rMod (tOp rPow (tVar 5) (tC (.int 5))) (tC (.int 4294967279))) (gName 5)) <|
  tRet (tOp rMod (tOp rDiv (tOp rMod (tOp rPlus (tOp rTimes (tOp rDiv (tVar 5) (tC (.int 64))) (tC (.int 69621))) (tVar 5)) (tC (.int 4294967231))) (tC (.int 8))) (tVar 1))
theorem mod_lt' {a b : Int} (h : 0 < b) : 0 ≤ a % b ∧ a % b < b := ⟨Int.emod_nonneg _ (by omega), Int.emod_lt_of_pos _ h⟩
theorem drawN_len (ns : List Int) (c lim : Int) : (drawN ns c lim).length = ns.length := by
  unfold drawN
  split
  · simp
  · rfl
theorem drawV_bd {ns : List Int} {c lim : Int} (h : 0 < lim) : 0 ≤ drawV ns c lim ∧ drawV ns c lim < lim := by
  unfold drawV
  split
  · exact mod_lt' h
  · exact mod_lt' h
theorem pure_draw {K : PySem.W.Frag} (vs : List V) (H : Hp) (Q : VK) (E : XK) (h : spD C__law_draw vs H Q E) : t_draw K { nx := fun _ H' => Q .non H', rt := Q } (L2.start ["draws", "limit", "numbers", "at", "cell", "mixed"] vs) H := by
  obtain ⟨Z, da, db, ns, c, us, ds, rfl, hne, hz, za, zb, ha, hb, hs, hp⟩ := h
  obtain ⟨lim, rfl, hl1, hl2, hn⟩ : ∃ lim, ds = [.int lim] ∧ 0 < lim ∧ lim < 1073741824 ∧ ns ≠ [] := by
    unfold C__law_draw at hp
    split at hp
    · rename_i eq
      split at eq
      · rename_i lim
        split at eq
        · rename_i hc
          exact ⟨lim, rfl, hc.1, hc.2.1, hc.2.2⟩
        · cases eq
      · cases eq
    · exact hp.elim
  have hp : ∀ v H', (∀ x o, x ≠ da → x ≠ db → H x = some o → H' x = some o) → H' da = some (.lst [.ref db, .int (c + 1)]) → H' db = some (.lst ((drawN ns c lim).map V.int)) → Rep H' Z (.int (drawV ns c lim)) v → Q v H' := by
    simp only [C__law_draw, hl1, hl2, hn, true_and, ne_eq, not_false_eq_true, if_true] at hp
    exact hp
  obtain ⟨u, rfl, hu⟩ := reps1 hs
  simp only [Rep] at hu
  subst hu
  have hlen : 0 < (ns.length : Int) := by
    have := List.length_pos_iff.mpr hn
    omega
  obtain ⟨at0, at1⟩ := mod_lt' (a := c + 1) hlen
  generalize hat : (c + 1) % (ns.length : Int) = at' at at0 at1
  have hj : at'.toNat < ns.length := by omega
  have hcell : cellAt ns c = ns[at'.toNat] := by
    unfold cellAt
    rw [hat, List.getD_eq_getElem?_getD, List.getElem?_eq_getElem hj]
    rfl
  have ix1 : ixN (ns.map V.int).length at' = some at'.toNat := by
    unfold ixN
    rw [if_pos at0, if_pos (by simpa using at1)]
  let H1 := upd H da (.lst [.ref db, .int (c + 1)])
  have h1a : H1 da = some (.lst [.ref db, .int (c + 1)]) := upd_same
  have h1b : H1 db = some (.lst (ns.map V.int)) := by
    show upd H da _ db = _
    rw [upd_ne (Ne.symm hne)]
    exact hb
  -- numbers = draws[0]
  refine ⟨.ref da, rfl, .inl ⟨da, _, 0, .ref db, rfl, rfl, SqL.of ha, rfl, ?_⟩⟩
  -- draws[1] = draws[1] + 1
  refine ⟨.ref da, rfl, .inl ⟨da, _, 1, .int c, rfl, rfl, SqL.of ha, rfl, .inl ⟨c, 1, rfl, rfl, .ref da, rfl, da, _, 1, 1, rfl, rfl, ha, rfl, ?_⟩⟩⟩
  -- at = draws[1] % len(numbers)
  refine ⟨.ref da, rfl, .inl ⟨da, _, 1, .int (c + 1), rfl, rfl, SqL.of h1a, rfl, .ref db, rfl, .inl ⟨db, _, rfl, .inl (SqL.of h1b), c + 1, _, rfl, rfl, by simpa using hlen, ?_⟩⟩⟩
  have e1 : (c + 1) % (((ns.map V.int).length : Nat) : Int) = at' := by rw [List.length_map]; exact hat
  dsimp only
  rw [e1]
  -- cell = numbers[at]
  refine ⟨.ref db, rfl, .int at', rfl, .inl ⟨db, _, at', .int (cellAt ns c), rfl, rfl, SqL.of h1b, ?_, ?_⟩⟩
  · unfold atI
    rw [ix1, Option.bind_some, List.getElem?_map, List.getElem?_eq_getElem hj, hcell]
    rfl
  -- if cell >= ..
  refine ⟨.int (cellAt ns c), rfl, _, _, rfl, rfl, _, rfl, ite2 (fun hc => ?_) (fun hc => ?_)⟩
  · have hc : cellAt ns c ≥ 1000000000000000000 := of_decide_eq_true hc
    refine ⟨.int (cellAt ns c), rfl, .int lim, rfl, _, _, rfl, rfl, ⟨hl1, hl2⟩, .ref db, rfl, .int at', rfl, db, _, at', at'.toNat, rfl, rfl, h1b, ix1, ?_⟩
    refine ⟨.int (cellAt ns c), rfl, .int lim, rfl, _, _, rfl, rfl, hl1, ?_⟩
    refine hp _ _ (fun x o n1 n2 q => ?_) ?_ ?_ ?_
    · rw [upd_ne n2]
      show upd H da _ x = _
      rw [upd_ne n1]
      exact q
    · rw [upd_ne hne]
      exact h1a
    · rw [upd_same]
      unfold drawN
      rw [if_pos hc, hat]
      rw [List.map_set]
    · simp only [Rep, drawV, if_pos hc]
  · have hc : ¬ cellAt ns c ≥ 1000000000000000000 := fun z => hc (decide_eq_true z)
    obtain ⟨m0, m1⟩ := mod_lt' (a := cellAt ns c + 104729 * (c + 1)) (b := 4294967291) (by decide)
    obtain ⟨k0, k1⟩ := mod_lt' (a := ((cellAt ns c + 104729 * (c + 1)) % 4294967291) ^ 5) (b := 4294967279) (by decide)
    refine ⟨.int (cellAt ns c), rfl, .ref da, rfl, .inl ⟨da, _, 1, .int (c + 1), rfl, rfl, SqL.of h1a, rfl, .inl ⟨104729, c + 1, rfl, rfl, .inl ⟨by decide, by decide⟩, .inl ⟨_, _, rfl, rfl, _, _, rfl, rfl, (by decide : (0 : Int) < 4294967291), ?_⟩⟩⟩⟩
    refine ⟨_, rfl, _, 5, rfl, rfl, ⟨by decide, by decide, ?_⟩, _, _, rfl, rfl, (by decide : (0 : Int) < 4294967279), ?_⟩
    · show ((cellAt ns c + 104729 * (c + 1)) % 4294967291).natAbs < 2 ^ 64
      omega
    have e5 : ((cellAt ns c + 104729 * (c + 1)) % 4294967291) ^ (5 : Int).toNat % 4294967279 = hash5 (cellAt ns c) c := rfl
    dsimp only
    rw [e5]
    have h5 : 0 ≤ hash5 (cellAt ns c) c ∧ hash5 (cellAt ns c) c < 4294967279 := ⟨k0, k1⟩
    refine ⟨_, rfl, _, 64, rfl, rfl, ⟨by decide, by decide⟩, .inl ⟨_, 69621, rfl, rfl, .inr ⟨by decide, by decide⟩, _, rfl, .inl ⟨_, _, rfl, rfl, _, 4294967231, rfl, rfl, (by decide : (0 : Int) < 4294967231), _, 8, rfl, rfl, ⟨by decide, by decide⟩, .int lim, rfl, _, _, rfl, rfl, hl1, ?_⟩⟩⟩
    refine hp _ _ (fun x o n1 n2 q => ?_) h1a ?_ ?_
    · show upd H da _ x = _
      rw [upd_ne n1]
      exact q
    · unfold drawN
      rw [if_neg hc]
      exact h1b
    · simp only [Rep, drawV, if_neg hc]
      rfl

/-! ### the script -/
def t_start (K : PySem.W.Frag) : TS := tRet (tLst (tCons (tIf (tTest (tOp (rNeD K) (tVar 0) (tLst tNil))) (tCB (rListOf K) (tCons (tVar 0) tNil)) (tLst (tCons (tC (.int 0)) tNil))) (tCons (tC (.int 0)) tNil)))
/-- the numbers of a script -/
def numsOf (ns : List Int) : List Int := if ns = [] then [0] else ns
def spStart (K : PySem.W.Frag) : Sp := fun vs H Q _ => ∃ (a : Addr) (ns : List Int), vs = [.ref a] ∧ SqL K H a (ns.map V.int) ∧
  ∀ p q H', Same H H' → H p = none → H q = none → p ≠ q → H' p = some (.lst [.ref q, .int 0]) → H' q = some (.lst ((numsOf ns).map V.int)) → Q (.ref p) H'
theorem lay_ints : ∀ ns : List Int, PyData.canLayAll0 (ns.map PyData.int) = true
  | [] => by simp [PyData.canLayAll0]
  | n :: ns => by simp [PyData.canLayAll0, PyData.canLay0, lay_ints ns]
theorem dep_ints : ∀ ns : List Int, PyData.depthAll (ns.map PyData.int) = 0
  | [] => by simp [PyData.depthAll]
  | n :: ns => by simp [PyData.depthAll, PyData.depth, dep_ints ns]
theorem shp_ints (ns : List Int) : SeqAt.shaped (.list (ns.map PyData.int)) = true := by
  simp [SeqAt.shaped, PyData.canLay0, lay_ints, PyData.depth, dep_ints]
theorem dp_ints {K : PySem.W.Frag} {H : Hp} : ∀ ns : List Int, DpAll K H (ns.map V.int) (ns.map PyData.int)
  | [] => .nil
  | n :: ns => .cons (.int n) (dp_ints ns)
theorem pure_start {K : PySem.W.Frag} (vs : List V) (H : Hp) (Q : VK) (E : XK) (h : spStart K vs H Q E) : t_start K { nx := fun _ H' => Q .non H', rt := Q } (L2.start ["script"] vs) H := by
  obtain ⟨a, ns, rfl, hS, k⟩ := h
  refine ⟨.ref a, rfl, Nat.zero_le _, fun p0 n0 => ?_⟩
  have s0 : Same H (upd H p0 (.lst [])) := same_upd n0
  refine ⟨.list (ns.map PyData.int), .list [], .lst (s0.seq hS) (dp_ints ns), .lst (SqL.of upd_same) .nil, shp_ints ns, shp_ints [], _, rfl, ite2 (fun hc => ?_) (fun hc => ?_)⟩
  · have hne : ns ≠ [] := by
      rintro rfl
      simp [PyData.eqv, PyData.eqvAll] at hc
    refine ⟨.ref a, rfl, a, _, rfl, .inl (s0.seq hS), fun q hq => ?_⟩
    have s1 := same_upd (o := .lst (ns.map V.int)) hq
    refine ⟨by show 2 ≤ sizeLine; decide, fun p hp => ?_⟩
    refine k p q _ ((s0.trans s1).trans (same_upd hp)) ((s0.trans s1).free hp) (s0.free hq) (fun z => by rw [z, upd_same] at hp; cases hp) upd_same ?_
    rw [upd_ne (fun z => by rw [← z, upd_same] at hp; cases hp), upd_same]
    simp [numsOf, hne]
  · have he : ns = [] := by
      cases ns with
      | nil => rfl
      | cons n r => exact absurd (by simp [PyData.eqv, PyData.eqvAll]) hc
    subst he
    refine ⟨by show 1 ≤ sizeLine; decide, fun q hq => ?_⟩
    have s1 := same_upd (o := .lst [.int 0]) hq
    refine ⟨by show 2 ≤ sizeLine; decide, fun p hp => ?_⟩
    refine k p q _ ((s0.trans s1).trans (same_upd hp)) ((s0.trans s1).free hp) (s0.free hq) (fun z => by rw [z, upd_same] at hp; cases hp) upd_same ?_
    rw [upd_ne (fun z => by rw [← z, upd_same] at hp; cases hp), upd_same]
    rfl
end GG

namespace GG
open PySem PySem.Spec PyProof.Rows L2

/-! ### lL cut into groups, from the left -/
/-- c l z: a new group begins with z behind the group l -/
def addTo (c : List Int → Int → Bool) (gs : List (List Int)) (z : Int) : List (List Int) := if c (gs.getLastD []) z = true then gs ++ [[z]] else gs.dropLast ++ [gs.getLastD [] ++ [z]]
def bld (c : List Int → Int → Bool) (gs : List (List Int)) (r : List Int) : List (List Int) := r.foldl (addTo c) gs
theorem addTo_last (c : List Int → Int → Bool) (gs0 : List (List Int)) (l : List Int) (z : Int) : addTo c (gs0 ++ [l]) z = if c l z = true then (gs0 ++ [l]) ++ [[z]] else gs0 ++ [l ++ [z]] := by
  unfold addTo
  simp
def cGap (g : Int) (l : List Int) (z : Int) : Bool := decide (z - l.getLastD 0 > g)
def cBoth (g m : Int) (l : List Int) (z : Int) : Bool := decide (z - l.getLastD 0 > g) || decide (z - l.headD 0 > m)
/-- groups for a gap; bounded groups -/
def grp (g : Int) : List Int → List (List Int)
  | [] => []
  | x :: r => bld (cGap g) [[x]] r
def cut (g m : Int) : List Int → List (List Int)
  | [] => []
  | x :: r => bld (cBoth g m) [[x]] r
def iL (ns : List Int) : D := .list (ns.map PyData.int)
def lL (gs : List (List Int)) : D := .list (gs.map iL)
def C_grouped : PFn := fun ds => match ds with
  | [.list ms, .int g] => (match intsOf ms with
    | some (x :: r) => if r.length < 1000 then .ok (lL (grp g (x :: r))) else .st
    | _ => .st)
  | _ => .st
def C_cut_up : PFn := fun ds => match ds with
  | [.list ms, .int g, .int m] => (match intsOf ms with
    | some (x :: r) => if r.length < 1000 then .ok (lL (cut g m (x :: r))) else .st
    | _ => .st)
  | _ => .st

/-- the groups' lL at their places -/
def Inn (H : Hp) : List Addr → List (List Int) → Prop
  | [], [] => True
  | a :: as, g :: gs => H a = some (.lst (g.map V.int)) ∧ Inn H as gs
  | _, _ => False
theorem Inn.mono {H H' : Hp} : ∀ {as : List Addr} {gs : List (List Int)}, (∀ a, a ∈ as → H' a = H a) → Inn H as gs → Inn H' as gs
  | [], [], _, _ => True.intro
  | a :: as, g :: gs, k, h => ⟨by rw [k a List.mem_cons_self]; exact h.1, Inn.mono (fun b hb => k b (List.mem_cons_of_mem _ hb)) h.2⟩
  | [], _ :: _, _, h => h.elim
  | _ :: _, [], _, h => h.elim
theorem Inn.snoc {H : Hp} {a : Addr} {l : List Int} (ha : H a = some (.lst (l.map V.int))) : ∀ {as : List Addr} {gs : List (List Int)}, Inn H as gs → Inn H (as ++ [a]) (gs ++ [l])
  | [], [], _ => ⟨ha, True.intro⟩
  | b :: as, g :: gs, h => ⟨h.1, Inn.snoc ha h.2⟩
  | [], _ :: _, h => h.elim
  | _ :: _, [], h => h.elim
theorem Inn.reps {H : Hp} {A : Addr → Prop} : ∀ {as : List Addr} {gs : List (List Int)}, (∀ a, a ∈ as → ¬ A a) → Inn H as gs → Reps H A (gs.map iL) (as.map V.ref)
  | [], [], _, _ => Reps.nil
  | a :: as, g :: gs, k, h => Reps.cons (by
      simp only [iL, Rep]
      exact ⟨a, _, rfl, k a List.mem_cons_self, h.1, Reps.ofInts g⟩) (Inn.reps (fun b hb => k b (List.mem_cons_of_mem _ hb)) h.2)
  | [], _ :: _, _, h => h.elim
  | _ :: _, [], _, h => h.elim
theorem Inn.len {H : Hp} : ∀ {as : List Addr} {gs : List (List Int)}, Inn H as gs → as.length = gs.length
  | [], [], _ => rfl
  | a :: as, g :: gs, h => by simp [Inn.len h.2]
  | [], _ :: _, h => h.elim
  | _ :: _, [], h => h.elim

def t_grp (K : PySem.W.Frag) (fi ik : Nat) (tt : TT) : TS :=
  tSeq (tAsg (tLst (tCons (tLst (tCons (tOp (rSub' K) (tVar 0) (tC (.int 0))) tNil)) tNil)) (gName fi)) <|
  tSeq (tFor (iRng2 (tCons (tC (.int 1)) (tCons (tCB (rLen' K) (tCons (tVar 0) tNil)) tNil))) (gName ik)
    (tSeq (tIfS tt (tDrop (tBM K "list" rAppend (tVar fi) (tCons (tLst tNil) tNil))) tNext)
      (tDrop (tBM K "list" rAppend (tOp (rSub' K) (tVar fi) (tUn (rU fun i => .int (-i)) (tC (.int 1)))) (tCons (tOp (rSub' K) (tVar 0) (tVar ik)) tNil))))) <|
  tRet (tVar fi)
theorem set_get {σ : L2.St} {i j : Nat} {v : Option V} (h : i ≠ j) : (σ.set i v)[j]? = σ[j]? := List.getElem?_set_ne h
theorem pure_grp {K : PySem.W.Frag} {fi ik : Nat} {tt : TT} {c : List Int → Int → Bool} {x : Int} {r : List Int} {m : Addr} {H : Hp} {Z : Addr → Prop} {Q : VK} {σ : L2.St} (S : L2.St → Prop)
    (h0 : σ[0]? = some (some (.ref m))) (hS : S σ) (hSf : ∀ σ v, S σ → S (σ.set fi v)) (hSk : ∀ σ v, S σ → S (σ.set ik v)) (hfi : fi < σ.length) (hik : ik < σ.length) (n1 : fi ≠ ik) (n2 : fi ≠ 0) (n3 : ik ≠ 0)
    (hm : H m = some (.lst ((x :: r).map V.int))) (hz : ∀ a, Z a → H a ≠ none) (hlen : r.length < 1000)
    (htt : ∀ (σ : L2.St) (H' : Hp) (i : Nat) (y z : Int) (p a : Addr) (as0 : List Addr) (l : List Int) (q : Bool → Hp → Prop), S σ → σ[0]? = some (some (.ref m)) → H' m = some (.lst ((x :: r).map V.int)) → σ[ik]? = some (some (.int (1 + (i : Int)))) → (x :: r)[i]? = some y → r[i]? = some z →
      σ[fi]? = some (some (.ref p)) → H' p = some (.lst ((as0 ++ [a]).map V.ref)) → H' a = some (.lst (l.map V.int)) → l ≠ [] → l.getLastD 0 = y → q (c l z) H' → tt σ H' q)
    (k : ∀ v H', Same H H' → Rep H' Z (lL (bld c [[x]] r)) v → Q v H') : t_grp K fi ik tt { nx := fun _ H' => Q .non H', rt := Q } σ H := by
  refine ⟨.ref m, h0, .inl ⟨m, _, 0, .int x, rfl, rfl, SqL.of hm, atI_nat (j := 0) rfl, by show 1 ≤ sizeLine; decide, fun a na => ⟨by show 1 ≤ sizeLine; decide, fun p np => ?_⟩⟩⟩
  have sa : Same H (upd H a (.lst [.int x])) := same_upd na
  have sp : Same (upd H a (.lst [.int x])) (upd (upd H a (.lst [.int x])) p (.lst [.ref a])) := same_upd np
  have nap : a ≠ p := fun z => by rw [← z, upd_same] at np; cases np
  have np0 : H p = none := sa.free np
  have g0 : (σ.set fi (some (.ref p)))[0]? = some (some (.ref m)) := by rw [set_get n2]; exact h0
  refine ⟨_, g0, .inl ⟨m, _, rfl, .inl (SqL.of (sp _ _ (sa _ _ hm))), 1, _, rfl, ⟨by decide, by decide, ?_, ?_⟩, ?_⟩⟩
  · simp only [List.length_map, List.length_cons]; omega
  · simp only [List.length_map, List.length_cons]; omega
  have en : (((((x :: r).map V.int).length : Nat) : Int) - 1).toNat = r.length := by simp only [List.length_map, List.length_cons]; omega
  rw [en]
  refine for_range (lo := 1) (n := r.length) (fun i σ' H' => S σ' ∧ σ'.length = σ.length ∧ σ'[0]? = some (some (.ref m)) ∧ σ'[fi]? = some (some (.ref p)) ∧ Same H H' ∧ ∃ as0 a0 gs0 l, H' p = some (.lst ((as0 ++ [a0]).map V.ref)) ∧ Inn H' as0 gs0 ∧ H' a0 = some (.lst (l.map V.int)) ∧ (p :: (as0 ++ [a0])).Nodup ∧ (∀ b, b ∈ p :: (as0 ++ [a0]) → H b = none) ∧ bld c [[x]] (r.take i) = gs0 ++ [l] ∧ l ≠ [] ∧ (x :: r)[i]? = some (l.getLastD 0) ∧ as0.length ≤ i ∧ l.length ≤ i + 1) ?_ ?_ ?_
  · refine ⟨hSf _ _ hS, by simp, g0, by rw [List.getElem?_set_self hfi], sa.trans sp, [], a, [], [x], ?_, True.intro, ?_, ?_, ?_, rfl, by simp, rfl, Nat.zero_le _, by simp⟩
    · rw [upd_same]; rfl
    · rw [upd_ne nap, upd_same]; rfl
    · simp [nap.symm]
    · intro b hb
      simp only [List.nil_append, List.mem_cons, List.not_mem_nil, or_false] at hb
      rcases hb with rfl | rfl
      · exact np0
      · exact na
  · rintro i σ' H' hi ⟨hS', hL, e0, ef, sm, as0, a0, gs0, l, hp, hin, ha, nd, nw, hb, hl, hlast, hsz, hsz2⟩
    have hz1 : i < r.length := hi
    obtain ⟨z, hz2⟩ : ∃ z, r[i]? = some z := ⟨_, List.getElem?_eq_getElem hz1⟩
    have hm' := sm _ _ hm
    have nm : ∀ b, b ∈ p :: (as0 ++ [a0]) → m ≠ b := fun b hb e => by rw [← e] at hb; rw [nw m hb] at hm; cases hm
    have f0 : (σ'.set ik (some (.int (1 + (i : Int)))))[0]? = some (some (.ref m)) := by rw [set_get n3]; exact e0
    have ff : (σ'.set ik (some (.int (1 + (i : Int)))))[fi]? = some (some (.ref p)) := by rw [set_get (Ne.symm n1)]; exact ef
    have fk : (σ'.set ik (some (.int (1 + (i : Int)))))[ik]? = some (some (.int (1 + (i : Int)))) := List.getElem?_set_self (by rw [hL]; exact hik)
    have nd1 := List.nodup_cons.mp nd
    have nd2 := List.nodup_append.mp nd1.2
    have pa0 : p ≠ a0 := fun e => nd1.1 (by rw [e]; simp)
    have hatz : atI ((x :: r).map V.int) (1 + (i : Int)) = some (.int z) := by
      have : (1 + (i : Int)) = ((i + 1 : Nat) : Int) := by omega
      rw [this]
      refine atI_nat ?_
      rw [List.getElem?_map, List.getElem?_cons_succ, hz2]
      rfl
    have step : bld c [[x]] (r.take (i + 1)) = addTo c (gs0 ++ [l]) z := by
      unfold bld at hb ⊢
      rw [List.take_add_one, hz2, List.foldl_append, hb]
      rfl
    have hlen2 : (as0 ++ [a0]).length ≤ 2000 := by simp; omega
    refine htt _ H' i _ z p a0 as0 l _ (hSk _ _ hS') f0 hm' fk hlast hz2 ff hp ha hl rfl ?_
    cases hc : c l z with
    | true =>
      -- found.append([])
      show (tDrop (tBM K "list" rAppend (tVar fi) (tCons (tLst tNil) tNil))) _ _ H'
      refine ⟨_, ff, .inl ⟨rfl, _, SqL.of hp⟩, Nat.zero_le _, fun q nq => ?_⟩
      have sq : Same H' (upd H' q (.lst [])) := same_upd nq
      have nqp : q ≠ p := fun e => by rw [e, hp] at nq; cases nq
      refine ⟨p, _, .ref q, rfl, rfl, sq _ _ hp, Nat.lt_of_le_of_lt (by rw [List.length_map]; exact hlen2) (by decide), ?_⟩
      let H2 := upd (upd H' q (.lst [])) p (.lst ((as0 ++ [a0]).map V.ref ++ [.ref q]))
      have h2p : H2 p = some (.lst ((as0 ++ [a0] ++ [q]).map V.ref)) := by
        show upd _ p _ p = _
        rw [upd_same, List.map_append (l₁ := as0 ++ [a0])]
        rfl
      have h2q : H2 q = some (.lst []) := by
        show upd _ p _ q = _
        rw [upd_ne nqp, upd_same]
      have h2o : ∀ b, b ≠ p → b ≠ q → H2 b = H' b := fun b h1 h2 => by
        show upd _ p _ b = _
        rw [upd_ne h1, upd_ne h2]
      have mq : m ≠ q := fun e => by rw [← e, hm'] at nq; cases nq
      have mp : m ≠ p := nm p List.mem_cons_self
      have h2m : H2 m = some (.lst ((x :: r).map V.int)) := by rw [h2o m mp mq]; exact hm'
      -- found[-1].append(moments[k])
      refine ⟨_, ff, 1, rfl, .inl ⟨p, _, -1, .ref q, rfl, rfl, SqL.of h2p, ?_, .inl ⟨rfl, _, SqL.of h2q⟩, _, f0, _, fk, .inl ⟨m, _, _, .int z, rfl, rfl, SqL.of h2m, hatz, q, [], .int z, rfl, rfl, h2q, by decide, ?_⟩⟩⟩
      · rw [List.map_append]
        exact atI_last _ _
      have nqa : ∀ b, b ∈ as0 ++ [a0] → b ≠ q := fun b hb' e => by
        have : H' b ≠ none := by
          rcases List.mem_append.mp hb' with h | h
          · obtain ⟨j, hj, e1⟩ := List.getElem_of_mem h
            have : ∀ {as : List Addr} {gs : List (List Int)}, Inn H' as gs → ∀ b, b ∈ as → H' b ≠ none := by
              intro as
              induction as with
              | nil => intro gs _ b hb; cases hb
              | cons a as ih =>
                intro gs hi b hb
                cases gs with
                | nil => exact hi.elim
                | cons g gs =>
                  rcases List.mem_cons.mp hb with rfl | hb
                  · rw [hi.1]; simp
                  · exact ih hi.2 b hb
            exact this hin b h
          · cases List.mem_singleton.mp h
            rw [ha]; simp
        exact this (by rw [e]; exact nq)
      have nba : ∀ b, b ∈ as0 ++ [a0] → b ≠ p := fun b hb' e => nd1.1 (by rw [← e]; exact hb')
      refine ⟨hSk _ _ hS', by simpa using hL, f0, ff, fun b o e => ?_, as0 ++ [a0], q, gs0 ++ [l], [z], ?_, ?_, ?_, ?_, ?_, ?_, by simp, ?_, ?_, by simp⟩
      · have : b ≠ q := fun e' => by rw [e'] at e; rw [sm _ _ e] at nq; cases nq
        rw [upd_ne this]
        exact (h2o b (fun e' => by rw [e', np0] at e; cases e) this).trans (sm b o e)
      · rw [upd_ne (Ne.symm nqp)]; exact h2p
      · refine Inn.mono (H := H') (fun b hb' => ?_) (hin.snoc ha)
        rw [upd_ne (nqa b hb')]
        exact h2o b (nba b hb') (nqa b hb')
      · rw [upd_same]; rfl
      · refine List.nodup_cons.mpr ⟨fun hb' => ?_, List.nodup_append.mpr ⟨nd1.2, by simp, fun u hu v hv => ?_⟩⟩
        · rcases List.mem_append.mp hb' with h | h
          · exact nd1.1 h
          · exact nqp (List.mem_singleton.mp h).symm
        · cases List.mem_singleton.mp hv
          exact nqa u hu
      · intro b hb'
        rcases List.mem_cons.mp hb' with rfl | h
        · exact np0
        · rcases List.mem_append.mp h with h | h
          · exact nw b (List.mem_cons_of_mem _ h)
          · cases List.mem_singleton.mp h
            exact sm.free nq
      · rw [step, addTo_last, if_pos hc]
      · rw [List.getElem?_cons_succ, hz2]; rfl
      · simp; omega
    | false =>
      show (tDrop (tBM K "list" rAppend (tOp (rSub' K) (tVar fi) (tUn (rU fun i => .int (-i)) (tC (.int 1)))) (tCons (tOp (rSub' K) (tVar 0) (tVar ik)) tNil))) _ _ H'
      refine ⟨_, ff, 1, rfl, .inl ⟨p, _, -1, .ref a0, rfl, rfl, SqL.of hp, ?_, .inl ⟨rfl, _, SqL.of ha⟩, _, f0, _, fk, .inl ⟨m, _, _, .int z, rfl, rfl, SqL.of hm', hatz, a0, _, .int z, rfl, rfl, ha, Nat.lt_of_le_of_lt (show _ ≤ 2000 by rw [List.length_map]; omega) (by decide), ?_⟩⟩⟩
      · rw [List.map_append]
        exact atI_last _ _
      have ma0 : m ≠ a0 := nm a0 (by simp)
      refine ⟨hSk _ _ hS', by simpa using hL, f0, ff, fun b o e => ?_, as0, a0, gs0, l ++ [z], ?_, ?_, ?_, nd, nw, ?_, by simp, ?_, by omega, ?_⟩
      · rw [upd_ne (fun e' => by rw [e', nw a0 (by simp)] at e; cases e)]
        exact sm b o e
      · rw [upd_ne pa0]; exact hp
      · refine Inn.mono (H := H') (fun b hb' => upd_ne fun e => ?_) hin
        exact nd2.2.2 b hb' a0 (by simp) e
      · rw [upd_same, List.map_append]; rfl
      · rw [step, addTo_last, if_neg (by rw [hc]; decide)]
      · rw [List.getElem?_cons_succ, hz2]; simp
      · simp; omega
  · rintro σ' H' ⟨hS', hL, e0, ef, sm, as0, a0, gs0, l, hp, hin, ha, nd, nw, hb, hl, hlast, hsz, hsz2⟩
    rw [List.take_length] at hb
    refine ⟨_, ef, k _ H' sm ?_⟩
    rw [hb]
    simp only [lL, Rep]
    refine ⟨p, _, rfl, fun z => hz p z (nw p List.mem_cons_self), hp, ?_⟩
    exact Inn.reps (fun b hb' z => hz b z (nw b (List.mem_cons_of_mem _ hb'))) (hin.snoc ha)

/-- moments[k] - moments[k - 1] > gap -/
def t_gapT (K : PySem.W.Frag) (ik : Nat) : TT := tTest (tOp (rI0 fun i j => .bl (decide (j < i))) (tOp (rI0 fun i j => .int (i - j)) (tOp (rSub' K) (tVar 0) (tVar ik)) (tOp (rSub' K) (tVar 0) (tOp (rI0 fun i j => .int (i - j)) (tVar ik) (tC (.int 1))))) (tVar 1))
/-- moments[k] - found[-1][0] > most -/
def t_mostT (K : PySem.W.Frag) : TT := tTest (tOp (rI0 fun i j => .bl (decide (j < i))) (tOp (rI0 fun i j => .int (i - j)) (tOp (rSub' K) (tVar 0) (tVar 4)) (tOp (rSub' K) (tOp (rSub' K) (tVar 3) (tUn (rU fun i => .int (-i)) (tC (.int 1)))) (tC (.int 0)))) (tVar 2))
theorem at_y {x y : Int} {r : List Int} {i : Nat} (h : (x :: r)[i]? = some y) : atI ((x :: r).map V.int) (1 + (i : Int) - 1) = some (.int y) := by
  rw [show (1 + (i : Int) - 1) = ((i : Nat) : Int) by omega]
  refine atI_nat ?_
  rw [List.getElem?_map, h]
  rfl
theorem at_z {x z : Int} {r : List Int} {i : Nat} (h : r[i]? = some z) : atI ((x :: r).map V.int) (1 + (i : Int)) = some (.int z) := by
  rw [show (1 + (i : Int)) = ((i + 1 : Nat) : Int) by omega]
  refine atI_nat ?_
  rw [List.getElem?_map, List.getElem?_cons_succ, h]
  rfl
theorem pure_grouped {cc : Cc} {K : PySem.W.Frag} (vs : List V) (H : Hp) (Q : VK) (E : XK) (h : spP cc C_grouped vs H Q E) : t_grp K 2 3 (t_gapT K 3) { nx := fun _ H' => Q .non H', rt := Q } (L2.start ["moments", "gap", "found", "k"] vs) H := by
  obtain ⟨Z, ds, hz, hs, hp⟩ := h
  unfold C_grouped at hp
  split at hp
  · rename_i d eq
    split at eq
    · rename_i ms g
      split at eq
      · rename_i x r ei
        split at eq
        · rename_i hl
          cases eq
          obtain ⟨v, u, rfl, hv, hu⟩ := reps2 hs
          obtain ⟨m, rfl, nm, hm⟩ := ints_at hv ei
          simp only [Rep] at hu
          subst hu
          refine pure_grp (c := cGap g) (x := x) (r := r) (m := m) (Z := Z) (fun σ => σ[1]? = some (some (.int g))) rfl rfl (fun σ v h => by rw [set_get (by decide)]; exact h) (fun σ v h => by rw [set_get (by decide)]; exact h) (show 2 < 4 by decide) (show 3 < 4 by decide) (by decide) (by decide) (by decide) hm hz hl ?_ hp
          intro σ H' i y z p a as0 l q h1 h0 hm' hk hy hz' _ _ _ _ hlast hq
          refine ⟨_, h0, _, hk, .inl ⟨m, _, _, _, rfl, rfl, SqL.of hm', at_z hz', _, h0, _, hk, _, 1, rfl, rfl, .inl ⟨m, _, _, _, rfl, rfl, SqL.of hm', at_y hy, _, _, rfl, rfl, _, h1, _, _, rfl, rfl, _, rfl, ?_⟩⟩⟩
          rw [← hlast]
          exact hq
        · cases eq
      · cases eq
    · cases eq
  · rename_i k eq
    split at eq
    · split at eq
      · split at eq <;> cases eq
      · cases eq
    · cases eq
  · exact hp.elim
theorem pure_cut_up {cc : Cc} {K : PySem.W.Frag} (vs : List V) (H : Hp) (Q : VK) (E : XK) (h : spP cc C_cut_up vs H Q E) : t_grp K 3 4 (tOr (t_gapT K 4) (t_mostT K)) { nx := fun _ H' => Q .non H', rt := Q } (L2.start ["moments", "gap", "most", "found", "k"] vs) H := by
  obtain ⟨Z, ds, hz, hs, hp⟩ := h
  unfold C_cut_up at hp
  split at hp
  · rename_i d eq
    split at eq
    · rename_i ms g mo
      split at eq
      · rename_i x r ei
        split at eq
        · rename_i hl
          cases eq
          obtain ⟨v, us, rfl, hv, hu⟩ := hs.uncons
          obtain ⟨u, w', rfl, hu, hw⟩ := reps2 hu
          obtain ⟨m, rfl, nm, hm⟩ := ints_at hv ei
          simp only [Rep] at hu hw
          subst hu hw
          refine pure_grp (c := cBoth g mo) (x := x) (r := r) (m := m) (Z := Z) (fun σ => σ[1]? = some (some (.int g)) ∧ σ[2]? = some (some (.int mo))) rfl ⟨rfl, rfl⟩ (fun σ v h => by rw [set_get (by decide), set_get (by decide)]; exact h) (fun σ v h => by rw [set_get (by decide), set_get (by decide)]; exact h) (show 3 < 5 by decide) (show 4 < 5 by decide) (by decide) (by decide) (by decide) hm hz hl ?_ hp
          intro σ H' i y z p a as0 l q h1 h0 hm' hk hy hz' hf hp' ha hne hlast hq
          refine ⟨_, h0, _, hk, .inl ⟨m, _, _, _, rfl, rfl, SqL.of hm', at_z hz', _, h0, _, hk, _, 1, rfl, rfl, .inl ⟨m, _, _, _, rfl, rfl, SqL.of hm', at_y hy, _, _, rfl, rfl, _, h1.1, _, _, rfl, rfl, _, rfl, ?_⟩⟩⟩
          rw [← hlast]
          refine ite2 (fun hc => ?_) (fun hc => ?_)
          · have e : cBoth g mo l z = true := by
              unfold cBoth
              rw [show decide (z - l.getLastD 0 > g) = true from hc]
              rfl
            rw [e] at hq
            exact hq
          · have e : cBoth g mo l z = decide (z - l.headD 0 > mo) := by
              unfold cBoth
              rw [show decide (z - l.getLastD 0 > g) = false from Bool.eq_false_iff.mpr hc]
              rfl
            rw [e] at hq
            obtain ⟨l0, l1, rfl⟩ : ∃ l0 l1, l = l0 :: l1 := by
              cases l with
              | nil => exact absurd rfl hne
              | cons l0 l1 => exact ⟨l0, l1, rfl⟩
            refine ⟨_, h0, _, hk, .inl ⟨m, _, _, _, rfl, rfl, SqL.of hm', at_z hz', _, hf, 1, rfl, .inl ⟨p, _, -1, .ref a, rfl, rfl, SqL.of hp', ?_, .inl ⟨a, _, 0, .int l0, rfl, rfl, SqL.of ha, atI_nat (j := 0) rfl, _, _, rfl, rfl, _, h1.2, _, _, rfl, rfl, _, rfl, hq⟩⟩⟩⟩
            rw [List.map_append]
            exact atI_last _ _
        · cases eq
      · cases eq
    · cases eq
  · rename_i k eq
    split at eq
    · split at eq
      · split at eq <;> cases eq
      · cases eq
    · cases eq
  · exact hp.elim
/-- lengths of what the promises take -/
theorem len_grouped {cc : Cc} {vs : List V} {H : Hp} {Q : VK} {E : XK} (h : spP cc C_grouped vs H Q E) : vs.length = 2 := by
  obtain ⟨Z, ds, hz, hs, hp⟩ := h
  rw [hs.len]
  unfold C_grouped at hp
  split at hp
  · rename_i eq
    split at eq
    · rfl
    · cases eq
  · rename_i eq
    split at eq
    · rfl
    · cases eq
  · exact hp.elim
theorem len_cut_up {cc : Cc} {vs : List V} {H : Hp} {Q : VK} {E : XK} (h : spP cc C_cut_up vs H Q E) : vs.length = 3 := by
  obtain ⟨Z, ds, hz, hs, hp⟩ := h
  rw [hs.len]
  unfold C_cut_up at hp
  split at hp
  · rename_i eq
    split at eq
    · rfl
    · cases eq
  · rename_i eq
    split at eq
    · rfl
    · cases eq
  · exact hp.elim
theorem len_draw {vs : List V} {H : Hp} {Q : VK} {E : XK} (h : spD C__law_draw vs H Q E) : vs.length = 2 := by
  obtain ⟨Z, da, db, ns, c, us, ds, rfl, _, hz, _, _, _, _, hs, hp⟩ := h
  rw [List.length_cons, hs.len]
  unfold C__law_draw at hp
  split at hp
  · rename_i eq
    split at eq
    · rfl
    · cases eq
  · exact hp.elim

/-- a def of which nothing is promised -/
theorem fp_st {P : Program} {w : World} {K : PySem.W.Frag} {mg : Str → Option Value} {base : Heap} {cc : Cc} {x : Str} {st : Stmt} {N ps : List Str} {k : Nat} (d : Df K mg x st) (S : FnScope N ps (defScope st))
    (hb : ∀ (kV doc pm : Value) (an : Option Addr) (cdv ct : Value) (us : List Value), us.length = ps.length → bindArgs (PySem.W.fnOf x x (defArgs st) (defBody st) (defScope st) .none kV doc pm an cdv ct) ⟨us, []⟩ = pure (ps.zip us)) : Fp P w K mg base cc x k (fun _ => .st) := by
  obtain ⟨f, fd, F, hg⟩ := d
  exact ⟨f, fd, ps, ⟨fun vs H Q E h => by obtain ⟨_, _, _, _, z⟩ := h; exact z.elim, fun A outer s H args us vs Q E _ _ _ _ h => by obtain ⟨_, _, _, _, z⟩ := h; exact z.elim⟩, hg, F.kp, F.binds hb⟩
/-! ### a law -/
/-- the rest of a law, behind draws = _law_start(script), gives True -/
def LawOk (m : Nat) (G : Den Fl) : Prop := ∀ ns : List Int, ns ≠ [] → ∃ ρ', G (Slot.emp :: Slot.drw ns 0 :: List.replicate m Slot.emp) = .ok (.rt (.bool true)) ρ'
def spLaw (K : PySem.W.Frag) : Sp := fun vs H Q _ => ∃ (a : Addr) (ns : List Int), vs = [.ref a] ∧ SqL K H a (ns.map V.int) ∧ ∀ H', Q (.bl true) H'
theorem pure_law {cc : Cc} {K : PySem.W.Frag} {t : TS} {G : Den Fl} {m : Nat} {N : List Str} {E : XK} (hN : N.length = m + 2) (hG : LawOk m G) (hs : SndS cc (fun cls d _ H' => E cls d H') t G) (vs : List V) (H : Hp) (Q : VK) (h : spLaw K vs H Q E) :
    tSeq (tAsg (tCallS (spStart K) (WE fun cls d _ H' => E cls d H') (tCons (tVar 0) tNil)) (gName 1)) t { nx := fun _ H' => Q .non H', rt := Q } (L2.start N vs) H := by
  obtain ⟨a, ns, rfl, hS, k⟩ := h
  have e : L2.start N [.ref a] = some (.ref a) :: List.replicate (m + 1) none := by
    unfold L2.start
    rw [hN]
    rfl
  rw [e]
  refine ⟨.ref a, rfl, a, ns, rfl, hS, fun p q H' sm np nq ne hp hq => ?_⟩
  have hne : numsOf ns ≠ [] := by
    unfold numsOf
    split
    · simp
    · assumption
  obtain ⟨ρ', hr⟩ := hG (numsOf ns) hne
  let fr : Frm := ⟨fun _ => False, H', fun x => x = p ∨ x = q, p, q, 0, 0⟩
  let O : Nat → List Addr := fun i => if i = 1 then [p, q] else []
  have R : Rel cc fr O (some (.ref a) :: some (.ref p) :: List.replicate m none) H' (Slot.emp :: Slot.drw (numsOf ns) 0 :: List.replicate m Slot.emp) := by
    refine ⟨by simp, fun _ z => z.elim, fun _ _ _ e => e, fun _ h => h, fun i x hx => ?_, fun i j x hi hj => ?_, fun i es hi x hx => fun z => z, fun i sl hi => ?_⟩
    · by_cases e : i = 1
      · simp only [O, e, if_pos] at hx
        rcases List.mem_cons.mp hx with rfl | hx
        · exact ⟨.inr (.inl rfl), by rw [hp]; simp⟩
        · cases List.mem_singleton.mp hx
          exact ⟨.inr (.inr rfl), by rw [hq]; simp⟩
      · simp only [O, if_neg e] at hx; cases hx
    · by_cases e : i = 1
      · by_cases e' : j = 1
        · rw [e, e']
        · simp only [O, if_neg e'] at hj; cases hj
      · simp only [O, if_neg e] at hi; cases hi
    · match i, hi with
      | 0, hi => cases hi; rfl
      | 1, hi => cases hi; exact ⟨rfl, ne, rfl, hp, hq⟩
      | i + 2, hi =>
        have hi : (List.replicate m Slot.emp)[i]? = some sl := by simpa using hi
        rw [List.getElem?_replicate] at hi
        split at hi
        · cases hi; rfl
        · cases hi
  refine hs fr O (some (.ref a) :: some (.ref p) :: List.replicate m none) H' _ _ R ?_
  rw [hr]
  intro σ' O' H2 v R' m' hv
  simp only [Rep] at hv
  subst hv
  exact k H2
end GG

namespace GG
open PySem PySem.Spec PyProof.Rows L2

/-! ### methods of a list: count, index -/
def dLM (g : List D → D → Option D) (f1 f2 : Den D) : Den D := fun ρ => (f1 ρ).bind fun d ρ1 => match d with
  | .list ds => (f2 ρ1).bind fun e ρ2 => match g ds e with | some z => .ok z ρ2 | none => .st
  | _ => .st
def OkLM (r : V → List V → Hp → VK → Prop) (g : List D → D → Option D) : Prop := ∀ (H : Hp) (A : Addr → Prop) (x y : V) (ds : List D) (e d : D) (Q : VK), (∀ p, H p = none → ¬ A p) → Rep H A (.list ds) x → Rep H A e y → g ds e = some d → (∀ v H', Same H H' → Rep H' A d v → Q v H') → r x [y] H Q
section
variable {cc : Cc} {W : WX} {ta tb : TE} {f1 f2 : Den D} {K : PySem.W.Frag}
theorem snd_lm {r : V → List V → Hp → VK → Prop} {g : List D → D → Option D} (hr : OkLM r g) (ha : SndE cc W ta f1) (hb : SndE cc W tb f2) : SndE cc W (tBM K "list" r ta (tCons tb tNil)) (dLM g f1 f2) := fun fr O σ H ρ Q R p =>
  ha fr O σ H ρ _ R (p.bind fun d ρ1 O1 H1 R1 m1 p1 v hv => by
    split at p1
    · rename_i ds
      have hv' := hv
      simp only [Rep] at hv'
      obtain ⟨a, vs, rfl, na, hH, hs⟩ := hv'
      refine ⟨.inl ⟨rfl, vs, SqL.of hH⟩, hb fr O1 σ H1 ρ1 _ R1 (p1.bind fun e ρ2 O2 H2 R2 m2 p2 u hu => ?_)⟩
      cases q : g ds e with
      | none => rw [q] at p2; exact p2.elim
      | some z =>
        rw [q] at p2
        exact hr H2 (Av fr O2) _ u ds e z Q (fun p hp => R2.fresh hp) (m2.rep hv) hu q fun v' H' s' hv' => p2.now R2 s' v' hv'
    · exact p1.elim)
end
def gCnt (ds : List D) (e : D) : Option D := match intsOf ds, e with
  | some ns, .int k => some (.int (ns.count k : Nat))
  | _, _ => none
theorem ok_cnt {K : PySem.W.Frag} : OkLM (rCntI K) gCnt := fun H A x y ds e d Q fr hx hy hg k => by
  unfold gCnt at hg
  split at hg
  · rename_i ns m h1
    obtain ⟨a, rfl, na, hH⟩ := ints_at hx h1
    simp only [Rep] at hy
    subst hy
    cases hg
    exact ⟨a, ns, m, rfl, rfl, SqL.of hH, k _ _ (Same.refl H) (by simp only [Rep])⟩
  · cases hg
def gIdx (ds : List D) (e : D) : Option D := match intsOf ds, e with
  | some ns, .int k => if k ∈ ns then some (.int (ns.idxOf k : Nat)) else none
  | _, _ => none
theorem ok_idx {K : PySem.W.Frag} : OkLM (rIndex K) gIdx := fun H A x y ds e d Q fr hx hy hg k => by
  unfold gIdx at hg
  split at hg
  · rename_i ns m h1
    obtain ⟨a, rfl, na, hH⟩ := ints_at hx h1
    simp only [Rep] at hy
    subst hy
    split at hg
    · rename_i hm
      cases hg
      have hl : ns.idxOf m < ns.length := List.idxOf_lt_length_iff.mpr hm
      refine ⟨a, ns.map V.int, .int m, ns.idxOf m, .int m, rfl, rfl, SqL.of hH, rfl, ?_, ?_, ?_, ?_, k _ _ (Same.refl H) (by simp only [Rep])⟩
      · rw [List.all_map]
        exact List.all_eq_true.mpr fun _ _ => rfl
      · rw [List.getElem?_map, List.getElem?_eq_getElem hl, List.getElem_idxOf hl]
        rfl
      · simp [eqV]
      · intro j z hj hz
        rw [List.getElem?_map, List.getElem?_eq_getElem (Nat.lt_trans hj hl)] at hz
        cases hz
        have hne := List.not_of_lt_findIdx (p := fun x => x == m) (xs := ns) (i := j) hj
        simpa [eqV] using hne
    · cases hg
  · cases hg
section
variable {X : Cx} {cc : Cc} {W : WX} {o e : Expr} {ta tb : TE} {f1 f2 : Den D}
theorem de_count (K : PySem.W.Frag) {p2 p3 : Pos} (ho : DE X cc W o ta f1) (he : DE X cc W e tb f2) (h1 : starEach [e] X.env = [(false, eval e X.env)] := by rfl)
    (hb : attributeBase o "count" X.env (eval o X.env) = eval o X.env := by rfl)
    (hfew : ((backTo p3 (starEach [e] X.env)).all (fun x => !x.1) && (backToKw p3 (keywordEach [] X.env)).all (fun x => x.1.isSome) && decide ([e].length + ([] : List Keyword).length + (if ([] : List Keyword).isEmpty then 0 else 1) < 30)) = true := by rfl) (hline : (p2.endLine == p3.line) = true := by rfl) (hK : X.K = K := by rfl) :
    DE X cc W (.Call (.Attribute o "count" p2) [e] [] p3) (tBM K "list" (rCntI K) ta (tCons tb tNil)) (dLM gCnt f1 f2) := by
  subst hK
  exact ⟨pe_bm PySem.F.plainAttrs_list PySem.F.slot_list_count PySem.F.type_list_count mt_lcount ho.p (pa_cons he.p pa_nil h1) hb hfew hline h1 (by rfl), snd_lm ok_cnt ho.s he.s⟩
theorem de_index (K : PySem.W.Frag) {p2 p3 : Pos} (ho : DE X cc W o ta f1) (he : DE X cc W e tb f2) (h1 : starEach [e] X.env = [(false, eval e X.env)] := by rfl)
    (hb : attributeBase o "index" X.env (eval o X.env) = eval o X.env := by rfl)
    (hfew : ((backTo p3 (starEach [e] X.env)).all (fun x => !x.1) && (backToKw p3 (keywordEach [] X.env)).all (fun x => x.1.isSome) && decide ([e].length + ([] : List Keyword).length + (if ([] : List Keyword).isEmpty then 0 else 1) < 30)) = true := by rfl) (hline : (p2.endLine == p3.line) = true := by rfl) (hK : X.K = K := by rfl) :
    DE X cc W (.Call (.Attribute o "index" p2) [e] [] p3) (tBM K "list" (rIndex K) ta (tCons tb tNil)) (dLM gIdx f1 f2) := by
  subst hK
  exact ⟨pe_bm PySem.F.plainAttrs_list PySem.F.slot_list_index PySem.F.type_list_index mt_index ho.p (pa_cons he.p pa_nil h1) hb hfew hline h1 (by rfl), snd_lm ok_idx ho.s he.s⟩
end

/-! ### long chains of comparisons -/
abbrev TK := V → TT
def tk1 (r : R2) (tb : TE) : TK := fun x σ H Q => tb σ H fun y H2 => r x y H2 fun z H3 => ∃ k, z = .bl k ∧ Q k H3
def tkC (r : R2) (tb : TE) (t : TK) : TK := fun x σ H Q => tb σ H fun y H2 => r x y H2 fun z H3 => ∃ k, z = .bl k ∧ if k = true then t y σ H3 Q else Q false H3
def tLks (ta : TE) (t : TK) : TT := fun σ H Q => ta σ H fun x H1 => t x σ H1 Q
def dk1 (g : D → D → Option Bool) (f : Den D) : D → Den Bool := fun d ρ => (f ρ).bind fun e ρ1 => match g d e with | some b => .ok b ρ1 | none => .st
def dkC (g : D → D → Option Bool) (f : Den D) (h : D → Den Bool) : D → Den Bool := fun d ρ => (f ρ).bind fun e ρ1 => match g d e with | some true => h e ρ1 | some false => .ok false ρ1 | none => .st
def dLks (f : Den D) (h : D → Den Bool) : Den Bool := fun ρ => (f ρ).bind h
structure PLk (X : Cx) (pos : Pos) (ops : List CmpOp) (es : List Expr) (t : TK) : Prop where
  run : ∀ (pins : List (Addr × Obj)) (s : Shared) (σ : L2.St) (H : Hp) (Q : Bool → Hp → Prop) (x : V) (v : Value), Inv X pins σ H s → RelV x v → t x σ H Q → wpAny (model X.prog X.w) X.A (testChain pos v ops (evalEach es X.env)) (TP X pins σ Q) X.xe s
def SndK (cc : Cc) (W : WX) (t : TK) (h : D → Den Bool) : Prop := ∀ (fr : Frm) (O : Nat → List Addr) (σ : L2.St) (H : Hp) (ρ : Env') (Q : Bool → Hp → Prop) (d : D) (x : V), Rel cc fr O σ H ρ → Rep H (Av fr O) d x → Post cc W fr O σ H (h d ρ) (fun b _ H' => Q b H') → t x σ H Q
structure DLk (X : Cx) (cc : Cc) (W : WX) (pos : Pos) (ops : List CmpOp) (es : List Expr) (t : TK) (h : D → Den Bool) : Prop where
  p : PLk X pos ops es t
  s : SndK cc W t h
theorem Post.moreH {cc : Cc} {W : WX} {fr : Frm} {O : Nat → List Addr} {σ : L2.St} {H H' : Hp} {α : Type} {r : Res α} {P : α → (Nat → List Addr) → Hp → Prop} (h : Post cc W fr O σ H r P) (s : Same H H') : Post cc W fr O σ H' r P := by
  cases r with
  | st => exact h
  | er k ρ => exact fun O' H1 R' m' => h O' H1 R' ((Mv.new s).trans m')
  | ok a ρ => exact fun O' H1 R' m' => h O' H1 R' ((Mv.new s).trans m')
section
variable {X : Cx} {cc : Cc} {W : WX} {a b c : Expr} {ta tb : TE} {f1 f2 : Den D} {pos : Pos} {op op' : CmpOp} {ops : List CmpOp} {es : List Expr} {r : R2} {g : D → D → Option Bool} {t : TK} {h : D → Den Bool}
theorem dl_one (ho : OpR X (compareOp op) r) (hr : OkR2 r (bo g)) (hb : DE X cc W b tb f2) : DLk X cc W pos [op] [b] (tk1 r tb) (dk1 g f2) := by
  refine ⟨⟨fun pins s σ H Q x v I rx q => ?_⟩, fun fr O σ H ρ Q d x R hx p => ?_⟩
  · refine test_last (thn (hb.p.run pins s σ H _ I q) fun u s2 ⟨y, H2, I2, r2, q2⟩ => thn (ho pins s2 σ H2 x y v u _ I2 rx r2 q2) fun c s3 ⟨z, H3, I3, r3, k, e, q3⟩ => ?_)
    subst e
    cases r3
    exact wpAny_truthy_bool ⟨H3, I3, q3⟩
  · refine hb.s fr O σ H ρ _ R (p.bind fun e ρ1 O1 H1 R1 m1 p1 u hu => ?_)
    cases q : g d e with
    | none => simp only [q] at p1; exact p1.elim
    | some k =>
      simp only [q] at p1
      refine hr H1 (Av fr O1) x u d e (.bool k) _ (fun p hp => R1.fresh hp) (m1.rep hx) hu (by simp [bo, q]) fun z H3 s3 hz => ?_
      simp only [Rep] at hz
      subst hz
      exact ⟨k, rfl, p1.now R1 s3⟩
theorem dl_cons (ho : OpR X (compareOp op) r) (hr : OkR2 r (bo g)) (hb : DE X cc W b tb f2) (hl : DLk X cc W pos (op' :: ops) (c :: es) t h) : DLk X cc W pos (op :: op' :: ops) (b :: c :: es) (tkC r tb t) (dkC g f2 h) := by
  refine ⟨⟨fun pins s σ H Q x v I rx q => ?_⟩, fun fr O σ H ρ Q d x R hx p => ?_⟩
  · refine test_link (thn (hb.p.run pins s σ H _ I q) fun u s2 ⟨y, H2, I2, r2, q2⟩ => thn (ho pins s2 σ H2 x y v u _ I2 rx r2 q2) fun d s3 ⟨z, H3, I3, r3, k, e, q3⟩ => ?_)
    subst e
    cases r3
    refine wpAny_truthy_bool ?_
    cases k with
    | false => exact ite_ff ⟨H3, I3, q3⟩
    | true => exact ite_tt (hl.p.run pins s3 σ H3 Q y u I3 r2 q3)
  · refine hb.s fr O σ H ρ _ R (p.bind fun e ρ1 O1 H1 R1 m1 p1 u hu => ?_)
    cases q : g d e with
    | none => simp only [q] at p1; exact p1.elim
    | some k =>
      refine hr H1 (Av fr O1) x u d e (.bool k) _ (fun p hp => R1.fresh hp) (m1.rep hx) hu (by simp [bo, q]) fun z H3 s3 hz => ?_
      simp only [Rep] at hz
      subst hz
      refine ⟨k, rfl, ?_⟩
      cases k with
      | false =>
        simp only [q] at p1
        exact p1.now R1 s3
      | true =>
        simp only [q] at p1
        exact hl.s fr O1 σ H3 ρ1 Q e u (R1.more s3) ((Mv.new (O := O1) s3).rep hu) (p1.moreH s3)
theorem dt_links (ha : DE X cc W a ta f1) (hl : DLk X cc W pos (op :: op' :: ops) (b :: c :: es) t h) (hm : lastMarks (op :: op' :: ops) (b :: c :: es) = false := by with_unfolding_all rfl) : DT X cc W (.Compare a (op :: op' :: ops) (b :: c :: es) pos) (tLks ta t) (dLks f1 h) :=
  ⟨⟨fun pins s σ H Q I q => isTrue_chain (thn (ha.p.run pins s σ H _ I q) fun v s1 ⟨x, H1, I1, r1, q1⟩ => hl.p.run pins s1 σ H1 Q x v I1 r1 q1) hm⟩,
   fun fr O σ H ρ Q R p => ha.s fr O σ H ρ _ R (p.bind fun d ρ1 O1 H1 R1 m1 p1 v hv => hl.s fr O1 σ H1 ρ1 Q d v R1 hv p1)⟩
end
end GG

namespace GG
open PySem PySem.Spec PyProof.Rows L2

/-! ### set(xs), xs a list of ints; sorted(set(xs)), len(set(xs)) -/
abbrev mtS (w : World) : Obj := { cls := .type "set", dict := none, data := .set #[] 0 (.fresh 0 0 (!w.params.followText "set-order")) }
section
variable {P : Program} {w : World} {A : Around} {E : Value → Shared → Prop} {s : Shared}
set_option maxHeartbeats 8000000 in
theorem set_of_list {l : Addr} {xs : Array Value} (ns : List Int) {Q : Value → Shared → Prop} (h0 : A.handled = none) (hx : s.heap.IsList l xs) (hn : IntsAre xs.toList ns) (hz : ns.length + 1 < scanBound)
    (k : ∀ (h' : Heap) (tk c : Nat), SetR w h' s.heap.objs.size (fun j => decide (j ∈ ns)) c → c ≤ ns.length → (∀ b o, s.heap.get? b = some o → h'.get? b = some o) → Q (.ref s.heap.objs.size) { s with heap := h', toks := tk }) :
    wpAny (model P w) A (call (.type "set") [.ref l]) Q E s := by
  have sz : xs.size = ns.length := by
    have := IntsAre.length hn
    rwa [Array.length_toList] at this
  obtain ⟨mc, mt, hm0⟩ := F.called_set.mro
  have hm1 := F.called_set.made
  have hm2 := F.called_set.sub
  refine wpAny_call (codeAny_of_tree ?_)
  show wpAny _ _ (callAny (.type "set") _) _ _ _
  refine wpAny_pure ⟨Code.quiet_builtin _ (by decide +kernel), codeAny_builtin F.entry_type_call ?_⟩
  rw [Around.under_plain (weight_type_call_type "set" [.ref l] []) (Eq.refl _)]
  have hm3 := F.called_set.notType
  have hm4 := F.called_set.canCreate
  have hm5 := F.typeCall_set_1 (.ref l)
  repeat any_goals first | assumption | wp_step
  refine codeAny_mono (code_set_led1 (w := w) (.ref l) (E := E) (Q₁ := fun z s1 => z = .ref s.heap.objs.size ∧ s1 = { s with heap := s.heap.push (mtS w) }) ⟨rfl, rfl⟩) fun r s1 hr => ?_
  cases r with
  | error e => exact hr
  | ok fl =>
    cases fl with
    | ret z =>
      obtain ⟨rfl, rfl⟩ := hr
      have g1 : (s.heap.push (mtS w)).get? s.heap.objs.size = some (mtS w) := Heap.get?_push_size _ rfl
      have g2 : Shared.TypeIs { s with heap := s.heap.push (mtS w) } (.ref s.heap.objs.size) "set" := ⟨_, g1, rfl⟩
      have g3 := F.called_set.init.lookup
      have g4 := F.called_set.init.bind (.ref s.heap.objs.size)
      repeat any_goals first | assumption | wp_step
      refine codeAny_mono (codeAny_call_builtin (R := wants (fun r s2 => r = .none ∧ ∃ h' tk c, s2 = { s with heap := h', toks := tk } ∧ SetR w h' s.heap.objs.size (fun j => decide (j ∈ ns)) c ∧ c ≤ ns.length ∧ (∀ b o, s.heap.get? b = some o → h'.get? b = some o)) E) F.called_set.init.plain F.entry_set_init (check_set_init_1 g2 ?_)) fun r2 s2 hr2 => ?_
      · obtain ⟨⟨ocls, odict, odata, oslots⟩, go, gc, gn, gd⟩ := hx
        simp only at gc gd
        subst gc; subst gd
        have go' : (s.heap.push (mtS w)).get? l = some { cls := .type "list", dict := odict, data := .seq xs gn, slots := oslots } := Heap.get?_push_of_some _ go
        have f1 := F.sub_list_set
        have f2 := F.sub_list_frozenset
        have f3 : (Value.type "list" == Value.type "dict") = false := (by decide)
        have gl : (s.heap.push (mtS w)).IsList l xs := ⟨_, go', rfl, gn, rfl⟩
        unfold Builtin.«set.__init__» noKeywords Builtin.Frozenset.updateFrom
        generalize hPy : pyIter = PyI
        wp_walk
        subst hPy
        refine wpAny_pyIter_list gl ?_
        refine wpAny_bind (wpAny_runValue ?_)
        have lt : l < s.heap.objs.size := Heap.lt_size go
        have h3 : A.in1.in1.in1.handled = none := (by simp [h0])
        have ps : (s.heap.push (mtS w)).objs.size = s.heap.objs.size + 1 := Heap.size_push ..
        have n1 : l ≠ (s.heap.push (mtS w)).objs.size := by rw [ps]; exact Nat.ne_of_lt (Nat.lt_succ_of_lt lt)
        have n2 : s.heap.objs.size ∉ [(s.heap.push (mtS w)).objs.size, l] := by
          rw [ps]
          simp only [List.mem_cons, List.not_mem_nil, or_false, not_or]
          exact ⟨Nat.ne_of_lt (Nat.lt_succ_self _), Nat.ne_of_gt lt⟩
        have vl : ∀ (i : Nat) (v : Value), xs[i]? = some v → ∃ k t, ns[i]? = some k ∧ v = .int k t := fun i v hv => by
          have hi : i < ns.length := by rw [← sz]; exact (Array.getElem?_eq_some_iff.mp hv).1
          obtain ⟨t, e⟩ := PyProof.Rows.IntsAre.int_at hn i v (by rw [Array.getElem?_toList]; exact hv)
          refine ⟨ns[i], t, List.getElem?_eq_getElem hi, ?_⟩
          rw [e, List.getD_eq_getElem?_getD, List.getElem?_eq_getElem hi, Option.getD_some]
        refine set_update_ints ((Walks.list h3 _ l n1 xs).toS) s.heap.objs.size n2 ns sz hz vl (xs.size - 0) 0 _ (by omega) (Nat.zero_le _)
          ⟨⟨_, Heap.get?_push_size _ rfl, rfl, rfl⟩, gl.push _⟩ ⟨0, Nat.le_refl 0, setR_new_at (Heap.get?_push_of_some _ g1)⟩ fun t' c' hv hc hS => ?_
        obtain ⟨h', x2, x3, tk', x5⟩ := t'
        have y1 : x2 = s.gens := hv.gens
        have y2 : x3 = s.drawn := hv.drawn
        have y3 : x5 = s.os := hv.os
        subst y1; subst y2; subst y3
        show wpAny _ _ _ _ _ _
        refine wpAny_pure ?_
        show wpAny _ _ (ret Value.none) _ _ _
        rw [sz] at hc
        refine wpAny_pure ⟨rfl, h', tk', c', rfl, hS, hc, fun b o e => ?_⟩
        have b0 : b < s.heap.objs.size := Heap.lt_size e
        refine hv.heap b o ?_ (Heap.get?_push_of_some _ (Heap.get?_push_of_some _ e))
        simp only [List.mem_cons, List.not_mem_nil, or_false, not_or]
        rw [ps]
        exact ⟨Nat.ne_of_lt b0, Nat.ne_of_lt (Nat.lt_succ_of_lt b0)⟩
      · cases r2 with
        | error e => exact hr2
        | ok fl2 =>
          cases fl2 with
          | ret r =>
            obtain ⟨rfl, h', tk, c', rfl, q1, q2, q3⟩ := hr2
            repeat any_goals first | assumption | wp_step
            exact k _ _ _ q1 q2 q3
          | _ => exact hr2.elim
    | _ => exact hr.elim
end

end GG

namespace GG
open PySem PySem.Spec PyProof.Rows L2
/-- equal neighbours once -/
def dB (x : Int) : List Int → List Int
  | [] => []
  | y :: r => if y = x then dB y r else y :: dB y r
def dA : List Int → List Int
  | [] => []
  | x :: r => x :: dB x r
theorem dB_mem : ∀ {r : List Int} {x : Int}, (x :: r).Pairwise (· ≤ ·) → ∀ s, s ∈ dB x r → x < s
  | [], _, _, s, h => by cases h
  | y :: r, x, hp, s, h => by
    have hxy : x ≤ y := (List.pairwise_cons.mp hp).1 y List.mem_cons_self
    unfold dB at h
    split at h
    · rename_i e
      have := dB_mem (List.pairwise_cons.mp hp).2 s h
      omega
    · rcases List.mem_cons.mp h with rfl | h
      · omega
      · have := dB_mem (List.pairwise_cons.mp hp).2 s h
        omega
theorem dB_strict : ∀ {r : List Int} {x : Int}, (x :: r).Pairwise (· ≤ ·) → (dB x r).Pairwise (· < ·)
  | [], _, _ => List.Pairwise.nil
  | y :: r, x, hp => by
    have hp2 := (List.pairwise_cons.mp hp).2
    unfold dB
    split
    · exact dB_strict hp2
    · exact List.pairwise_cons.mpr ⟨fun s hs => dB_mem hp2 s hs, dB_strict hp2⟩
theorem dB_iff : ∀ (r : List Int) (x s : Int), s = x ∨ s ∈ dB x r ↔ s = x ∨ s ∈ r
  | [], _, _ => Iff.rfl
  | y :: r, x, s => by
    have ih := dB_iff r y s
    unfold dB
    by_cases e : y = x
    · rw [if_pos e, List.mem_cons, ← e]
      constructor
      · intro h
        rcases ih.mp h with h | h
        · exact .inl h
        · exact .inr (.inr h)
      · rintro (h | h | h)
        · exact ih.mpr (.inl h)
        · exact ih.mpr (.inl h)
        · exact ih.mpr (.inr h)
    · rw [if_neg e, List.mem_cons, List.mem_cons, ih]
theorem dA_iff (l : List Int) (s : Int) : s ∈ dA l ↔ s ∈ l := by
  cases l with
  | nil => exact Iff.rfl
  | cons x r =>
    show s ∈ x :: dB x r ↔ _
    rw [List.mem_cons, List.mem_cons, dB_iff]
theorem dA_strict {l : List Int} (h : l.Pairwise (· ≤ ·)) : (dA l).Pairwise (· < ·) := by
  cases l with
  | nil => exact List.Pairwise.nil
  | cons x r => exact List.pairwise_cons.mpr ⟨fun s hs => dB_mem h s hs, dB_strict h⟩
theorem strict_unique : ∀ {a b : List Int}, a.Pairwise (· < ·) → b.Pairwise (· < ·) → (∀ k, k ∈ a ↔ k ∈ b) → a = b
  | [], [], _, _, _ => rfl
  | [], y :: b, _, _, h => absurd ((h y).mpr List.mem_cons_self) (by simp)
  | x :: a, [], _, _, h => absurd ((h x).mp List.mem_cons_self) (by simp)
  | x :: a, y :: b, ha, hb, h => by
    have pa := List.pairwise_cons.mp ha
    have pb := List.pairwise_cons.mp hb
    have e : x = y := by
      rcases List.mem_cons.mp ((h x).mp List.mem_cons_self) with e | e
      · exact e
      · rcases List.mem_cons.mp ((h y).mpr List.mem_cons_self) with e2 | e2
        · exact e2.symm
        · have := pb.1 x e
          have := pa.1 y e2
          omega
    subst e
    rw [strict_unique pa.2 pb.2 fun k => ?_]
    constructor
    · intro hk
      rcases List.mem_cons.mp ((h k).mp (List.mem_cons_of_mem _ hk)) with e | e
      · have := pa.1 k hk
        omega
      · exact e
    · intro hk
      rcases List.mem_cons.mp ((h k).mpr (List.mem_cons_of_mem _ hk)) with e | e
      · have := pb.1 k hk
        omega
      · exact e
def uS (ns : List Int) : List Int := dA (isort ns)
theorem uS_strict (ns : List Int) : (uS ns).Pairwise (· < ·) := dA_strict (isort_sorted ns)
theorem uS_iff (ns : List Int) (k : Int) : k ∈ uS ns ↔ k ∈ ns := by
  unfold uS
  rw [dA_iff, (isort_perm ns).mem_iff]
def tSoS (K : PySem.W.Frag) (ta : TE) : TE := fun σ H Q => ta σ H fun x H1 => ∃ (l : Addr) (ns : List Int), x = .ref l ∧ SqL K H1 l (ns.map V.int) ∧ ns.length < 64 ∧
  ∀ p : Addr, H1 p = none → Q (.ref p) (upd H1 p (.lst ((uS ns).map V.int)))
def tLnS (K : PySem.W.Frag) (ta : TE) : TE := fun σ H Q => ta σ H fun x H1 => ∃ (l : Addr) (ns : List Int), x = .ref l ∧ SqL K H1 l (ns.map V.int) ∧ ns.length < 64 ∧ Q (.int ((uS ns).length : Nat)) H1
section
variable {X : Cx} {a : Expr} {ta : TE} {p p2 q pos : Pos}
theorem pe_sos (hc : X.calm = true) (hg : Gl X "sorted") (hm : X.mg "sorted" = none) (hg2 : Gl X "set") (hm2 : X.mg "set" = none) (ha : PE X a ta)
    (na : starEach [a] X.env = (false, eval a X.env) :: starEach [] X.env) : PE X (.Call (.Name "sorted" p) [.Call (.Name "set" p2) [a] [] q] [] pos) (tSoS X.K ta) := by
  refine ⟨fun pins s σ H Q I h => ?_⟩
  refine Call_ (ld_blt I hg hm bb_sorted ?_)
  refine callWith_builtin1 (args_cons ?_ rfl) rfl rfl
  refine Call_ (ld_blt I hg2 hm2 PyProof.Rows.boot_set ?_)
  refine callWith_type1 (args_cons (thn (ha.run pins s σ H _ I h) fun v s1 ⟨x, H1, I1, r1, w1⟩ => args_nil ?_) na) na rfl
  obtain ⟨l, ns, rfl, hS, h64, w1⟩ := w1
  cases r1
  obtain ⟨its, rv, pl, hz⟩ := I1.list hS
  have hi : IntsAre its.toArray.toList ns := ints_of_vals rv
  refine set_of_list ns (I1.ok.hd hc) pl.isList hi (by unfold scanBound; omega) fun h' tk c R hcn kk => ?_
  refine args_nil ?_
  have I2 : Inv X pins σ H1 { s1 with heap := h', toks := tk } := I1.kept kk
  refine sorted_set R (I1.ok.hd hc) (by omega) fun s' pp out c' ns' k2 g2 o2 hpp hgp hi2 hs2 hm3 hl2 => ?_
  have e : ns' = uS ns := strict_unique hs2 (uS_strict ns) fun j => by rw [hm3 j, uS_iff, decide_eq_true_eq]
  subst e
  have hlen : ((uS ns).map V.int).length ≤ sizeLine := by rw [List.length_map, hl2, sizeLine_eq]; omega
  have hn : H1 pp = none := I2.hok.fresh hpp
  have J : Inv X pins σ (upd H1 pp (.lst ((uS ns).map V.int))) { s1 with heap := s'.heap, gens := s'.gens, drawn := s'.drawn, toks := s'.toks } :=
    L2.Inv.call (s := { s1 with heap := h', toks := tk }) I2 (ch := []) (Un.laid k2 hpp hn) (I2.hok.laid k2 hpp ⟨hlen, out.toList, c', vals_of_ints hi2, hgp⟩) (by rw [g2]; exact I2.bare) (fun _ z => nomatch z)
  have es : s' = { s1 with heap := s'.heap, gens := s'.gens, drawn := s'.drawn, toks := s'.toks } := by
    cases s'
    cases s1
    cases o2
    rfl
  rw [es]
  exact ⟨.ref pp, _, J, rfl, w1 pp hn⟩
theorem pe_lns (hc : X.calm = true) (hg : Gl X "len") (hm : X.mg "len" = none) (hg2 : Gl X "set") (hm2 : X.mg "set" = none) (ha : PE X a ta)
    (na : starEach [a] X.env = (false, eval a X.env) :: starEach [] X.env) : PE X (.Call (.Name "len" p) [.Call (.Name "set" p2) [a] [] q] [] pos) (tLnS X.K ta) := by
  refine ⟨fun pins s σ H Q I h => ?_⟩
  refine Call_ (ld_blt I hg hm bb_len ?_)
  refine callWith_builtin1 (args_cons ?_ rfl) rfl rfl
  refine Call_ (ld_blt I hg2 hm2 PyProof.Rows.boot_set ?_)
  refine callWith_type1 (args_cons (thn (ha.run pins s σ H _ I h) fun v s1 ⟨x, H1, I1, r1, w1⟩ => args_nil ?_) na) na rfl
  obtain ⟨l, ns, rfl, hS, h64, w1⟩ := w1
  cases r1
  obtain ⟨its, rv, pl, hz⟩ := I1.list hS
  have hi : IntsAre its.toArray.toList ns := ints_of_vals rv
  refine set_of_list ns (I1.ok.hd hc) pl.isList hi (by unfold scanBound; omega) fun h' tk c R hcn kk => ?_
  refine args_nil ?_
  have I2 : Inv X pins σ H1 { s1 with heap := h', toks := tk } := I1.kept kk
  obtain ⟨o, es, ep, t, ho, hex, hd, g, nd, hm3, hb, hf, hn, hr, hl⟩ := R
  have ec : c = (uS ns).length := by
    have s1 : isort (es.toList.map keyOf) = uS ns := strict_unique (lt_of_le_nodup _ (isort_sorted _) ((isort_perm _).nodup_iff.mpr nd)) (uS_strict ns) fun j => by
      rw [(isort_perm _).mem_iff, ← hm3 j, uS_iff, decide_eq_true_eq]
    have s2 := congrArg List.length s1
    rw [(isort_perm _).length_eq, List.length_map, Array.length_toList, hn] at s2
    exact s2
  exact call_len_set ho hex hd hf (by rw [hn]; omega) ⟨.int (uS ns).length, H1, I2.tok _, ⟨_, by rw [hn, ec]⟩, w1⟩
end
def gSortedSet : D → Option D
  | .list ds => (intsOf ds).bind fun ns => if ns.length < 64 then some (.list ((uS ns).map PyData.int)) else none
  | _ => none
def gLenSet : D → Option D
  | .list ds => (intsOf ds).bind fun ns => if ns.length < 64 then some (.int ((uS ns).length : Nat)) else none
  | _ => none
section
variable {cc : Cc} {W : WX} {ta : TE} {f : Den D} {K : PySem.W.Frag}
theorem snd_sos (ha : SndE cc W ta f) : SndE cc W (tSoS K ta) (dB1 gSortedSet f) := fun fr O σ H ρ Q R p =>
  ha fr O σ H ρ _ R (p.bind fun d ρ1 O1 H1 R1 m1 p1 v hv => by
    cases q : gSortedSet d with
    | none => rw [q] at p1; exact p1.elim
    | some z =>
      rw [q] at p1
      unfold gSortedSet at q
      split at q
      · simp only [Option.bind_eq_some_iff] at q
        obtain ⟨ns, h1, h2⟩ := q
        obtain ⟨a, rfl, na, hH⟩ := ints_at hv h1
        split at h2
        · rename_i h64
          cases h2
          refine ⟨a, ns, rfl, SqL.of hH, h64, fun pp hp => ?_⟩
          exact p1.now R1 (same_upd hp) _ (by simp only [Rep]; exact ⟨pp, _, rfl, R1.fresh hp, upd_same, Reps.ofInts _⟩)
        · cases h2
      · cases q)
theorem snd_lns (ha : SndE cc W ta f) : SndE cc W (tLnS K ta) (dB1 gLenSet f) := fun fr O σ H ρ Q R p =>
  ha fr O σ H ρ _ R (p.bind fun d ρ1 O1 H1 R1 m1 p1 v hv => by
    cases q : gLenSet d with
    | none => rw [q] at p1; exact p1.elim
    | some z =>
      rw [q] at p1
      unfold gLenSet at q
      split at q
      · simp only [Option.bind_eq_some_iff] at q
        obtain ⟨ns, h1, h2⟩ := q
        obtain ⟨a, rfl, na, hH⟩ := ints_at hv h1
        split at h2
        · rename_i h64
          cases h2
          exact ⟨a, ns, rfl, SqL.of hH, h64, p1.here R1 _ (by simp only [Rep])⟩
        · cases h2
      · cases q)
end
section
variable {X : Cx} {cc : Cc} {W : WX} {a : Expr} {ta : TE} {f : Den D} {p p2 q pos : Pos}
theorem de_sortedSet (B : Bt X.mg) (ha : DE X cc W a ta f) (hg : Gl X "sorted" := by rfl) (hg2 : Gl X "set" := by rfl) (hc : X.calm = true := by rfl) (na : starEach [a] X.env = (false, eval a X.env) :: starEach [] X.env := by rfl) :
    DE X cc W (.Call (.Name "sorted" p) [.Call (.Name "set" p2) [a] [] q] [] pos) (tSoS X.K ta) (dB1 gSortedSet f) := ⟨pe_sos hc hg B.sorted hg2 B.set ha.p na, snd_sos ha.s⟩
theorem de_lenSet (B : Bt X.mg) (ha : DE X cc W a ta f) (hg : Gl X "len" := by rfl) (hg2 : Gl X "set" := by rfl) (hc : X.calm = true := by rfl) (na : starEach [a] X.env = (false, eval a X.env) :: starEach [] X.env := by rfl) :
    DE X cc W (.Call (.Name "len" p) [.Call (.Name "set" p2) [a] [] q] [] pos) (tLnS X.K ta) (dB1 gLenSet f) := ⟨pe_lns hc hg B.len hg2 B.set ha.p na, snd_lns ha.s⟩
end
end GG

namespace GG
open PySem PySem.Spec PyProof.Rows L2

/-! ### a caught error that is kept -/
theorem exT_ok {P : Program} {w : World} {H : Hp} {h : Heap} {a C : Addr} {oe : Obj} {vs : Array Value} (e : h.get? a = some oe) (z : Zc (.ref C) none oe) (q : oe.data = .fields vs) : ObjOk P w H h a (ExT C a) :=
  ⟨⟨oe, vs, e, z, q⟩, ⟨oe, e⟩, fun h1 h2 ⟨o, us, p1, p2, p3⟩ k => ⟨o, us, k _ p1, p2, p3⟩⟩
section
variable {X : Cx} {pins : List (Addr × Obj)} {σ : L2.St} {H : Hp} {s : Shared}
theorem track {a : Addr} {o : HO} (I : Inv X pins σ H s) (na : H a = none) (nL : a ≠ X.env.locals) (n0 : X.s_0.heap.get? a = none) (nc : ∀ x c, X.env.cells.lookup x = some c → c ≠ a) (np : ∀ p, p ∈ X.pn ++ pins → p.1 ≠ a)
    (new : ObjOk X.prog X.w (upd H a o) s.heap a o) : Inv X pins σ (upd H a o) s := by
  have ne : ∀ b u, H b = some u → b ≠ a := fun b u e z => by rw [z, na] at e; cases e
  refine ⟨I.ok, I.os, I.bare, ⟨I.base.keep, I.base.slot, fun b u e n q => ?_, I.base.there, fun b xs e => ?_, fun b u xs e => ?_, fun b ps e => ?_⟩, I.loc, I.cell, ?_, fun x c e => ?_, fun p hp => ?_, I.hok.laidN (fun _ _ q => q) na new, I.len⟩
  · rw [upd_ne (fun z => by rw [z, n0] at e; cases e)]
    exact I.base.free b u e n q
  · have q := I.base.tups b xs e
    rw [upd_ne (ne _ _ q)]
    exact q
  · have q := I.base.frzs b u xs e
    rw [upd_ne (ne _ _ q)]
    exact q
  · obtain ⟨m, q⟩ := I.base.tbls b ps e
    exact ⟨m, by rw [upd_ne (ne _ _ q)]; exact q⟩
  · rw [upd_ne (Ne.symm nL)]
    exact I.free
  · rw [upd_ne (nc x c e)]
    exact I.freeC x c e
  · obtain ⟨e, n, m, f, dd⟩ := I.pin p hp
    exact ⟨e, by rw [upd_ne (np p hp)]; exact n, m, f, dd⟩
end

def noE : Ends := { nx := fun _ _ => False, rt := fun _ _ => False, bk := fun _ _ => False, ct := fun _ _ => False }
/-- what 'except x as n' wishes, where the suite keeps the error under another name -/
def wKeep (K : PySem.W.Frag) (c : Value) (i : Nat) (ts : TS) (Wo : WX) (D : Ends) : WX := fun cls d σ H =>
  ∃ b, PySem.W.exmOne K cls c = some b ∧ (b = true → ∃ C, cls = .ref C ∧ d = none ∧ ∀ a, H a = none → ts { noE with nx := fun σ' H' => D.nx (σ'.set i none) (upd H' a (ExT C a)) } (σ.set i (some (.ref a))) H) ∧ (b = false → Wo cls d σ H)
section
variable {X : Cx} {x n : Str} {c : Value} {i : Nat} {body suite : List Stmt} {st0 : Stmt} {np pos pos' : Pos} {tb : WX → TS} {ts : TS} {Wo : WX}
theorem ps_try_keep (hx : X.ex = []) (hst : X.stack = X.env :: X.outer) (hfl : X.env.frame = some X.env.locals) (hN : X.N.Nodup) (hi : X.N[i]? = some n) (hln : X.env.kindOf n = some .local) (hcn : Names X x c) (tk : Takes X Wo)
    (hbody : ∀ (W : WX) (pn : List (Addr × Obj)) (xe : Value → Shared → Prop), Takes (X.tr pn xe) W → PassesOwn (model X.prog X.w) X.A X.env xe → PSs (X.tr pn xe) body (tb W))
    (hsuite : ∀ (a : Addr) (oe : Obj) (pn : List (Addr × Obj)), PSs (X.suite a ((a, oe) :: pn)) (st0 :: suite) ts) :
    PS X (.Try body [.ExceptHandler (some (.Name x np)) (some n) (st0 :: suite) pos'] [] [] pos) (fun D σ H => tb (wKeep X.K c i ts Wo D) D σ H) := by
  refine ⟨fun pins s σ H D I h => ?_⟩
  have ok := I.ok
  have frm : X.A.frames = some (X.env :: X.outer) := by rw [ok.frames, hst]
  refine wpAny_Try_except ?_
  refine wpAny_mono ((hbody (wKeep X.K c i ts Wo D) (X.pn ++ pins) (fun e s1 => wpAny (model X.prog X.w) X.A (noteFrame e X.env) (fun _ s2 => wpAny (model X.prog X.w) X.A (setFlight e none) (fun _ s3 =>
    wpAny (model X.prog X.w) X.A (handleBy e X.env [.ExceptHandler (some (.Name x np)) (some n) (st0 :: suite) pos']) (SP X pins D) X.xe s3) X.xe s2) X.xe s1) (fun u s' xx => ?_) PassesOwn.looking).run [] s σ H D (I.toTry _) h) (fun f s1 hsp => ?_) (fun e s1 he => he)
  · obtain ⟨a, B, t0, pins', σ1, H1, cls, d, rfl, J', inB, up, sky, na, os, ag, b, hb1, hyes, hno⟩ := xx
    have J : Inv X pins σ1 H1 t0 := J'.ofTry ok
    have sky1 : Sky B (X.env :: X.outer) a (Zc cls d) X.env.locals s'.heap := by rw [← hst]; exact sky
    show wpAny (model X.prog X.w) X.A (noteFrame (.ref a) X.env) _ _ _
    refine Sky.land Zc.steady frm hfl sky1 fun h3 f3 up3 => ?_
    have J3 : Inv X pins σ1 H1 { s' with heap := h3 } := J.landed inB f3.1 (up.trans up3) os ag
    obtain ⟨o3, v3, e3, z3, d3⟩ := f3.there
    have nfr : a ∉ frs (X.env :: X.outer) := fun hm => by
      obtain ⟨_, o', e', hnf⟩ := f3.2.2.1.mem hm
      rw [e3] at e'
      cases e'
      exact hnf _ d3
    have nL : a ≠ X.env.locals := fun z => nfr (List.mem_filterMap.mpr ⟨X.env, List.mem_cons_self, by rw [hfl, z]⟩)
    have nF : a ∉ X.fs := fun hm => by
      obtain ⟨e, he, q⟩ := List.mem_filterMap.mp hm
      exact nfr (List.mem_filterMap.mpr ⟨e, List.mem_cons_of_mem _ he, q⟩)
    have newT : t0.heap.get? a = none := by
      cases q : t0.heap.get? a with
      | none => rfl
      | some o =>
        have z := inB a o q (by rw [hst]; exact nfr)
        rw [f3.2.1] at z
        cases z
    have n0 : X.s_0.heap.get? a = none := by
      cases q : X.s_0.heap.get? a with
      | none => rfl
      | some o =>
        obtain ⟨o', z⟩ := J.base.there a o q (by rw [hx]; exact fun z => nomatch z)
        rw [newT] at z
        cases z
    have nc : ∀ y k, X.env.cells.lookup y = some k → k ≠ a := fun y k e z => by
      obtain ⟨v, o, ho, _⟩ := J.cell y k e
      rw [z, newT] at ho
      cases ho
    have npin : ∀ p, p ∈ X.pn ++ pins → p.1 ≠ a := fun p hp z => by
      obtain ⟨e, _⟩ := J.pin p hp
      rw [z, newT] at e
      cases e
    have S3 := J3.suite e3 d3 na nL nF
    refine wpAny_handleBy_cons (codeAny_handlers_test ?_) (by intro q; cases q)
    have lk : PySem.W.Looks (model X.prog X.w) h3 (typeOf (.ref a)) cls := fun A Q E s k q => wpAny_typeOf_ref (k _ _ e3) (by rw [z3.1]; exact q)
    have lm := PySem.W.exm_one (M := model X.prog X.w) (J3.kIn) lk hb1
    have nm : ∀ {Q : Value → Shared → Prop} {E : Value → Shared → Prop}, Q c { s' with heap := h3 } → wpAny (model X.prog X.w) (X.A.mark (some (.ref a))) (eval (.Name x np) X.env) Q E { s' with heap := h3 } := fun {Q E} q => by
      obtain ⟨hg, hdb, hm | ⟨hm, hv, hnn⟩⟩ := hcn
      · exact ld_glob (X := X.suite a ((a, o3) :: (X.pn ++ pins))) S3 hg hm q hdb
      · exact ld_blt (X := X.suite a ((a, o3) :: (X.pn ++ pins))) S3 hg hm hv q hnn hdb
    refine nm (lm.here ?_)
    cases b with
    | true =>
      obtain ⟨C, rfl, rfl, hC⟩ := hyes rfl
      refine codeAny_handlers_suite_as ?_
      refine HandSPX.lands_againZ f3 fun h4 f4 up4 => ?_
      have J4 : Inv X pins σ1 H1 { s' with heap := h4 } := J.landed inB f4.1 ((up.trans up3).trans up4) os ag
      obtain ⟨o4, v4, e4, z4, d4⟩ := f4.there
      have S4 := J4.suite e4 d4 na nL nF
      refine store_ok (X := X.suite a ((a, o4) :: (X.pn ++ pins))) (v := .ref a) S4 hN hi (.inl hln) rfl (fun s5 S5 => ?_) (.inr hln)
      refine wpAny_mono ((hsuite a o4 (X.pn ++ pins)).run [] s5 _ H1 _ S5 (hC a na)) (fun f s6 q6 => ?_) (fun _ _ z => False.elim z)
      cases f with
      | next =>
        obtain ⟨σ6, H6, S6, w6⟩ := q6
        obtain ⟨ge, gn, _⟩ := S6.pin (a, o4) (List.mem_append.mpr (.inl List.mem_cons_self))
        exact gone_ok (track (S6.unsuite ok) gn nL n0 nc npin (exT_ok ge z4 d4)) hN hi hln fun s7 J7 => ⟨_, _, J7, w6⟩
      | brk =>
        obtain ⟨σ6, H6, S6, w6⟩ := q6
        exact w6.elim
      | cont =>
        obtain ⟨σ6, H6, S6, w6⟩ := q6
        exact w6.elim
      | ret u =>
        obtain ⟨v6, σ6, H6, S6, r6, w6⟩ := q6
        exact w6.elim
    | false =>
      show wpAny _ X.A (handleBy (.ref a) X.env []) _ _ _
      refine wpAny_handleBy_nil ?_
      obtain ⟨_, _, _, oe, vs, T, oT, tt, he, hz, hd, h1, hr⟩ := id f3
      unfold PySem.passOn
      refine wpAny_bind (wpAny_field he hd h1 ?_)
      rw [if_neg (show ¬ ((Value.ref T == Value.none) = true) from (by simp))]
      have go : wpAny (model X.prog X.w) X.A (setFlight (.ref a) X.env.frame) (fun _ s4 => wpAny (model X.prog X.w) X.A (throw (.ref a) : Sem Flow) (SP X pins D) X.xe s4) X.xe { s' with heap := h3 } := by
        rw [hfl]
        refine HandSPX.setFlight_upZ f3 fun h4 hh4 up4 => wpAny_throw (tk _ _ ?_)
        exact ⟨a, B, t0, pins, σ1, H1, cls, d, rfl, J, inB, (up.trans up3).trans up4, .inr (.inr (by rw [hst]; exact hh4)), na, os, ag, hno rfl⟩
      first
        | exact wpAny_bind (wpAny_pure (wpAny_bind go))
        | exact wpAny_bind go
  · cases f with
    | next =>
      obtain ⟨σ1, H1, J', q⟩ := hsp
      exact wpAny_execs_nil ⟨σ1, H1, J'.ofTry ok, q⟩
    | brk =>
      obtain ⟨σ1, H1, J', q⟩ := hsp
      exact ⟨σ1, H1, J'.ofTry ok, q⟩
    | cont =>
      obtain ⟨σ1, H1, J', q⟩ := hsp
      exact ⟨σ1, H1, J'.ofTry ok, q⟩
    | ret u =>
      obtain ⟨v1, σ1, H1, J', r, q⟩ := hsp
      exact ⟨v1, σ1, H1, J'.ofTry ok, r, q⟩
end
end GG

namespace GG
open PySem PySem.Spec PyProof.Rows L2

/-! ### isinstance of a kept error -/
def rIsX (K : PySem.W.Frag) (cc : Cc) : List V → Hp → VK → Prop := fun xs H Q => ∃ (k : EK) (a : Addr) (c : V) (cv : Value) (b : Bool), xs = [.ref a, c] ∧ H a = some (ExT (cc.cl k) a) ∧ ExcC K (cc.cl k) ∧ (∀ u, RelV c u → u = cv) ∧ PySem.W.kitOne K (.ref (cc.cl k)) cv = some b ∧ Q (.bl b) H
theorem call_isX {X : Cx} {cc : Cc} : CallR X (.builtin "isinstance") (rIsX X.K cc) := by
  intro pins s σ H xs us Q I r h
  obtain ⟨k, a, c, cv, b, rfl, ha, C, hcv, e, q⟩ := h
  cases r with
  | cons rx rr =>
    cases rr with
    | cons rt rr =>
      cases rr
      cases rx
      have e2 := hcv _ rt
      subst e2
      obtain ⟨oe, vs, g1, g2, g3⟩ := (I.hok a _ ha).1
      have J : PySem.W.InstAt s.heap a oe (cc.cl k) none := by
        obtain ⟨q1, q2, q3, q4⟩ := oe
        obtain ⟨w1, w2⟩ := g2
        dsimp only at w1 w2 g3
        subst w1 w2 g3
        exact ⟨g1, rfl, rfl, trivial⟩
      exact PySem.W.kia_one (PySem.W.handS_kitx_exc C.hg C.hk C.hs C.hd C.ha C.hn C.ht C.hm) I.kIn J e (fun z => nomatch z) fun t => ⟨.bl b, H, I.kept (t' := t) fun _ _ z => z, rfl, q⟩
def dIsE (i : Nat) (g : EK → Bool) : Den D := fun ρ => match ρ[i]? with
  | some (.exc k) => .ok (.bool (g k)) ρ
  | _ => .st
/-- what the classes of the errors say -/
structure ErrOk (K : PySem.W.Frag) (cc : Cc) (gE : Addr) : Prop where
  ec : ∀ k, ExcC K (cc.cl k)
  own : ∀ k k', PySem.W.kitOne K (.ref (cc.cl k)) (.ref (cc.cl k')) = some (decide (k = k'))
  gap : ∀ k, PySem.W.kitOne K (.ref (cc.cl k)) (.ref gE) = some true
  val : ∀ k, PySem.W.kitOne K (.ref (cc.cl k)) (.type "ValueError") = some true
  exm : ∀ k, PySem.W.exmOne K (.ref (cc.cl k)) (.ref gE) = some true
section
variable {cc : Cc} {W : WX} {K : PySem.W.Frag}
theorem snd_isE {i : Nat} {g : EK → Bool} {c : V} {cv : Value} (hC : ∀ k, ExcC K (cc.cl k)) (hcv : ∀ u, RelV c u → u = cv) (hk : ∀ k, PySem.W.kitOne K (.ref (cc.cl k)) cv = some (g k)) : SndE cc W (tCB (rIsX K cc) (tCons (tVar i) (tCons (tC c) tNil))) (dIsE i g) := fun fr O σ H ρ Q R p => by
  unfold dIsE at p
  split at p
  · rename_i k e0
    obtain ⟨_, a, h2, h3, h4⟩ := R.slot i _ e0
    exact ⟨.ref a, h2, k, a, c, cv, g k, rfl, h4, hC k, hcv, hk k, p.here R _ rep_bool⟩
  · exact p.elim
end
section
variable {X : Cx} {cc : Cc} {W : WX} {pos p p1 p2 : Pos}
theorem de_isE (K : PySem.W.Frag) (i : Nat) {gE : Addr} {n y : Str} {c : V} {cv : Value} (g : EK → Bool) (B : Bt X.mg) (T : ErrOk K cc gE) (hy : PE X (.Name y p2) (tC c)) (hcv : ∀ u, RelV c u → u = cv) (hk : ∀ k, PySem.W.kitOne K (.ref (cc.cl k)) cv = some (g k)) (hN : X.N[i]? = some n := by rfl)
    (hv : Vis X.env.scope n := by first | exact Or.inl rfl | exact Or.inr (Or.inl rfl) | exact Or.inr (Or.inr rfl)) (hd : (n == ("__debug__" : Str)) = false := by decide) (hcd : (n == ("__classdict__" : Str)) = false := by decide) (hg : Gl X "isinstance" := by rfl)
    (h1 : starEach [.Name n p1, .Name y p2] X.env = (false, eval (.Name n p1) X.env) :: starEach [.Name y p2] X.env := by rfl) (h2 : starEach [.Name y p2] X.env = [(false, eval (.Name y p2) X.env)] := by rfl) (h3 : (backTo pos (starEach [.Name y p2] X.env)).any (·.1) = false := by rfl) (hK : X.K = K := by rfl) :
    DE X cc W (.Call (.Name "isinstance" p) [.Name n p1, .Name y p2] [] pos) (tCB (rIsX K cc) (tCons (tVar i) (tCons (tC c) tNil))) (dIsE i g) := by
  subst hK
  exact ⟨pe_callB call_isX hg B.isinstance bb_isinstance (pa_cons (pe_var hN hv hd hcd) (pa_cons hy pa_nil h2) h1) (by decide) (by decide) h1 h3, snd_isE T.ec hcv hk⟩
end

/-! ### a function of a kept error -/
def XFn := EK → Out
def spX (cc : Cc) (C : XFn) : Sp := fun vs H Q E => ∃ (Z : Addr → Prop) (k : EK) (a : Addr), (∀ x, Z x → H x ≠ none) ∧ vs = [.ref a] ∧ ¬ Z a ∧ H a = some (ExT (cc.cl k) a) ∧ (match C k with
  | .ok d => ∀ v H', Same H H' → Rep H' Z d v → Q v H'
  | .er k => ∀ H', Same H H' → E (.ref (cc.cl k)) none H'
  | .st => False)
def runX (m : Nat) (G : Den Fl) : XFn := fun k => match G (.exc k :: List.replicate m .emp) with
  | .ok .nx _ => .ok .none
  | .ok (.rt d) _ => .ok d
  | .er e _ => .er e
  | .st => .st
def dCallX (P : XFn) (i : Nat) : Den D := fun ρ => match ρ[i]? with
  | some (.exc k) => (P k).at ρ
  | _ => .st
theorem rel_startX {cc : Cc} {Z : Addr → Prop} {H : Hp} {k : EK} {a : Addr} {m : Nat} (hz : ∀ x, Z x → H x ≠ none) (na : ¬ Z a) (ha : H a = some (ExT (cc.cl k) a)) (da db sx sd : Addr) :
    Rel cc ⟨Z, H, fun _ => False, da, db, sx, sd⟩ (fun _ => []) (some (.ref a) :: List.replicate m none) H (.exc k :: List.replicate m .emp) where
  len := by simp
  zin := hz
  frame := fun _ _ _ e => e
  dom := fun _ h => h
  own := fun _ _ h => nomatch h
  dis := fun _ _ _ h => nomatch h
  new := fun _ _ _ _ h => nomatch h
  slot := fun i s hi => by
    cases i with
    | zero =>
      cases hi
      refine ⟨rfl, a, rfl, fun z => ?_, ha⟩
      rcases z with z | ⟨_, z⟩
      · exact na z
      · cases z
    | succ i =>
      have hi : (List.replicate m Slot.emp)[i]? = some s := by simpa using hi
      rw [List.getElem?_replicate] at hi
      split at hi
      · cases hi; rfl
      · cases hi
section
variable {cc : Cc} {W : WX}
theorem snd_callX {P : XFn} {i : Nat} : SndE cc W (tCallS (spX cc P) (WE W) (tCons (tVar i) tNil)) (dCallX P i) := fun fr O σ H ρ Q R p => by
  unfold dCallX at p
  split at p
  · rename_i k e0
    obtain ⟨_, a, h2, h3, h4⟩ := R.slot i _ e0
    refine ⟨.ref a, h2, Av fr O, k, a, fun x hx => R.zH hx, rfl, h3, h4, ?_⟩
    cases eq : P k with
    | st => rw [eq] at p; exact p.elim
    | ok d => rw [eq] at p; exact fun v H' s' hv => p.now R s' v hv
    | er k => rw [eq] at p; exact fun H' s' => p O H' (R.more s') (Mv.new s')
  · exact p.elim
end
def Fx (P : Program) (w : World) (K : PySem.W.Frag) (mg : Str → Option Value) (base : Heap) (cc : Cc) (x : Str) (k : Nat) (C : XFn) : Prop :=
  ∃ (f : Addr) (fd : FuncData) (ps : List Str), FnOk P w K mg base (L2.CX P w) k f fd ps (spX cc C) ∧ mg x = some (.ref f) ∧ PySem.W.keepIn K (.ref f) = true ∧ Binds K fd ps []
theorem fx_of {P : Program} {w : World} {K : PySem.W.Frag} {mg : Str → Option Value} {base : Heap} {cc : Cc} {x : Str} {st : Stmt} {N ps : List Str} {k : Nat} (m : Nat) {G : Den Fl} (d : Df K mg x st) (S : FnScope N ps (defScope st))
    (hn : ps.length = 1) (hm : N.length = 1 + m) (hb : ∀ (kV doc pm : Value) (an : Option Addr) (cdv ct : Value) (us : List Value), us.length = ps.length → bindArgs (PySem.W.fnOf x x (defArgs st) (defBody st) (defScope st) .none kV doc pm an cdv ct) ⟨us, []⟩ = pure (ps.zip us))
    (hbody : ∀ (f : Addr) (cdv : Value) (A : Around) (outer : List Env) (s : Shared) (H : Hp) (E : XK), Room k (A.deeper (envOfC x (defScope st) s.heap.objs.size f cdv)) →
      ∃ t, DSs (cxOf (L2.CX P w) P w K mg base N x (defScope st) f cdv A outer s H E) cc (fun cls d _ H' => E cls d H') (defBody st) t G) :
    Fx P w K mg base cc x (k + 1) (runX m G) := by
  obtain ⟨f, fd, F, hg⟩ := d
  refine ⟨f, fd, ps, F.okX S (fun vs H Q E h => ?_) (fun cdv A outer s H vs Q E hr h => ?_), hg, F.kp, F.binds hb⟩
  · obtain ⟨Z, k, a, hz, rfl, _⟩ := h
    rw [hn]
    rfl
  · obtain ⟨Z, k, a, hz, rfl, na, ha, hp⟩ := h
    obtain ⟨t, ht⟩ := hbody f cdv A outer s H E hr
    refine ⟨t, ht.p, ?_⟩
    have e : L2.start N [.ref a] = some (.ref a) :: List.replicate m none := by
      unfold L2.start
      rw [hm]
      show _ ++ List.replicate (1 + m - 1) none = _
      rw [Nat.add_sub_cancel_left]
      rfl
    rw [e]
    refine ht.s _ _ _ H _ _ (rel_startX (cc := cc) (m := m) hz na ha 0 0 0 0) ?_
    have av : ∀ {O : Nat → List Addr} {fr : Frm} {H' : Hp} {d : D} {v : V}, Rep H' (Av fr O) d v → Rep H' fr.Z d v := fun {O fr H' d v} h => Rep.mono (fun a o na q => ⟨q, fun z => na (.inl z)⟩) d v h
    unfold runX at hp
    cases eg : G (.exc k :: List.replicate m .emp) with
    | st => rw [eg] at hp; exact hp
    | er k ρ' => rw [eg] at hp; exact fun σ' O' H' R' _ => hp H' fun x o q => R'.frame x o (fun z => z) q
    | ok b ρ' =>
      rw [eg] at hp
      cases b with
      | nx => exact fun σ' O' H' R' _ => hp .non H' (fun x o q => R'.frame x o (fun z => z) q) (by simp only [Rep])
      | rt d => exact fun σ' O' H' v R' _ hv => hp v H' (fun x o q => R'.frame x o (fun z => z) q) (av hv)
section
variable {X : Cx} {cc : Cc} {W : WX} {pos p p1 : Pos} {k j : Nat}
theorem de_callX (i : Nat) {x n : Str} {C : XFn} (F : Fx X.prog X.w X.K X.mg X.base cc x j C) (hr : Room k X.A) (hj : j ≤ k) (tk : Takes X W) (hN : X.N[i]? = some n := by rfl)
    (hv : Vis X.env.scope n := by first | exact Or.inl rfl | exact Or.inr (Or.inl rfl) | exact Or.inr (Or.inr rfl)) (hd : (n == ("__debug__" : Str)) = false := by decide) (hcd : (n == ("__classdict__" : Str)) = false := by decide) (hg : Gl X x := by rfl) (hdb : (x == ("__debug__" : Str)) = false := by decide)
    (he : starEach [.Name n p1] X.env = [(false, eval (.Name n p1) X.env)] := by rfl) (hpl : (backTo pos (starEach [] X.env)).any (·.1) = false := by rfl) : DE X cc W (.Call (.Name x p) [.Name n p1] [] pos) (tCallS (spX cc C) (WE W) (tCons (tVar i) tNil)) (dCallX C i) := by
  obtain ⟨f, fd, ps, F, hm, hk, hb⟩ := F
  exact ⟨pe_callS F (hr.mono hj) hg hm hk hb (fun σ => passAt tk σ) (pa_cons (pe_var hN hv hd hcd) pa_nil he) hdb he hpl, snd_callX⟩
end

/-! ### try: body / except GapError as e: caught = e -/
def dTry (G : Den Fl) (i j : Nat) : Den Fl := fun ρ => match G ρ with
  | .er k ρ1 => (match ρ1[i]?, ρ1[j]? with
    | some .emp, some (.val _) => .ok .nx (ρ1.set j (.exc k))
    | _, _ => .st)
  | r => r

section
variable {cc : Cc} {K : PySem.W.Frag}
/-- a slot takes a kept error that is new -/
theorem Rel.toExc {fr : Frm} {O : Nat → List Addr} {σ : L2.St} {H : Hp} {ρ : Env'} {i j : Nat} {k : EK} {a : Addr} {d : D} (R : Rel cc fr O σ H ρ) (ha : H a = none) (hi : ρ[i]? = some .emp) (hj : ρ[j]? = some (.val d)) :
    Rel cc fr O (((σ.set i (some (.ref a))).set j (some (.ref a))).set i none) (upd H a (ExT (cc.cl k) a)) (ρ.set j (.exc k)) ∧ Mv O H O (upd H a (ExT (cc.cl k) a)) := by
  have sm : Same H (upd H a (ExT (cc.cl k) a)) := same_upd ha
  have R1 := R.more sm
  have hij : i ≠ j := fun e => by
    rw [e, hj] at hi
    cases hi
  have hjl : j < σ.length := by
    rw [← R.len]
    exact (List.getElem?_eq_some_iff.mp hj).1
  have own0 : O j = [] := (R.slot j _ hj).1
  refine ⟨⟨by simpa using R1.len, R1.zin, R1.frame, R1.dom, R1.own, R1.dis, fun q ds hq => ?_, fun q s hq => ?_⟩, Mv.new sm⟩
  · by_cases e : j = q
    · subst e
      rw [List.getElem?_set_self (List.getElem?_eq_some_iff.mp hj).1] at hq
      cases hq
    · rw [List.getElem?_set_ne e] at hq
      exact R1.new q ds hq
  · by_cases e : j = q
    · subst e
      rw [List.getElem?_set_self (List.getElem?_eq_some_iff.mp hj).1] at hq
      cases hq
      refine ⟨own0, a, ?_, R.fresh ha, upd_same⟩
      rw [List.getElem?_set_ne hij, List.getElem?_set_self (by simpa using hjl)]
    · rw [List.getElem?_set_ne e] at hq
      have z := R1.slot q s hq
      by_cases e2 : i = q
      · subst e2
        rw [hi] at hq
        cases hq
        exact z
      · rw [List.getElem?_set_ne e2, List.getElem?_set_ne e, List.getElem?_set_ne e2]
        exact z
theorem sns_try {i j : Nat} {G : Den Fl} {tb : WX → TS} {Wo : WX} {gE : Addr} (T : ErrOk K cc gE) (hb : ∀ W, SndS cc W (tb W) G) : SndS cc Wo (fun D σ H => tb (wKeep K (.ref gE) i (tAsg (tVar i) (gName j)) Wo D) D σ H) (dTry G i j) := fun fr O σ H ρ D R p => by
  refine hb _ fr O σ H ρ D R ?_
  unfold dTry at p
  cases e : G ρ with
  | st => rw [e] at p; exact p
  | ok fl ρ1 =>
    rw [e] at p
    cases fl <;> exact p
  | er k ρ1 =>
    rw [e] at p
    intro σ1 O1 H1 R1 m1
    refine ⟨true, T.exm k, fun _ => ⟨cc.cl k, rfl, rfl, fun a ha => ?_⟩, fun z => nomatch z⟩
    have key : ∃ d, ρ1[i]? = some .emp ∧ ρ1[j]? = some (.val d) ∧ PostS cc Wo fr O H (.ok .nx (ρ1.set j (.exc k))) D := by
      dsimp only at p
      cases e1 : ρ1[i]? with
      | none => rw [e1] at p; exact p.elim
      | some s1 =>
        cases e2 : ρ1[j]? with
        | none => rw [e1, e2] at p; cases s1 <;> exact p.elim
        | some s2 =>
          rw [e1, e2] at p
          cases s1 <;> cases s2 <;> first | exact p.elim | exact ⟨_, rfl, rfl, p⟩
    obtain ⟨d, e1, e2, p⟩ := key
    obtain ⟨r1, r2⟩ := R1.toExc (k := k) ha e1 e2
    refine ⟨.ref a, ?_, p _ _ _ r1 (m1.trans r2)⟩
    have hl : i < σ1.length := by
      rw [← R1.len]
      exact (List.getElem?_eq_some_iff.mp e1).1
    rw [List.getElem?_set_self hl]
end

section
variable {X : Cx} {cc : Cc} {Wo : WX} {pos pos' np q1 q2 q3 : Pos} {body : List Stmt} {tb : WX → TS} {G : Den Fl}
theorem ds_try (K : PySem.W.Frag) (i j : Nat) {gE : Addr} {x n y : Str} (T : ErrOk K cc gE) (hg : X.mg x = some (.ref gE)) (tk : Takes X Wo) (hN : X.N.Nodup)
    (hb : ∀ (W : WX) (pn : List (Addr × Obj)) (xe : Value → Shared → Prop), Takes (X.tr pn xe) W → DSs (X.tr pn xe) cc W body (tb W) G)
    (hi : X.N[i]? = some n := by rfl) (hj : X.N[j]? = some y := by rfl) (hln : X.env.kindOf n = some .local := by rfl) (hly : X.env.kindOf y = some .local := by rfl) (hx : X.ex = [] := by rfl) (hst : X.stack = X.env :: X.outer := by rfl) (hfl : X.env.frame = some X.env.locals := by rfl) (hgl : Gl X x := by rfl)
    (hv : Vis X.env.scope n := by first | exact Or.inl rfl | exact Or.inr (Or.inl rfl) | exact Or.inr (Or.inr rfl)) (hd : (n == ("__debug__" : Str)) = false := by decide) (hcd : (n == ("__classdict__" : Str)) = false := by decide) (hdx : (x == ("__debug__" : Str)) = false := by decide) (hK : X.K = K := by rfl) :
    DS X cc Wo (.Try body [.ExceptHandler (some (.Name x np)) (some n) [.Assign [.Name y q1] (.Name n q2) q3] pos'] [] [] pos) (fun D σ H => tb (wKeep K (.ref gE) i (tAsg (tVar i) (gName j)) Wo D) D σ H) (dTry G i j) := by
  subst hK
  refine ⟨ps_try_keep hx hst hfl hN hi hln ⟨hgl, hdx, .inl hg⟩ tk (fun W pn xe t _ => (hb W pn xe t).p) (fun a oe pn => pss_one (ps_set (i := j) hN hj (.inl hly) (pe_var hi hv hd hcd) (by rfl) (.inr hly))), sns_try T fun W => (hb W [] (fun _ _ => True) (fun _ _ _ => trivial)).s⟩
end
end GG

namespace GG
open PySem PySem.Spec PyProof.Rows L2

/-! ### count and index of bools -/
def rCntF (K : PySem.W.Frag) : V → List V → Hp → VK → Prop := fun x xs H Q => ∃ (a : Addr) (ys : List V) (y : V), x = V.ref a ∧ xs = [y] ∧ SqL K H a ys ∧ flatV y = true ∧ ys.all flatV = true ∧ Q (.int (ys.countP (fun z => eqV z y) : Nat)) H
theorem countP_flat {y : V} : ∀ {ys : List V} {us : List Value}, Vals ys us → ys.all flatV = true → us.countP (eqU y) = ys.countP fun z => eqV z y
  | [], _, .nil, _ => rfl
  | z :: ys, _, .cons r t, f => by
    rw [List.all_cons, Bool.and_eq_true] at f
    rw [List.countP_cons, List.countP_cons, countP_flat t f.2, eqU_of r f.1]
theorem mt_countF {X : Cx} : MtR X "list.count" (rCntF X.K) := by
  intro pins s σ H x xs v us Q I rx rxs h
  obtain ⟨a, ys, y, rfl, rfl, hs, fy, fys, q⟩ := h
  cases rx
  cases rxs with
  | cons ry rt =>
    rename_i uy ut
    cases rt
    obtain ⟨its, rv, ⟨⟨cls, dd, data, sl⟩, n, ho, hc, hdn, hd⟩, hlen⟩ := I.list hs
    simp only at hc hd
    subst hc hd
    refine call_meets PySem.F.slot_list_count ⟨_, ho, rfl⟩ PySem.F.entry_list_count (PySem.F.args_list_count_2 _ _)
      (SeqAt.list_countAt a its.toArray n dd sl uy (eqU y)) ⟨ho, fun u' hu' => mem_eqAt ry fy rv fys u' (by simpa using hu'), ?_⟩
    have ec : its.toArray.toList.countP (eqU y) = ys.countP fun z => eqV z y := countP_flat rv fys
    refine ⟨.int (ys.countP (fun z => eqV z y) : Nat), H, I.tok _, ⟨s.toks, ?_⟩, q⟩
    show Value.int ((its.toArray.toList.countP (eqU y) : Nat) : Int) s.toks = Value.int _ s.toks
    rw [ec]
theorem bools_at {H : Hp} {A : Addr → Prop} {ds : List D} {bs : List Bool} {v : V} (h : Rep H A (.list ds) v) (e : boolsOf ds = some bs) : ∃ a, v = .ref a ∧ H a = some (.lst (bs.map V.bl)) := by
  simp only [Rep] at h
  obtain ⟨a, vs, rfl, na, ha, hv⟩ := h
  rw [boolsOf_eq e] at hv
  rw [Reps.bools hv] at ha
  exact ⟨a, rfl, ha⟩
def gCntB (ds : List D) (e : D) : Option D := match boolsOf ds, e with
  | some bs, .bool b => some (.int (bs.count b : Nat))
  | _, _ => none
def gIdxB (ds : List D) (e : D) : Option D := match boolsOf ds, e with
  | some bs, .bool b => if b ∈ bs then some (.int (bs.idxOf b : Nat)) else none
  | _, _ => none
theorem flat_bls (bs : List Bool) : (bs.map V.bl).all flatV = true := by
  rw [List.all_map]
  exact List.all_eq_true.mpr fun _ _ => rfl
theorem ok_cntB {K : PySem.W.Frag} : OkLM (rCntF K) gCntB := fun H A x y ds e d Q fr hx hy hg k => by
  unfold gCntB at hg
  split at hg
  · rename_i bs b h1
    obtain ⟨a, rfl, hH⟩ := bools_at hx h1
    simp only [Rep] at hy
    subst hy
    cases hg
    refine ⟨a, bs.map V.bl, .bl b, rfl, rfl, SqL.of hH, rfl, flat_bls bs, ?_⟩
    have e : (bs.map V.bl).countP (fun z => eqV z (.bl b)) = bs.count b := by
      rw [List.countP_map]
      rfl
    rw [e]
    exact k _ _ (Same.refl H) (by simp only [Rep])
  · cases hg
theorem ok_idxB {K : PySem.W.Frag} : OkLM (rIndex K) gIdxB := fun H A x y ds e d Q fr hx hy hg k => by
  unfold gIdxB at hg
  split at hg
  · rename_i bs b h1
    obtain ⟨a, rfl, hH⟩ := bools_at hx h1
    simp only [Rep] at hy
    subst hy
    split at hg
    · rename_i hm
      cases hg
      have hl : bs.idxOf b < bs.length := List.idxOf_lt_length_iff.mpr hm
      refine ⟨a, bs.map V.bl, .bl b, bs.idxOf b, .bl b, rfl, rfl, SqL.of hH, rfl, flat_bls bs, ?_, ?_, ?_, k _ _ (Same.refl H) (by simp only [Rep])⟩
      · rw [List.getElem?_map, List.getElem?_eq_getElem hl, List.getElem_idxOf hl]
        rfl
      · simp [eqV]
      · intro j z hj hz
        rw [List.getElem?_map, List.getElem?_eq_getElem (Nat.lt_trans hj hl)] at hz
        cases hz
        have hne := List.not_of_lt_findIdx (p := fun x => x == b) (xs := bs) (i := j) hj
        simpa [eqV] using hne
    · cases hg
  · cases hg
section
variable {X : Cx} {cc : Cc} {W : WX} {o e : Expr} {ta tb : TE} {f1 f2 : Den D}
theorem de_countB (K : PySem.W.Frag) {p2 p3 : Pos} (ho : DE X cc W o ta f1) (he : DE X cc W e tb f2) (h1 : starEach [e] X.env = [(false, eval e X.env)] := by rfl)
    (hb : attributeBase o "count" X.env (eval o X.env) = eval o X.env := by rfl)
    (hfew : ((backTo p3 (starEach [e] X.env)).all (fun x => !x.1) && (backToKw p3 (keywordEach [] X.env)).all (fun x => x.1.isSome) && decide ([e].length + ([] : List Keyword).length + (if ([] : List Keyword).isEmpty then 0 else 1) < 30)) = true := by rfl) (hline : (p2.endLine == p3.line) = true := by rfl) (hK : X.K = K := by rfl) :
    DE X cc W (.Call (.Attribute o "count" p2) [e] [] p3) (tBM K "list" (rCntF K) ta (tCons tb tNil)) (dLM gCntB f1 f2) := by
  subst hK
  exact ⟨pe_bm PySem.F.plainAttrs_list PySem.F.slot_list_count PySem.F.type_list_count mt_countF ho.p (pa_cons he.p pa_nil h1) hb hfew hline h1 (by rfl), snd_lm ok_cntB ho.s he.s⟩
theorem de_indexB (K : PySem.W.Frag) {p2 p3 : Pos} (ho : DE X cc W o ta f1) (he : DE X cc W e tb f2) (h1 : starEach [e] X.env = [(false, eval e X.env)] := by rfl)
    (hb : attributeBase o "index" X.env (eval o X.env) = eval o X.env := by rfl)
    (hfew : ((backTo p3 (starEach [e] X.env)).all (fun x => !x.1) && (backToKw p3 (keywordEach [] X.env)).all (fun x => x.1.isSome) && decide ([e].length + ([] : List Keyword).length + (if ([] : List Keyword).isEmpty then 0 else 1) < 30)) = true := by rfl) (hline : (p2.endLine == p3.line) = true := by rfl) (hK : X.K = K := by rfl) :
    DE X cc W (.Call (.Attribute o "index" p2) [e] [] p3) (tBM K "list" (rIndex K) ta (tCons tb tNil)) (dLM gIdxB f1 f2) := by
  subst hK
  exact ⟨pe_bm PySem.F.plainAttrs_list PySem.F.slot_list_index PySem.F.type_list_index mt_index ho.p (pa_cons he.p pa_nil h1) hb hfew hline h1 (by rfl), snd_lm ok_idxB ho.s he.s⟩
end
theorem bb_ValueError : bootBuiltins "ValueError" = some (.type "ValueError") := by decide +kernel
/-! ### caught is None -/
def dIsNo (i : Nat) : Den Bool := fun ρ => match ρ[i]? with
  | some (.val d) => .ok (isN d) ρ
  | some (.exc _) => .ok false ρ
  | _ => .st
theorem snd_isNo {cc : Cc} {W : WX} {i : Nat} : SndT cc W (tTest (tOp rIs' (tVar i) (tC .non))) (dIsNo i) := fun fr O σ H ρ Q R p => by
  unfold dIsNo at p
  split at p
  · rename_i d e0
    obtain ⟨_, v, h2, h3⟩ := R.slot i _ e0
    refine ⟨v, h2, .inl ⟨rfl, decide (v = .non), rfl, ?_⟩⟩
    have e : decide (v = V.non) = isN d := by
      cases d with
      | none => simp only [Rep] at h3; subst h3; rfl
      | bool b => simp only [Rep] at h3; subst h3; rfl
      | int b => simp only [Rep] at h3; subst h3; rfl
      | str b => simp only [Rep] at h3; subst h3; rfl
      | list b => simp only [Rep] at h3; obtain ⟨a, vs, rfl, _⟩ := h3; rfl
      | tuple b => simp only [Rep] at h3; obtain ⟨a, vs, rfl, _⟩ := h3; rfl
      | dict b => simp only [Rep] at h3
    rw [e]
    exact p.here R
  · rename_i k e0
    obtain ⟨_, a, h2, _⟩ := R.slot i _ e0
    exact ⟨.ref a, h2, .inl ⟨rfl, false, rfl, p.here R⟩⟩
  · exact p.elim
theorem dt_isNo {X : Cx} {cc : Cc} {W : WX} (i : Nat) {n : Str} {p1 p2 pos : Pos} {j : Nat} (hN : X.N[i]? = some n := by rfl)
    (hv : Vis X.env.scope n := by first | exact Or.inl rfl | exact Or.inr (Or.inl rfl) | exact Or.inr (Or.inr rfl)) (hd : (n == ("__debug__" : Str)) = false := by decide) (hcd : (n == ("__classdict__" : Str)) = false := by decide) :
    DT X cc W (.Compare (.Name n p1) [.Is] [.Constant .none j p2] pos) (tTest (tOp rIs' (tVar i) (tC .non))) (dIsNo i) := ⟨pt_cmpR or_is (pe_var hN hv hd hcd) pe_non (nomark _), snd_isNo⟩

/-! ### the classes of the errors, by subIn -/
theorem kit_r {K : PySem.W.Frag} {C C' : Addr} {b : Bool} (h1 : PySem.W.hasDictIn K C' = true) (h2 : PySem.W.typeIn K (.ref C') = some (.type "type")) (h3 : PySem.W.subIn K (.ref C) (.ref C') = some b) (h4 : PySem.W.subIn K (.ref C) (.ref C) = some true) : PySem.W.kitOne K (.ref C) (.ref C') = some b := by
  unfold PySem.W.kitOne
  by_cases e : C = C'
  · subst e
    rw [h4] at h3
    cases h3
    rw [if_pos (by simp)]
  · rw [if_neg (by simpa using e)]
    obtain ⟨cd, hc, _⟩ := PySem.W.any_some h1
    show (if ((PySem.W.clsIn K C').isSome && PySem.W.typeIn K (.ref C') == some (.type "type")) = true then PySem.W.subIn K (.ref C) (.ref C') else none) = some b
    rw [if_pos (by rw [hc, h2]; rfl)]
    exact h3
theorem kit_v {K : PySem.W.Frag} {C : Addr} (h : PySem.W.subIn K (.ref C) (.type "ValueError") = some true) : PySem.W.kitOne K (.ref C) (.type "ValueError") = some true := by
  unfold PySem.W.kitOne
  rw [if_neg (by intro z; cases z)]
  show (if PySem.W.kitMeta "ValueError" = true then PySem.W.subIn K (.ref C) (.type "ValueError") else none) = some true
  rw [if_pos (by decide +kernel)]
  exact h
end GG

namespace GG
open PySem PySem.Spec PyProof.Rows L2
/-! ### what is not covered: nothing is said of it -/
def dStk {α : Type} : Den α := fun _ => .st
section
variable {X : Cx} {cc : Cc} {W : WX} {e : Expr} {st : Stmt}
theorem de_stk : DE X cc W e (fun _ _ _ => False) dStk := ⟨⟨fun _ _ _ _ _ _ h => h.elim⟩, fun _ _ _ _ _ _ _ p => p.elim⟩
theorem ds_stk : DS X cc W st (fun _ _ _ => False) dStk := ⟨⟨fun _ _ _ _ _ _ h => h.elim⟩, fun _ _ _ _ _ _ _ p => p.elim⟩
end
/-! ### list(range(..)) -/
def gLR2 : D → D → Option D
  | .int i, .int j => if -1000000 ≤ i ∧ i ≤ 1000000 ∧ -1000000 ≤ j ∧ j ≤ 1000000 then some (.list (rng i j)) else none
  | _, _ => none
def gLR1 (d : D) : Option D := gLR2 (.int 0) d
theorem rg_reps {H : Hp} {A : Addr → Prop} (i j : Int) : Reps H A (rng i j) (rgV i j) := by
  have e1 : rng i j = ((List.range (j - i).toNat).map fun k => i + ((k : Nat) : Int)).map PyData.int := by
    unfold rng
    rw [List.map_map]
    rfl
  have e2 : rgV i j = ((List.range (j - i).toNat).map fun k => i + ((k : Nat) : Int)).map V.int := by
    unfold rgV
    rw [List.map_map]
    rfl
  rw [e1, e2]
  exact Reps.ofInts _
section
variable {cc : Cc} {W : WX} {ta tb : TE} {f1 f2 : Den D}
theorem snd_lr2 (ha : SndE cc W ta f1) (hb : SndE cc W tb f2) : SndE cc W (tLstRg (tRg2 ta tb)) (dB2 gLR2 f1 f2) := fun fr O σ H ρ Q R p =>
  ha fr O σ H ρ _ R (p.bind fun d ρ1 O1 H1 R1 m1 p1 v hv => hb fr O1 σ H1 ρ1 _ R1 (p1.bind fun e ρ2 O2 H2 R2 m2 p2 u hu => by
    cases d <;> try (exact False.elim p2)
    cases e <;> try (exact False.elim p2)
    rename_i i j
    simp only [Rep] at hv hu
    subst hv hu
    simp only [gLR2] at p2
    split at p2
    · rename_i z he
      by_cases hc : -1000000 ≤ i ∧ i ≤ 1000000 ∧ -1000000 ≤ j ∧ j ≤ 1000000
      · rw [if_pos hc] at he
        cases he
        refine ⟨i, j, rfl, rfl, ⟨by omega, by omega, by omega, by omega, by omega⟩, fun q hq => p2.now R2 (same_upd hq) _ ?_⟩
        simp only [Rep]
        exact ⟨q, _, rfl, R2.fresh hq, upd_same, rg_reps i j⟩
      · rw [if_neg hc] at he
        cases he
    · exact False.elim p2))
theorem snd_lr1 (ha : SndE cc W ta f1) : SndE cc W (tLstRg (tRg1 ta)) (dB1 gLR1 f1) := fun fr O σ H ρ Q R p =>
  ha fr O σ H ρ _ R (p.bind fun d ρ1 O1 H1 R1 m1 p1 v hv => by
    cases d <;> try (exact False.elim p1)
    rename_i j
    simp only [Rep] at hv
    subst hv
    simp only [gLR1, gLR2] at p1
    split at p1
    · rename_i z he
      by_cases hc : (-1000000 : Int) ≤ 0 ∧ (0 : Int) ≤ 1000000 ∧ -1000000 ≤ j ∧ j ≤ 1000000
      · rw [if_pos hc] at he
        cases he
        refine ⟨j, rfl, ⟨by omega, by omega, by omega, by omega, by omega⟩, fun q hq => p1.now R1 (same_upd hq) _ ?_⟩
        simp only [Rep]
        exact ⟨q, _, rfl, R1.fresh hq, upd_same, rg_reps 0 j⟩
      · rw [if_neg hc] at he
        cases he
    · exact False.elim p1)
end
section
variable {X : Cx} {cc : Cc} {W : WX} {a b : Expr} {ta tb : TE} {f1 f2 : Den D} {p p1 pos pos1 : Pos}
theorem de_listRng1 (B : Bt X.mg) (ha : DE X cc W a ta f1) (hc : X.calm = true := by rfl) (hg : Gl X "list" := by rfl) (hg2 : Gl X "range" := by rfl) (na : starEach [a] X.env = (false, eval a X.env) :: starEach [] X.env := by rfl)
    (nb : starEach [.Call (.Name "range" p1) [a] [] pos1] X.env = (false, eval (.Call (.Name "range" p1) [a] [] pos1) X.env) :: starEach [] X.env := by rfl) :
    DE X cc W (.Call (.Name "list" p) [.Call (.Name "range" p1) [a] [] pos1] [] pos) (tLstRg (tRg1 ta)) (dB1 gLR1 f1) := ⟨pe_listRg hc hg B.list (prg_1 hg2 B.range ha.p na) nb, snd_lr1 ha.s⟩
theorem de_listRng2 (B : Bt X.mg) (ha : DE X cc W a ta f1) (hb : DE X cc W b tb f2) (hc : X.calm = true := by rfl) (hg : Gl X "list" := by rfl) (hg2 : Gl X "range" := by rfl) (na : starEach [a, b] X.env = (false, eval a X.env) :: starEach [b] X.env := by rfl)
    (na2 : starEach [b] X.env = (false, eval b X.env) :: starEach [] X.env := by rfl) (hp : (backTo pos1 (starEach [b] X.env)).any (·.1) = false := by rfl)
    (nb : starEach [.Call (.Name "range" p1) [a, b] [] pos1] X.env = (false, eval (.Call (.Name "range" p1) [a, b] [] pos1) X.env) :: starEach [] X.env := by rfl) :
    DE X cc W (.Call (.Name "list" p) [.Call (.Name "range" p1) [a, b] [] pos1] [] pos) (tLstRg (tRg2 ta tb)) (dB2 gLR2 f1 f2) := ⟨pe_listRg hc hg B.list (prg_2 hg2 B.range ha.p hb.p na na2 hp) nb, snd_lr2 ha.s hb.s⟩
end
/-! ### x, y = ([], n), x written later -/
def dOwnC (i j : Nat) (n : Int) : Den Fl := fun ρ => .ok .nx ((ρ.set i (.own [])).set j (.val (.int n)))
section
variable {cc : Cc} {W : WX} {K : PySem.W.Frag}
theorem sns_ownC {i j : Nat} {n : Int} : SndS cc W (tAsg (tTup (tCons (tLst tNil) (tCons (tC (.int n)) tNil))) (L2.gTup K 2 (gNames [i, j]))) (dOwnC i j n) := fun fr O σ H ρ D R p => by
  refine ⟨sz5 (by simp), fun q hq => ⟨sz5 (by simp), fun t ht => ?_⟩⟩
  refine ⟨t, _, rfl, SqT.of upd_same, rfl, .ref q, _, rfl, .int n, [], rfl, rfl, ?_⟩
  exact p _ _ _ (((R.setOwn hq Reps.nil).more (same_upd ht)).set (d := .int n) (by simp only [Rep])) (((mv_own hq).trans (Mv.new (same_upd ht))).trans mv_off)
end
section
variable {X : Cx} {cc : Cc} {W : WX} {pos : Pos}
theorem ds_ownC (K : PySem.W.Frag) (i j : Nat) {n : Int} {x y : Str} {px py pt pt2 p3 p4 : Pos} {kt k2 kk : Nat} (hN : X.N.Nodup) (hi : X.N[i]? = some x := by rfl) (hj : X.N[j]? = some y := by rfl) (hx : Loc X.env.scope x := by first | exact Or.inl rfl | exact Or.inr rfl) (hy : Loc X.env.scope y := by first | exact Or.inl rfl | exact Or.inr rfl)
    (hfx : X.fn x = true ∨ X.env.scope.names.lookup x = some .local := by first | exact .inl rfl | exact .inr rfl) (hfy : X.fn y = true ∨ X.env.scope.names.lookup y = some .local := by first | exact .inl rfl | exact .inr rfl) (hc : X.calm = true := by rfl) (hK : X.K = K := by rfl)
    (hs : swapsWithSole [.Tuple [.Name x px, .Name y py] kt pt] (.Tuple [.List [] p3, .Constant (.int n) kk p4] k2 pt2) pos.line X.env = pure false := by rfl) (hw : swappedStores [.Tuple [.Name x px, .Name y py] kt pt] (.Tuple [.List [] p3, .Constant (.int n) kk p4] k2 pt2) X.env = pure none := by rfl)
    (h1 : (assignEach [.Tuple [.Name x px, .Name y py] kt pt] X.env).map (·.2) = [assign (.Tuple [.Name x px, .Name y py] kt pt) X.env] := by rfl) (h2 : (assignEach [.Name x px, .Name y py] X.env).map (·.2) = assign (.Name x px) X.env :: (assignEach [.Name y py] X.env).map (·.2) := by rfl)
    (h3 : (assignEach [.Name y py] X.env).map (·.2) = assign (.Name y py) X.env :: (assignEach [] X.env).map (·.2) := by rfl) (h4 : (assignEach [.Name x px, .Name y py] X.env).length = 2 := by rfl) (h5 : (assignEach [.Name x px, .Name y py] X.env).findIdx? (·.1) = none := by rfl)
    (h6 : starEach [.List [] p3, .Constant (.int n) kk p4] X.env = (false, eval (.List [] p3) X.env) :: starEach [.Constant (.int n) kk p4] X.env := by rfl) (h7 : starEach [.Constant (.int n) kk p4] X.env = (false, eval (.Constant (.int n) kk p4) X.env) :: starEach [] X.env := by rfl) :
    DS X cc W (.Assign [.Tuple [.Name x px, .Name y py] kt pt] (.Tuple [.List [] p3, .Constant (.int n) kk p4] k2 pt2) pos) (tAsg (tTup (tCons (tLst tNil) (tCons (tC (.int n)) tNil))) (L2.gTup K 2 (gNames [i, j]))) (dOwnC i j n) := by
  subst hK
  exact ⟨ps_asg (pe_tup (pa_cons (pe_lst pa_nil) (pa_cons pe_int pa_nil h7) h6)) (pg_tup hc (pgs_cons (pg_name hN hi hx hfx) (pgs_cons (pg_name hN hj hy hfy) pgs_nil h3) h2) h4 h5) hs hw h1, sns_ownC⟩
end
/-! ### str(n), sep.join(texts) -/
def gStrI : List D → Option D
  | [.int i] => if i.natAbs.log2 < 1920 then some (.str (toString i)) else none
  | _ => none
abbrev rStrI : List V → Hp → VK → Prop := fun xs H Q => ∃ i : Int, xs = [.int i] ∧ i.natAbs.log2 < 1920 ∧ Q (.str (toString i)) H
theorem ok_strI : OkRL rStrI gStrI := fun H A xs ds d Q fr hs hg k => by
  unfold gStrI at hg
  split at hg
  · rename_i i
    obtain ⟨v, r, rfl, h1, h2⟩ := hs.uncons
    simp only [Reps] at h2
    subst h2
    simp only [Rep] at h1
    subst h1
    split at hg
    · rename_i hc
      cases hg
      exact ⟨i, rfl, hc, k _ _ (Same.refl H) (by simp only [Rep])⟩
    · cases hg
  · cases hg
section
variable {X : Cx} {cc : Cc} {W : WX} {e : Expr} {es : List Expr} {tl : TA} {fs : Den (List D)} {pos p : Pos}
theorem de_str' (B : Bt X.mg) (ha : DA X cc W (e :: es) tl fs) (hg : Gl X "str" := by rfl) (he : starEach (e :: es) X.env = (false, eval e X.env) :: starEach es X.env := by rfl) (hpl : (backTo pos (starEach es X.env)).any (·.1) = false := by rfl) :
    DE X cc W (.Call (.Name "str" p) (e :: es) [] pos) (tCB rStrI tl) (dBL gStrI fs) := de_ct call_str_int ok_strI B.str bb_str ha (by decide) hg (by decide) he hpl
end
end GG

namespace GG
open PySem PySem.Spec PyProof.Rows L2
/-! ### sorted(t), t a tuple of ints -/
abbrev hpC (h : Heap) (vs : List Value) : Heap := (h.push (seqObj "list" #[] 0)).update h.objs.size (Obj.mapSeq (· ++ vs.toArray))
section
variable {P : Program} {w : World} {A : Around} {E : Value → Shared → Prop} {s : Shared}
theorem coll_tup {l : Addr} {vs : List Value} {Q : List Value → Shared → Prop} (hT : IsTup s.heap l vs.toArray) (k : Q vs { s with heap := hpC s.heap vs }) (hz : vs.length ≤ sizeLine) : wpAny (model P w) A (collect (.ref l)) Q E s := by
  obtain ⟨o, go, gc, n, gd⟩ := hT
  have go' : (s.heap.push (seqObj "list" #[] 0)).get? l = some o := Heap.get?_push_of_some _ go
  have g0 : (s.heap.push (seqObj "list" #[] 0)).get? s.heap.objs.size = some (seqObj "list" #[] 0) := Heap.get?_push_size _ rfl
  unfold collect
  refine wpAny_bind (wpAny_runValue (codeAny_builtin entry_proto_collect' ?_)); show wpAny _ _ (do again (.builtin "list.__iadd__" ⟨[← newList [], .ref l], []⟩)) _ _ s
  refine wpAny_bind (wpAny_newList (wpAny_pure ⟨Code.quiet_builtin _ (by decide +kernel), codeAny_builtin entry_list_iadd' ?_⟩)); show wpAny _ _ (Builtin.List.listExtendWith (.ref s.heap.objs.size) (.ref l) (.ref s.heap.objs.size)) _ _ { s with heap := s.heap.push (seqObj "list" #[] 0) }
  unfold Builtin.List.listExtendWith; refine wpAny_bind (wpAny_typeOf (T := "tuple") ⟨o, go', gc⟩ ?_)
  have t1 : (Value.type "tuple" == Value.type "tuple") = true := by rfl
  rw [if_pos (by rw [t1]; simp)]; refine wpAny_bind (listItems_at go' gd (wpAny_bind (listItems_at (xs := #[]) (n := 0) g0 rfl ?_)))
  rw [if_neg (by simp)]; refine wpAny_bind (listUpdate_at (xs := #[]) (n := 0) g0 rfl ?_ (Nat.zero_le _) (by show (#[] ++ vs.toArray).size ≤ sizeLine + 1; simp only [Array.size_append, List.size_toArray, List.length_nil]; omega))
  refine wpAny_pure ?_
  have u : ((#[] : Array Value) ++ vs.toArray).toList = vs := by simp
  show wpAny (model P w) A (do
      let q ← load s.heap.objs.size
      match q.data with
      | .seq xs _ => pure xs.toList
      | _ => unsupported "internal:collect") Q E { s with heap := hpC s.heap vs }
  refine wpAny_bind (wpAny_load (get?_update_seq g0 _) ?_); show wpAny _ _ (pure ((#[] : Array Value) ++ vs.toArray).toList) Q E _
  rw [u]
  exact wpAny_pure k
theorem sorted_tup {l : Addr} {vs : List Value} {ltv : Value → Value → Bool} {Q : Value → Shared → Prop} (O : SrtO.Swo ltv) (hT : IsTup s.heap l vs.toArray) (hz : vs.length ≤ sizeLine)
    (hS : 2 ≤ vs.length → ∀ (h₁ : Heap) (a : Addr), h₁.get? a = some (seqObj "list" vs.toArray 0) → (∀ b o, s.heap.get? b = some o → b ≠ a ∧ h₁.get? b = some o) → SrtO.SortableO P w A.in1.in1 { s with heap := h₁ } a vs ltv)
    (k : ∀ out : List Value, SrtO.Srtd ltv out → SrtO.Stb ltv out vs → Q (.ref (s.heap.objs.size + 1)) { s with heap := sortedAll s.heap vs out.toArray }) : wpAny (model P w) A (call (.builtin "sorted") [.ref l]) Q E s := by
  have z1 : (hpC s.heap vs).objs.size = s.heap.objs.size + 1 := by rw [Heap.size_update, size_push']
  have z2 : ((hpC s.heap vs).push (seqObj "list" vs.toArray 0)).get? (s.heap.objs.size + 1) = some (seqObj "list" vs.toArray 0) := by rw [← z1]; exact Heap.get?_push_size _ rfl
  have z3 : ∀ b o, s.heap.get? b = some o → b ≠ s.heap.objs.size + 1 ∧ ((hpC s.heap vs).push (seqObj "list" vs.toArray 0)).get? b = some o := fun b o q => by
    have q1 : b < s.heap.objs.size := Heap.lt_size q
    exact ⟨Nat.ne_of_lt (Nat.lt_succ_of_lt q1), Heap.get?_push_of_some _ (by rw [Heap.get?_update_ne _ _ _ _ (Nat.ne_of_lt q1)]; exact Heap.get?_push_of_some _ q)⟩
  refine Calls.call_function_entry kind_sorted plain_sorted entry_sorted (args_sorted1 _) ?_; unfold Builtin.«sorted»
  refine wpAny_bind (m := checkCount "sorted" 1 1 _) (wpAny_pure (wpAny_bind (coll_tup hT ?_ hz))); refine wpAny_bind (wpAny_newList ?_ hz)
  show wpAny _ _ _ _ _ { s with heap := (hpC s.heap vs).push (seqObj "list" vs.toArray 0) }
  rw [z1]; refine wpAny_bind (wpAny_holding (wpAny_call_entry slot_list_sort ⟨_, z2, rfl⟩ entry_list_sort (SrtO.list_sort_ord O z2 hz (fun h2 => hS h2 _ _ z2 z3) fun out a b => ⟨_, rfl, wpAny_pure ⟨_, rfl, k out a b⟩⟩) (args_list_sort _)))
end
def rSortTp (K : PySem.W.Frag) : List V → Hp → VK → Prop := fun vs H Q => ∃ (a : Addr) (ns : List Int), vs = [V.ref a] ∧ SqT K H a (ns.map V.int) ∧ ∀ (ns' : List Int) (p : Addr), ns'.Perm ns → ns'.Pairwise (· ≤ ·) → H p = none → Q (.ref p) (upd H p (.lst (ns'.map V.int)))
theorem cr_sortTp {X : Cx} : CallR X (.builtin "sorted") (rSortTp X.K) := by
  intro pins s σ H vs us Q I r h
  obtain ⟨a, ns, rfl, hs, q⟩ := h
  obtain ⟨its, rv, hl, hz⟩ := I.tuple hs
  rw [Vals.ref1 r]
  have hi := rv.ints
  refine sorted_tup SrtO.swo_int hl (by rw [← rv.length]; exact hz) (fun h2 h₁ a' _ _ => SrtO.ints_sortable hi h2) fun out h1 h2 => ?_
  obtain ⟨k1, k2, k3⟩ := SrtO.ints_out hi h1 h2
  obtain ⟨ep, e2⟩ := PyProof.Rows.sortedAll_at s.heap its out.toArray
  have l2 : ((out.map SrtO.iv).map V.int).length ≤ sizeLine := by rw [List.length_map, k2.length_eq]; rw [List.length_map] at hz; exact hz
  exact ⟨.ref _, upd H (s.heap.objs.size + 1) (.lst ((out.map SrtO.iv).map V.int)), I.laid (t' := s.toks) (fun _ _ => PyProof.Rows.sortedAll_old) (Nat.le_succ _) ⟨l2, out, ep, vals_of_ints k1, e2⟩, rfl, q _ _ k2 k3 (I.hok.fresh (Nat.le_succ _))⟩
def gSortTp : List D → Option D
  | [.tuple ds] => (intsOf ds).map fun ns => .list ((isort ns).map PyData.int)
  | _ => none
theorem ok_sortTp {K : PySem.W.Frag} : OkRL (rSortTp K) gSortTp := fun H A xs ds d Q fr hs hg k => by
  unfold gSortTp at hg
  split at hg
  · rename_i es
    obtain ⟨v, r, rfl, hv, h2⟩ := hs.uncons
    simp only [Reps] at h2
    subst h2
    simp only [Option.map_eq_some_iff] at hg
    obtain ⟨ns, h1, rfl⟩ := hg
    have e0 := intsOf_eq h1
    subst e0
    simp only [Rep] at hv
    obtain ⟨a, ws, rfl, na, ha, hw⟩ := hv
    rw [hw.ints] at ha
    refine ⟨a, ns, rfl, SqT.of ha, fun ns' p hp hq hf => k _ _ (same_upd hf) ?_⟩
    have e : ns' = isort ns := sorted_unique (hp.trans (isort_perm ns).symm) hq (isort_sorted ns)
    subst e
    simp only [Rep]
    exact ⟨p, _, rfl, fr p hf, upd_same, Reps.ofInts _⟩
  · cases hg
section
variable {X : Cx} {cc : Cc} {W : WX} {e : Expr} {es : List Expr} {tl : TA} {fs : Den (List D)} {pos p : Pos}
theorem de_sortTp (K : PySem.W.Frag) (B : Bt X.mg) (ha : DA X cc W (e :: es) tl fs) (hg : Gl X "sorted" := by rfl) (he : starEach (e :: es) X.env = (false, eval e X.env) :: starEach es X.env := by rfl) (hpl : (backTo pos (starEach es X.env)).any (·.1) = false := by rfl) (hK : X.K = K := by rfl) :
    DE X cc W (.Call (.Name "sorted" p) (e :: es) [] pos) (tCB (rSortTp K) tl) (dBL gSortTp fs) := by
  subst hK
  exact de_cb cr_sortTp ok_sortTp B.sorted bb_sorted ha (by decide) hg (by decide) he hpl
end
end GG

namespace GG
open PySem PySem.Spec PyProof.Rows L2
/-! ### sorted(xs), xs a list of triples of small ints -/
theorem code_one : ∀ {a b : List Int} {B : Int}, a.length = b.length → TS.Bd B a → TS.Bd B b → TS.code B a = TS.code B b → a = b
  | [], [], _, _, _, _, _ => rfl
  | [], _ :: _, _, h, _, _, _ => by simp at h
  | _ :: _, [], _, h, _, _, _ => by simp at h
  | x :: a, y :: b, B, hl, ha, hb, e => by
    have hl' : a.length = b.length := by simpa using hl
    have ta : TS.Bd B a := fun m hm => ha m (List.mem_cons_of_mem _ hm)
    have tb : TS.Bd B b := fun m hm => hb m (List.mem_cons_of_mem _ hm)
    have hxy : x = y := by
      rcases Int.lt_trichotomy x y with h | h | h
      · have := TS.code_lt hl' ta tb h
        omega
      · exact h
      · have := TS.code_lt hl'.symm tb ta h
        omega
    subst hxy
    have e2 : TS.code B a = TS.code B b := by
      simp only [TS.code, hl'] at e
      omega
    rw [code_one hl' ta tb e2]
def insT (x : List Int) : List (List Int) → List (List Int)
  | [] => [x]
  | y :: r => if TS.code 1000000 x ≤ TS.code 1000000 y then x :: y :: r else y :: insT x r
def tsort : List (List Int) → List (List Int)
  | [] => []
  | x :: r => insT x (tsort r)
theorem insT_perm (x : List Int) : ∀ l, (insT x l).Perm (x :: l)
  | [] => .refl _
  | y :: r => by
    unfold insT
    split
    · exact .refl _
    · exact ((insT_perm x r).cons y).trans (.swap x y r)
theorem tsort_perm : ∀ l, (tsort l).Perm l
  | [] => .refl _
  | x :: r => (insT_perm x _).trans ((tsort_perm r).cons x)
abbrev leT (a b : List Int) : Prop := TS.code 1000000 a ≤ TS.code 1000000 b
theorem insT_sorted (x : List Int) : ∀ {l}, l.Pairwise leT → (insT x l).Pairwise leT
  | [], _ => by simp [insT]
  | y :: r, h => by
    have hp := List.pairwise_cons.mp h
    unfold insT
    split
    · rename_i c
      refine List.pairwise_cons.mpr ⟨fun z hz => ?_, h⟩
      rcases List.mem_cons.mp hz with rfl | hz
      · exact c
      · exact Int.le_trans c (hp.1 z hz)
    · rename_i c
      refine List.pairwise_cons.mpr ⟨fun z hz => ?_, insT_sorted x hp.2⟩
      rcases List.mem_cons.mp ((insT_perm x r).mem_iff.mp hz) with rfl | hz
      · show TS.code 1000000 y ≤ TS.code 1000000 z
        omega
      · exact hp.1 z hz
theorem tsort_sorted : ∀ l, (tsort l).Pairwise leT
  | [] => .nil
  | x :: r => insT_sorted x (tsort_sorted r)
/-- triples in bounds -/
def okT (l : List Int) : Bool := decide (l.length = 3) && l.all fun n => decide (0 ≤ n) && decide (n < 1000000)
theorem okT_iff {l : List Int} : okT l = true ↔ l.length = 3 ∧ TS.Bd 1000000 l := by
  unfold okT TS.Bd
  simp only [Bool.and_eq_true, decide_eq_true_eq, List.all_eq_true]
theorem tsort_unique : ∀ {a b : List (List Int)}, a.Perm b → a.Pairwise leT → b.Pairwise leT → (∀ l, l ∈ a → okT l = true) → a = b
  | [], b, h, _, _, _ => (List.nil_perm.mp h).symm
  | x :: a, [], h, _, _, _ => absurd (List.perm_nil.mp h) (by simp)
  | x :: a, y :: b, h, ha, hb, hk => by
    have hpa := List.pairwise_cons.mp ha
    have hpb := List.pairwise_cons.mp hb
    have hy : y ∈ x :: a := h.mem_iff.mpr List.mem_cons_self
    have hx : x ∈ y :: b := h.mem_iff.mp List.mem_cons_self
    have e1 : leT x y := by
      rcases List.mem_cons.mp hy with rfl | q
      · exact Int.le_refl _
      · exact hpa.1 y q
    have e2 : leT y x := by
      rcases List.mem_cons.mp hx with rfl | q
      · exact Int.le_refl _
      · exact hpb.1 x q
    have kx := okT_iff.mp (hk x List.mem_cons_self)
    have ky := okT_iff.mp (hk y hy)
    have exy : x = y := code_one (by rw [kx.1, ky.1]) kx.2 ky.2 (Int.le_antisymm e1 e2)
    subst exy
    rw [tsort_unique (List.Perm.cons_inv h) hpa.2 hpb.2 fun l hl => hk l (List.mem_cons_of_mem _ hl)]
def tI (l : List Int) : D := .tuple (l.map PyData.int)
def tupOf : D → Option (List Int)
  | .tuple ds => intsOf ds
  | _ => none
def tupsOf : List D → Option (List (List Int))
  | [] => some []
  | d :: ds => (tupOf d).bind fun t => (tupsOf ds).map (t :: ·)
theorem tupsOf_eq : ∀ {ds : List D} {L : List (List Int)}, tupsOf ds = some L → ds = L.map tI
  | [], L, h => by cases h; rfl
  | d :: ds, L, h => by
    simp only [tupsOf, Option.bind_eq_some_iff, Option.map_eq_some_iff] at h
    obtain ⟨t, h1, r, h2, rfl⟩ := h
    cases d <;> simp only [tupOf] at h1 <;> try (cases h1; done)
    rw [intsOf_eq h1, tupsOf_eq h2]
    rfl
theorem tupsOf_map : ∀ L : List (List Int), tupsOf (L.map tI) = some L
  | [] => rfl
  | t :: L => by
    have : tupOf (tI t) = some t := intsOf_map t
    simp [tupsOf, this, tupsOf_map L]
def gSortT3 : List D → Option D
  | [.list ds] => (tupsOf ds).bind fun L => if L.length < 64 ∧ (L.all okT) = true then some (.list ((tsort L).map tI)) else none
  | _ => none
/-- the same data in another order -/
theorem reps_perm {H : Hp} {A : Addr → Prop} {ys xs : List V} (h : ys.Perm xs) : ∀ {ds : List D}, Reps H A ds xs → ∃ es : List D, es.Perm ds ∧ Reps H A es ys := by
  induction h with
  | nil => exact fun {ds} h => ⟨ds, .refl _, h⟩
  | cons x _ ih =>
    intro ds h
    cases ds with
    | nil => simp only [Reps] at h; cases h
    | cons d ds =>
      obtain ⟨v, r, e, h1, h2⟩ := h.uncons
      cases e
      obtain ⟨es, p1, p2⟩ := ih h2
      exact ⟨d :: es, p1.cons d, Reps.cons h1 p2⟩
  | swap x y l =>
    intro ds h
    cases ds with
    | nil => simp only [Reps] at h; cases h
    | cons d ds =>
      obtain ⟨v, r, e, h1, h2⟩ := h.uncons
      cases e
      cases ds with
      | nil => simp only [Reps] at h2; cases h2
      | cons d' ds =>
        obtain ⟨v', r', e', h1', h2'⟩ := h2.uncons
        cases e'
        exact ⟨d' :: d :: ds, .swap _ _ _, Reps.cons h1' (Reps.cons h1 h2')⟩
  | trans _ _ ih1 ih2 =>
    intro ds h
    obtain ⟨es, p1, p2⟩ := ih2 h
    obtain ⟨fs, q1, q2⟩ := ih1 p2
    exact ⟨fs, q1.trans p1, q2⟩
theorem tI_inj {a b : List Int} (h : tI a = tI b) : a = b := by
  unfold tI at h
  injection h with h
  have := congrArg intsOf h
  rw [intsOf_map, intsOf_map] at this
  exact Option.some.inj this
theorem rep_tI {K : PySem.W.Frag} {H : Hp} {A : Addr → Prop} {t : List Int} {v : V} (h : Rep H A (tI t) v) : TupI K H v t := by
  unfold tI at h
  simp only [Rep] at h
  obtain ⟨a, ws, rfl, _, ha, hw⟩ := h
  rw [hw.ints] at ha
  exact ⟨a, rfl, SqT.of ha⟩
theorem ok_sortT3 {K : PySem.W.Frag} : OkRL (rSortU K 3 1000000) gSortT3 := fun H A xs ds d Q fr hs hg k => by
  unfold gSortT3 at hg
  split at hg
  · rename_i es
    obtain ⟨v, r, rfl, hv, h2⟩ := hs.uncons
    simp only [Reps] at h2
    subst h2
    simp only [Option.bind_eq_some_iff] at hg
    obtain ⟨L, h1, hg⟩ := hg
    split at hg
    · rename_i hc
      cases hg
      have e0 := tupsOf_eq h1
      subst e0
      simp only [Rep] at hv
      obtain ⟨a, ws, rfl, na, ha, hw⟩ := hv
      have okL : ∀ l, l ∈ L → okT l = true := List.all_eq_true.mp hc.2
      have each : ∀ x, x ∈ ws → ∃ t, t ∈ L ∧ TupI K H x t := fun x hx => by
        obtain ⟨i, hi, e⟩ := List.getElem_of_mem hx
        obtain ⟨d, hd, hr⟩ := hw.get' (i := i) (v := x) (by rw [List.getElem?_eq_getElem hi, e])
        rw [List.getElem?_map] at hd
        cases q : L[i]? with
        | none => rw [q] at hd; cases hd
        | some t =>
          rw [q] at hd
          cases hd
          exact ⟨t, List.mem_of_getElem? q, rep_tI hr⟩
      refine ⟨a, ws, rfl, SqL.of ha, by rw [hw.len, List.length_map]; exact hc.1, fun x hx => ?_, fun ys p hp hq hf => k _ _ (same_upd hf) ?_⟩
      · obtain ⟨t, ht, q⟩ := each x hx
        have := okT_iff.mp (okL t ht)
        exact ⟨t, q, this.1, this.2⟩
      · obtain ⟨fs, p1, p2⟩ := reps_perm hp hw
        -- the data of ys
        have hall : ∃ M : List (List Int), fs = M.map tI := by
          have : ∀ fs : List D, (∀ d, d ∈ fs → ∃ t, d = tI t) → ∃ M : List (List Int), fs = M.map tI := by
            intro fs
            induction fs with
            | nil => intro _; exact ⟨[], rfl⟩
            | cons d fs ih =>
              intro h
              obtain ⟨t, ht⟩ := h d List.mem_cons_self
              obtain ⟨M, hM⟩ := ih fun e he => h e (List.mem_cons_of_mem _ he)
              exact ⟨t :: M, by rw [ht, hM]; rfl⟩
          refine this fs fun d hd => ?_
          obtain ⟨t, _, e⟩ := List.mem_map.mp (p1.mem_iff.mp hd)
          exact ⟨t, e.symm⟩
        obtain ⟨M, rfl⟩ := hall
        have pm : M.Perm L := by
          have := p1.map tupOf
          have e1 : ∀ N : List (List Int), (N.map tI).map tupOf = N.map some := fun N => by
            rw [List.map_map]
            exact List.map_congr_left fun t _ => intsOf_map t
          rw [e1, e1] at this
          have q := this.filterMap id
          simpa using q
        have sm : M.Pairwise leT := by
          have key : ∀ (M : List (List Int)) (ys : List V), Reps H A (M.map tI) ys → ys.Pairwise (fun x y => ∀ n m, TupI K H x n → TupI K H y m → TS.code 1000000 n ≤ TS.code 1000000 m) → M.Pairwise leT := by
            intro M
            induction M with
            | nil => intro _ _ _; exact .nil
            | cons t M ih =>
              intro ys hr hp
              obtain ⟨v, r, rfl, h1, h2⟩ := Reps.uncons (d := tI t) (ds := M.map tI) hr
              have hp := List.pairwise_cons.mp hp
              refine List.pairwise_cons.mpr ⟨fun u hu => ?_, ih r h2 hp.2⟩
              obtain ⟨i, hi, e⟩ := List.getElem_of_mem hu
              obtain ⟨w, hw, hr⟩ := h2.get (i := i) (d := tI u) (by rw [List.getElem?_map, List.getElem?_eq_getElem hi, e]; rfl)
              exact hp.1 w (List.mem_of_getElem? hw) t u (rep_tI h1) (rep_tI hr)
          exact key M ys p2 hq
        have e : M = tsort L := tsort_unique (pm.trans (tsort_perm L).symm) sm (tsort_sorted L) fun l hl => okL l (pm.mem_iff.mp hl)
        subst e
        simp only [Rep]
        exact ⟨p, ys, rfl, fr p hf, upd_same, Reps.mono (fun a o na e => ⟨same_upd hf a o e, na⟩) _ ys p2⟩
    · cases hg
  · cases hg
section
variable {X : Cx} {cc : Cc} {W : WX} {e : Expr} {es : List Expr} {tl : TA} {fs : Den (List D)} {pos p : Pos}
theorem de_sortT3 (K : PySem.W.Frag) (B : Bt X.mg) (ha : DA X cc W (e :: es) tl fs) (hg : Gl X "sorted" := by rfl) (he : starEach (e :: es) X.env = (false, eval e X.env) :: starEach es X.env := by rfl) (hpl : (backTo pos (starEach es X.env)).any (·.1) = false := by rfl) (hK : X.K = K := by rfl) :
    DE X cc W (.Call (.Name "sorted" p) (e :: es) [] pos) (tCB (rSortU K 3 1000000) tl) (dBL gSortT3 fs) := by
  subst hK
  exact de_cb (cr_sortT (d := 3) (B := 1000000) (by decide)) ok_sortT3 B.sorted bb_sorted ha (by decide) hg (by decide) he hpl
end
end GG

namespace GG
open PySem PySem.Spec PyProof.Rows L2
/-! ### dicts of one's own -/
def kD : Key → D
  | .inl i => .int i
  | .inr s => .str s
def asK : D → Option Key
  | .int i => some (.inl i)
  | .str s => some (.inr s)
  | _ => none
theorem rep_kD {H : Hp} {A : Addr → Prop} (k : Key) : Rep H A (kD k) (kV k) := by
  cases k <;> simp only [kD, Rep] <;> rfl
theorem asK_rep {H : Hp} {A : Addr → Prop} {d : D} {k : Key} {v : V} (e : asK d = some k) (h : Rep H A d v) : v = kV k := by
  cases d with
  | int i =>
    cases e
    simp only [Rep] at h
    exact h
  | str s =>
    cases e
    simp only [Rep] at h
    exact h
  | _ => cases e
def dLook (kvs : List (Int × Key)) (n : Int) : Option Key := (kvs.find? fun kv => decide (kv.1 = n)).map (·.2)
def dPut (kvs : List (Int × Key)) (n : Int) (k : Key) : List (Int × Key) :=
  if (kvs.any fun kv => decide (kv.1 = n)) = true then kvs.map (fun kv => if kv.1 = n then (kv.1, k) else kv) else kvs ++ [(n, k)]
theorem valV_dk (n : Int) : ∀ kvs : List (Int × Key), valV (dkV kvs) (Sum.inl n) = (dLook kvs n).map kV
  | [] => rfl
  | (m, k) :: kvs => by
    have ih := valV_dk n kvs
    by_cases c : m = n
    · subst c
      have e : valV (dkV ((m, k) :: kvs)) (Sum.inl m) = some (kV k) := valV_pos rfl
      rw [e]
      simp [dLook]
    · have e : valV (dkV ((m, k) :: kvs)) (Sum.inl n) = valV (dkV kvs) (Sum.inl n) := valV_neg (fun z => c (Sum.inl.inj z))
      rw [e, ih]
      simp [dLook, c]
theorem any_dk (n : Int) : ∀ kvs : List (Int × Key), ((dkV kvs).any fun kv => decide (kv.1 = (Sum.inl n : Key))) = kvs.any fun kv => decide (kv.1 = n)
  | [] => rfl
  | (m, k) :: kvs => by
    have ih := any_dk n kvs
    have e : (dkV ((m, k) :: kvs)) = (Sum.inl m, kV k) :: dkV kvs := rfl
    rw [e, List.any_cons, List.any_cons, ih]
    congr 1
    by_cases c : m = n
    · subst c; simp
    · rw [decide_eq_false c]
      exact decide_eq_false fun z => c (Sum.inl.inj z)
theorem put_dk (kvs : List (Int × Key)) (n : Int) (k : Key) : putK (dkV kvs) (Sum.inl n) (kV k) = dkV (dPut kvs n k) := by
  unfold putK dPut
  rw [any_dk]
  by_cases c : (kvs.any fun kv => decide (kv.1 = n)) = true
  · rw [if_pos c, if_pos c]
    unfold dkV
    rw [List.map_map, List.map_map]
    refine List.map_congr_left fun kv _ => ?_
    simp only [Function.comp]
    by_cases d : kv.1 = n
    · rw [if_pos d, if_pos (by rw [d])]
    · rw [if_neg d, if_neg fun z => d (Sum.inl.inj z)]
  · rw [if_neg c, if_neg c]
    unfold dkV
    rw [List.map_append]
    rfl
section
variable {cc : Cc} {fr : Frm} {O : Nat → List Addr} {σ : L2.St} {H : Hp} {ρ : Env'}
/-- a new dict goes to slot i -/
theorem Rel.setDct (R : Rel cc fr O σ H ρ) {i : Nat} {p : Addr} {kvs : List (Int × Key)} (hp : H p = none) : Rel cc fr (on O i p) (σ.set i (some (.ref p))) (upd H p (.dK (dkV kvs))) (ρ.set i (.dct kvs)) := by
  have kp : ∀ a o, ¬ Av fr O a → H a = some o → upd H p (.dK (dkV kvs)) a = some o ∧ ¬ Av fr (on O i p) a := fun a o na q => ⟨same_upd hp a o q, fun z => by
    rcases z with z | ⟨j, z⟩
    · exact na (.inl z)
    · rcases mem_on z with ⟨_, z⟩ | ⟨_, z⟩
      · rw [z, hp] at q; cases q
      · exact na (.inr ⟨j, z⟩)⟩
  refine ⟨by simpa using R.len, R.zin, fun x o hx e => same_upd hp x o (R.frame x o hx e), fun x hx => (Mv.new (O := O) (same_upd hp)).dom x (R.dom x hx), fun j x hx => ?_, fun j k x hj hk => ?_, fun j es hj x hx => ?_, fun j s hj => ?_⟩
  · rcases mem_on hx with ⟨_, rfl⟩ | ⟨_, h⟩
    · refine ⟨.inl ?_, by rw [upd_same]; simp⟩
      cases e : fr.H x with
      | none => rfl
      | some o => exact absurd hp (R.dom x (by rw [e]; simp))
    · exact ⟨(R.own j x h).1, (Mv.new (O := O) (same_upd hp)).dom x (R.own j x h).2⟩
  · rcases mem_on hj with ⟨rfl, rfl⟩ | ⟨_, h⟩
    · rcases mem_on hk with ⟨rfl, _⟩ | ⟨_, h'⟩
      · rfl
      · exact absurd hp (R.own k x h').2
    · rcases mem_on hk with ⟨rfl, rfl⟩ | ⟨_, h'⟩
      · exact absurd hp (R.own j x h).2
      · exact R.dis j k x h h'
  · rcases mem_on hx with ⟨rfl, rfl⟩ | ⟨ne, h⟩
    · exact fun z => R.dom x (R.zin x z) hp
    · rw [List.getElem?_set_ne (Ne.symm ne)] at hj
      exact R.new j es hj x h
  · by_cases e : i = j
    · subst e
      by_cases hl : i < ρ.length
      · rw [List.getElem?_set_self hl] at hj
        cases hj
        exact ⟨p, on_self, List.getElem?_set_self (by rw [← R.len]; exact hl), upd_same⟩
      · rw [List.getElem?_eq_none (by simpa using hl)] at hj; cases hj
    · rw [List.getElem?_set_ne e] at hj
      rw [List.getElem?_set_ne e, on_ne (Ne.symm e)]
      exact (R.slot j s hj).mono kp fun a ha => upd_ne fun z => (R.own j a ha).2 (by rw [z]; exact hp)
/-- a dict of one's own is written -/
theorem Rel.upDct (R : Rel cc fr O σ H ρ) {i : Nat} {kvs kvs' : List (Int × Key)} (hi : ρ[i]? = some (.dct kvs)) {p : Addr} (hp : σ[i]? = some (some (.ref p))) : Rel cc fr O σ (upd H p (.dK (dkV kvs'))) (ρ.set i (.dct kvs')) ∧ Mv O H O (upd H p (.dK (dkV kvs'))) := by
  obtain ⟨q, h1, h2, h3⟩ := R.slot i _ hi
  rw [h2] at hp
  cases hp
  have hm : p ∈ O i := by rw [h1]; simp
  have kp : ∀ a o, ¬ Av fr O a → H a = some o → upd H p (.dK (dkV kvs')) a = some o ∧ ¬ Av fr O a := fun a o na q => ⟨by
    rw [upd_ne (fun z => na (.inr ⟨i, by rw [z]; exact hm⟩))]
    exact q, na⟩
  have dm : ∀ x, H x ≠ none → upd H p (.dK (dkV kvs')) x ≠ none := fun x hx => by
    by_cases e : x = p
    · rw [e, upd_same]; simp
    · rw [upd_ne e]; exact hx
  have hl : i < ρ.length := (List.getElem?_eq_some_iff.mp hi).1
  refine ⟨⟨by simpa using R.len, R.zin, fun x o hx e => ?_, fun x hx => dm x (R.dom x hx), fun j x hx => ⟨(R.own j x hx).1, dm x (R.own j x hx).2⟩, R.dis, fun j fs hj x hx => ?_, fun j s hj => ?_⟩, ⟨fun x o hx e => ?_, fun j x hx => .inl ⟨j, hx⟩, dm⟩⟩
  · rw [upd_ne ?_]
    · exact R.frame x o hx e
    · rintro rfl
      rcases (R.own i x hm).1 with z | z
      · rw [e] at z; cases z
      · exact hx z
  · by_cases e : i = j
    · subst e
      rw [List.getElem?_set_self hl] at hj
      cases hj
    · rw [List.getElem?_set_ne e] at hj
      exact R.new j fs hj x hx
  · by_cases e : i = j
    · subst e
      rw [List.getElem?_set_self hl] at hj
      cases hj
      exact ⟨p, h1, h2, upd_same⟩
    · rw [List.getElem?_set_ne e] at hj
      exact (R.slot j s hj).mono kp fun a ha => upd_ne fun z => e (R.dis i j p hm (by rw [← z]; exact ha))
  · rw [upd_ne (fun z => hx i (by rw [z]; exact hm))]
    exact e
end
/-- x = {..}, written later -/
def dDct (i : Nat) (kvs : List (Int × Key)) : Den Fl := fun ρ => .ok .nx (ρ.set i (.dct kvs))
/-- x[e] -/
def dDGet (i : Nat) (f : Den D) : Den D := fun ρ => match ρ[i]? with
  | some (.dct _) => (f ρ).bind fun x ρ1 => match ρ1[i]?, x with
    | some (.dct kvs), .int n => match dLook kvs n with
      | some k => .ok (kD k) ρ1
      | none => .st
    | _, _ => .st
  | _ => .st
/-- x.get(e, z) -/
def dDGet2 (i : Nat) (f g : Den D) : Den D := fun ρ => match ρ[i]? with
  | some (.dct _) => (f ρ).bind fun x ρ1 => (g ρ1).bind fun z ρ2 => match ρ2[i]?, x with
    | some (.dct kvs), .int n => match dLook kvs n with
      | some k => .ok (kD k) ρ2
      | none => .ok z ρ2
    | _, _ => .st
  | _ => .st
/-- x[e] = v -/
def dDPut (i : Nat) (f g : Den D) : Den Fl := fun ρ => (g ρ).bind fun v ρ1 => match ρ1[i]? with
  | some (.dct _) => (f ρ1).bind fun x ρ2 => match ρ2[i]?, x, asK v with
    | some (.dct kvs), .int n, some k => if kvs.length < 100000 then .ok .nx (ρ2.set i (.dct (dPut kvs n k))) else .st
    | _, _, _ => .st
  | _ => .st
section
variable {cc : Cc} {W : WX} {te tz : TE} {f g : Den D} {K : PySem.W.Frag}
theorem upd_upd {H : Hp} {p : Addr} {a b : HO} : upd (upd H p a) p b = upd H p b := by
  funext x
  by_cases e : x = p
  · rw [e, upd_same, upd_same]
  · rw [upd_ne e, upd_ne e, upd_ne e]
theorem sns_dct0 {i : Nat} : SndS cc W (tAsg tDNewK (gName i)) (dDct i []) := fun fr O σ H ρ D R p q hq =>
  p _ _ _ (R.setDct (kvs := []) hq) (mv_own hq)
theorem sns_dct2 {i : Nat} {a b : Int} {s t : Str} (h : b ≠ a) : SndS cc W (tAsg (tDisp [(tC (.int a), tC (.str s)), (tC (.int b), tC (.str t))]) (gName i)) (dDct i [(a, .inr s), (b, .inr t)]) := fun fr O σ H ρ D R p q hq => by
  refine ⟨upd_same, [(.inl a, .str s), (.inl b, .str t)], rfl, by simp, ?_⟩
  rw [upd_upd]
  have e : mergeK [] [((.inl a : Key), V.str s), (.inl b, .str t)] = dkV [(a, .inr s), (b, .inr t)] := by
    show putK (dkV [(a, .inr s)]) (.inl b) (kV (.inr t)) = _
    rw [put_dk]
    unfold dPut
    rw [if_neg (by simp; exact fun z => h z.symm)]
    rfl
  rw [e]
  exact p _ _ _ (R.setDct hq) (mv_own hq)
theorem snd_dget {i : Nat} (he : SndE cc W te f) : SndE cc W (tDGet (tVar i) te) (dDGet i f) := fun fr O σ H ρ Q R p => by
  unfold dDGet at p
  split at p
  · rename_i kv0 e0
    obtain ⟨q, h1, h2, h3⟩ := R.slot i _ e0
    refine ⟨.ref q, h2, he fr O σ H ρ _ R (p.bind fun d ρ1 O1 H1 R1 m1 p1 v hv => ?_)⟩
    split at p1
    · rename_i kvs n e1
      obtain ⟨q', k1, k2, k3⟩ := R1.slot i _ e1
      have eq : q' = q := by
        rw [h2] at k2
        cases k2
        rfl
      subst eq
      simp only [Rep] at hv
      subst hv
      split at p1
      · rename_i k ek
        refine ⟨q', kV k, rfl, ?_, p1.here R1 _ (rep_kD k)⟩
        have := DGet.k (k := .inl n) k3
        rw [valV_dk, ek] at this
        exact this
      · exact p1.elim
    · exact p1.elim
  · exact p.elim
theorem snd_dget2 {i : Nat} (he : SndE cc W te f) (hz : SndE cc W tz g) : SndE cc W (tDGet2 (tVar i) te tz) (dDGet2 i f g) := fun fr O σ H ρ Q R p => by
  unfold dDGet2 at p
  split at p
  · rename_i kv0 e0
    obtain ⟨q, h1, h2, h3⟩ := R.slot i _ e0
    refine ⟨.ref q, h2, q, rfl, .inl ⟨_, .inl h3⟩, he fr O σ H ρ _ R (p.bind fun d ρ1 O1 H1 R1 m1 p1 v hv => hz fr O1 σ H1 ρ1 _ R1 (p1.bind fun z ρ2 O2 H2 R2 m2 p2 u hu => ?_))⟩
    split at p2
    · rename_i kvs n e1
      obtain ⟨q', k1, k2, k3⟩ := R2.slot i _ e1
      have eq : q' = q := by
        rw [h2] at k2
        cases k2
        rfl
      subst eq
      simp only [Rep] at hv
      subst hv
      refine ⟨(dLook kvs n).map kV, ?_, ?_⟩
      · have := DGet.k (k := .inl n) k3
        rw [valV_dk] at this
        exact this
      · split at p2
        · rename_i k ek
          rw [ek]
          exact p2.here R2 _ (rep_kD k)
        · rename_i ek
          rw [ek]
          exact p2.here R2 _ hu
    · exact p2.elim
  · exact p.elim
theorem sns_dput {i : Nat} (he : SndE cc W te f) (hz : SndE cc W tz g) : SndS cc W (sDPut (tVar i) te tz) (dDPut i f g) := fun fr O σ H ρ D R p => by
  unfold dDPut at p
  refine hz fr O σ H ρ _ R (PostS.of p fun d ρ1 O1 H1 R1 m1 p1 v hv => ?_)
  split at p1
  · rename_i kv0 e0
    obtain ⟨q, h1, h2, h3⟩ := R1.slot i _ e0
    refine ⟨.ref q, h2, he fr O1 σ H1 ρ1 _ R1 (PostS.of p1 fun x ρ2 O2 H2 R2 m2 p2 u hu => ?_)⟩
    split at p2
    · rename_i kvs n k e1 ek
      obtain ⟨q', k1, k2, k3⟩ := R2.slot i _ e1
      have eq : q' = q := by
        rw [h2] at k2
        cases k2
        rfl
      subst eq
      simp only [Rep] at hu
      subst hu
      have hv := asK_rep ek hv
      subst hv
      split at p2
      · rename_i hl
        obtain ⟨r1, r2⟩ := R2.upDct (kvs' := dPut kvs n k) e1 k2
        refine ⟨q', _, rfl, DPut.k (k := .inl n) k3 (Nat.lt_of_lt_of_le (by unfold dkV; rw [List.length_map]; exact hl) (sz5 (Nat.le_refl _))), ?_⟩
        rw [put_dk]
        exact p2 _ _ _ r1 r2
      · exact p2.elim
    · exact p2.elim
  · exact p1.elim
end
section
variable {X : Cx} {cc : Cc} {W : WX} {e z : Expr} {te tz : TE} {f g : Den D} {pos : Pos} {k : Nat}
theorem ds_dct0 (i : Nat) {x : Str} {p p2 : Pos} (hN : X.N.Nodup) (hx : Loc X.env.scope x := by first | exact Or.inl rfl | exact Or.inr rfl) (hi : X.N[i]? = some x := by rfl) (hs : swapsWith (.Dict [] [] p2) (some (.Name x p)) pos.line X.env = pure false := by rfl)
    (hf : X.fn x = true ∨ X.env.scope.names.lookup x = some .local := by first | exact .inl rfl | exact .inr rfl) : DS X cc W (.Assign [.Name x p] (.Dict [] [] p2) pos) (tAsg tDNewK (gName i)) (dDct i []) := ⟨ps_set hN hi hx pe_dnewK hs hf, sns_dct0⟩
theorem ds_dct2 (i : Nat) {x : Str} {p p2 p3 p4 p5 p6 : Pos} {k1 k2 k3 k4 : Nat} {a b : Int} {s t : Str} (hN : X.N.Nodup) (hab : b ≠ a := by decide) (hx : Loc X.env.scope x := by first | exact Or.inl rfl | exact Or.inr rfl) (hi : X.N[i]? = some x := by rfl)
    (hs : swapsWith (.Dict [some (.Constant (.int a) k1 p3), some (.Constant (.int b) k3 p5)] [.Constant (.str s) k2 p4, .Constant (.str t) k4 p6] p2) (some (.Name x p)) pos.line X.env = pure false := by rfl)
    (hf : X.fn x = true ∨ X.env.scope.names.lookup x = some .local := by first | exact .inl rfl | exact .inr rfl) : DS X cc W (.Assign [.Name x p] (.Dict [some (.Constant (.int a) k1 p3), some (.Constant (.int b) k3 p5)] [.Constant (.str s) k2 p4, .Constant (.str t) k4 p6] p2) pos)
      (tAsg (tDisp [(tC (.int a), tC (.str s)), (tC (.int b), tC (.str t))]) (gName i)) (dDct i [(a, .inr s), (b, .inr t)]) :=
  ⟨ps_set hN hi hx (pe_disp (pps_cons pe_int pe_str (pps_cons pe_int pe_str pps_nil)) (by rfl) (by rfl) (by simp) (by simp)) hs hf, sns_dct2 hab⟩
theorem de_dget (i : Nat) {x : Str} {p : Pos} (hr : Room k X.A) (he : DE X cc W e te f) (hN : X.N[i]? = some x := by rfl) (hv : Vis X.env.scope x := by first | exact Or.inl rfl | exact Or.inr (Or.inl rfl) | exact Or.inr (Or.inr rfl)) (hd : (x == ("__debug__" : Str)) = false := by decide)
    (hcd : (x == ("__classdict__" : Str)) = false := by decide) (hs : NoSl e := by exact fun _ _ => rfl) : DE X cc W (.Subscript (.Name x p) e pos) (tDGet (tVar i) te) (dDGet i f) :=
  ⟨pe_dget (by have := room65 hr; omega) (pe_var hN hv hd hcd) he.p hs, snd_dget he.s⟩
theorem de_dget2 (i : Nat) {x : Str} {p p2 : Pos} (hr : Room k X.A) (he : DE X cc W e te f) (hz : DE X cc W z tz g) (hN : X.N[i]? = some x := by rfl) (hv : Vis X.env.scope x := by first | exact Or.inl rfl | exact Or.inr (Or.inl rfl) | exact Or.inr (Or.inr rfl)) (hd : (x == ("__debug__" : Str)) = false := by decide)
    (hcd : (x == ("__classdict__" : Str)) = false := by decide) (hb : attributeBase (.Name x p) "get" X.env (eval (.Name x p) X.env) = eval (.Name x p) X.env := by rfl)
    (hfew : ((backTo pos (starEach [e, z] X.env)).all (fun x => !x.1) && (backToKw pos (keywordEach [] X.env)).all (fun x => x.1.isSome) && decide (([e, z] : List Expr).length + ([] : List Keyword).length + (if ([] : List Keyword).isEmpty then 0 else 1) < 30)) = true := by rfl)
    (hline : (p2.endLine == pos.line) = true := by rfl) (ht : backTo pos (starEach [e, z] X.env) = [(false, eval e X.env), (false, eval z X.env)] := by rfl) :
    DE X cc W (.Call (.Attribute (.Name x p) "get" p2) [e, z] [] pos) (tDGet2 (tVar i) te tz) (dDGet2 i f g) :=
  ⟨pe_dget2 (by have := room65 hr; omega) (pe_var hN hv hd hcd) he.p hz.p ⟨hb, hfew, hline, ht⟩, snd_dget2 he.s hz.s⟩
theorem ds_dput (i : Nat) {x : Str} {p p2 : Pos} (hr : Room k X.A) (he : DE X cc W e te f) (hz : DE X cc W z tz g) (hN : X.N[i]? = some x := by rfl) (hv : Vis X.env.scope x := by first | exact Or.inl rfl | exact Or.inr (Or.inl rfl) | exact Or.inr (Or.inr rfl)) (hd : (x == ("__debug__" : Str)) = false := by decide)
    (hcd : (x == ("__classdict__" : Str)) = false := by decide) (hs : swapsWith z (some (.Subscript (.Name x p) e p2)) pos.line X.env = pure false := by rfl) : DS X cc W (.Assign [.Subscript (.Name x p) e p2] z pos) (sDPut (tVar i) te tz) (dDPut i f g) :=
  ⟨ps_dput (by have := room65 hr; omega) (pe_var hN hv hd hcd) he.p hz.p hs, sns_dput he.s hz.s⟩
end
end GG

namespace GG
open PySem PySem.Spec PyProof.Rows L2

/-! ### streams: an object of the program's class -/
inductive SF where
  | gap | late | line | told
def SF.nm : SF → Str
  | .gap => "gap"
  | .late => "lateness"
  | .line => "line"
  | .told => "told"
def SF.val (g l : Int) (line : List Int) (told : Int) : SF → D
  | .gap => .int g
  | .late => .int l
  | .line => .list (line.map PyData.int)
  | .told => .int told
def SF.vv (g l : Int) (p : Addr) (told : Int) : SF → V
  | .gap => .int g
  | .late => .int l
  | .line => .ref p
  | .told => .int told
/-- the class as the top has made it -/
structure ScOk (K : PySem.W.Frag) (C : Addr) : Prop where
  cl : Cls K C
  no : ∀ f : SF, NoAttr K C f.nm
theorem q_lg : (("lateness" : Str) == "gap") = false := by decide +kernel
theorem q_ig : (("line" : Str) == "gap") = false := by decide +kernel
theorem q_il : (("line" : Str) == "lateness") = false := by decide +kernel
theorem q_tg : (("told" : Str) == "gap") = false := by decide +kernel
theorem q_tl : (("told" : Str) == "lateness") = false := by decide +kernel
theorem q_ti : (("told" : Str) == "line") = false := by decide +kernel
theorem sFs_get {g l : Int} {p : Addr} {told : Int} : ∀ f : SF, (sFs g l p told).lookup f.nm = some (f.vv g l p told)
  | .gap => by simp only [sFs, SF.nm, SF.vv, List.lookup, beq_self_eq_true]
  | .late => by simp only [sFs, SF.nm, SF.vv, List.lookup, beq_self_eq_true, q_lg]
  | .line => by simp only [sFs, SF.nm, SF.vv, List.lookup, beq_self_eq_true, q_ig, q_il]
  | .told => by simp only [sFs, SF.nm, SF.vv, List.lookup, beq_self_eq_true, q_tg, q_tl, q_ti]
theorem sFs_no {m : Str} (h1 : (m == "gap") = false) (h2 : (m == "lateness") = false) (h3 : (m == "line") = false) (h4 : (m == "told") = false) {g l : Int} {p : Addr} {told : Int} : (sFs g l p told).lookup m = none := by
  simp only [sFs, List.lookup, h1, h2, h3, h4]
theorem n_gl : ¬ ("gap" : Str) = "lateness" := by decide +kernel
theorem n_gi : ¬ ("gap" : Str) = "line" := by decide +kernel
theorem n_gt : ¬ ("gap" : Str) = "told" := by decide +kernel
theorem n_li : ¬ ("lateness" : Str) = "line" := by decide +kernel
theorem n_lt : ¬ ("lateness" : Str) = "told" := by decide +kernel
theorem n_it : ¬ ("line" : Str) = "told" := by decide +kernel
theorem putF_line {g l : Int} {p q : Addr} {told : Int} : putF "line" (.ref q) (sFs g l p told) = sFs g l q told := by
  simp only [sFs, putF, if_neg n_gi, if_neg n_li, if_true]
theorem putF_told {g l : Int} {p : Addr} {told t : Int} : putF "told" (.int t) (sFs g l p told) = sFs g l p t := by
  simp only [sFs, putF, if_neg n_gt, if_neg n_lt, if_neg n_it, if_true]
theorem putF_all {g l : Int} {p : Addr} {told : Int} : putF "told" (.int told) (putF "line" (.ref p) (putF "lateness" (.int l) (putF "gap" (.int g) []))) = sFs g l p told := by
  simp only [sFs, putF, if_neg n_gl, if_neg n_gi, if_neg n_li, if_neg n_gt, if_neg n_lt, if_neg n_it]

section
variable {cc : Cc} {fr : Frm} {O : Nat → List Addr} {σ : L2.St} {H H' : Hp} {ρ : Env'}
/-- a stream has changed -/
theorem Rel.streamed (R : Rel cc fr O σ H ρ) {i : Nat} {b : Bool} {g l : Int} {line line' : List Int} {told told' : Int} {a d : Addr} (hi : ρ[i]? = some (.stm b g l line told)) (ho : O i = [a, d])
    (k : ∀ x o, x ≠ a → x ≠ d → H x = some o → H' x = some o) (hs : StmAt cc H' (Av fr O) a d g l line' told') : Rel cc fr O σ H' (ρ.set i (.stm b g l line' told')) ∧ Mv O H O H' := by
  obtain ⟨a', d', h1, h2, h3, _⟩ := R.slot i _ hi
  have h1 : O i = [a', d'] := h1
  rw [ho] at h1
  cases h1
  have ma : a ∈ O i := by rw [ho]; simp
  have md : d ∈ O i := by rw [ho]; simp
  have hl : i < ρ.length := (List.getElem?_eq_some_iff.mp hi).1
  have dm : ∀ x, H x ≠ none → H' x ≠ none := fun x hx => by
    by_cases e1 : x = a
    · obtain ⟨_, p, z, _⟩ := hs
      rw [e1, z]; simp
    · by_cases e2 : x = d
      · rw [e2, hs.1]; simp
      · cases q : H x with
        | none => exact absurd q hx
        | some o => rw [k x o e1 e2 q]; simp
  have nd : ∀ x, ¬ Av fr O x → x ≠ a ∧ x ≠ d := fun x hx => ⟨fun z => hx (.inr ⟨i, by rw [z]; exact ma⟩), fun z => hx (.inr ⟨i, by rw [z]; exact md⟩)⟩
  have kp : ∀ y o, ¬ Av fr O y → H y = some o → H' y = some o ∧ ¬ Av fr O y := fun y o ny q => ⟨k y o (nd y ny).1 (nd y ny).2 q, ny⟩
  refine ⟨⟨by simpa using R.len, R.zin, fun x o hx e => ?_, fun x hx => dm x (R.dom x hx), fun j x hx => ⟨(R.own j x hx).1, dm x (R.own j x hx).2⟩, R.dis, fun j ds hj x hx => ?_, fun j s hj => ?_⟩, ⟨fun x o hx e => k x o (fun z => hx i (by rw [z]; exact ma)) (fun z => hx i (by rw [z]; exact md)) e, fun j x hx => .inl ⟨j, hx⟩, dm⟩⟩
  · refine k x o ?_ ?_ (R.frame x o hx e)
    · rintro rfl
      rcases (R.own i _ ma).1 with z | z
      · rw [e] at z; cases z
      · exact hx z
    · rintro rfl
      rcases (R.own i _ md).1 with z | z
      · rw [e] at z; cases z
      · exact hx z
  · by_cases e : i = j
    · subst e
      rw [List.getElem?_set_self hl] at hj
      cases hj
    · rw [List.getElem?_set_ne e] at hj
      exact R.new j ds hj x hx
  · by_cases e : i = j
    · subst e
      rw [List.getElem?_set_self hl] at hj
      cases hj
      exact ⟨a, d, ho, h2, h3, hs⟩
    · rw [List.getElem?_set_ne e] at hj
      refine (R.slot j s hj).mono kp fun y hm => ?_
      cases q : H y with
      | none => exact absurd q (R.own j y hm).2
      | some o => exact k y o (fun z => e (R.dis i j _ ma (by rw [← z]; exact hm))) (fun z => e (R.dis i j _ md (by rw [← z]; exact hm))) q
def on2 (O : Nat → List Addr) (i : Nat) (a d : Addr) : Nat → List Addr := fun j => if j = i then [a, d] else O j
theorem mem_on2 {i j : Nat} {a d x : Addr} (h : x ∈ on2 O i a d j) : (j = i ∧ (x = a ∨ x = d)) ∨ (j ≠ i ∧ x ∈ O j) := by
  unfold on2 at h
  by_cases e : j = i
  · rw [if_pos e] at h
    refine .inl ⟨e, ?_⟩
    rcases List.mem_cons.mp h with z | z
    · exact .inl z
    · exact .inr (List.mem_singleton.mp z)
  · rw [if_neg e] at h
    exact .inr ⟨e, h⟩
/-- a new stream goes to slot i -/
theorem Rel.setStm (R : Rel cc fr O σ H ρ) {i : Nat} {a d : Addr} {g l : Int} {line : List Int} {told : Int} (ha : H a = none) (hd : H d = none) (sm : Same H H') (hs : StmAt cc H' (fun y => Av fr O y ∨ y = a ∨ y = d) a d g l line told) :
    Rel cc fr (on2 O i a d) (σ.set i (some (.ref a))) H' (ρ.set i (.stm false g l line told)) ∧ Mv O H (on2 O i a d) H' := by
  have ha' : H' a ≠ none := by
    obtain ⟨_, p, z, _⟩ := hs
    rw [z]; simp
  have hd' : H' d ≠ none := by rw [hs.1]; simp
  have mv : Mv O H (on2 O i a d) H' := ⟨fun x o _ e => sm x o e, fun j x hx => by
    rcases mem_on2 hx with ⟨_, z | z⟩ | ⟨_, h⟩
    · exact .inr (by rw [z]; exact ha)
    · exact .inr (by rw [z]; exact hd)
    · exact .inl ⟨j, h⟩, (Mv.new (O := O) sm).dom⟩
  have no : ∀ x, (x = a ∨ x = d) → H x = none := fun x h => by
    rcases h with z | z
    · rw [z]; exact ha
    · rw [z]; exact hd
  refine ⟨⟨by simpa using R.len, R.zin, fun x o hx e => sm x o (R.frame x o hx e), fun x hx => (Mv.new (O := O) sm).dom x (R.dom x hx), fun j x hx => ?_, fun j k x hj hk => ?_, fun j es hj x hx => ?_, fun j s hj => ?_⟩, mv⟩
  · rcases mem_on2 hx with ⟨_, z⟩ | ⟨_, h⟩
    · refine ⟨.inl ?_, ?_⟩
      · cases e : fr.H x with
        | none => rfl
        | some o => exact absurd (no x z) (R.dom x (by rw [e]; simp))
      · rcases z with z | z
        · rw [z]; exact ha'
        · rw [z]; exact hd'
    · exact ⟨(R.own j x h).1, (Mv.new (O := O) sm).dom x (R.own j x h).2⟩
  · rcases mem_on2 hj with ⟨e1, z⟩ | ⟨_, h⟩
    · rcases mem_on2 hk with ⟨e2, _⟩ | ⟨_, h'⟩
      · rw [e1, e2]
      · exact absurd (no x z) (R.own k x h').2
    · rcases mem_on2 hk with ⟨e2, z⟩ | ⟨_, h'⟩
      · exact absurd (no x z) (R.own j x h).2
      · exact R.dis j k x h h'
  · rcases mem_on2 hx with ⟨_, z⟩ | ⟨ne, h⟩
    · exact fun y => R.dom x (R.zin x y) (no x z)
    · rw [List.getElem?_set_ne (Ne.symm ne)] at hj
      exact R.new j es hj x h
  · by_cases e : i = j
    · subst e
      by_cases hl : i < ρ.length
      · rw [List.getElem?_set_self hl] at hj
        cases hj
        refine ⟨a, d, if_pos rfl, (fun z => nomatch z), List.getElem?_set_self (by rw [← R.len]; exact hl), hs.1, ?_⟩
        obtain ⟨_, p, z1, z2, z3⟩ := hs
        refine ⟨p, z1, fun y => z2 ?_, z3⟩
        rcases y with y | ⟨j, y⟩
        · exact .inl (.inl y)
        · rcases mem_on2 y with ⟨_, z⟩ | ⟨_, h⟩
          · exact .inr z
          · exact .inl (.inr ⟨j, h⟩)
      · rw [List.getElem?_eq_none (by simpa using hl)] at hj; cases hj
    · rw [List.getElem?_set_ne e] at hj
      rw [List.getElem?_set_ne e, show on2 O i a d j = O j from if_neg (Ne.symm e)]
      refine (R.slot j s hj).mono (fun y o ny q => mv.keep y o ny q) fun y hy => ?_
      cases q : H y with
      | none => exact absurd q (R.own j y hy).2
      | some o => exact sm y o q
end

/-! ### fields -/
def dFld (i : Nat) (f : SF) : Den D := fun ρ => match ρ[i]? with
  | some (.stm _ g l line told) => .ok (f.val g l line told) ρ
  | _ => .st
def dSetLine (i : Nat) (fe : Den D) : Den Fl := fun ρ => (fe ρ).bind fun v ρ1 => match ρ1[i]?, v with
  | some (.stm b g l _ told), .list ds => (match intsOf ds with
    | some ns => .ok .nx (ρ1.set i (.stm b g l ns told))
    | none => .st)
  | _, _ => .st
def dSetTold (i : Nat) (fe : Den D) : Den Fl := fun ρ => (fe ρ).bind fun v ρ1 => match ρ1[i]?, v with
  | some (.stm b g l line _), .int n => .ok .nx (ρ1.set i (.stm b g l line n))
  | _, _ => .st
def dAugTold (i : Nat) (fe : Den D) : Den Fl := fun ρ => match ρ[i]? with
  | some (.stm _ _ _ _ t0) => (fe ρ).bind fun v ρ1 => match ρ1[i]?, v with
    | some (.stm b g l line _), .int n => .ok .nx (ρ1.set i (.stm b g l line (t0 + n)))
    | _, _ => .st
  | _ => .st
section
variable {cc : Cc} {W : WX} {te : TE} {fe : Den D} {K : PySem.W.Frag}
theorem snd_fld {i : Nat} (f : SF) (T : ScOk K cc.sc) : SndE cc W (tFld K (tVar i) f.nm) (dFld i f) := fun fr O σ H ρ Q R p => by
  unfold dFld at p
  split at p
  · rename_i b g l line told e
    obtain ⟨a, d, h1, h2, h3, h4, q, h5, h6, h7⟩ := R.slot i _ e
    refine ⟨.ref a, h3, a, cc.sc, d, _, f.vv g l q told, rfl, h5, T.cl, T.no f, sFs_get f, p.here R _ ?_⟩
    cases f with
    | gap => simp only [SF.val, SF.vv, Rep]
    | late => simp only [SF.val, SF.vv, Rep]
    | told => simp only [SF.val, SF.vv, Rep]
    | line =>
      simp only [SF.val, SF.vv, Rep]
      exact ⟨q, _, rfl, h6, h7, Reps.ofInts line⟩
  · exact p.elim
/-- one's own places are not those of data -/
theorem Rel.apart {fr : Frm} {O : Nat → List Addr} {σ : L2.St} {H : Hp} {ρ : Env'} {i : Nat} {a d : Addr} (h1 : O i = [a, d]) {p : Addr} (np : ¬ Av fr O p) : p ≠ a ∧ p ≠ d :=
  ⟨fun z => np (.inr ⟨i, by rw [z, h1]; simp⟩), fun z => np (.inr ⟨i, by rw [z, h1]; simp⟩)⟩
theorem sns_setLine {i : Nat} (T : ScOk K cc.sc) (he : SndE cc W te fe) : SndS cc W (sFld K (tVar i) te "line") (dSetLine i fe) := fun fr O σ H ρ D R p => by
  unfold dSetLine at p
  refine he fr O σ H ρ _ R (PostS.of p fun v ρ1 O1 H1 R1 m1 p1 y hy => ?_)
  split at p1
  · rename_i b g l line told ds e
    obtain ⟨a, d, h1, h2, h3, h4, q, h5, h6, h7⟩ := R1.slot i _ e
    split at p1
    · rename_i ns en
      simp only [Rep] at hy
      obtain ⟨r, vs, rfl, nr, hr, hs⟩ := hy
      rw [intsOf_eq en] at hs
      have hvs := hs.ints
      subst hvs
      refine ⟨.ref a, h3, a, cc.sc, d, _, rfl, h5, T.cl, T.no .line, (by show 4 < 1000; decide), ?_⟩
      rw [putF_line]
      have ad : d ≠ a := fun z => by
        rw [z, h5] at h4; cases h4
      obtain ⟨x1, x2⟩ := R1.streamed (line' := ns) (told' := told) (H' := upd H1 a (.ins cc.sc d (sFs g l r told))) e h1 (fun x o n1 _ z => by rw [upd_ne n1]; exact z)
        ⟨by rw [upd_ne ad]; exact h4, r, upd_same, nr, by rw [upd_ne (Rel.apart (σ := σ) (H := H1) (ρ := ρ1) h1 nr).1]; exact hr⟩
      exact p1 _ _ _ x1 x2
    · exact p1.elim
  · exact p1.elim
theorem sns_setTold {i : Nat} (T : ScOk K cc.sc) (he : SndE cc W te fe) : SndS cc W (sFld K (tVar i) te "told") (dSetTold i fe) := fun fr O σ H ρ D R p => by
  unfold dSetTold at p
  refine he fr O σ H ρ _ R (PostS.of p fun v ρ1 O1 H1 R1 m1 p1 y hy => ?_)
  split at p1
  · rename_i b g l line told n e
    obtain ⟨a, d, h1, h2, h3, h4, q, h5, h6, h7⟩ := R1.slot i _ e
    simp only [Rep] at hy
    subst hy
    refine ⟨.ref a, h3, a, cc.sc, d, _, rfl, h5, T.cl, T.no .told, (by show 4 < 1000; decide), ?_⟩
    rw [putF_told]
    have ad : d ≠ a := fun z => by
      rw [z, h5] at h4; cases h4
    obtain ⟨x1, x2⟩ := R1.streamed (line' := line) (told' := n) (H' := upd H1 a (.ins cc.sc d (sFs g l q n))) e h1 (fun x o n1 _ z => by rw [upd_ne n1]; exact z)
      ⟨by rw [upd_ne ad]; exact h4, q, upd_same, h6, by rw [upd_ne (Rel.apart (σ := σ) (H := H1) (ρ := ρ1) h1 h6).1]; exact h7⟩
    exact p1 _ _ _ x1 x2
  · exact p1.elim
theorem sns_augTold {i : Nat} (T : ScOk K cc.sc) (he : SndE cc W te fe) : SndS cc W (sFldAug K (tVar i) te rAdd "told") (dAugTold i fe) := fun fr O σ H ρ D R p => by
  unfold dAugTold at p
  split at p
  · rename_i b0 g0 l0 line0 t0 e0
    obtain ⟨a0, d0, k1, k2, k3, k4, q0, k5, k6, k7⟩ := R.slot i _ e0
    refine ⟨.ref a0, k3, a0, cc.sc, d0, _, .int t0, rfl, k5, T.cl, T.no .told, sFs_get .told, he fr O σ H ρ _ R (PostS.of p fun v ρ1 O1 H1 R1 m1 p1 y hy => ?_)⟩
    split at p1
    · rename_i b g l line told n e
      obtain ⟨a, d, h1, h2, h3, h4, q, h5, h6, h7⟩ := R1.slot i _ e
      have ea : a0 = a := by
        rw [k3] at h3
        cases h3
        rfl
      subst ea
      simp only [Rep] at hy
      subst hy
      refine ⟨t0, n, rfl, rfl, d, _, h5, (by show 4 < 1000; decide), ?_⟩
      rw [putF_told]
      have ad : d ≠ a0 := fun z => by
        rw [z, h5] at h4; cases h4
      obtain ⟨x1, x2⟩ := R1.streamed (line' := line) (told' := t0 + n) (H' := upd H1 a0 (.ins cc.sc d (sFs g l q (t0 + n)))) e h1 (fun x o n1 _ z => by rw [upd_ne n1]; exact z)
        ⟨by rw [upd_ne ad]; exact h4, q, upd_same, h6, by rw [upd_ne (Rel.apart (σ := σ) (H := H1) (ρ := ρ1) h1 h6).1]; exact h7⟩
      exact p1 _ _ _ x1 x2
    · exact p1.elim
  · exact p.elim
end

/-! ### functions of a stream: it is the parameter j -/
inductive StO where
  | ok (d : D) (line : List Int) (told : Int)
  | er (k : EK) (line : List Int) (told : Int)
  | st
abbrev StFn := Int → Int → List Int → Int → List D → StO
def StO.at (o : StO) (i : Nat) (b : Bool) (g l : Int) (ρ : Env') : Res D := match o with
  | .ok d line told => .ok d (ρ.set i (.stm b g l line told))
  | .er k line told => .er k (ρ.set i (.stm b g l line told))
  | .st => .st
/-- o.m(..), and f(o, ..) -/
def dMeth (P : StFn) (i : Nat) (fs : Den (List D)) : Den D := fun ρ => match ρ[i]? with
  | some (.stm _ _ _ _ _) => (fs ρ).bind fun ds ρ1 => match ρ1[i]? with
    | some (.stm b g l line told) => (P g l line told ds).at i b g l ρ1
    | _ => .st
  | _ => .st
/-- f(e, o, ..) -/
def dMeth1 (P : StFn) (i : Nat) (f : Den D) (fs : Den (List D)) : Den D := fun ρ => (f ρ).bind fun d0 ρ0 => match ρ0[i]? with
  | some (.stm _ _ _ _ _) => (fs ρ0).bind fun ds ρ1 => match ρ1[i]? with
    | some (.stm b g l line told) => (P g l line told (d0 :: ds)).at i b g l ρ1
    | _ => .st
  | _ => .st
/-- len(o) -/
def dLenM (P : StFn) (i : Nat) : Den D := fun ρ => match ρ[i]? with
  | some (.stm b g l line told) => (match P g l line told [] with
    | .ok (.int n) line' told' => if 0 ≤ n ∧ n < 2 ^ 63 then .ok (.int n) (ρ.set i (.stm b g l line' told')) else .st
    | _ => .st)
  | _ => .st
def spS (cc : Cc) (j : Nat) (P : StFn) : Sp := fun vs H Q E => ∃ (Z : Addr → Prop) (a d : Addr) (g l : Int) (line : List Int) (told : Int) (us : List V) (ds : List D), vs = us.take j ++ .ref a :: us.drop j ∧ j ≤ us.length ∧
  (∀ x, Z x → H x ≠ none) ∧ Z a ∧ Z d ∧ StmAt cc H Z a d g l line told ∧ Reps H Z ds us ∧ (match P g l line told ds with
    | .ok r line' told' => ∀ v H', (∀ x o, x ≠ a → x ≠ d → H x = some o → H' x = some o) → StmAt cc H' Z a d g l line' told' → Rep H' Z r v → Q v H'
    | .er k line' told' => ∀ H', (∀ x o, x ≠ a → x ≠ d → H x = some o → H' x = some o) → StmAt cc H' Z a d g l line' told' → E (.ref (cc.cl k)) none H'
    | .st => False)
section
variable {cc : Cc} {W : WX} {fr : Frm} {O : Nat → List Addr} {σ : L2.St} {H : Hp} {ρ : Env'}
theorem spS_of {P : StFn} {i j : Nat} {b : Bool} {g l : Int} {line : List Int} {told : Int} {a : Addr} {ds : List D} {us vs : List V} {Q : VK} (R : Rel cc fr O σ H ρ) (e : ρ[i]? = some (.stm b g l line told)) (ha : σ[i]? = some (some (.ref a)))
    (hu : Reps H (Av fr O) ds us) (hj : j ≤ us.length) (hv : vs = us.take j ++ .ref a :: us.drop j) (p : Post cc W fr O σ H ((P g l line told ds).at i b g l ρ) (PE' fr Q)) : spS cc j P vs H Q (WE W σ) := by
  obtain ⟨a', d, h1, h2, h3, h4⟩ := R.slot i _ e
  rw [ha] at h3
  cases h3
  refine ⟨Av fr O, a, d, g, l, line, told, us, ds, hv, hj, fun x hx => R.zH hx, .inr ⟨i, by rw [h1]; simp⟩, .inr ⟨i, by rw [h1]; simp⟩, h4, hu, ?_⟩
  cases eq : P g l line told ds with
  | st => rw [eq] at p; exact p.elim
  | ok r line' told' =>
    rw [eq] at p
    intro v H' hk hs hr
    obtain ⟨x1, x2⟩ := R.streamed e h1 hk hs
    exact p O H' x1 x2 v hr
  | er k line' told' =>
    rw [eq] at p
    intro H' hk hs
    obtain ⟨x1, x2⟩ := R.streamed e h1 hk hs
    exact p O H' x1 x2
end
/-- o.m(..) of an instance, what is wanted of an error may look at the slots -/
def tMthE (C : Addr) (m : Str) (sp : Sp) (E : L2.St → XK) (to : TE) (t : TA) : TE := fun σ H Q => to σ H fun x H1 =>
  ∃ a dx fs, x = .ref a ∧ H1 a = some (.ins C dx fs) ∧ fs.lookup m = none ∧ t σ H1 fun vs H2 => sp (x :: vs) H2 Q (E σ)
section
variable {X : Cx} {CX : CXT} {k : Nat} {f C : Addr} {fd : FuncData} {ps : List Str} {sp : Sp} {E : L2.St → XK} {m : Str} {pos apos : Pos} {e o : Expr} {es : List Expr} {to : TE} {t : TA}
theorem pe_mthE {pl : Sem Bool} (ho : PE X o to) (c : Cls X.K C) (hm : Meth X.K C m f) (F : FnOk X.prog X.w X.K X.mg X.base CX k f fd ps sp) (hr : Room k X.A) (hb : Binds X.K fd ps []) (hx : ∀ σ, PassesAt CX X σ (E σ)) (ha : PA X (e :: es) t)
    (hst : starEach (e :: es) X.env = (false, eval e X.env) :: starEach es X.env := by rfl) (hpl : (backTo pos (starEach es X.env)).any (·.1) = false := by rfl)
    (ht : eval (.Call (.Attribute o m apos) (e :: es) [] pos) X.env = (do let ov ← eval o X.env; standAt apos.atName; let (f, first) ← holding [ov] (getMethod ov m pl); callWith pos f first (backTo pos (starEach (e :: es) X.env)) (backToKw pos (keywordEach [] X.env))) := by rfl) :
    PE X (.Call (.Attribute o m apos) (e :: es) [] pos) (tMthE C m sp E to t) :=
  ⟨fun pins s σ H Q I h => PySem.W.methodCall_KW (pl := pl) (thn (ho.run pins s σ H _ I h) fun u s1 ⟨x, H1, I1, rx, a, dx, fs, ex, ea, l, q⟩ => by
    cases ex
    cases (show u = Value.ref a from rx)
    exact getmeth_ok I1 ea c hm l (PySem.W.callWith_K (first := [.ref a]) (h₀ := X.base) I.ok.mod.kin hm.kp (thn (ha.run pos pins s1 σ H1 _ I1 q) fun us s2 ⟨vs, H2, I2, r, q2⟩ => ⟨I2.kIn, run_fnS (us := .ref a :: us) (vs := .ref a :: vs) F hr hb (hx σ) I2 (.cons rfl r) q2⟩) hst hpl)) ht⟩
theorem pe_mthE0 {pl : Sem Bool} (ho : PE X o to) (c : Cls X.K C) (hm : Meth X.K C m f) (F : FnOk X.prog X.w X.K X.mg X.base CX k f fd ps sp) (hr : Room k X.A) (hb : Binds X.K fd ps []) (hx : ∀ σ, PassesAt CX X σ (E σ))
    (ht : eval (.Call (.Attribute o m apos) [] [] pos) X.env = (do let ov ← eval o X.env; standAt apos.atName; let (f, first) ← holding [ov] (getMethod ov m pl); callWith pos f first (backTo pos (starEach [] X.env)) (backToKw pos (keywordEach [] X.env))) := by rfl) :
    PE X (.Call (.Attribute o m apos) [] [] pos) (tMthE C m sp E to tNil) :=
  ⟨fun pins s σ H Q I h => PySem.W.methodCall_KW (pl := pl) (thn (ho.run pins s σ H _ I h) fun u s1 ⟨x, H1, I1, rx, a, dx, fs, ex, ea, l, q⟩ => by
    cases ex
    cases (show u = Value.ref a from rx)
    exact getmeth_ok I1 ea c hm l (PySem.W.callWith_K0 (first := [.ref a]) I1.kIn hm.kp (run_fnS (us := [.ref a]) (vs := [.ref a]) F hr hb (hx σ) I1 (.cons rfl .nil) q))) ht⟩
/-- len(o), by the class's own def -/
def rLenM (C : Addr) (sp : Sp) : List V → Hp → VK → Prop := fun xs H Q => ∃ a dx fs, xs = [.ref a] ∧ H a = some (.ins C dx fs) ∧ sp [.ref a] H (fun v H' => ∃ n : Int, v = .int n ∧ 0 ≤ n ∧ n < 2 ^ 63 ∧ Q (.int n) H') E0
theorem cr_lenM (hm : Meth X.K C "__len__" f) (F : FnOk X.prog X.w X.K X.mg X.base (L2.CX X.prog X.w) k f fd ps sp) (hr : Room (k + 1) X.A) (hb : Binds X.K fd ps []) : CallR X (.builtin "len") (rLenM C sp) := fun pins s σ H xs us Q I r ⟨a, dx, fs, ex, ea, q⟩ => by
  subst ex
  have hl := r.length
  match us, hl, r with
  | [u], _, r =>
    obtain ⟨r1, _⟩ := (show RelV (.ref a) u ∧ Vals [] [] from by cases r with | cons r1 r2 => exact ⟨r1, .nil⟩)
    cases (show u = Value.ref a from r1)
    obtain ⟨mA, Ob, _, _, _, _⟩ := ins_get I.hok ea
    obtain ⟨od, J, _⟩ := Ob.look
    obtain ⟨mm, Fm⟩ := I.fr
    have hl1 : ([.ref a] : List Value).length = ps.length := F.len _ _ _ _ q
    have b := hb s [.ref a] I.kIn (by rw [List.append_nil]; exact hl1)
    rw [List.append_nil] at b
    refine PySem.W.len_K Fm I.mod.kin J hm.at_ hm.fn (wpAny_call (codeAny_mono (F.run X.A.in1 X.stack s H ⟨[.ref a], []⟩ [.ref a] [.ref a] _ E0 hr.in1 I.env0.in1 b (.cons rfl .nil) q) fun r s' hq => ?_))
    cases r with
    | error e => exact (passL pins σ H s e s' I hq)
    | ok fl =>
      cases fl with
      | ret u =>
        obtain ⟨v, H', I', rv, n, rfl, h0, h1, q'⟩ := I.after hq
        obtain ⟨t, rfl⟩ := (show ∃ t, u = Value.int n t from rv)
        exact ⟨⟨h0, h1⟩, .int n, H', I'.tok _, ⟨_, rfl⟩, q'⟩
      | next => exact hq.elim
      | brk => exact hq.elim
      | cont => exact hq.elim
end
section
variable {cc : Cc} {W : WX} {tl : TA} {t0 : TE} {f0 : Den D} {fs : Den (List D)}
theorem snd_meth {P : StFn} {i : Nat} {m : Str} (hn : ∀ {g l : Int} {p : Addr} {told : Int}, (sFs g l p told).lookup m = none) (hl : SndL cc W tl fs) : SndE cc W (tMthE cc.sc m (spS cc 0 P) (WE W) (tVar i) tl) (dMeth P i fs) := fun fr O σ H ρ Q R p => by
  unfold dMeth at p
  split at p
  · rename_i b0 g0 l0 line0 told0 e0
    obtain ⟨a, d, h1, h2, h3, h4, q, h5, h6⟩ := R.slot i _ e0
    refine ⟨.ref a, h3, a, d, _, rfl, h5, hn, hl fr O σ H ρ _ R (Post.bind p fun ds ρ1 O1 H1 R1 m1 p1 vs hvs => ?_)⟩
    split at p1
    · rename_i b g l line told e1
      exact spS_of R1 e1 h3 hvs (Nat.zero_le _) rfl p1
    · exact p1.elim
  · exact p.elim
theorem snd_callS0 {P : StFn} {i : Nat} (hl : SndL cc W tl fs) : SndE cc W (tCallS (spS cc 0 P) (WE W) (tCons (tVar i) tl)) (dMeth P i fs) := fun fr O σ H ρ Q R p => by
  unfold dMeth at p
  split at p
  · rename_i b0 g0 l0 line0 told0 e0
    obtain ⟨a, d, h1, h2, h3, h4, q, h5, h6⟩ := R.slot i _ e0
    refine ⟨.ref a, h3, hl fr O σ H ρ _ R (Post.bind p fun ds ρ1 O1 H1 R1 m1 p1 vs hvs => ?_)⟩
    split at p1
    · rename_i b g l line told e1
      exact spS_of R1 e1 h3 hvs (Nat.zero_le _) rfl p1
    · exact p1.elim
  · exact p.elim
theorem snd_callS1 {P : StFn} {i : Nat} (h0 : SndE cc W t0 f0) (hl : SndL cc W tl fs) : SndE cc W (tCallS (spS cc 1 P) (WE W) (tCons t0 (tCons (tVar i) tl))) (dMeth1 P i f0 fs) := fun fr O σ H ρ Q R p => by
  unfold dMeth1 at p
  refine h0 fr O σ H ρ _ R (Post.bind p fun d0 ρ0 O0 H0 R0 m0 p0 v0 hv0 => ?_)
  split at p0
  · rename_i b0 g0 l0 line0 told0 e0
    obtain ⟨a, d, h1, h2, h3, h4, q, h5, h6⟩ := R0.slot i _ e0
    refine ⟨.ref a, h3, hl fr O0 σ H0 ρ0 _ R0 (Post.bind p0 fun ds ρ1 O1 H1 R1 m1 p1 vs hvs => ?_)⟩
    split at p1
    · rename_i b g l line told e1
      exact spS_of (us := v0 :: vs) R1 e1 h3 (Reps.cons (m1.rep hv0) hvs) (by simp) rfl p1
    · exact p1.elim
  · exact p0.elim
theorem snd_lenM {P : StFn} {i : Nat} : SndE cc W (tCB (rLenM cc.sc (spS cc 0 P)) (tCons (tVar i) tNil)) (dLenM P i) := fun fr O σ H ρ Q R p => by
  unfold dLenM at p
  split at p
  · rename_i b g l line told e
    obtain ⟨a, d, h1, h2, h3, h4, q, h5, h6⟩ := R.slot i _ e
    refine ⟨.ref a, h3, a, d, _, rfl, h5, ?_⟩
    refine spS_of (W := fun _ _ _ _ => False) (i := i) (us := []) R e h3 Reps.nil (Nat.zero_le _) rfl ?_
    cases eq : P g l line told [] with
    | st => rw [eq] at p; exact p.elim
    | er k a b => rw [eq] at p; exact p.elim
    | ok r line' told' =>
      rw [eq] at p
      cases r with
      | int n =>
        dsimp only at p
        by_cases hc : 0 ≤ n ∧ n < 2 ^ 63
        · rw [if_pos hc] at p
          intro O' H' R' m' v hv
          simp only [Rep] at hv
          subst hv
          exact ⟨n, rfl, hc.1, hc.2, p O' H' R' m' _ (by simp only [Rep])⟩
        · rw [if_neg hc] at p; exact p.elim
      | _ => exact p.elim
  · exact p.elim
end
end GG

namespace GG
open PySem PySem.Spec PyProof.Rows L2

/-! ### a def of a stream by its body -/
def stmOf (g l : Int) : Option Slot → Option (List Int × Int)
  | some (.stm true g' l' line told) => if g' = g ∧ l' = l then some (line, told) else none
  | _ => none
theorem stmOf_eq {g l : Int} : ∀ {s : Option Slot} {line : List Int} {told : Int}, stmOf g l s = some (line, told) → s = some (.stm true g l line told)
  | some (.stm true g' l' line' told'), line, told, h => by
    have h : (if g' = g ∧ l' = l then some (line', told') else none) = some (line, told) := h
    by_cases hc : g' = g ∧ l' = l
    · rw [if_pos hc] at h
      cases h
      rw [hc.1, hc.2]
    · rw [if_neg hc] at h; cases h
  | none, _, _, h => nomatch h
  | some (.stm false _ _ _ _), _, _, h => nomatch h
  | some .emp, _, _, h => nomatch h
  | some (.val _), _, _, h => nomatch h
  | some (.own _), _, _, h => nomatch h
  | some (.drw _ _), _, _, h => nomatch h
  | some (.exc _), _, _, h => nomatch h
  | some (.dct _), _, _, h => nomatch h
theorem stmOf_it {g l : Int} {line : List Int} {told : Int} : stmOf g l (some (.stm true g l line told)) = some (line, told) := if_pos ⟨rfl, rfl⟩
def runS (j n m : Nat) (G : Den Fl) : StFn := fun g l line told ds => if ds.length = n ∧ j ≤ n then (match G ((ds.take j).map Slot.val ++ Slot.stm true g l line told :: ((ds.drop j).map Slot.val ++ List.replicate m Slot.emp)) with
  | Res.ok fl ρ' => (match stmOf g l ρ'[j]? with
    | some (line', told') => .ok (match fl with | .nx => .none | .rt d => d) line' told'
    | none => .st)
  | Res.er k ρ' => (match stmOf g l ρ'[j]? with
    | some (line', told') => .er k line' told'
    | none => .st)
  | Res.st => .st) else .st
theorem slots_val {cc : Cc} {fr : Frm} {H : Hp} {Z A : Addr → Prop} {ds : List D} {us : List V} {m i : Nat} {s : Slot} (hs : Reps H Z ds us) (k : ∀ x, A x → Z x) (h : (ds.map Slot.val ++ List.replicate m Slot.emp)[i]? = some s) : SlotOk cc fr H A [] ((us.map some ++ List.replicate m none)[i]?) s := by
  by_cases hl : i < ds.length
  · rw [List.getElem?_append_left (by simpa using hl), List.getElem?_map] at h
    rw [List.getElem?_append_left (by rw [List.length_map, hs.len]; exact hl), List.getElem?_map]
    rw [List.getElem?_eq_getElem hl] at h
    obtain ⟨v, h1, h2⟩ := hs.get (List.getElem?_eq_getElem hl)
    cases h
    exact ⟨rfl, v, by rw [h1]; rfl, Rep.mono (fun a o na e => ⟨e, fun z => na (k a z)⟩) _ v h2⟩
  · rw [List.getElem?_append_right (by simpa using hl), List.getElem?_replicate] at h
    split at h
    · cases h; rfl
    · cases h
theorem fn_stream {cc : Cc} {P : Program} {w : World} {K : PySem.W.Frag} {mg : Str → Option Value} {base : Heap} {x qual : Str} {st : Stmt} {f : Addr} {fd : FuncData} {N ps : List Str} {k n m : Nat} (j : Nat) {G : Den Fl} (F : Fun K x qual st f fd) (S : FnScope N ps (defScope st))
    (hn : ps.length = n + 1) (hm : N.length = n + 1 + m)
    (hbody : ∀ (cdv : Value) (A : Around) (outer : List Env) (s : Shared) (H : Hp) (E : XK), Room k (A.deeper (envOfC qual (defScope st) s.heap.objs.size f cdv)) →
      ∃ t, PSs (cxOf (L2.CX P w) P w K mg base N qual (defScope st) f cdv A outer s H E) (defBody st) t ∧ SndS cc (fun cls d _ H' => E cls d H') t G) :
    FnOk P w K mg base (L2.CX P w) (k + 1) f fd ps (spS cc j (runS j n m G)) := by
  refine F.okX S (fun vs H Q E h => ?_) (fun cdv A outer s H vs Q E hr h => ?_)
  · obtain ⟨Z, a, d, g, l, line, told, us, ds, rfl, hj, hz, _, _, _, hs, hp⟩ := h
    unfold runS at hp
    by_cases hd : ds.length = n ∧ j ≤ n
    · rw [hn]
      simp only [List.length_append, List.length_take, List.length_cons, List.length_drop, hs.len]
      omega
    · rw [if_neg hd] at hp; exact hp.elim
  · obtain ⟨Z, a, d, g, l, line, told, us, ds, rfl, hj, hz, za, zd, hst, hs, hp⟩ := h
    obtain ⟨t, ht, hg⟩ := hbody cdv A outer s H E hr
    refine ⟨t, ht, ?_⟩
    unfold runS at hp
    by_cases hd : ds.length = n ∧ j ≤ n
    · rw [if_pos hd] at hp
      have hul : us.length = n := by rw [hs.len]; exact hd.1
      have e : L2.start N (us.take j ++ .ref a :: us.drop j) = (us.take j).map some ++ some (.ref a) :: ((us.drop j).map some ++ List.replicate m none) := by
        unfold L2.start
        have e1 : N.length - (us.take j ++ V.ref a :: us.drop j).length = m := by
          rw [hm]
          simp only [List.length_append, List.length_take, List.length_cons, List.length_drop, hul]
          omega
        rw [e1]
        simp
      rw [e]
      let fr : Frm := ⟨Z, H, fun x => x = a ∨ x = d, 0, 0, a, d⟩
      let O : Nat → List Addr := fun i => if i = j then [a, d] else []
      have mO : ∀ i x, x ∈ O i → i = j ∧ (x = a ∨ x = d) := fun i x hx => by
        by_cases e : i = j
        · simp only [O, if_pos e] at hx
          refine ⟨e, ?_⟩
          rcases List.mem_cons.mp hx with z | z
          · exact .inl z
          · exact .inr (List.mem_singleton.mp z)
        · simp only [O, if_neg e] at hx; cases hx
      have avi : ∀ x, Av fr O x → Z x := fun x hx => by
        rcases hx with hx | ⟨i, hx⟩
        · exact hx
        · rcases (mO i x hx).2 with z | z
          · rw [z]; exact za
          · rw [z]; exact zd
      have lt : ((us.take j).map some).length = j := by simp [hul, hd.2]
      have ld : ((ds.take j).map Slot.val).length = j := by simp [hd.1, hd.2]
      have R : Rel cc fr O ((us.take j).map some ++ some (.ref a) :: ((us.drop j).map some ++ List.replicate m none)) H ((ds.take j).map Slot.val ++ Slot.stm true g l line told :: ((ds.drop j).map Slot.val ++ List.replicate m Slot.emp)) := by
        refine ⟨by simp [hs.len], hz, fun _ _ _ e => e, fun _ h => h, fun i x hx => ?_, fun i i' x hi hi' => ?_, fun i es hi x hx => ?_, fun i sl hi => ?_⟩
        · obtain ⟨_, z⟩ := mO i x hx
          refine ⟨.inr z, ?_⟩
          rcases z with z | z
          · rw [z]; exact hz _ za
          · rw [z]; exact hz _ zd
        · rw [(mO i x hi).1, (mO i' x hi').1]
        · obtain ⟨rfl, _⟩ := mO i x hx
          rw [List.getElem?_append_right (by rw [ld]; exact Nat.le_refl _), ld, Nat.sub_self] at hi
          cases hi
        · rcases Nat.lt_trichotomy i j with hlt | heq | hgt
          · rw [List.getElem?_append_left (by rw [ld]; exact hlt)] at hi
            rw [List.getElem?_append_left (by rw [lt]; exact hlt), show O i = [] from if_neg (by omega)]
            have := slots_val (cc := cc) (fr := fr) (m := 0) (hs.take j) avi (i := i) (s := sl) (by simpa using hi)
            simpa using this
          · subst heq
            rw [List.getElem?_append_right (by rw [ld]; exact Nat.le_refl _), ld, Nat.sub_self] at hi
            rw [List.getElem?_append_right (by rw [lt]; exact Nat.le_refl _), lt, Nat.sub_self, show O i = [a, d] from if_pos rfl]
            cases hi
            refine ⟨a, d, rfl, fun _ => ⟨rfl, rfl⟩, rfl, hst.1, ?_⟩
            obtain ⟨_, p, z1, z2, z3⟩ := hst
            exact ⟨p, z1, fun y => z2 (avi p y), z3⟩
          · rw [List.getElem?_append_right (by rw [ld]; omega), ld] at hi
            rw [List.getElem?_append_right (by rw [lt]; omega), lt, show O i = [] from if_neg (by omega)]
            obtain ⟨q, hq⟩ : ∃ q, i - j = q + 1 := ⟨i - j - 1, by omega⟩
            rw [hq, List.getElem?_cons_succ] at hi
            rw [hq, List.getElem?_cons_succ]
            exact slots_val (hs.drop j) avi hi
      refine hg fr O _ H _ _ R ?_
      have av : ∀ {O' : Nat → List Addr} {H' : Hp} {r : D} {v : V}, Rep H' (Av fr O') r v → Rep H' Z r v := fun {O' H' r v} h => Rep.mono (fun y o ny q => ⟨q, fun z => ny (.inl z)⟩) r v h
      have fin : ∀ {O' : Nat → List Addr} {σ' : L2.St} {H' : Hp} {ρ' : Env'} {g' l' : Int} {line' : List Int} {told' : Int}, Rel cc fr O' σ' H' ρ' → ρ'[j]? = some (.stm true g' l' line' told') →
          (∀ x o, x ≠ a → x ≠ d → H x = some o → H' x = some o) ∧ StmAt cc H' Z a d g' l' line' told' := fun {O' σ' H' ρ' g' l' line' told'} R' e0 => by
        obtain ⟨a', d', _, h2, _, h4, p, h5, h6, h7⟩ := R'.slot j _ e0
        obtain ⟨rfl, rfl⟩ := h2 rfl
        refine ⟨fun x o n1 n2 q => R'.frame x o (fun z => ?_) q, h4, p, h5, fun z => h6 (.inl z), h7⟩
        rcases z with z | z
        · exact n1 z
        · exact n2 z
      cases eg : G ((ds.take j).map Slot.val ++ Slot.stm true g l line told :: ((ds.drop j).map Slot.val ++ List.replicate m Slot.emp)) with
      | st => rw [eg] at hp; exact hp
      | er k ρ' =>
        rw [eg] at hp
        dsimp only at hp
        cases e0 : stmOf g l ρ'[j]? with
        | none => rw [e0] at hp; exact hp.elim
        | some lt =>
          obtain ⟨line', told'⟩ := lt
          rw [e0] at hp
          intro σ' O' H' R' _
          obtain ⟨a1, a2⟩ := fin R' (stmOf_eq e0)
          exact hp H' a1 a2
      | ok b ρ' =>
        rw [eg] at hp
        dsimp only at hp
        cases e0 : stmOf g l ρ'[j]? with
        | none => rw [e0] at hp; exact hp.elim
        | some lt =>
          obtain ⟨line', told'⟩ := lt
          rw [e0] at hp
          cases b with
          | nx =>
            intro σ' O' H' R' _
            obtain ⟨a1, a2⟩ := fin R' (stmOf_eq e0)
            exact hp .non H' a1 a2 (by simp only [Rep])
          | rt r =>
            intro σ' O' H' v R' _ hv
            obtain ⟨a1, a2⟩ := fin R' (stmOf_eq e0)
            exact hp v H' a1 a2 (av hv)
    · rw [if_neg hd] at hp; exact hp.elim

/-! ### a new stream -/
inductive IO where
  | ok (g l : Int)
  | er (k : EK)
  | st
def ini2 (P : PFn) (x y : D) : IO := match P [x] with
  | .ok _ => (match P [y] with
    | .ok _ => (match x, y with
      | .int g, .int l => .ok g l
      | _, _ => .st)
    | .er k => .er k
    | .st => .st)
  | .er k => .er k
  | .st => .st
def ini (P : PFn) : List D → IO
  | [x, y] => ini2 P x y
  | _ => .st
def spI (cc : Cc) (I : List D → IO) : Sp := fun vs H Q E => ∃ (Z : Addr → Prop) (a d : Addr) (us : List V) (ds : List D), vs = .ref a :: us ∧ d ≠ a ∧ (∀ x, Z x → H x ≠ none) ∧ Z a ∧ Z d ∧ H d = some (.own a) ∧ H a = some (.ins cc.sc d []) ∧ Reps H Z ds us ∧ (match I ds with
  | .ok g l => ∀ H', (∀ x o, x ≠ a → x ≠ d → H x = some o → H' x = some o) → StmAt cc H' Z a d g l [] 0 → Q .non H'
  | .er k => ∀ H', (∀ x o, x ≠ a → x ≠ d → H x = some o → H' x = some o) → E (.ref (cc.cl k)) none H'
  | .st => False)
/-- the body of __init__ -/
def t_init (K : PySem.W.Frag) (cc : Cc) (P : PFn) (E : XK) : TS := tSeq (tDrop (tCallS (spP cc P) (WE fun cls d _ H' => E cls d H') (tCons (tVar 1) tNil))) (tSeq (tDrop (tCallS (spP cc P) (WE fun cls d _ H' => E cls d H') (tCons (tVar 2) tNil)))
  (tSeq (sFld K (tVar 0) (tVar 1) "gap") (tSeq (sFld K (tVar 0) (tVar 2) "lateness") (tSeq (sFld K (tVar 0) (tLst tNil) "line") (sFld K (tVar 0) (tC (.int 0)) "told")))))
theorem len_init {cc : Cc} {P : PFn} {vs : List V} {H : Hp} {Q : VK} {E : XK} (h : spI cc (ini P) vs H Q E) : vs.length = 3 := by
  obtain ⟨Z, a, d, us, ds, rfl, _, _, _, _, _, _, hs, hp⟩ := h
  rw [List.length_cons, hs.len]
  match ds, hp with
  | [], hp => exact hp.elim
  | [_], hp => exact hp.elim
  | [_, _], _ => rfl
  | _ :: _ :: _ :: _, hp => exact hp.elim
theorem pure_init {cc : Cc} {K : PySem.W.Frag} {P : PFn} (T : ScOk K cc.sc) {vs : List V} {H : Hp} {Q : VK} {E : XK} {N : List Str} (hN : N.length = 3) (h : spI cc (ini P) vs H Q E) : t_init K cc P E { nx := fun _ H' => Q .non H', rt := Q } (L2.start N vs) H := by
  have hl := len_init h
  obtain ⟨Z, a, d, us, ds, rfl, hne, hz, za, zd, hd, ha, hs, hp⟩ := h
  match ds, hs, hp with
  | [], _, hp => exact hp.elim
  | [_], _, hp => exact hp.elim
  | _ :: _ :: _ :: _, _, hp => exact hp.elim
  | [x, y], hs, hp =>
    obtain ⟨v1, v2, rfl, h1, h2⟩ := reps2 hs
    have e : L2.start N [.ref a, v1, v2] = [some (.ref a), some v1, some v2] := by
      unfold L2.start
      rw [hN]
      rfl
    rw [e]
    have sa : ∀ {H' : Hp}, Same H H' → ∀ x o, x ≠ a → x ≠ d → H x = some o → H' x = some o := fun s x o _ _ q => s x o q
    refine ⟨v1, rfl, Z, [x], hz, Reps.cons h1 Reps.nil, ?_⟩
    have ei : ini P [x, y] = ini2 P x y := rfl
    rw [ei] at hp
    unfold ini2 at hp
    cases ex : P [x] with
    | st => rw [ex] at hp; exact hp.elim
    | er k => rw [ex] at hp; exact fun H' s' => hp H' (sa s')
    | ok r =>
      rw [ex] at hp
      intro _ H1 s1 _
      have keep1 : ∀ b o, ¬ Z b → H b = some o → H1 b = some o ∧ ¬ Z b := fun b o nb q => ⟨s1 b o q, nb⟩
      refine ⟨v2, rfl, Z, [y], fun b zb hb => ?_, Reps.cons (Rep.mono keep1 y v2 h2) Reps.nil, ?_⟩
      · cases q : H b with
        | none => exact hz b zb q
        | some o => rw [s1 b o q] at hb; cases hb
      dsimp only at hp
      cases ey : P [y] with
      | st => rw [ey] at hp; exact hp.elim
      | er k => rw [ey] at hp; exact fun H' s' => hp H' (sa (s1.trans s'))
      | ok r2 =>
        rw [ey] at hp
        intro _ H2 s2 _
        have s3 := s1.trans s2
        dsimp only at hp
        match x, y, hp, h1, h2 with
        | .int g, .int l, hp, h1, h2 =>
          simp only [Rep] at h1 h2
          subst h1 h2
          have ha2 := s3 a _ ha
          have hd2 := s3 d _ hd
          refine ⟨.int g, rfl, .ref a, rfl, a, cc.sc, d, _, rfl, ha2, T.cl, T.no .gap, (by decide), ?_⟩
          refine ⟨.int l, rfl, .ref a, rfl, a, cc.sc, d, _, rfl, upd_same, T.cl, T.no .late, (by show 1 < 1000; decide), ?_⟩
          refine ⟨Nat.zero_le _, fun p hp0 => ?_⟩
          have np : p ≠ a := fun z => by
            rw [z, upd_same] at hp0; cases hp0
          rw [upd_ne np, upd_ne np] at hp0
          have npd : d ≠ p := fun z => by
            rw [← z, hd2] at hp0; cases hp0
          refine ⟨.ref a, rfl, a, cc.sc, d, _, rfl, (by rw [upd_ne np.symm, upd_same]), T.cl, T.no .line, (by show 2 < 1000; decide), ?_⟩
          refine ⟨.ref a, rfl, a, cc.sc, d, _, rfl, upd_same, T.cl, T.no .told, (by show 3 < 1000; decide), ?_⟩
          refine hp _ (fun b o nb1 nb2 q => ?_) ⟨?_, p, ?_, fun z => ?_, ?_⟩
          · have q2 := s3 b o q
            have nbp : b ≠ p := fun z => by
              rw [z, hp0] at q2; cases q2
            rw [upd_ne nb1, upd_ne nb1, upd_ne nbp, upd_ne nb1, upd_ne nb1]
            exact q2
          · rw [upd_ne hne, upd_ne hne, upd_ne npd, upd_ne hne, upd_ne hne]
            exact hd2
          · rw [upd_same]
            exact congrArg (fun z => some (HO.ins cc.sc d z)) putF_all
          · cases q : H p with
            | none => exact hz p z q
            | some o => rw [s3 p o q] at hp0; cases hp0
          · rw [upd_ne np, upd_ne np, upd_same]
            rfl
end GG

namespace GG
open PySem PySem.Spec PyProof.Rows L2

/-! ### x = Stream(..) -/
def dNew (i : Nat) (I : List D → IO) (fs : Den (List D)) : Den Fl := fun ρ => (fs ρ).bind fun ds ρ1 => match I ds with
  | .ok g l => .ok .nx (ρ1.set i (.stm false g l [] 0))
  | .er k => .er k ρ1
  | .st => .st
/-- x, y, z = Stream(..), [], [] -/
def dNew3 (i j l : Nat) (I : List D → IO) (fs : Den (List D)) : Den Fl := fun ρ => (fs ρ).bind fun ds ρ1 => match I ds with
  | .ok g h => .ok .nx (((ρ1.set i (.stm false g h [] 0)).set j (.val (.list []))).set l (.val (.list [])))
  | .er k => .er k ρ1
  | .st => .st
section
variable {cc : Cc} {fr : Frm} {O : Nat → List Addr} {σ : L2.St} {H : Hp} {ρ : Env'}
theorem make_of {I : List D → IO} {ds : List D} {us : List V} {a d : Addr} {Q : VK} {E : XK} (R : Rel cc fr O σ H ρ) (hu : Reps H (Av fr O) ds us) (ha : H a = none) (hd : H d = none) (ne : d ≠ a)
    (h : match I ds with
      | .ok g l => ∀ H', Same H H' → StmAt cc H' (fun y => Av fr O y ∨ y = a ∨ y = d) a d g l [] 0 → Q (.ref a) H'
      | .er k => ∀ H', Same H H' → E (.ref (cc.cl k)) none H'
      | .st => False) : spI cc I (.ref a :: (us ++ [])) (upd (upd H d (.own a)) a (.ins cc.sc d [])) (fun v H2 => v = .non ∧ Q (.ref a) H2) E := by
  rw [List.append_nil]
  have s0 : Same H (upd (upd H d (.own a)) a (.ins cc.sc d [])) := fun b o e => by
    rw [upd_ne (ne_of_none e ha), upd_ne (ne_of_none e hd)]
    exact e
  have sm : ∀ {H' : Hp}, (∀ x o, x ≠ a → x ≠ d → upd (upd H d (.own a)) a (.ins cc.sc d []) x = some o → H' x = some o) → Same H H' := fun k b o e => k b o (ne_of_none e ha) (ne_of_none e hd) (s0 b o e)
  refine ⟨fun y => Av fr O y ∨ y = a ∨ y = d, a, d, us, ds, rfl, ne, fun y hy => ?_, .inr (.inl rfl), .inr (.inr rfl), by rw [upd_ne ne, upd_same], upd_same, Reps.mono (fun b o nb e => ⟨s0 b o e, fun z => ?_⟩) ds us hu, ?_⟩
  · rcases hy with hy | hy | hy
    · exact (Mv.new (O := O) s0).dom y (R.zH hy)
    · rw [hy, upd_same]; simp
    · rw [hy, upd_ne ne, upd_same]; simp
  · rcases z with z | z | z
    · exact nb z
    · rw [z, ha] at e; cases e
    · rw [z, hd] at e; cases e
  · cases ei : I ds with
    | st => rw [ei] at h; exact h
    | er k => rw [ei] at h; exact fun H' k => h H' (sm k)
    | ok g l => rw [ei] at h; exact fun H' k hs => ⟨rfl, h H' (sm k) hs⟩
end
section
variable {cc : Cc} {E : XK} {tl : TA} {fs : Den (List D)}
theorem sns_new {i : Nat} {I : List D → IO} (hl : SndL cc (fun cls d _ H' => E cls d H') tl fs) : SndS cc (fun cls d _ H' => E cls d H') (tAsg (tMake cc.sc (spI cc I) [] E tl) (gName i)) (dNew i I fs) := fun fr O σ H ρ D R p => by
  unfold dNew at p
  refine hl fr O σ H ρ _ R (PostS.of p fun ds ρ1 O1 H1 R1 m1 p1 vs hvs => ?_)
  intro a d ha hd ne
  refine make_of (I := I) (E := E) (Q := fun x H1 => gName i x σ H1 D.nx) R1 hvs ha hd ne ?_
  cases ei : I ds with
  | st => rw [ei] at p1; exact p1
  | er k => rw [ei] at p1; exact fun H' s => p1 σ O1 H' (R1.more s) (Mv.new s)
  | ok g l =>
    rw [ei] at p1
    intro H' s hs
    obtain ⟨x1, x2⟩ := R1.setStm (i := i) ha hd s hs
    exact p1 _ _ _ x1 x2
theorem sns_new3 {i j l : Nat} {I : List D → IO} (hl : SndL cc (fun cls d _ H' => E cls d H') tl fs) : SndS cc (fun cls d _ H' => E cls d H') (tPar3 i j l (tCons (tMake cc.sc (spI cc I) [] E tl) (tCons (tLst tNil) (tCons (tLst tNil) tNil)))) (dNew3 i j l I fs) := fun fr O σ H ρ D R p => by
  unfold dNew3 at p
  refine hl fr O σ H ρ _ R (PostS.of p fun ds ρ1 O1 H1 R1 m1 p1 vs hvs => ?_)
  intro a d ha hd ne
  refine make_of (I := I) (E := E) (Q := fun x H1 => tCons (tLst tNil) (tCons (tLst tNil) tNil) σ H1 fun xs H2 => (fun vs H1 => ∃ u v w, vs = [u, v, w] ∧ D.nx (((List.set σ i (some u)).set j (some v)).set l (some w)) H1) (x :: xs) H2) R1 hvs ha hd ne ?_
  cases ei : I ds with
  | st => rw [ei] at p1; exact p1
  | er k => rw [ei] at p1; exact fun H' s => p1 σ O1 H' (R1.more s) (Mv.new s)
  | ok g h =>
    rw [ei] at p1
    intro H2 s hs
    refine ⟨Nat.zero_le _, fun q hq => ⟨Nat.zero_le _, fun r hr => ?_⟩⟩
    have s1 : Same H2 (upd H2 q (.lst [])) := same_upd hq
    have s2 : Same (upd H2 q (.lst [])) (upd (upd H2 q (.lst [])) r (.lst [])) := same_upd hr
    have s3 := s1.trans s2
    have hs2 : StmAt cc (upd (upd H2 q (.lst [])) r (.lst [])) (fun y => Av fr O1 y ∨ y = a ∨ y = d) a d g h [] 0 := by
      obtain ⟨z1, y, z2, z3, z4⟩ := hs
      exact ⟨s3 d _ z1, y, s3 a _ z2, z3, s3 y _ z4⟩
    obtain ⟨x1, x2⟩ := R1.setStm (i := i) ha hd (s.trans s3) hs2
    have na : H2 a ≠ none := by
      obtain ⟨_, y, z2, _⟩ := hs
      rw [z2]; simp
    have nd : H2 d ≠ none := by rw [hs.1]; simp
    have fresh : ∀ y, H2 y = none → ¬ Av fr (on2 O1 i a d) y := fun y hy z => by
      rcases z with z | ⟨jj, z⟩
      · exact (Mv.new (O := O1) s).dom y (R1.zH (.inl z)) hy
      · rcases mem_on2 z with ⟨_, z | z⟩ | ⟨_, z⟩
        · rw [z] at hy; exact na hy
        · rw [z] at hy; exact nd hy
        · exact (Mv.new (O := O1) s).dom y (R1.zH (.inr ⟨jj, z⟩)) hy
    have nrq : r ≠ q := fun z => by
      rw [z, upd_same] at hr; cases hr
    have hr2 : H2 r = none := by rwa [upd_ne nrq] at hr
    have e1 : Rep (upd (upd H2 q (.lst [])) r (.lst [])) (Av fr (on2 O1 i a d)) (.list []) (.ref q) := by
      simp only [Rep]
      exact ⟨q, [], rfl, fresh q hq, by rw [upd_ne nrq.symm, upd_same], Reps.nil⟩
    have e2 : Rep (upd (upd H2 q (.lst [])) r (.lst [])) (Av fr (on2 O1 i a d)) (.list []) (.ref r) := by
      simp only [Rep]
      exact ⟨r, [], rfl, fresh r hr2, upd_same, Reps.nil⟩
    exact ⟨.ref a, .ref q, .ref r, rfl, p1 _ _ _ ((x1.set e1).set (mv_off.rep e2)) (x2.trans (mv_off.trans mv_off))⟩
end

/-! ### rules -/
/-- a method of the class -/
def Dm (K : PySem.W.Frag) (C : Addr) (m q : Str) (st : Stmt) : Prop := ∃ (f : Addr) (fd : FuncData), Fun K m q st f fd ∧ Meth K C m f
/-- the method m keeps C -/
def Fst (P : Program) (w : World) (K : PySem.W.Frag) (mg : Str → Option Value) (base : Heap) (cc : Cc) (m : Str) (k : Nat) (C : StFn) : Prop :=
  ∃ (f : Addr) (fd : FuncData) (ps : List Str), FnOk P w K mg base (L2.CX P w) k f fd ps (spS cc 0 C) ∧ Meth K cc.sc m f ∧ Binds K fd ps []
/-- the def x, its parameter j a stream -/
def Fsd (P : Program) (w : World) (K : PySem.W.Frag) (mg : Str → Option Value) (base : Heap) (cc : Cc) (j : Nat) (x : Str) (k : Nat) (C : StFn) : Prop :=
  ∃ (f : Addr) (fd : FuncData) (ps : List Str), FnOk P w K mg base (L2.CX P w) k f fd ps (spS cc j C) ∧ mg x = some (.ref f) ∧ PySem.W.keepIn K (.ref f) = true ∧ Binds K fd ps []
def Fi (P : Program) (w : World) (K : PySem.W.Frag) (mg : Str → Option Value) (base : Heap) (cc : Cc) (k : Nat) (I : List D → IO) : Prop :=
  ∃ (f : Addr) (fd : FuncData) (ps : List Str), FnOk P w K mg base (L2.CX P w) k f fd ps (spI cc I) ∧ Mk K cc.sc f ∧ Binds K fd ps [] ∧ mg "Stream" = some (.ref cc.sc)
theorem fst_of {P : Program} {w : World} {K : PySem.W.Frag} {mg : Str → Option Value} {base : Heap} {cc : Cc} {x q : Str} {st : Stmt} {N ps : List Str} {k : Nat} (n m : Nat) {G : Den Fl} (d : Dm K cc.sc x q st) (S : FnScope N ps (defScope st))
    (hn : ps.length = n + 1) (hm : N.length = n + 1 + m) (hb : ∀ (kV doc pm : Value) (an : Option Addr) (cdv ct : Value) (us : List Value), us.length = ps.length → bindArgs (PySem.W.fnOf x q (defArgs st) (defBody st) (defScope st) .none kV doc pm an cdv ct) ⟨us, []⟩ = pure (ps.zip us))
    (hbody : ∀ (f : Addr) (cdv : Value) (A : Around) (outer : List Env) (s : Shared) (H : Hp) (E : XK), Room k (A.deeper (envOfC q (defScope st) s.heap.objs.size f cdv)) →
      ∃ t, DSs (cxOf (L2.CX P w) P w K mg base N q (defScope st) f cdv A outer s H E) cc (fun cls d _ H' => E cls d H') (defBody st) t G) :
    Fst P w K mg base cc x (k + 1) (runS 0 n m G) := by
  obtain ⟨f, fd, F, hg⟩ := d
  refine ⟨f, fd, ps, fn_stream 0 F S hn hm fun cdv A outer s H E hr => ?_, hg, F.binds hb⟩
  obtain ⟨t, ht⟩ := hbody f cdv A outer s H E hr
  exact ⟨t, ht.p, ht.s⟩
theorem fsd_of {P : Program} {w : World} {K : PySem.W.Frag} {mg : Str → Option Value} {base : Heap} {cc : Cc} {x : Str} {st : Stmt} {N ps : List Str} {k : Nat} (j n m : Nat) {G : Den Fl} (d : Df K mg x st) (S : FnScope N ps (defScope st))
    (hn : ps.length = n + 1) (hm : N.length = n + 1 + m) (hb : ∀ (kV doc pm : Value) (an : Option Addr) (cdv ct : Value) (us : List Value), us.length = ps.length → bindArgs (PySem.W.fnOf x x (defArgs st) (defBody st) (defScope st) .none kV doc pm an cdv ct) ⟨us, []⟩ = pure (ps.zip us))
    (hbody : ∀ (f : Addr) (cdv : Value) (A : Around) (outer : List Env) (s : Shared) (H : Hp) (E : XK), Room k (A.deeper (envOfC x (defScope st) s.heap.objs.size f cdv)) →
      ∃ t, DSs (cxOf (L2.CX P w) P w K mg base N x (defScope st) f cdv A outer s H E) cc (fun cls d _ H' => E cls d H') (defBody st) t G) :
    Fsd P w K mg base cc j x (k + 1) (runS j n m G) := by
  obtain ⟨f, fd, F, hg⟩ := d
  refine ⟨f, fd, ps, fn_stream j F S hn hm fun cdv A outer s H E hr => ?_, hg, F.kp, F.binds hb⟩
  obtain ⟨t, ht⟩ := hbody f cdv A outer s H E hr
  exact ⟨t, ht.p, ht.s⟩
section
variable {X : Cx} {cc : Cc} {W : WX} {a b c e e0 : Expr} {te t0 : TE} {f f0 : Den D} {pos : Pos} {es : List Expr} {tl : TA} {fs : Den (List D)} {k j : Nat}
theorem de_fld (K : PySem.W.Frag) (i : Nat) (F : SF) {x : Str} {p : Pos} (T : ScOk K cc.sc) (hN : X.N[i]? = some x := by rfl) (hv : Vis X.env.scope x := by first | exact Or.inl rfl | exact Or.inr (Or.inl rfl) | exact Or.inr (Or.inr rfl)) (hd : (x == ("__debug__" : Str)) = false := by decide)
    (hcd : (x == ("__classdict__" : Str)) = false := by decide) (hb : attributeBase (.Name x p) F.nm X.env (eval (.Name x p) X.env) = eval (.Name x p) X.env := by rfl) (hK : X.K = K := by rfl) : DE X cc W (.Attribute (.Name x p) F.nm pos) (tFld K (tVar i) F.nm) (dFld i F) := by
  subst hK
  exact ⟨pe_fld (pe_var hN hv hd hcd) hb, snd_fld F T⟩
theorem ds_setLine (K : PySem.W.Frag) (i : Nat) {x : Str} {p p2 : Pos} (T : ScOk K cc.sc) (he : DE X cc W e te f) (hN : X.N[i]? = some x := by rfl) (hv : Vis X.env.scope x := by first | exact Or.inl rfl | exact Or.inr (Or.inl rfl) | exact Or.inr (Or.inr rfl)) (hd : (x == ("__debug__" : Str)) = false := by decide)
    (hcd : (x == ("__classdict__" : Str)) = false := by decide) (hs : swapsWith e (some (.Attribute (.Name x p) "line" p2)) pos.line X.env = pure false := by rfl) (hK : X.K = K := by rfl) : DS X cc W (.Assign [.Attribute (.Name x p) "line" p2] e pos) (sFld K (tVar i) te "line") (dSetLine i f) := by
  subst hK
  exact ⟨ps_fld (pe_var hN hv hd hcd) he.p hs, sns_setLine T he.s⟩
theorem ds_setTold (K : PySem.W.Frag) (i : Nat) {x : Str} {p p2 : Pos} (T : ScOk K cc.sc) (he : DE X cc W e te f) (hN : X.N[i]? = some x := by rfl) (hv : Vis X.env.scope x := by first | exact Or.inl rfl | exact Or.inr (Or.inl rfl) | exact Or.inr (Or.inr rfl)) (hd : (x == ("__debug__" : Str)) = false := by decide)
    (hcd : (x == ("__classdict__" : Str)) = false := by decide) (hs : swapsWith e (some (.Attribute (.Name x p) "told" p2)) pos.line X.env = pure false := by rfl) (hK : X.K = K := by rfl) : DS X cc W (.Assign [.Attribute (.Name x p) "told" p2] e pos) (sFld K (tVar i) te "told") (dSetTold i f) := by
  subst hK
  exact ⟨ps_fld (pe_var hN hv hd hcd) he.p hs, sns_setTold T he.s⟩
theorem ds_augTold (K : PySem.W.Frag) (i : Nat) {x : Str} {p p2 : Pos} (T : ScOk K cc.sc) (he : DE X cc W e te f) (hN : X.N[i]? = some x := by rfl) (hv : Vis X.env.scope x := by first | exact Or.inl rfl | exact Or.inr (Or.inl rfl) | exact Or.inr (Or.inr rfl)) (hd : (x == ("__debug__" : Str)) = false := by decide)
    (hcd : (x == ("__classdict__" : Str)) = false := by decide) (hK : X.K = K := by rfl) : DS X cc W (.AugAssign (.Attribute (.Name x p) "told" p2) .Add e pos) (sFldAug K (tVar i) te rAdd "told") (dAugTold i f) := by
  subst hK
  exact ⟨ps_fldaug (pe_var hN hv hd hcd) he.p in_add, sns_augTold T he.s⟩
theorem de_meth {pl : Sem Bool} (i : Nat) {x m : Str} {C : StFn} {p p2 : Pos} (T : Cls X.K cc.sc) (F : Fst X.prog X.w X.K X.mg X.base cc m j C) (hr : Room k X.A) (hj : j ≤ k) (tk : Takes X W) (ha : DA X cc W (e :: es) tl fs) (hN : X.N[i]? = some x := by rfl)
    (hv : Vis X.env.scope x := by first | exact Or.inl rfl | exact Or.inr (Or.inl rfl) | exact Or.inr (Or.inr rfl)) (hd : (x == ("__debug__" : Str)) = false := by decide) (hcd : (x == ("__classdict__" : Str)) = false := by decide)
    (h1 : (m == ("gap" : Str)) = false := by decide +kernel) (h2 : (m == ("lateness" : Str)) = false := by decide +kernel) (h3 : (m == ("line" : Str)) = false := by decide +kernel) (h4 : (m == ("told" : Str)) = false := by decide +kernel)
    (hst : starEach (e :: es) X.env = (false, eval e X.env) :: starEach es X.env := by rfl) (hpl : (backTo pos (starEach es X.env)).any (·.1) = false := by rfl)
    (ht : eval (.Call (.Attribute (.Name x p) m p2) (e :: es) [] pos) X.env = (do let ov ← eval (.Name x p) X.env; standAt p2.atName; let (f, first) ← holding [ov] (getMethod ov m pl); callWith pos f first (backTo pos (starEach (e :: es) X.env)) (backToKw pos (keywordEach [] X.env))) := by rfl) :
    DE X cc W (.Call (.Attribute (.Name x p) m p2) (e :: es) [] pos) (tMthE cc.sc m (spS cc 0 C) (WE W) (tVar i) tl) (dMeth C i fs) := by
  obtain ⟨g, fd, ps, F, hm, hb⟩ := F
  exact ⟨pe_mthE (pl := pl) (pe_var hN hv hd hcd) T hm F (hr.mono hj) hb (fun σ => passAt tk σ) ha.p hst hpl ht, snd_meth (sFs_no h1 h2 h3 h4) ha.s⟩
theorem de_meth0 {pl : Sem Bool} (i : Nat) {x m : Str} {C : StFn} {p p2 : Pos} (T : Cls X.K cc.sc) (F : Fst X.prog X.w X.K X.mg X.base cc m j C) (hr : Room k X.A) (hj : j ≤ k) (tk : Takes X W) (hN : X.N[i]? = some x := by rfl)
    (hv : Vis X.env.scope x := by first | exact Or.inl rfl | exact Or.inr (Or.inl rfl) | exact Or.inr (Or.inr rfl)) (hd : (x == ("__debug__" : Str)) = false := by decide) (hcd : (x == ("__classdict__" : Str)) = false := by decide)
    (h1 : (m == ("gap" : Str)) = false := by decide +kernel) (h2 : (m == ("lateness" : Str)) = false := by decide +kernel) (h3 : (m == ("line" : Str)) = false := by decide +kernel) (h4 : (m == ("told" : Str)) = false := by decide +kernel)
    (ht : eval (.Call (.Attribute (.Name x p) m p2) [] [] pos) X.env = (do let ov ← eval (.Name x p) X.env; standAt p2.atName; let (f, first) ← holding [ov] (getMethod ov m pl); callWith pos f first (backTo pos (starEach [] X.env)) (backToKw pos (keywordEach [] X.env))) := by rfl) :
    DE X cc W (.Call (.Attribute (.Name x p) m p2) [] [] pos) (tMthE cc.sc m (spS cc 0 C) (WE W) (tVar i) tNil) (dMeth C i dNil) := by
  obtain ⟨g, fd, ps, F, hm, hb⟩ := F
  exact ⟨pe_mthE0 (pl := pl) (pe_var hN hv hd hcd) T hm F (hr.mono hj) hb (fun σ => passAt tk σ) ht, snd_meth (sFs_no h1 h2 h3 h4) snd_nil⟩
theorem de_callS0 {x y : Str} {C : StFn} {p p2 : Pos} (i : Nat) (F : Fsd X.prog X.w X.K X.mg X.base cc 0 x j C) (hr : Room k X.A) (hj : j ≤ k) (tk : Takes X W) (ha : DA X cc W es tl fs) (hg : Gl X x := by rfl) (hdb : (x == ("__debug__" : Str)) = false := by decide)
    (hN : X.N[i]? = some y := by rfl) (hv : Vis X.env.scope y := by first | exact Or.inl rfl | exact Or.inr (Or.inl rfl) | exact Or.inr (Or.inr rfl)) (hd : (y == ("__debug__" : Str)) = false := by decide) (hcd : (y == ("__classdict__" : Str)) = false := by decide)
    (he : starEach (.Name y p2 :: es) X.env = (false, eval (.Name y p2) X.env) :: starEach es X.env := by rfl) (hpl : (backTo pos (starEach es X.env)).any (·.1) = false := by rfl) : DE X cc W (.Call (.Name x p) (.Name y p2 :: es) [] pos) (tCallS (spS cc 0 C) (WE W) (tCons (tVar i) tl)) (dMeth C i fs) := by
  obtain ⟨f, fd, ps, F, hm, hk, hb⟩ := F
  exact ⟨pe_callS F (hr.mono hj) hg hm hk hb (fun σ => passAt tk σ) (pa_cons (pe_var hN hv hd hcd) ha.p he) hdb he hpl, snd_callS0 ha.s⟩
theorem de_callS1 {x y : Str} {C : StFn} {p p2 : Pos} (i : Nat) (F : Fsd X.prog X.w X.K X.mg X.base cc 1 x j C) (hr : Room k X.A) (hj : j ≤ k) (tk : Takes X W) (h0 : DE X cc W e0 t0 f0) (ha : DA X cc W es tl fs) (hg : Gl X x := by rfl) (hdb : (x == ("__debug__" : Str)) = false := by decide)
    (hN : X.N[i]? = some y := by rfl) (hv : Vis X.env.scope y := by first | exact Or.inl rfl | exact Or.inr (Or.inl rfl) | exact Or.inr (Or.inr rfl)) (hd : (y == ("__debug__" : Str)) = false := by decide) (hcd : (y == ("__classdict__" : Str)) = false := by decide)
    (h1 : starEach (e0 :: .Name y p2 :: es) X.env = (false, eval e0 X.env) :: starEach (.Name y p2 :: es) X.env := by rfl)
    (he : starEach (.Name y p2 :: es) X.env = (false, eval (.Name y p2) X.env) :: starEach es X.env := by rfl) (hpl : (backTo pos (starEach (.Name y p2 :: es) X.env)).any (·.1) = false := by rfl) :
    DE X cc W (.Call (.Name x p) (e0 :: .Name y p2 :: es) [] pos) (tCallS (spS cc 1 C) (WE W) (tCons t0 (tCons (tVar i) tl))) (dMeth1 C i f0 fs) := by
  obtain ⟨f, fd, ps, F, hm, hk, hb⟩ := F
  exact ⟨pe_callS F (hr.mono hj) hg hm hk hb (fun σ => passAt tk σ) (pa_cons h0.p (pa_cons (pe_var hN hv hd hcd) ha.p he) h1) hdb h1 hpl, snd_callS1 h0.s ha.s⟩
theorem de_lenM (i : Nat) {y : Str} {C : StFn} {p p2 : Pos} (B : Bt X.mg) (F : Fst X.prog X.w X.K X.mg X.base cc "__len__" j C) (hr : Room k X.A) (hj : j + 1 ≤ k) (hg : Gl X "len" := by rfl)
    (hN : X.N[i]? = some y := by rfl) (hv : Vis X.env.scope y := by first | exact Or.inl rfl | exact Or.inr (Or.inl rfl) | exact Or.inr (Or.inr rfl)) (hd : (y == ("__debug__" : Str)) = false := by decide) (hcd : (y == ("__classdict__" : Str)) = false := by decide)
    (he : starEach [.Name y p2] X.env = [(false, eval (.Name y p2) X.env)] := by rfl) : DE X cc W (.Call (.Name "len" p) [.Name y p2] [] pos) (tCB (rLenM cc.sc (spS cc 0 C)) (tCons (tVar i) tNil)) (dLenM C i) := by
  obtain ⟨g, fd, ps, F, hm, hb⟩ := F
  exact ⟨pe_callB (cr_lenM hm F (hr.mono hj) hb) hg B.len bb_len (pa_cons (pe_var hN hv hd hcd) pa_nil he) (by decide) (by decide) he (by rfl), snd_lenM⟩
end
section
variable {X : Cx} {cc : Cc} {E : XK} {e : Expr} {pos : Pos} {es : List Expr} {tl : TA} {fs : Den (List D)} {k j : Nat} {I : List D → IO}
theorem pass_of (tk : Takes X (fun cls d _ H' => E cls d H')) : Passes (L2.CX X.prog X.w) X E := fun pins σ H s e s' I c => passAt tk σ pins H s e s' I c
theorem ds_new (i : Nat) {x : Str} {p p2 p3 : Pos} (F : Fi X.prog X.w X.K X.mg X.base cc j I) (hr : Room k X.A) (hj : j + 1 ≤ k) (tk : Takes X (fun cls d _ H' => E cls d H')) (hN : X.N.Nodup) (ha : DA X cc (fun cls d _ H' => E cls d H') (e :: es) tl fs) (hg : Gl X "Stream" := by rfl)
    (hx : Loc X.env.scope x := by first | exact Or.inl rfl | exact Or.inr rfl) (hi : X.N[i]? = some x := by rfl) (hs : swapsWith (.Call (.Name "Stream" p2) (e :: es) [] p3) (some (.Name x p)) pos.line X.env = pure false := by rfl)
    (hf : X.fn x = true ∨ X.env.scope.names.lookup x = some .local := by first | exact .inl rfl | exact .inr rfl) (he : starEach (e :: es) X.env = (false, eval e X.env) :: starEach es X.env := by rfl) (hpl : (backTo p3 (starEach es X.env)).any (·.1) = false := by rfl) :
    DS X cc (fun cls d _ H' => E cls d H') (.Assign [.Name x p] (.Call (.Name "Stream" p2) (e :: es) [] p3) pos) (tAsg (tMake cc.sc (spI cc I) [] E tl) (gName i)) (dNew i I fs) := by
  obtain ⟨g, fd, ps, F, M, hb, hm⟩ := F
  exact ⟨ps_set hN hi hx (pe_make M F (hr.mono hj) hg hm hb .nil (pass_of tk) ha.p (by decide) he hpl) hs hf, sns_new ha.s⟩
theorem ds_new3 (i j' l : Nat) {x y z : Str} {p p2 p3 px py pz pt pt2 : Pos} {kt k2 : Nat} (F : Fi X.prog X.w X.K X.mg X.base cc j I) (hr : Room k X.A) (hj : j + 1 ≤ k) (tk : Takes X (fun cls d _ H' => E cls d H')) (hN : X.N.Nodup) (hij : i ≠ j') (hil : i ≠ l) (hjl : j' ≠ l) (ha : DA X cc (fun cls d _ H' => E cls d H') (e :: es) tl fs) (hg : Gl X "Stream" := by rfl)
    (hx : X.env.scope.names.lookup x = some .local := by rfl) (hy : X.env.scope.names.lookup y = some .local := by rfl) (hz : X.env.scope.names.lookup z = some .local := by rfl)
    (hi : X.N[i]? = some x := by rfl) (hjn : X.N[j']? = some y := by rfl) (hl : X.N[l]? = some z := by rfl) (hc : X.calm = true := by rfl)
    (hw : swappedStores [.Tuple [.Name x px, .Name y py, .Name z pz] kt pt] (.Tuple [.Call (.Name "Stream" p2) (e :: es) [] p3, .List [] p, .List [] pos] k2 pt2) X.env = pure (some [x, y, z]) := by rfl) {pos' : Pos}
    (hs : swapsWithSole [.Tuple [.Name x px, .Name y py, .Name z pz] kt pt] (.Tuple [.Call (.Name "Stream" p2) (e :: es) [] p3, .List [] p, .List [] pos] k2 pt2) pos'.line X.env = pure false := by rfl)
    (he : starEach (e :: es) X.env = (false, eval e X.env) :: starEach es X.env := by rfl) (hpl : (backTo p3 (starEach es X.env)).any (·.1) = false := by rfl) :
    DS X cc (fun cls d _ H' => E cls d H') (.Assign [.Tuple [.Name x px, .Name y py, .Name z pz] kt pt] (.Tuple [.Call (.Name "Stream" p2) (e :: es) [] p3, .List [] p, .List [] pos] k2 pt2) pos')
      (tPar3 i j' l (tCons (tMake cc.sc (spI cc I) [] E tl) (tCons (tLst tNil) (tCons (tLst tNil) tNil)))) (dNew3 i j' l I fs) := by
  obtain ⟨g, fd, ps, F, M, hb, hm⟩ := F
  exact ⟨ps_par3 hc hN hi hjn hl hij hil hjl hx hy hz (pa_cons (pe_make M F (hr.mono hj) hg hm hb .nil (pass_of tk) ha.p (by decide) he hpl) (pa_cons (pe_lst pa_nil) (pa_cons (pe_lst pa_nil) pa_nil))) hw hs, sns_new3 ha.s⟩
end
end GG

namespace GG
open PySem PySem.Spec PyProof.Rows L2

/-! ### "..".join(e) -/
def strsOf : List D → Option (List Str)
  | [] => some []
  | .str s :: r => (strsOf r).map (s :: ·)
  | _ => none
theorem strsOf_eq : ∀ {ds : List D} {ys : List Str}, strsOf ds = some ys → ds = ys.map PyData.str
  | [], ys, h => by
    cases h
    rfl
  | .str s :: r, ys, h => by
    simp only [strsOf, Option.map_eq_some_iff] at h
    obtain ⟨zs, h1, rfl⟩ := h
    rw [strsOf_eq h1]
    rfl
  | .none :: _, _, h => nomatch h
  | .bool _ :: _, _, h => nomatch h
  | .int _ :: _, _, h => nomatch h
  | .list _ :: _, _, h => nomatch h
  | .tuple _ :: _, _, h => nomatch h
  | .dict _ :: _, _, h => nomatch h
theorem Reps.strs {H : Hp} {A : Addr → Prop} : ∀ {ys : List Str} {vs : List V}, Reps H A (ys.map PyData.str) vs → vs = ys.map V.str
  | [], vs, h => by
    simpa only [List.map_nil, Reps] using h
  | n :: ns, vs, h => by
    obtain ⟨v, r, rfl, h1, h2⟩ := Reps.uncons (d := .str n) (ds := ns.map PyData.str) h
    simp only [Rep] at h1
    subst h1
    rw [h2.strs]
    rfl
def gJoin (a : Str) : D → Option D
  | .list ds => (match strsOf ds with
    | some ys => if (ys.map (·.length)).sum + ys.length * a.length ≤ 16777216 then some (.str (Txt.join a ys)) else none
    | none => none)
  | _ => none
section
variable {X : Cx} {cc : Cc} {W : WX} {e : Expr} {te : TE} {f : Den D} {pos p p2 : Pos} {k : Nat}
theorem de_join (K : PySem.W.Frag) {a : Str} (he : DE X cc W e te f) (hs : starEach [e] X.env = [(false, eval e X.env)] := by rfl) (hb : attributeBase (.Constant (.str a) k p) "join" X.env (eval (.Constant (.str a) k p) X.env) = eval (.Constant (.str a) k p) X.env := by rfl) (hl : (p2.endLine == pos.line) = true := by rfl) (hK : X.K = K := by rfl) :
    DE X cc W (.Call (.Attribute (.Constant (.str a) k p) "join" p2) [e] [] pos) (tM1 (fun x xs H Q => ∃ a p, ∃ ys : List Str, x = .str a ∧ xs = [.ref p] ∧ (SqL K H p (ys.map V.str) ∨ SqT K H p (ys.map V.str)) ∧ (ys.map (·.length)).sum + ys.length * a.length ≤ 16777216 ∧ Q (.str (Txt.join a ys)) H) (tC (.str a)) te) (dB1 (gJoin a) f) := by
  subst hK
  refine ⟨pe_join pe_str he.p hs hb hl, fun fr O σ H ρ Q R q => ⟨⟨a, rfl⟩, he.s fr O σ H ρ _ R (Post.bind q fun d ρ1 O1 H1 R1 m1 q1 v hv => ?_)⟩⟩
  cases d with
  | list ds =>
    simp only [Rep] at hv
    obtain ⟨b, vs, rfl, na, ha, hv⟩ := hv
    simp only [gJoin] at q1
    cases e1 : strsOf ds with
    | none => rw [e1] at q1; exact q1.elim
    | some ys =>
      rw [e1] at q1
      dsimp only at q1
      rw [strsOf_eq e1] at hv
      have hvs := hv.strs
      subst hvs
      by_cases hc : (ys.map (·.length)).sum + ys.length * a.length ≤ 16777216
      · rw [if_pos hc] at q1
        exact ⟨a, b, ys, rfl, rfl, .inl (SqL.of ha), hc, Post.here q1 R1 _ (by simp only [Rep])⟩
      · rw [if_neg hc] at q1; exact q1.elim
  | _ => exact q1.elim
end

/-! ### results that nobody looks at -/
inductive UO where
  | ok
  | er (k : EK)
  | st
abbrev UFn := List D → UO
def spU (cc : Cc) (P : UFn) : Sp := fun vs H Q E => ∃ (Z : Addr → Prop) (ds : List D), (∀ x, Z x → H x ≠ none) ∧ Reps H Z ds vs ∧ (match P ds with
  | .ok => ∀ v H', Same H H' → Q v H'
  | .er k => ∀ H', Same H H' → E (.ref (cc.cl k)) none H'
  | .st => False)
def UO.at (o : UO) (ρ : Env') : Res Fl := match o with
  | .ok => .ok .nx ρ
  | .er k => .er k ρ
  | .st => .st
/-- f(..) as a statement -/
def dCallU (P : UFn) (fs : Den (List D)) : Den Fl := fun ρ => (fs ρ).bind fun ds ρ1 => (P ds).at ρ1
def PostU (cc : Cc) (W : WX) (fr : Frm) (O : Nat → List Addr) (H : Hp) (r : Res Fl) (D : Ends) : Prop := match r with
  | .ok .nx ρ' => ∀ σ' O' H', Rel cc fr O' σ' H' ρ' → Mv O H O' H' → D.nx σ' H'
  | .ok (.rt _) ρ' => ∀ σ' O' H' v, Rel cc fr O' σ' H' ρ' → Mv O H O' H' → D.rt v H'
  | .er k ρ' => ∀ σ' O' H', Rel cc fr O' σ' H' ρ' → Mv O H O' H' → W (.ref (cc.cl k)) none σ' H'
  | .st => False
def SndU (cc : Cc) (W : WX) (t : TS) (G : Den Fl) : Prop := ∀ (fr : Frm) (O : Nat → List Addr) (σ : L2.St) (H : Hp) (ρ : Env') (D : Ends), Rel cc fr O σ H ρ → PostU cc W fr O H (G ρ) D → t D σ H
/-- return Stream(..) -/
def dRetNew (I : List D → IO) (fs : Den (List D)) : Den Fl := fun ρ => (fs ρ).bind fun ds ρ1 => match I ds with
  | .ok _ _ => .ok (.rt .none) ρ1
  | .er k => .er k ρ1
  | .st => .st
section
variable {cc : Cc} {W : WX} {fr : Frm} {O O' : Nat → List Addr} {σ σ' : L2.St} {H H' : Hp} {ρ ρ' : Env'}
theorem PostU.toS {r : Res Fl} {D : Ends} (h : PostU cc W fr O H r D) : PostS cc W fr O H r D := by
  cases r with
  | ok b ρ2 =>
    cases b with
    | nx => exact h
    | rt d => exact fun σ2 O2 H2 v R2 m2 _ => h σ2 O2 H2 v R2 m2
  | er x ρ2 => exact h
  | st => exact h
theorem PostU.later {r : Res Fl} {D : Ends} (m : Mv O H O' H') (h : PostU cc W fr O H r D) : PostU cc W fr O' H' r D := by
  cases r with
  | ok b ρ2 =>
    cases b with
    | nx => exact fun σ2 O2 H2 R2 m2 => h σ2 O2 H2 R2 (m.trans m2)
    | rt d => exact fun σ2 O2 H2 v R2 m2 => h σ2 O2 H2 v R2 (m.trans m2)
  | er x ρ2 => exact fun σ2 O2 H2 R2 m2 => h σ2 O2 H2 R2 (m.trans m2)
  | st => exact h
theorem PostU.of {α : Type} {r : Res α} {g : α → Env' → Res Fl} {D : Ends} {P1 : α → (Nat → List Addr) → Hp → Prop} (h : PostU cc W fr O H (r.bind g) D)
    (k : ∀ a ρ1 O1 H1, Rel cc fr O1 σ H1 ρ1 → Mv O H O1 H1 → PostU cc W fr O1 H1 (g a ρ1) D → P1 a O1 H1) : Post cc W fr O σ H r P1 := by
  cases r with
  | ok a ρ1 => exact fun O1 H1 R1 m1 => k a ρ1 O1 H1 R1 m1 (PostU.later m1 (show PostU cc W fr O H (g a ρ1) D from h))
  | er x ρ1 => exact fun O1 H1 R1 m1 => h σ O1 H1 R1 m1
  | st => exact h
variable {t u : TS} {tt : TT} {g h : Den Fl} {c : Den Bool} {tl : TA} {fs : Den (List D)} {E : XK}
theorem snu_of (hs : SndS cc W t g) : SndU cc W t g := fun fr O σ H ρ D R p => hs fr O σ H ρ D R p.toS
theorem snu_seq (h1 : SndU cc W t g) (h2 : SndU cc W u h) : SndU cc W (tSeq t u) (dSeq g h) := fun fr O σ H ρ D R p => by
  refine h1 fr O σ H ρ _ R ?_
  unfold dSeq at p
  cases e : g ρ with
  | st => rw [e] at p; exact p
  | er k ρ1 => rw [e] at p; exact p
  | ok b ρ1 =>
    rw [e] at p
    cases b with
    | rt d => exact p
    | nx => exact fun σ1 O1 H1 R1 m1 => h2 fr O1 σ1 H1 ρ1 D R1 (PostU.later m1 p)
theorem snu_if (hc : SndT cc W tt c) (h1 : SndU cc W t g) (h2 : SndU cc W u h) : SndU cc W (tIfS tt t u) (dIfS c g h) := fun fr O σ H ρ D R p =>
  hc fr O σ H ρ _ R (PostU.of p fun b ρ1 O1 H1 R1 m1 p1 => by
    cases b with
    | true => exact h1 fr O1 σ H1 ρ1 D R1 p1
    | false => exact h2 fr O1 σ H1 ρ1 D R1 p1)
theorem snu_retNew {I : List D → IO} (hl : SndL cc (fun cls d _ H' => E cls d H') tl fs) : SndU cc (fun cls d _ H' => E cls d H') (tRet (tMake cc.sc (spI cc I) [] E tl)) (dRetNew I fs) := fun fr O σ H ρ D R p => by
  unfold dRetNew at p
  refine hl fr O σ H ρ _ R (PostU.of p fun ds ρ1 O1 H1 R1 m1 p1 vs hvs => ?_)
  intro a d ha hd ne
  refine make_of (I := I) (E := E) (Q := D.rt) R1 hvs ha hd ne ?_
  cases ei : I ds with
  | st => rw [ei] at p1; exact p1
  | er k => rw [ei] at p1; exact fun H' s => p1 σ O1 H' (R1.more s) (Mv.new s)
  | ok g l => rw [ei] at p1; exact fun H' s _ => p1 σ O1 H' (.ref a) (R1.more s) (Mv.new s)
theorem sns_callU {P : UFn} (hl : SndL cc W tl fs) : SndS cc W (tDrop (tCallS (spU cc P) (WE W) tl)) (dCallU P fs) := fun fr O σ H ρ D R p =>
  hl fr O σ H ρ _ R (PostS.of p fun ds ρ1 O1 H1 R1 m1 p1 vs hvs => by
    refine ⟨Av fr O1, ds, fun x hx => R1.zH hx, hvs, ?_⟩
    cases eq : P ds with
    | st => rw [eq] at p1; exact p1.elim
    | ok => rw [eq] at p1; exact fun v H' s' => p1 σ O1 H' (R1.more s') (Mv.new s')
    | er k => rw [eq] at p1; exact fun H' s' => p1 σ O1 H' (R1.more s') (Mv.new s'))
end
def runU (n m : Nat) (G : Den Fl) : UFn := fun ds => if ds.length = n then (match G (ds.map Slot.val ++ List.replicate m .emp) with
  | .ok _ _ => .ok
  | .er k _ => .er k
  | .st => .st) else .st
theorem fn_u {cc : Cc} {P : Program} {w : World} {K : PySem.W.Frag} {mg : Str → Option Value} {base : Heap} {x qual : Str} {st : Stmt} {f : Addr} {fd : FuncData} {N ps : List Str} {k n m : Nat} {G : Den Fl} (F : Fun K x qual st f fd) (S : FnScope N ps (defScope st))
    (hn : ps.length = n) (hm : N.length = n + m)
    (hbody : ∀ (cdv : Value) (A : Around) (outer : List Env) (s : Shared) (H : Hp) (E : XK), Room k (A.deeper (envOfC qual (defScope st) s.heap.objs.size f cdv)) →
      ∃ t, PSs (cxOf (L2.CX P w) P w K mg base N qual (defScope st) f cdv A outer s H E) (defBody st) t ∧ SndU cc (fun cls d _ H' => E cls d H') t G) :
    FnOk P w K mg base (L2.CX P w) (k + 1) f fd ps (spU cc (runU n m G)) := by
  refine F.okX S (fun vs H Q E h => ?_) (fun cdv A outer s H vs Q E hr h => ?_)
  · obtain ⟨Z, ds, hz, hs, hp⟩ := h
    unfold runU at hp
    by_cases hd : ds.length = n
    · rw [hs.len, hd, hn]
    · rw [if_neg hd] at hp; exact hp.elim
  · obtain ⟨Z, ds, hz, hs, hp⟩ := h
    obtain ⟨t, ht, hg⟩ := hbody cdv A outer s H E hr
    refine ⟨t, ht, ?_⟩
    unfold runU at hp
    by_cases hd : ds.length = n
    · rw [if_pos hd] at hp
      have e : L2.start N vs = vs.map some ++ List.replicate m none := by
        unfold L2.start
        rw [hm, hs.len, hd, Nat.add_sub_cancel_left]
      rw [e]
      refine hg _ _ _ H _ _ (rel_start (cc := cc) (m := m) hz hs 0 0 0 0) ?_
      cases eg : G (ds.map Slot.val ++ List.replicate m .emp) with
      | st => rw [eg] at hp; exact hp
      | er k ρ' => rw [eg] at hp; exact fun σ' O' H' R' _ => hp H' fun x o q => R'.frame x o (fun z => z) q
      | ok b ρ' =>
        rw [eg] at hp
        cases b with
        | nx => exact fun σ' O' H' R' _ => hp .non H' fun x o q => R'.frame x o (fun z => z) q
        | rt d => exact fun σ' O' H' v R' _ => hp v H' fun x o q => R'.frame x o (fun z => z) q
    · rw [if_neg hd] at hp; exact hp.elim
structure DU (X : Cx) (cc : Cc) (W : WX) (st : Stmt) (t : TS) (f : Den Fl) : Prop where
  p : PS X st t
  s : SndU cc W t f
structure DUs (X : Cx) (cc : Cc) (W : WX) (st : List Stmt) (t : TS) (f : Den Fl) : Prop where
  p : PSs X st t
  s : SndU cc W t f
def Fu (P : Program) (w : World) (K : PySem.W.Frag) (mg : Str → Option Value) (base : Heap) (cc : Cc) (x : Str) (k : Nat) (C : UFn) : Prop :=
  ∃ (f : Addr) (fd : FuncData) (ps : List Str), FnOk P w K mg base (L2.CX P w) k f fd ps (spU cc C) ∧ mg x = some (.ref f) ∧ PySem.W.keepIn K (.ref f) = true ∧ Binds K fd ps []
theorem fu_of {P : Program} {w : World} {K : PySem.W.Frag} {mg : Str → Option Value} {base : Heap} {cc : Cc} {x : Str} {st : Stmt} {N ps : List Str} {k : Nat} (n m : Nat) {G : Den Fl} (d : Df K mg x st) (S : FnScope N ps (defScope st))
    (hn : ps.length = n) (hm : N.length = n + m) (hb : ∀ (kV doc pm : Value) (an : Option Addr) (cdv ct : Value) (us : List Value), us.length = ps.length → bindArgs (PySem.W.fnOf x x (defArgs st) (defBody st) (defScope st) .none kV doc pm an cdv ct) ⟨us, []⟩ = pure (ps.zip us))
    (hbody : ∀ (f : Addr) (cdv : Value) (A : Around) (outer : List Env) (s : Shared) (H : Hp) (E : XK), Room k (A.deeper (envOfC x (defScope st) s.heap.objs.size f cdv)) →
      ∃ t, DUs (cxOf (L2.CX P w) P w K mg base N x (defScope st) f cdv A outer s H E) cc (fun cls d _ H' => E cls d H') (defBody st) t G) :
    Fu P w K mg base cc x (k + 1) (runU n m G) := by
  obtain ⟨f, fd, F, hg⟩ := d
  refine ⟨f, fd, ps, fn_u F S hn hm fun cdv A outer s H E hr => ?_, hg, F.kp, F.binds hb⟩
  obtain ⟨t, ht⟩ := hbody f cdv A outer s H E hr
  exact ⟨t, ht.p, ht.s⟩
section
variable {X : Cx} {cc : Cc} {W : WX} {e c : Expr} {pos p p2 : Pos} {es : List Expr} {tl : TA} {fs : Den (List D)} {k j : Nat} {E : XK} {I : List D → IO} {st : Stmt} {rest : List Stmt} {t u : TS} {G1 G2 : Den Fl} {tt : TT} {c1 : Den Bool} {A B : List Stmt}
theorem du_of (h : DS X cc W st t G1) : DU X cc W st t G1 := ⟨h.p, snu_of h.s⟩
theorem dus_nil : DUs X cc W [] tNext dSkip := ⟨pss_nil, snu_of sns_skip⟩
theorem dus_cons (h1 : DU X cc W st t G1) (h2 : DUs X cc W rest u G2) : DUs X cc W (st :: rest) (tSeq t u) (dSeq G1 G2) := ⟨pss_cons h1.p h2.p, snu_seq h1.s h2.s⟩
theorem dus_one (h1 : DU X cc W st t G1) : DUs X cc W [st] t G1 := ⟨pss_one h1.p, h1.s⟩
theorem du_if (hc : DT X cc W c tt c1) (h1 : DUs X cc W A t G1) (h2 : DUs X cc W B u G2) : DU X cc W (.If c A B pos) (tIfS tt t u) (dIfS c1 G1 G2) := ⟨ps_if hc.p h1.p h2.p, snu_if hc.s h1.s h2.s⟩
theorem du_retNew (F : Fi X.prog X.w X.K X.mg X.base cc j I) (hr : Room k X.A) (hj : j + 1 ≤ k) (tk : Takes X (fun cls d _ H' => E cls d H')) (ha : DA X cc (fun cls d _ H' => E cls d H') (e :: es) tl fs) (hg : Gl X "Stream" := by rfl)
    (he : starEach (e :: es) X.env = (false, eval e X.env) :: starEach es X.env := by rfl) (hpl : (backTo p2 (starEach es X.env)).any (·.1) = false := by rfl) :
    DU X cc (fun cls d _ H' => E cls d H') (.Return (some (.Call (.Name "Stream" p) (e :: es) [] p2)) pos) (tRet (tMake cc.sc (spI cc I) [] E tl)) (dRetNew I fs) := by
  obtain ⟨g, fd, ps, F, M, hb, hm⟩ := F
  exact ⟨ps_ret (pe_make M F (hr.mono hj) hg hm hb .nil (pass_of tk) ha.p (by decide) he hpl), snu_retNew ha.s⟩
theorem ds_callU {x : Str} {C : UFn} (F : Fu X.prog X.w X.K X.mg X.base cc x j C) (hr : Room k X.A) (hj : j ≤ k) (tk : Takes X W) (ha : DA X cc W (e :: es) tl fs) (hg : Gl X x := by rfl) (hdb : (x == ("__debug__" : Str)) = false := by decide)
    (he : starEach (e :: es) X.env = (false, eval e X.env) :: starEach es X.env := by rfl) (hpl : (backTo p2 (starEach es X.env)).any (·.1) = false := by rfl) (hs : swapsWith (.Call (.Name x p) (e :: es) [] p2) none pos.line X.env = pure false := by rfl) :
    DS X cc W (.Expr (.Call (.Name x p) (e :: es) [] p2) pos) (tDrop (tCallS (spU cc C) (WE W) tl)) (dCallU C fs) := by
  obtain ⟨f, fd, ps, F, hm, hk, hb⟩ := F
  exact ⟨ps_expr (pe_callS F (hr.mono hj) hg hm hk hb (fun σ => passAt tk σ) ha.p hdb he hpl) hs, sns_callU ha.s⟩
end
/-! ### f() -/
section
variable {X : Cx} {CX : CXT} {k j : Nat} {f : Addr} {fd : FuncData} {ps : List Str} {sp : Sp} {E : L2.St → XK} {x : Str} {p pos : Pos} {cc : Cc} {W : WX}
theorem pe_call0E (F : FnOk X.prog X.w X.K X.mg X.base CX k f fd ps sp) (hr : Room k X.A) (hg : Gl X x) (hm : X.mg x = some (.ref f)) (hk : PySem.W.keepIn X.K (.ref f) = true) (hb : Binds X.K fd ps []) (hx : ∀ σ, PassesAt CX X σ (E σ)) (hdb : (x == ("__debug__" : Str)) = false := by decide) :
    PE X (.Call (.Name x p) [] [] pos) (tCallS sp E tNil) := ⟨fun pins s σ H Q I h => wpAny_Call_Name_kw (ld_glob I hg hm (PySem.W.callWith_K0 I.kIn hk (run_fnS (us := []) (vs := []) F hr hb (hx σ) I .nil h)) hdb)⟩
theorem de_call0 {C : PFn} (F : Fp X.prog X.w X.K X.mg X.base cc x j C) (hr : Room k X.A) (hj : j ≤ k) (tk : Takes X W) (hg : Gl X x := by rfl) (hdb : (x == ("__debug__" : Str)) = false := by decide) : DE X cc W (.Call (.Name x p) [] [] pos) (tCallS (spP cc C) (WE W) tNil) (dCall C dNil) := by
  obtain ⟨f, fd, ps, F, hm, hk, hb⟩ := F
  exact ⟨pe_call0E F (hr.mono hj) hg hm hk hb (fun σ => passAt tk σ) hdb, snd_call snd_nil⟩
end
/-! ### (..) * n -/
def gMulT : D → D → Option D
  | .tuple xs, .int k => if xs ≠ [] ∧ 2 ≤ k ∧ k ≤ 1000 ∧ xs.length ≤ 1000 then some (.tuple (List.replicate k.toNat xs).flatten) else none
  | _, _ => none
theorem ok_timesT {K : PySem.W.Frag} : OkR2 (rRepT K) gMulT := fun H A x y dx dy d Q fr hx hy hg k => by
  cases dx <;> cases dy <;> simp only [gMulT] at hg <;> try (cases hg; done)
  rename_i xs i
  simp only [Rep] at hx hy
  split at hg
  · rename_i hl
    cases hg
    obtain ⟨a, vs, rfl, na, ha, hs⟩ := hx
    refine ⟨a, i, vs, rfl, hy, SqT.of ha, fun e => hl.1 (List.length_eq_zero_iff.mp (by rw [← hs.len, e]; rfl)), hl.2.1, hl.2.2.1, by rw [hs.len]; exact hl.2.2.2, fun p hp => k _ _ (same_upd hp) ?_⟩
    simp only [Rep]
    exact ⟨p, _, rfl, fr p hp, upd_same, reps_rep (Reps.mono (fun a o na e => ⟨same_upd hp a o e, na⟩) xs vs hs) _⟩
  · cases hg
theorem de_mulT (K : PySem.W.Frag) {X : Cx} {cc : Cc} {W : WX} {a b : Expr} {ta tb : TE} {f1 f2 : Den D} {pos : Pos} (ha : DE X cc W a ta f1) (hb : DE X cc W b tb f2) (hK : X.K = K := by rfl) : DE X cc W (.BinOp a .Mult b pos) (tOp (rRepT K) ta tb) (dB2 gMulT f1 f2) := by
  subst hK
  exact ⟨pe_op op_repT ha.p hb.p, snd_op ok_timesT ha.s hb.s⟩
end GG

namespace GG
open PySem PySem.Spec PyProof.Rows L2
/-- slots: 0 value 1 low 2 high -/
def G_is_int : Den Fl :=
  (dRet (dBo (dAnd (dTst (dB1 (gIsA .int) (dV 0))) (dAnd (dNot (dTst (dB1 (gIsA .bool) (dV 0)))) (dChain gLe gLe (dV 1) (dV 0) (dV 2))))))
def C_is_int : PFn := runP 3 0 G_is_int
/-- slots: 0 value 1 k 2 moment -/
def G_is_moments : Den Fl :=
  (dSeq (dIfS (dOr (dNot (dTst (dB1 (gIsA .list) (dV 0)))) (dNot (dChain gLe gLe (dC (.int 1)) (dBL gLen (dCons (dV 0) dNil)) (dC (.int 12))))) (dRet (dC (.bool false))) dSkip)
    (dSeq (dIfS (dNot (dTst (dBL gAll (dCons (dLc (dB1 asL (dV 0)) (.n 2) dYes (dCall C_is_int (dCons (dV 2) (dCons (dC (.int 0)) (dCons (dC (.int 999)) dNil)))) [2]) dNil)))) (dRet (dC (.bool false))) dSkip)
    (dRet (dBL gAll (dCons (dLc (dBL gRng1 (dCons (dB2 gSub (dBL gLen (dCons (dV 0) dNil)) (dC (.int 1))) dNil)) (.n 1) dYes (dB2 (bo gLe) (dB2 gIx (dV 0) (dV 1)) (dB2 gIx (dV 0) (dB2 gAdd (dV 1) (dC (.int 1))))) [1]) dNil)))))
def C_is_moments : PFn := runP 1 2 G_is_moments
/-- slots: 0 value -/
def G_check_moments : Den Fl :=
  (dIfS (dNot (dTst (dCall C_is_moments (dCons (dV 0) dNil)))) (dRaise .mo) dSkip)
def C_check_moments : PFn := runP 1 0 G_check_moments
/-- slots: 0 value -/
def G_check_gap : Den Fl :=
  (dIfS (dNot (dTst (dCall C_is_int (dCons (dV 0) (dCons (dC (.int 0)) (dCons (dC (.int 999)) dNil)))))) (dRaise .nu) dSkip)
def C_check_gap : PFn := runP 1 0 G_check_gap
/-- slots: 0 moments 1 value -/
def G_check_place : Den Fl :=
  (dIfS (dNot (dTst (dCall C_is_int (dCons (dV 1) (dCons (dC (.int 0)) (dCons (dB2 gSub (dBL gLen (dCons (dV 0) dNil)) (dC (.int 1))) dNil)))))) (dRaise .nu) dSkip)
def C_check_place : PFn := runP 2 0 G_check_place
/-- slots: 0 value 1 whole 2 group -/
def G_is_groups : Den Fl :=
  (dSeq (dIfS (dOr (dNot (dTst (dB1 (gIsA .list) (dV 0)))) (dTst (dB2 (bo gEq) (dV 0) (dBL gLstD dNil)))) (dRet (dC (.bool false))) dSkip)
    (dSeq (dIfS (dNot (dTst (dBL gAll (dCons (dLc (dB1 asL (dV 0)) (.n 2) dYes (dBo (dAnd (dTst (dB1 (gIsA .list) (dV 2))) (dTst (dB2 (bo gNe) (dV 2) (dBL gLstD dNil))))) [2]) dNil)))) (dRet (dC (.bool false))) dSkip)
    (dSeq (dAsg 1 (dBL gLstD dNil))
    (dSeq (dFor (dB1 asL (dV 0)) (.n 2) (dAsg 1 (dB2 gAdd (dV 1) (dV 2))))
    (dRet (dCall C_is_moments (dCons (dV 1) dNil)))))))
def C_is_groups : PFn := runP 1 2 G_is_groups
/-- slots: 0 moments 1 k -/
def G_steps_of : Den Fl :=
  (dRet (dLc (dBL gRng1 (dCons (dB2 gSub (dBL gLen (dCons (dV 0) dNil)) (dC (.int 1))) dNil)) (.n 1) dYes (dB2 gSub (dB2 gIx (dV 0) (dB2 gAdd (dV 1) (dC (.int 1)))) (dB2 gIx (dV 0) (dV 1))) [1]))
def C_steps_of : PFn := runP 1 1 G_steps_of
/-- slots: 0 moments 1 gap -/
def G_groups : Den Fl :=
  (dSeq (dExp (dCall C_check_moments (dCons (dV 0) dNil)))
    (dSeq (dExp (dCall C_check_gap (dCons (dV 1) dNil)))
    (dRet (dCall C_grouped (dCons (dV 0) (dCons (dV 1) dNil))))))
def C_groups : PFn := runP 2 0 G_groups
/-- slots: 0 moments 1 gap 2 step -/
def G_count_groups : Den Fl :=
  (dSeq (dExp (dCall C_check_moments (dCons (dV 0) dNil)))
    (dSeq (dExp (dCall C_check_gap (dCons (dV 1) dNil)))
    (dRet (dB2 gAdd (dC (.int 1)) (dBL gLen (dCons (dLc (dB1 asL (dCall C_steps_of (dCons (dV 0) dNil))) (.n 2) (dTst (dB2 (bo gGt) (dV 2) (dV 1))) (dV 2) [2]) dNil))))))
def C_count_groups : PFn := runP 2 1 G_count_groups
/-- slots: 0 moments 1 gap 2 place 3 first 4 last -/
def G_group_of : Den Fl :=
  (dSeq (dExp (dCall C_check_moments (dCons (dV 0) dNil)))
    (dSeq (dExp (dCall C_check_gap (dCons (dV 1) dNil)))
    (dSeq (dExp (dCall C_check_place (dCons (dV 0) (dCons (dV 2) dNil))))
    (dSeq (dPar [3, 4] (dCons (dV 2) (dCons (dV 2) dNil)))
    (dSeq (dWhile (dAnd (dTst (dB2 (bo gGt) (dV 3) (dC (.int 0)))) (dTst (dB2 (bo gLe) (dB2 gSub (dB2 gIx (dV 0) (dV 3)) (dB2 gIx (dV 0) (dB2 gSub (dV 3) (dC (.int 1))))) (dV 1)))) (dAug 3 (fun i j => i - j) (dC (.int 1))) 100)
    (dSeq (dWhile (dAnd (dTst (dB2 (bo gLt) (dV 4) (dB2 gSub (dBL gLen (dCons (dV 0) dNil)) (dC (.int 1))))) (dTst (dB2 (bo gLe) (dB2 gSub (dB2 gIx (dV 0) (dB2 gAdd (dV 4) (dC (.int 1)))) (dB2 gIx (dV 0) (dV 4))) (dV 1)))) (dAug 4 (fun i j => i + j) (dC (.int 1))) 100)
    (dRet (dBL gTupD (dCons (dV 3) (dCons (dV 4) dNil))))))))))
def C_group_of : PFn := runP 3 2 G_group_of
/-- slots: 0 moments 1 gap 2 group -/
def G_spans : Den Fl :=
  (dSeq (dExp (dCall C_check_moments (dCons (dV 0) dNil)))
    (dSeq (dExp (dCall C_check_gap (dCons (dV 1) dNil)))
    (dRet (dLc (dB1 asL (dCall C_grouped (dCons (dV 0) (dCons (dV 1) dNil)))) (.n 2) dYes (dBL gTupD (dCons (dB2 gIx (dV 2) (dC (.int 0))) (dCons (dB2 gIx (dV 2) (dB1 gNeg (dC (.int 1)))) (dCons (dBL gLen (dCons (dV 2) dNil)) dNil)))) [2]))))
def C_spans : PFn := runP 2 1 G_spans
/-- slots: 0 moments 1 gap 2 group -/
def G_longest_group : Den Fl :=
  (dSeq (dExp (dCall C_check_moments (dCons (dV 0) dNil)))
    (dSeq (dExp (dCall C_check_gap (dCons (dV 1) dNil)))
    (dRet (dBL gMax (dCons (dLc (dB1 asL (dCall C_grouped (dCons (dV 0) (dCons (dV 1) dNil)))) (.n 2) dYes (dB2 gSub (dB2 gIx (dV 2) (dB1 gNeg (dC (.int 1)))) (dB2 gIx (dV 2) (dC (.int 0)))) [2]) dNil)))))
def C_longest_group : PFn := runP 2 1 G_longest_group
/-- slots: 0 moments 1 gap 2 group -/
def G_covered : Den Fl :=
  (dSeq (dExp (dCall C_check_moments (dCons (dV 0) dNil)))
    (dSeq (dExp (dCall C_check_gap (dCons (dV 1) dNil)))
    (dRet (dBL gSum (dCons (dLc (dB1 asL (dCall C_grouped (dCons (dV 0) (dCons (dV 1) dNil)))) (.n 2) dYes (dB2 gSub (dB2 gIx (dV 2) (dB1 gNeg (dC (.int 1)))) (dB2 gIx (dV 2) (dC (.int 0)))) [2]) dNil)))))
def C_covered : PFn := runP 2 1 G_covered
/-- slots: 0 value -/
def G_check_groups : Den Fl :=
  (dIfS (dNot (dTst (dCall C_is_groups (dCons (dV 0) dNil)))) (dRaise .gr) dSkip)
def C_check_groups : PFn := runP 1 0 G_check_groups
/-- slots: 0 groups 1 found 2 group -/
def G_whole_of : Den Fl :=
  (dSeq (dOwn 1 dNil)
    (dSeq (dFor (dB1 asL (dV 0)) (.n 2) (dExt 1 (dV 2)))
    (dRet (dV 1))))
def C_whole_of : PFn := runP 1 2 G_whole_of
/-- slots: 0 groups -/
def G_moments_of : Den Fl :=
  (dSeq (dExp (dCall C_check_groups (dCons (dV 0) dNil)))
    (dRet (dCall C_whole_of (dCons (dV 0) dNil))))
def C_moments_of : PFn := runP 1 0 G_moments_of
/-- slots: 0 draws 1 choices -/
def G__law_pick : Den Fl :=
  (dRet (dB2 gIx (dV 1) (dCallD C__law_draw 0 (dCons (dBL gLen (dCons (dV 1) dNil)) dNil))))
def C__law_pick : SFn := runD 1 0 G__law_pick
/-- slots: 0 draws 1 most 2 wide 3 found 4 k -/
def G__law_moments : Den Fl :=
  (dSeq (dAsg 2 (dCallD C__law_pick 0 (dCons (dBL gLstD (dCons (dC (.int 2)) (dCons (dC (.int 4)) (dCons (dC (.int 9)) (dCons (dC (.int 60)) dNil))))) dNil)))
    (dSeq (dOwn 3 (dCons (dCallD C__law_draw 0 (dCons (dC (.int 20)) dNil)) dNil))
    (dSeq (dFor (dBL gRng1 (dCons (dCallD C__law_draw 0 (dCons (dV 1) dNil)) dNil)) (.n 4) (dApp 3 (dB2 gAdd (dIxV 3 (dB1 gNeg (dC (.int 1)))) (dCallD C__law_draw 0 (dCons (dV 2) dNil)))))
    (dRet (dV 3)))))
def C__law_moments : SFn := runD 1 3 G__law_moments
/-- slots: 0 draws 1 moments 2 some 3 k -/
def G__law_gap : Den Fl :=
  (dSeq (dAsg 2 (dB2 gAdd (dLc (dBL gRng1 (dCons (dB2 gSub (dBL gLen (dCons (dV 1) dNil)) (dC (.int 1))) dNil)) (.n 3) dYes (dB2 gSub (dB2 gIx (dV 1) (dB2 gAdd (dV 3) (dC (.int 1)))) (dB2 gIx (dV 1) (dV 3))) [3]) (dBL gLstD (dCons (dC (.int 0)) (dCons (dC (.int 2)) dNil)))))
    (dRet (dBL gMax (dCons (dC (.int 0)) (dCons (dB2 gSub (dB2 gAdd (dCallD C__law_pick 0 (dCons (dV 2) dNil)) (dCallD C__law_draw 0 (dCons (dC (.int 3)) dNil))) (dC (.int 1))) dNil)))))
def C__law_gap : SFn := runD 1 2 G__law_gap
/-- slots: 0 moments 1 gap 2 cuts 3 k 4 a 5 b -/
def G__law_groups : Den Fl :=
  (dSeq (dAsg 2 (dLc (dBL gRng2 (dCons (dC (.int 1)) (dCons (dBL gLen (dCons (dV 0) dNil)) dNil))) (.n 3) (dTst (dB2 (bo gGt) (dB2 gSub (dB2 gIx (dV 0) (dV 3)) (dB2 gIx (dV 0) (dB2 gSub (dV 3) (dC (.int 1))))) (dV 1))) (dV 3) [3]))
    (dRet (dLc (dBL gZip (dCons (dB2 gAdd (dBL gLstD (dCons (dC (.int 0)) dNil)) (dV 2)) (dCons (dB2 gAdd (dV 2) (dBL gLstD (dCons (dBL gLen (dCons (dV 0) dNil)) dNil))) dNil))) (.t [4, 5]) dYes (dSl (dV 0) (dP (dV 4)) (dP (dV 5))) [4, 5])))
def C__law_groups : PFn := runP 2 4 G__law_groups
/-- slots: 0 moments -/
def G_steps : Den Fl :=
  (dSeq (dExp (dCall C_check_moments (dCons (dV 0) dNil)))
    (dRet (dCall C_steps_of (dCons (dV 0) dNil))))
def C_steps : PFn := runP 1 0 G_steps
/-- slots: 0 moments -/
def G_length : Den Fl :=
  (dSeq (dExp (dCall C_check_moments (dCons (dV 0) dNil)))
    (dRet (dB2 gSub (dB2 gIx (dV 0) (dB1 gNeg (dC (.int 1)))) (dB2 gIx (dV 0) (dC (.int 0))))))
def C_length : PFn := runP 1 0 G_length
/-- slots: 0 moments -/
def G_greatest_step : Den Fl :=
  (dSeq (dExp (dCall C_check_moments (dCons (dV 0) dNil)))
    (dRet (dBL gMax (dCons (dB2 gAdd (dBL gLstD (dCons (dC (.int 0)) dNil)) (dCall C_steps_of (dCons (dV 0) dNil))) dNil))))
def C_greatest_step : PFn := runP 1 0 G_greatest_step
/-- slots: 0 moments 1 one 2 other 3 first 4 last -/
def G_between : Den Fl :=
  (dSeq (dExp (dCall C_check_moments (dCons (dV 0) dNil)))
    (dSeq (dExp (dCall C_check_place (dCons (dV 0) (dCons (dV 1) dNil))))
    (dSeq (dExp (dCall C_check_place (dCons (dV 0) (dCons (dV 2) dNil))))
    (dSeq (dPar [3, 4] (dCons (dBL gMin (dCons (dV 1) (dCons (dV 2) dNil))) (dCons (dBL gMax (dCons (dV 1) (dCons (dV 2) dNil))) dNil)))
    (dRet (dBL gMax (dCons (dB2 gAdd (dBL gLstD (dCons (dC (.int 0)) dNil)) (dSl (dCall C_steps_of (dCons (dV 0) dNil)) (dP (dV 3)) (dP (dV 4)))) dNil)))))))
def C_between : PFn := runP 3 2 G_between
/-- slots: 0 moments 1 found 2 unlike 3 k 4 step -/
def G_step_counts : Den Fl :=
  (dSeq (dExp (dCall C_check_moments (dCons (dV 0) dNil)))
    (dSeq (dAsg 1 (dBL gSorted (dCons (dCall C_steps_of (dCons (dV 0) dNil)) dNil)))
    (dSeq (dAsg 2 (dLc (dBL gRng1 (dCons (dBL gLen (dCons (dV 1) dNil)) dNil)) (.n 3) (dOr (dTst (dB2 (bo gEq) (dV 3) (dC (.int 0)))) (dTst (dB2 (bo gNe) (dB2 gIx (dV 1) (dV 3)) (dB2 gIx (dV 1) (dB2 gSub (dV 3) (dC (.int 1))))))) (dB2 gIx (dV 1) (dV 3)) [3]))
    (dRet (dLc (dB1 asL (dV 2)) (.n 4) dYes (dBL gTupD (dCons (dV 4) (dCons (dLM gCnt (dV 1) (dV 4)) dNil))) [4])))))
def C_step_counts : PFn := runP 1 4 G_step_counts
/-- slots: 0 moments 1 found 2 k 3 step -/
def G_changing_gaps : Den Fl :=
  (dSeq (dExp (dCall C_check_moments (dCons (dV 0) dNil)))
    (dSeq (dAsg 1 (dBL gSorted (dCons (dLc (dB1 asL (dCall C_steps_of (dCons (dV 0) dNil))) (.n 3) (dTst (dB2 (bo gGt) (dV 3) (dC (.int 0)))) (dV 3) [3]) dNil)))
    (dRet (dLc (dBL gRng1 (dCons (dBL gLen (dCons (dV 1) dNil)) dNil)) (.n 2) (dOr (dTst (dB2 (bo gEq) (dV 2) (dC (.int 0)))) (dTst (dB2 (bo gNe) (dB2 gIx (dV 1) (dV 2)) (dB2 gIx (dV 1) (dB2 gSub (dV 2) (dC (.int 1))))))) (dB2 gIx (dV 1) (dV 2)) [2]))))
def C_changing_gaps : PFn := runP 1 3 G_changing_gaps
/-- slots: 0 moments 1 gaps 2 gap -/
def G_number_row : Den Fl :=
  (dSeq (dExp (dCall C_check_moments (dCons (dV 0) dNil)))
    (dSeq (dAsg 1 (dB2 gAdd (dBL gLstD (dCons (dC (.int 0)) dNil)) (dCall C_changing_gaps (dCons (dV 0) dNil))))
    (dRet (dLc (dB1 asL (dV 1)) (.n 2) dYes (dBL gTupD (dCons (dV 2) (dCons (dBL gLen (dCons (dCall C_grouped (dCons (dV 0) (dCons (dV 2) dNil))) dNil)) dNil))) [2]))))
def C_number_row : PFn := runP 1 2 G_number_row
/-- slots: 0 moments 1 many 2 ordered 3 high 4 low -/
def G_gaps_for : Den Fl :=
  (dSeq (dExp (dCall C_check_moments (dCons (dV 0) dNil)))
    (dSeq (dIfS (dNot (dTst (dCall C_is_int (dCons (dV 1) (dCons (dC (.int 1)) (dCons (dBL gLen (dCons (dV 0) dNil)) dNil)))))) (dRaise .nu) dSkip)
    (dSeq (dAsg 2 (dB1 gRev (dBL gSorted (dCons (dCall C_steps_of (dCons (dV 0) dNil)) dNil))))
    (dSeq (dAsg 3 (dIf (dTst (dB2 (bo gGt) (dV 1) (dC (.int 1)))) (dB2 gSub (dB2 gIx (dV 2) (dB2 gSub (dV 1) (dC (.int 2)))) (dC (.int 1))) (dC (.int 999))))
    (dSeq (dAsg 4 (dIf (dTst (dB2 (bo gLt) (dB2 gSub (dV 1) (dC (.int 1))) (dBL gLen (dCons (dV 2) dNil)))) (dB2 gIx (dV 2) (dB2 gSub (dV 1) (dC (.int 1)))) (dC (.int 0))))
    (dSeq (dIfS (dTst (dB2 (bo gGt) (dV 4) (dV 3))) (dRaise .no) dSkip)
    (dRet (dBL gTupD (dCons (dV 4) (dCons (dV 3) dNil))))))))))
def C_gaps_for : PFn := runP 2 3 G_gaps_for
/-- slots: 0 moments 1 found 2 k -/
def G_joinings : Den Fl :=
  (dSeq (dExp (dCall C_check_moments (dCons (dV 0) dNil)))
    (dSeq (dAsg 1 (dCall C_steps_of (dCons (dV 0) dNil)))
    (dRet (dBL gSortT3 (dCons (dLc (dBL gRng1 (dCons (dBL gLen (dCons (dV 1) dNil)) dNil)) (.n 2) dYes (dBL gTupD (dCons (dB2 gIx (dV 1) (dV 2)) (dCons (dV 2) (dCons (dB2 gAdd (dV 2) (dC (.int 1))) dNil)))) [2]) dNil)))))
def C_joinings : PFn := runP 1 2 G_joinings
/-- slots: 0 moments 1 first 2 gap 3 parts 4 start 5 k -/
def G_grown (C0 : PFn) : Den Fl :=
  (dSeq (dIfS (dTst (dB2 (bo gEq) (dBL gLen (dCons (dV 0) dNil)) (dC (.int 1)))) (dRet (dV 1)) dSkip)
    (dSeq (dAsg 2 (dBL gMax (dCons (dCall C_steps_of (dCons (dV 0) dNil)) dNil)))
    (dSeq (dOwn 3 dNil)
    (dSeq (dAsg 4 (dC (.int 0)))
    (dSeq (dFor (dBL gRng2 (dCons (dC (.int 1)) (dCons (dB2 gAdd (dBL gLen (dCons (dV 0) dNil)) (dC (.int 1))) dNil))) (.n 5) (dIfS (dOr (dTst (dB2 (bo gEq) (dV 5) (dBL gLen (dCons (dV 0) dNil)))) (dTst (dB2 (bo gEq) (dB2 gSub (dB2 gIx (dV 0) (dV 5)) (dB2 gIx (dV 0) (dB2 gSub (dV 5) (dC (.int 1))))) (dV 2)))) (dSeq (dApp 3 (dCall C0 (dCons (dSl (dV 0) (dP (dV 4)) (dP (dV 5))) (dCons (dB2 gAdd (dV 1) (dV 4)) dNil))))
        (dAsg 4 (dV 5))) dSkip))
    (dRet (dBL gTupD (dCons (dV 2) (dCons (dV 3) dNil)))))))))
def C_grown : Nat → PFn
  | 0 => fun _ => .st
  | k + 1 => runP 2 4 (G_grown (C_grown k))
/-- slots: 0 moments -/
def G_tree : Den Fl :=
  (dSeq (dExp (dCall C_check_moments (dCons (dV 0) dNil)))
    (dRet (dCall (C_grown 16) (dCons (dV 0) (dCons (dC (.int 0)) dNil)))))
def C_tree : PFn := runP 1 0 G_tree
/-- slots: 0 node 1 found 2 part -/
def G__law_leaves (C0 : PFn) : Den Fl :=
  (dSeq (dIfS (dTst (dB1 (gIsA .int) (dV 0))) (dRet (dBL gLstD (dCons (dV 0) dNil))) dSkip)
    (dSeq (dAsg 1 (dBL gLstD dNil))
    (dSeq (dFor (dB1 asL (dB2 gIx (dV 0) (dC (.int 1)))) (.n 2) (dAsg 1 (dB2 gAdd (dV 1) (dCall C0 (dCons (dV 2) dNil)))))
    (dRet (dV 1)))))
def C__law_leaves : Nat → PFn
  | 0 => fun _ => .st
  | k + 1 => runP 1 2 (G__law_leaves (C__law_leaves k))
/-- slots: 0 node 1 gap 2 found 3 part -/
def G__law_cut (C0 : PFn) : Den Fl :=
  (dSeq (dIfS (dOr (dTst (dB1 (gIsA .int) (dV 0))) (dTst (dB2 (bo gLe) (dB2 gIx (dV 0) (dC (.int 0))) (dV 1)))) (dRet (dBL gLstD (dCons (dCall (C__law_leaves 16) (dCons (dV 0) dNil)) dNil))) dSkip)
    (dSeq (dAsg 2 (dBL gLstD dNil))
    (dSeq (dFor (dB1 asL (dB2 gIx (dV 0) (dC (.int 1)))) (.n 3) (dAsg 2 (dB2 gAdd (dV 2) (dCall C0 (dCons (dV 3) (dCons (dV 1) dNil))))))
    (dRet (dV 2)))))
def C__law_cut : Nat → PFn
  | 0 => fun _ => .st
  | k + 1 => runP 2 2 (G__law_cut (C__law_cut k))
/-- slots: 0 node 1 inner 2 part -/
def G__law_falls (C0 : PFn) : Den Fl :=
  (dSeq (dIfS (dTst (dB1 (gIsA .int) (dV 0))) (dRet (dC (.bool true))) dSkip)
    (dSeq (dAsg 1 (dLc (dB1 asL (dB2 gIx (dV 0) (dC (.int 1)))) (.n 2) (dNot (dTst (dB1 (gIsA .int) (dV 2)))) (dV 2) [2]))
    (dSeq (dIfS (dOr (dTst (dB2 (bo gLt) (dBL gLen (dCons (dB2 gIx (dV 0) (dC (.int 1))) dNil)) (dC (.int 2)))) (dTst (dB2 (bo gNe) (dLc (dB1 asL (dV 1)) (.n 2) (dTst (dB2 (bo gGe) (dB2 gIx (dV 2) (dC (.int 0))) (dB2 gIx (dV 0) (dC (.int 0))))) (dV 2) [2]) (dBL gLstD dNil)))) (dRet (dC (.bool false))) dSkip)
    (dRet (dB2 (bo gEq) (dLc (dB1 asL (dB2 gIx (dV 0) (dC (.int 1)))) (.n 2) (dNot (dTst (dCall C0 (dCons (dV 2) dNil)))) (dV 2) [2]) (dBL gLstD dNil))))))
def C__law_falls : Nat → PFn
  | 0 => fun _ => .st
  | k + 1 => runP 1 2 (G__law_falls (C__law_falls k))
/-- slots: 0 moments 1 gap 2 most -/
def G_check_both : Den Fl :=
  (dSeq (dExp (dCall C_check_moments (dCons (dV 0) dNil)))
    (dSeq (dExp (dCall C_check_gap (dCons (dV 1) dNil)))
    (dExp (dCall C_check_gap (dCons (dV 2) dNil)))))
def C_check_both : PFn := runP 3 0 G_check_both
/-- slots: 0 moments 1 gap 2 most -/
def G_bounded_groups : Den Fl :=
  (dSeq (dExp (dCall C_check_both (dCons (dV 0) (dCons (dV 1) (dCons (dV 2) dNil)))))
    (dRet (dCall C_cut_up (dCons (dV 0) (dCons (dV 1) (dCons (dV 2) dNil))))))
def C_bounded_groups : PFn := runP 3 0 G_bounded_groups
/-- slots: 0 moments 1 gap 2 most -/
def G_fewest_groups : Den Fl :=
  (dSeq (dExp (dCall C_check_both (dCons (dV 0) (dCons (dV 1) (dCons (dV 2) dNil)))))
    (dRet (dBL gLen (dCons (dCall C_cut_up (dCons (dV 0) (dCons (dV 1) (dCons (dV 2) dNil)))) dNil))))
def C_fewest_groups : PFn := runP 3 0 G_fewest_groups
/-- slots: 0 part 1 gap 2 most 3 k -/
def G_keeps : Den Fl :=
  (dSeq (dIfS (dTst (dB2 (bo gGt) (dB2 gSub (dB2 gIx (dV 0) (dB1 gNeg (dC (.int 1)))) (dB2 gIx (dV 0) (dC (.int 0)))) (dV 2))) (dRet (dC (.bool false))) dSkip)
    (dRet (dBL gAll (dCons (dLc (dBL gRng1 (dCons (dB2 gSub (dBL gLen (dCons (dV 0) dNil)) (dC (.int 1))) dNil)) (.n 3) dYes (dB2 (bo gLe) (dB2 gSub (dB2 gIx (dV 0) (dB2 gAdd (dV 3) (dC (.int 1)))) (dB2 gIx (dV 0) (dV 3))) (dV 1)) [3]) dNil))))
def C_keeps : PFn := runP 3 1 G_keeps
/-- slots: 0 moments 1 gap 2 most 3 found 4 first 5 last -/
def G_latest_ends : Den Fl :=
  (dSeq (dExp (dCall C_check_both (dCons (dV 0) (dCons (dV 1) (dCons (dV 2) dNil)))))
    (dSeq (dOwn 3 dNil)
    (dSeq (dFor (dBL gRng1 (dCons (dBL gLen (dCons (dV 0) dNil)) dNil)) (.n 4) (dSeq (dAsg 5 (dV 4))
      (dSeq (dWhile (dAnd (dTst (dB2 (bo gLt) (dB2 gAdd (dV 5) (dC (.int 1))) (dBL gLen (dCons (dV 0) dNil)))) (dTst (dCall C_keeps (dCons (dSl (dV 0) (dP (dV 4)) (dP (dB2 gAdd (dV 5) (dC (.int 2))))) (dCons (dV 1) (dCons (dV 2) dNil)))))) (dAug 5 (fun i j => i + j) (dC (.int 1))) 100)
      (dApp 3 (dV 5)))))
    (dRet (dV 3)))))
def C_latest_ends : PFn := runP 3 3 G_latest_ends
/-- slots: 0 moments 1 gap 2 most 3 ways 4 end 5 first -/
def G_count_divisions : Den Fl :=
  (dSeq (dExp (dCall C_check_both (dCons (dV 0) (dCons (dV 1) (dCons (dV 2) dNil)))))
    (dSeq (dOwn 3 (dCons (dC (.int 1)) dNil))
    (dSeq (dFor (dBL gRng2 (dCons (dC (.int 1)) (dCons (dB2 gAdd (dBL gLen (dCons (dV 0) dNil)) (dC (.int 1))) dNil))) (.n 4) (dApp 3 (dBL gSum (dCons (dLc (dBL gRng1 (dCons (dV 4) dNil)) (.n 5) (dTst (dCall C_keeps (dCons (dSl (dV 0) (dP (dV 5)) (dP (dV 4))) (dCons (dV 1) (dCons (dV 2) dNil))))) (dIxV 3 (dV 5)) [5]) dNil))))
    (dRet (dIxV 3 (dB1 gNeg (dC (.int 1))))))))
def C_count_divisions : PFn := runP 3 3 G_count_divisions
/-- slots: 0 moments 1 gap 2 most 3 best 4 end 5 some 6 least 7 first 8 one 9 number 10 many -/
def G_count_fewest : Den Fl :=
  (dSeq (dExp (dCall C_check_both (dCons (dV 0) (dCons (dV 1) (dCons (dV 2) dNil)))))
    (dSeq (dOwn 3 (dCons (dBL gTupD (dCons (dC (.int 0)) (dCons (dC (.int 1)) dNil))) dNil))
    (dSeq (dFor (dBL gRng2 (dCons (dC (.int 1)) (dCons (dB2 gAdd (dBL gLen (dCons (dV 0) dNil)) (dC (.int 1))) dNil))) (.n 4) (dSeq (dAsg 5 (dLc (dBL gRng1 (dCons (dV 4) dNil)) (.n 7) (dTst (dCall C_keeps (dCons (dSl (dV 0) (dP (dV 7)) (dP (dV 4))) (dCons (dV 1) (dCons (dV 2) dNil))))) (dIxV 3 (dV 7)) [7]))
      (dSeq (dAsg 6 (dBL gMin (dCons (dLc (dB1 asL (dV 5)) (.n 8) dYes (dB2 gIx (dV 8) (dC (.int 0))) [8]) dNil)))
      (dApp 3 (dBL gTupD (dCons (dB2 gAdd (dV 6) (dC (.int 1))) (dCons (dBL gSum (dCons (dLc (dB1 asL (dV 5)) (.t [9, 10]) (dTst (dB2 (bo gEq) (dV 9) (dV 6))) (dV 10) [9, 10]) dNil)) dNil)))))))
    (dRet (dB2 gIx (dIxV 3 (dB1 gNeg (dC (.int 1)))) (dC (.int 1)))))))
def C_count_fewest : PFn := runP 3 8 G_count_fewest
/-- slots: 0 moments 1 gap 2 most 3 firsts 4 group 5 k -/
def G_witnesses : Den Fl :=
  (dSeq (dExp (dCall C_check_both (dCons (dV 0) (dCons (dV 1) (dCons (dV 2) dNil)))))
    (dSeq (dOwn 3 (dCons (dC (.int 0)) dNil))
    (dSeq (dFor (dB1 asL (dCall C_cut_up (dCons (dV 0) (dCons (dV 1) (dCons (dV 2) dNil))))) (.n 4) (dApp 3 (dB2 gAdd (dIxV 3 (dB1 gNeg (dC (.int 1)))) (dBL gLen (dCons (dV 4) dNil)))))
    (dRet (dLc (dBL gRng1 (dCons (dB2 gSub (dBL gLen (dCons (dV 3) dNil)) (dC (.int 2))) dNil)) (.n 5) dYes (dBL gTupD (dCons (dIxV 3 (dV 5)) (dCons (dIxV 3 (dB2 gAdd (dV 5) (dC (.int 1)))) dNil))) [5])))))
def C_witnesses : PFn := runP 3 3 G_witnesses
/-- slots: 0 part 1 gap 2 most 3 wide 4 k -/
def G__law_keeps : Den Fl :=
  (dSeq (dAsg 3 (dLc (dBL gRng2 (dCons (dC (.int 1)) (dCons (dBL gLen (dCons (dV 0) dNil)) dNil))) (.n 4) (dTst (dB2 (bo gGt) (dB2 gSub (dB2 gIx (dV 0) (dV 4)) (dB2 gIx (dV 0) (dB2 gSub (dV 4) (dC (.int 1))))) (dV 1))) (dV 4) [4]))
    (dRet (dBo (dAnd (dTst (dB2 (bo gLe) (dB2 gSub (dB2 gIx (dV 0) (dB1 gNeg (dC (.int 1)))) (dB2 gIx (dV 0) (dC (.int 0)))) (dV 2))) (dTst (dB2 (bo gEq) (dV 3) (dBL gLstD dNil)))))))
def C__law_keeps : PFn := runP 3 2 G__law_keeps
/-- slots: 0 moments 1 gap 2 most 3 found 4 size 5 rest -/
def G__law_divisions (C0 : PFn) : Den Fl :=
  (dSeq (dIfS (dTst (dB2 (bo gEq) (dV 0) (dBL gLstD dNil))) (dRet (dBL gLstD (dCons (dBL gLstD dNil) dNil))) dSkip)
    (dSeq (dAsg 3 (dBL gLstD dNil))
    (dSeq (dFor (dBL gRng2 (dCons (dC (.int 1)) (dCons (dB2 gAdd (dBL gLen (dCons (dV 0) dNil)) (dC (.int 1))) dNil))) (.n 4) (dIfS (dTst (dCall C__law_keeps (dCons (dSl (dV 0) dNoP (dP (dV 4))) (dCons (dV 1) (dCons (dV 2) dNil))))) (dAsg 3 (dB2 gAdd (dV 3) (dLc (dB1 asL (dCall C0 (dCons (dSl (dV 0) (dP (dV 4)) dNoP) (dCons (dV 1) (dCons (dV 2) dNil))))) (.n 5) dYes (dB2 gAdd (dBL gLstD (dCons (dSl (dV 0) dNoP (dP (dV 4))) dNil)) (dV 5)) [5]))) dSkip))
    (dRet (dV 3)))))
def C__law_divisions : Nat → PFn
  | 0 => fun _ => .st
  | k + 1 => runP 3 3 (G__law_divisions (C__law_divisions k))
/-- slots: 0 moments 1 gap 2 many 3 lengths 4 k 5 most 6 moment -/
def G_least_most : Den Fl :=
  (dSeq (dExp (dCall C_check_moments (dCons (dV 0) dNil)))
    (dSeq (dExp (dCall C_check_gap (dCons (dV 1) dNil)))
    (dSeq (dIfS (dNot (dTst (dCall C_is_int (dCons (dV 2) (dCons (dC (.int 1)) (dCons (dBL gLen (dCons (dV 0) dNil)) dNil)))))) (dRaise .nu) dSkip)
    (dSeq (dOwn 3 dNil)
    (dSeq (dFor (dBL gRng1 (dCons (dBL gLen (dCons (dV 0) dNil)) dNil)) (.n 4) (dExt 3 (dLc (dB1 asL (dSl (dV 0) dNoP (dP (dB2 gAdd (dV 4) (dC (.int 1)))))) (.n 6) dYes (dB2 gSub (dB2 gIx (dV 0) (dV 4)) (dV 6)) [6])))
    (dSeq (dFor (dB1 asL (dBL gSorted (dCons (dV 3) dNil))) (.n 5) (dIfS (dTst (dB2 (bo gLe) (dBL gLen (dCons (dCall C_cut_up (dCons (dV 0) (dCons (dV 1) (dCons (dV 5) dNil)))) dNil)) (dV 2))) (dRet (dV 5)) dSkip))
    (dRet (dC .none))))))))
def C_least_most : PFn := runP 3 4 G_least_most
/-- slots: 0 groups 1 inner 2 outer 3 k 4 group -/
def G_inner_and_outer : Den Fl :=
  (dSeq (dAsg 1 (dBL gMax (dCons (dB2 gAdd (dBL gLstD (dCons (dC (.int 0)) dNil)) (dLc (dB1 asL (dV 0)) (.n 4) dYes (dBL gMax (dCons (dB2 gAdd (dBL gLstD (dCons (dC (.int 0)) dNil)) (dCall C_steps_of (dCons (dV 4) dNil))) dNil)) [4])) dNil)))
    (dSeq (dAsg 2 (dLc (dBL gRng1 (dCons (dB2 gSub (dBL gLen (dCons (dV 0) dNil)) (dC (.int 1))) dNil)) (.n 3) dYes (dB2 gSub (dB2 gIx (dB2 gIx (dV 0) (dB2 gAdd (dV 3) (dC (.int 1)))) (dC (.int 0))) (dB2 gIx (dB2 gIx (dV 0) (dV 3)) (dB1 gNeg (dC (.int 1))))) [3]))
    (dRet (dBL gTupD (dCons (dV 1) (dCons (dIf (dTst (dB2 (bo gNe) (dV 2) (dBL gLstD dNil))) (dBL gMin (dCons (dV 2) dNil)) (dC .none)) dNil))))))
def C_inner_and_outer : PFn := runP 1 4 G_inner_and_outer
/-- slots: 0 groups 1 inner 2 outer 3 high -/
def G_gap_range : Den Fl :=
  (dSeq (dExp (dCall C_check_groups (dCons (dV 0) dNil)))
    (dSeq (dAsgT (.t [1, 2]) (dCall C_inner_and_outer (dCons (dV 0) dNil)))
    (dSeq (dAsg 3 (dIf (dTst (dB2 (bo gIs) (dV 2) (dC .none))) (dC (.int 999)) (dB2 gSub (dV 2) (dC (.int 1)))))
    (dSeq (dIfS (dTst (dB2 (bo gGt) (dV 1) (dV 3))) (dRaise .no) dSkip)
    (dRet (dBL gTupD (dCons (dV 1) (dCons (dV 3) dNil))))))))
def C_gap_range : PFn := runP 1 3 G_gap_range
/-- slots: 0 groups 1 inner 2 outer -/
def G_are_groups : Den Fl :=
  (dSeq (dExp (dCall C_check_groups (dCons (dV 0) dNil)))
    (dSeq (dAsgT (.t [1, 2]) (dCall C_inner_and_outer (dCons (dV 0) dNil)))
    (dRet (dBo (dOr (dTst (dB2 (bo gIs) (dV 2) (dC .none))) (dTst (dB2 (bo gLt) (dV 1) (dV 2))))))))
def C_are_groups : PFn := runP 1 2 G_are_groups
/-- slots: 0 groups 1 moments 2 found 3 inner 4 outer 5 cuts 6 group 7 within 8 between 9 k -/
def G_against : Den Fl :=
  (dSeq (dExp (dCall C_check_groups (dCons (dV 0) dNil)))
    (dSeq (dAsg 1 (dCall C_whole_of (dCons (dV 0) dNil)))
    (dSeq (dAsg 2 (dCall C_steps_of (dCons (dV 1) dNil)))
    (dSeq (dAsgT (.t [3, 4]) (dCall C_inner_and_outer (dCons (dV 0) dNil)))
    (dSeq (dIfS (dOr (dTst (dB2 (bo gIs) (dV 4) (dC .none))) (dTst (dB2 (bo gLt) (dV 3) (dV 4)))) (dRet (dC .none)) dSkip)
    (dSeq (dOwn 5 dNil)
    (dSeq (dFor (dB1 asL (dSl (dV 0) dNoP (dP (dB1 gNeg (dC (.int 1)))))) (.n 6) (dApp 5 (dB2 gAdd (dIf (dTst (dOpV gNe 5 (dBL gLstD dNil))) (dIxV 5 (dB1 gNeg (dC (.int 1)))) (dB1 gNeg (dC (.int 1)))) (dBL gLen (dCons (dV 6) dNil)))))
    (dSeq (dAsg 7 (dLc (dBL gRng1 (dCons (dBL gLen (dCons (dV 2) dNil)) dNil)) (.n 9) (dAnd (dTst (dB2 (bo gNotIn) (dV 9) (dV 5))) (dTst (dB2 (bo gEq) (dB2 gIx (dV 2) (dV 9)) (dV 3)))) (dV 9) [9]))
    (dSeq (dAsg 8 (dLc (dB1 asL (dV 5)) (.n 9) (dTst (dB2 (bo gEq) (dB2 gIx (dV 2) (dV 9)) (dV 4))) (dV 9) [9]))
    (dRet (dBL gTupD (dCons (dIf (dTst (dB2 (bo gNe) (dV 7) (dBL gLstD dNil))) (dB2 gIx (dV 7) (dC (.int 0))) (dC .none)) (dCons (dB2 gIx (dV 8) (dC (.int 0))) dNil)))))))))))))
def C_against : PFn := runP 1 9 G_against
/-- slots: 0 value 1 expected -/
def G__law_true : Den Fl :=
  (dRet (dBo (dAnd (dTst (dB1 (gIsA .bool) (dV 0))) (dTst (dB2 (bo gEq) (dV 0) (dV 1))))))
def C__law_true : PFn := runP 2 0 G__law_true
/-- slots: 0 groups 1 lengths 2 reach 3 low 4 high 5 group 6 k 7 one -/
def G_bounded_range : Den Fl :=
  (dSeq (dExp (dCall C_check_groups (dCons (dV 0) dNil)))
    (dSeq (dAsg 1 (dLc (dB1 asL (dV 0)) (.n 5) dYes (dB2 gSub (dB2 gIx (dV 5) (dB1 gNeg (dC (.int 1)))) (dB2 gIx (dV 5) (dC (.int 0)))) [5]))
    (dSeq (dAsg 2 (dLc (dBL gRng1 (dCons (dB2 gSub (dBL gLen (dCons (dV 0) dNil)) (dC (.int 1))) dNil)) (.n 6) dYes (dB2 gSub (dB2 gIx (dB2 gIx (dV 0) (dB2 gAdd (dV 6) (dC (.int 1)))) (dC (.int 0))) (dB2 gIx (dB2 gIx (dV 0) (dV 6)) (dC (.int 0)))) [6]))
    (dSeq (dPar [3, 4] (dCons (dBL gMax (dCons (dV 1) dNil)) (dCons (dBL gMin (dCons (dB2 gAdd (dBL gLstD (dCons (dC (.int 999)) dNil)) (dLc (dB1 asL (dV 2)) (.n 7) dYes (dB2 gSub (dV 7) (dC (.int 1))) [7])) dNil)) dNil)))
    (dSeq (dIfS (dTst (dB2 (bo gGt) (dV 3) (dV 4))) (dRaise .no) dSkip)
    (dRet (dBL gTupD (dCons (dV 3) (dCons (dV 4) dNil)))))))))
def C_bounded_range : PFn := runP 1 7 G_bounded_range
/-- slots: 0 moments -/
def G_checked : Den Fl :=
  (dSeq (dIfS (dNot (dTst (dCall C_is_moments (dCons (dV 0) dNil)))) (dRaise .mo) dSkip)
    (dRet (dV 0)))
def C_checked : PFn := runP 1 0 G_checked
/-- slots: 0 value -/
def G_check_moment : Den Fl :=
  (dIfS (dNot (dTst (dCall C_is_int (dCons (dV 0) (dCons (dC (.int 0)) (dCons (dC (.int 999)) dNil)))))) (dRaise .nu) dSkip)
def C_check_moment : PFn := runP 1 0 G_check_moment
/-- slots: 0 moments 1 moment -/
def G_with_moment : Den Fl :=
  (dSeq (dExp (dCall C_check_moments (dCons (dV 0) dNil)))
    (dSeq (dExp (dCall C_check_moment (dCons (dV 1) dNil)))
    (dRet (dCall C_checked (dCons (dBL gSorted (dCons (dB2 gAdd (dV 0) (dBL gLstD (dCons (dV 1) dNil))) dNil)) dNil)))))
def C_with_moment : PFn := runP 2 0 G_with_moment
/-- slots: 0 moments 1 moment 2 found -/
def G_without_moment : Den Fl :=
  (dSeq (dExp (dCall C_check_moments (dCons (dV 0) dNil)))
    (dSeq (dExp (dCall C_check_moment (dCons (dV 1) dNil)))
    (dSeq (dIfS (dOr (dTst (dB2 (bo gNotIn) (dV 1) (dV 0))) (dTst (dB2 (bo gEq) (dBL gLen (dCons (dV 0) dNil)) (dC (.int 1))))) (dRaise .no) dSkip)
    (dSeq (dOwnL 2 (dV 0))
    (dSeq (dRem 2 (dV 1))
    (dRet (dV 2)))))))
def C_without_moment : PFn := runP 2 1 G_without_moment
/-- slots: 0 moments 1 gap 2 moment 3 before 4 behind 5 near 6 one -/
def G_effect : Den Fl :=
  (dSeq (dExp (dCall C_check_moments (dCons (dV 0) dNil)))
    (dSeq (dExp (dCall C_check_gap (dCons (dV 1) dNil)))
    (dSeq (dExp (dCall C_check_moment (dCons (dV 2) dNil)))
    (dSeq (dAsg 3 (dLc (dB1 asL (dV 0)) (.n 6) (dTst (dB2 (bo gLe) (dV 6) (dV 2))) (dV 6) [6]))
    (dSeq (dAsg 4 (dLc (dB1 asL (dV 0)) (.n 6) (dTst (dB2 (bo gGe) (dV 6) (dV 2))) (dV 6) [6]))
    (dSeq (dAsg 5 (dBL gLstD (dCons (dBo (dAnd (dTst (dB2 (bo gNe) (dV 3) (dBL gLstD dNil))) (dTst (dB2 (bo gLe) (dB2 gSub (dV 2) (dB2 gIx (dV 3) (dB1 gNeg (dC (.int 1))))) (dV 1))))) (dCons (dBo (dAnd (dTst (dB2 (bo gNe) (dV 4) (dBL gLstD dNil))) (dTst (dB2 (bo gLe) (dB2 gSub (dB2 gIx (dV 4) (dC (.int 0))) (dV 2)) (dV 1))))) dNil))))
    (dSeq (dIfS (dTst (dB2 (bo gEq) (dV 5) (dBL gLstD (dCons (dC (.bool false)) (dCons (dC (.bool false)) dNil))))) (dRet (dC (.str "new"))) dSkip)
    (dSeq (dIfS (dAnd (dTst (dB2 (bo gEq) (dV 5) (dBL gLstD (dCons (dC (.bool true)) (dCons (dC (.bool true)) dNil))))) (dTst (dB2 (bo gGt) (dB2 gSub (dB2 gIx (dV 4) (dC (.int 0))) (dB2 gIx (dV 3) (dB1 gNeg (dC (.int 1))))) (dV 1)))) (dRet (dC (.str "bridges"))) dSkip)
    (dRet (dC (.str "joins")))))))))))
def C_effect : PFn := runP 3 4 G_effect
/-- slots: 0 moments 1 gap 2 found 3 k 4 low 5 high 6 one -/
def G_bridging_moments : Den Fl :=
  (dSeq (dExp (dCall C_check_moments (dCons (dV 0) dNil)))
    (dSeq (dExp (dCall C_check_gap (dCons (dV 1) dNil)))
    (dSeq (dOwn 2 dNil)
    (dSeq (dFor (dBL gRng1 (dCons (dB2 gSub (dBL gLen (dCons (dV 0) dNil)) (dC (.int 1))) dNil)) (.n 3) (dSeq (dPar [4, 5] (dCons (dB2 gIx (dV 0) (dV 3)) (dCons (dB2 gIx (dV 0) (dB2 gAdd (dV 3) (dC (.int 1)))) dNil)))
      (dIfS (dTst (dB2 (bo gGt) (dB2 gSub (dV 5) (dV 4)) (dV 1))) (dExt 2 (dLc (dBL gRng2 (dCons (dBL gMax (dCons (dV 4) (dCons (dB2 gSub (dV 5) (dV 1)) dNil))) (dCons (dB2 gAdd (dBL gMin (dCons (dV 5) (dCons (dB2 gAdd (dV 4) (dV 1)) dNil))) (dC (.int 1))) dNil))) (.n 6) dYes (dV 6) [6])) dSkip)))
    (dRet (dV 2))))))
def C_bridging_moments : PFn := runP 2 5 G_bridging_moments
/-- slots: 0 moments 1 gap 2 found 3 k 4 own -/
def G_needed_moments : Den Fl :=
  (dSeq (dExp (dCall C_check_moments (dCons (dV 0) dNil)))
    (dSeq (dExp (dCall C_check_gap (dCons (dV 1) dNil)))
    (dSeq (dOwn 2 dNil)
    (dSeq (dFor (dBL gRng2 (dCons (dC (.int 1)) (dCons (dB2 gSub (dBL gLen (dCons (dV 0) dNil)) (dC (.int 1))) dNil))) (.n 3) (dSeq (dAsg 4 (dBo (dAnd (dTst (dB2 (bo gLe) (dB2 gSub (dB2 gIx (dV 0) (dV 3)) (dB2 gIx (dV 0) (dB2 gSub (dV 3) (dC (.int 1))))) (dV 1))) (dTst (dB2 (bo gLe) (dB2 gSub (dB2 gIx (dV 0) (dB2 gAdd (dV 3) (dC (.int 1)))) (dB2 gIx (dV 0) (dV 3))) (dV 1))))))
      (dIfS (dAnd (dTst (dV 4)) (dTst (dB2 (bo gGt) (dB2 gSub (dB2 gIx (dV 0) (dB2 gAdd (dV 3) (dC (.int 1)))) (dB2 gIx (dV 0) (dB2 gSub (dV 3) (dC (.int 1))))) (dV 1)))) (dApp 2 (dV 3)) dSkip)))
    (dRet (dV 2))))))
def C_needed_moments : PFn := runP 2 3 G_needed_moments
/-- slots: 0 one 1 other -/
def G_merged : Den Fl :=
  (dSeq (dExp (dCall C_check_moments (dCons (dV 0) dNil)))
    (dSeq (dExp (dCall C_check_moments (dCons (dV 1) dNil)))
    (dRet (dCall C_checked (dCons (dBL gSorted (dCons (dB2 gAdd (dV 0) (dV 1)) dNil)) dNil)))))
def C_merged : PFn := runP 2 0 G_merged
/-- slots: 0 moments 1 by 2 moment -/
def G_moved : Den Fl :=
  (dSeq (dExp (dCall C_check_moments (dCons (dV 0) dNil)))
    (dSeq (dIfS (dNot (dTst (dCall C_is_int (dCons (dV 1) (dCons (dB1 gNeg (dC (.int 999))) (dCons (dC (.int 999)) dNil)))))) (dRaise .nu) dSkip)
    (dRet (dCall C_checked (dCons (dLc (dB1 asL (dV 0)) (.n 2) dYes (dB2 gAdd (dV 2) (dV 1)) [2]) dNil)))))
def C_moved : PFn := runP 2 1 G_moved
/-- slots: 0 moments 1 moment -/
def G_backward : Den Fl :=
  (dSeq (dExp (dCall C_check_moments (dCons (dV 0) dNil)))
    (dRet (dLc (dB1 asL (dB1 gRev (dV 0))) (.n 1) dYes (dB2 gSub (dB2 gAdd (dB2 gIx (dV 0) (dC (.int 0))) (dB2 gIx (dV 0) (dB1 gNeg (dC (.int 1))))) (dV 1)) [1])))
def C_backward : PFn := runP 1 1 G_backward
/-- slots: 0 moments 1 by 2 moment -/
def G_scaled : Den Fl :=
  (dSeq (dExp (dCall C_check_moments (dCons (dV 0) dNil)))
    (dSeq (dIfS (dNot (dTst (dCall C_is_int (dCons (dV 1) (dCons (dC (.int 1)) (dCons (dC (.int 99)) dNil)))))) (dRaise .nu) dSkip)
    (dRet (dCall C_checked (dCons (dLc (dB1 asL (dV 0)) (.n 2) dYes (dB2 gMul (dV 2) (dV 1)) [2]) dNil)))))
def C_scaled : PFn := runP 2 1 G_scaled
/-- slots: 0 moments 1 gap 2 found 3 group -/
def G_thinned : Den Fl :=
  (dSeq (dExp (dCall C_check_moments (dCons (dV 0) dNil)))
    (dSeq (dExp (dCall C_check_gap (dCons (dV 1) dNil)))
    (dSeq (dOwn 2 dNil)
    (dSeq (dFor (dB1 asL (dCall C_grouped (dCons (dV 0) (dCons (dV 1) dNil)))) (.n 3) (dExt 2 (dB2 gAdd (dSl (dV 3) dNoP (dP (dC (.int 1)))) (dIf (dTst (dB2 (bo gGt) (dB2 gIx (dV 3) (dB1 gNeg (dC (.int 1)))) (dB2 gIx (dV 3) (dC (.int 0))))) (dSl (dV 3) (dP (dB1 gNeg (dC (.int 1)))) dNoP) (dBL gLstD dNil)))))
    (dRet (dV 2))))))
def C_thinned : PFn := runP 2 2 G_thinned
/-- slots: 0 draws 1 both 2 gap 3 back 4 factor 5 wide 6 ends 7 group 8 moment -/
def G__law_turned : Den Fl :=
  (dSeq (dAsg 3 (dCall C_backward (dCons (dV 1) dNil)))
    (dSeq (dIfS (dOr (dTst (dB2 (bo gNe) (dV 3) (dBL gSorted (dCons (dLc (dB1 asL (dV 1)) (.n 8) dYes (dB2 gSub (dB2 gAdd (dB2 gIx (dV 1) (dC (.int 0))) (dB2 gIx (dV 1) (dB1 gNeg (dC (.int 1))))) (dV 8)) [8]) dNil)))) (dTst (dB2 (bo gNe) (dCall C_steps (dCons (dV 3) dNil)) (dB1 gRev (dCall C_steps (dCons (dV 1) dNil)))))) (dRet (dC (.bool false))) dSkip)
    (dSeq (dIfS (dTst (dB2 (bo gNe) (dLc (dB1 asL (dCall C_groups (dCons (dV 3) (dCons (dV 2) dNil)))) (.n 7) dYes (dBL gLen (dCons (dV 7) dNil)) [7]) (dB1 gRev (dLc (dB1 asL (dCall C_groups (dCons (dV 1) (dCons (dV 2) dNil)))) (.n 7) dYes (dBL gLen (dCons (dV 7) dNil)) [7])))) (dRet (dC (.bool false))) dSkip)
    (dSeq (dAsg 4 (dB2 gAdd (dC (.int 1)) (dCallD C__law_draw 0 (dCons (dC (.int 4)) dNil))))
    (dSeq (dIfS (dTst (dB2 (bo gLt) (dB2 gMul (dB2 gIx (dV 1) (dB1 gNeg (dC (.int 1)))) (dV 4)) (dC (.int 1000)))) (dSeq (dAsg 5 (dCall C_scaled (dCons (dV 1) (dCons (dV 4) dNil))))
      (dIfS (dOr (dTst (dB2 (bo gNe) (dV 5) (dLc (dB1 asL (dV 1)) (.n 8) dYes (dB2 gMul (dV 8) (dV 4)) [8]))) (dTst (dB2 (bo gNe) (dCall C_count_groups (dCons (dV 5) (dCons (dBL gMin (dCons (dC (.int 999)) (dCons (dB2 gMul (dV 2) (dV 4)) dNil))) dNil))) (dCall C_count_groups (dCons (dV 1) (dCons (dV 2) dNil)))))) (dRet (dC (.bool false))) dSkip)) dSkip)
    (dSeq (dAsg 6 (dBL gLstD dNil))
    (dSeq (dFor (dB1 asL (dCall C_groups (dCons (dV 1) (dCons (dV 2) dNil)))) (.n 7) (dAsg 6 (dB2 gAdd (dV 6) (dIf (dTst (dB2 (bo gEq) (dB2 gIx (dV 7) (dC (.int 0))) (dB2 gIx (dV 7) (dB1 gNeg (dC (.int 1)))))) (dBL gLstD (dCons (dB2 gIx (dV 7) (dC (.int 0))) dNil)) (dBL gLstD (dCons (dB2 gIx (dV 7) (dC (.int 0))) (dCons (dB2 gIx (dV 7) (dB1 gNeg (dC (.int 1)))) dNil)))))))
    (dRet (dBo (dAnd (dTst (dB2 (bo gEq) (dCall C_thinned (dCons (dV 1) (dCons (dV 2) dNil))) (dV 6))) (dTst (dB2 (bo gGe) (dBL gLen (dCons (dCall C_groups (dCons (dV 6) (dCons (dV 2) dNil))) dNil)) (dCall C_count_groups (dCons (dV 1) (dCons (dV 2) dNil)))))))))))))))
def C__law_turned : SFn := runD 2 6 G__law_turned
/-- slots: 0 value 1 number -/
def G_is_numbers : Den Fl :=
  (dSeq (dIfS (dOr (dNot (dTst (dB1 (gIsA .tuple) (dV 0)))) (dNot (dChain gLe gLe (dC (.int 1)) (dBL gLen (dCons (dV 0) dNil)) (dC (.int 8))))) (dRet (dC (.bool false))) dSkip)
    (dRet (dBL gAll (dCons (dLc (dB1 asT (dV 0)) (.n 1) dYes (dCall C_is_int (dCons (dV 1) (dCons (dC (.int 1)) (dCons (dC (.int 12)) dNil)))) [1]) dNil))))
def C_is_numbers : PFn := runP 1 1 G_is_numbers
/-- slots: 0 value -/
def G_check_numbers : Den Fl :=
  (dIfS (dNot (dTst (dCall C_is_numbers (dCons (dV 0) dNil)))) (dRaise .nu) dSkip)
def C_check_numbers : PFn := runP 1 0 G_check_numbers
/-- slots: 0 numbers 1 k -/
def G_falls : Den Fl :=
  (dRet (dBL gAll (dCons (dLc (dBL gRng1 (dCons (dB2 gSub (dBL gLen (dCons (dV 0) dNil)) (dC (.int 1))) dNil)) (.n 1) dYes (dB2 (bo gGe) (dB2 gIx (dV 0) (dV 1)) (dB2 gIx (dV 0) (dB2 gAdd (dV 1) (dC (.int 1))))) [1]) dNil)))
def C_falls : PFn := runP 1 1 G_falls
/-- slots: 0 numbers -/
def G_can_be : Den Fl :=
  (dSeq (dExp (dCall C_check_numbers (dCons (dV 0) dNil)))
    (dRet (dCall C_falls (dCons (dV 0) dNil))))
def C_can_be : PFn := runP 1 0 G_can_be
/-- slots: 0 numbers 1 found 2 gap -/
def G_steps_with : Den Fl :=
  (dSeq (dOwn 1 dNil)
    (dSeq (dFor (dBL gRng2 (dCons (dC (.int 1)) (dCons (dBL gLen (dCons (dV 0) dNil)) dNil))) (.n 2) (dExt 1 (dB2 gMul (dBL gLstD (dCons (dV 2) dNil)) (dB2 gSub (dB2 gIx (dV 0) (dB2 gSub (dV 2) (dC (.int 1)))) (dB2 gIx (dV 0) (dV 2))))))
    (dRet (dB2 gAdd (dV 1) (dB2 gMul (dBL gLstD (dCons (dBL gLen (dCons (dV 0) dNil)) dNil)) (dB2 gSub (dB2 gIx (dV 0) (dB1 gNeg (dC (.int 1)))) (dC (.int 1))))))))
def C_steps_with : PFn := runP 1 2 G_steps_with
/-- slots: 0 numbers 1 found 2 step -/
def G_moments_with : Den Fl :=
  (dSeq (dExp (dCall C_check_numbers (dCons (dV 0) dNil)))
    (dSeq (dIfS (dNot (dTst (dCall C_falls (dCons (dV 0) dNil)))) (dRaise .no) dSkip)
    (dSeq (dOwn 1 (dCons (dC (.int 0)) dNil))
    (dSeq (dFor (dB1 asL (dCall C_steps_with (dCons (dV 0) dNil))) (.n 2) (dApp 1 (dB2 gAdd (dIxV 1 (dB1 gNeg (dC (.int 1)))) (dV 2))))
    (dRet (dV 1))))))
def C_moments_with : PFn := runP 1 2 G_moments_with
/-- slots: 0 values 1 found 2 k 3 one -/
def G_orders : Den Fl :=
  (dSeq (dAsg 1 (dC (.int 1)))
    (dSeq (dFor (dBL gRng1 (dCons (dBL gLen (dCons (dV 0) dNil)) dNil)) (.n 2) (dAsg 1 (dB2 gDiv (dB2 gMul (dV 1) (dB2 gAdd (dV 2) (dC (.int 1)))) (dBL gLen (dCons (dLc (dB1 asL (dSl (dV 0) dNoP (dP (dB2 gAdd (dV 2) (dC (.int 1)))))) (.n 3) (dTst (dB2 (bo gEq) (dV 3) (dB2 gIx (dV 0) (dV 2)))) (dV 3) [3]) dNil)))))
    (dRet (dV 1))))
def C_orders : PFn := runP 1 3 G_orders
/-- slots: 0 numbers -/
def G_count_moments : Den Fl :=
  (dSeq (dExp (dCall C_check_numbers (dCons (dV 0) dNil)))
    (dRet (dIf (dTst (dCall C_falls (dCons (dV 0) dNil))) (dCall C_orders (dCons (dCall C_steps_with (dCons (dV 0) dNil)) dNil)) (dC (.int 0)))))
def C_count_moments : PFn := runP 1 0 G_count_moments
/-- slots: 0 numbers -/
def G_least_length : Den Fl :=
  (dSeq (dExp (dCall C_check_numbers (dCons (dV 0) dNil)))
    (dSeq (dIfS (dNot (dTst (dCall C_falls (dCons (dV 0) dNil)))) (dRaise .no) dSkip)
    (dRet (dBL gSum (dCons (dCall C_steps_with (dCons (dV 0) dNil)) dNil)))))
def C_least_length : PFn := runP 1 0 G_least_length
/-- slots: 0 some 1 found 2 k 3 rest -/
def G__law_orders (C0 : PFn) : Den Fl :=
  (dSeq (dIfS (dTst (dB2 (bo gEq) (dV 0) (dBL gLstD dNil))) (dRet (dBL gLstD (dCons (dBL gLstD dNil) dNil))) dSkip)
    (dSeq (dAsg 1 (dBL gLstD dNil))
    (dSeq (dFor (dBL gRng1 (dCons (dBL gLen (dCons (dV 0) dNil)) dNil)) (.n 2) (dIfS (dTst (dB2 (bo gNotIn) (dB2 gIx (dV 0) (dV 2)) (dSl (dV 0) dNoP (dP (dV 2))))) (dAsg 1 (dB2 gAdd (dV 1) (dLc (dB1 asL (dCall C0 (dCons (dB2 gAdd (dSl (dV 0) dNoP (dP (dV 2))) (dSl (dV 0) (dP (dB2 gAdd (dV 2) (dC (.int 1)))) dNoP)) dNil))) (.n 3) dYes (dB2 gAdd (dBL gLstD (dCons (dB2 gIx (dV 0) (dV 2)) dNil)) (dV 3)) [3]))) dSkip))
    (dRet (dV 1)))))
def C__law_orders : Nat → PFn
  | 0 => fun _ => .st
  | k + 1 => runP 1 3 (G__law_orders (C__law_orders k))
/-- slots: 0 moments 1 day -/
def G_check_day : Den Fl :=
  (dIfS (dNot (dTst (dCall C_is_int (dCons (dV 1) (dCons (dB2 gSub (dB2 gIx (dV 0) (dB1 gNeg (dC (.int 1)))) (dB2 gIx (dV 0) (dC (.int 0)))) (dCons (dC (.int 2000)) dNil)))))) (dRaise .nu) dSkip)
def C_check_day : PFn := runP 2 0 G_check_day
/-- slots: 0 moments 1 gap 2 day -/
def G_over_night : Den Fl :=
  (dRet (dB2 (bo gLe) (dB2 gSub (dB2 gAdd (dB2 gIx (dV 0) (dC (.int 0))) (dV 2)) (dB2 gIx (dV 0) (dB1 gNeg (dC (.int 1))))) (dV 1)))
def C_over_night : PFn := runP 3 0 G_over_night
/-- slots: 0 moments 1 gap 2 day 3 days 4 found -/
def G_groups_of_days : Den Fl :=
  (dSeq (dExp (dCall C_check_moments (dCons (dV 0) dNil)))
    (dSeq (dExp (dCall C_check_gap (dCons (dV 1) dNil)))
    (dSeq (dExp (dCall C_check_day (dCons (dV 0) (dCons (dV 2) dNil))))
    (dSeq (dIfS (dNot (dTst (dCall C_is_int (dCons (dV 3) (dCons (dC (.int 1)) (dCons (dC (.int 1000)) dNil)))))) (dRaise .nu) dSkip)
    (dSeq (dAsg 4 (dBL gLen (dCons (dCall C_grouped (dCons (dV 0) (dCons (dV 1) dNil))) dNil)))
    (dRet (dB2 gSub (dB2 gMul (dV 4) (dV 3)) (dIf (dTst (dCall C_over_night (dCons (dV 0) (dCons (dV 1) (dCons (dV 2) dNil))))) (dB2 gSub (dV 3) (dC (.int 1))) (dC (.int 0))))))))))
def C_groups_of_days : PFn := runP 4 1 G_groups_of_days
/-- slots: 0 moments 1 gap 2 day -/
def G_joins_days : Den Fl :=
  (dSeq (dExp (dCall C_check_moments (dCons (dV 0) dNil)))
    (dSeq (dExp (dCall C_check_gap (dCons (dV 1) dNil)))
    (dSeq (dExp (dCall C_check_day (dCons (dV 0) (dCons (dV 2) dNil))))
    (dRet (dCall C_over_night (dCons (dV 0) (dCons (dV 1) (dCons (dV 2) dNil))))))))
def C_joins_days : PFn := runP 3 0 G_joins_days
/-- slots: 0 moments 1 gap 2 day -/
def G_never_ends : Den Fl :=
  (dSeq (dExp (dCall C_check_moments (dCons (dV 0) dNil)))
    (dSeq (dExp (dCall C_check_gap (dCons (dV 1) dNil)))
    (dSeq (dExp (dCall C_check_day (dCons (dV 0) (dCons (dV 2) dNil))))
    (dRet (dBo (dAnd (dTst (dB2 (bo gEq) (dBL gLen (dCons (dCall C_grouped (dCons (dV 0) (dCons (dV 1) dNil))) dNil)) (dC (.int 1)))) (dTst (dCall C_over_night (dCons (dV 0) (dCons (dV 1) (dCons (dV 2) dNil)))))))))))
def C_never_ends : PFn := runP 3 0 G_never_ends
/-- slots: 0 moments 1 gap 2 day 3 found 4 whole 5 group -/
def G_groups_around : Den Fl :=
  (dSeq (dExp (dCall C_check_moments (dCons (dV 0) dNil)))
    (dSeq (dExp (dCall C_check_gap (dCons (dV 1) dNil)))
    (dSeq (dExp (dCall C_check_day (dCons (dV 0) (dCons (dV 2) dNil))))
    (dSeq (dAsg 3 (dCall C_grouped (dCons (dV 0) (dCons (dV 1) dNil))))
    (dSeq (dIfS (dNot (dTst (dCall C_over_night (dCons (dV 0) (dCons (dV 1) (dCons (dV 2) dNil)))))) (dRet (dLc (dB1 asL (dV 3)) (.n 5) dYes (dBL gTupD (dCons (dB2 gIx (dV 5) (dC (.int 0))) (dCons (dB2 gSub (dB2 gIx (dV 5) (dB1 gNeg (dC (.int 1)))) (dB2 gIx (dV 5) (dC (.int 0)))) dNil))) [5])) dSkip)
    (dSeq (dIfS (dTst (dB2 (bo gEq) (dBL gLen (dCons (dV 3) dNil)) (dC (.int 1)))) (dRet (dBL gLstD dNil)) dSkip)
    (dSeq (dAsg 4 (dLc (dB1 asL (dSl (dV 3) (dP (dC (.int 1))) (dP (dB1 gNeg (dC (.int 1)))))) (.n 5) dYes (dBL gTupD (dCons (dB2 gIx (dV 5) (dC (.int 0))) (dCons (dB2 gSub (dB2 gIx (dV 5) (dB1 gNeg (dC (.int 1)))) (dB2 gIx (dV 5) (dC (.int 0)))) dNil))) [5]))
    (dRet (dB2 gAdd (dV 4) (dBL gLstD (dCons (dBL gTupD (dCons (dB2 gIx (dB2 gIx (dV 3) (dB1 gNeg (dC (.int 1)))) (dC (.int 0))) (dCons (dB2 gSub (dB2 gAdd (dB2 gIx (dB2 gIx (dV 3) (dC (.int 0))) (dB1 gNeg (dC (.int 1)))) (dV 2)) (dB2 gIx (dB2 gIx (dV 3) (dB1 gNeg (dC (.int 1)))) (dC (.int 0)))) dNil))) dNil)))))))))))
def C_groups_around : PFn := runP 3 3 G_groups_around
/-- slots: 0 text -/
def G_check_text : Den Fl :=
  (dIfS (dNot (dTst (dB1 (gIsA .str) (dV 0)))) (dRaise .te) dSkip)
def C_check_text : PFn := runP 1 0 G_check_text
/-- slots: 0 self -/
def G_Stream_limit : Den Fl :=
  (dRet (dIf (dTst (dB2 (bo gNe) (dFld 0 .line) (dBL gLstD dNil))) (dBL gMax (dCons (dC (.int 0)) (dCons (dB2 gSub (dB2 gIx (dFld 0 .line) (dB1 gNeg (dC (.int 1)))) (dFld 0 .late)) dNil))) (dC (.int 0))))
def C_Stream_limit : StFn := runS 0 0 0 G_Stream_limit
/-- slots: 0 self 1 group -/
def G_Stream_closed : Den Fl :=
  (dSeq (dIfS (dTst (dB2 (bo gEq) (dFld 0 .line) (dBL gLstD dNil))) (dRet (dBL gLstD dNil)) dSkip)
    (dRet (dLc (dB1 asL (dCall C_grouped (dCons (dFld 0 .line) (dCons (dFld 0 .gap) dNil)))) (.n 1) (dTst (dB2 (bo gLt) (dB2 gAdd (dB2 gIx (dV 1) (dB1 gNeg (dC (.int 1)))) (dFld 0 .gap)) (dMeth C_Stream_limit 0 dNil))) (dV 1) [1])))
def C_Stream_closed : StFn := runS 0 0 1 G_Stream_closed
/-- slots: 0 self 1 moment 2 found -/
def G_Stream_push : Den Fl :=
  (dSeq (dIfS (dNot (dTst (dCall C_is_int (dCons (dV 1) (dCons (dC (.int 0)) (dCons (dC (.int 999)) dNil)))))) (dRaise .nu) dSkip)
    (dSeq (dIfS (dTst (dB2 (bo gLt) (dV 1) (dMeth C_Stream_limit 0 dNil))) (dRaise .la) dSkip)
    (dSeq (dSetLine 0 (dBL gSorted (dCons (dB2 gAdd (dFld 0 .line) (dBL gLstD (dCons (dV 1) dNil))) dNil)))
    (dSeq (dAsg 2 (dSl (dMeth C_Stream_closed 0 dNil) (dP (dFld 0 .told)) dNoP))
    (dSeq (dAugTold 0 (dBL gLen (dCons (dV 2) dNil)))
    (dRet (dV 2)))))))
def C_Stream_push : StFn := runS 0 1 1 G_Stream_push
/-- slots: 0 self -/
def G_Stream_open_groups : Den Fl :=
  (dRet (dSl (dIf (dTst (dB2 (bo gNe) (dFld 0 .line) (dBL gLstD dNil))) (dCall C_grouped (dCons (dFld 0 .line) (dCons (dFld 0 .gap) dNil))) (dBL gLstD dNil)) (dP (dBL gLen (dCons (dMeth C_Stream_closed 0 dNil) dNil))) dNoP))
def C_Stream_open_groups : StFn := runS 0 0 0 G_Stream_open_groups
/-- slots: 0 self -/
def G_Stream___len__ : Den Fl :=
  (dRet (dBL gLen (dCons (dFld 0 .line) dNil)))
def C_Stream___len__ : StFn := runS 0 0 0 G_Stream___len__
/-- slots: 0 self 1 found -/
def G_Stream_finish : Den Fl :=
  (dSeq (dAsg 1 (dSl (dIf (dTst (dB2 (bo gNe) (dFld 0 .line) (dBL gLstD dNil))) (dCall C_grouped (dCons (dFld 0 .line) (dCons (dFld 0 .gap) dNil))) (dBL gLstD dNil)) (dP (dFld 0 .told)) dNoP))
    (dSeq (dSetLine 0 (dBL gLstD dNil))
    (dSeq (dSetTold 0 (dC (.int 0)))
    (dRet (dV 1)))))
def C_Stream_finish : StFn := runS 0 0 1 G_Stream_finish
end GG

namespace GG
open PySem PySem.Spec PyProof.Rows L2

/-! ### how denotations are reckoned -/
def optR {α : Type} (o : Option α) (ρ : Env') : Res α := match o with
  | some d => .ok d ρ
  | none => .st
@[simp] theorem optR_some {α : Type} (a : α) (ρ : Env') : optR (some a) ρ = .ok a ρ := Eq.trans rfl rfl
section
variable {α β : Type} {ρ : Env'} {f f1 f2 f3 : Den D} {fs : Den (List D)} {c c1 c2 : Den Bool} {G G1 G2 : Den Fl}
@[simp] theorem bind_ok (a : α) (ρ : Env') (g : α → Env' → Res β) : (Res.ok a ρ).bind g = g a ρ := Eq.trans rfl rfl
@[simp] theorem bind_er (k : EK) (ρ : Env') (g : α → Env' → Res β) : (Res.er k ρ : Res α).bind g = .er k ρ := Eq.trans rfl rfl
@[simp] theorem bind_st (g : α → Env' → Res β) : (Res.st : Res α).bind g = .st := Eq.trans rfl rfl
@[simp] theorem at_ok (d : D) (ρ : Env') : (Out.ok d).at ρ = .ok d ρ := Eq.trans rfl rfl
@[simp] theorem at_er (k : EK) (ρ : Env') : (Out.er k).at ρ = .er k ρ := Eq.trans rfl rfl
@[simp] theorem ev_c (d : D) : dC d ρ = .ok d ρ := Eq.trans rfl rfl
@[simp] theorem ev_nil : dNil ρ = .ok [] ρ := Eq.trans rfl rfl
@[simp] theorem ev_cons : dCons f fs ρ = (f ρ).bind fun x ρ1 => (fs ρ1).bind fun xs ρ2 => .ok (x :: xs) ρ2 := Eq.trans rfl rfl
theorem ev_v {i : Nat} {d : D} (h : ρ[i]? = some (.val d)) : dV i ρ = .ok d ρ := by unfold dV; rw [h]
@[simp] theorem ev_v0 (d : D) (r : Env') : dV 0 (.val d :: r) = .ok d (.val d :: r) := Eq.trans rfl rfl
@[simp] theorem ev_v1 (a : Slot) (d : D) (r : Env') : dV 1 (a :: .val d :: r) = .ok d (a :: .val d :: r) := Eq.trans rfl rfl
@[simp] theorem ev_v2 (a b : Slot) (d : D) (r : Env') : dV 2 (a :: b :: .val d :: r) = .ok d (a :: b :: .val d :: r) := Eq.trans rfl rfl
@[simp] theorem ev_v3 (a b c : Slot) (d : D) (r : Env') : dV 3 (a :: b :: c :: .val d :: r) = .ok d (a :: b :: c :: .val d :: r) := Eq.trans rfl rfl
@[simp] theorem ev_v4 (a b c e : Slot) (d : D) (r : Env') : dV 4 (a :: b :: c :: e :: .val d :: r) = .ok d (a :: b :: c :: e :: .val d :: r) := Eq.trans rfl rfl
@[simp] theorem ev_v5 (a b c e f : Slot) (d : D) (r : Env') : dV 5 (a :: b :: c :: e :: f :: .val d :: r) = .ok d (a :: b :: c :: e :: f :: .val d :: r) := Eq.trans rfl rfl
@[simp] theorem ev_v6 (a b c e f g : Slot) (d : D) (r : Env') : dV 6 (a :: b :: c :: e :: f :: g :: .val d :: r) = .ok d (a :: b :: c :: e :: f :: g :: .val d :: r) := Eq.trans rfl rfl
@[simp] theorem ev_v7 (a b c e f g h : Slot) (d : D) (r : Env') : dV 7 (a :: b :: c :: e :: f :: g :: h :: .val d :: r) = .ok d (a :: b :: c :: e :: f :: g :: h :: .val d :: r) := Eq.trans rfl rfl
@[simp] theorem ev_v8 (a b c e f g h i : Slot) (d : D) (r : Env') : dV 8 (a :: b :: c :: e :: f :: g :: h :: i :: .val d :: r) = .ok d (a :: b :: c :: e :: f :: g :: h :: i :: .val d :: r) := Eq.trans rfl rfl
@[simp] theorem ev_v9 (a b c e f g h i j : Slot) (d : D) (r : Env') : dV 9 (a :: b :: c :: e :: f :: g :: h :: i :: j :: .val d :: r) = .ok d (a :: b :: c :: e :: f :: g :: h :: i :: j :: .val d :: r) := Eq.trans rfl rfl
@[simp] theorem ev_b1 {g : D → Option α} : dB1 g f ρ = (f ρ).bind fun x ρ1 => optR (g x) ρ1 := by
  unfold dB1 optR
  rfl
@[simp] theorem ev_b2 {g : D → D → Option α} : dB2 g f1 f2 ρ = (f1 ρ).bind fun x ρ1 => (f2 ρ1).bind fun y ρ2 => optR (g x y) ρ2 := by
  unfold dB2 optR
  rfl
@[simp] theorem ev_bl {g : List D → Option α} : dBL g fs ρ = (fs ρ).bind fun xs ρ1 => optR (g xs) ρ1 := by
  unfold dBL optR
  rfl
@[simp] theorem ev_call {P : PFn} : dCall P fs ρ = (fs ρ).bind fun ds ρ1 => (P ds).at ρ1 := Eq.trans rfl rfl
@[simp] theorem ev_tst : dTst f ρ = (f ρ).bind fun x ρ1 => optR (asB x) ρ1 := ev_b1
@[simp] theorem ev_and : dAnd c1 c2 ρ = (c1 ρ).bind fun b ρ1 => if b = true then c2 ρ1 else .ok false ρ1 := Eq.trans rfl rfl
@[simp] theorem ev_or : dOr c1 c2 ρ = (c1 ρ).bind fun b ρ1 => if b = true then .ok true ρ1 else c2 ρ1 := Eq.trans rfl rfl
@[simp] theorem ev_not : dNot c ρ = (c ρ).bind fun b ρ1 => .ok (!b) ρ1 := Eq.trans rfl rfl
@[simp] theorem ev_bo : dBo c ρ = (c ρ).bind fun b ρ1 => .ok (.bool b) ρ1 := Eq.trans rfl rfl
@[simp] theorem ev_if : dIf c f1 f2 ρ = (c ρ).bind fun b ρ1 => if b = true then f1 ρ1 else f2 ρ1 := Eq.trans rfl rfl
@[simp] theorem ev_yes : dYes ρ = .ok true ρ := Eq.trans rfl rfl
@[simp] theorem ev_chain {g g' : D → D → Option Bool} : dChain g g' f1 f2 f3 ρ = (f1 ρ).bind fun x ρ1 => (f2 ρ1).bind fun y ρ2 => (optR (g x y) ρ2).bind fun b ρ3 => if b = true then (f3 ρ3).bind fun z ρ4 => optR (g' y z) ρ4 else .ok false ρ3 := by
  unfold dChain
  congr 1
  funext x ρ1
  congr 1
  funext y ρ2
  cases g x y with
  | none => rfl
  | some b =>
    cases b with
    | false => rfl
    | true =>
      simp only [optR_some, bind_ok, if_true]
      congr 1
      funext z ρ3
      cases g' y z <;> rfl
@[simp] theorem ev_skip : dSkip ρ = .ok .nx ρ := Eq.trans rfl rfl
@[simp] theorem ev_exp {h : Den α} : dExp h ρ = (h ρ).bind fun _ ρ1 => .ok .nx ρ1 := Eq.trans rfl rfl
@[simp] theorem ev_ret : dRet f ρ = (f ρ).bind fun d ρ1 => .ok (.rt d) ρ1 := Eq.trans rfl rfl
@[simp] theorem ev_ifS : dIfS c G1 G2 ρ = (c ρ).bind fun b ρ1 => if b = true then G1 ρ1 else G2 ρ1 := Eq.trans rfl rfl
@[simp] theorem ev_asg {i : Nat} : dAsg i f ρ = (f ρ).bind fun d ρ1 => .ok .nx (ρ1.set i (.val d)) := Eq.trans rfl rfl
@[simp] theorem ev_raise {k : EK} : dRaise k ρ = .er k ρ := Eq.trans rfl rfl
@[simp] theorem ev_nop : dNoP ρ = .ok none ρ := Eq.trans rfl rfl
@[simp] theorem ev_p : dP f ρ = (f ρ).bind fun x ρ1 => optR (asI x) ρ1 := ev_b1
@[simp] theorem ev_sl {lo hi : Den (Option Int)} : dSl f lo hi ρ = (f ρ).bind fun d ρ1 => (lo ρ1).bind fun l ρ2 => (hi ρ2).bind fun h ρ3 => match d with | .list ds => .ok (.list (cutL ds l h)) ρ3 | _ => .st := Eq.trans rfl rfl
def seqR (r : Res Fl) (h : Den Fl) : Res Fl := match r with
  | .ok .nx ρ1 => h ρ1
  | r => r
@[simp] theorem ev_seq : dSeq G1 G2 ρ = seqR (G1 ρ) G2 := Eq.trans rfl rfl
@[simp] theorem seqR_nx : seqR (.ok .nx ρ) G = G ρ := Eq.trans rfl rfl
@[simp] theorem seqR_rt (d : D) : seqR (.ok (.rt d) ρ) G = .ok (.rt d) ρ := Eq.trans rfl rfl
@[simp] theorem seqR_er (k : EK) : seqR (.er k ρ) G = .er k ρ := Eq.trans rfl rfl
@[simp] theorem asB_b (b : Bool) : asB (.bool b) = some b := Eq.trans rfl rfl
@[simp] theorem asI_i (i : Int) : asI (.int i) = some (some i) := Eq.trans rfl rfl
@[simp] theorem asL_l (ds : List D) : asL (.list ds) = some ds := Eq.trans rfl rfl
@[simp] theorem asT_t (ds : List D) : asT (.tuple ds) = some ds := Eq.trans rfl rfl
@[simp] theorem gAdd_i (i j : Int) : gAdd (.int i) (.int j) = some (.int (i + j)) := Eq.trans rfl rfl
@[simp] theorem gSub_i (i j : Int) : gSub (.int i) (.int j) = some (.int (i - j)) := Eq.trans rfl rfl
@[simp] theorem gNeg_i (i : Int) : gNeg (.int i) = some (.int (-i)) := Eq.trans rfl rfl
@[simp] theorem gCmp_i (p : Int → Int → Bool) (i j : Int) : gCmp p (.int i) (.int j) = some (p i j) := Eq.trans rfl rfl
@[simp] theorem gLen_l (ds : List D) : gLen [.list ds] = some (.int ds.length) := Eq.trans rfl rfl
@[simp] theorem gLen_t (ds : List D) : gLen [.tuple ds] = some (.int ds.length) := Eq.trans rfl rfl
@[simp] theorem gIx_l (ds : List D) (i : Int) : gIx (.list ds) (.int i) = atI ds i := Eq.trans rfl rfl
@[simp] theorem gIx_t (ds : List D) (i : Int) : gIx (.tuple ds) (.int i) = atI ds i := Eq.trans rfl rfl
@[simp] theorem gIsA_ (T : Ty) (d : D) : gIsA T d = some (.bool (isA T d)) := Eq.trans rfl rfl
@[simp] theorem gIs_n (d : D) : gIs d .none = some (isN d) := Eq.trans rfl rfl
@[simp] theorem gIsNot_n (d : D) : gIsNot d .none = some (!isN d) := Eq.trans rfl rfl
@[simp] theorem gIs_b (a b : Bool) : gIs (.bool a) (.bool b) = some (decide (a = b)) := Eq.trans rfl rfl
@[simp] theorem gIsNot_b (a b : Bool) : gIsNot (.bool a) (.bool b) = some (!decide (a = b)) := Eq.trans rfl rfl
@[simp] theorem gRev_l (ds : List D) : gRev (.list ds) = some (.list ds.reverse) := Eq.trans rfl rfl
@[simp] theorem gAll_b (bs : List Bool) : gAll [.list (bs.map PyData.bool)] = some (.bool (bs.all id)) := by simp [gAll, boolsOf_map]
@[simp] theorem gSum_i (ns : List Int) : gSum [.list (ns.map PyData.int)] = some (.int ns.sum) := by simp [gSum, intsOf_map]
@[simp] theorem gSorted_i (ns : List Int) : gSorted [.list (ns.map PyData.int)] = some (.list ((isort ns).map PyData.int)) := by simp [gSorted, intsOf_map]
theorem gMax_i {ns : List Int} (h : ns ≠ []) : gMax [.list (ns.map PyData.int)] = some (.int (mx ns)) := by simp [gMax, intsOf_map, h]
theorem gMin_i {ns : List Int} (h : ns ≠ []) : gMin [.list (ns.map PyData.int)] = some (.int (mn ns)) := by simp [gMin, intsOf_map, h]
@[simp] theorem gMax_2 (i j : Int) : gMax [.int i, .int j] = some (.int (max i j)) := by
  simp only [gMax]
  congr 2
  omega
@[simp] theorem gMin_2 (i j : Int) : gMin [.int i, .int j] = some (.int (min i j)) := by
  simp only [gMin]
  congr 2
  omega
theorem gRng1_i {j : Int} (h1 : -1000000 ≤ j) (h2 : j ≤ 1000000) : gRng1 [.int j] = some (rng 0 j) := by
  simp only [gRng1]
  rw [if_pos ⟨by omega, by omega⟩]
theorem gRng2_i {i j : Int} (h1 : -1000000 ≤ i ∧ i ≤ 1000000) (h2 : -1000000 ≤ j ∧ j ≤ 1000000) : gRng2 [.int i, .int j] = some (rng i j) := by
  simp only [gRng2]
  rw [if_pos ⟨by omega, by omega, by omega, by omega⟩]
@[simp] theorem gZip_l (xs ys : List D) : gZip [.list xs, .list ys] = some (zipD xs ys) := Eq.trans rfl rfl
end

def outOf (r : Res Fl) : Out := match r with
  | .ok .nx _ => .ok .none
  | .ok (.rt d) _ => .ok d
  | .er k _ => .er k
  | .st => .st
@[simp] theorem outOf_nx (ρ : Env') : outOf (.ok .nx ρ) = .ok .none := Eq.trans rfl rfl
@[simp] theorem outOf_rt (d : D) (ρ : Env') : outOf (.ok (.rt d) ρ) = .ok d := Eq.trans rfl rfl
@[simp] theorem outOf_er (k : EK) (ρ : Env') : outOf (.er k ρ) = .er k := Eq.trans rfl rfl
theorem runP1 (m : Nat) (G : Den Fl) (a : D) : runP 1 m G [a] = outOf (G (.val a :: List.replicate m .emp)) := rfl
theorem runP2 (m : Nat) (G : Den Fl) (a b : D) : runP 2 m G [a, b] = outOf (G (.val a :: .val b :: List.replicate m .emp)) := rfl
theorem runP3 (m : Nat) (G : Den Fl) (a b c : D) : runP 3 m G [a, b, c] = outOf (G (.val a :: .val b :: .val c :: List.replicate m .emp)) := rfl
theorem runP4 (m : Nat) (G : Den Fl) (a b c d : D) : runP 4 m G [a, b, c, d] = outOf (G (.val a :: .val b :: .val c :: .val d :: List.replicate m .emp)) := rfl
@[simp] theorem ite_ok {α : Type} (p : Prop) [Decidable p] (a b : α) (ρ : Env') : (if p then Res.ok a ρ else Res.ok b ρ) = Res.ok (if p then a else b) ρ := by split <;> rfl
@[simp] theorem put_n (i : Nat) (d : D) (ρ : Env') : (Tg.n i).put d ρ = some (ρ.set i (.val d)) := Eq.trans rfl rfl

/-! ### comprehensions whose parts leave the names as they are -/
theorem compLoop_pure {g : Tg} {c : Den Bool} {f : Den D} {vs : List Nat} {ρ0 : Env'} (P : D → Bool) (F : D → D) : ∀ (ds acc : List D), (∀ d, d ∈ ds → ∃ ρ1, g.put d ρ0 = some ρ1 ∧ c ρ1 = .ok (P d) ρ1 ∧ (P d = true → f ρ1 = .ok (F d) ρ1) ∧ wipeE ρ1 vs = ρ0) → acc.length + ds.length ≤ 100000 →
    compLoop g c f vs ds acc ρ0 = .ok (acc ++ (ds.filter P).map F) ρ0
  | [], acc, _, _ => by simp [compLoop]
  | d :: ds, acc, h, hl => by
    obtain ⟨ρ1, h1, h2, h3, h4⟩ := h d List.mem_cons_self
    have hl' : acc.length + (ds.length + 1) ≤ 100000 := by simpa using hl
    unfold compLoop
    rw [h1]
    dsimp only
    rw [h2]
    cases hp : P d with
    | true =>
      simp only [noer, bind_ok, if_true, h3 hp]
      rw [if_pos (show acc.length < 100000 by omega), h4, compLoop_pure P F ds (acc ++ [F d]) (fun e he => h e (List.mem_cons_of_mem _ he)) (by simp; omega)]
      simp [List.filter_cons, hp]
    | false =>
      simp only [noer, bind_ok, Bool.false_eq_true, if_false]
      rw [h4, compLoop_pure P F ds acc (fun e he => h e (List.mem_cons_of_mem _ he)) (by omega)]
      simp [List.filter_cons, hp]
/-- its names hold nothing before -/
theorem dLc_pure {it : Den (List D)} {g : Tg} {c : Den Bool} {f : Den D} {vs : List Nat} {ρ ρ1 : Env'} {ds : List D} (P : D → Bool) (F : D → D) (hi : it ρ = .ok ds ρ1) (he : ∀ v, v ∈ vs → ρ1[v]? = some .emp)
    (h : ∀ d, d ∈ ds → ∃ ρ2, g.put d ρ1 = some ρ2 ∧ c ρ2 = .ok (P d) ρ2 ∧ (P d = true → f ρ2 = .ok (F d) ρ2) ∧ wipeE ρ2 vs = ρ1) (hl : ds.length ≤ 100000) : dLc it g c f vs ρ = .ok (.list ((ds.filter P).map F)) ρ1 := by
  have w1 : ∀ vs : List Nat, (∀ v, v ∈ vs → ρ1[v]? = some .emp) → wipeE ρ1 vs = ρ1 ∧ restore ρ1 ρ1 vs = ρ1 ∧ (vs.all fun v => plainS (ρ1.getD v .emp)) = true := by
    intro vs
    induction vs with
    | nil => intro _; exact ⟨rfl, rfl, rfl⟩
    | cons v vs ih =>
      intro hv
      obtain ⟨a, b, e⟩ := ih fun u hu => hv u (List.mem_cons_of_mem _ hu)
      have hv0 := hv v List.mem_cons_self
      have hs : ρ1.set v .emp = ρ1 := by
        refine List.ext_getElem? fun j => ?_
        by_cases q : v = j
        · subst q
          rw [List.getElem?_set_self (List.getElem?_eq_some_iff.mp hv0).1, hv0]
        · rw [List.getElem?_set_ne q]
      have hg : ρ1.getD v .emp = .emp := by rw [List.getD_eq_getElem?_getD, hv0]; rfl
      refine ⟨by unfold wipeE; rw [a, hs], by unfold restore; rw [b, hg, hs], ?_⟩
      rw [List.all_cons, e, hg]
      rfl
  obtain ⟨a, b, e⟩ := w1 vs he
  unfold dLc
  rw [hi, bind_ok, if_pos e, a, compLoop_pure P F ds [] h (by simpa using hl), bind_ok, b]
  simp
theorem dLc_map {ι : Type} {it : Den (List D)} {g : Tg} {c : Den Bool} {f : Den D} {vs : List Nat} {ρ ρ1 : Env'} (φ : ι → D) (xs : List ι) (P : ι → Bool) (F : ι → D) (hi : it ρ = .ok (xs.map φ) ρ1) (he : ∀ v, v ∈ vs → ρ1[v]? = some .emp)
    (h : ∀ x, x ∈ xs → ∃ ρ2, g.put (φ x) ρ1 = some ρ2 ∧ c ρ2 = .ok (P x) ρ2 ∧ (P x = true → f ρ2 = .ok (F x) ρ2) ∧ wipeE ρ2 vs = ρ1) (hl : xs.length ≤ 100000) : dLc it g c f vs ρ = .ok (.list ((xs.filter P).map F)) ρ1 := by
  have w1 : ∀ vs : List Nat, (∀ v, v ∈ vs → ρ1[v]? = some .emp) → wipeE ρ1 vs = ρ1 ∧ restore ρ1 ρ1 vs = ρ1 ∧ (vs.all fun v => plainS (ρ1.getD v .emp)) = true := by
    intro vs
    induction vs with
    | nil => intro _; exact ⟨rfl, rfl, rfl⟩
    | cons v vs ih =>
      intro hv
      obtain ⟨a, b, e⟩ := ih fun u hu => hv u (List.mem_cons_of_mem _ hu)
      have hv0 := hv v List.mem_cons_self
      have hs : ρ1.set v .emp = ρ1 := by
        refine List.ext_getElem? fun j => ?_
        by_cases q : v = j
        · subst q
          rw [List.getElem?_set_self (List.getElem?_eq_some_iff.mp hv0).1, hv0]
        · rw [List.getElem?_set_ne q]
      have hg : ρ1.getD v .emp = .emp := by rw [List.getD_eq_getElem?_getD, hv0]; rfl
      refine ⟨by unfold wipeE; rw [a, hs], by unfold restore; rw [b, hg, hs], ?_⟩
      rw [List.all_cons, e, hg]
      rfl
  obtain ⟨a, b, e⟩ := w1 vs he
  have loop : ∀ (xs : List ι) (acc : List D), (∀ x, x ∈ xs → ∃ ρ2, g.put (φ x) ρ1 = some ρ2 ∧ c ρ2 = .ok (P x) ρ2 ∧ (P x = true → f ρ2 = .ok (F x) ρ2) ∧ wipeE ρ2 vs = ρ1) → acc.length + xs.length ≤ 100000 → compLoop g c f vs (xs.map φ) acc ρ1 = .ok (acc ++ (xs.filter P).map F) ρ1 := by
    intro xs
    induction xs with
    | nil => intro acc _ _; simp [compLoop]
    | cons x xs ih =>
      intro acc h hl
      obtain ⟨ρ2, h1, h2, h3, h4⟩ := h x List.mem_cons_self
      have hl' : acc.length + (xs.length + 1) ≤ 100000 := by simpa using hl
      rw [List.map_cons]
      unfold compLoop
      rw [h1]
      dsimp only
      rw [h2]
      cases hp : P x with
      | true =>
        simp only [noer, bind_ok, if_true, h3 hp]
        rw [if_pos (show acc.length < 100000 by omega), h4, ih (acc ++ [F x]) (fun e he => h e (List.mem_cons_of_mem _ he)) (by simp; omega)]
        simp [List.filter_cons, hp]
      | false =>
        simp only [noer, bind_ok, Bool.false_eq_true, if_false]
        rw [h4, ih acc (fun e he => h e (List.mem_cons_of_mem _ he)) (by omega)]
        simp [List.filter_cons, hp]
  unfold dLc
  rw [hi, bind_ok, if_pos e, a, loop xs [] h (by simpa using hl), bind_ok, b]
  simp
/-- without a test -/
theorem dLc_all {ι : Type} {it : Den (List D)} {g : Tg} {f : Den D} {vs : List Nat} {ρ ρ1 : Env'} (φ : ι → D) (xs : List ι) (F : ι → D) (hi : it ρ = .ok (xs.map φ) ρ1) (he : ∀ v, v ∈ vs → ρ1[v]? = some .emp)
    (h : ∀ x, x ∈ xs → ∃ ρ2, g.put (φ x) ρ1 = some ρ2 ∧ f ρ2 = .ok (F x) ρ2 ∧ wipeE ρ2 vs = ρ1) (hl : xs.length ≤ 100000) : dLc it g dYes f vs ρ = .ok (.list (xs.map F)) ρ1 := by
  have := dLc_map (c := dYes) φ xs (fun _ => true) F hi he (fun x hx => by
    obtain ⟨ρ2, h1, h2, h3⟩ := h x hx
    exact ⟨ρ2, h1, rfl, fun _ => h2, h3⟩) hl
  rw [this, List.filter_eq_self.mpr (fun _ _ => rfl)]
theorem rng_map (lo hi : Int) : rng lo hi = (List.range (hi - lo).toNat).map fun k => PyData.int (lo + (k : Nat)) := rfl
theorem rng0 (n : Nat) : rng 0 (n : Int) = (List.range n).map fun k => PyData.int ((k : Nat) : Int) := by
  rw [rng_map]
  simp
theorem mem_rng {lo hi : Int} {d : D} (h : d ∈ rng lo hi) : ∃ k : Int, d = .int k ∧ lo ≤ k ∧ k < hi := by
  unfold rng at h
  obtain ⟨n, hn, rfl⟩ := List.mem_map.mp h
  have := List.mem_range.mp hn
  exact ⟨lo + n, rfl, by omega, by omega⟩
/-- the moment at a place -/
def nth (ms : List Int) (k : Nat) : Int := ms.getD k 0
theorem nth_eq {ms : List Int} {k : Nat} (h : k < ms.length) : nth ms k = ms[k] := by simp [nth, List.getD_eq_getElem?_getD, h]
theorem nth_some {ms : List Int} {k : Nat} (h : k < ms.length) : ms[k]? = some (nth ms k) := by rw [nth_eq h, List.getElem?_eq_getElem h]
theorem atI_int {ms : List Int} {i : Int} (h0 : 0 ≤ i) (h1 : i < ms.length) : atI (ms.map PyData.int) i = some (.int (nth ms i.toNat)) := by
  obtain ⟨n, rfl⟩ : ∃ n : Nat, i = n := ⟨i.toNat, by omega⟩
  have hn : n < ms.length := by omega
  refine atI_nat ?_
  rw [List.getElem?_map, nth_some hn]
  rfl
theorem atI_intL {ms : List Int} (h : ms ≠ []) : atI (ms.map PyData.int) (-1) = some (.int (ms.getLastD 0)) := by
  obtain ⟨l, z, rfl⟩ : ∃ l z, ms = l ++ [z] := ⟨ms.dropLast, ms.getLast h, (List.dropLast_concat_getLast h).symm⟩
  rw [List.map_append]
  have := atI_last (l.map PyData.int) (PyData.int z)
  simpa using this
theorem atI_int0 {ms : List Int} (h : ms ≠ []) : atI (ms.map PyData.int) 0 = some (.int (ms.headD 0)) := by
  cases ms with
  | nil => exact absurd rfl h
  | cons x r => exact atI_nat (j := 0) rfl

/-! ### is_int .. check_place -/
def isI (d : D) (lo hi : Int) : Bool := match d with
  | .int i => decide (lo ≤ i) && decide (i ≤ hi)
  | _ => false
theorem c_is_int (d : D) (lo hi : Int) : C_is_int [d, .int lo, .int hi] = .ok (.bool (isI d lo hi)) := by
  rw [C_is_int, runP3]
  cases d <;> simp [G_is_int, isA, isI]
/-- moments, a place's value -/
structure Mom (ms : List Int) : Prop where
  ne : ms ≠ []
  len : ms.length ≤ 12
  bd : ∀ m, m ∈ ms → 0 ≤ m ∧ m ≤ 999
  asc : ∀ k : Nat, k + 1 < ms.length → nth ms k ≤ nth ms (k + 1)
theorem c_is_moments {ms : List Int} (h : Mom ms) : C_is_moments [iL ms] = .ok (.bool true) := by
  rw [C_is_moments, runP1, G_is_moments]
  have h1 := h.len
  have h0 : 1 ≤ ms.length := List.length_pos_iff.mpr h.ne
  have l1 := dLc_all (it := dB1 asL (dV 0)) (g := .n 2) (f := dCall C_is_int (dCons (dV 2) (dCons (dC (.int 0)) (dCons (dC (.int 999)) dNil)))) (vs := [2]) (ρ := [.val (iL ms), .emp, .emp]) (ρ1 := [.val (iL ms), .emp, .emp]) PyData.int ms (fun _ => .bool true) rfl (by simp) (fun x hx => by
      have := h.bd x hx
      refine ⟨_, rfl, ?_, rfl⟩
      simp [c_is_int, isI, this.1, this.2]) (by omega)
  have l2 := dLc_all (it := dBL gRng1 (dCons (dB2 gSub (dBL gLen (dCons (dV 0) dNil)) (dC (.int 1))) dNil)) (g := .n 1) (f := dB2 (bo gLe) (dB2 gIx (dV 0) (dV 1)) (dB2 gIx (dV 0) (dB2 gAdd (dV 1) (dC (.int 1))))) (vs := [1]) (ρ := [.val (iL ms), .emp, .emp]) (ρ1 := [.val (iL ms), .emp, .emp])
    (fun k : Nat => PyData.int (k : Int)) (List.range (ms.length - 1)) (fun _ => .bool true) (by
      simp only [ev_bl, ev_cons, ev_b2, ev_v0, ev_c, ev_nil, bind_ok, iL, gLen_l, optR_some, gSub_i, List.length_map]
      rw [gRng1_i (by omega) (by omega), show (ms.length : Int) - 1 = ((ms.length - 1 : Nat) : Int) by omega, rng0]
      rfl) (by simp) (fun x hx => by
      have hx := List.mem_range.mp hx
      have e1 := atI_int (ms := ms) (i := x) (by omega) (by omega)
      have e2 := atI_int (ms := ms) (i := x + 1) (by omega) (by omega)
      have := h.asc x (by omega)
      refine ⟨_, rfl, ?_, rfl⟩
      simp [iL, e1, e2, bo, show ((x : Int) + 1).toNat = x + 1 by omega, this]) (by simp; omega)
  have a1 : gAll [.list (ms.map fun _ => PyData.bool true)] = some (.bool true) := by
    rw [show (ms.map fun _ => PyData.bool true) = (ms.map fun _ => true).map PyData.bool by simp, gAll_b]
    simp
  have a2 : gAll [.list ((List.range (ms.length - 1)).map fun _ => PyData.bool true)] = some (.bool true) := by
    rw [show ((List.range (ms.length - 1)).map fun _ => PyData.bool true) = ((List.range (ms.length - 1)).map fun _ => true).map PyData.bool by simp, gAll_b]
    simp
  have c1 : (1 : Int) ≤ ms.length := by omega
  have c2 : (ms.length : Int) ≤ 12 := by omega
  have e1 : gLen [iL ms] = some (.int ms.length) := by simp [iL]
  have e2 : isA .list (iL ms) = true := rfl
  simp [e1, e2, c1, c2, l1, l2, a1, a2]
theorem c_check_moments {ms : List Int} (h : Mom ms) : C_check_moments [iL ms] = .ok .none := by
  rw [C_check_moments, runP1, G_check_moments]
  simp [c_is_moments h]
def Gap (g : Int) : Prop := 0 ≤ g ∧ g ≤ 999
theorem c_check_gap {g : Int} (h : Gap g) : C_check_gap [.int g] = .ok .none := by
  rw [C_check_gap, runP1, G_check_gap]
  simp [c_is_int, isI, h.1, h.2]
theorem c_check_place {ms : List Int} {k : Int} (h0 : 0 ≤ k) (h1 : k < ms.length) : C_check_place [iL ms, .int k] = .ok .none := by
  rw [C_check_place, runP2, G_check_place]
  have e1 : gLen [iL ms] = some (.int ms.length) := by simp [iL]
  have : k ≤ (ms.length : Int) - 1 := by omega
  simp [c_is_int, isI, e1, h0, this]
end GG

namespace GG
/-! ### groups, from the head -/
theorem bld_pre (c : List Int → Int → Bool) : ∀ (r : List Int) (gs0 : List (List Int)) (l : List Int), bld c (gs0 ++ [l]) r = gs0 ++ bld c [l] r
  | [], _, _ => rfl
  | z :: r, gs0, l => by
    show bld c (addTo c (gs0 ++ [l]) z) r = gs0 ++ bld c (addTo c ([] ++ [l]) z) r
    rw [addTo_last, addTo_last]
    split
    · rw [bld_pre c r (gs0 ++ [l]) [z], bld_pre c r ([] ++ [l]) [z]]
      simp
    · rw [bld_pre c r gs0 (l ++ [z])]
      rfl
/-- a moment ahead of the first group -/
def consG (x : Int) : List (List Int) → List (List Int)
  | [] => [[x]]
  | h :: t => (x :: h) :: t
def preG (p : List Int) : List (List Int) → List (List Int)
  | [] => []
  | h :: t => (p ++ h) :: t
theorem bld_gap (g : Int) : ∀ (r p : List Int) (x : Int), bld (cGap g) [p ++ [x]] r = preG p (bld (cGap g) [[x]] r)
  | [], p, x => rfl
  | z :: r, p, x => by
    show bld (cGap g) (addTo (cGap g) ([] ++ [p ++ [x]]) z) r = preG p (bld (cGap g) (addTo (cGap g) ([] ++ [[x]]) z) r)
    rw [addTo_last, addTo_last]
    have e1 : cGap g (p ++ [x]) z = cGap g [x] z := by simp [cGap]
    rw [e1]
    split
    · rw [bld_pre, bld_pre]
      rfl
    · show bld (cGap g) [(p ++ [x]) ++ [z]] r = preG p (bld (cGap g) [[x] ++ [z]] r)
      rw [bld_gap g r (p ++ [x]) z, bld_gap g r [x] z]
      cases bld (cGap g) [[z]] r with
      | nil => rfl
      | cons h t => simp [preG]
theorem bld_ne (c : List Int → Int → Bool) : ∀ (r : List Int) (gs : List (List Int)), gs ≠ [] → bld c gs r ≠ []
  | [], _, h => h
  | z :: r, gs, h => by
    show bld c (addTo c gs z) r ≠ []
    refine bld_ne c r _ ?_
    unfold addTo
    split <;> simp
theorem grp_one (g x : Int) : grp g [x] = [[x]] := rfl
theorem grp_cons (g x y : Int) (r : List Int) : grp g (x :: y :: r) = if y - x > g then [x] :: grp g (y :: r) else consG x (grp g (y :: r)) := by
  show bld (cGap g) (addTo (cGap g) ([] ++ [[x]]) y) r = _
  rw [addTo_last]
  have e1 : cGap g [x] y = decide (y - x > g) := by simp [cGap]
  rw [e1]
  by_cases h : y - x > g
  · rw [if_pos (decide_eq_true h), if_pos h, bld_pre]
    rfl
  · rw [if_neg (by simp [h]), if_neg h]
    show bld (cGap g) [[x] ++ [y]] r = consG x (bld (cGap g) [[y]] r)
    rw [bld_gap]
    cases e : bld (cGap g) [[y]] r with
    | nil => exact absurd e (bld_ne _ _ _ (by simp))
    | cons h t => rfl
theorem grp_ne {g : Int} {ms : List Int} (h : ms ≠ []) : grp g ms ≠ [] := by
  cases ms with
  | nil => exact absurd rfl h
  | cons x r => exact bld_ne _ _ _ (by simp)
/-- neighbours differ by at most g -/
def Near (g : Int) : List Int → Prop
  | x :: y :: r => y - x ≤ g ∧ Near g (y :: r)
  | _ => True
/-- between groups the step is greater -/
def Far (g : Int) : List (List Int) → Prop
  | a :: b :: r => b.headD 0 - a.getLastD 0 > g ∧ Far g (b :: r)
  | _ => True
structure IsG (g : Int) (gs : List (List Int)) : Prop where
  ne : ∀ l, l ∈ gs → l ≠ []
  near : ∀ l, l ∈ gs → Near g l
  far : Far g gs
theorem grp_flat (g : Int) : ∀ ms : List Int, (grp g ms).flatten = ms
  | [] => rfl
  | [x] => rfl
  | x :: y :: r => by
    rw [grp_cons]
    have ih := grp_flat g (y :: r)
    split
    · simp [ih]
    · cases e : grp g (y :: r) with
      | nil => exact absurd e (grp_ne (by simp))
      | cons h t => rw [e] at ih; simpa [consG] using ih
theorem grp_head (g x : Int) (r : List Int) : ∃ h t, grp g (x :: r) = (x :: h) :: t := by
  have h1 := grp_flat g (x :: r)
  cases r with
  | nil => exact ⟨[], [], rfl⟩
  | cons y r =>
    rw [grp_cons] at h1 ⊢
    split
    · exact ⟨[], _, rfl⟩
    · cases e : grp g (y :: r) with
      | nil => exact absurd e (grp_ne (by simp))
      | cons h t => exact ⟨h, t, rfl⟩
theorem grp_isG (g : Int) : ∀ ms : List Int, IsG g (grp g ms)
  | [] => ⟨fun _ h => (nomatch h), fun _ h => (nomatch h), True.intro⟩
  | [x] => ⟨fun l h => (by cases List.mem_singleton.mp h; simp), fun l h => (by cases List.mem_singleton.mp h; exact True.intro), True.intro⟩
  | x :: y :: r => by
    have ih := grp_isG g (y :: r)
    obtain ⟨h, t, e⟩ := grp_head g y r
    rw [grp_cons]
    rw [e] at ih ⊢
    split
    · rename_i hc
      exact ⟨fun l hl => by
        rcases List.mem_cons.mp hl with rfl | hl
        · simp
        · exact ih.ne l hl, fun l hl => by
        rcases List.mem_cons.mp hl with rfl | hl
        · exact True.intro
        · exact ih.near l hl, ⟨by simpa using hc, ih.far⟩⟩
    · rename_i hc
      refine ⟨fun l hl => ?_, fun l hl => ?_, ?_⟩
      · rcases List.mem_cons.mp hl with rfl | hl
        · simp
        · exact ih.ne l (List.mem_cons_of_mem _ hl)
      · rcases List.mem_cons.mp hl with rfl | hl
        · exact ⟨by omega, ih.near _ List.mem_cons_self⟩
        · exact ih.near l (List.mem_cons_of_mem _ hl)
      · have f := ih.far
        cases t with
        | nil => exact True.intro
        | cons b t => exact ⟨by simpa using f.1, f.2⟩
/-- only the groups are such -/
theorem isG_unique {g : Int} : ∀ {ms : List Int} {gs : List (List Int)}, gs.flatten = ms → IsG g gs → gs = grp g ms
  | ms, [], h, _ => by simp at h; subst h; rfl
  | ms, [] :: t, _, H => absurd rfl (H.ne [] List.mem_cons_self)
  | ms, [x] :: [], h, _ => by simp at h; subst h; rfl
  | ms, [x] :: [] :: t, _, H => absurd rfl (H.ne [] (by simp))
  | ms, [x] :: (y :: l) :: t, h, H => by
    have ht : IsG g ((y :: l) :: t) := ⟨fun l hl => H.ne l (List.mem_cons_of_mem _ hl), fun l hl => H.near l (List.mem_cons_of_mem _ hl), H.far.2⟩
    have ih := isG_unique (ms := ((y :: l) :: t).flatten) rfl ht
    have f : y - x > g := by simpa using H.far.1
    subst h
    show _ = grp g (x :: y :: (l ++ t.flatten))
    rw [grp_cons, if_pos f, ih]
    rfl
  | ms, (x :: y :: l) :: t, h, H => by
    have hn := H.near _ List.mem_cons_self
    have ht : IsG g ((y :: l) :: t) := ⟨fun l' hl => by
        rcases List.mem_cons.mp hl with rfl | hl
        · simp
        · exact H.ne l' (List.mem_cons_of_mem _ hl), fun l' hl => by
        rcases List.mem_cons.mp hl with rfl | hl
        · exact hn.2
        · exact H.near l' (List.mem_cons_of_mem _ hl), by
        have f := H.far
        cases t with
        | nil => exact True.intro
        | cons b t => exact ⟨by simpa using f.1, f.2⟩⟩
    have ih := isG_unique (ms := ((y :: l) :: t).flatten) rfl ht
    subst h
    show _ = grp g (x :: y :: (l ++ t.flatten))
    have f : ¬ y - x > g := by have := hn.1; omega
    rw [grp_cons, if_neg f]
    have e2 : ((y :: l) :: t).flatten = y :: (l ++ t.flatten) := by simp
    rw [e2] at ih
    rw [← ih]
    rfl
termination_by ms gs => gs.flatten.length + gs.length

/-! ### steps -/
def stp : List Int → List Int
  | x :: y :: r => (y - x) :: stp (y :: r)
  | _ => []
theorem stp_len : ∀ ms : List Int, (stp ms).length = ms.length - 1
  | [] => rfl
  | [_] => rfl
  | x :: y :: r => by simp [stp, stp_len (y :: r)]
theorem grp_count (g : Int) : ∀ ms : List Int, ms ≠ [] → (grp g ms).length = 1 + ((stp ms).filter fun s => decide (g < s)).length
  | [], h => absurd rfl h
  | [x], _ => rfl
  | x :: y :: r, _ => by
    have ih := grp_count g (y :: r) (by simp)
    rw [grp_cons]
    unfold stp
    by_cases h : y - x > g
    · rw [if_pos h, List.filter_cons, if_pos (by simpa using h)]
      simp [ih]
      omega
    · rw [if_neg h, List.filter_cons, if_neg (by simpa using h)]
      cases e : grp g (y :: r) with
      | nil => exact absurd e (grp_ne (by simp))
      | cons a t => rw [e] at ih; simpa [consG] using ih
end GG

namespace GG
open PySem PySem.Spec PyProof.Rows L2

/-! ### cuts and slices -/
def sl (ms : List Int) (a b : Nat) : List Int := (ms.drop a).take (b - a)
/-- the places ahead of which is cut, counted from a -/
def cutsF (g : Int) (a : Nat) : List Int → List Nat
  | x :: y :: r => if y - x > g then (a + 1) :: cutsF g (a + 1) (y :: r) else cutsF g (a + 1) (y :: r)
  | _ => []
theorem cutsF_succ (g : Int) : ∀ (ms : List Int) (a : Nat), cutsF g (a + 1) ms = (cutsF g a ms).map (· + 1)
  | [], _ => rfl
  | [_], _ => rfl
  | x :: y :: r, a => by
    unfold cutsF
    rw [cutsF_succ g (y :: r) (a + 1)]
    split <;> simp
def pieces (ms : List Int) (cs : List Nat) : List (List Int) := ((0 :: cs).zip (cs ++ [ms.length])).map fun p => sl ms p.1 p.2
theorem sl_cons (x : Int) (ms : List Int) (a b : Nat) : sl (x :: ms) (a + 1) (b + 1) = sl ms a b := by
  unfold sl
  rw [List.drop_succ_cons, Nat.add_sub_add_right]
theorem sl_zero (x : Int) (ms : List Int) (b : Nat) : sl (x :: ms) 0 (b + 1) = x :: sl ms 0 b := by simp [sl]
theorem zip_shift (x : Int) (ms : List Int) : ∀ (as bs : List Nat), ((as.map (· + 1)).zip (bs.map (· + 1))).map (fun p => sl (x :: ms) p.1 p.2) = (as.zip bs).map fun p => sl ms p.1 p.2
  | [], _ => by simp
  | _ :: _, [] => by simp
  | a :: as, b :: bs => by
    have := zip_shift x ms as bs
    simp only [List.map_cons, List.zip_cons_cons, sl_cons]
    rw [this]
theorem pieces_cons (x : Int) (ms : List Int) (cs : List Nat) : pieces (x :: ms) (cs.map (· + 1)) = consG x (pieces ms cs) := by
  unfold pieces
  cases cs with
  | nil => simp [consG, sl]
  | cons c cs =>
    have e : (x :: ms).length = ms.length + 1 := rfl
    have z := zip_shift x ms (c :: cs) (cs ++ [ms.length])
    simp only [List.map_cons, List.cons_append, List.zip_cons_cons, consG, sl_zero, e] at z ⊢
    rw [← z]
    simp
theorem pieces_cut (x : Int) (ms : List Int) (cs : List Nat) : pieces (x :: ms) (1 :: cs.map (· + 1)) = [x] :: pieces ms cs := by
  unfold pieces
  have z := zip_shift x ms (0 :: cs) (cs ++ [ms.length])
  simp only [List.map_cons, List.cons_append, List.zip_cons_cons, List.length_cons] at z ⊢
  rw [← z]
  simp [sl]
theorem grp_pieces (g : Int) : ∀ ms : List Int, ms ≠ [] → grp g ms = pieces ms (cutsF g 0 ms)
  | [], h => absurd rfl h
  | [x], _ => by simp [grp_one, pieces, cutsF, sl]
  | x :: y :: r, _ => by
    have ih := grp_pieces g (y :: r) (by simp)
    rw [grp_cons]
    unfold cutsF
    rw [cutsF_succ g (y :: r) 0]
    split
    · rw [pieces_cut, ← ih]
    · rw [pieces_cons, ← ih]
theorem nth_cons (x : Int) (ms : List Int) (k : Nat) : nth (x :: ms) (k + 1) = nth ms k := by simp [nth]
theorem cuts_filter (g : Int) : ∀ (ms : List Int) (a : Nat), ((List.range (ms.length - 1)).filter fun k => decide (nth ms (k + 1) - nth ms k > g)).map (· + (a + 1)) = cutsF g a ms
  | [], _ => rfl
  | [_], _ => rfl
  | x :: y :: r, a => by
    have ih := cuts_filter g (y :: r) (a + 1)
    have e1 : (x :: y :: r).length - 1 = ((y :: r).length - 1) + 1 := by simp
    rw [e1, List.range_succ_eq_map, List.filter_cons, List.filter_map]
    have e2 : ((fun k => decide (nth (x :: y :: r) (k + 1) - nth (x :: y :: r) k > g)) ∘ Nat.succ) = fun k => decide (nth (y :: r) (k + 1) - nth (y :: r) k > g) := by
      funext k
      simp [nth_cons]
    rw [e2]
    unfold cutsF
    rw [← ih]
    have e3 : (nth (x :: y :: r) (0 + 1) - nth (x :: y :: r) 0 > g) ↔ y - x > g := by simp [nth]
    by_cases h : y - x > g
    · rw [if_pos (decide_eq_true (e3.mpr h)), if_pos h]
      simp only [List.map_cons, List.map_map]
      refine congr (congrArg _ (by omega)) (List.map_congr_left fun k _ => ?_)
      simp
      omega
    · rw [if_neg (by simpa using fun z => h (e3.mp z)), if_neg h]
      simp only [List.map_map]
      refine List.map_congr_left fun k _ => ?_
      simp
      omega
theorem cutsF_bd (g : Int) : ∀ (ms : List Int) (a c : Nat), c ∈ cutsF g a ms → a < c ∧ c < a + ms.length
  | [], _, _, h => by cases h
  | [_], _, _, h => by cases h
  | x :: y :: r, a, c, h => by
    unfold cutsF at h
    have ih := cutsF_bd g (y :: r) (a + 1) c
    simp only [List.length_cons] at ih ⊢
    split at h
    · rcases List.mem_cons.mp h with rfl | h
      · omega
      · have := ih h; omega
    · have := ih h; omega
theorem zipD_ints : ∀ as bs : List Nat, zipD (as.map fun k : Nat => PyData.int (k : Int)) (bs.map fun k : Nat => PyData.int (k : Int)) = (as.zip bs).map fun p => PyData.tuple [.int (p.1 : Int), .int (p.2 : Int)]
  | [], _ => by simp [zipD]
  | _ :: _, [] => by simp [zipD]
  | a :: as, b :: bs => by simp [zipD, zipD_ints as bs]
theorem sorted_cuts (g : Int) : ∀ (ms : List Int) (a : Nat), (cutsF g a ms).Pairwise (· < ·)
  | [], _ => .nil
  | [_], _ => .nil
  | x :: y :: r, a => by
    unfold cutsF
    split
    · exact List.pairwise_cons.mpr ⟨fun c hc => (cutsF_bd g (y :: r) (a + 1) c hc).1, sorted_cuts g (y :: r) (a + 1)⟩
    · exact sorted_cuts g (y :: r) (a + 1)
theorem cutL_nat {ms : List Int} {a b : Nat} (ha : a ≤ ms.length) (hb : b ≤ ms.length) : cutL (ms.map PyData.int) (some (a : Int)) (some (b : Int)) = (sl ms a b).map PyData.int := by
  unfold cutL sl
  rw [HT.sIx_nat, HT.sIx_nat, List.length_map, Nat.min_eq_left ha, Nat.min_eq_left hb, List.map_take, List.map_drop]
theorem gAdd_l {xs ys : List D} (h : xs.length + ys.length ≤ 100000) : gAdd (.list xs) (.list ys) = some (.list (xs ++ ys)) := by
  simp only [gAdd]
  rw [if_pos h]
theorem gLstD_ {xs : List D} (h : xs.length ≤ 100000) : gLstD xs = some (.list xs) := by
  unfold gLstD
  rw [if_pos h]
theorem gLst1 (a : D) : gLstD [a] = some (.list [a]) := gLstD_ (by simp)
theorem gLst0 : gLstD [] = some (.list []) := gLstD_ (by simp)
theorem law_groups_cuts {ms : List Int} {g : Int} (h0 : 1 ≤ ms.length) (hl : ms.length ≤ 1000) :
    dLc (dBL gRng2 (dCons (dC (.int 1)) (dCons (dBL gLen (dCons (dV 0) dNil)) dNil))) (.n 3) (dTst (dB2 (bo gGt) (dB2 gSub (dB2 gIx (dV 0) (dV 3)) (dB2 gIx (dV 0) (dB2 gSub (dV 3) (dC (.int 1))))) (dV 1))) (dV 3) [3] [.val (iL ms), .val (.int g), .emp, .emp, .emp, .emp]
      = .ok (.list ((cutsF g 0 ms).map fun k : Nat => PyData.int (k : Int))) [.val (iL ms), .val (.int g), .emp, .emp, .emp, .emp] := by
  have eL : gLen [iL ms] = some (.int ms.length) := by simp [iL]
  rw [dLc_map (ρ1 := [.val (iL ms), .val (.int g), .emp, .emp, .emp, .emp]) (fun k : Nat => PyData.int ((k : Int) + 1)) (List.range (ms.length - 1)) (fun k => decide (nth ms (k + 1) - nth ms k > g)) (fun k => PyData.int ((k : Int) + 1))]
  · rw [← cuts_filter g ms 0, List.map_map]
    congr 2
  · simp only [ev_bl, ev_cons, ev_c, ev_v0, ev_nil, bind_ok, eL, optR_some]
    rw [gRng2_i (by omega) (by omega), rng_map, show ((ms.length : Int) - 1).toNat = ms.length - 1 by omega]
    simp only [optR_some]
    congr 1
    refine List.map_congr_left fun k _ => ?_
    rw [Int.add_comm]
  · simp
  · intro k hk
    have hk := List.mem_range.mp hk
    have e1 := atI_int (ms := ms) (i := (k : Int) + 1) (by omega) (by omega)
    have e2 := atI_int (ms := ms) (i := (k : Int)) (by omega) (by omega)
    refine ⟨_, rfl, ?_, fun _ => rfl, rfl⟩
    simp [iL, e1, e2, bo, show ((k : Int) + 1).toNat = k + 1 by omega]
  · simp; omega
theorem law_groups_sl {ms : List Int} {g : Int} {cs : List Nat} (hl : ms.length ≤ 1000) (hcl : cs.length ≤ 1000) (bd : ∀ c, c ∈ cs → c ≤ ms.length) :
    dLc (dBL gZip (dCons (dB2 gAdd (dBL gLstD (dCons (dC (.int 0)) dNil)) (dV 2)) (dCons (dB2 gAdd (dV 2) (dBL gLstD (dCons (dBL gLen (dCons (dV 0) dNil)) dNil))) dNil))) (.t [4, 5]) dYes (dSl (dV 0) (dP (dV 4)) (dP (dV 5))) [4, 5] [.val (iL ms), .val (.int g), .val (.list (cs.map fun k : Nat => PyData.int (k : Int))), .emp, .emp, .emp]
      = .ok (lL (pieces ms cs)) [.val (iL ms), .val (.int g), .val (.list (cs.map fun k : Nat => PyData.int (k : Int))), .emp, .emp, .emp] := by
  have eL : gLen [iL ms] = some (.int ms.length) := by simp [iL]
  rw [dLc_all (ρ1 := [.val (iL ms), .val (.int g), .val (.list (cs.map fun k : Nat => PyData.int (k : Int))), .emp, .emp, .emp]) (fun p : Nat × Nat => PyData.tuple [.int (p.1 : Int), .int (p.2 : Int)]) ((0 :: cs).zip (cs ++ [ms.length])) (fun p => iL (sl ms p.1 p.2))]
  · simp [lL, pieces]
  · have e1 : gAdd (.list [.int 0]) (.list (cs.map fun k : Nat => PyData.int (k : Int))) = some (.list ((0 :: cs).map fun k : Nat => PyData.int (k : Int))) := by
      rw [gAdd_l (by simp; omega)]
      rfl
    have e2 : gAdd (.list (cs.map fun k : Nat => PyData.int (k : Int))) (.list [.int ms.length]) = some (.list ((cs ++ [ms.length]).map fun k : Nat => PyData.int (k : Int))) := by
      rw [gAdd_l (by simp; omega)]
      simp
    simp only [ev_bl, ev_cons, ev_c, ev_v0, ev_v2, ev_nil, ev_b2, bind_ok, eL, optR_some, gLst1, e1, e2, gZip_l]
    rw [zipD_ints]
  · simp
  · intro p hp
    have h1 : p.1 ≤ ms.length := by
      have := (List.of_mem_zip hp).1
      rcases List.mem_cons.mp this with h | h
      · omega
      · exact bd _ h
    have h2 : p.2 ≤ ms.length := by
      have := (List.of_mem_zip hp).2
      rcases List.mem_append.mp this with h | h
      · exact bd _ h
      · have := List.mem_singleton.mp h; omega
    refine ⟨_, rfl, ?_, rfl⟩
    simp [iL, cutL_nat h1 h2]
  · simp; omega
theorem c_law_groups {ms : List Int} {g : Int} (h : ms ≠ []) (hl : ms.length ≤ 1000) : C__law_groups [iL ms, .int g] = .ok (lL (grp g ms)) := by
  have h0 : 1 ≤ ms.length := List.length_pos_iff.mpr h
  have hcl : (cutsF g 0 ms).length ≤ 1000 := by
    rw [← cuts_filter g ms 0, List.length_map]
    exact Nat.le_trans (List.length_filter_le _ _) (by simp; omega)
  have bd : ∀ c, c ∈ cutsF g 0 ms → c ≤ ms.length := fun c hc => by
    have := cutsF_bd g ms 0 c hc
    omega
  rw [C__law_groups, runP2, G__law_groups, grp_pieces g ms h]
  simp only [List.replicate, ev_seq, ev_asg, law_groups_cuts h0 hl, bind_ok, seqR_nx, List.set_cons_succ, List.set_cons_zero, ev_ret, law_groups_sl hl hcl bd, outOf_rt]
end GG

namespace GG
open PySem PySem.Spec PyProof.Rows L2

/-! ### shapes, equality of data -/
def Sh (n : Nat) (d : D) : Prop := PyData.canLay0 d = true ∧ PyData.depth d ≤ n
theorem sh_int (n : Nat) (i : Int) : Sh n (.int i) := by simp [Sh, PyData.canLay0, PyData.depth]
theorem sh_bool (n : Nat) (i : Bool) : Sh n (.bool i) := by simp [Sh, PyData.canLay0, PyData.depth]
theorem sh_none (n : Nat) : Sh n .none := by simp [Sh, PyData.canLay0, PyData.depth]
theorem sh_all {n : Nat} : ∀ {ds : List D}, (∀ d, d ∈ ds → Sh n d) → PyData.canLayAll0 ds = true ∧ PyData.depthAll ds ≤ n
  | [], _ => by simp [PyData.canLayAll0, PyData.depthAll]
  | d :: ds, h => by
    have h1 := h d List.mem_cons_self
    have h2 := sh_all fun e he => h e (List.mem_cons_of_mem _ he)
    refine ⟨by simp [PyData.canLayAll0, h1.1, h2.1], ?_⟩
    simp only [PyData.depthAll]
    exact Nat.max_le.mpr ⟨h1.2, h2.2⟩
theorem sh_list {n : Nat} {ds : List D} (h : ∀ d, d ∈ ds → Sh n d) : Sh (n + 1) (.list ds) := by
  have := sh_all h
  refine ⟨by simp [PyData.canLay0, this.1], ?_⟩
  simp only [PyData.depth]
  omega
theorem sh_tup {n : Nat} {ds : List D} (h : ∀ d, d ∈ ds → Sh n d) : Sh (n + 1) (.tuple ds) := by
  have := sh_all h
  refine ⟨by simp [PyData.canLay0, this.1], ?_⟩
  simp only [PyData.depth]
  omega
theorem Sh.ok {n : Nat} {d : D} (h : Sh n d) (hn : n ≤ 64) : SeqAt.shaped d = true := by
  simp only [SeqAt.shaped, Bool.and_eq_true, decide_eq_true_eq]
  exact ⟨h.1, Nat.le_trans h.2 hn⟩
theorem sh_iL (ms : List Int) : Sh 1 (iL ms) := sh_list fun d hd => by
  obtain ⟨i, _, rfl⟩ := List.mem_map.mp hd
  exact sh_int 0 i
theorem sh_lL (gs : List (List Int)) : Sh 2 (lL gs) := sh_list fun d hd => by
  obtain ⟨i, _, rfl⟩ := List.mem_map.mp hd
  exact sh_iL i
mutual
theorem eqv_refl : ∀ d : D, PyData.canLay0 d = true → PyData.eqv d d = true
  | .none, _ => by simp [PyData.eqv]
  | .bool b, _ => by simp [PyData.eqv]
  | .int i, _ => by simp [PyData.eqv]
  | .str s, _ => by simp [PyData.eqv]
  | .list ds, h => by
    simp only [PyData.eqv]
    exact eqvAll_refl ds (by simpa [PyData.canLay0] using h)
  | .tuple ds, h => by
    simp only [PyData.eqv]
    exact eqvAll_refl ds (by simpa [PyData.canLay0] using h)
  | .dict _, h => by simp [PyData.canLay0] at h
theorem eqvAll_refl : ∀ ds : List D, PyData.canLayAll0 ds = true → PyData.eqvAll ds ds = true
  | [], _ => by simp [PyData.eqvAll]
  | d :: ds, h => by
    have h : PyData.canLay0 d = true ∧ PyData.canLayAll0 ds = true := by simpa [PyData.canLayAll0] using h
    simp [PyData.eqvAll, eqv_refl d h.1, eqvAll_refl ds h.2]
end
theorem gNe_same {n : Nat} {d : D} (h : Sh n d) (hn : n ≤ 64) : gNe d d = some false := by simp [gNe, h.ok hn, eqv_refl d h.1]
theorem gEq_same {n : Nat} {d : D} (h : Sh n d) (hn : n ≤ 64) : gEq d d = some true := by simp [gEq, h.ok hn, eqv_refl d h.1]
@[simp] theorem gNe_int (i j : Int) : gNe (.int i) (.int j) = some (!decide (i = j)) := by
  simp only [gNe, (sh_int 0 i).ok (by decide), (sh_int 0 j).ok (by decide), Bool.and_self, if_true, PyData.eqv]
  rfl
@[simp] theorem gEq_int (i j : Int) : gEq (.int i) (.int j) = some (decide (i = j)) := by
  simp only [gEq, (sh_int 0 i).ok (by decide), (sh_int 0 j).ok (by decide), Bool.and_self, if_true, PyData.eqv]
  rfl
theorem eqvAll_ints : ∀ a b : List Int, PyData.eqvAll (a.map PyData.int) (b.map PyData.int) = decide (a = b)
  | [], [] => by simp [PyData.eqvAll]
  | [], _ :: _ => by simp [PyData.eqvAll]
  | _ :: _, [] => by simp [PyData.eqvAll]
  | x :: a, y :: b => by
    simp only [List.map_cons, PyData.eqvAll, PyData.eqv, eqvAll_ints a b, List.cons.injEq]
    by_cases h : x = y <;> by_cases h' : a = b <;> simp [h, h']
theorem eqv_iL (a b : List Int) : PyData.eqv (iL a) (iL b) = decide (a = b) := by
  simp only [iL, PyData.eqv, eqvAll_ints]
theorem eqvAll_lists : ∀ a b : List (List Int), PyData.eqvAll (a.map iL) (b.map iL) = decide (a = b)
  | [], [] => by simp [PyData.eqvAll]
  | [], _ :: _ => by simp [PyData.eqvAll]
  | _ :: _, [] => by simp [PyData.eqvAll]
  | x :: a, y :: b => by
    simp only [List.map_cons, PyData.eqvAll, eqv_iL, eqvAll_lists a b, List.cons.injEq]
    by_cases h : x = y <;> by_cases h' : a = b <;> simp [h, h']
theorem eqv_lL (a b : List (List Int)) : PyData.eqv (lL a) (lL b) = decide (a = b) := by
  simp only [lL, PyData.eqv, eqvAll_lists]
@[simp] theorem gNe_iL (a b : List Int) : gNe (iL a) (iL b) = some (!decide (a = b)) := by simp [gNe, (sh_iL _).ok (by decide), eqv_iL]
@[simp] theorem gEq_iL (a b : List Int) : gEq (iL a) (iL b) = some (decide (a = b)) := by simp [gEq, (sh_iL _).ok (by decide), eqv_iL]
@[simp] theorem gNe_lL (a b : List (List Int)) : gNe (lL a) (lL b) = some (!decide (a = b)) := by simp [gNe, (sh_lL _).ok (by decide), eqv_lL]
@[simp] theorem gEq_lL (a b : List (List Int)) : gEq (lL a) (lL b) = some (decide (a = b)) := by simp [gEq, (sh_lL _).ok (by decide), eqv_lL]
theorem iL_nil : iL [] = .list [] := rfl
theorem lL_nil : lL [] = .list [] := rfl
@[simp] theorem gLen_iL (ms : List Int) : gLen [iL ms] = some (.int ms.length) := by simp [iL]
@[simp] theorem gLen_lL (gs : List (List Int)) : gLen [lL gs] = some (.int gs.length) := by simp [lL]
@[simp] theorem asL_iL (ms : List Int) : asL (iL ms) = some (ms.map PyData.int) := Eq.trans rfl rfl
@[simp] theorem asL_lL (gs : List (List Int)) : asL (lL gs) = some (gs.map iL) := Eq.trans rfl rfl
@[simp] theorem isA_iL (ms : List Int) : isA .list (iL ms) = true := Eq.trans rfl rfl
@[simp] theorem isA_lL (gs : List (List Int)) : isA .list (lL gs) = true := Eq.trans rfl rfl
theorem ix_iL {ms : List Int} {i : Int} (h0 : 0 ≤ i) (h1 : i < ms.length) : gIx (iL ms) (.int i) = some (.int (nth ms i.toNat)) := by rw [iL, gIx_l, atI_int h0 h1]
theorem ix_iLn {ms : List Int} {k : Nat} (h1 : k < ms.length) : gIx (iL ms) (.int (k : Int)) = some (.int (nth ms k)) := by rw [ix_iL (by omega) (by omega)]; simp
theorem ix_last {ms : List Int} (h : ms ≠ []) : gIx (iL ms) (.int (-1)) = some (.int (ms.getLastD 0)) := by rw [iL, gIx_l, atI_intL h]
theorem ix_head {ms : List Int} (h : ms ≠ []) : gIx (iL ms) (.int 0) = some (.int (ms.headD 0)) := by rw [iL, gIx_l, atI_int0 h]
theorem add_iL {a b : List Int} (h : a.length + b.length ≤ 100000) : gAdd (iL a) (iL b) = some (iL (a ++ b)) := by
  simp only [iL]
  rw [gAdd_l (by simpa using h), List.map_append]

/-! ### steps -/
theorem stp_range : ∀ ms : List Int, (List.range (ms.length - 1)).map (fun k => nth ms (k + 1) - nth ms k) = stp ms
  | [] => rfl
  | [_] => rfl
  | x :: y :: r => by
    have ih := stp_range (y :: r)
    have e1 : (x :: y :: r).length - 1 = ((y :: r).length - 1) + 1 := by simp
    rw [e1, List.range_succ_eq_map, List.map_cons, List.map_map]
    unfold stp
    rw [← ih]
    refine congr (congrArg _ (by simp [nth])) (List.map_congr_left fun k _ => ?_)
    simp [nth_cons]
theorem c_steps_of {ms : List Int} (hl : ms.length ≤ 1000) : C_steps_of [iL ms] = .ok (iL (stp ms)) := by
  rw [C_steps_of, runP1, G_steps_of]
  have l1 := dLc_all (it := dBL gRng1 (dCons (dB2 gSub (dBL gLen (dCons (dV 0) dNil)) (dC (.int 1))) dNil)) (g := .n 1) (f := dB2 gSub (dB2 gIx (dV 0) (dB2 gAdd (dV 1) (dC (.int 1)))) (dB2 gIx (dV 0) (dV 1))) (vs := [1]) (ρ := [.val (iL ms), .emp]) (ρ1 := [.val (iL ms), .emp])
    (fun k : Nat => PyData.int (k : Int)) (List.range (ms.length - 1)) (fun k => .int (nth ms (k + 1) - nth ms k)) (by
      have e1 := gRng1_i (j := (ms.length : Int) - 1) (by omega) (by omega)
      simp [e1]
      rw [rng_map]
      simp) (by simp) (fun k hk => by
      have hk := List.mem_range.mp hk
      have e1 := ix_iL (ms := ms) (i := (k : Int) + 1) (by omega) (by omega)
      have e2 := ix_iLn (ms := ms) (k := k) (by omega)
      refine ⟨_, rfl, ?_, rfl⟩
      simp [e1, e2, show ((k : Int) + 1).toNat = k + 1 by omega]) (by simp; omega)
  simp [l1]
  rw [iL, ← stp_range ms, List.map_map]
  rfl
/-! ### grouped and its kin -/
theorem c_grouped {ms : List Int} {g : Int} (h : ms ≠ []) (hl : ms.length ≤ 1000) : C_grouped [iL ms, .int g] = .ok (lL (grp g ms)) := by
  cases ms with
  | nil => exact absurd rfl h
  | cons x r =>
    have e : intsOf ((x :: r).map PyData.int) = some (x :: r) := intsOf_map _
    have hl : r.length < 1000 := by simp at hl; omega
    simp only [C_grouped, iL, e]
    rw [if_pos hl]
theorem Mom.l1 {ms : List Int} (h : Mom ms) : ms.length ≤ 1000 := Nat.le_trans h.len (by decide)
theorem c_groups {ms : List Int} {g : Int} (h : Mom ms) (hg : Gap g) : C_groups [iL ms, .int g] = .ok (lL (grp g ms)) := by
  rw [C_groups, runP2, G_groups]
  simp [c_check_moments h, c_check_gap hg, c_grouped h.ne h.l1]
theorem c_count_groups {ms : List Int} {g : Int} (h : Mom ms) (hg : Gap g) : C_count_groups [iL ms, .int g] = .ok (.int (grp g ms).length) := by
  rw [C_count_groups, runP2, G_count_groups]
  have l1 := dLc_map (it := dB1 asL (dCall C_steps_of (dCons (dV 0) dNil))) (g := .n 2) (c := dTst (dB2 (bo gGt) (dV 2) (dV 1))) (f := dV 2) (vs := [2]) (ρ := [.val (iL ms), .val (.int g), .emp]) (ρ1 := [.val (iL ms), .val (.int g), .emp])
    PyData.int (stp ms) (fun s => decide (g < s)) PyData.int (by simp [c_steps_of h.l1]) (by simp) (fun k hk => ⟨_, rfl, by simp [bo], fun _ => rfl, rfl⟩) (by rw [stp_len]; have := h.l1; omega)
  simp [c_check_moments h, c_check_gap hg, l1]
  rw [grp_count g ms h.ne]
  simp
theorem c_spans {ms : List Int} {g : Int} (h : Mom ms) (hg : Gap g) : C_spans [iL ms, .int g] = .ok (.list ((grp g ms).map fun l => PyData.tuple [.int (l.headD 0), .int (l.getLastD 0), .int l.length])) := by
  rw [C_spans, runP2, G_spans]
  have hlen : (grp g ms).length ≤ 100000 := by
    rw [grp_count g ms h.ne]
    have := List.length_filter_le (fun s => decide (g < s)) (stp ms)
    rw [stp_len] at this
    have := h.l1
    omega
  have l1 := dLc_all (it := dB1 asL (dCall C_grouped (dCons (dV 0) (dCons (dV 1) dNil)))) (g := .n 2) (f := dBL gTupD (dCons (dB2 gIx (dV 2) (dC (.int 0))) (dCons (dB2 gIx (dV 2) (dB1 gNeg (dC (.int 1)))) (dCons (dBL gLen (dCons (dV 2) dNil)) dNil)))) (vs := [2]) (ρ := [.val (iL ms), .val (.int g), .emp]) (ρ1 := [.val (iL ms), .val (.int g), .emp])
    iL (grp g ms) (fun l => PyData.tuple [.int (l.headD 0), .int (l.getLastD 0), .int l.length]) (by simp [c_grouped h.ne h.l1]) (by simp) (fun l hl => by
      have hne := (grp_isG g ms).ne l hl
      refine ⟨_, rfl, ?_, rfl⟩
      simp [ix_head hne, ix_last hne, gTupD]) hlen
  simp [c_check_moments h, c_check_gap hg, l1]
/-- the length of a list of moments -/
def lenM (l : List Int) : Int := l.getLastD 0 - l.headD 0
theorem grp_len_le {ms : List Int} {g : Int} (h : Mom ms) : (grp g ms).length ≤ 100000 := by
  rw [grp_count g ms h.ne]
  have := List.length_filter_le (fun s => decide (g < s)) (stp ms)
  rw [stp_len] at this
  have := h.l1
  omega
theorem lc_lens {gs : List (List Int)} (it : Den (List D)) (i : Nat) (ρ : Env') (hi : it ρ = .ok (gs.map iL) ρ) (hρ : ρ[i]? = some .emp) (hne : ∀ l, l ∈ gs → l ≠ []) (hl : gs.length ≤ 100000) :
    dLc it (.n i) dYes (dB2 gSub (dB2 gIx (dV i) (dB1 gNeg (dC (.int 1)))) (dB2 gIx (dV i) (dC (.int 0)))) [i] ρ = .ok (iL (gs.map lenM)) ρ := by
  have hlt : i < ρ.length := (List.getElem?_eq_some_iff.mp hρ).1
  have l1 := dLc_all (it := it) (g := .n i) (f := dB2 gSub (dB2 gIx (dV i) (dB1 gNeg (dC (.int 1)))) (dB2 gIx (dV i) (dC (.int 0)))) (vs := [i]) (ρ := ρ) (ρ1 := ρ) iL gs (fun l => .int (lenM l)) hi (by simpa using hρ) (fun l hl => by
      have hn := hne l hl
      refine ⟨_, rfl, ?_, ?_⟩
      · have e := ev_v (i := i) (d := iL l) (ρ := ρ.set i (.val (iL l))) (List.getElem?_set_self hlt)
        simp [e, ix_head hn, ix_last hn, lenM]
      · show (ρ.set i (.val (iL l))).set i .emp = ρ
        rw [List.set_set]
        refine List.ext_getElem? fun j => ?_
        by_cases q : i = j
        · subst q
          rw [List.getElem?_set_self hlt, hρ]
        · rw [List.getElem?_set_ne q]) hl
  rw [l1, iL, List.map_map]
  rfl
theorem c_longest_group {ms : List Int} {g : Int} (h : Mom ms) (hg : Gap g) : C_longest_group [iL ms, .int g] = .ok (.int (mx ((grp g ms).map lenM))) := by
  rw [C_longest_group, runP2, G_longest_group]
  have l1 := lc_lens (gs := grp g ms) (dB1 asL (dCall C_grouped (dCons (dV 0) (dCons (dV 1) dNil)))) 2 [.val (iL ms), .val (.int g), .emp] (by simp [c_grouped h.ne h.l1]) rfl (grp_isG g ms).ne (grp_len_le h)
  have e := gMax_i (ns := (grp g ms).map lenM) (by simpa using grp_ne h.ne)
  simp only [List.replicate, ev_seq, ev_exp, ev_call, ev_cons, ev_v0, ev_v1, ev_nil, bind_ok, c_check_moments h, c_check_gap hg, at_ok, seqR_nx, ev_ret, ev_bl, l1]
  rw [iL, e]
  simp
theorem c_covered {ms : List Int} {g : Int} (h : Mom ms) (hg : Gap g) : C_covered [iL ms, .int g] = .ok (.int ((grp g ms).map lenM).sum) := by
  rw [C_covered, runP2, G_covered]
  have l1 := lc_lens (gs := grp g ms) (dB1 asL (dCall C_grouped (dCons (dV 0) (dCons (dV 1) dNil)))) 2 [.val (iL ms), .val (.int g), .emp] (by simp [c_grouped h.ne h.l1]) rfl (grp_isG g ms).ne (grp_len_le h)
  simp only [List.replicate, ev_seq, ev_exp, ev_call, ev_cons, ev_v0, ev_v1, ev_nil, bind_ok, c_check_moments h, c_check_gap hg, at_ok, seqR_nx, ev_ret, ev_bl, l1]
  rw [iL, gSum_i]
  simp
end GG

namespace GG
open PySem PySem.Spec PyProof.Rows L2

/-! ### loops -/
theorem loop_inv {ι : Type} {tg : Tg} {G : Den Fl} {ρ : Env'} (φ : ι → D) (xs : List ι) (I : List ι → Env' → Prop) (h0 : I [] ρ)
    (hs : ∀ pre x post ρ', xs = pre ++ x :: post → I pre ρ' → ∃ ρ1 ρ2, tg.put (φ x) ρ' = some ρ1 ∧ G ρ1 = .ok .nx ρ2 ∧ I (pre ++ [x]) ρ2) : ∃ ρ', loop tg G (xs.map φ) ρ = .ok .nx ρ' ∧ I xs ρ' := by
  have go : ∀ (post pre : List ι) (ρ' : Env'), xs = pre ++ post → I pre ρ' → ∃ ρ2, loop tg G (post.map φ) ρ' = .ok .nx ρ2 ∧ I xs ρ2 := by
    intro post
    induction post with
    | nil =>
      intro pre ρ' e h
      rw [List.append_nil] at e
      exact ⟨ρ', rfl, by rw [e]; exact h⟩
    | cons x post ih =>
      intro pre ρ' e h
      obtain ⟨ρ1, ρ2, h1, h2, h3⟩ := hs pre x post ρ' e h
      obtain ⟨ρ3, h4, h5⟩ := ih (pre ++ [x]) ρ2 (by rw [e]; simp) h3
      refine ⟨ρ3, ?_, h5⟩
      rw [List.map_cons]
      unfold loop
      rw [h1]
      dsimp only
      rw [h2]
      exact h4
  exact go xs [] ρ rfl h0
@[simp] theorem ev_for {it : Den (List D)} {g : Tg} {G : Den Fl} {ρ : Env'} : dFor it g G ρ = (it ρ).bind fun ds ρ1 => loop g G ds ρ1 := Eq.trans rfl rfl

theorem ext_ok {i : Nat} {f : Den D} {ρ ρ1 : Env'} {ds0 ds es : List D} (h0 : ρ[i]? = some (.own ds0)) (h1 : f ρ = .ok (.list es) ρ1) (h2 : ρ1[i]? = some (.own ds)) (hl : ds.length + es.length ≤ 100000) : dExt i f ρ = .ok .nx (ρ1.set i (.own (ds ++ es))) := by
  unfold dExt
  rw [h0]
  dsimp only
  rw [h1, bind_ok, h2]
  dsimp only
  rw [if_pos hl]
theorem app_ok' {i : Nat} {f : Den D} {ρ ρ1 : Env'} {ds0 ds : List D} {d : D} (h0 : ρ[i]? = some (.own ds0)) (h1 : f ρ = .ok d ρ1) (h2 : ρ1[i]? = some (.own ds)) (hl : ds.length < 100000) : dApp i f ρ = .ok .nx (ρ1.set i (.own (ds ++ [d]))) := by
  unfold dApp
  rw [h0]
  dsimp only
  rw [h1, bind_ok, h2]
  dsimp only
  rw [if_pos hl]
theorem ixV_ok {i : Nat} {f : Den D} {ρ ρ1 : Env'} {ds0 ds : List D} {k : Int} {d : D} (h0 : lstS ρ[i]? = some ds0) (h1 : f ρ = .ok (.int k) ρ1) (h2 : lstS ρ1[i]? = some ds) (h3 : atI ds k = some d) : dIxV i f ρ = .ok d ρ1 := by
  unfold dIxV
  rw [h0]
  dsimp only
  rw [h1, bind_ok, h2]
  dsimp only
  rw [h3]

/-! ### told groups -/
structure Grs (gs : List (List Int)) : Prop where
  ne : ∀ l, l ∈ gs → l ≠ []
  mom : Mom gs.flatten
theorem Grs.nn {gs : List (List Int)} (h : Grs gs) : gs ≠ [] := by
  rintro rfl
  exact h.mom.ne rfl
theorem flat_len : ∀ {gs : List (List Int)}, (∀ l, l ∈ gs → l ≠ []) → gs.length ≤ gs.flatten.length
  | [], _ => by simp
  | l :: gs, h => by
    have h1 : 1 ≤ l.length := List.length_pos_iff.mpr (h l List.mem_cons_self)
    have := flat_len (gs := gs) fun x hx => h x (List.mem_cons_of_mem _ hx)
    simp only [List.length_cons, List.flatten_cons, List.length_append]
    omega
theorem Grs.len {gs : List (List Int)} (h : Grs gs) : gs.length ≤ 12 := Nat.le_trans (flat_len h.ne) h.mom.len
theorem grs_grp {ms : List Int} (g : Int) (h : Mom ms) : Grs (grp g ms) := ⟨(grp_isG g ms).ne, by rw [grp_flat]; exact h⟩
theorem pre_len {pre post : List (List Int)} {l : List Int} : (pre.flatten).length + l.length ≤ (pre ++ l :: post).flatten.length := by
  simp only [List.flatten_append, List.flatten_cons, List.length_append]
  omega
theorem c_is_groups {gs : List (List Int)} (h : Grs gs) : C_is_groups [lL gs] = .ok (.bool true) := by
  rw [C_is_groups, runP1, G_is_groups]
  have hl := h.len
  have hm := h.mom.len
  have e0 : gEq (lL gs) (.list []) = some false := by
    rw [← lL_nil, gEq_lL]
    simp [h.nn]
  have l1 := dLc_all (it := dB1 asL (dV 0)) (g := .n 2) (f := dBo (dAnd (dTst (dB1 (gIsA .list) (dV 2))) (dTst (dB2 (bo gNe) (dV 2) (dBL gLstD dNil))))) (vs := [2]) (ρ := [.val (lL gs), .emp, .emp]) (ρ1 := [.val (lL gs), .emp, .emp]) iL gs (fun _ => .bool true) (by simp) (by simp) (fun l hl => by
      refine ⟨_, rfl, ?_, rfl⟩
      have e : gNe (iL l) (.list []) = some true := by
        rw [← iL_nil, gNe_iL]
        simp [h.ne l hl]
      simp [gLst0, bo, e]) (by omega)
  have a1 : gAll [.list (gs.map fun _ => PyData.bool true)] = some (.bool true) := by
    rw [show (gs.map fun _ => PyData.bool true) = (gs.map fun _ => true).map PyData.bool by simp, gAll_b]
    simp
  obtain ⟨ρ', h1, s, h2⟩ := loop_inv (tg := .n 2) (G := dAsg 1 (dB2 gAdd (dV 1) (dV 2))) (ρ := [.val (lL gs), .val (iL []), .emp]) iL gs (fun pre ρ' => ∃ s, ρ' = [.val (lL gs), .val (iL pre.flatten), s]) ⟨_, rfl⟩ (by
      rintro pre x post ρ' e ⟨s, rfl⟩
      have hb : pre.flatten.length + x.length ≤ 100000 := by
        have := pre_len (pre := pre) (l := x) (post := post)
        rw [← e] at this
        omega
      refine ⟨_, _, rfl, ?_, .val (iL x), rfl⟩
      simp [add_iL hb])
  subst h2
  simp [bo, gLst0, e0, l1, a1]
  rw [← iL_nil, h1]
  simp [c_is_moments h.mom]
theorem c_check_groups {gs : List (List Int)} (h : Grs gs) : C_check_groups [lL gs] = .ok .none := by
  rw [C_check_groups, runP1, G_check_groups]
  simp [c_is_groups h]
theorem c_whole_of {gs : List (List Int)} (hl : gs.flatten.length ≤ 1000) : C_whole_of [lL gs] = .ok (iL gs.flatten) := by
  rw [C_whole_of, runP1, G_whole_of]
  obtain ⟨ρ', h1, s, h2⟩ := loop_inv (tg := .n 2) (G := dExt 1 (dV 2)) (ρ := [.val (lL gs), .own [], .emp]) iL gs (fun pre ρ' => ∃ s, ρ' = [.val (lL gs), .own (pre.flatten.map PyData.int), s]) ⟨_, rfl⟩ (by
      rintro pre x post ρ' e ⟨s, rfl⟩
      have hb : pre.flatten.length + x.length ≤ 100000 := by
        have := pre_len (pre := pre) (l := x) (post := post)
        rw [← e] at this
        omega
      refine ⟨_, _, rfl, ?_, .val (iL x), rfl⟩
      show dExt 1 (dV 2) [.val (lL gs), .own (pre.flatten.map PyData.int), .val (iL x)] = _
      rw [ext_ok (i := 1) (f := dV 2) (ρ := [.val (lL gs), .own (pre.flatten.map PyData.int), .val (iL x)]) (ρ1 := [.val (lL gs), .own (pre.flatten.map PyData.int), .val (iL x)]) (ds := pre.flatten.map PyData.int) (es := x.map PyData.int) rfl rfl rfl (by rw [List.length_map, List.length_map]; exact hb)]
      simp)
  subst h2
  have e2 : dOwn 1 dNil [.val (lL gs), .emp, .emp] = .ok .nx [.val (lL gs), .own [], .emp] := rfl
  simp only [List.replicate, ev_seq, e2, seqR_nx, ev_for, ev_b1, ev_v0, bind_ok, asL_lL, optR_some, h1, ev_ret]
  rfl
theorem c_moments_of {gs : List (List Int)} (h : Grs gs) : C_moments_of [lL gs] = .ok (iL gs.flatten) := by
  rw [C_moments_of, runP1, G_moments_of]
  simp [c_check_groups h, c_whole_of h.mom.l1]

/-! ### the group of a place -/
def loF (g : Int) (ms : List Int) : Nat → Nat
  | 0 => 0
  | k + 1 => if nth ms (k + 1) - nth ms k ≤ g then loF g ms k else k + 1
def hiF (g : Int) (ms : List Int) : Nat → Nat → Nat
  | 0, p => p
  | n + 1, p => if p + 1 < ms.length ∧ nth ms (p + 1) - nth ms p ≤ g then hiF g ms n (p + 1) else p
theorem while_lo {ms : List Int} {g : Int} {a b : Slot} : ∀ (k n : Nat), k < n → k < ms.length →
    dWhile (dAnd (dTst (dB2 (bo gGt) (dV 3) (dC (.int 0)))) (dTst (dB2 (bo gLe) (dB2 gSub (dB2 gIx (dV 0) (dV 3)) (dB2 gIx (dV 0) (dB2 gSub (dV 3) (dC (.int 1))))) (dV 1)))) (dAug 3 (fun i j => i - j) (dC (.int 1))) n [.val (iL ms), .val (.int g), a, .val (.int (k : Int)), b]
      = .ok .nx [.val (iL ms), .val (.int g), a, .val (.int (loF g ms k : Nat)), b]
  | 0, n + 1, _, hl => by
    unfold dWhile
    simp [bo, loF]
  | k + 1, n + 1, hn, hl => by
    have e1 := ix_iLn (ms := ms) (k := k + 1) hl
    have e2 := ix_iLn (ms := ms) (k := k) (by omega)
    have ih := while_lo (ms := ms) (g := g) (a := a) (b := b) k n (by omega) (by omega)
    have c0 : (0 : Int) < ((k + 1 : Nat) : Int) := by omega
    have e3 : ((k + 1 : Nat) : Int) - 1 = (k : Int) := by omega
    unfold dWhile loF
    by_cases h : nth ms (k + 1) - nth ms k ≤ g
    · rw [if_pos h]
      have et : (dAnd (dTst (dB2 (bo gGt) (dV 3) (dC (.int 0)))) (dTst (dB2 (bo gLe) (dB2 gSub (dB2 gIx (dV 0) (dV 3)) (dB2 gIx (dV 0) (dB2 gSub (dV 3) (dC (.int 1))))) (dV 1)))) [.val (iL ms), .val (.int g), a, .val (.int ((k + 1 : Nat) : Int)), b] = .ok true [.val (iL ms), .val (.int g), a, .val (.int ((k + 1 : Nat) : Int)), b] := by
        simp only [ev_and, ev_tst, ev_b2, ev_v3, ev_v0, ev_v1, ev_c, bind_ok, bo, gCmp_i, Option.map_some, optR_some, asB_b, decide_eq_true c0, if_true, e1, gSub_i, e3, e2, decide_eq_true h]
      have eg : dAug 3 (fun i j => i - j) (dC (.int 1)) [.val (iL ms), .val (.int g), a, .val (.int ((k + 1 : Nat) : Int)), b] = .ok .nx [.val (iL ms), .val (.int g), a, .val (.int (k : Int)), b] := by
        show Res.ok Fl.nx [.val (iL ms), .val (.int g), a, .val (.int (((k + 1 : Nat) : Int) - 1)), b] = _
        rw [e3]
      rw [et, bind_ok, if_pos rfl, eg]
      exact ih
    · rw [if_neg h]
      have et : (dAnd (dTst (dB2 (bo gGt) (dV 3) (dC (.int 0)))) (dTst (dB2 (bo gLe) (dB2 gSub (dB2 gIx (dV 0) (dV 3)) (dB2 gIx (dV 0) (dB2 gSub (dV 3) (dC (.int 1))))) (dV 1)))) [.val (iL ms), .val (.int g), a, .val (.int ((k + 1 : Nat) : Int)), b] = .ok false [.val (iL ms), .val (.int g), a, .val (.int ((k + 1 : Nat) : Int)), b] := by
        simp only [ev_and, ev_tst, ev_b2, ev_v3, ev_v0, ev_v1, ev_c, bind_ok, bo, gCmp_i, Option.map_some, optR_some, asB_b, decide_eq_true c0, if_true, e1, gSub_i, e3, e2, decide_eq_false h]
      rw [et, bind_ok, if_neg (by decide)]
theorem while_hi {ms : List Int} {g : Int} {a b : Slot} : ∀ (m k n : Nat), m < n → k < ms.length → ms.length ≤ k + m + 1 →
    dWhile (dAnd (dTst (dB2 (bo gLt) (dV 4) (dB2 gSub (dBL gLen (dCons (dV 0) dNil)) (dC (.int 1))))) (dTst (dB2 (bo gLe) (dB2 gSub (dB2 gIx (dV 0) (dB2 gAdd (dV 4) (dC (.int 1)))) (dB2 gIx (dV 0) (dV 4))) (dV 1)))) (dAug 4 (fun i j => i + j) (dC (.int 1))) n [.val (iL ms), .val (.int g), a, b, .val (.int (k : Int))]
      = .ok .nx [.val (iL ms), .val (.int g), a, b, .val (.int (hiF g ms m k : Nat))]
  | m, k, n + 1, hn, hl, hm => by
    unfold dWhile
    by_cases hk : k + 1 < ms.length
    · obtain ⟨m, rfl⟩ : ∃ m', m = m' + 1 := ⟨m - 1, by omega⟩
      have e1 := ix_iLn (ms := ms) (k := k + 1) hk
      have e2 := ix_iLn (ms := ms) (k := k) hl
      have e3 : (k : Int) + 1 = ((k + 1 : Nat) : Int) := by omega
      have c0 : (k : Int) < (ms.length : Int) - 1 := by omega
      unfold hiF
      by_cases h : nth ms (k + 1) - nth ms k ≤ g
      · rw [if_pos ⟨hk, h⟩]
        have et : (dAnd (dTst (dB2 (bo gLt) (dV 4) (dB2 gSub (dBL gLen (dCons (dV 0) dNil)) (dC (.int 1))))) (dTst (dB2 (bo gLe) (dB2 gSub (dB2 gIx (dV 0) (dB2 gAdd (dV 4) (dC (.int 1)))) (dB2 gIx (dV 0) (dV 4))) (dV 1)))) [.val (iL ms), .val (.int g), a, b, .val (.int (k : Int))] = .ok true [.val (iL ms), .val (.int g), a, b, .val (.int (k : Int))] := by
          simp only [ev_and, ev_tst, ev_b2, ev_v4, ev_v0, ev_v1, ev_c, ev_bl, ev_cons, ev_nil, gLen_iL, bind_ok, bo, gCmp_i, Option.map_some, optR_some, asB_b, gSub_i, gAdd_i, decide_eq_true c0, if_true, e3, e1, e2, decide_eq_true h]
        have eg : dAug 4 (fun i j => i + j) (dC (.int 1)) [.val (iL ms), .val (.int g), a, b, .val (.int (k : Int))] = .ok .nx [.val (iL ms), .val (.int g), a, b, .val (.int ((k + 1 : Nat) : Int))] := by
          show Res.ok Fl.nx [.val (iL ms), .val (.int g), a, b, .val (.int ((k : Int) + 1))] = _
          rw [e3]
        rw [et, bind_ok, if_pos rfl, eg]
        exact while_hi m (k + 1) n (by omega) hk (by omega)
      · rw [if_neg (fun z => h z.2)]
        have et : (dAnd (dTst (dB2 (bo gLt) (dV 4) (dB2 gSub (dBL gLen (dCons (dV 0) dNil)) (dC (.int 1))))) (dTst (dB2 (bo gLe) (dB2 gSub (dB2 gIx (dV 0) (dB2 gAdd (dV 4) (dC (.int 1)))) (dB2 gIx (dV 0) (dV 4))) (dV 1)))) [.val (iL ms), .val (.int g), a, b, .val (.int (k : Int))] = .ok false [.val (iL ms), .val (.int g), a, b, .val (.int (k : Int))] := by
          simp only [ev_and, ev_tst, ev_b2, ev_v4, ev_v0, ev_v1, ev_c, ev_bl, ev_cons, ev_nil, gLen_iL, bind_ok, bo, gCmp_i, Option.map_some, optR_some, asB_b, gSub_i, gAdd_i, decide_eq_true c0, if_true, e3, e1, e2, decide_eq_false h]
        rw [et, bind_ok, if_neg (by decide)]
    · have c0 : ¬ (k : Int) < (ms.length : Int) - 1 := by omega
      have eh : hiF g ms m k = k := by
        cases m with
        | zero => rfl
        | succ m => unfold hiF; rw [if_neg (fun z => hk z.1)]
      have et : (dAnd (dTst (dB2 (bo gLt) (dV 4) (dB2 gSub (dBL gLen (dCons (dV 0) dNil)) (dC (.int 1))))) (dTst (dB2 (bo gLe) (dB2 gSub (dB2 gIx (dV 0) (dB2 gAdd (dV 4) (dC (.int 1)))) (dB2 gIx (dV 0) (dV 4))) (dV 1)))) [.val (iL ms), .val (.int g), a, b, .val (.int (k : Int))] = .ok false [.val (iL ms), .val (.int g), a, b, .val (.int (k : Int))] := by
        simp only [ev_and, ev_tst, ev_b2, ev_v4, ev_v0, ev_c, ev_bl, ev_cons, ev_nil, gLen_iL, bind_ok, bo, gCmp_i, Option.map_some, optR_some, asB_b, gSub_i, decide_eq_false c0, Bool.false_eq_true, if_false]
      rw [et, bind_ok, if_neg (by decide), eh]
theorem c_group_of {ms : List Int} {g : Int} {p : Nat} (h : Mom ms) (hg : Gap g) (hp : p < ms.length) : C_group_of [iL ms, .int g, .int (p : Int)] = .ok (.tuple [.int (loF g ms p : Nat), .int (hiF g ms 12 p : Nat)]) := by
  rw [C_group_of, runP3, G_group_of]
  have hl := h.len
  have e1 : dPar [3, 4] (dCons (dV 2) (dCons (dV 2) dNil)) [.val (iL ms), .val (.int g), .val (.int (p : Int)), .emp, .emp] = .ok .nx [.val (iL ms), .val (.int g), .val (.int (p : Int)), .val (.int (p : Int)), .val (.int (p : Int))] := rfl
  have w1 := while_lo (ms := ms) (g := g) (a := .val (.int (p : Int))) (b := .val (.int (p : Int))) p 100 (by omega) hp
  have w2 := while_hi (ms := ms) (g := g) (a := .val (.int (p : Int))) (b := .val (.int (loF g ms p : Nat))) 12 p 100 (by omega) hp (by omega)
  simp only [List.replicate, ev_seq, ev_exp, ev_call, ev_cons, ev_v0, ev_v1, ev_v2, ev_nil, bind_ok, c_check_moments h, c_check_gap hg, c_check_place (ms := ms) (k := (p : Int)) (by omega) (by omega), at_ok, seqR_nx, e1, w1, w2, ev_ret, ev_bl, ev_v3, ev_v4]
  rfl
end GG

namespace GG
open PySem PySem.Spec PyProof.Rows L2

/-! ### the draws -/
theorem c_draw {ns : List Int} {c lim : Int} (h : ns ≠ []) (h1 : 0 < lim) (h2 : lim < 1073741824) : C__law_draw ns c [.int lim] = .ok (.int (drawV ns c lim)) (drawN ns c lim) (c + 1) := by
  simp only [C__law_draw]
  rw [if_pos ⟨h1, h2, h⟩]
theorem drawN_ne {ns : List Int} {c lim : Int} (h : ns ≠ []) : drawN ns c lim ≠ [] := by
  intro e
  have := drawN_len ns c lim
  rw [e] at this
  exact h (List.length_eq_zero_iff.mp this.symm)
theorem callD_ok {P : SFn} {i : Nat} {fs : Den (List D)} {ρ ρ1 : Env'} {ns0 ns ns' : List Int} {c0 c c' : Int} {ds : List D} {d : D} (h0 : ρ[i]? = some (.drw ns0 c0)) (h1 : fs ρ = .ok ds ρ1) (h2 : ρ1[i]? = some (.drw ns c)) (h3 : P ns c ds = .ok d ns' c') : dCallD P i fs ρ = .ok d (ρ1.set i (.drw ns' c')) := by
  unfold dCallD
  rw [h0]
  dsimp only
  rw [h1, bind_ok, h2]
  dsimp only
  rw [h3]
/-- a draw: some number below the limit -/
theorem draw_ex {i : Nat} {fs : Den (List D)} {ρ ρ1 : Env'} {ns0 ns : List Int} {c0 c lim : Int} (h0 : ρ[i]? = some (.drw ns0 c0)) (h1 : fs ρ = .ok [.int lim] ρ1) (h2 : ρ1[i]? = some (.drw ns c)) (hn : ns ≠ []) (hl : 0 < lim) (hl2 : lim < 1073741824) :
    ∃ v ns' c', dCallD C__law_draw i fs ρ = .ok (.int v) (ρ1.set i (.drw ns' c')) ∧ 0 ≤ v ∧ v < lim ∧ ns' ≠ [] :=
  ⟨drawV ns c lim, drawN ns c lim, c + 1, callD_ok h0 h1 h2 (c_draw hn hl hl2), (drawV_bd hl).1, (drawV_bd hl).2, drawN_ne hn⟩
def outD (r : Res Fl) : SO := match r with
  | .ok fl ρ' => (match ρ'[0]? with
    | some (Slot.drw ns' c') => .ok (match fl with | .nx => .none | .rt d => d) ns' c'
    | _ => .st)
  | _ => .st
theorem runD1 (m : Nat) (G : Den Fl) (ns : List Int) (c : Int) (a : D) : runD 1 m G ns c [a] = outD (G (.drw ns c :: .val a :: List.replicate m .emp)) := rfl
@[simp] theorem outD_rt (d : D) (ns : List Int) (c : Int) (r : Env') : outD (.ok (.rt d) (.drw ns c :: r)) = .ok d ns c := Eq.trans rfl rfl
theorem atI_mem {ds : List D} {i : Int} (h0 : 0 ≤ i) (h1 : i < ds.length) : ∃ d, atI ds i = some d ∧ d ∈ ds := by
  obtain ⟨n, rfl⟩ : ∃ n : Nat, i = n := ⟨i.toNat, by omega⟩
  have hn : n < ds.length := by omega
  exact ⟨ds[n], atI_nat (List.getElem?_eq_getElem hn), List.getElem_mem hn⟩
theorem c_pick {ns : List Int} {c : Int} {ds : List D} (h : ns ≠ []) (h1 : ds ≠ []) (h2 : ds.length < 1000000) : ∃ d ns' c', C__law_pick ns c [.list ds] = .ok d ns' c' ∧ d ∈ ds ∧ ns' ≠ [] := by
  have hp : 0 < ds.length := List.length_pos_iff.mpr h1
  obtain ⟨v, ns', c', e, v0, v1, hn⟩ := draw_ex (i := 0) (fs := dCons (dBL gLen (dCons (dV 1) dNil)) dNil) (ρ := [.drw ns c, .val (.list ds)]) (ρ1 := [.drw ns c, .val (.list ds)]) (lim := ds.length) rfl (by simp) rfl h (by omega) (by omega)
  obtain ⟨d, hd, hm⟩ := atI_mem v0 v1
  refine ⟨d, ns', c', ?_, hm, hn⟩
  rw [C__law_pick, runD1, G__law_pick]
  simp [e, hd]
/-- one draw more in an environment -/
theorem pick_ex {i : Nat} {fs : Den (List D)} {ρ ρ1 : Env'} {ns0 ns : List Int} {c0 c : Int} {ds : List D} (h0 : ρ[i]? = some (.drw ns0 c0)) (h1 : fs ρ = .ok [.list ds] ρ1) (h2 : ρ1[i]? = some (.drw ns c)) (hn : ns ≠ []) (hd : ds ≠ []) (hl : ds.length < 1000000) :
    ∃ d ns' c', dCallD C__law_pick i fs ρ = .ok d (ρ1.set i (.drw ns' c')) ∧ d ∈ ds ∧ ns' ≠ [] := by
  obtain ⟨d, ns', c', e, hm, hne⟩ := c_pick (c := c) hn hd hl
  exact ⟨d, ns', c', callD_ok h0 h1 h2 e, hm, hne⟩
/-- what the law draws: moments -/
structure LM (most : Int) (ms : List Int) : Prop where
  ne : ms ≠ []
  len : (ms.length : Int) ≤ most
  hd0 : 0 ≤ ms.headD 0
  hd1 : ms.headD 0 < 20
  st : ∀ k, k + 1 < ms.length → nth ms k ≤ nth ms (k + 1) ∧ nth ms (k + 1) < nth ms k + 60
theorem nth_snoc {l : List Int} {z : Int} {k : Nat} (h : k < l.length) : nth (l ++ [z]) k = nth l k := by
  simp [nth, List.getD_eq_getElem?_getD, List.getElem?_append_left h]
theorem nth_snoc_last (l : List Int) (z : Int) : nth (l ++ [z]) l.length = z := by simp [nth, List.getD_eq_getElem?_getD]
theorem nth_last {l : List Int} (h : l ≠ []) : nth l (l.length - 1) = l.getLastD 0 := by
  obtain ⟨a, z, rfl⟩ : ∃ a z, l = a ++ [z] := ⟨l.dropLast, l.getLast h, (List.dropLast_concat_getLast h).symm⟩
  rw [show (a ++ [z]).length - 1 = a.length by simp, nth_snoc_last]
  simp
theorem LM.mono {a b : Int} {ms : List Int} (h : LM a ms) (hab : a ≤ b) : LM b ms := ⟨h.ne, Int.le_trans h.len hab, h.hd0, h.hd1, h.st⟩
theorem nth_zero {ms : List Int} (h : ms ≠ []) : nth ms 0 = ms.headD 0 := by
  cases ms with
  | nil => exact absurd rfl h
  | cons x r => rfl
theorem LM.bd {most : Int} {ms : List Int} (h : LM most ms) : ∀ k : Nat, k < ms.length → 0 ≤ nth ms k ∧ nth ms k ≤ 19 + 59 * (k : Int)
  | 0, _ => by
    rw [nth_zero h.ne]
    have := h.hd0
    have := h.hd1
    omega
  | k + 1, hk => by
    have := LM.bd h k (by omega)
    have := h.st k hk
    omega
theorem LM.mom {most : Int} {ms : List Int} (h : LM most ms) (hm : most ≤ 12) : Mom ms := by
  have hl := h.len
  refine ⟨h.ne, by omega, fun m hm' => ?_, fun k hk => (h.st k hk).1⟩
  obtain ⟨k, hk, rfl⟩ := List.getElem_of_mem hm'
  have := h.bd k hk
  rw [nth_eq hk] at this
  omega
theorem c_law_moments {ns : List Int} {c most : Int} (h : ns ≠ []) (h1 : 0 < most) (h2 : most ≤ 12) : ∃ ms ns' c', C__law_moments ns c [.int most] = .ok (iL ms) ns' c' ∧ LM most ms ∧ ns' ≠ [] := by
  rw [C__law_moments, runD1, G__law_moments]
  obtain ⟨d, n1, c1, e1, hd, hn1⟩ := pick_ex (i := 0) (fs := dCons (dBL gLstD (dCons (dC (.int 2)) (dCons (dC (.int 4)) (dCons (dC (.int 9)) (dCons (dC (.int 60)) dNil))))) dNil) (ρ := [.drw ns c, .val (.int most), .emp, .emp, .emp]) (ρ1 := [.drw ns c, .val (.int most), .emp, .emp, .emp]) (ds := [.int 2, .int 4, .int 9, .int 60]) rfl (by simp [gLstD_]) rfl h (by simp) (by simp)
  obtain ⟨wide, rfl, w0, w1⟩ : ∃ wide, d = .int wide ∧ 0 < wide ∧ wide ≤ 60 := by
    simp at hd
    rcases hd with rfl | rfl | rfl | rfl
    · exact ⟨2, rfl, by decide, by decide⟩
    · exact ⟨4, rfl, by decide, by decide⟩
    · exact ⟨9, rfl, by decide, by decide⟩
    · exact ⟨60, rfl, by decide, by decide⟩
  obtain ⟨v, n2, c2, e2, v0, v1, hn2⟩ := draw_ex (i := 0) (fs := dCons (dC (.int 20)) dNil) (ρ := [.drw n1 c1, .val (.int most), .val (.int wide), .emp, .emp]) (ρ1 := [.drw n1 c1, .val (.int most), .val (.int wide), .emp, .emp]) (lim := 20) rfl rfl rfl hn1 (by decide) (by decide)
  have e2' : dOwn 3 (dCons (dCallD C__law_draw 0 (dCons (dC (.int 20)) dNil)) dNil) [.drw n1 c1, .val (.int most), .val (.int wide), .emp, .emp] = .ok .nx [.drw n2 c2, .val (.int most), .val (.int wide), .own [.int v], .emp] := by
    unfold dOwn
    simp only [ev_cons, e2, bind_ok, ev_nil]
    rfl
  obtain ⟨t, n3, c3, e3, t0, t1, hn3⟩ := draw_ex (i := 0) (fs := dCons (dV 1) dNil) (ρ := [.drw n2 c2, .val (.int most), .val (.int wide), .own [.int v], .emp]) (ρ1 := [.drw n2 c2, .val (.int most), .val (.int wide), .own [.int v], .emp]) (lim := most) rfl rfl rfl hn2 h1 (by omega)
  obtain ⟨ρ', l1, l2⟩ := loop_inv (tg := .n 4) (G := dApp 3 (dB2 gAdd (dIxV 3 (dB1 gNeg (dC (.int 1)))) (dCallD C__law_draw 0 (dCons (dV 2) dNil)))) (ρ := [.drw n3 c3, .val (.int most), .val (.int wide), .own [.int v], .emp])
    (fun k : Nat => PyData.int (k : Int)) (List.range t.toNat) (fun pre ρ' => ∃ ns' c' ms s, ρ' = [.drw ns' c', .val (.int most), .val (.int wide), .own (ms.map PyData.int), s] ∧ ns' ≠ [] ∧ LM ((pre.length : Int) + 1) ms)
    ⟨n3, c3, [v], .emp, rfl, hn3, ⟨by simp, by simp, v0, v1, fun k hk => by simp at hk⟩⟩ (by
      rintro pre x post ρ' e ⟨ns', c', ms, s, rfl, hn, hL⟩
      have hpl : pre.length < t.toNat := by
        have := congrArg List.length e
        simp at this
        omega
      have hml := hL.len
      obtain ⟨u, n5, c5, e5, u0, u1, hn5⟩ := draw_ex (i := 0) (fs := dCons (dV 2) dNil) (ρ := [.drw ns' c', .val (.int most), .val (.int wide), .own (ms.map PyData.int), .val (.int (x : Int))]) (ρ1 := [.drw ns' c', .val (.int most), .val (.int wide), .own (ms.map PyData.int), .val (.int (x : Int))]) (lim := wide) rfl rfl rfl hn w0 (by omega)
      have e6 : dIxV 3 (dB1 gNeg (dC (.int 1))) [.drw ns' c', .val (.int most), .val (.int wide), .own (ms.map PyData.int), .val (.int (x : Int))] = .ok (.int (ms.getLastD 0)) [.drw ns' c', .val (.int most), .val (.int wide), .own (ms.map PyData.int), .val (.int (x : Int))] :=
        ixV_ok (ds0 := ms.map PyData.int) (ds := ms.map PyData.int) rfl (by simp) rfl (atI_intL hL.ne)
      refine ⟨_, _, rfl, app_ok' (i := 3) (ds0 := ms.map PyData.int) (ds := ms.map PyData.int) (d := .int (ms.getLastD 0 + u)) (ρ1 := [.drw n5 c5, .val (.int most), .val (.int wide), .own (ms.map PyData.int), .val (.int (x : Int))]) rfl ?_ rfl (by simp; omega), n5, c5, ms ++ [ms.getLastD 0 + u], .val (.int (x : Int)), by simp, hn5, ?_⟩
      · show dB2 gAdd (dIxV 3 (dB1 gNeg (dC (.int 1)))) (dCallD C__law_draw 0 (dCons (dV 2) dNil)) [.drw ns' c', .val (.int most), .val (.int wide), .own (ms.map PyData.int), .val (.int (x : Int))] = _
        simp [e6, e5]
      · refine ⟨by simp, by simp; omega, ?_, ?_, fun k hk => ?_⟩
        · have := hL.hd0
          cases ms with
          | nil => exact absurd rfl hL.ne
          | cons a r => simpa using this
        · have := hL.hd1
          cases ms with
          | nil => exact absurd rfl hL.ne
          | cons a r => simpa using this
        · simp at hk
          by_cases hk2 : k + 1 < ms.length
          · rw [nth_snoc (by omega), nth_snoc hk2]
            exact hL.st k hk2
          · have hk3 : k + 1 = ms.length := by omega
            rw [hk3, nth_snoc_last, nth_snoc (by omega), show k = ms.length - 1 by omega, nth_last hL.ne]
            omega)
  obtain ⟨ns', c', ms, s, rfl, hn, hL⟩ := l2
  refine ⟨ms, ns', c', ?_, hL.mono (by simp; omega), hn⟩
  have er : gRng1 [.int t] = some ((List.range t.toNat).map fun k : Nat => PyData.int (k : Int)) := by
    rw [gRng1_i (by omega) (by omega), rng_map]
    simp
  have e1' : dCallD C__law_pick 0 (dCons (dBL gLstD (dCons (dC (.int 2)) (dCons (dC (.int 4)) (dCons (dC (.int 9)) (dCons (dC (.int 60)) dNil))))) dNil) [.drw ns c, .val (.int most), .emp, .emp, .emp] = .ok (.int wide) [.drw n1 c1, .val (.int most), .emp, .emp, .emp] := e1
  have e3' : dCallD C__law_draw 0 (dCons (dV 1) dNil) [.drw n2 c2, .val (.int most), .val (.int wide), .own [.int v], .emp] = .ok (.int t) [.drw n3 c3, .val (.int most), .val (.int wide), .own [.int v], .emp] := e3
  simp only [List.replicate, ev_seq, ev_asg, e1', bind_ok, List.set_cons_succ, List.set_cons_zero, seqR_nx, e2', ev_for, ev_bl, ev_cons, e3', ev_nil, er, optR_some, l1, ev_ret]
  rfl
end GG

namespace GG
open PySem PySem.Spec PyProof.Rows L2

/-! ### the drawn gap -/
theorem c_law_gap {ns : List Int} {c : Int} {ms : List Int} (h : ns ≠ []) (hL : LM 12 ms) : ∃ g ns' c', C__law_gap ns c [iL ms] = .ok (.int g) ns' c' ∧ 0 ≤ g ∧ g ≤ 61 ∧ ns' ≠ [] := by
  have hl := hL.len
  have l1 := dLc_all (it := dBL gRng1 (dCons (dB2 gSub (dBL gLen (dCons (dV 1) dNil)) (dC (.int 1))) dNil)) (g := .n 3) (f := dB2 gSub (dB2 gIx (dV 1) (dB2 gAdd (dV 3) (dC (.int 1)))) (dB2 gIx (dV 1) (dV 3))) (vs := [3]) (ρ := [.drw ns c, .val (iL ms), .emp, .emp]) (ρ1 := [.drw ns c, .val (iL ms), .emp, .emp])
    (fun k : Nat => PyData.int (k : Int)) (List.range (ms.length - 1)) (fun k => .int (nth ms (k + 1) - nth ms k)) (by
      have e1 := gRng1_i (j := (ms.length : Int) - 1) (by omega) (by omega)
      simp [e1]
      rw [rng_map]
      simp) (by simp) (fun k hk => by
      have hk := List.mem_range.mp hk
      have e1 := ix_iL (ms := ms) (i := (k : Int) + 1) (by omega) (by omega)
      have e2 := ix_iLn (ms := ms) (k := k) (by omega)
      refine ⟨_, rfl, ?_, rfl⟩
      simp [e1, e2, show ((k : Int) + 1).toNat = k + 1 by omega]) (by simp; omega)
  let ds : List D := (List.range (ms.length - 1)).map (fun k => PyData.int (nth ms (k + 1) - nth ms k)) ++ [.int 0, .int 2]
  have a1 : gAdd (.list ((List.range (ms.length - 1)).map fun k => PyData.int (nth ms (k + 1) - nth ms k))) (.list [.int 0, .int 2]) = some (.list ds) := gAdd_l (by simp; omega)
  obtain ⟨d, n1, c1, e1, hd, hn1⟩ := pick_ex (i := 0) (fs := dCons (dV 2) dNil) (ρ := [.drw ns c, .val (iL ms), .val (.list ds), .emp]) (ρ1 := [.drw ns c, .val (iL ms), .val (.list ds), .emp]) (ds := ds) rfl rfl rfl h (by simp [ds]) (by simp [ds]; omega)
  obtain ⟨s, rfl, s0, s1⟩ : ∃ s : Int, d = .int s ∧ 0 ≤ s ∧ s ≤ 59 := by
    rcases List.mem_append.mp hd with hd | hd
    · obtain ⟨k, hk, rfl⟩ := List.mem_map.mp hd
      have hk := List.mem_range.mp hk
      have := hL.st k (by omega)
      exact ⟨_, rfl, by omega, by omega⟩
    · simp at hd
      rcases hd with rfl | rfl
      · exact ⟨0, rfl, by decide, by decide⟩
      · exact ⟨2, rfl, by decide, by decide⟩
  obtain ⟨v, n2, c2, e2, v0, v1, hn2⟩ := draw_ex (i := 0) (fs := dCons (dC (.int 3)) dNil) (ρ := [.drw n1 c1, .val (iL ms), .val (.list ds), .emp]) (ρ1 := [.drw n1 c1, .val (iL ms), .val (.list ds), .emp]) (lim := 3) rfl rfl rfl hn1 (by decide) (by decide)
  refine ⟨max 0 (s + v - 1), n2, c2, ?_, by omega, by omega, hn2⟩
  rw [C__law_gap, runD1, G__law_gap]
  have e1' : dCallD C__law_pick 0 (dCons (dV 2) dNil) [.drw ns c, .val (iL ms), .val (.list ds), .emp] = .ok (.int s) [.drw n1 c1, .val (iL ms), .val (.list ds), .emp] := e1
  have e2' : dCallD C__law_draw 0 (dCons (dC (.int 3)) dNil) [.drw n1 c1, .val (iL ms), .val (.list ds), .emp] = .ok (.int v) [.drw n2 c2, .val (iL ms), .val (.list ds), .emp] := e2
  simp only [List.replicate, ev_seq, ev_asg, ev_b2, l1, bind_ok, ev_bl, ev_cons, ev_c, ev_nil, gLstD_ (xs := [PyData.int 0, PyData.int 2]) (by simp), optR_some, a1, List.set_cons_succ, List.set_cons_zero, seqR_nx, ev_ret, e1', e2', gAdd_i, gSub_i, gMax_2, outD_rt]

/-! ### the places of a group -/
theorem nth_app (a b : List Int) (k : Nat) : nth (a ++ b) (a.length + k) = nth b k := by
  simp [nth, List.getD_eq_getElem?_getD, List.getElem?_append_right]
theorem nth_appL {a b : List Int} {k : Nat} (h : k < a.length) : nth (a ++ b) k = nth a k := by
  simp [nth, List.getD_eq_getElem?_getD, List.getElem?_append_left h]
theorem near_nth {g : Int} : ∀ {l : List Int}, Near g l → ∀ k, k + 1 < l.length → nth l (k + 1) - nth l k ≤ g
  | [], _, k, h => by simp at h
  | [x], _, k, h => by simp at h
  | x :: y :: r, hn, 0, h => hn.1
  | x :: y :: r, hn, k + 1, h => by
    rw [nth_cons, nth_cons]
    exact near_nth (l := y :: r) hn.2 k (by simpa using h)
theorem far_at {g : Int} : ∀ {pre post : List (List Int)} {a b : List Int}, Far g (pre ++ a :: b :: post) → b.headD 0 - a.getLastD 0 > g
  | [], _, _, _, h => h.1
  | [p], _, _, _, h => h.2.1
  | p :: q :: pre, _, _, _, h => far_at (pre := q :: pre) h.2
theorem loF_eq {g : Int} {ms : List Int} {a : Nat} (ha : a = 0 ∨ ∃ b, a = b + 1 ∧ g < nth ms a - nth ms b) : ∀ j : Nat, (∀ i, i < j → nth ms (a + i + 1) - nth ms (a + i) ≤ g) → loF g ms (a + j) = a
  | 0, _ => by
    rcases ha with rfl | ⟨b, rfl, hb⟩
    · rfl
    · show loF g ms (b + 1) = b + 1
      unfold loF
      rw [if_neg (by omega)]
  | j + 1, h => by
    have := h j (by omega)
    show loF g ms ((a + j) + 1) = a
    unfold loF
    rw [if_pos this]
    exact loF_eq ha j fun i hi => h i (by omega)
theorem hiF_eq {g : Int} {ms : List Int} {z : Nat} (hz : z < ms.length) (hb : ¬ (z + 1 < ms.length ∧ nth ms (z + 1) - nth ms z ≤ g)) : ∀ (n p : Nat), p ≤ z → z ≤ p + n → (∀ i, p ≤ i → i < z → nth ms (i + 1) - nth ms i ≤ g) → hiF g ms n p = z
  | 0, p, h1, h2, _ => by
    have : p = z := by omega
    subst this
    rfl
  | n + 1, p, h1, h2, h3 => by
    unfold hiF
    by_cases e : p = z
    · subst e
      rw [if_neg hb]
    · rw [if_pos ⟨by omega, h3 p (Nat.le_refl _) (by omega)⟩]
      exact hiF_eq hz hb n (p + 1) (by omega) (by omega) fun i a b => h3 i (by omega) b
theorem head_nth {l : List Int} (h : l ≠ []) : l.headD 0 = nth l 0 := (nth_zero h).symm
/-- the bounds of the group that holds a place -/
theorem place_at {g : Int} {ms : List Int} {pre post : List (List Int)} {l : List Int} (hG : IsG g (pre ++ l :: post)) (hf : (pre ++ l :: post).flatten = ms) (hl : ms.length ≤ 12) {j : Nat} (hj : j < l.length) :
    loF g ms (pre.flatten.length + j) = pre.flatten.length ∧ hiF g ms 12 (pre.flatten.length + j) = pre.flatten.length + l.length - 1 := by
  have e : ms = pre.flatten ++ (l ++ post.flatten) := by rw [← hf]; simp
  have hne := hG.ne l (by simp)
  have hll : ms.length = pre.flatten.length + (l.length + post.flatten.length) := by rw [e]; simp
  have inn : ∀ i, i + 1 < l.length → nth ms (pre.flatten.length + i + 1) - nth ms (pre.flatten.length + i) ≤ g := by
    intro i hi
    have := near_nth (hG.near l (by simp)) i hi
    rw [e, Nat.add_assoc, nth_app, nth_app, nth_appL hi, nth_appL (by omega)]
    exact this
  have hst : nth ms pre.flatten.length = l.headD 0 := by
    have := nth_app pre.flatten (l ++ post.flatten) 0
    rw [Nat.add_zero] at this
    rw [e, this, nth_appL (by omega), head_nth hne]
  have hla : nth ms (pre.flatten.length + l.length - 1) = l.getLastD 0 := by
    rw [show pre.flatten.length + l.length - 1 = pre.flatten.length + (l.length - 1) by omega, e, nth_app, nth_appL (by omega), nth_last hne]
  constructor
  · refine loF_eq ?_ j fun i hi => inn i (by omega)
    by_cases h0 : pre = []
    · left; rw [h0]; rfl
    · right
      obtain ⟨p0, q, rfl⟩ : ∃ p0 q, pre = p0 ++ [q] := ⟨pre.dropLast, pre.getLast h0, (List.dropLast_concat_getLast h0).symm⟩
      have hq := hG.ne q (by simp)
      have hql : 0 < q.length := List.length_pos_iff.mpr hq
      have hfar : l.headD 0 - q.getLastD 0 > g := far_at (pre := p0) (post := post) (by
        have := hG.far
        rw [List.append_assoc] at this
        exact this)
      have el : (p0 ++ [q]).flatten.length = p0.flatten.length + (q.length - 1) + 1 := by simp; omega
      refine ⟨p0.flatten.length + (q.length - 1), el, ?_⟩
      rw [hst]
      have : nth ms (p0.flatten.length + (q.length - 1)) = q.getLastD 0 := by
        rw [e]
        rw [show (p0 ++ [q]).flatten ++ (l ++ post.flatten) = p0.flatten ++ (q ++ (l ++ post.flatten)) by simp]
        rw [nth_app, nth_appL (by omega), nth_last hq]
      rw [this]
      exact hfar
  · refine hiF_eq (by omega) ?_ 12 _ (by omega) (by omega) fun i a b => ?_
    · rintro ⟨h1, h2⟩
      cases post with
      | nil => rw [List.flatten_nil, List.length_nil] at hll; omega
      | cons r post =>
        have hr := hG.ne r (by simp)
        have hrl : 0 < r.length := List.length_pos_iff.mpr hr
        have hfar : r.headD 0 - l.getLastD 0 > g := far_at (pre := pre) (post := post) hG.far
        have : nth ms (pre.flatten.length + l.length - 1 + 1) = r.headD 0 := by
          rw [show pre.flatten.length + l.length - 1 + 1 = pre.flatten.length + l.length by omega, e]
          have := nth_app pre.flatten (l ++ (r :: post).flatten) l.length
          rw [this]
          have := nth_app l (r :: post).flatten 0
          rw [Nat.add_zero] at this
          rw [this, List.flatten_cons, nth_appL hrl, head_nth hr]
        rw [this, hla] at h2
        omega
    · obtain ⟨k, rfl⟩ : ∃ k, i = pre.flatten.length + k := ⟨i - pre.flatten.length, by omega⟩
      exact inn k (by omega)
/-- a gap that no step passes -/
theorem grp_whole {g : Int} : ∀ {ms : List Int}, ms ≠ [] → (∀ k, k + 1 < ms.length → nth ms (k + 1) - nth ms k ≤ g) → grp g ms = [ms]
  | [], h, _ => absurd rfl h
  | [x], _, _ => rfl
  | x :: y :: r, _, h => by
    have h0 := h 0 (by simp)
    have h0 : y - x ≤ g := h0
    rw [grp_cons, if_neg (by omega), grp_whole (ms := y :: r) (by simp) fun k hk => by
      have := h (k + 1) (by simpa using hk)
      rwa [nth_cons, nth_cons] at this]
    rfl
end GG

namespace GG
open PySem PySem.Spec PyProof.Rows L2

/-! ### a comprehension whose names were bound before -/
theorem dLc_gen {ι : Type} {it : Den (List D)} {g : Tg} {c : Den Bool} {f : Den D} {vs : List Nat} {ρ ρ1 : Env'} (φ : ι → D) (xs : List ι) (P : ι → Bool) (F : ι → D) (ρw : Env') (hi : it ρ = .ok (xs.map φ) ρ1)
    (hp : (vs.all fun v => plainS (ρ1.getD v .emp)) = true) (hw : wipeE ρ1 vs = ρw) (hr : restore ρ1 ρw vs = ρ1)
    (h : ∀ x, x ∈ xs → ∃ ρ2, g.put (φ x) ρw = some ρ2 ∧ c ρ2 = .ok (P x) ρ2 ∧ (P x = true → f ρ2 = .ok (F x) ρ2) ∧ wipeE ρ2 vs = ρw) (hl : xs.length ≤ 100000) : dLc it g c f vs ρ = .ok (.list ((xs.filter P).map F)) ρ1 := by
  have lp : ∀ (xs : List ι) (acc : List D), (∀ x, x ∈ xs → ∃ ρ2, g.put (φ x) ρw = some ρ2 ∧ c ρ2 = .ok (P x) ρ2 ∧ (P x = true → f ρ2 = .ok (F x) ρ2) ∧ wipeE ρ2 vs = ρw) → acc.length + xs.length ≤ 100000 → compLoop g c f vs (xs.map φ) acc ρw = .ok (acc ++ (xs.filter P).map F) ρw := by
    intro xs
    induction xs with
    | nil => intro acc _ _; simp [compLoop]
    | cons x xs ih =>
      intro acc h hl
      obtain ⟨ρ2, h1, h2, h3, h4⟩ := h x List.mem_cons_self
      have hl' : acc.length + (xs.length + 1) ≤ 100000 := by simpa using hl
      rw [List.map_cons]
      unfold compLoop
      rw [h1]
      dsimp only
      rw [h2]
      cases hq : P x with
      | true =>
        simp only [noer, bind_ok, if_true, h3 hq]
        rw [if_pos (show acc.length < 100000 by omega), h4, ih (acc ++ [F x]) (fun e he => h e (List.mem_cons_of_mem _ he)) (by simp; omega)]
        simp [List.filter_cons, hq]
      | false =>
        simp only [noer, bind_ok, Bool.false_eq_true, if_false]
        rw [h4, ih acc (fun e he => h e (List.mem_cons_of_mem _ he)) (by omega)]
        simp [List.filter_cons, hq]
  unfold dLc
  rw [hi, bind_ok, if_pos hp, hw, lp xs [] h (by simpa using hl), bind_ok, hr]
  simp
theorem dLc_genA {ι : Type} {it : Den (List D)} {g : Tg} {f : Den D} {vs : List Nat} {ρ ρ1 : Env'} (φ : ι → D) (xs : List ι) (F : ι → D) (ρw : Env') (hi : it ρ = .ok (xs.map φ) ρ1)
    (hp : (vs.all fun v => plainS (ρ1.getD v .emp)) = true) (hw : wipeE ρ1 vs = ρw) (hr : restore ρ1 ρw vs = ρ1)
    (h : ∀ x, x ∈ xs → ∃ ρ2, g.put (φ x) ρw = some ρ2 ∧ f ρ2 = .ok (F x) ρ2 ∧ wipeE ρ2 vs = ρw) (hl : xs.length ≤ 100000) : dLc it g dYes f vs ρ = .ok (.list (xs.map F)) ρ1 := by
  have := dLc_gen (c := dYes) φ xs (fun _ => true) F ρw hi hp hw hr (fun x hx => by
    obtain ⟨ρ2, h1, h2, h3⟩ := h x hx
    exact ⟨ρ2, h1, rfl, fun _ => h2, h3⟩) hl
  rw [this, List.filter_eq_self.mpr (fun _ _ => rfl)]
/-! ### steps and their counts -/
theorem c_steps {ms : List Int} (h : Mom ms) : C_steps [iL ms] = .ok (iL (stp ms)) := by
  rw [C_steps, runP1, G_steps]
  simp [c_check_moments h, c_steps_of h.l1]
theorem c_length {ms : List Int} (h : Mom ms) : C_length [iL ms] = .ok (.int (lenM ms)) := by
  rw [C_length, runP1, G_length]
  simp [c_check_moments h, ix_head h.ne, ix_last h.ne, lenM]
theorem dB_range : ∀ (r : List Int) (x : Int), ((List.range r.length).filter fun k => !decide (nth (x :: r) (k + 1) = nth (x :: r) k)).map (fun k => nth r k) = dB x r
  | [], _ => rfl
  | y :: r, x => by
    have ih := dB_range r y
    rw [List.length_cons, List.range_succ_eq_map, List.filter_cons, List.filter_map]
    have e : (fun k => !decide (nth (x :: y :: r) (k + 1) = nth (x :: y :: r) k)) ∘ Nat.succ = fun k => !decide (nth (y :: r) (k + 1) = nth (y :: r) k) := by
      funext k
      simp only [Function.comp, Nat.succ_eq_add_one, nth_cons]
    rw [e]
    have z : nth (x :: y :: r) (0 + 1) = y := rfl
    have z0 : nth (x :: y :: r) 0 = x := rfl
    rw [z, z0]
    have em : ∀ l : List Nat, (l.map Nat.succ).map (fun k => nth (y :: r) k) = l.map fun k => nth r k := by
      intro l
      rw [List.map_map]
      rfl
    unfold dB
    by_cases h : y = x
    · simp only [h, decide_true, Bool.not_true, Bool.false_eq_true, if_false, if_true]
      rw [h] at em ih
      rw [em, ih]
    · simp only [h, decide_false, Bool.not_false, if_true, if_false]
      rw [List.map_cons, em, ih]
      rfl
theorem dA_range (l : List Int) : ((List.range l.length).filter fun k => decide (k = 0) || !decide (nth l k = nth l (k - 1))).map (fun k => nth l k) = dA l := by
  cases l with
  | nil => rfl
  | cons x r =>
    rw [List.length_cons, List.range_succ_eq_map, List.filter_cons, List.filter_map]
    have e : (fun k => decide (k = 0) || !decide (nth (x :: r) k = nth (x :: r) (k - 1))) ∘ Nat.succ = fun k => !decide (nth (x :: r) (k + 1) = nth (x :: r) k) := by
      funext k
      simp [Function.comp]
    rw [e]
    simp only [decide_true, Bool.true_or, if_true, List.map_cons, List.map_map]
    have := dB_range r x
    show _ = x :: dB x r
    rw [← this]
    rfl
theorem sum_congr' {α : Type} {f g : α → Nat} : ∀ {l : List α}, (∀ x, x ∈ l → f x = g x) → (l.map f).sum = (l.map g).sum
  | [], _ => rfl
  | x :: l, h => by
    rw [List.map_cons, List.map_cons, List.sum_cons, List.sum_cons, h x List.mem_cons_self, sum_congr' fun y hy => h y (List.mem_cons_of_mem _ hy)]
theorem dB_sum : ∀ {r : List Int} {x : Int}, (x :: r).Pairwise (· ≤ ·) → ((dB x r).map fun s => r.count s).sum + r.count x = r.length
  | [], _, _ => rfl
  | y :: r, x, hp => by
    have hp2 := (List.pairwise_cons.mp hp).2
    have hxy : x ≤ y := (List.pairwise_cons.mp hp).1 y List.mem_cons_self
    have ih := dB_sum hp2
    have hc : ((dB y r).map fun s => (y :: r).count s).sum = ((dB y r).map fun s => r.count s).sum := sum_congr' fun s hs => by
      have := dB_mem hp2 s hs
      rw [List.count_cons_of_ne (by omega)]
    unfold dB
    by_cases h : y = x
    · rw [if_pos h, hc, ← h, List.count_cons_self, List.length_cons]
      omega
    · rw [if_neg h, List.map_cons, List.sum_cons, hc, List.count_cons_self, List.length_cons]
      have : (y :: r).count x = 0 := List.count_eq_zero.mpr fun hm => by
        rcases List.mem_cons.mp hm with e | hm
        · exact h e.symm
        · have := (List.pairwise_cons.mp hp2).1 x hm
          omega
      omega
theorem dA_sum {l : List Int} (h : l.Pairwise (· ≤ ·)) : ((dA l).map fun s => l.count s).sum = l.length := by
  cases l with
  | nil => rfl
  | cons x r =>
    have hs := dB_sum h
    have hc : ((dB x r).map fun s => (x :: r).count s).sum = ((dB x r).map fun s => r.count s).sum := sum_congr' fun s hs => by
      have := dB_mem h s hs
      rw [List.count_cons_of_ne (by omega)]
    unfold dA
    rw [List.map_cons, List.sum_cons, hc, List.count_cons_self, List.length_cons]
    omega
@[simp] theorem gCnt_i (ns : List Int) (k : Int) : gCnt (ns.map PyData.int) (.int k) = some (.int (ns.count k : Nat)) := by simp [gCnt, intsOf_map]
theorem lm_ok {g : List D → D → Option D} {f1 f2 : Den D} {ρ ρ1 ρ2 : Env'} {ds : List D} {e z : D} (h1 : f1 ρ = .ok (.list ds) ρ1) (h2 : f2 ρ1 = .ok e ρ2) (h3 : g ds e = some z) : dLM g f1 f2 ρ = .ok z ρ2 := by
  unfold dLM
  rw [h1, bind_ok]
  dsimp only
  rw [h2, bind_ok, h3]
def cnts (l : List Int) : D := .list ((dA l).map fun s => PyData.tuple [.int s, .int (l.count s : Nat)])
theorem dB_len : ∀ (r : List Int) (x : Int), (dB x r).length ≤ r.length
  | [], _ => Nat.le_refl _
  | y :: r, x => by
    have := dB_len r y
    unfold dB
    split
    · rw [List.length_cons]; omega
    · rw [List.length_cons, List.length_cons]; omega
theorem dA_len (l : List Int) : (dA l).length ≤ l.length := by
  cases l with
  | nil => exact Nat.le_refl _
  | cons x r =>
    have := dB_len r x
    unfold dA
    rw [List.length_cons, List.length_cons]
    omega
theorem isort_len (l : List Int) : (isort l).length = l.length := (isort_perm l).length_eq
theorem c_step_counts {ms : List Int} (h : Mom ms) : C_step_counts [iL ms] = .ok (cnts (isort (stp ms))) := by
  rw [C_step_counts, runP1, G_step_counts]
  have hl := h.len
  generalize hf : isort (stp ms) = fo
  have hfl : fo.length ≤ 12 := by rw [← hf, isort_len, stp_len]; omega
  have e1 : gSorted [iL (stp ms)] = some (iL fo) := by rw [← hf]; exact gSorted_i _
  have l1 := dLc_map (it := dBL gRng1 (dCons (dBL gLen (dCons (dV 1) dNil)) dNil)) (g := .n 3) (c := dOr (dTst (dB2 (bo gEq) (dV 3) (dC (.int 0)))) (dTst (dB2 (bo gNe) (dB2 gIx (dV 1) (dV 3)) (dB2 gIx (dV 1) (dB2 gSub (dV 3) (dC (.int 1))))))) (f := dB2 gIx (dV 1) (dV 3)) (vs := [3])
    (ρ := [.val (iL ms), .val (iL fo), .emp, .emp, .emp]) (ρ1 := [.val (iL ms), .val (iL fo), .emp, .emp, .emp]) (fun k : Nat => PyData.int (k : Int)) (List.range fo.length) (fun k => decide (k = 0) || !decide (nth fo k = nth fo (k - 1))) (fun k => .int (nth fo k)) (by
      have e1 := gRng1_i (j := (fo.length : Int)) (by omega) (by omega)
      simp [e1]
      rw [rng0]) (by simp) (fun k hk => by
      have hk := List.mem_range.mp hk
      have i1 := ix_iLn (ms := fo) (k := k) hk
      refine ⟨_, rfl, ?_, fun _ => by simp [i1], rfl⟩
      cases k with
      | zero => simp [bo]
      | succ k =>
        have i2 := ix_iLn (ms := fo) (k := k) (by omega)
        have e3 : ((k + 1 : Nat) : Int) - 1 = (k : Int) := by omega
        have c0 : ¬ ((k + 1 : Nat) : Int) = 0 := by omega
        show (dOr _ _) [.val (iL ms), .val (iL fo), .emp, .val (.int ((k + 1 : Nat) : Int)), .emp] = _
        simp only [ev_or, ev_tst, ev_b2, ev_v3, ev_c, bind_ok, bo, gEq_int, Option.map_some, optR_some, asB_b, decide_eq_false c0, Bool.false_eq_true, if_false, ev_v1, i1, gSub_i, e3, i2, gNe_int]
        simp) (by simp; omega)
  rw [show ((List.range fo.length).filter fun k => decide (k = 0) || !decide (nth fo k = nth fo (k - 1))).map (fun k => PyData.int (nth fo k)) = (dA fo).map PyData.int by rw [← dA_range fo, List.map_map]; rfl] at l1
  have l2 := dLc_all (it := dB1 asL (dV 2)) (g := .n 4) (f := dBL gTupD (dCons (dV 4) (dCons (dLM gCnt (dV 1) (dV 4)) dNil))) (vs := [4]) (ρ := [.val (iL ms), .val (iL fo), .val (iL (dA fo)), .emp, .emp]) (ρ1 := [.val (iL ms), .val (iL fo), .val (iL (dA fo)), .emp, .emp])
    PyData.int (dA fo) (fun s => PyData.tuple [.int s, .int (fo.count s : Nat)]) (by simp) (by simp) (fun s hs => by
      refine ⟨_, rfl, ?_, rfl⟩
      have := lm_ok (g := gCnt) (f1 := dV 1) (f2 := dV 4) (ρ := [.val (iL ms), .val (iL fo), .val (iL (dA fo)), .emp, .val (.int s)]) rfl rfl (gCnt_i fo s)
      simp [this, gTupD]) (by have := dA_len fo; omega)
  have l1' : dLc (dBL gRng1 (dCons (dBL gLen (dCons (dV 1) dNil)) dNil)) (.n 3) (dOr (dTst (dB2 (bo gEq) (dV 3) (dC (.int 0)))) (dTst (dB2 (bo gNe) (dB2 gIx (dV 1) (dV 3)) (dB2 gIx (dV 1) (dB2 gSub (dV 3) (dC (.int 1))))))) (dB2 gIx (dV 1) (dV 3)) [3] [.val (iL ms), .val (iL fo), .emp, .emp, .emp] = .ok (iL (dA fo)) [.val (iL ms), .val (iL fo), .emp, .emp, .emp] := l1
  simp only [List.replicate, ev_seq, ev_exp, ev_call, ev_cons, ev_v0, ev_nil, bind_ok, c_check_moments h, at_ok, seqR_nx, ev_asg, ev_bl, c_steps_of h.l1, e1, optR_some, List.set_cons_succ, List.set_cons_zero, l1', ev_ret, l2]
  rfl

/-! ### told groups: steps within and between -/
theorem near_stp {g : Int} : ∀ {l : List Int}, Near g l ↔ ∀ s, s ∈ stp l → s ≤ g
  | [] => ⟨fun _ s hs => by simp [stp] at hs, fun _ => trivial⟩
  | [x] => ⟨fun _ s hs => by simp [stp] at hs, fun _ => trivial⟩
  | x :: y :: r => by
    have ih := near_stp (g := g) (l := y :: r)
    constructor
    · intro h s hs
      rcases List.mem_cons.mp (show s ∈ (y - x) :: stp (y :: r) from hs) with rfl | hs
      · exact h.1
      · exact ih.mp h.2 s hs
    · intro h
      exact ⟨h _ (show _ ∈ (y - x) :: stp (y :: r) from List.mem_cons_self), ih.mpr fun s hs => h s (show s ∈ (y - x) :: stp (y :: r) from List.mem_cons_of_mem _ hs)⟩
def outs : List (List Int) → List Int
  | a :: b :: r => (b.headD 0 - a.getLastD 0) :: outs (b :: r)
  | _ => []
theorem far_outs {g : Int} : ∀ {gs : List (List Int)}, Far g gs ↔ ∀ s, s ∈ outs gs → g < s
  | [] => ⟨fun _ s hs => by simp [outs] at hs, fun _ => trivial⟩
  | [x] => ⟨fun _ s hs => by simp [outs] at hs, fun _ => trivial⟩
  | x :: y :: r => by
    have ih := far_outs (g := g) (gs := y :: r)
    constructor
    · intro h s hs
      rcases List.mem_cons.mp (show s ∈ (y.headD 0 - x.getLastD 0) :: outs (y :: r) from hs) with rfl | hs
      · exact h.1
      · exact ih.mp h.2 s hs
    · intro h
      exact ⟨h _ (show _ ∈ (y.headD 0 - x.getLastD 0) :: outs (y :: r) from List.mem_cons_self), ih.mpr fun s hs => h s (show s ∈ (y.headD 0 - x.getLastD 0) :: outs (y :: r) from List.mem_cons_of_mem _ hs)⟩
def nthL (gs : List (List Int)) (k : Nat) : List Int := gs.getD k []
theorem nthL_mem {gs : List (List Int)} {k : Nat} (h : k < gs.length) : nthL gs k ∈ gs := by
  unfold nthL
  rw [List.getD_eq_getElem?_getD, List.getElem?_eq_getElem h]
  exact List.getElem_mem h
theorem ix_lLn {gs : List (List Int)} {k : Nat} (h : k < gs.length) : gIx (lL gs) (.int (k : Int)) = some (iL (nthL gs k)) := by
  rw [lL, gIx_l]
  refine atI_nat ?_
  rw [List.getElem?_map, List.getElem?_eq_getElem h]
  unfold nthL
  rw [List.getD_eq_getElem?_getD, List.getElem?_eq_getElem h]
  rfl
theorem outs_range : ∀ gs : List (List Int), (List.range (gs.length - 1)).map (fun k => (nthL gs (k + 1)).headD 0 - (nthL gs k).getLastD 0) = outs gs
  | [] => rfl
  | [x] => rfl
  | x :: y :: r => by
    have ih := outs_range (y :: r)
    show (List.range (r.length + 1)).map _ = _
    rw [List.range_succ_eq_map, List.map_cons, List.map_map]
    show _ = (y.headD 0 - x.getLastD 0) :: outs (y :: r)
    rw [← ih]
    rfl
theorem outs_len : ∀ gs : List (List Int), (outs gs).length = gs.length - 1
  | [] => rfl
  | [x] => rfl
  | x :: y :: r => by
    have ih := outs_len (y :: r)
    show (outs (y :: r)).length + 1 = _
    rw [ih]
    simp
def inn (gs : List (List Int)) : Int := mx (0 :: gs.map fun l => mx (0 :: stp l))
def outD' (gs : List (List Int)) : D := if outs gs = [] then .none else .int (mn (outs gs))
theorem add_iL0 (b : List Int) (h : b.length ≤ 1000) : gAdd (.list [.int 0]) (iL b) = some (iL (0 :: b)) := add_iL (a := [0]) (b := b) (by simp; omega)
theorem len_flat : ∀ {gs : List (List Int)} {l : List Int}, l ∈ gs → l.length ≤ gs.flatten.length
  | a :: gs, l, h => by
    rw [List.flatten_cons, List.length_append]
    rcases List.mem_cons.mp h with rfl | h
    · omega
    · have := len_flat h
      omega
theorem c_inner_and_outer {gs : List (List Int)} (h : Grs gs) : C_inner_and_outer [lL gs] = .ok (.tuple [.int (inn gs), outD' gs]) := by
  rw [C_inner_and_outer, runP1, G_inner_and_outer]
  have hl := h.len
  have hm := h.mom.len
  have l1 := dLc_all (it := dB1 asL (dV 0)) (g := .n 4) (f := dBL gMax (dCons (dB2 gAdd (dBL gLstD (dCons (dC (.int 0)) dNil)) (dCall C_steps_of (dCons (dV 4) dNil))) dNil)) (vs := [4]) (ρ := [.val (lL gs), .emp, .emp, .emp, .emp]) (ρ1 := [.val (lL gs), .emp, .emp, .emp, .emp])
    iL gs (fun l => .int (mx (0 :: stp l))) (by simp) (by simp) (fun l hl => by
      have hll := len_flat hl
      refine ⟨_, rfl, ?_, rfl⟩
      have a1 := add_iL0 (stp l) (by rw [stp_len]; omega)
      have m1 : gMax [iL (0 :: stp l)] = some (.int (mx (0 :: stp l))) := gMax_i (by simp)
      simp [c_steps_of (ms := l) (by omega), gLst1, a1, m1]) (by omega)
  have l2 := dLc_all (it := dBL gRng1 (dCons (dB2 gSub (dBL gLen (dCons (dV 0) dNil)) (dC (.int 1))) dNil)) (g := .n 3) (f := dB2 gSub (dB2 gIx (dB2 gIx (dV 0) (dB2 gAdd (dV 3) (dC (.int 1)))) (dC (.int 0))) (dB2 gIx (dB2 gIx (dV 0) (dV 3)) (dB1 gNeg (dC (.int 1))))) (vs := [3]) (ρ := [.val (lL gs), .val (.int (inn gs)), .emp, .emp, .emp]) (ρ1 := [.val (lL gs), .val (.int (inn gs)), .emp, .emp, .emp])
    (fun k : Nat => PyData.int (k : Int)) (List.range (gs.length - 1)) (fun k => .int ((nthL gs (k + 1)).headD 0 - (nthL gs k).getLastD 0)) (by
      have e1 := gRng1_i (j := (gs.length : Int) - 1) (by omega) (by omega)
      simp [e1]
      rw [rng_map]
      simp) (by simp) (fun k hk => by
      have hk := List.mem_range.mp hk
      have e1 := ix_lLn (gs := gs) (k := k + 1) (by omega)
      have e2 := ix_lLn (gs := gs) (k := k) (by omega)
      have e3 : (k : Int) + 1 = ((k + 1 : Nat) : Int) := by omega
      have n1 := ix_head (h.ne _ (nthL_mem (gs := gs) (k := k + 1) (by omega)))
      have n2 := ix_last (h.ne _ (nthL_mem (gs := gs) (k := k) (by omega)))
      refine ⟨_, rfl, ?_, rfl⟩
      show dB2 gSub _ _ [.val (lL gs), .val (.int (inn gs)), .emp, .val (.int (k : Int)), .emp] = _
      simp only [ev_b2, ev_v0, ev_v3, ev_c, ev_b1, bind_ok, gAdd_i, optR_some, e3, e1, e2, n1, gNeg_i, n2, gSub_i]
      rfl) (by simp; omega)
  have l1' : dLc (dB1 asL (dV 0)) (.n 4) dYes (dBL gMax (dCons (dB2 gAdd (dBL gLstD (dCons (dC (.int 0)) dNil)) (dCall C_steps_of (dCons (dV 4) dNil))) dNil)) [4] [.val (lL gs), .emp, .emp, .emp, .emp] = .ok (iL (gs.map fun l => mx (0 :: stp l))) [.val (lL gs), .emp, .emp, .emp, .emp] := by
    rw [l1, iL, List.map_map]
    rfl
  rw [show (List.range (gs.length - 1)).map (fun k => PyData.int ((nthL gs (k + 1)).headD 0 - (nthL gs k).getLastD 0)) = (outs gs).map PyData.int by rw [← outs_range, List.map_map]; rfl] at l2
  have a1 := add_iL0 (gs.map fun l => mx (0 :: stp l)) (by simp; omega)
  have m1 : gMax [iL (0 :: gs.map fun l => mx (0 :: stp l))] = some (.int (inn gs)) := gMax_i (by simp)
  have q1 := gNe_iL (outs gs) []
  have l2' : dLc (dBL gRng1 (dCons (dB2 gSub (dBL gLen (dCons (dV 0) dNil)) (dC (.int 1))) dNil)) (.n 3) dYes (dB2 gSub (dB2 gIx (dB2 gIx (dV 0) (dB2 gAdd (dV 3) (dC (.int 1)))) (dC (.int 0))) (dB2 gIx (dB2 gIx (dV 0) (dV 3)) (dB1 gNeg (dC (.int 1))))) [3] [.val (lL gs), .val (.int (inn gs)), .emp, .emp, .emp] = .ok (iL (outs gs)) [.val (lL gs), .val (.int (inn gs)), .emp, .emp, .emp] := l2
  rw [iL_nil] at q1
  simp only [List.replicate, ev_seq, ev_asg, ev_bl, ev_cons, ev_nil, ev_c, gLst1, ev_b2, bind_ok, optR_some, l1', a1, m1, List.set_cons_succ, List.set_cons_zero, seqR_nx, l2', ev_ret, ev_v1, ev_if, ev_tst, ev_v2, gLst0, bo, q1, Option.map_some, asB_b]
  unfold outD'
  by_cases ho : outs gs = []
  · simp [ho, gTupD]
  · have m2 : gMin [iL (outs gs)] = some (.int (mn (outs gs))) := gMin_i ho
    simp [ho, m2, gTupD]
def hiG (gs : List (List Int)) : Int := if outs gs = [] then 999 else mn (outs gs) - 1
theorem c_gap_range {gs : List (List Int)} (h : Grs gs) (hh : inn gs ≤ hiG gs) : C_gap_range [lL gs] = .ok (.tuple [.int (inn gs), .int (hiG gs)]) := by
  rw [C_gap_range, runP1, G_gap_range]
  have p1 : dAsgT (.t [1, 2]) (dCall C_inner_and_outer (dCons (dV 0) dNil)) [.val (lL gs), .emp, .emp, .emp] = .ok .nx [.val (lL gs), .val (.int (inn gs)), .val (outD' gs), .emp] := by
    unfold dAsgT
    simp only [ev_call, ev_cons, ev_v0, ev_nil, bind_ok, c_inner_and_outer h, at_ok]
    rfl
  have p2 : dIf (dTst (dB2 (bo gIs) (dV 2) (dC .none))) (dC (.int 999)) (dB2 gSub (dV 2) (dC (.int 1))) [.val (lL gs), .val (.int (inn gs)), .val (outD' gs), .emp] = .ok (.int (hiG gs)) [.val (lL gs), .val (.int (inn gs)), .val (outD' gs), .emp] := by
    unfold outD' hiG
    by_cases ho : outs gs = []
    · simp [ho, bo, isN]
    · simp [ho, bo, isN]
  have c0 : ¬ hiG gs < inn gs := by omega
  simp only [List.replicate, ev_seq, ev_exp, ev_call, ev_cons, ev_v0, ev_nil, bind_ok, c_check_groups h, at_ok, seqR_nx, p1, ev_asg, p2, List.set_cons_succ, List.set_cons_zero, ev_ifS, ev_tst, ev_b2, ev_v1, ev_v3, bo, gCmp_i, Option.map_some, optR_some, asB_b, decide_eq_false c0, Bool.false_eq_true, if_false, ev_skip, ev_ret, ev_bl]
  simp [gTupD]
end GG

namespace GG
open PySem PySem.Spec PyProof.Rows L2

/-! ### names far in, names of lists of one's own -/
@[simp] theorem ev_v10 (a0 a1 a2 a3 a4 a5 a6 a7 a8 a9 : Slot) (d : D) (r : Env') : dV 10 (a0 :: a1 :: a2 :: a3 :: a4 :: a5 :: a6 :: a7 :: a8 :: a9 :: .val d :: r) = .ok d (a0 :: a1 :: a2 :: a3 :: a4 :: a5 :: a6 :: a7 :: a8 :: a9 :: .val d :: r) := Eq.trans rfl rfl
@[simp] theorem ev_v11 (a0 a1 a2 a3 a4 a5 a6 a7 a8 a9 a10 : Slot) (d : D) (r : Env') : dV 11 (a0 :: a1 :: a2 :: a3 :: a4 :: a5 :: a6 :: a7 :: a8 :: a9 :: a10 :: .val d :: r) = .ok d (a0 :: a1 :: a2 :: a3 :: a4 :: a5 :: a6 :: a7 :: a8 :: a9 :: a10 :: .val d :: r) := Eq.trans rfl rfl
@[simp] theorem ev_v12 (a0 a1 a2 a3 a4 a5 a6 a7 a8 a9 a10 a11 : Slot) (d : D) (r : Env') : dV 12 (a0 :: a1 :: a2 :: a3 :: a4 :: a5 :: a6 :: a7 :: a8 :: a9 :: a10 :: a11 :: .val d :: r) = .ok d (a0 :: a1 :: a2 :: a3 :: a4 :: a5 :: a6 :: a7 :: a8 :: a9 :: a10 :: a11 :: .val d :: r) := Eq.trans rfl rfl
@[simp] theorem ev_v13 (a0 a1 a2 a3 a4 a5 a6 a7 a8 a9 a10 a11 a12 : Slot) (d : D) (r : Env') : dV 13 (a0 :: a1 :: a2 :: a3 :: a4 :: a5 :: a6 :: a7 :: a8 :: a9 :: a10 :: a11 :: a12 :: .val d :: r) = .ok d (a0 :: a1 :: a2 :: a3 :: a4 :: a5 :: a6 :: a7 :: a8 :: a9 :: a10 :: a11 :: a12 :: .val d :: r) := Eq.trans rfl rfl
@[simp] theorem ev_v14 (a0 a1 a2 a3 a4 a5 a6 a7 a8 a9 a10 a11 a12 a13 : Slot) (d : D) (r : Env') : dV 14 (a0 :: a1 :: a2 :: a3 :: a4 :: a5 :: a6 :: a7 :: a8 :: a9 :: a10 :: a11 :: a12 :: a13 :: .val d :: r) = .ok d (a0 :: a1 :: a2 :: a3 :: a4 :: a5 :: a6 :: a7 :: a8 :: a9 :: a10 :: a11 :: a12 :: a13 :: .val d :: r) := Eq.trans rfl rfl
@[simp] theorem ev_v15 (a0 a1 a2 a3 a4 a5 a6 a7 a8 a9 a10 a11 a12 a13 a14 : Slot) (d : D) (r : Env') : dV 15 (a0 :: a1 :: a2 :: a3 :: a4 :: a5 :: a6 :: a7 :: a8 :: a9 :: a10 :: a11 :: a12 :: a13 :: a14 :: .val d :: r) = .ok d (a0 :: a1 :: a2 :: a3 :: a4 :: a5 :: a6 :: a7 :: a8 :: a9 :: a10 :: a11 :: a12 :: a13 :: a14 :: .val d :: r) := Eq.trans rfl rfl
@[simp] theorem ev_v16 (a0 a1 a2 a3 a4 a5 a6 a7 a8 a9 a10 a11 a12 a13 a14 a15 : Slot) (d : D) (r : Env') : dV 16 (a0 :: a1 :: a2 :: a3 :: a4 :: a5 :: a6 :: a7 :: a8 :: a9 :: a10 :: a11 :: a12 :: a13 :: a14 :: a15 :: .val d :: r) = .ok d (a0 :: a1 :: a2 :: a3 :: a4 :: a5 :: a6 :: a7 :: a8 :: a9 :: a10 :: a11 :: a12 :: a13 :: a14 :: a15 :: .val d :: r) := Eq.trans rfl rfl
@[simp] theorem ev_v17 (a0 a1 a2 a3 a4 a5 a6 a7 a8 a9 a10 a11 a12 a13 a14 a15 a16 : Slot) (d : D) (r : Env') : dV 17 (a0 :: a1 :: a2 :: a3 :: a4 :: a5 :: a6 :: a7 :: a8 :: a9 :: a10 :: a11 :: a12 :: a13 :: a14 :: a15 :: a16 :: .val d :: r) = .ok d (a0 :: a1 :: a2 :: a3 :: a4 :: a5 :: a6 :: a7 :: a8 :: a9 :: a10 :: a11 :: a12 :: a13 :: a14 :: a15 :: a16 :: .val d :: r) := Eq.trans rfl rfl
@[simp] theorem ev_v18 (a0 a1 a2 a3 a4 a5 a6 a7 a8 a9 a10 a11 a12 a13 a14 a15 a16 a17 : Slot) (d : D) (r : Env') : dV 18 (a0 :: a1 :: a2 :: a3 :: a4 :: a5 :: a6 :: a7 :: a8 :: a9 :: a10 :: a11 :: a12 :: a13 :: a14 :: a15 :: a16 :: a17 :: .val d :: r) = .ok d (a0 :: a1 :: a2 :: a3 :: a4 :: a5 :: a6 :: a7 :: a8 :: a9 :: a10 :: a11 :: a12 :: a13 :: a14 :: a15 :: a16 :: a17 :: .val d :: r) := Eq.trans rfl rfl
@[simp] theorem ev_v19 (a0 a1 a2 a3 a4 a5 a6 a7 a8 a9 a10 a11 a12 a13 a14 a15 a16 a17 a18 : Slot) (d : D) (r : Env') : dV 19 (a0 :: a1 :: a2 :: a3 :: a4 :: a5 :: a6 :: a7 :: a8 :: a9 :: a10 :: a11 :: a12 :: a13 :: a14 :: a15 :: a16 :: a17 :: a18 :: .val d :: r) = .ok d (a0 :: a1 :: a2 :: a3 :: a4 :: a5 :: a6 :: a7 :: a8 :: a9 :: a10 :: a11 :: a12 :: a13 :: a14 :: a15 :: a16 :: a17 :: a18 :: .val d :: r) := Eq.trans rfl rfl
@[simp] theorem ev_v20 (a0 a1 a2 a3 a4 a5 a6 a7 a8 a9 a10 a11 a12 a13 a14 a15 a16 a17 a18 a19 : Slot) (d : D) (r : Env') : dV 20 (a0 :: a1 :: a2 :: a3 :: a4 :: a5 :: a6 :: a7 :: a8 :: a9 :: a10 :: a11 :: a12 :: a13 :: a14 :: a15 :: a16 :: a17 :: a18 :: a19 :: .val d :: r) = .ok d (a0 :: a1 :: a2 :: a3 :: a4 :: a5 :: a6 :: a7 :: a8 :: a9 :: a10 :: a11 :: a12 :: a13 :: a14 :: a15 :: a16 :: a17 :: a18 :: a19 :: .val d :: r) := Eq.trans rfl rfl
@[simp] theorem ev_v21 (a0 a1 a2 a3 a4 a5 a6 a7 a8 a9 a10 a11 a12 a13 a14 a15 a16 a17 a18 a19 a20 : Slot) (d : D) (r : Env') : dV 21 (a0 :: a1 :: a2 :: a3 :: a4 :: a5 :: a6 :: a7 :: a8 :: a9 :: a10 :: a11 :: a12 :: a13 :: a14 :: a15 :: a16 :: a17 :: a18 :: a19 :: a20 :: .val d :: r) = .ok d (a0 :: a1 :: a2 :: a3 :: a4 :: a5 :: a6 :: a7 :: a8 :: a9 :: a10 :: a11 :: a12 :: a13 :: a14 :: a15 :: a16 :: a17 :: a18 :: a19 :: a20 :: .val d :: r) := Eq.trans rfl rfl
@[simp] theorem ev_v22 (a0 a1 a2 a3 a4 a5 a6 a7 a8 a9 a10 a11 a12 a13 a14 a15 a16 a17 a18 a19 a20 a21 : Slot) (d : D) (r : Env') : dV 22 (a0 :: a1 :: a2 :: a3 :: a4 :: a5 :: a6 :: a7 :: a8 :: a9 :: a10 :: a11 :: a12 :: a13 :: a14 :: a15 :: a16 :: a17 :: a18 :: a19 :: a20 :: a21 :: .val d :: r) = .ok d (a0 :: a1 :: a2 :: a3 :: a4 :: a5 :: a6 :: a7 :: a8 :: a9 :: a10 :: a11 :: a12 :: a13 :: a14 :: a15 :: a16 :: a17 :: a18 :: a19 :: a20 :: a21 :: .val d :: r) := Eq.trans rfl rfl
@[simp] theorem ev_v23 (a0 a1 a2 a3 a4 a5 a6 a7 a8 a9 a10 a11 a12 a13 a14 a15 a16 a17 a18 a19 a20 a21 a22 : Slot) (d : D) (r : Env') : dV 23 (a0 :: a1 :: a2 :: a3 :: a4 :: a5 :: a6 :: a7 :: a8 :: a9 :: a10 :: a11 :: a12 :: a13 :: a14 :: a15 :: a16 :: a17 :: a18 :: a19 :: a20 :: a21 :: a22 :: .val d :: r) = .ok d (a0 :: a1 :: a2 :: a3 :: a4 :: a5 :: a6 :: a7 :: a8 :: a9 :: a10 :: a11 :: a12 :: a13 :: a14 :: a15 :: a16 :: a17 :: a18 :: a19 :: a20 :: a21 :: a22 :: .val d :: r) := Eq.trans rfl rfl
@[simp] theorem ev_v24 (a0 a1 a2 a3 a4 a5 a6 a7 a8 a9 a10 a11 a12 a13 a14 a15 a16 a17 a18 a19 a20 a21 a22 a23 : Slot) (d : D) (r : Env') : dV 24 (a0 :: a1 :: a2 :: a3 :: a4 :: a5 :: a6 :: a7 :: a8 :: a9 :: a10 :: a11 :: a12 :: a13 :: a14 :: a15 :: a16 :: a17 :: a18 :: a19 :: a20 :: a21 :: a22 :: a23 :: .val d :: r) = .ok d (a0 :: a1 :: a2 :: a3 :: a4 :: a5 :: a6 :: a7 :: a8 :: a9 :: a10 :: a11 :: a12 :: a13 :: a14 :: a15 :: a16 :: a17 :: a18 :: a19 :: a20 :: a21 :: a22 :: a23 :: .val d :: r) := Eq.trans rfl rfl
@[simp] theorem ev_v25 (a0 a1 a2 a3 a4 a5 a6 a7 a8 a9 a10 a11 a12 a13 a14 a15 a16 a17 a18 a19 a20 a21 a22 a23 a24 : Slot) (d : D) (r : Env') : dV 25 (a0 :: a1 :: a2 :: a3 :: a4 :: a5 :: a6 :: a7 :: a8 :: a9 :: a10 :: a11 :: a12 :: a13 :: a14 :: a15 :: a16 :: a17 :: a18 :: a19 :: a20 :: a21 :: a22 :: a23 :: a24 :: .val d :: r) = .ok d (a0 :: a1 :: a2 :: a3 :: a4 :: a5 :: a6 :: a7 :: a8 :: a9 :: a10 :: a11 :: a12 :: a13 :: a14 :: a15 :: a16 :: a17 :: a18 :: a19 :: a20 :: a21 :: a22 :: a23 :: a24 :: .val d :: r) := Eq.trans rfl rfl
@[simp] theorem ev_o0 (d : List D) (r : Env') : dV 0 (.own d :: r) = .ok (.list d) (.val (.list d) :: r) := Eq.trans rfl rfl
@[simp] theorem ev_o1 (a0 : Slot) (d : List D) (r : Env') : dV 1 (a0 :: .own d :: r) = .ok (.list d) (a0 :: .val (.list d) :: r) := Eq.trans rfl rfl
@[simp] theorem ev_o2 (a0 a1 : Slot) (d : List D) (r : Env') : dV 2 (a0 :: a1 :: .own d :: r) = .ok (.list d) (a0 :: a1 :: .val (.list d) :: r) := Eq.trans rfl rfl
@[simp] theorem ev_o3 (a0 a1 a2 : Slot) (d : List D) (r : Env') : dV 3 (a0 :: a1 :: a2 :: .own d :: r) = .ok (.list d) (a0 :: a1 :: a2 :: .val (.list d) :: r) := Eq.trans rfl rfl
@[simp] theorem ev_o4 (a0 a1 a2 a3 : Slot) (d : List D) (r : Env') : dV 4 (a0 :: a1 :: a2 :: a3 :: .own d :: r) = .ok (.list d) (a0 :: a1 :: a2 :: a3 :: .val (.list d) :: r) := Eq.trans rfl rfl
@[simp] theorem ev_o5 (a0 a1 a2 a3 a4 : Slot) (d : List D) (r : Env') : dV 5 (a0 :: a1 :: a2 :: a3 :: a4 :: .own d :: r) = .ok (.list d) (a0 :: a1 :: a2 :: a3 :: a4 :: .val (.list d) :: r) := Eq.trans rfl rfl
@[simp] theorem ev_o6 (a0 a1 a2 a3 a4 a5 : Slot) (d : List D) (r : Env') : dV 6 (a0 :: a1 :: a2 :: a3 :: a4 :: a5 :: .own d :: r) = .ok (.list d) (a0 :: a1 :: a2 :: a3 :: a4 :: a5 :: .val (.list d) :: r) := Eq.trans rfl rfl
@[simp] theorem ev_o7 (a0 a1 a2 a3 a4 a5 a6 : Slot) (d : List D) (r : Env') : dV 7 (a0 :: a1 :: a2 :: a3 :: a4 :: a5 :: a6 :: .own d :: r) = .ok (.list d) (a0 :: a1 :: a2 :: a3 :: a4 :: a5 :: a6 :: .val (.list d) :: r) := Eq.trans rfl rfl
@[simp] theorem ev_o8 (a0 a1 a2 a3 a4 a5 a6 a7 : Slot) (d : List D) (r : Env') : dV 8 (a0 :: a1 :: a2 :: a3 :: a4 :: a5 :: a6 :: a7 :: .own d :: r) = .ok (.list d) (a0 :: a1 :: a2 :: a3 :: a4 :: a5 :: a6 :: a7 :: .val (.list d) :: r) := Eq.trans rfl rfl
@[simp] theorem ev_o9 (a0 a1 a2 a3 a4 a5 a6 a7 a8 : Slot) (d : List D) (r : Env') : dV 9 (a0 :: a1 :: a2 :: a3 :: a4 :: a5 :: a6 :: a7 :: a8 :: .own d :: r) = .ok (.list d) (a0 :: a1 :: a2 :: a3 :: a4 :: a5 :: a6 :: a7 :: a8 :: .val (.list d) :: r) := Eq.trans rfl rfl
@[simp] theorem ev_o10 (a0 a1 a2 a3 a4 a5 a6 a7 a8 a9 : Slot) (d : List D) (r : Env') : dV 10 (a0 :: a1 :: a2 :: a3 :: a4 :: a5 :: a6 :: a7 :: a8 :: a9 :: .own d :: r) = .ok (.list d) (a0 :: a1 :: a2 :: a3 :: a4 :: a5 :: a6 :: a7 :: a8 :: a9 :: .val (.list d) :: r) := Eq.trans rfl rfl
@[simp] theorem ev_o11 (a0 a1 a2 a3 a4 a5 a6 a7 a8 a9 a10 : Slot) (d : List D) (r : Env') : dV 11 (a0 :: a1 :: a2 :: a3 :: a4 :: a5 :: a6 :: a7 :: a8 :: a9 :: a10 :: .own d :: r) = .ok (.list d) (a0 :: a1 :: a2 :: a3 :: a4 :: a5 :: a6 :: a7 :: a8 :: a9 :: a10 :: .val (.list d) :: r) := Eq.trans rfl rfl
@[simp] theorem ev_o12 (a0 a1 a2 a3 a4 a5 a6 a7 a8 a9 a10 a11 : Slot) (d : List D) (r : Env') : dV 12 (a0 :: a1 :: a2 :: a3 :: a4 :: a5 :: a6 :: a7 :: a8 :: a9 :: a10 :: a11 :: .own d :: r) = .ok (.list d) (a0 :: a1 :: a2 :: a3 :: a4 :: a5 :: a6 :: a7 :: a8 :: a9 :: a10 :: a11 :: .val (.list d) :: r) := Eq.trans rfl rfl
@[simp] theorem ev_o13 (a0 a1 a2 a3 a4 a5 a6 a7 a8 a9 a10 a11 a12 : Slot) (d : List D) (r : Env') : dV 13 (a0 :: a1 :: a2 :: a3 :: a4 :: a5 :: a6 :: a7 :: a8 :: a9 :: a10 :: a11 :: a12 :: .own d :: r) = .ok (.list d) (a0 :: a1 :: a2 :: a3 :: a4 :: a5 :: a6 :: a7 :: a8 :: a9 :: a10 :: a11 :: a12 :: .val (.list d) :: r) := Eq.trans rfl rfl
@[simp] theorem ev_o14 (a0 a1 a2 a3 a4 a5 a6 a7 a8 a9 a10 a11 a12 a13 : Slot) (d : List D) (r : Env') : dV 14 (a0 :: a1 :: a2 :: a3 :: a4 :: a5 :: a6 :: a7 :: a8 :: a9 :: a10 :: a11 :: a12 :: a13 :: .own d :: r) = .ok (.list d) (a0 :: a1 :: a2 :: a3 :: a4 :: a5 :: a6 :: a7 :: a8 :: a9 :: a10 :: a11 :: a12 :: a13 :: .val (.list d) :: r) := Eq.trans rfl rfl
@[simp] theorem ev_o15 (a0 a1 a2 a3 a4 a5 a6 a7 a8 a9 a10 a11 a12 a13 a14 : Slot) (d : List D) (r : Env') : dV 15 (a0 :: a1 :: a2 :: a3 :: a4 :: a5 :: a6 :: a7 :: a8 :: a9 :: a10 :: a11 :: a12 :: a13 :: a14 :: .own d :: r) = .ok (.list d) (a0 :: a1 :: a2 :: a3 :: a4 :: a5 :: a6 :: a7 :: a8 :: a9 :: a10 :: a11 :: a12 :: a13 :: a14 :: .val (.list d) :: r) := Eq.trans rfl rfl
@[simp] theorem ev_o16 (a0 a1 a2 a3 a4 a5 a6 a7 a8 a9 a10 a11 a12 a13 a14 a15 : Slot) (d : List D) (r : Env') : dV 16 (a0 :: a1 :: a2 :: a3 :: a4 :: a5 :: a6 :: a7 :: a8 :: a9 :: a10 :: a11 :: a12 :: a13 :: a14 :: a15 :: .own d :: r) = .ok (.list d) (a0 :: a1 :: a2 :: a3 :: a4 :: a5 :: a6 :: a7 :: a8 :: a9 :: a10 :: a11 :: a12 :: a13 :: a14 :: a15 :: .val (.list d) :: r) := Eq.trans rfl rfl
@[simp] theorem ev_o17 (a0 a1 a2 a3 a4 a5 a6 a7 a8 a9 a10 a11 a12 a13 a14 a15 a16 : Slot) (d : List D) (r : Env') : dV 17 (a0 :: a1 :: a2 :: a3 :: a4 :: a5 :: a6 :: a7 :: a8 :: a9 :: a10 :: a11 :: a12 :: a13 :: a14 :: a15 :: a16 :: .own d :: r) = .ok (.list d) (a0 :: a1 :: a2 :: a3 :: a4 :: a5 :: a6 :: a7 :: a8 :: a9 :: a10 :: a11 :: a12 :: a13 :: a14 :: a15 :: a16 :: .val (.list d) :: r) := Eq.trans rfl rfl
@[simp] theorem ev_o18 (a0 a1 a2 a3 a4 a5 a6 a7 a8 a9 a10 a11 a12 a13 a14 a15 a16 a17 : Slot) (d : List D) (r : Env') : dV 18 (a0 :: a1 :: a2 :: a3 :: a4 :: a5 :: a6 :: a7 :: a8 :: a9 :: a10 :: a11 :: a12 :: a13 :: a14 :: a15 :: a16 :: a17 :: .own d :: r) = .ok (.list d) (a0 :: a1 :: a2 :: a3 :: a4 :: a5 :: a6 :: a7 :: a8 :: a9 :: a10 :: a11 :: a12 :: a13 :: a14 :: a15 :: a16 :: a17 :: .val (.list d) :: r) := Eq.trans rfl rfl
@[simp] theorem ev_o19 (a0 a1 a2 a3 a4 a5 a6 a7 a8 a9 a10 a11 a12 a13 a14 a15 a16 a17 a18 : Slot) (d : List D) (r : Env') : dV 19 (a0 :: a1 :: a2 :: a3 :: a4 :: a5 :: a6 :: a7 :: a8 :: a9 :: a10 :: a11 :: a12 :: a13 :: a14 :: a15 :: a16 :: a17 :: a18 :: .own d :: r) = .ok (.list d) (a0 :: a1 :: a2 :: a3 :: a4 :: a5 :: a6 :: a7 :: a8 :: a9 :: a10 :: a11 :: a12 :: a13 :: a14 :: a15 :: a16 :: a17 :: a18 :: .val (.list d) :: r) := Eq.trans rfl rfl
@[simp] theorem ev_o20 (a0 a1 a2 a3 a4 a5 a6 a7 a8 a9 a10 a11 a12 a13 a14 a15 a16 a17 a18 a19 : Slot) (d : List D) (r : Env') : dV 20 (a0 :: a1 :: a2 :: a3 :: a4 :: a5 :: a6 :: a7 :: a8 :: a9 :: a10 :: a11 :: a12 :: a13 :: a14 :: a15 :: a16 :: a17 :: a18 :: a19 :: .own d :: r) = .ok (.list d) (a0 :: a1 :: a2 :: a3 :: a4 :: a5 :: a6 :: a7 :: a8 :: a9 :: a10 :: a11 :: a12 :: a13 :: a14 :: a15 :: a16 :: a17 :: a18 :: a19 :: .val (.list d) :: r) := Eq.trans rfl rfl
@[simp] theorem ev_o21 (a0 a1 a2 a3 a4 a5 a6 a7 a8 a9 a10 a11 a12 a13 a14 a15 a16 a17 a18 a19 a20 : Slot) (d : List D) (r : Env') : dV 21 (a0 :: a1 :: a2 :: a3 :: a4 :: a5 :: a6 :: a7 :: a8 :: a9 :: a10 :: a11 :: a12 :: a13 :: a14 :: a15 :: a16 :: a17 :: a18 :: a19 :: a20 :: .own d :: r) = .ok (.list d) (a0 :: a1 :: a2 :: a3 :: a4 :: a5 :: a6 :: a7 :: a8 :: a9 :: a10 :: a11 :: a12 :: a13 :: a14 :: a15 :: a16 :: a17 :: a18 :: a19 :: a20 :: .val (.list d) :: r) := Eq.trans rfl rfl
@[simp] theorem ev_o22 (a0 a1 a2 a3 a4 a5 a6 a7 a8 a9 a10 a11 a12 a13 a14 a15 a16 a17 a18 a19 a20 a21 : Slot) (d : List D) (r : Env') : dV 22 (a0 :: a1 :: a2 :: a3 :: a4 :: a5 :: a6 :: a7 :: a8 :: a9 :: a10 :: a11 :: a12 :: a13 :: a14 :: a15 :: a16 :: a17 :: a18 :: a19 :: a20 :: a21 :: .own d :: r) = .ok (.list d) (a0 :: a1 :: a2 :: a3 :: a4 :: a5 :: a6 :: a7 :: a8 :: a9 :: a10 :: a11 :: a12 :: a13 :: a14 :: a15 :: a16 :: a17 :: a18 :: a19 :: a20 :: a21 :: .val (.list d) :: r) := Eq.trans rfl rfl
@[simp] theorem ev_o23 (a0 a1 a2 a3 a4 a5 a6 a7 a8 a9 a10 a11 a12 a13 a14 a15 a16 a17 a18 a19 a20 a21 a22 : Slot) (d : List D) (r : Env') : dV 23 (a0 :: a1 :: a2 :: a3 :: a4 :: a5 :: a6 :: a7 :: a8 :: a9 :: a10 :: a11 :: a12 :: a13 :: a14 :: a15 :: a16 :: a17 :: a18 :: a19 :: a20 :: a21 :: a22 :: .own d :: r) = .ok (.list d) (a0 :: a1 :: a2 :: a3 :: a4 :: a5 :: a6 :: a7 :: a8 :: a9 :: a10 :: a11 :: a12 :: a13 :: a14 :: a15 :: a16 :: a17 :: a18 :: a19 :: a20 :: a21 :: a22 :: .val (.list d) :: r) := Eq.trans rfl rfl
@[simp] theorem ev_o24 (a0 a1 a2 a3 a4 a5 a6 a7 a8 a9 a10 a11 a12 a13 a14 a15 a16 a17 a18 a19 a20 a21 a22 a23 : Slot) (d : List D) (r : Env') : dV 24 (a0 :: a1 :: a2 :: a3 :: a4 :: a5 :: a6 :: a7 :: a8 :: a9 :: a10 :: a11 :: a12 :: a13 :: a14 :: a15 :: a16 :: a17 :: a18 :: a19 :: a20 :: a21 :: a22 :: a23 :: .own d :: r) = .ok (.list d) (a0 :: a1 :: a2 :: a3 :: a4 :: a5 :: a6 :: a7 :: a8 :: a9 :: a10 :: a11 :: a12 :: a13 :: a14 :: a15 :: a16 :: a17 :: a18 :: a19 :: a20 :: a21 :: a22 :: a23 :: .val (.list d) :: r) := Eq.trans rfl rfl
@[simp] theorem ev_o25 (a0 a1 a2 a3 a4 a5 a6 a7 a8 a9 a10 a11 a12 a13 a14 a15 a16 a17 a18 a19 a20 a21 a22 a23 a24 : Slot) (d : List D) (r : Env') : dV 25 (a0 :: a1 :: a2 :: a3 :: a4 :: a5 :: a6 :: a7 :: a8 :: a9 :: a10 :: a11 :: a12 :: a13 :: a14 :: a15 :: a16 :: a17 :: a18 :: a19 :: a20 :: a21 :: a22 :: a23 :: a24 :: .own d :: r) = .ok (.list d) (a0 :: a1 :: a2 :: a3 :: a4 :: a5 :: a6 :: a7 :: a8 :: a9 :: a10 :: a11 :: a12 :: a13 :: a14 :: a15 :: a16 :: a17 :: a18 :: a19 :: a20 :: a21 :: a22 :: a23 :: a24 :: .val (.list d) :: r) := Eq.trans rfl rfl
/-! slices -/
def sliceD (d : D) (l h : Option Int) : Option D := match d with
  | .list ds => some (.list (cutL ds l h))
  | _ => none
theorem ev_slD {f : Den D} {lo hi : Den (Option Int)} {ρ : Env'} : dSl f lo hi ρ = (f ρ).bind fun d ρ1 => (lo ρ1).bind fun l ρ2 => (hi ρ2).bind fun h ρ3 => optR (sliceD d l h) ρ3 := by
  rw [ev_sl]
  congr 1
  funext d ρ1
  congr 1
  funext l ρ2
  congr 1
  funext h ρ3
  cases d <;> rfl
theorem cutL_map {α β : Type} (φ : α → β) (xs : List α) (l h : Option Int) : cutL (xs.map φ) l h = (cutL xs l h).map φ := by
  unfold cutL
  rw [List.length_map, List.map_take, List.map_drop]
theorem sliceD_l (ds : List D) (l h : Option Int) : sliceD (.list ds) l h = some (.list (cutL ds l h)) := rfl
theorem sliceD_iL (ms : List Int) (l h : Option Int) : sliceD (iL ms) l h = some (iL (cutL ms l h)) := by
  unfold iL
  rw [sliceD_l, cutL_map]
theorem sliceD_lL (ms : List (List Int)) (l h : Option Int) : sliceD (lL ms) l h = some (lL (cutL ms l h)) := by
  unfold lL
  rw [sliceD_l, cutL_map]
theorem cutL_ab {α : Type} {xs : List α} (a b : Nat) (ha : a ≤ xs.length) (hb : b ≤ xs.length) : cutL xs (some (a : Int)) (some (b : Int)) = (xs.drop a).take (b - a) := by
  unfold cutL
  rw [HT.sIx_nat, HT.sIx_nat, Nat.min_eq_left ha, Nat.min_eq_left hb]
theorem cutL_to {α : Type} {xs : List α} (b : Nat) : cutL xs none (some (b : Int)) = xs.take b := by
  unfold cutL
  rw [HT.sIx_nat, HT.sIx_none, List.drop_zero, Nat.sub_zero]
  exact (List.take_eq_take_min ..).symm
theorem cutL_from {α : Type} {xs : List α} (a : Nat) : cutL xs (some (a : Int)) none = xs.drop a := by
  unfold cutL
  rw [HT.sIx_nat, HT.sIx_none, List.take_of_length_le (by simp)]
  exact (List.drop_eq_drop_min ..).symm
theorem cutL_front {α : Type} (xs : List α) (z : α) : cutL (xs ++ [z]) none (some (-1)) = xs := by
  have e2 : HT.sIx (xs ++ [z]).length (xs ++ [z]).length (some (-1 : Int)) = xs.length := by
    simp only [HT.sIx]
    rw [if_pos (by decide)]
    simp
    omega
  unfold cutL
  rw [e2, HT.sIx_none]
  simp
theorem cutL_mid {α : Type} (a : α) (xs : List α) (z : α) : cutL (a :: (xs ++ [z])) (some 1) (some (-1)) = xs := by
  have e1 : HT.sIx (a :: (xs ++ [z])).length 0 (some (1 : Int)) = 1 := by
    have := HT.sIx_nat (a :: (xs ++ [z])).length 0 1
    rw [show ((1 : Nat) : Int) = 1 from rfl] at this
    rw [this]
    simp
  have e2 : HT.sIx (a :: (xs ++ [z])).length (a :: (xs ++ [z])).length (some (-1 : Int)) = xs.length + 1 := by
    simp only [HT.sIx]
    rw [if_pos (by decide)]
    simp
    omega
  unfold cutL
  rw [e1, e2]
  simp
theorem gLst2 (a b : D) : gLstD [a, b] = some (.list [a, b]) := gLstD_ (by simp)
theorem gLst3 (a b c : D) : gLstD [a, b, c] = some (.list [a, b, c]) := gLstD_ (by simp)
theorem gTup2 (a b : D) : gTupD [a, b] = some (.tuple [a, b]) := if_pos (by simp)
theorem gTup3 (a b c : D) : gTupD [a, b, c] = some (.tuple [a, b, c]) := if_pos (by simp)
@[simp] theorem isN_none : isN .none = true := Eq.trans rfl rfl
@[simp] theorem isN_int (i : Int) : isN (.int i) = false := Eq.trans rfl rfl
@[simp] theorem isN_iL (i : List Int) : isN (iL i) = false := Eq.trans rfl rfl
@[simp] theorem isN_tup (i : List D) : isN (.tuple i) = false := Eq.trans rfl rfl
/-! statements that write -/
def isOwn : Option Slot → Bool
  | some (.own _) => true
  | _ => false
theorem isOwn_own (ds : List D) : isOwn (some (.own ds)) = true := rfl
def appO (b : Bool) (i : Nat) (f : Den D) (ρ : Env') (h : Option Slot → D → Env' → Res Fl) : Res Fl := if b = true then (f ρ).bind fun d ρ1 => h ρ1[i]? d ρ1 else .st
theorem appO_t (i : Nat) (f : Den D) (ρ : Env') (h : Option Slot → D → Env' → Res Fl) : appO true i f ρ h = (f ρ).bind fun d ρ1 => h ρ1[i]? d ρ1 := rfl
def appS (i : Nat) (o : Option Slot) (d : D) (ρ1 : Env') : Res Fl := match o with
  | some (.own ds) => if ds.length < 100000 then .ok .nx (ρ1.set i (.own (ds ++ [d]))) else .st
  | _ => .st
theorem appS_own (i : Nat) (ds : List D) (d : D) (ρ1 : Env') : appS i (some (.own ds)) d ρ1 = if ds.length < 100000 then .ok .nx (ρ1.set i (.own (ds ++ [d]))) else .st := rfl
theorem ev_app {i : Nat} {f : Den D} {ρ : Env'} : dApp i f ρ = appO (isOwn ρ[i]?) i f ρ (appS i) := by
  unfold dApp
  cases ρ[i]? with
  | none => rfl
  | some s => cases s <;> rfl
def extS (i : Nat) (o : Option Slot) (d : D) (ρ1 : Env') : Res Fl := match o, d with
  | some (.own ds), .list es => if ds.length + es.length ≤ 100000 then .ok .nx (ρ1.set i (.own (ds ++ es))) else .st
  | _, _ => .st
theorem extS_own (i : Nat) (ds es : List D) (ρ1 : Env') : extS i (some (.own ds)) (.list es) ρ1 = if ds.length + es.length ≤ 100000 then .ok .nx (ρ1.set i (.own (ds ++ es))) else .st := rfl
theorem extS_iL (i : Nat) (ds : List D) (es : List Int) (ρ1 : Env') : extS i (some (.own ds)) (iL es) ρ1 = if ds.length + es.length ≤ 100000 then .ok .nx (ρ1.set i (.own (ds ++ es.map PyData.int))) else .st := by
  unfold iL
  rw [extS_own, List.length_map]
theorem ev_ext {i : Nat} {f : Den D} {ρ : Env'} : dExt i f ρ = appO (isOwn ρ[i]?) i f ρ (extS i) := by
  unfold dExt
  cases ρ[i]? with
  | none => rfl
  | some s => cases s <;> rfl
def remS (i : Nat) (o : Option Slot) (d : D) (ρ1 : Env') : Res Fl := match o, d with
  | some (.own ds), .int k => (match intsS ds with
      | some ns => if k ∈ ns then .ok .nx (ρ1.set i (.own ((ns.erase k).map PyData.int))) else .st
      | none => .st)
  | _, _ => .st
theorem ev_rem {i : Nat} {f : Den D} {ρ : Env'} : dRem i f ρ = appO (isOwn ρ[i]?) i f ρ (remS i) := by
  unfold dRem
  cases ρ[i]? with
  | none => rfl
  | some s => cases s <;> rfl
theorem remS_own (i : Nat) (ns : List Int) (k : Int) (ρ1 : Env') : remS i (some (.own (ns.map PyData.int))) (.int k) ρ1 = if k ∈ ns then .ok .nx (ρ1.set i (.own ((ns.erase k).map PyData.int))) else .st := by
  unfold remS
  dsimp only
  rw [intsS_map]
theorem ev_own {i : Nat} {fs : Den (List D)} {ρ : Env'} : dOwn i fs ρ = (fs ρ).bind fun ds ρ1 => if ds.length ≤ 100000 then .ok .nx (ρ1.set i (.own ds)) else .st := rfl
theorem own_if0 {α : Type} (a b : α) : (if ([] : List D).length ≤ 100000 then a else b) = a := if_pos (by simp)
theorem own_if1 {α : Type} (x : D) (a b : α) : (if [x].length ≤ 100000 then a else b) = a := if_pos (by simp)
def ownLS (i : Nat) (d : D) (ρ1 : Env') : Res Fl := match d with
  | .list ds => .ok .nx (ρ1.set i (.own ds))
  | _ => .st
theorem ev_ownL {i : Nat} {f : Den D} {ρ : Env'} : dOwnL i f ρ = (f ρ).bind (ownLS i) := rfl
theorem ownLS_l (i : Nat) (ds : List D) (ρ1 : Env') : ownLS i (.list ds) ρ1 = .ok .nx (ρ1.set i (.own ds)) := rfl
theorem ownLS_iL (i : Nat) (ds : List Int) (ρ1 : Env') : ownLS i (iL ds) ρ1 = .ok .nx (ρ1.set i (.own (ds.map PyData.int))) := rfl
def ixO (b : Bool) (i : Nat) (f : Den D) (ρ : Env') (h : List D → D → Option D) : Res D := if b = true then (f ρ).bind fun d ρ1 => optR ((lstS ρ1[i]?).bind fun ds => h ds d) ρ1 else .st
theorem ixO_t (i : Nat) (f : Den D) (ρ : Env') (h : List D → D → Option D) : ixO true i f ρ h = (f ρ).bind fun d ρ1 => optR ((lstS ρ1[i]?).bind fun ds => h ds d) ρ1 := rfl
def ixD (ds : List D) (d : D) : Option D := match d with
  | .int k => atI ds k
  | _ => none
theorem ixD_i (ds : List D) (k : Int) : ixD ds (.int k) = atI ds k := rfl
theorem lstS_own (ds : List D) : lstS (some (.own ds)) = some ds := rfl
theorem lstS_val (ds : List D) : lstS (some (.val (.list ds))) = some ds := rfl
theorem lstS_iL (ms : List Int) : lstS (some (.val (iL ms))) = some (ms.map PyData.int) := rfl
theorem lstS_lL (ms : List (List Int)) : lstS (some (.val (lL ms))) = some (ms.map iL) := rfl
theorem ev_ixV {i : Nat} {f : Den D} {ρ : Env'} : dIxV i f ρ = ixO (lstS ρ[i]?).isSome i f ρ ixD := by
  unfold dIxV
  cases lstS ρ[i]? with
  | none => rfl
  | some ds =>
    dsimp only
    rw [show (some ds).isSome = true from rfl, ixO_t]
    congr 1
    funext d ρ1
    cases lstS ρ1[i]? with
    | none => rfl
    | some es =>
      cases d <;> try rfl
      rename_i k
      show (match atI es k with | some x => Res.ok x ρ1 | none => .st) = optR (atI es k) ρ1
      cases atI es k <;> rfl
theorem ev_opV {g : D → D → Option Bool} {i : Nat} {f : Den D} {ρ : Env'} : dOpV g i f ρ = ixO (lstS ρ[i]?).isSome i f ρ (fun ds d => (g (.list ds) d).map PyData.bool) := by
  unfold dOpV
  cases lstS ρ[i]? with
  | none => rfl
  | some ds =>
    dsimp only
    rw [show (some ds).isSome = true from rfl, ixO_t]
    congr 1
    funext d ρ1
    cases lstS ρ1[i]? with
    | none => rfl
    | some es =>
      show (match g (.list es) d with | some x => Res.ok (PyData.bool x) ρ1 | none => .st) = optR ((g (.list es) d).map PyData.bool) ρ1
      cases g (.list es) d <;> rfl
def slotI : Option Slot → Option Int
  | some (.val (.int a)) => some a
  | _ => none
theorem slotI_i (a : Int) : slotI (some (.val (.int a))) = some a := rfl
def augO (o : Option Int) (i : Nat) (op : Int → Int → Int) (f : Den D) (ρ : Env') : Res Fl := match o with
  | some a => (f ρ).bind fun d ρ1 => match d with
    | .int b => .ok .nx (ρ1.set i (.val (.int (op a b))))
    | _ => .st
  | none => .st
theorem ev_aug {i : Nat} {op : Int → Int → Int} {f : Den D} {ρ : Env'} : dAug i op f ρ = augO (slotI ρ[i]?) i op f ρ := by
  unfold dAug augO slotI
  cases ρ[i]? with
  | none => rfl
  | some s =>
    cases s <;> try rfl
    rename_i d
    cases d <;> rfl
theorem augO_c (a b : Int) (i : Nat) (op : Int → Int → Int) (ρ : Env') : augO (some a) i op (dC (.int b)) ρ = .ok .nx (ρ.set i (.val (.int (op a b)))) := rfl
def optE (o : Option Env') : Res Fl := match o with
  | some ρ => .ok .nx ρ
  | none => .st
theorem optE_some (ρ : Env') : optE (some ρ) = .ok .nx ρ := rfl
theorem ev_par {is : List Nat} {fs : Den (List D)} {ρ : Env'} : dPar is fs ρ = (fs ρ).bind fun ds ρ1 => optE (setAll is ds ρ1) := rfl
theorem ev_asgT {g : Tg} {f : Den D} {ρ : Env'} : dAsgT g f ρ = (f ρ).bind fun d ρ1 => optE (g.put d ρ1) := rfl
theorem setAll_nil (ρ : Env') : setAll [] [] ρ = some ρ := rfl
theorem setAll_cons (i : Nat) (is : List Nat) (d : D) (ds : List D) (ρ : Env') : setAll (i :: is) (d :: ds) ρ = setAll is ds (ρ.set i (.val d)) := rfl
theorem put_t (is : List Nat) (ds : List D) (ρ : Env') : (Tg.t is).put (.tuple ds) ρ = setAll is ds ρ := rfl
def lmO (o : Option (List D)) (g : List D → D → Option D) (f2 : Den D) (ρ : Env') : Res D := match o with
  | some ds => (f2 ρ).bind fun e ρ2 => optR (g ds e) ρ2
  | none => .st
theorem lmO_some (ds : List D) (g : List D → D → Option D) (f2 : Den D) (ρ : Env') : lmO (some ds) g f2 ρ = (f2 ρ).bind fun e ρ2 => optR (g ds e) ρ2 := rfl
theorem ev_lm {g : List D → D → Option D} {f1 f2 : Den D} {ρ : Env'} : dLM g f1 f2 ρ = (f1 ρ).bind fun d ρ1 => lmO (asL d) g f2 ρ1 := by
  unfold dLM
  congr 1
  funext d ρ1
  cases d <;> try rfl
  rename_i xs
  show Res.bind _ _ = Res.bind _ _
  congr 1
  funext e ρ2
  cases g xs e <;> rfl
/-! the draws -/
def soR (o : SO) (a : Slot) (r : Env') : Res D := match o with
  | .ok d ns c => .ok d (a :: .drw ns c :: r)
  | .st => .st
theorem soR_ok (d : D) (ns : List Int) (c : Int) (a : Slot) (r : Env') : soR (.ok d ns c) a r = .ok d (a :: .drw ns c :: r) := rfl
def cdR (P : SFn) (ds : List D) (ρ1 : Env') : Res D := match ρ1 with
  | a :: .drw ns c :: r => soR (P ns c ds) a r
  | _ => .st
theorem cdR_d (P : SFn) (ds : List D) (a : Slot) (ns : List Int) (c : Int) (r : Env') : cdR P ds (a :: .drw ns c :: r) = soR (P ns c ds) a r := rfl
theorem ev_callD1 {P : SFn} {fs : Den (List D)} {a : Slot} {ns : List Int} {c : Int} {r : Env'} : dCallD P 1 fs (a :: .drw ns c :: r) = (fs (a :: .drw ns c :: r)).bind (cdR P) := by
  show Res.bind (fs (a :: .drw ns c :: r)) _ = _
  congr 1
  funext ds ρ1
  match ρ1 with
  | [] => rfl
  | [_] => rfl
  | a :: s :: r =>
    cases s <;> rfl
theorem draw0 {ns : List Int} {c lim : Int} (h : ns ≠ []) (h1 : 0 < lim) (h2 : lim < 1073741824) : ∃ v ns' c', C__law_draw ns c [.int lim] = .ok (.int v) ns' c' ∧ 0 ≤ v ∧ v < lim ∧ ns' ≠ [] :=
  ⟨drawV ns c lim, drawN ns c lim, c + 1, c_draw h h1 h2, (drawV_bd h1).1, (drawV_bd h1).2, drawN_ne h⟩
/-! errors that are kept -/
def tryE (a b : Option Slot) (k : EK) (j : Nat) (ρ1 : Env') : Res Fl := match a, b with
  | some .emp, some (.val _) => .ok .nx (ρ1.set j (.exc k))
  | _, _ => .st
theorem tryE_ok (d : D) (k : EK) (j : Nat) (ρ1 : Env') : tryE (some .emp) (some (.val d)) k j ρ1 = .ok .nx (ρ1.set j (.exc k)) := rfl
def tryR (r : Res Fl) (i j : Nat) : Res Fl := match r with
  | .er k ρ1 => tryE ρ1[i]? ρ1[j]? k j ρ1
  | r => r
theorem tryR_ok (fl : Fl) (ρ : Env') (i j : Nat) : tryR (.ok fl ρ) i j = .ok fl ρ := rfl
theorem tryR_er (k : EK) (ρ : Env') (i j : Nat) : tryR (.er k ρ) i j = tryE ρ[i]? ρ[j]? k j ρ := rfl
theorem ev_try {G : Den Fl} {i j : Nat} {ρ : Env'} : dTry G i j ρ = tryR (G ρ) i j := by
  unfold dTry tryR
  cases G ρ with
  | er k ρ1 => rfl
  | ok a b => rfl
  | st => rfl
def isNoS (o : Option Slot) (ρ : Env') : Res Bool := match o with
  | some (.val d) => .ok (isN d) ρ
  | some (.exc _) => .ok false ρ
  | _ => .st
theorem isNoS_v (d : D) (ρ : Env') : isNoS (some (.val d)) ρ = .ok (isN d) ρ := rfl
theorem isNoS_e (k : EK) (ρ : Env') : isNoS (some (.exc k)) ρ = .ok false ρ := rfl
theorem ev_isNo {i : Nat} {ρ : Env'} : dIsNo i ρ = isNoS ρ[i]? ρ := rfl
def callXS (o : Option Slot) (P : XFn) (ρ : Env') : Res D := match o with
  | some (.exc k) => (P k).at ρ
  | _ => .st
theorem callXS_e (k : EK) (P : XFn) (ρ : Env') : callXS (some (.exc k)) P ρ = (P k).at ρ := rfl
theorem ev_callX {P : XFn} {i : Nat} {ρ : Env'} : dCallX P i ρ = callXS ρ[i]? P ρ := rfl

/-! ### ends of a run -/
def WP (r : Res Fl) (Q : Fl → Env' → Prop) : Prop := ∃ fl ρ', r = .ok fl ρ' ∧ Q fl ρ'
section
variable {Q : Fl → Env' → Prop} {ρ : Env'} {r : Res Fl} {G G' : Den Fl} {tg : Tg}
theorem wp_ok {fl : Fl} (h : Q fl ρ) : WP (.ok fl ρ) Q := ⟨fl, ρ, rfl, h⟩
theorem wp_mono {Q' : Fl → Env' → Prop} (h : WP r Q) (k : ∀ fl ρ', Q fl ρ' → Q' fl ρ') : WP r Q' := by
  obtain ⟨fl, ρ', e, q⟩ := h
  exact ⟨fl, ρ', e, k fl ρ' q⟩
theorem wp_seqR (h : WP r fun fl ρ' => match fl with | .nx => WP (G ρ') Q | .rt d => Q (.rt d) ρ') : WP (seqR r G) Q := by
  obtain ⟨fl, ρ', rfl, q⟩ := h
  cases fl with
  | nx => exact q
  | rt d => exact ⟨_, _, rfl, q⟩
theorem wp_loop0 {ι : Type} (φ : ι → D) (xs : List ι) (I : List ι → Env' → Prop) (h0 : I [] ρ)
    (hs : ∀ pre x post ρ', xs = pre ++ x :: post → I pre ρ' → ∃ ρ1, tg.put (φ x) ρ' = some ρ1 ∧ WP (G ρ1) fun fl ρ2 => match fl with | .nx => I (pre ++ [x]) ρ2 | .rt d => Q (.rt d) ρ2)
    (hk : ∀ ρ', I xs ρ' → Q .nx ρ') : WP (loop tg G (xs.map φ) ρ) Q := by
  have go : ∀ (post pre : List ι) (ρ' : Env'), xs = pre ++ post → I pre ρ' → WP (loop tg G (post.map φ) ρ') Q := by
    intro post
    induction post with
    | nil =>
      intro pre ρ' e h
      rw [List.append_nil] at e
      exact wp_ok (hk ρ' (by rw [e]; exact h))
    | cons x post ih =>
      intro pre ρ' e h
      obtain ⟨ρ1, h1, fl, ρ2, h2, h3⟩ := hs pre x post ρ' e h
      rw [List.map_cons]
      unfold loop
      rw [h1]
      dsimp only
      rw [h2]
      cases fl with
      | nx => exact ih (pre ++ [x]) ρ2 (by rw [e]; simp) h3
      | rt d => exact ⟨_, _, rfl, h3⟩
  exact go xs [] ρ rfl h0
/-- a loop that runs to its end -/
theorem wp_loop {ι : Type} (φ : ι → D) (xs : List ι) (I : List ι → Env' → Prop) (h0 : I [] ρ)
    (hs : ∀ pre x post ρ', xs = pre ++ x :: post → I pre ρ' → ∃ ρ1, tg.put (φ x) ρ' = some ρ1 ∧ WP (G ρ1) fun fl ρ2 => fl = .nx ∧ I (pre ++ [x]) ρ2)
    (hk : ∀ ρ', I xs ρ' → WP (G' ρ') Q) : WP (seqR (loop tg G (xs.map φ) ρ) G') Q := by
  refine wp_seqR (wp_loop0 φ xs I h0 (fun pre x post ρ' e h => ?_) fun ρ' h => hk ρ' h)
  obtain ⟨ρ1, h1, h2⟩ := hs pre x post ρ' e h
  refine ⟨ρ1, h1, wp_mono h2 fun fl ρ2 q => ?_⟩
  obtain ⟨rfl, q⟩ := q
  exact q
theorem wp_loopE {ι : Type} (φ : ι → D) (xs : List ι) (I : List ι → Env' → Prop) (h0 : I [] ρ)
    (hs : ∀ pre x post ρ', xs = pre ++ x :: post → I pre ρ' → ∃ ρ1, tg.put (φ x) ρ' = some ρ1 ∧ WP (G ρ1) fun fl ρ2 => fl = .nx ∧ I (pre ++ [x]) ρ2)
    (hk : ∀ ρ', I xs ρ' → Q .nx ρ') : WP (loop tg G (xs.map φ) ρ) Q := by
  refine wp_loop0 φ xs I h0 (fun pre x post ρ' e h => ?_) fun ρ' h => hk ρ' h
  obtain ⟨ρ1, h1, h2⟩ := hs pre x post ρ' e h
  refine ⟨ρ1, h1, wp_mono h2 fun fl ρ2 q => ?_⟩
  obtain ⟨rfl, q⟩ := q
  exact q
theorem out_wp {d : D} (h : WP r fun fl _ => fl = .rt d) : outOf r = .ok d := by
  obtain ⟨fl, ρ', rfl, rfl⟩ := h
  rfl
end
theorem law_wp {m : Nat} {G : Den Fl} (h : ∀ ns : List Int, ns ≠ [] → WP (G (Slot.emp :: Slot.drw ns 0 :: List.replicate m Slot.emp)) fun fl _ => fl = .rt (.bool true)) : LawOk m G := fun ns hn => by
  obtain ⟨fl, ρ', e, rfl⟩ := h ns hn
  exact ⟨ρ', e⟩
/-! ### comprehensions: the names as they were -/
section
variable {ι : Type} {it : Den (List D)} {g : Tg} {c : Den Bool} {f : Den D} {vs : List Nat} {ρ : Env'}
theorem lcF (φ : ι → D) (xs : List ι) (P : ι → Bool) (F : ι → D) (hi : it ρ = .ok (xs.map φ) ρ) (he : ∀ v, v ∈ vs → ρ[v]? = some .emp)
    (h : ∀ x, x ∈ xs → ∃ ρ2, g.put (φ x) ρ = some ρ2 ∧ c ρ2 = .ok (P x) ρ2 ∧ (P x = true → f ρ2 = .ok (F x) ρ2) ∧ wipeE ρ2 vs = ρ) (hl : xs.length ≤ 100000) : dLc it g c f vs ρ = .ok (.list ((xs.filter P).map F)) ρ := dLc_map φ xs P F hi he h hl
theorem lcA (φ : ι → D) (xs : List ι) (F : ι → D) (hi : it ρ = .ok (xs.map φ) ρ) (he : ∀ v, v ∈ vs → ρ[v]? = some .emp)
    (h : ∀ x, x ∈ xs → ∃ ρ2, g.put (φ x) ρ = some ρ2 ∧ f ρ2 = .ok (F x) ρ2 ∧ wipeE ρ2 vs = ρ) (hl : xs.length ≤ 100000) : dLc it g dYes f vs ρ = .ok (.list (xs.map F)) ρ := dLc_all φ xs F hi he h hl
/-- names that hold a value before -/
theorem lcF' (φ : ι → D) (xs : List ι) (P : ι → Bool) (F : ι → D) (ρw : Env') (hi : it ρ = .ok (xs.map φ) ρ) (hp : (vs.all fun v => plainS (ρ.getD v .emp)) = true) (hw : wipeE ρ vs = ρw) (hr : restore ρ ρw vs = ρ)
    (h : ∀ x, x ∈ xs → ∃ ρ2, g.put (φ x) ρw = some ρ2 ∧ c ρ2 = .ok (P x) ρ2 ∧ (P x = true → f ρ2 = .ok (F x) ρ2) ∧ wipeE ρ2 vs = ρw) (hl : xs.length ≤ 100000) : dLc it g c f vs ρ = .ok (.list ((xs.filter P).map F)) ρ := dLc_gen φ xs P F ρw hi hp hw hr h hl
theorem lcA' (φ : ι → D) (xs : List ι) (F : ι → D) (ρw : Env') (hi : it ρ = .ok (xs.map φ) ρ) (hp : (vs.all fun v => plainS (ρ.getD v .emp)) = true) (hw : wipeE ρ vs = ρw) (hr : restore ρ ρw vs = ρ)
    (h : ∀ x, x ∈ xs → ∃ ρ2, g.put (φ x) ρw = some ρ2 ∧ f ρ2 = .ok (F x) ρ2 ∧ wipeE ρ2 vs = ρw) (hl : xs.length ≤ 100000) : dLc it g dYes f vs ρ = .ok (.list (xs.map F)) ρ := dLc_genA φ xs F ρw hi hp hw hr h hl
end
theorem mul_small {i j : Int} (h : -1000000 < i ∧ i < 1000000) : gMul (.int i) (.int j) = some (.int (i * j)) := by
  simp only [gMul]
  rw [if_pos (.inl ⟨by omega, by omega⟩)]
theorem c_law_true (a b : Bool) : C__law_true [.bool a, .bool b] = .ok (.bool (decide (a = b))) := by
  cases a <;> cases b <;> rfl
theorem range_at {n k : Nat} {pre post : List Nat} (e : List.range n = pre ++ k :: post) : k = pre.length ∧ k < n := by
  have h2 := congrArg List.length e
  have h1 := congrArg (fun l => l[pre.length]?) e
  simp at h1 h2
  rw [List.getElem?_range (by omega)] at h1
  have : pre.length = k := by simpa using h1
  omega
theorem rng1_n {n : Nat} (h : n ≤ 1000000) : gRng1 [.int (n : Int)] = some ((List.range n).map fun k => PyData.int ((k : Nat) : Int)) := by
  rw [gRng1_i (by omega) (by omega), rng0]
theorem rng2_n {a b : Nat} (h : a ≤ 1000000) (h : b ≤ 1000000) : gRng2 [.int (a : Int), .int (b : Int)] = some ((List.range (b - a)).map fun k => PyData.int ((a + k : Nat) : Int)) := by
  rw [gRng2_i (by omega) (by omega), rng_map, show ((b : Int) - (a : Int)).toNat = b - a by omega]
  refine congrArg some (List.map_congr_left fun k _ => ?_)
  congr 1
end GG

namespace GG
open PySem PySem.Spec PyProof.Rows L2
/-- slots: 0 groups 1 group 2 moment -/
def G_format_groups : Den Fl :=
  (dSeq (dExp (dCall C_check_groups (dCons (dV 0) dNil)))
    (dRet (dB1 (gJoin " | ") (dLc (dB1 asL (dV 0)) (.n 1) dYes (dB1 (gJoin " ") (dLc (dB1 asL (dV 1)) (.n 2) dYes (dBL gStrI (dCons (dV 2) dNil)) [2])) [1]))))
def C_format_groups : PFn := runP 1 2 G_format_groups
/-- slots: 0 caught 1 kinds -/
def G__law_error : Den Fl :=
  (dSeq (dAsg 1 (dBL gLstD (dCons (dIsE 0 (fun k => decide (k = .mo))) (dCons (dIsE 0 (fun k => decide (k = .nu))) (dCons (dIsE 0 (fun k => decide (k = .gr))) dNil)))))
    (dSeq (dAsg 1 (dB2 gAdd (dV 1) (dBL gLstD (dCons (dIsE 0 (fun k => decide (k = .la))) (dCons (dIsE 0 (fun k => decide (k = .te))) (dCons (dIsE 0 (fun k => decide (k = .no))) dNil))))))
    (dSeq (dIfS (dOr (dTst (dB2 (bo gNe) (dLM gCntB (dV 1) (dC (.bool true))) (dC (.int 1)))) (dOr (dNot (dTst (dIsE 0 (fun _ => true)))) (dNot (dTst (dIsE 0 (fun _ => true)))))) (dRet (dC (.str "odd"))) dSkip)
    (dRet (dB2 gIx (dBL gLstD (dCons (dC (.str "moments")) (dCons (dC (.str "number")) (dCons (dC (.str "groups")) (dCons (dC (.str "late")) (dCons (dC (.str "text")) (dCons (dC (.str "none")) dNil))))))) (dLM gIdxB (dV 1) (dC (.bool true))))))))
def C__law_error : XFn := runX 1 G__law_error
/-- slots: 0 kind 1 one 2 two 3 three -/
def G__law_call : Den Fl :=
  (dSeq (dIfS (dTst (dB2 (bo gEq) (dV 0) (dC (.int 0)))) (dRet (dCall C_gap_range (dCons (dV 1) dNil))) dSkip)
    (dSeq (dIfS (dTst (dB2 (bo gEq) (dV 0) (dC (.int 1)))) (dRet (dCall C_are_groups (dCons (dV 1) dNil))) dSkip)
    (dSeq (dIfS (dTst (dB2 (bo gEq) (dV 0) (dC (.int 2)))) (dRet (dCall C_against (dCons (dV 1) dNil))) dSkip)
    (dSeq (dIfS (dTst (dB2 (bo gEq) (dV 0) (dC (.int 3)))) (dRet (dCall C_moments_of (dCons (dV 1) dNil))) dSkip)
    (dSeq (dIfS (dTst (dB2 (bo gEq) (dV 0) (dC (.int 4)))) (dRet (dCall C_bounded_range (dCons (dV 1) dNil))) dSkip)
    (dSeq (dIfS (dTst (dB2 (bo gEq) (dV 0) (dC (.int 5)))) (dRet (dCall C_format_groups (dCons (dV 1) dNil))) dSkip)
    (dSeq (dIfS (dTst (dB2 (bo gEq) (dV 0) (dC (.int 6)))) (dRet (dCall C_between (dCons (dV 1) (dCons (dV 2) (dCons (dV 3) dNil))))) dSkip)
    (dSeq (dIfS (dTst (dB2 (bo gEq) (dV 0) (dC (.int 7)))) (dRet (dCall C_gaps_for (dCons (dV 1) (dCons (dV 2) dNil)))) dSkip)
    (dSeq (dIfS (dTst (dB2 (bo gEq) (dV 0) (dC (.int 8)))) (dRet (dCall C_with_moment (dCons (dV 1) (dCons (dV 2) dNil)))) dSkip)
    (dSeq (dIfS (dTst (dB2 (bo gEq) (dV 0) (dC (.int 9)))) (dRet (dCall C_without_moment (dCons (dV 1) (dCons (dV 2) dNil)))) dSkip)
    (dSeq (dIfS (dTst (dB2 (bo gEq) (dV 0) (dC (.int 10)))) (dRet (dCall C_merged (dCons (dV 1) (dCons (dV 2) dNil)))) dSkip)
    (dSeq (dIfS (dTst (dB2 (bo gEq) (dV 0) (dC (.int 11)))) (dRet (dCall C_moved (dCons (dV 1) (dCons (dV 2) dNil)))) dSkip)
    (dSeq (dIfS (dTst (dB2 (bo gEq) (dV 0) (dC (.int 12)))) (dRet (dCall C_scaled (dCons (dV 1) (dCons (dV 2) dNil)))) dSkip)
    (dSeq (dIfS (dTst (dB2 (bo gEq) (dV 0) (dC (.int 13)))) (dRet (dCall C_can_be (dCons (dV 1) dNil))) dSkip)
    (dSeq (dIfS (dTst (dB2 (bo gEq) (dV 0) (dC (.int 14)))) (dRet (dCall C_least_length (dCons (dV 1) dNil))) dSkip)
    (dSeq (dIfS (dTst (dB2 (bo gEq) (dV 0) (dC (.int 15)))) (dRet (dCall C_moments_with (dCons (dV 1) dNil))) dSkip)
    (dSeq (dIfS (dTst (dB2 (bo gEq) (dV 0) (dC (.int 16)))) (dRet (dCall C_count_moments (dCons (dV 1) dNil))) dSkip)
    (dSeq (dIfS (dTst (dB2 (bo gEq) (dV 0) (dC (.int 17)))) (dRet dStk) dSkip)
    (dRet (dIf (dTst (dB2 (bo gEq) (dV 0) (dC (.int 18)))) (dMeth C_Stream_push 1 (dCons (dV 2) dNil)) (dCall C_groups_of_days (dCons (dBL gLstD (dCons (dC (.int 0)) (dCons (dC (.int 1)) dNil))) (dCons (dC (.int 1)) (dCons (dC (.int 5)) (dCons (dV 1) dNil)))))))))))))))))))))))))
def C__law_call : PFn := runP 4 0 G__law_call
def CS__law_call : StFn := runS 1 3 0 G__law_call
/-- slots: 0 kind 1 one 2 two 3 three -/
def G__law_call17 : Den Fl :=
  (dSeq (dIfS (dTst (dB2 (bo gEq) (dV 0) (dC (.int 0)))) (dRet (dCall C_gap_range (dCons (dV 1) dNil))) dSkip)
    (dSeq (dIfS (dTst (dB2 (bo gEq) (dV 0) (dC (.int 1)))) (dRet (dCall C_are_groups (dCons (dV 1) dNil))) dSkip)
    (dSeq (dIfS (dTst (dB2 (bo gEq) (dV 0) (dC (.int 2)))) (dRet (dCall C_against (dCons (dV 1) dNil))) dSkip)
    (dSeq (dIfS (dTst (dB2 (bo gEq) (dV 0) (dC (.int 3)))) (dRet (dCall C_moments_of (dCons (dV 1) dNil))) dSkip)
    (dSeq (dIfS (dTst (dB2 (bo gEq) (dV 0) (dC (.int 4)))) (dRet (dCall C_bounded_range (dCons (dV 1) dNil))) dSkip)
    (dSeq (dIfS (dTst (dB2 (bo gEq) (dV 0) (dC (.int 5)))) (dRet (dCall C_format_groups (dCons (dV 1) dNil))) dSkip)
    (dSeq (dIfS (dTst (dB2 (bo gEq) (dV 0) (dC (.int 6)))) (dRet (dCall C_between (dCons (dV 1) (dCons (dV 2) (dCons (dV 3) dNil))))) dSkip)
    (dSeq (dIfS (dTst (dB2 (bo gEq) (dV 0) (dC (.int 7)))) (dRet (dCall C_gaps_for (dCons (dV 1) (dCons (dV 2) dNil)))) dSkip)
    (dSeq (dIfS (dTst (dB2 (bo gEq) (dV 0) (dC (.int 8)))) (dRet (dCall C_with_moment (dCons (dV 1) (dCons (dV 2) dNil)))) dSkip)
    (dSeq (dIfS (dTst (dB2 (bo gEq) (dV 0) (dC (.int 9)))) (dRet (dCall C_without_moment (dCons (dV 1) (dCons (dV 2) dNil)))) dSkip)
    (dSeq (dIfS (dTst (dB2 (bo gEq) (dV 0) (dC (.int 10)))) (dRet (dCall C_merged (dCons (dV 1) (dCons (dV 2) dNil)))) dSkip)
    (dSeq (dIfS (dTst (dB2 (bo gEq) (dV 0) (dC (.int 11)))) (dRet (dCall C_moved (dCons (dV 1) (dCons (dV 2) dNil)))) dSkip)
    (dSeq (dIfS (dTst (dB2 (bo gEq) (dV 0) (dC (.int 12)))) (dRet (dCall C_scaled (dCons (dV 1) (dCons (dV 2) dNil)))) dSkip)
    (dSeq (dIfS (dTst (dB2 (bo gEq) (dV 0) (dC (.int 13)))) (dRet (dCall C_can_be (dCons (dV 1) dNil))) dSkip)
    (dSeq (dIfS (dTst (dB2 (bo gEq) (dV 0) (dC (.int 14)))) (dRet (dCall C_least_length (dCons (dV 1) dNil))) dSkip)
    (dSeq (dIfS (dTst (dB2 (bo gEq) (dV 0) (dC (.int 15)))) (dRet (dCall C_moments_with (dCons (dV 1) dNil))) dSkip)
    (dSeq (dIfS (dTst (dB2 (bo gEq) (dV 0) (dC (.int 16)))) (dRet (dCall C_count_moments (dCons (dV 1) dNil))) dSkip)
    (dSeq (dIfS (dTst (dB2 (bo gEq) (dV 0) (dC (.int 17)))) (dRetNew (ini C_check_gap) (dCons (dV 1) (dCons (dV 2) dNil))) dSkip)
    (dRet (dIf (dTst (dB2 (bo gEq) (dV 0) (dC (.int 18)))) dStk (dCall C_groups_of_days (dCons (dBL gLstD (dCons (dC (.int 0)) (dCons (dC (.int 1)) dNil))) (dCons (dC (.int 1)) (dCons (dC (.int 5)) (dCons (dV 1) dNil)))))))))))))))))))))))))
def C__law_call17 : UFn := runU 4 0 G__law_call17
/-- slots: 0 kind 1 one 2 two 3 three 4 caught 5 e -/
def G__law_asked : Den Fl :=
  (dSeq (dAsg 4 (dC .none))
    (dSeq (dTry (dExp (dCall C__law_call (dCons (dV 0) (dCons (dV 1) (dCons (dV 2) (dCons (dV 3) dNil)))))) 5 4)
    (dRet (dIf (dIsNo 4) (dC (.str "done")) (dCallX C__law_error 4)))))
def C__law_asked : PFn := runP 4 2 G__law_asked
/-- slots: 0 kind 1 one 2 two 3 three 4 caught 5 e -/
def G__law_asked17 : Den Fl :=
  (dSeq (dAsg 4 (dC .none))
    (dSeq (dTry (dCallU C__law_call17 (dCons (dV 0) (dCons (dV 1) (dCons (dV 2) (dCons (dV 3) dNil))))) 5 4)
    (dRet (dIf (dIsNo 4) (dC (.str "done")) (dCallX C__law_error 4)))))
def C__law_asked17 : PFn := runP 4 2 G__law_asked17
/-- slots: 0 kind 1 one 2 two 3 three 4 caught 5 e -/
def G__law_asked18 : Den Fl :=
  (dSeq (dAsg 4 (dC .none))
    (dSeq (dTry (dExp (dMeth1 CS__law_call 1 (dV 0) (dCons (dV 2) (dCons (dV 3) dNil)))) 5 4)
    (dRet (dIf (dIsNo 4) (dC (.str "done")) (dCallX C__law_error 4)))))
def C__law_asked18 : StFn := runS 1 3 2 G__law_asked18
/-- slots: 0 bad 1 shown 2 good 3 late -/
def G__law_stream : Den Fl :=
  (dSeq (dFor (dB1 asL (dBL gLstD (dCons (dC .none) (dCons (dB2 gSub (dC (.int 0)) (dC (.int 1))) (dCons (dC (.int 1000)) (dCons (dC (.bool true)) (dCons (dC (.str "1")) dNil))))))) (.n 0) (dIfS (dOr (dTst (dB2 (bo gNe) (dCall C__law_asked17 (dCons (dC (.int 17)) (dCons (dV 0) (dCons (dC .none) (dCons (dC (.int 0)) dNil))))) (dC (.str "number")))) (dTst (dB2 (bo gNe) (dCall C__law_asked17 (dCons (dC (.int 17)) (dCons (dC (.int 2)) (dCons (dV 0) (dCons (dC (.int 0)) dNil))))) (dC (.str "number"))))) (dRet (dC (.bool false))) dSkip))
    (dSeq (dIfS (dTst (dB2 (bo gNe) (dLc (dB1 asT (dBL gTupD (dCons (dC (.int 0)) (dCons (dC (.int 999)) dNil)))) (.n 2) dYes (dCall C__law_asked17 (dCons (dC (.int 17)) (dCons (dV 2) (dCons (dV 2) (dCons (dC (.int 0)) dNil))))) [2]) (dB2 gMul (dBL gLstD (dCons (dC (.str "done")) dNil)) (dC (.int 2))))) (dRet (dC (.bool false))) dSkip)
    (dSeq (dNew 1 (ini C_check_gap) (dCons (dC (.int 2)) (dCons (dC (.int 3)) dNil)))
    (dSeq (dIfS (dOr (dTst (dB2 (bo gNe) (dMeth C_Stream_finish 1 dNil) (dBL gLstD dNil))) (dOr (dTst (dB2 (bo gNe) (dMeth C_Stream_closed 1 dNil) (dBL gLstD dNil))) (dOr (dTst (dB2 (bo gNe) (dMeth C_Stream_open_groups 1 dNil) (dBL gLstD dNil))) (dTst (dB2 (bo gNe) (dMeth C_Stream_limit 1 dNil) (dC (.int 0))))))) (dRet (dC (.bool false))) dSkip)
    (dSeq (dExp (dMeth C_Stream_push 1 (dCons (dC (.int 9)) dNil)))
    (dSeq (dFor (dB1 asL (dBL gLstD (dCons (dC .none) (dCons (dB2 gSub (dC (.int 0)) (dC (.int 1))) (dCons (dC (.int 1000)) (dCons (dC (.bool true)) (dCons (dC (.str "1")) dNil))))))) (.n 0) (dIfS (dTst (dB2 (bo gNe) (dMeth1 C__law_asked18 1 (dC (.int 18)) (dCons (dV 0) (dCons (dC (.int 0)) dNil))) (dC (.str "number")))) (dRet (dC (.bool false))) dSkip))
    (dSeq (dIfS (dOr (dTst (dB2 (bo gNe) (dLc (dB1 asT (dBL gTupD (dCons (dC (.int 0)) (dCons (dC (.int 5)) dNil)))) (.n 3) dYes (dMeth1 C__law_asked18 1 (dC (.int 18)) (dCons (dV 3) (dCons (dC (.int 0)) dNil))) [3]) (dB2 gMul (dBL gLstD (dCons (dC (.str "late")) dNil)) (dC (.int 2))))) (dTst (dB2 (bo gNe) (dLenM C_Stream___len__ 1) (dC (.int 1))))) (dRet (dC (.bool false))) dSkip)
    (dRet (dBo (dAnd (dTst (dB2 (bo gEq) (dMeth C_Stream_push 1 (dCons (dC (.int 6)) dNil)) (dBL gLstD dNil))) (dAnd (dTst (dB2 (bo gEq) (dMeth C_Stream_open_groups 1 dNil) (dBL gLstD (dCons (dBL gLstD (dCons (dC (.int 6)) dNil)) (dCons (dBL gLstD (dCons (dC (.int 9)) dNil)) dNil))))) (dAnd (dTst (dB2 (bo gEq) (dMeth C_Stream_push 1 (dCons (dC (.int 999)) dNil)) (dBL gLstD (dCons (dBL gLstD (dCons (dC (.int 6)) dNil)) (dCons (dBL gLstD (dCons (dC (.int 9)) dNil)) dNil))))) (dTst (dB2 (bo gEq) (dMeth C_Stream_limit 1 dNil) (dC (.int 996))))))))))))))))
def C__law_stream : PFn := runP 0 4 G__law_stream
/-- slots: 0 bad 1 k -/
def G__law_numbers : Den Fl :=
  (dSeq (dFor (dB1 asL (dBL gLstD (dCons (dC .none) (dCons (dC (.int 5)) (dCons (dBL gTupD dNil) (dCons (dBL gLstD (dCons (dC (.int 1)) dNil)) (dCons (dBL gTupD (dCons (dC (.int 0)) dNil)) (dCons (dBL gTupD (dCons (dC (.int 13)) dNil)) (dCons (dBL gTupD (dCons (dC (.bool true)) dNil)) (dCons (dBL gTupD (dCons (dC (.str "1")) dNil)) (dCons (dB2 gMulT (dBL gTupD (dCons (dC (.int 1)) dNil)) (dC (.int 9))) (dCons (dBL gTupD (dCons (dC .none) dNil)) dNil)))))))))))) (.n 0) (dIfS (dTst (dB2 (bo gNe) (dLc (dB1 asT (dBL gTupD (dCons (dC (.int 13)) (dCons (dC (.int 14)) (dCons (dC (.int 15)) (dCons (dC (.int 16)) dNil)))))) (.n 1) dYes (dCall C__law_asked (dCons (dV 1) (dCons (dV 0) (dCons (dC (.int 0)) (dCons (dC (.int 0)) dNil))))) [1]) (dB2 gMul (dBL gLstD (dCons (dC (.str "number")) dNil)) (dC (.int 4))))) (dRet (dC (.bool false))) dSkip))
    (dSeq (dIfS (dTst (dB2 (bo gNe) (dLc (dB1 asT (dBL gTupD (dCons (dC (.int 13)) (dCons (dC (.int 14)) (dCons (dC (.int 15)) (dCons (dC (.int 16)) dNil)))))) (.n 1) dYes (dCall C__law_asked (dCons (dV 1) (dCons (dBL gTupD (dCons (dC (.int 1)) (dCons (dC (.int 2)) dNil))) (dCons (dC (.int 0)) (dCons (dC (.int 0)) dNil))))) [1]) (dBL gLstD (dCons (dC (.str "done")) (dCons (dC (.str "none")) (dCons (dC (.str "none")) (dCons (dC (.str "done")) dNil))))))) (dRet (dC (.bool false))) dSkip)
    (dSeq (dIfS (dTst (dB2 (bo gNe) (dLc (dB1 asT (dBL gTupD (dCons (dC (.int 13)) (dCons (dC (.int 14)) (dCons (dC (.int 15)) (dCons (dC (.int 16)) dNil)))))) (.n 1) dYes (dCall C__law_asked (dCons (dV 1) (dCons (dB2 gMulT (dBL gTupD (dCons (dC (.int 12)) dNil)) (dC (.int 8))) (dCons (dC (.int 0)) (dCons (dC (.int 0)) dNil))))) [1]) (dB2 gMul (dBL gLstD (dCons (dC (.str "done")) dNil)) (dC (.int 4))))) (dRet (dC (.bool false))) dSkip)
    (dRet (dB2 (bo gEq) (dLc (dB1 asT (dBL gTupD (dCons (dC .none) (dCons (dC (.int 0)) (dCons (dC (.int 1001)) (dCons (dC (.bool true)) (dCons (dC (.str "1")) (dCons (dC (.int 1)) (dCons (dC (.int 1000)) dNil))))))))) (.n 0) dYes (dCall C__law_asked (dCons (dC (.int 19)) (dCons (dV 0) (dCons (dC (.int 0)) (dCons (dC (.int 0)) dNil))))) [0]) (dB2 gAdd (dB2 gMul (dBL gLstD (dCons (dC (.str "number")) dNil)) (dC (.int 5))) (dB2 gMul (dBL gLstD (dCons (dC (.str "done")) dNil)) (dC (.int 2)))))))))
def C__law_numbers : PFn := runP 0 2 G__law_numbers
/-- slots: 0 script 1 draws 2 bad 3 moments 4 kind 5 low 6 high 7 many 8 by 9 k -/
def G_law : Den Fl :=
  (dSeq (dFor (dB1 asL (dBL gLstD (dCons (dC .none) (dCons (dC (.int 5)) (dCons (dBL gTupD dNil) (dCons (dBL gLstD dNil) (dCons (dBL gLstD (dCons (dBL gLstD dNil) dNil)) (dCons (dBL gLstD (dCons (dBL gLstD (dCons (dC (.int 1)) dNil)) (dCons (dBL gLstD dNil) dNil))) (dCons (dBL gLstD (dCons (dC (.int 5)) dNil)) (dCons (dBL gLstD (dCons (dBL gTupD (dCons (dC (.int 1)) dNil)) dNil)) (dCons (dBL gLstD (dCons (dBL gLstD (dCons (dC (.int 2)) (dCons (dC (.int 1)) dNil))) dNil)) (dCons (dBL gLstD (dCons (dBL gLstD (dCons (dC (.int 2)) dNil)) (dCons (dBL gLstD (dCons (dC (.int 1)) dNil)) dNil))) (dCons (dBL gLstD (dCons (dBL gLstD (dCons (dC (.int 1000)) dNil)) dNil)) (dCons (dBL gLstD (dCons (dBL gLstD (dCons (dC (.bool true)) dNil)) dNil)) (dCons (dB2 gMul (dBL gLstD (dCons (dBL gLstD (dCons (dC (.int 0)) dNil)) dNil)) (dC (.int 13))) (dCons (dBL gTupD (dCons (dBL gLstD (dCons (dC (.int 1)) dNil)) dNil)) dNil)))))))))))))))) (.n 2) (dIfS (dOr (dTst (dB2 (bo gIsNot) (dCall C_is_groups (dCons (dV 2) dNil)) (dC (.bool false)))) (dTst (dB2 (bo gNe) (dLc (dBL gRng1 (dCons (dC (.int 6)) dNil)) (.n 9) dYes (dCall C__law_asked (dCons (dV 9) (dCons (dV 2) (dCons (dC (.int 0)) (dCons (dC (.int 0)) dNil))))) [9]) (dB2 gMul (dBL gLstD (dCons (dC (.str "groups")) dNil)) (dC (.int 6)))))) (dRet (dC (.bool false))) dSkip))
    (dSeq (dIfS (dOr (dTst (dB2 (bo gNe) (dLc (dBL gRng1 (dCons (dC (.int 5)) dNil)) (.n 9) dYes (dCall C__law_asked (dCons (dV 9) (dCons (dBL gLstD (dCons (dBL gLstD (dCons (dC (.int 0)) dNil)) (dCons (dBL gLstD (dCons (dC (.int 0)) dNil)) dNil))) (dCons (dC (.int 0)) (dCons (dC (.int 0)) dNil))))) [9]) (dBL gLstD (dCons (dC (.str "none")) (dCons (dC (.str "done")) (dCons (dC (.str "done")) (dCons (dC (.str "done")) (dCons (dC (.str "none")) dNil)))))))) (dTst (dB2 (bo gIsNot) (dCall C_is_groups (dCons (dB2 gMul (dBL gLstD (dCons (dBL gLstD (dCons (dC (.int 0)) dNil)) dNil)) (dC (.int 12))) dNil)) (dC (.bool true))))) (dRet (dC (.bool false))) dSkip)
    (dSeq (dFor (dB1 asL (dBL gLstD (dCons (dC .none) (dCons (dC (.int 5)) (dCons (dBL gLstD dNil) (dCons (dBL gTupD (dCons (dC (.int 1)) (dCons (dC (.int 2)) dNil))) (dCons (dBL gLstD (dCons (dC (.int 1000)) dNil)) (dCons (dBL gLstD (dCons (dC (.int 2)) (dCons (dC (.int 1)) dNil))) (dCons (dB2 gMul (dBL gLstD (dCons (dC (.int 0)) dNil)) (dC (.int 13))) dNil))))))))) (.n 2) (dIfS (dOr (dTst (dB2 (bo gNe) (dLc (dBL gRng2 (dCons (dC (.int 6)) (dCons (dC (.int 13)) dNil))) (.n 9) dYes (dCall C__law_asked (dCons (dV 9) (dCons (dV 2) (dCons (dC .none) (dCons (dC .none) dNil))))) [9]) (dB2 gMul (dBL gLstD (dCons (dC (.str "moments")) dNil)) (dC (.int 7))))) (dTst (dB2 (bo gNe) (dCall C__law_asked (dCons (dC (.int 10)) (dCons (dBL gLstD (dCons (dC (.int 1)) dNil)) (dCons (dV 2) (dCons (dC (.int 0)) dNil))))) (dC (.str "moments"))))) (dRet (dC (.bool false))) dSkip))
    (dSeq (dAsg 3 (dBL gLstD (dCons (dC (.int 0)) (dCons (dC (.int 2)) (dCons (dC (.int 3)) (dCons (dC (.int 9)) (dCons (dB2 gAdd (dC (.int 10)) (dCallD C__law_draw 1 (dCons (dC (.int 9)) dNil))) dNil)))))))
    (dSeq (dFor (dB1 asL (dBL gLstD (dCons (dBL gTupD (dCons (dC (.int 6)) (dCons (dC (.int 0)) (dCons (dC (.int 4)) dNil)))) (dCons (dBL gTupD (dCons (dC (.int 7)) (dCons (dC (.int 1)) (dCons (dC (.int 5)) dNil)))) (dCons (dBL gTupD (dCons (dC (.int 8)) (dCons (dC (.int 0)) (dCons (dC (.int 999)) dNil)))) (dCons (dBL gTupD (dCons (dC (.int 9)) (dCons (dC (.int 0)) (dCons (dC (.int 999)) dNil)))) (dCons (dBL gTupD (dCons (dC (.int 11)) (dCons (dB2 gSub (dC (.int 0)) (dC (.int 999))) (dCons (dC (.int 999)) dNil)))) (dCons (dBL gTupD (dCons (dC (.int 12)) (dCons (dC (.int 1)) (dCons (dC (.int 99)) dNil)))) dNil)))))))) (.t [4, 5, 6]) (dIfS (dTst (dB2 (bo gNe) (dLc (dB1 asT (dBL gTupD (dCons (dC .none) (dCons (dB2 gSub (dV 5) (dC (.int 1))) (dCons (dB2 gAdd (dV 6) (dC (.int 1))) (dCons (dC (.bool true)) (dCons (dBL gStrI (dCons (dV 5) dNil)) dNil))))))) (.n 2) dYes (dCall C__law_asked (dCons (dV 4) (dCons (dV 3) (dCons (dV 2) (dCons (dC (.int 0)) dNil))))) [2]) (dB2 gMul (dBL gLstD (dCons (dC (.str "number")) dNil)) (dC (.int 5))))) (dRet (dC (.bool false))) dSkip))
    (dSeq (dIfS (dTst (dB2 (bo gNe) (dLc (dB1 asT (dBL gTupD (dCons (dC .none) (dCons (dC (.int 5)) (dCons (dB2 gSub (dC (.int 0)) (dC (.int 1))) (dCons (dC (.bool true)) (dCons (dC (.int 4)) dNil))))))) (.n 2) dYes (dCall C__law_asked (dCons (dC (.int 6)) (dCons (dV 3) (dCons (dC (.int 0)) (dCons (dV 2) dNil))))) [2]) (dB2 gAdd (dB2 gMul (dBL gLstD (dCons (dC (.str "number")) dNil)) (dC (.int 4))) (dBL gLstD (dCons (dC (.str "done")) dNil))))) (dRet (dC (.bool false))) dSkip)
    (dSeq (dIfS (dOr (dTst (dB2 (bo gNe) (dLc (dB1 asT (dBL gTupD (dCons (dC (.int 11)) (dCons (dC (.int 12)) dNil)))) (.n 7) dYes (dCall C__law_asked (dCons (dC (.int 8)) (dCons (dB2 gMul (dBL gLstD (dCons (dC (.int 0)) dNil)) (dV 7)) (dCons (dC (.int 999)) (dCons (dC (.int 0)) dNil))))) [7]) (dBL gLstD (dCons (dC (.str "done")) (dCons (dC (.str "moments")) dNil))))) (dTst (dB2 (bo gNe) (dBL gLstD (dCons (dCall C__law_asked (dCons (dC (.int 9)) (dCons (dBL gLstD (dCons (dC (.int 3)) dNil)) (dCons (dC (.int 3)) (dCons (dC (.int 0)) dNil))))) (dCons (dCall C__law_asked (dCons (dC (.int 9)) (dCons (dV 3) (dCons (dC (.int 1)) (dCons (dC (.int 0)) dNil))))) dNil))) (dB2 gMul (dBL gLstD (dCons (dC (.str "none")) dNil)) (dC (.int 2)))))) (dRet (dC (.bool false))) dSkip)
    (dSeq (dIfS (dTst (dB2 (bo gNe) (dLc (dB1 asT (dBL gTupD (dCons (dC (.int 6)) (dCons (dC (.int 7)) dNil)))) (.n 7) dYes (dCall C__law_asked (dCons (dC (.int 10)) (dCons (dB2 gMul (dBL gLstD (dCons (dC (.int 0)) dNil)) (dC (.int 6))) (dCons (dB2 gMul (dBL gLstD (dCons (dC (.int 0)) dNil)) (dV 7)) (dCons (dC (.int 0)) dNil))))) [7]) (dBL gLstD (dCons (dC (.str "done")) (dCons (dC (.str "moments")) dNil))))) (dRet (dC (.bool false))) dSkip)
    (dSeq (dIfS (dTst (dB2 (bo gNe) (dLc (dB1 asT (dBL gTupD (dCons (dC (.int 990)) (dCons (dC (.int 991)) (dCons (dB2 gSub (dC (.int 0)) (dC (.int 5))) (dCons (dB2 gSub (dC (.int 0)) (dC (.int 6))) dNil)))))) (.n 8) dYes (dCall C__law_asked (dCons (dC (.int 11)) (dCons (dBL gLstD (dCons (dC (.int 5)) (dCons (dC (.int 9)) dNil))) (dCons (dV 8) (dCons (dC (.int 0)) dNil))))) [8]) (dBL gLstD (dCons (dC (.str "done")) (dCons (dC (.str "moments")) (dCons (dC (.str "done")) (dCons (dC (.str "moments")) dNil))))))) (dRet (dC (.bool false))) dSkip)
    (dSeq (dIfS (dTst (dB2 (bo gNe) (dBL gLstD (dCons (dCall C__law_asked (dCons (dC (.int 11)) (dCons (dBL gLstD (dCons (dC (.int 0)) dNil)) (dCons (dC (.int 999)) (dCons (dC (.int 0)) dNil))))) (dCons (dCall C__law_asked (dCons (dC (.int 11)) (dCons (dBL gLstD (dCons (dC (.int 999)) dNil)) (dCons (dB2 gSub (dC (.int 0)) (dC (.int 999))) (dCons (dC (.int 0)) dNil))))) (dCons (dCall C__law_asked (dCons (dC (.int 12)) (dCons (dBL gLstD (dCons (dC (.int 1)) dNil)) (dCons (dC (.int 99)) (dCons (dC (.int 0)) dNil))))) dNil)))) (dB2 gMul (dBL gLstD (dCons (dC (.str "done")) dNil)) (dC (.int 3))))) (dRet (dC (.bool false))) dSkip)
    (dSeq (dIfS (dOr (dTst (dB2 (bo gNe) (dLc (dB1 asT (dBL gTupD (dCons (dC (.int 90)) (dCons (dC (.int 91)) (dCons (dC (.int 1)) dNil))))) (.n 8) dYes (dCall C__law_asked (dCons (dC (.int 12)) (dCons (dBL gLstD (dCons (dC (.int 11)) dNil)) (dCons (dV 8) (dCons (dC (.int 0)) dNil))))) [8]) (dBL gLstD (dCons (dC (.str "done")) (dCons (dC (.str "moments")) (dCons (dC (.str "done")) dNil)))))) (dTst (dB2 (bo gNe) (dBL gLstD (dCons (dCall C__law_asked (dCons (dC (.int 7)) (dCons (dBL gLstD (dCons (dC (.int 0)) (dCons (dC (.int 0)) dNil))) (dCons (dC (.int 2)) (dCons (dC (.int 0)) dNil))))) (dCons (dCall C__law_asked (dCons (dC (.int 7)) (dCons (dBL gLstD (dCons (dC (.int 0)) (dCons (dC (.int 0)) dNil))) (dCons (dC (.int 1)) (dCons (dC (.int 0)) dNil))))) dNil))) (dBL gLstD (dCons (dC (.str "none")) (dCons (dC (.str "done")) dNil)))))) (dRet (dC (.bool false))) dSkip)
    (dRet (dBo (dAnd (dTst (dCall C__law_numbers dNil)) (dTst (dCall C__law_stream dNil))))))))))))))))
end GG

namespace GG
open PySem PySem.Spec PyProof.Rows L2
def isT (r : Res Fl) : Bool := match r with
  | .ok (.rt (.bool b)) _ => b
  | _ => false
theorem wp_T {r : Res Fl} (h : isT r = true) : WP r fun fl _ => fl = .rt (.bool true) := by
  unfold isT at h
  split at h
  · exact ⟨_, _, rfl, by rw [h]⟩
  · cases h
theorem law_math : LawOk 8 G_law := law_wp fun ns hns => by
  obtain ⟨v, n1, c1, e1, v0, v1, hn1⟩ := draw0 (ns := ns) (c := 0) (lim := 9) hns (by decide) (by decide)
  simp only [List.replicate]
  unfold G_law
  rw [ev_seq]
  refine wp_seqR ⟨.nx, [.emp, .drw ns 0, .val (.tuple [.list [.int 1]]), .emp, .emp, .emp, .emp, .emp, .emp, .emp], by kernel_rfl, ?_⟩
  show WP (dSeq _ _ _) _
  rw [ev_seq]
  refine wp_seqR ⟨.nx, [.emp, .drw ns 0, .val (.tuple [.list [.int 1]]), .emp, .emp, .emp, .emp, .emp, .emp, .emp], by kernel_rfl, ?_⟩
  show WP (dSeq _ _ _) _
  rw [ev_seq]
  refine wp_seqR ⟨.nx, [.emp, .drw ns 0, .val (iL (List.replicate 13 0)), .emp, .emp, .emp, .emp, .emp, .emp, .emp], by kernel_rfl, ?_⟩
  show WP (dSeq _ _ _) _
  rw [ev_seq]
  refine wp_seqR ⟨.nx, [.emp, .drw n1 c1, .val (iL (List.replicate 13 0)), .val (.list [.int 0, .int 2, .int 3, .int 9, .int (10 + v)]), .emp, .emp, .emp, .emp, .emp, .emp], by simp only [ev_seq, ev_exp, ev_call, ev_cons, ev_nil, ev_c, bind_ok, bind_er, at_ok, at_er, seqR_nx, seqR_rt, seqR_er, ev_asg, ev_bl, ev_b1, ev_b2, ev_ret, ev_ifS, ev_tst, ev_and, ev_or, ev_not, ev_bo, ev_if, ev_yes, ev_chain, ev_skip, ev_raise, ev_nop, ev_p, ev_slD, sliceD_l, sliceD_iL, sliceD_lL, ev_for, optR_some, asB_b, asI_i, asL_l, asL_iL, asL_lL, asT_t, gAdd_i, gSub_i, gNeg_i, gCmp_i, gLen_l, gLen_t, gLen_iL, gLen_lL, gIs_n, gIsNot_n, gIs_b, gIsNot_b, gRev_l, gMax_2, gMin_2, gEq_int, gNe_int, gEq_iL, gNe_iL, gEq_lL, gNe_lL, gIsA_, isA_iL, isA_lL, bo, Option.map_some, List.set_cons_succ, List.set_cons_zero, List.replicate, outOf_nx, outOf_rt, outOf_er, outD_rt, gLst0, gLst1, gLst2, gLst3, gTup2, gTup3, put_n, put_t, setAll_nil, setAll_cons, optE_some, ev_par, ev_asgT, ev_app, ev_ext, ev_rem, ev_own, ev_ownL, ownLS_l, ownLS_iL, isOwn_own, appO_t, appS_own, extS_own, extS_iL, remS_own, ev_ixV, ev_opV, ixO_t, ixD_i, lstS_own, lstS_val, lstS_iL, lstS_lL, Option.isSome_some, Option.bind_some, ev_aug, slotI_i, augO_c, ev_lm, lmO_some, ev_callD1, cdR_d, soR_ok, ev_try, tryR_ok, tryR_er, tryE_ok, ev_isNo, isNoS_v, isNoS_e, ev_callX, callXS_e, List.getElem?_cons_succ, List.getElem?_cons_zero, own_if0, own_if1, isN_none, isN_int, isN_iL, isN_tup, if_true, if_false, Bool.false_eq_true, Bool.not_true, Bool.not_false, gIx_l, gIx_t, decide_true, decide_false, ev_v0, ev_v1, ev_v2, ev_v3, ev_v4, ev_v5, ev_v6, ev_v7, ev_v8, ev_v9, ev_v10, ev_v11, ev_v12, ev_v13, ev_v14, ev_v15, ev_v16, ev_v17, ev_v18, ev_v19, ev_v20, ev_v21, ev_v22, ev_v23, ev_v24, ev_v25, ev_o0, ev_o1, ev_o2, ev_o3, ev_o4, ev_o5, ev_o6, ev_o7, ev_o8, ev_o9, ev_o10, ev_o11, ev_o12, ev_o13, ev_o14, ev_o15, ev_o16, ev_o17, ev_o18, ev_o19, ev_o20, ev_o21, ev_o22, ev_o23, ev_o24, ev_o25, e1]; rfl, ?_⟩
  have hv : v = 0 ∨ v = 1 ∨ v = 2 ∨ v = 3 ∨ v = 4 ∨ v = 5 ∨ v = 6 ∨ v = 7 ∨ v = 8 := by omega
  clear e1 v0 v1
  rcases hv with rfl | rfl | rfl | rfl | rfl | rfl | rfl | rfl | rfl
  · exact wp_T (by kernel_rfl)
  · exact wp_T (by kernel_rfl)
  · exact wp_T (by kernel_rfl)
  · exact wp_T (by kernel_rfl)
  · exact wp_T (by kernel_rfl)
  · exact wp_T (by kernel_rfl)
  · exact wp_T (by kernel_rfl)
  · exact wp_T (by kernel_rfl)
  · exact wp_T (by kernel_rfl)
end GG

namespace GG
open PySem PySem.Spec PyProof.Rows L2
def topS (i : Nat) : Stmt := PySem.Challenge.pw_gapgroups_k18_more_errors.main.body.getD i (.Pass ⟨0, 0, 0, 0⟩)
/-- what the top has written -/
structure Tp (K : PySem.W.Frag) (mg : Str → Option Value) (cc : Cc) : Prop where
  bt : Bt mg
  c_MOST_MOMENTS : ∃ t, mg "MOST_MOMENTS" = some (.int 12 t)
  c_MOST_MOMENT : ∃ t, mg "MOST_MOMENT" = some (.int 999 t)
  c_MOST_NUMBERS : ∃ t, mg "MOST_NUMBERS" = some (.int 8 t)
  x_BadMoments : Xc K mg "BadMoments" (cc.cl .mo)
  x_BadNumber : Xc K mg "BadNumber" (cc.cl .nu)
  x_BadGroups : Xc K mg "BadGroups" (cc.cl .gr)
  x_TooLate : Xc K mg "TooLate" (cc.cl .la)
  x_BadText : Xc K mg "BadText" (cc.cl .te)
  x_NotFound : Xc K mg "NotFound" (cc.cl .no)
  xe : ∃ gE, mg "GapError" = some (.ref gE) ∧ ErrOk K cc gE
  ve : mg "ValueError" = none
  sc : ScOk K cc.sc
  mg_Stream : mg "Stream" = some (.ref cc.sc)
  mk_Stream : ∃ (f : Addr) (fd : FuncData), Fun K "__init__" "Stream.__init__" (inClass (topS 56) 0) f fd ∧ Mk K cc.sc f
  m_limit : Dm K cc.sc "limit" "Stream.limit" (inClass (topS 56) 1)
  m_closed : Dm K cc.sc "closed" "Stream.closed" (inClass (topS 56) 2)
  m_push : Dm K cc.sc "push" "Stream.push" (inClass (topS 56) 3)
  m_finish : Dm K cc.sc "finish" "Stream.finish" (inClass (topS 56) 4)
  m_open_groups : Dm K cc.sc "open_groups" "Stream.open_groups" (inClass (topS 56) 5)
  m___len__ : Dm K cc.sc "__len__" "Stream.__len__" (inClass (topS 56) 6)
  d_is_int : Df K mg "is_int" (topS 10)
  d_is_moments : Df K mg "is_moments" (topS 11)
  d_check_moments : Df K mg "check_moments" (topS 12)
  d_check_gap : Df K mg "check_gap" (topS 13)
  d_check_place : Df K mg "check_place" (topS 14)
  d_is_groups : Df K mg "is_groups" (topS 15)
  d_steps_of : Df K mg "steps_of" (topS 17)
  d_between : Df K mg "between" (topS 18)
  d_check_groups : Df K mg "check_groups" (topS 20)
  d_whole_of : Df K mg "whole_of" (topS 21)
  d_inner_and_outer : Df K mg "inner_and_outer" (topS 22)
  d_gap_range : Df K mg "gap_range" (topS 23)
  d_are_groups : Df K mg "are_groups" (topS 24)
  d_against : Df K mg "against" (topS 25)
  d_moments_of : Df K mg "moments_of" (topS 26)
  d_bounded_range : Df K mg "bounded_range" (topS 27)
  d_grouped : Df K mg "grouped" (topS 29)
  d_gaps_for : Df K mg "gaps_for" (topS 31)
  d_checked : Df K mg "checked" (topS 33)
  d_check_moment : Df K mg "check_moment" (topS 34)
  d_with_moment : Df K mg "with_moment" (topS 35)
  d_without_moment : Df K mg "without_moment" (topS 36)
  d_merged : Df K mg "merged" (topS 37)
  d_moved : Df K mg "moved" (topS 38)
  d_scaled : Df K mg "scaled" (topS 39)
  d_is_numbers : Df K mg "is_numbers" (topS 42)
  d_check_numbers : Df K mg "check_numbers" (topS 43)
  d_falls : Df K mg "falls" (topS 44)
  d_can_be : Df K mg "can_be" (topS 45)
  d_steps_with : Df K mg "steps_with" (topS 46)
  d_moments_with : Df K mg "moments_with" (topS 47)
  d_orders : Df K mg "orders" (topS 48)
  d_count_moments : Df K mg "count_moments" (topS 49)
  d_least_length : Df K mg "least_length" (topS 50)
  d_check_day : Df K mg "check_day" (topS 52)
  d_groups_of_days : Df K mg "groups_of_days" (topS 53)
  d_over_night : Df K mg "over_night" (topS 54)
  d_format_groups : Df K mg "format_groups" (topS 58)
  d__law_start : Df K mg "_law_start" (topS 60)
  d__law_draw : Df K mg "_law_draw" (topS 61)
  d__law_error : Df K mg "_law_error" (topS 62)
  d__law_call : Df K mg "_law_call" (topS 63)
  d__law_asked : Df K mg "_law_asked" (topS 64)
  d__law_stream : Df K mg "_law_stream" (topS 65)
  d__law_numbers : Df K mg "_law_numbers" (topS 66)
  d_law : Df K mg "law" (topS 67)
section
variable {P : Program} {w : World} {K : PySem.W.Frag} {mg : Str → Option Value} {base : Heap} {cc : Cc}
theorem sc_is_int : FnScope ["value", "low", "high"] ["value", "low", "high"] (defScope (topS 10)) := ⟨rfl, rfl, rfl, by decide +kernel, rfl, by decide +kernel, by decide +kernel⟩
theorem fp_is_int (T : Tp K mg cc) : Fp P w K mg base cc "is_int" 1 C_is_int := fp_of (k := 0) 3 0 T.d_is_int sc_is_int rfl rfl (fun _ _ _ _ _ _ us hl => match us, hl with | [_, _, _], _ => rfl) fun f cdv A outer s H E hr => ⟨_,
    (dss_one (ds_ret (DB.toE (db_and (DE.toB (de_isA K .int T.bt.isinstance bb_isinstance T.bt.int bb_int (de_v 0))) (db_and (db_not (DE.toB (de_isA K .bool T.bt.isinstance bb_isinstance T.bt.bool bb_bool (de_v 0)))) (db_one (db_leLe (de_v 1) (de_v 0) (de_v 2))))))))⟩
theorem sc_is_moments : FnScope ["value", "k", "moment"] ["value"] (defScope (topS 11)) := ⟨rfl, rfl, rfl, by decide +kernel, rfl, by decide +kernel, by decide +kernel⟩
theorem fp_is_moments (T : Tp K mg cc) : Fp P w K mg base cc "is_moments" 2 C_is_moments := fp_of (k := 1) 1 2 T.d_is_moments sc_is_moments rfl rfl (fun _ _ _ _ _ _ us hl => match us, hl with | [_], _ => rfl) fun f cdv A outer s H E hr => ⟨_,
    (dss_cons (ds_if (DW.t (dw_or (dt_not (dt_val (DE.toB (de_isA K .list T.bt.isinstance bb_isinstance T.bt.list bb_list (de_v 0))))) (dw_or1 (dt_not (dt_leLe de_int (de_len K T.bt (da_cons (de_v 0) da_nil)) (de_gI T.c_MOST_MOMENTS)))))) (dss_one (ds_ret de_bl)) dss_nil)
    (dss_cons (ds_if (dt_not (dt_val (DE.toB (de_all K T.bt (da_cons (de_lc [("moment", 2)] sc_is_moments.nd (di_list K (de_v 0)) (blkOk_by (N := ["value", "k", "moment"]) (sc := defScope (topS 11)) (by decide +kernel)) (fun _ _ _ _ _ => (dg_n 2 sc_is_moments.nd)) (fun _ _ _ _ _ => dts_nil) (fun _ _ _ _ _ => (de_call (fp_is_int T) hr (by omega) takes0 (da_cons (de_v 2) (da_cons de_int (da_cons (de_gI T.c_MOST_MOMENT) da_nil)))))) da_nil))))) (dss_one (ds_ret de_bl)) dss_nil)
    (dss_one (ds_ret (de_all K T.bt (da_cons (de_lc [("k", 1)] sc_is_moments.nd (di_rng1 T.bt.range (da_cons (de_sub (de_len K T.bt (da_cons (de_v 0) da_nil)) de_int) da_nil)) (blkOk_by (N := ["value", "k", "moment"]) (sc := defScope (topS 11)) (by decide +kernel)) (fun _ _ _ _ _ => (dg_n 1 sc_is_moments.nd)) (fun _ _ _ _ _ => dts_nil) (fun _ _ _ _ _ => (de_le (de_ix K (de_v 0) (de_v 1)) (de_ix K (de_v 0) (de_add (de_v 1) de_int))))) da_nil))))))⟩
theorem sc_check_moments : FnScope ["value"] ["value"] (defScope (topS 12)) := ⟨rfl, rfl, rfl, by decide +kernel, rfl, by decide +kernel, by decide +kernel⟩
theorem fp_check_moments (T : Tp K mg cc) : Fp P w K mg base cc "check_moments" 3 C_check_moments := fp_of (k := 2) 1 0 T.d_check_moments sc_check_moments rfl rfl (fun _ _ _ _ _ _ us hl => match us, hl with | [_], _ => rfl) fun f cdv A outer s H E hr => ⟨_,
    (dss_one (ds_if (dt_not (dt_val (DE.toB (de_call (fp_is_moments T) hr (by omega) tk_of (da_cons (de_v 0) da_nil))))) (dss_one (ds_raise T.x_BadMoments tk_of)) dss_nil))⟩
theorem sc_check_gap : FnScope ["value"] ["value"] (defScope (topS 13)) := ⟨rfl, rfl, rfl, by decide +kernel, rfl, by decide +kernel, by decide +kernel⟩
theorem fp_check_gap (T : Tp K mg cc) : Fp P w K mg base cc "check_gap" 2 C_check_gap := fp_of (k := 1) 1 0 T.d_check_gap sc_check_gap rfl rfl (fun _ _ _ _ _ _ us hl => match us, hl with | [_], _ => rfl) fun f cdv A outer s H E hr => ⟨_,
    (dss_one (ds_if (dt_not (dt_val (DE.toB (de_call (fp_is_int T) hr (by omega) tk_of (da_cons (de_v 0) (da_cons de_int (da_cons (de_gI T.c_MOST_MOMENT) da_nil))))))) (dss_one (ds_raise T.x_BadNumber tk_of)) dss_nil))⟩
theorem sc_check_place : FnScope ["moments", "value"] ["moments", "value"] (defScope (topS 14)) := ⟨rfl, rfl, rfl, by decide +kernel, rfl, by decide +kernel, by decide +kernel⟩
theorem fp_check_place (T : Tp K mg cc) : Fp P w K mg base cc "check_place" 2 C_check_place := fp_of (k := 1) 2 0 T.d_check_place sc_check_place rfl rfl (fun _ _ _ _ _ _ us hl => match us, hl with | [_, _], _ => rfl) fun f cdv A outer s H E hr => ⟨_,
    (dss_one (ds_if (dt_not (dt_val (DE.toB (de_call (fp_is_int T) hr (by omega) tk_of (da_cons (de_v 1) (da_cons de_int (da_cons (de_sub (de_len K T.bt (da_cons (de_v 0) da_nil)) de_int) da_nil))))))) (dss_one (ds_raise T.x_BadNumber tk_of)) dss_nil))⟩
theorem sc_is_groups : FnScope ["value", "whole", "group"] ["value"] (defScope (topS 15)) := ⟨rfl, rfl, rfl, by decide +kernel, rfl, by decide +kernel, by decide +kernel⟩
theorem fp_is_groups (T : Tp K mg cc) : Fp P w K mg base cc "is_groups" 3 C_is_groups := fp_of (k := 2) 1 2 T.d_is_groups sc_is_groups rfl rfl (fun _ _ _ _ _ _ us hl => match us, hl with | [_], _ => rfl) fun f cdv A outer s H E hr => ⟨_,
    (dss_cons (ds_if (DW.t (dw_or (dt_not (dt_val (DE.toB (de_isA K .list T.bt.isinstance bb_isinstance T.bt.list bb_list (de_v 0))))) (dw_or1 (dt_eq K hr (de_v 0) (de_lst da_nil))))) (dss_one (ds_ret de_bl)) dss_nil)
    (dss_cons (ds_if (dt_not (dt_val (DE.toB (de_all K T.bt (da_cons (de_lc [("group", 2)] sc_is_groups.nd (di_list K (de_v 0)) (blkOk_by (N := ["value", "whole", "group"]) (sc := defScope (topS 15)) (by decide +kernel)) (fun _ _ _ _ _ => (dg_n 2 sc_is_groups.nd)) (fun _ _ _ _ _ => dts_nil) (fun _ _ _ _ _ => (DB.toE (db_and (DE.toB (de_isA K .list T.bt.isinstance bb_isinstance T.bt.list bb_list (de_v 2))) (db_one (DE.toB (de_ne K hr (de_v 2) (de_lst da_nil)))))))) da_nil))))) (dss_one (ds_ret de_bl)) dss_nil)
    (dss_cons (ds_set 1 sc_is_groups.nd (de_lst da_nil))
    (dss_cons (ds_for pa_of (di_list K (de_v 0)) (dg_n 2 sc_is_groups.nd) (dss_one (ds_set 1 sc_is_groups.nd (de_add (de_v 1) (de_v 2)))))
    (dss_one (ds_ret (de_call (fp_is_moments T) hr (by omega) tk_of (da_cons (de_v 1) da_nil))))))))⟩
theorem sc_steps_of : FnScope ["moments", "k"] ["moments"] (defScope (topS 17)) := ⟨rfl, rfl, rfl, by decide +kernel, rfl, by decide +kernel, by decide +kernel⟩
theorem fp_steps_of (T : Tp K mg cc) : Fp P w K mg base cc "steps_of" 1 C_steps_of := fp_of (k := 0) 1 1 T.d_steps_of sc_steps_of rfl rfl (fun _ _ _ _ _ _ us hl => match us, hl with | [_], _ => rfl) fun f cdv A outer s H E hr => ⟨_,
    (dss_one (ds_ret (de_lc [("k", 1)] sc_steps_of.nd (di_rng1 T.bt.range (da_cons (de_sub (de_len K T.bt (da_cons (de_v 0) da_nil)) de_int) da_nil)) (blkOk_by (N := ["moments", "k"]) (sc := defScope (topS 17)) (by decide +kernel)) (fun _ _ _ _ _ => (dg_n 1 sc_steps_of.nd)) (fun _ _ _ _ _ => dts_nil) (fun _ _ _ _ _ => (de_sub (de_ix K (de_v 0) (de_add (de_v 1) de_int)) (de_ix K (de_v 0) (de_v 1)))))))⟩
theorem sc_between : FnScope ["moments", "one", "other", "first", "last"] ["moments", "one", "other"] (defScope (topS 18)) := ⟨rfl, rfl, rfl, by decide +kernel, rfl, by decide +kernel, by decide +kernel⟩
theorem fp_between (T : Tp K mg cc) : Fp P w K mg base cc "between" 4 C_between := fp_of (k := 3) 3 2 T.d_between sc_between rfl rfl (fun _ _ _ _ _ _ us hl => match us, hl with | [_, _, _], _ => rfl) fun f cdv A outer s H E hr => ⟨_,
    (dss_cons (ds_expr (de_call (fp_check_moments T) hr (by omega) tk_of (da_cons (de_v 0) da_nil)))
    (dss_cons (ds_expr (de_call (fp_check_place T) hr (by omega) tk_of (da_cons (de_v 0) (da_cons (de_v 1) da_nil))))
    (dss_cons (ds_expr (de_call (fp_check_place T) hr (by omega) tk_of (da_cons (de_v 0) (da_cons (de_v 2) da_nil))))
    (dss_cons (ds_par (i := 3) (j := 4) sc_between.nd (by decide) (da_cons (de_min K T.bt (da_cons (de_v 1) (da_cons (de_v 2) da_nil))) (da_cons (de_max K T.bt (da_cons (de_v 1) (da_cons (de_v 2) da_nil))) da_nil)))
    (dss_one (ds_ret (de_max K T.bt (da_cons (de_add (de_lst (da_cons de_int da_nil)) (de_slice K (de_call (fp_steps_of T) hr (by omega) tk_of (da_cons (de_v 0) da_nil)) (do_some (de_v 3)) (do_some (de_v 4)))) da_nil))))))))⟩
theorem sc_check_groups : FnScope ["value"] ["value"] (defScope (topS 20)) := ⟨rfl, rfl, rfl, by decide +kernel, rfl, by decide +kernel, by decide +kernel⟩
theorem fp_check_groups (T : Tp K mg cc) : Fp P w K mg base cc "check_groups" 4 C_check_groups := fp_of (k := 3) 1 0 T.d_check_groups sc_check_groups rfl rfl (fun _ _ _ _ _ _ us hl => match us, hl with | [_], _ => rfl) fun f cdv A outer s H E hr => ⟨_,
    (dss_one (ds_if (dt_not (dt_val (DE.toB (de_call (fp_is_groups T) hr (by omega) tk_of (da_cons (de_v 0) da_nil))))) (dss_one (ds_raise T.x_BadGroups tk_of)) dss_nil))⟩
theorem sc_whole_of : FnScope ["groups", "found", "group"] ["groups"] (defScope (topS 21)) := ⟨rfl, rfl, rfl, by decide +kernel, rfl, by decide +kernel, by decide +kernel⟩
theorem fp_whole_of (T : Tp K mg cc) : Fp P w K mg base cc "whole_of" 1 C_whole_of := fp_of (k := 0) 1 2 T.d_whole_of sc_whole_of rfl rfl (fun _ _ _ _ _ _ us hl => match us, hl with | [_], _ => rfl) fun f cdv A outer s H E hr => ⟨_,
    (dss_cons (ds_own 1 sc_whole_of.nd da_nil)
    (dss_cons (ds_for pa_of (di_list K (de_v 0)) (dg_n 2 sc_whole_of.nd) (dss_one (ds_ext 1 sc_whole_of.nd (de_v 2))))
    (dss_one (ds_ret (de_v 1)))))⟩
theorem sc_inner_and_outer : FnScope ["groups", "inner", "outer", "k", "group"] ["groups"] (defScope (topS 22)) := ⟨rfl, rfl, rfl, by decide +kernel, rfl, by decide +kernel, by decide +kernel⟩
theorem fp_inner_and_outer (T : Tp K mg cc) : Fp P w K mg base cc "inner_and_outer" 2 C_inner_and_outer := fp_of (k := 1) 1 4 T.d_inner_and_outer sc_inner_and_outer rfl rfl (fun _ _ _ _ _ _ us hl => match us, hl with | [_], _ => rfl) fun f cdv A outer s H E hr => ⟨_,
    (dss_cons (ds_set 1 sc_inner_and_outer.nd (de_max K T.bt (da_cons (de_add (de_lst (da_cons de_int da_nil)) (de_lc [("group", 4)] sc_inner_and_outer.nd (di_list K (de_v 0)) (blkOk_by (N := ["groups", "inner", "outer", "k", "group"]) (sc := defScope (topS 22)) (by decide +kernel)) (fun _ _ _ _ _ => (dg_n 4 sc_inner_and_outer.nd)) (fun _ _ _ _ _ => dts_nil) (fun _ _ _ _ _ => (de_max K T.bt (da_cons (de_add (de_lst (da_cons de_int da_nil)) (de_call (fp_steps_of T) hr (by omega) takes0 (da_cons (de_v 4) da_nil))) da_nil))))) da_nil)))
    (dss_cons (ds_setLc 2 [("k", 3)] sc_inner_and_outer.nd (di_rng1 T.bt.range (da_cons (de_sub (de_len K T.bt (da_cons (de_v 0) da_nil)) de_int) da_nil)) (blkOk_by (N := ["groups", "inner", "outer", "k", "group"]) (sc := defScope (topS 22)) (by decide +kernel)) (fun _ _ _ _ _ => (dg_n 3 sc_inner_and_outer.nd)) (fun _ _ _ _ _ => dts_nil) (fun _ _ _ _ _ => (de_sub (de_ix K (de_ix K (de_v 0) (de_add (de_v 3) de_int)) de_int) (de_ix K (de_ix K (de_v 0) (de_v 3)) (de_neg de_int)))) (sw_true rfl rfl rfl (by decide +kernel)))
    (dss_one (ds_ret (de_tup (da_cons (de_v 1) (da_cons (de_if (dt_ne K hr (de_v 2) (de_lst da_nil)) (de_min K T.bt (da_cons (de_v 2) da_nil)) de_non) da_nil)))))))⟩
theorem sc_gap_range : FnScope ["groups", "inner", "outer", "high"] ["groups"] (defScope (topS 23)) := ⟨rfl, rfl, rfl, by decide +kernel, rfl, by decide +kernel, by decide +kernel⟩
theorem fp_gap_range (T : Tp K mg cc) : Fp P w K mg base cc "gap_range" 5 C_gap_range := fp_of (k := 4) 1 3 T.d_gap_range sc_gap_range rfl rfl (fun _ _ _ _ _ _ us hl => match us, hl with | [_], _ => rfl) fun f cdv A outer s H E hr => ⟨_,
    (dss_cons (ds_expr (de_call (fp_check_groups T) hr (by omega) tk_of (da_cons (de_v 0) da_nil)))
    (dss_cons (ds_asg (de_call (fp_inner_and_outer T) hr (by omega) tk_of (da_cons (de_v 0) da_nil)) (dg_t K (dgs_cons 1 sc_gap_range.nd (dgs_cons 2 sc_gap_range.nd dgs_nil))))
    (dss_cons (ds_set 3 sc_gap_range.nd (de_if (dt_is (de_v 2) de_non) de_int (de_sub (de_v 2) de_int)))
    (dss_cons (ds_if (dt_gt (de_v 1) (de_v 3)) (dss_one (ds_raise T.x_NotFound tk_of)) dss_nil)
    (dss_one (ds_ret (de_tup (da_cons (de_v 1) (da_cons (de_v 3) da_nil)))))))))⟩
theorem sc_are_groups : FnScope ["groups", "inner", "outer"] ["groups"] (defScope (topS 24)) := ⟨rfl, rfl, rfl, by decide +kernel, rfl, by decide +kernel, by decide +kernel⟩
theorem fp_are_groups (T : Tp K mg cc) : Fp P w K mg base cc "are_groups" 5 C_are_groups := fp_of (k := 4) 1 2 T.d_are_groups sc_are_groups rfl rfl (fun _ _ _ _ _ _ us hl => match us, hl with | [_], _ => rfl) fun f cdv A outer s H E hr => ⟨_,
    (dss_cons (ds_expr (de_call (fp_check_groups T) hr (by omega) tk_of (da_cons (de_v 0) da_nil)))
    (dss_cons (ds_asg (de_call (fp_inner_and_outer T) hr (by omega) tk_of (da_cons (de_v 0) da_nil)) (dg_t K (dgs_cons 1 sc_are_groups.nd (dgs_cons 2 sc_are_groups.nd dgs_nil))))
    (dss_one (ds_ret (DB.toE (db_or (DE.toB (de_is (de_v 2) de_non)) (db_one (DE.toB (de_lt (de_v 1) (de_v 2))))))))))⟩
theorem sc_against : FnScope ["groups", "moments", "found", "inner", "outer", "cuts", "group", "within", "between", "k"] ["groups"] (defScope (topS 25)) := ⟨rfl, rfl, rfl, by decide +kernel, rfl, by decide +kernel, by decide +kernel⟩
theorem fp_against (T : Tp K mg cc) : Fp P w K mg base cc "against" 5 C_against := fp_of (k := 4) 1 9 T.d_against sc_against rfl rfl (fun _ _ _ _ _ _ us hl => match us, hl with | [_], _ => rfl) fun f cdv A outer s H E hr => ⟨_,
    (dss_cons (ds_expr (de_call (fp_check_groups T) hr (by omega) tk_of (da_cons (de_v 0) da_nil)))
    (dss_cons (ds_set 1 sc_against.nd (de_call (fp_whole_of T) hr (by omega) tk_of (da_cons (de_v 0) da_nil)))
    (dss_cons (ds_set 2 sc_against.nd (de_call (fp_steps_of T) hr (by omega) tk_of (da_cons (de_v 1) da_nil)))
    (dss_cons (ds_asg (de_call (fp_inner_and_outer T) hr (by omega) tk_of (da_cons (de_v 0) da_nil)) (dg_t K (dgs_cons 3 sc_against.nd (dgs_cons 4 sc_against.nd dgs_nil))))
    (dss_cons (ds_if (DW.t (dw_or (dt_is (de_v 4) de_non) (dw_or1 (dt_lt (de_v 3) (de_v 4))))) (dss_one (ds_ret de_non)) dss_nil)
    (dss_cons (ds_own 5 sc_against.nd da_nil)
    (dss_cons (ds_for pa_of (di_list K (de_slice K (de_v 0) do_none (do_some (de_neg de_int)))) (dg_n 6 sc_against.nd) (dss_one (ds_app 5 (de_add (de_if (dt_neV K 5 hr (de_lst da_nil)) (de_ixV K 5 (de_neg de_int)) (de_neg de_int)) (de_len K T.bt (da_cons (de_v 6) da_nil))))))
    (dss_cons (ds_setLc 7 [("k", 9)] sc_against.nd (di_rng1 T.bt.range (da_cons (de_len K T.bt (da_cons (de_v 2) da_nil)) da_nil)) (blkOk_by (N := ["groups", "moments", "found", "inner", "outer", "cuts", "group", "within", "between", "k"]) (sc := defScope (topS 25)) (by decide +kernel)) (fun _ _ _ _ _ => (dg_n 9 sc_against.nd)) (fun _ _ _ _ _ => (dts_one (DW.t (dw_and (dt_notIn K hr (de_v 9) (de_v 5)) (dw_and1 (dt_eq K hr (de_ix K (de_v 2) (de_v 9)) (de_v 3))))))) (fun _ _ _ _ _ => (de_v 9)) (sw_true rfl rfl rfl (by decide +kernel)))
    (dss_cons (ds_setLc 8 [("k", 9)] sc_against.nd (di_list K (de_v 5)) (blkOk_by (N := ["groups", "moments", "found", "inner", "outer", "cuts", "group", "within", "between", "k"]) (sc := defScope (topS 25)) (by decide +kernel)) (fun _ _ _ _ _ => (dg_n 9 sc_against.nd)) (fun _ _ _ _ _ => (dts_one (dt_eq K hr (de_ix K (de_v 2) (de_v 9)) (de_v 4)))) (fun _ _ _ _ _ => (de_v 9)) (sw_true rfl rfl rfl (by decide +kernel)))
    (dss_one (ds_ret (de_tup (da_cons (de_if (dt_ne K hr (de_v 7) (de_lst da_nil)) (de_ix K (de_v 7) de_int) de_non) (da_cons (de_ix K (de_v 8) de_int) da_nil))))))))))))))⟩
theorem sc_moments_of : FnScope ["groups"] ["groups"] (defScope (topS 26)) := ⟨rfl, rfl, rfl, by decide +kernel, rfl, by decide +kernel, by decide +kernel⟩
theorem fp_moments_of (T : Tp K mg cc) : Fp P w K mg base cc "moments_of" 5 C_moments_of := fp_of (k := 4) 1 0 T.d_moments_of sc_moments_of rfl rfl (fun _ _ _ _ _ _ us hl => match us, hl with | [_], _ => rfl) fun f cdv A outer s H E hr => ⟨_,
    (dss_cons (ds_expr (de_call (fp_check_groups T) hr (by omega) tk_of (da_cons (de_v 0) da_nil)))
    (dss_one (ds_ret (de_call (fp_whole_of T) hr (by omega) tk_of (da_cons (de_v 0) da_nil)))))⟩
theorem sc_bounded_range : FnScope ["groups", "lengths", "reach", "low", "high", "group", "k", "one"] ["groups"] (defScope (topS 27)) := ⟨rfl, rfl, rfl, by decide +kernel, rfl, by decide +kernel, by decide +kernel⟩
theorem fp_bounded_range (T : Tp K mg cc) : Fp P w K mg base cc "bounded_range" 5 C_bounded_range := fp_of (k := 4) 1 7 T.d_bounded_range sc_bounded_range rfl rfl (fun _ _ _ _ _ _ us hl => match us, hl with | [_], _ => rfl) fun f cdv A outer s H E hr => ⟨_,
    (dss_cons (ds_expr (de_call (fp_check_groups T) hr (by omega) tk_of (da_cons (de_v 0) da_nil)))
    (dss_cons (ds_setLc 1 [("group", 5)] sc_bounded_range.nd (di_list K (de_v 0)) (blkOk_by (N := ["groups", "lengths", "reach", "low", "high", "group", "k", "one"]) (sc := defScope (topS 27)) (by decide +kernel)) (fun _ _ _ _ _ => (dg_n 5 sc_bounded_range.nd)) (fun _ _ _ _ _ => dts_nil) (fun _ _ _ _ _ => (de_sub (de_ix K (de_v 5) (de_neg de_int)) (de_ix K (de_v 5) de_int))) (sw_true rfl rfl rfl (by decide +kernel)))
    (dss_cons (ds_setLc 2 [("k", 6)] sc_bounded_range.nd (di_rng1 T.bt.range (da_cons (de_sub (de_len K T.bt (da_cons (de_v 0) da_nil)) de_int) da_nil)) (blkOk_by (N := ["groups", "lengths", "reach", "low", "high", "group", "k", "one"]) (sc := defScope (topS 27)) (by decide +kernel)) (fun _ _ _ _ _ => (dg_n 6 sc_bounded_range.nd)) (fun _ _ _ _ _ => dts_nil) (fun _ _ _ _ _ => (de_sub (de_ix K (de_ix K (de_v 0) (de_add (de_v 6) de_int)) de_int) (de_ix K (de_ix K (de_v 0) (de_v 6)) de_int))) (sw_true rfl rfl rfl (by decide +kernel)))
    (dss_cons (ds_par (i := 3) (j := 4) sc_bounded_range.nd (by decide) (da_cons (de_max K T.bt (da_cons (de_v 1) da_nil)) (da_cons (de_min K T.bt (da_cons (de_add (de_lst (da_cons de_int da_nil)) (de_lc [("one", 7)] sc_bounded_range.nd (di_list K (de_v 2)) (blkOk_by (N := ["groups", "lengths", "reach", "low", "high", "group", "k", "one"]) (sc := defScope (topS 27)) (by decide +kernel)) (fun _ _ _ _ _ => (dg_n 7 sc_bounded_range.nd)) (fun _ _ _ _ _ => dts_nil) (fun _ _ _ _ _ => (de_sub (de_v 7) de_int)))) da_nil)) da_nil)))
    (dss_cons (ds_if (dt_gt (de_v 3) (de_v 4)) (dss_one (ds_raise T.x_NotFound tk_of)) dss_nil)
    (dss_one (ds_ret (de_tup (da_cons (de_v 3) (da_cons (de_v 4) da_nil))))))))))⟩
theorem sc_grouped : FnScope ["moments", "gap", "found", "k"] ["moments", "gap"] (defScope (topS 29)) := ⟨rfl, rfl, rfl, by decide +kernel, rfl, by decide +kernel, by decide +kernel⟩
theorem fp_grouped (T : Tp K mg cc) : Fp P w K mg base cc "grouped" 1 C_grouped := by
  obtain ⟨f, fd, F, hg⟩ := T.d_grouped
  refine ⟨f, fd, ["moments", "gap"], F.okX sc_grouped (fun vs H Q E h => len_grouped h) (fun cdv A outer s H vs Q E hr h => ⟨t_grp K 2 3 (t_gapT K 3), ?_, pure_grouped vs H Q E h⟩), hg, F.kp, F.binds fun _ _ _ _ _ _ us hl => match us, hl with | [_, _], _ => rfl⟩
  exact pss_cons (ps_set (i := 2) sc_grouped.nd rfl (.inl rfl) (pe_lst (pa_cons (pe_lst (pa_cons (pe_ix ix_lt (pv 0) pe_int (fun _ _ => rfl)) pa_nil)) pa_nil)))
    (pss_cons (ps_for pa_of rfl (pi_range2 rfl T.bt.range (pa_cons pe_int (pa_cons (pe_callB cr_len' rfl T.bt.len bb_len (pa_cons (pv 0) pa_nil)) pa_nil))) (pg_name (i := 3) sc_grouped.nd rfl (.inl rfl))
      (pss_cons (ps_if (pt_cmpR op_gt (pe_op op_sub (pe_ix ix_lt (pv 0) (pv 3) (fun _ _ => rfl)) (pe_ix ix_lt (pv 0) (pe_op op_sub (pv 3) pe_int) (fun _ _ => rfl))) (pv 1) (nomark _))
          (pss_one (ps_expr (pe_bm PySem.F.plainAttrs_list PySem.F.slot_list_append PySem.F.type_list_append mt_append (pv 2) (pa_cons (pe_lst pa_nil) pa_nil)))) pss_nil)
        (pss_one (ps_expr (pe_bm PySem.F.plainAttrs_list PySem.F.slot_list_append PySem.F.type_list_append mt_append (pe_ix ix_lt (pv 2) (pe_un un_neg pe_int) (fun _ _ => rfl)) (pa_cons (pe_ix ix_lt (pv 0) (pv 3) (fun _ _ => rfl)) pa_nil))))))
    (pss_one (ps_ret (pv 2))))
theorem sc_gaps_for : FnScope ["moments", "many", "ordered", "high", "low"] ["moments", "many"] (defScope (topS 31)) := ⟨rfl, rfl, rfl, by decide +kernel, rfl, by decide +kernel, by decide +kernel⟩
theorem fp_gaps_for (T : Tp K mg cc) : Fp P w K mg base cc "gaps_for" 4 C_gaps_for := fp_of (k := 3) 2 3 T.d_gaps_for sc_gaps_for rfl rfl (fun _ _ _ _ _ _ us hl => match us, hl with | [_, _], _ => rfl) fun f cdv A outer s H E hr => ⟨_,
    (dss_cons (ds_expr (de_call (fp_check_moments T) hr (by omega) tk_of (da_cons (de_v 0) da_nil)))
    (dss_cons (ds_if (dt_not (dt_val (DE.toB (de_call (fp_is_int T) hr (by omega) tk_of (da_cons (de_v 1) (da_cons de_int (da_cons (de_len K T.bt (da_cons (de_v 0) da_nil)) da_nil))))))) (dss_one (ds_raise T.x_BadNumber tk_of)) dss_nil)
    (dss_cons (ds_set 2 sc_gaps_for.nd (de_rev K (de_sorted K T.bt (da_cons (de_call (fp_steps_of T) hr (by omega) tk_of (da_cons (de_v 0) da_nil)) da_nil))))
    (dss_cons (ds_set 3 sc_gaps_for.nd (de_if (dt_gt (de_v 1) de_int) (de_sub (de_ix K (de_v 2) (de_sub (de_v 1) de_int)) de_int) de_int))
    (dss_cons (ds_set 4 sc_gaps_for.nd (de_if (dt_lt (de_sub (de_v 1) de_int) (de_len K T.bt (da_cons (de_v 2) da_nil))) (de_ix K (de_v 2) (de_sub (de_v 1) de_int)) de_int))
    (dss_cons (ds_if (dt_gt (de_v 4) (de_v 3)) (dss_one (ds_raise T.x_NotFound tk_of)) dss_nil)
    (dss_one (ds_ret (de_tup (da_cons (de_v 4) (da_cons (de_v 3) da_nil)))))))))))⟩
theorem sc_checked : FnScope ["moments"] ["moments"] (defScope (topS 33)) := ⟨rfl, rfl, rfl, by decide +kernel, rfl, by decide +kernel, by decide +kernel⟩
theorem fp_checked (T : Tp K mg cc) : Fp P w K mg base cc "checked" 3 C_checked := fp_of (k := 2) 1 0 T.d_checked sc_checked rfl rfl (fun _ _ _ _ _ _ us hl => match us, hl with | [_], _ => rfl) fun f cdv A outer s H E hr => ⟨_,
    (dss_cons (ds_if (dt_not (dt_val (DE.toB (de_call (fp_is_moments T) hr (by omega) tk_of (da_cons (de_v 0) da_nil))))) (dss_one (ds_raise T.x_BadMoments tk_of)) dss_nil)
    (dss_one (ds_ret (de_v 0))))⟩
theorem sc_check_moment : FnScope ["value"] ["value"] (defScope (topS 34)) := ⟨rfl, rfl, rfl, by decide +kernel, rfl, by decide +kernel, by decide +kernel⟩
theorem fp_check_moment (T : Tp K mg cc) : Fp P w K mg base cc "check_moment" 2 C_check_moment := fp_of (k := 1) 1 0 T.d_check_moment sc_check_moment rfl rfl (fun _ _ _ _ _ _ us hl => match us, hl with | [_], _ => rfl) fun f cdv A outer s H E hr => ⟨_,
    (dss_one (ds_if (dt_not (dt_val (DE.toB (de_call (fp_is_int T) hr (by omega) tk_of (da_cons (de_v 0) (da_cons de_int (da_cons de_int da_nil))))))) (dss_one (ds_raise T.x_BadNumber tk_of)) dss_nil))⟩
theorem sc_with_moment : FnScope ["moments", "moment"] ["moments", "moment"] (defScope (topS 35)) := ⟨rfl, rfl, rfl, by decide +kernel, rfl, by decide +kernel, by decide +kernel⟩
theorem fp_with_moment (T : Tp K mg cc) : Fp P w K mg base cc "with_moment" 4 C_with_moment := fp_of (k := 3) 2 0 T.d_with_moment sc_with_moment rfl rfl (fun _ _ _ _ _ _ us hl => match us, hl with | [_, _], _ => rfl) fun f cdv A outer s H E hr => ⟨_,
    (dss_cons (ds_expr (de_call (fp_check_moments T) hr (by omega) tk_of (da_cons (de_v 0) da_nil)))
    (dss_cons (ds_expr (de_call (fp_check_moment T) hr (by omega) tk_of (da_cons (de_v 1) da_nil)))
    (dss_one (ds_ret (de_call (fp_checked T) hr (by omega) tk_of (da_cons (de_sorted K T.bt (da_cons (de_add (de_v 0) (de_lst (da_cons (de_v 1) da_nil))) da_nil)) da_nil))))))⟩
theorem sc_without_moment : FnScope ["moments", "moment", "found"] ["moments", "moment"] (defScope (topS 36)) := ⟨rfl, rfl, rfl, by decide +kernel, rfl, by decide +kernel, by decide +kernel⟩
theorem fp_without_moment (T : Tp K mg cc) : Fp P w K mg base cc "without_moment" 4 C_without_moment := fp_of (k := 3) 2 1 T.d_without_moment sc_without_moment rfl rfl (fun _ _ _ _ _ _ us hl => match us, hl with | [_, _], _ => rfl) fun f cdv A outer s H E hr => ⟨_,
    (dss_cons (ds_expr (de_call (fp_check_moments T) hr (by omega) tk_of (da_cons (de_v 0) da_nil)))
    (dss_cons (ds_expr (de_call (fp_check_moment T) hr (by omega) tk_of (da_cons (de_v 1) da_nil)))
    (dss_cons (ds_if (DW.t (dw_or (dt_notIn K hr (de_v 1) (de_v 0)) (dw_or1 (dt_eq K hr (de_len K T.bt (da_cons (de_v 0) da_nil)) de_int)))) (dss_one (ds_raise T.x_NotFound tk_of)) dss_nil)
    (dss_cons (ds_ownL 2 sc_without_moment.nd T.bt.list bb_list (de_v 0))
    (dss_cons (ds_rem 2 (de_v 1))
    (dss_one (ds_ret (de_v 2))))))))⟩
theorem sc_merged : FnScope ["one", "other"] ["one", "other"] (defScope (topS 37)) := ⟨rfl, rfl, rfl, by decide +kernel, rfl, by decide +kernel, by decide +kernel⟩
theorem fp_merged (T : Tp K mg cc) : Fp P w K mg base cc "merged" 4 C_merged := fp_of (k := 3) 2 0 T.d_merged sc_merged rfl rfl (fun _ _ _ _ _ _ us hl => match us, hl with | [_, _], _ => rfl) fun f cdv A outer s H E hr => ⟨_,
    (dss_cons (ds_expr (de_call (fp_check_moments T) hr (by omega) tk_of (da_cons (de_v 0) da_nil)))
    (dss_cons (ds_expr (de_call (fp_check_moments T) hr (by omega) tk_of (da_cons (de_v 1) da_nil)))
    (dss_one (ds_ret (de_call (fp_checked T) hr (by omega) tk_of (da_cons (de_sorted K T.bt (da_cons (de_add (de_v 0) (de_v 1)) da_nil)) da_nil))))))⟩
theorem sc_moved : FnScope ["moments", "by", "moment"] ["moments", "by"] (defScope (topS 38)) := ⟨rfl, rfl, rfl, by decide +kernel, rfl, by decide +kernel, by decide +kernel⟩
theorem fp_moved (T : Tp K mg cc) : Fp P w K mg base cc "moved" 4 C_moved := fp_of (k := 3) 2 1 T.d_moved sc_moved rfl rfl (fun _ _ _ _ _ _ us hl => match us, hl with | [_, _], _ => rfl) fun f cdv A outer s H E hr => ⟨_,
    (dss_cons (ds_expr (de_call (fp_check_moments T) hr (by omega) tk_of (da_cons (de_v 0) da_nil)))
    (dss_cons (ds_if (dt_not (dt_val (DE.toB (de_call (fp_is_int T) hr (by omega) tk_of (da_cons (de_v 1) (da_cons (de_neg de_int) (da_cons de_int da_nil))))))) (dss_one (ds_raise T.x_BadNumber tk_of)) dss_nil)
    (dss_one (ds_ret (de_call (fp_checked T) hr (by omega) tk_of (da_cons (de_lc [("moment", 2)] sc_moved.nd (di_list K (de_v 0)) (blkOk_by (N := ["moments", "by", "moment"]) (sc := defScope (topS 38)) (by decide +kernel)) (fun _ _ _ _ _ => (dg_n 2 sc_moved.nd)) (fun _ _ _ _ _ => dts_nil) (fun _ _ _ _ _ => (de_add (de_v 2) (de_v 1)))) da_nil))))))⟩
theorem sc_scaled : FnScope ["moments", "by", "moment"] ["moments", "by"] (defScope (topS 39)) := ⟨rfl, rfl, rfl, by decide +kernel, rfl, by decide +kernel, by decide +kernel⟩
theorem fp_scaled (T : Tp K mg cc) : Fp P w K mg base cc "scaled" 4 C_scaled := fp_of (k := 3) 2 1 T.d_scaled sc_scaled rfl rfl (fun _ _ _ _ _ _ us hl => match us, hl with | [_, _], _ => rfl) fun f cdv A outer s H E hr => ⟨_,
    (dss_cons (ds_expr (de_call (fp_check_moments T) hr (by omega) tk_of (da_cons (de_v 0) da_nil)))
    (dss_cons (ds_if (dt_not (dt_val (DE.toB (de_call (fp_is_int T) hr (by omega) tk_of (da_cons (de_v 1) (da_cons de_int (da_cons de_int da_nil))))))) (dss_one (ds_raise T.x_BadNumber tk_of)) dss_nil)
    (dss_one (ds_ret (de_call (fp_checked T) hr (by omega) tk_of (da_cons (de_lc [("moment", 2)] sc_scaled.nd (di_list K (de_v 0)) (blkOk_by (N := ["moments", "by", "moment"]) (sc := defScope (topS 39)) (by decide +kernel)) (fun _ _ _ _ _ => (dg_n 2 sc_scaled.nd)) (fun _ _ _ _ _ => dts_nil) (fun _ _ _ _ _ => (de_mul (de_v 2) (de_v 1)))) da_nil))))))⟩
theorem sc_is_numbers : FnScope ["value", "number"] ["value"] (defScope (topS 42)) := ⟨rfl, rfl, rfl, by decide +kernel, rfl, by decide +kernel, by decide +kernel⟩
theorem fp_is_numbers (T : Tp K mg cc) : Fp P w K mg base cc "is_numbers" 2 C_is_numbers := fp_of (k := 1) 1 1 T.d_is_numbers sc_is_numbers rfl rfl (fun _ _ _ _ _ _ us hl => match us, hl with | [_], _ => rfl) fun f cdv A outer s H E hr => ⟨_,
    (dss_cons (ds_if (DW.t (dw_or (dt_not (dt_val (DE.toB (de_isA K .tuple T.bt.isinstance bb_isinstance T.bt.tuple bb_tuple (de_v 0))))) (dw_or1 (dt_not (dt_leLe de_int (de_len K T.bt (da_cons (de_v 0) da_nil)) (de_gI T.c_MOST_NUMBERS)))))) (dss_one (ds_ret de_bl)) dss_nil)
    (dss_one (ds_ret (de_all K T.bt (da_cons (de_lc [("number", 1)] sc_is_numbers.nd (di_tup K (de_v 0)) (blkOk_by (N := ["value", "number"]) (sc := defScope (topS 42)) (by decide +kernel)) (fun _ _ _ _ _ => (dg_n 1 sc_is_numbers.nd)) (fun _ _ _ _ _ => dts_nil) (fun _ _ _ _ _ => (de_call (fp_is_int T) hr (by omega) takes0 (da_cons (de_v 1) (da_cons de_int (da_cons de_int da_nil)))))) da_nil)))))⟩
theorem sc_check_numbers : FnScope ["value"] ["value"] (defScope (topS 43)) := ⟨rfl, rfl, rfl, by decide +kernel, rfl, by decide +kernel, by decide +kernel⟩
theorem fp_check_numbers (T : Tp K mg cc) : Fp P w K mg base cc "check_numbers" 3 C_check_numbers := fp_of (k := 2) 1 0 T.d_check_numbers sc_check_numbers rfl rfl (fun _ _ _ _ _ _ us hl => match us, hl with | [_], _ => rfl) fun f cdv A outer s H E hr => ⟨_,
    (dss_one (ds_if (dt_not (dt_val (DE.toB (de_call (fp_is_numbers T) hr (by omega) tk_of (da_cons (de_v 0) da_nil))))) (dss_one (ds_raise T.x_BadNumber tk_of)) dss_nil))⟩
theorem sc_falls : FnScope ["numbers", "k"] ["numbers"] (defScope (topS 44)) := ⟨rfl, rfl, rfl, by decide +kernel, rfl, by decide +kernel, by decide +kernel⟩
theorem fp_falls (T : Tp K mg cc) : Fp P w K mg base cc "falls" 1 C_falls := fp_of (k := 0) 1 1 T.d_falls sc_falls rfl rfl (fun _ _ _ _ _ _ us hl => match us, hl with | [_], _ => rfl) fun f cdv A outer s H E hr => ⟨_,
    (dss_one (ds_ret (de_all K T.bt (da_cons (de_lc [("k", 1)] sc_falls.nd (di_rng1 T.bt.range (da_cons (de_sub (de_len K T.bt (da_cons (de_v 0) da_nil)) de_int) da_nil)) (blkOk_by (N := ["numbers", "k"]) (sc := defScope (topS 44)) (by decide +kernel)) (fun _ _ _ _ _ => (dg_n 1 sc_falls.nd)) (fun _ _ _ _ _ => dts_nil) (fun _ _ _ _ _ => (de_ge (de_ix K (de_v 0) (de_v 1)) (de_ix K (de_v 0) (de_add (de_v 1) de_int))))) da_nil))))⟩
theorem sc_can_be : FnScope ["numbers"] ["numbers"] (defScope (topS 45)) := ⟨rfl, rfl, rfl, by decide +kernel, rfl, by decide +kernel, by decide +kernel⟩
theorem fp_can_be (T : Tp K mg cc) : Fp P w K mg base cc "can_be" 4 C_can_be := fp_of (k := 3) 1 0 T.d_can_be sc_can_be rfl rfl (fun _ _ _ _ _ _ us hl => match us, hl with | [_], _ => rfl) fun f cdv A outer s H E hr => ⟨_,
    (dss_cons (ds_expr (de_call (fp_check_numbers T) hr (by omega) tk_of (da_cons (de_v 0) da_nil)))
    (dss_one (ds_ret (de_call (fp_falls T) hr (by omega) tk_of (da_cons (de_v 0) da_nil)))))⟩
theorem sc_steps_with : FnScope ["numbers", "found", "gap"] ["numbers"] (defScope (topS 46)) := ⟨rfl, rfl, rfl, by decide +kernel, rfl, by decide +kernel, by decide +kernel⟩
theorem fp_steps_with (T : Tp K mg cc) : Fp P w K mg base cc "steps_with" 1 C_steps_with := fp_of (k := 0) 1 2 T.d_steps_with sc_steps_with rfl rfl (fun _ _ _ _ _ _ us hl => match us, hl with | [_], _ => rfl) fun f cdv A outer s H E hr => ⟨_,
    (dss_cons (ds_own 1 sc_steps_with.nd da_nil)
    (dss_cons (ds_for pa_of (di_rng2 T.bt.range (da_cons de_int (da_cons (de_len K T.bt (da_cons (de_v 0) da_nil)) da_nil))) (dg_n 2 sc_steps_with.nd) (dss_one (ds_ext 1 sc_steps_with.nd (de_mul (de_lst (da_cons (de_v 2) da_nil)) (de_sub (de_ix K (de_v 0) (de_sub (de_v 2) de_int)) (de_ix K (de_v 0) (de_v 2)))))))
    (dss_one (ds_ret (de_add (de_v 1) (de_mul (de_lst (da_cons (de_len K T.bt (da_cons (de_v 0) da_nil)) da_nil)) (de_sub (de_ix K (de_v 0) (de_neg de_int)) de_int)))))))⟩
theorem sc_moments_with : FnScope ["numbers", "found", "step"] ["numbers"] (defScope (topS 47)) := ⟨rfl, rfl, rfl, by decide +kernel, rfl, by decide +kernel, by decide +kernel⟩
theorem fp_moments_with (T : Tp K mg cc) : Fp P w K mg base cc "moments_with" 4 C_moments_with := fp_of (k := 3) 1 2 T.d_moments_with sc_moments_with rfl rfl (fun _ _ _ _ _ _ us hl => match us, hl with | [_], _ => rfl) fun f cdv A outer s H E hr => ⟨_,
    (dss_cons (ds_expr (de_call (fp_check_numbers T) hr (by omega) tk_of (da_cons (de_v 0) da_nil)))
    (dss_cons (ds_if (dt_not (dt_val (DE.toB (de_call (fp_falls T) hr (by omega) tk_of (da_cons (de_v 0) da_nil))))) (dss_one (ds_raise T.x_NotFound tk_of)) dss_nil)
    (dss_cons (ds_own 1 sc_moments_with.nd (da_cons de_int da_nil))
    (dss_cons (ds_for pa_of (di_list K (de_call (fp_steps_with T) hr (by omega) tk_of (da_cons (de_v 0) da_nil))) (dg_n 2 sc_moments_with.nd) (dss_one (ds_app 1 (de_add (de_ixV K 1 (de_neg de_int)) (de_v 2)))))
    (dss_one (ds_ret (de_v 1)))))))⟩
theorem sc_orders : FnScope ["values", "found", "k", "one"] ["values"] (defScope (topS 48)) := ⟨rfl, rfl, rfl, by decide +kernel, rfl, by decide +kernel, by decide +kernel⟩
theorem fp_orders (T : Tp K mg cc) : Fp P w K mg base cc "orders" 1 C_orders := fp_of (k := 0) 1 3 T.d_orders sc_orders rfl rfl (fun _ _ _ _ _ _ us hl => match us, hl with | [_], _ => rfl) fun f cdv A outer s H E hr => ⟨_,
    (dss_cons (ds_set 1 sc_orders.nd de_int)
    (dss_cons (ds_for pa_of (di_rng1 T.bt.range (da_cons (de_len K T.bt (da_cons (de_v 0) da_nil)) da_nil)) (dg_n 2 sc_orders.nd) (dss_one (ds_set 1 sc_orders.nd (de_div (de_mul (de_v 1) (de_add (de_v 2) de_int)) (de_len K T.bt (da_cons (de_lc [("one", 3)] sc_orders.nd (di_list K (de_slice K (de_v 0) do_none (do_some (de_add (de_v 2) de_int)))) (blkOk_by (N := ["values", "found", "k", "one"]) (sc := defScope (topS 48)) (by decide +kernel)) (fun _ _ _ _ _ => (dg_n 3 sc_orders.nd)) (fun _ _ _ _ _ => (dts_one (dt_eq K hr (de_v 3) (de_ix K (de_v 0) (de_v 2))))) (fun _ _ _ _ _ => (de_v 3))) da_nil))))))
    (dss_one (ds_ret (de_v 1)))))⟩
theorem sc_count_moments : FnScope ["numbers"] ["numbers"] (defScope (topS 49)) := ⟨rfl, rfl, rfl, by decide +kernel, rfl, by decide +kernel, by decide +kernel⟩
theorem fp_count_moments (T : Tp K mg cc) : Fp P w K mg base cc "count_moments" 4 C_count_moments := fp_of (k := 3) 1 0 T.d_count_moments sc_count_moments rfl rfl (fun _ _ _ _ _ _ us hl => match us, hl with | [_], _ => rfl) fun f cdv A outer s H E hr => ⟨_,
    (dss_cons (ds_expr (de_call (fp_check_numbers T) hr (by omega) tk_of (da_cons (de_v 0) da_nil)))
    (dss_one (ds_ret (de_if (dt_val (DE.toB (de_call (fp_falls T) hr (by omega) tk_of (da_cons (de_v 0) da_nil)))) (de_call (fp_orders T) hr (by omega) tk_of (da_cons (de_call (fp_steps_with T) hr (by omega) tk_of (da_cons (de_v 0) da_nil)) da_nil)) de_int))))⟩
theorem sc_least_length : FnScope ["numbers"] ["numbers"] (defScope (topS 50)) := ⟨rfl, rfl, rfl, by decide +kernel, rfl, by decide +kernel, by decide +kernel⟩
theorem fp_least_length (T : Tp K mg cc) : Fp P w K mg base cc "least_length" 4 C_least_length := fp_of (k := 3) 1 0 T.d_least_length sc_least_length rfl rfl (fun _ _ _ _ _ _ us hl => match us, hl with | [_], _ => rfl) fun f cdv A outer s H E hr => ⟨_,
    (dss_cons (ds_expr (de_call (fp_check_numbers T) hr (by omega) tk_of (da_cons (de_v 0) da_nil)))
    (dss_cons (ds_if (dt_not (dt_val (DE.toB (de_call (fp_falls T) hr (by omega) tk_of (da_cons (de_v 0) da_nil))))) (dss_one (ds_raise T.x_NotFound tk_of)) dss_nil)
    (dss_one (ds_ret (de_sum K T.bt (da_cons (de_call (fp_steps_with T) hr (by omega) tk_of (da_cons (de_v 0) da_nil)) da_nil))))))⟩
theorem sc_check_day : FnScope ["moments", "day"] ["moments", "day"] (defScope (topS 52)) := ⟨rfl, rfl, rfl, by decide +kernel, rfl, by decide +kernel, by decide +kernel⟩
theorem fp_check_day (T : Tp K mg cc) : Fp P w K mg base cc "check_day" 2 C_check_day := fp_of (k := 1) 2 0 T.d_check_day sc_check_day rfl rfl (fun _ _ _ _ _ _ us hl => match us, hl with | [_, _], _ => rfl) fun f cdv A outer s H E hr => ⟨_,
    (dss_one (ds_if (dt_not (dt_val (DE.toB (de_call (fp_is_int T) hr (by omega) tk_of (da_cons (de_v 1) (da_cons (de_sub (de_ix K (de_v 0) (de_neg de_int)) (de_ix K (de_v 0) de_int)) (da_cons de_int da_nil))))))) (dss_one (ds_raise T.x_BadNumber tk_of)) dss_nil))⟩
theorem sc_over_night : FnScope ["moments", "gap", "day"] ["moments", "gap", "day"] (defScope (topS 54)) := ⟨rfl, rfl, rfl, by decide +kernel, rfl, by decide +kernel, by decide +kernel⟩
theorem fp_over_night (T : Tp K mg cc) : Fp P w K mg base cc "over_night" 1 C_over_night := fp_of (k := 0) 3 0 T.d_over_night sc_over_night rfl rfl (fun _ _ _ _ _ _ us hl => match us, hl with | [_, _, _], _ => rfl) fun f cdv A outer s H E hr => ⟨_,
    (dss_one (ds_ret (de_le (de_sub (de_add (de_ix K (de_v 0) de_int) (de_v 2)) (de_ix K (de_v 0) (de_neg de_int))) (de_v 1))))⟩
theorem sc_groups_of_days : FnScope ["moments", "gap", "day", "days", "found"] ["moments", "gap", "day", "days"] (defScope (topS 53)) := ⟨rfl, rfl, rfl, by decide +kernel, rfl, by decide +kernel, by decide +kernel⟩
theorem fp_groups_of_days (T : Tp K mg cc) : Fp P w K mg base cc "groups_of_days" 4 C_groups_of_days := fp_of (k := 3) 4 1 T.d_groups_of_days sc_groups_of_days rfl rfl (fun _ _ _ _ _ _ us hl => match us, hl with | [_, _, _, _], _ => rfl) fun f cdv A outer s H E hr => ⟨_,
    (dss_cons (ds_expr (de_call (fp_check_moments T) hr (by omega) tk_of (da_cons (de_v 0) da_nil)))
    (dss_cons (ds_expr (de_call (fp_check_gap T) hr (by omega) tk_of (da_cons (de_v 1) da_nil)))
    (dss_cons (ds_expr (de_call (fp_check_day T) hr (by omega) tk_of (da_cons (de_v 0) (da_cons (de_v 2) da_nil))))
    (dss_cons (ds_if (dt_not (dt_val (DE.toB (de_call (fp_is_int T) hr (by omega) tk_of (da_cons (de_v 3) (da_cons de_int (da_cons de_int da_nil))))))) (dss_one (ds_raise T.x_BadNumber tk_of)) dss_nil)
    (dss_cons (ds_set 4 sc_groups_of_days.nd (de_len K T.bt (da_cons (de_call (fp_grouped T) hr (by omega) tk_of (da_cons (de_v 0) (da_cons (de_v 1) da_nil))) da_nil)))
    (dss_one (ds_ret (de_sub (de_mul (de_v 4) (de_v 3)) (de_if (dt_val (DE.toB (de_call (fp_over_night T) hr (by omega) tk_of (da_cons (de_v 0) (da_cons (de_v 1) (da_cons (de_v 2) da_nil)))))) (de_sub (de_v 3) de_int) de_int)))))))))⟩
theorem sc_format_groups : FnScope ["groups", "group", "moment"] ["groups"] (defScope (topS 58)) := ⟨rfl, rfl, rfl, by decide +kernel, rfl, by decide +kernel, by decide +kernel⟩
theorem fp_format_groups (T : Tp K mg cc) : Fp P w K mg base cc "format_groups" 5 C_format_groups := fp_of (k := 4) 1 2 T.d_format_groups sc_format_groups rfl rfl (fun _ _ _ _ _ _ us hl => match us, hl with | [_], _ => rfl) fun f cdv A outer s H E hr => ⟨_,
    (dss_cons (ds_expr (de_call (fp_check_groups T) hr (by omega) tk_of (da_cons (de_v 0) da_nil)))
    (dss_one (ds_ret (de_join K (de_lc [("group", 1)] sc_format_groups.nd (di_list K (de_v 0)) (blkOk_by (N := ["groups", "group", "moment"]) (sc := defScope (topS 58)) (by decide +kernel)) (fun _ _ _ _ _ => (dg_n 1 sc_format_groups.nd)) (fun _ _ _ _ _ => dts_nil) (fun _ _ _ _ _ => (de_join K (de_lc [("moment", 2)] sc_format_groups.nd (di_list K (de_v 1)) (blkOk_by (by rfl)) (fun _ _ _ _ _ => (dg_n 2 sc_format_groups.nd)) (fun _ _ _ _ _ => dts_nil) (fun _ _ _ _ _ => (de_str' T.bt (da_cons (de_v 2) da_nil)))))))))))⟩
theorem sc__law_start : FnScope ["script"] ["script"] (defScope (topS 60)) := ⟨rfl, rfl, rfl, by decide +kernel, rfl, by decide +kernel, by decide +kernel⟩
def Fs (P : Program) (w : World) (K : PySem.W.Frag) (mg : Str → Option Value) (base : Heap) : Prop :=
  ∃ (f : Addr) (fd : FuncData) (ps : List Str), FnOk P w K mg base (L2.CX P w) 1 f fd ps (spStart K) ∧ mg "_law_start" = some (.ref f) ∧ PySem.W.keepIn K (.ref f) = true ∧ Binds K fd ps []
theorem fs__law_start (T : Tp K mg cc) : Fs P w K mg base := by
  obtain ⟨f, fd, F, hg⟩ := T.d__law_start
  refine ⟨f, fd, ["script"], F.okX sc__law_start (fun vs H Q E h => ?_) (fun cdv A outer s H vs Q E hr h => ⟨t_start K, ?_, pure_start vs H Q E h⟩), hg, F.kp, F.binds fun _ _ _ _ _ _ us hl => match us, hl with | [_], _ => rfl⟩
  · obtain ⟨a, ns, rfl, _⟩ := h
    rfl
  · exact pss_one (ps_ret (pe_lst (pa_cons (pe_ifExp (pt_cmpR (op_neD hr.units) (pv 0) (pe_lst pa_nil) (nomark _)) (pe_callTy call_list_of rfl T.bt.list bb_list (pa_cons (pv 0) pa_nil)) (pe_lst (pa_cons pe_int pa_nil))) (pa_cons pe_int pa_nil))))
theorem sc__law_draw : FnScope ["draws", "limit", "numbers", "at", "cell", "mixed"] ["draws", "limit"] (defScope (topS 61)) := ⟨rfl, rfl, rfl, by decide +kernel, rfl, by decide +kernel, by decide +kernel⟩
theorem fd__law_draw (T : Tp K mg cc) : Fd P w K mg base "_law_draw" 1 C__law_draw := by
  obtain ⟨f, fd, F, hg⟩ := T.d__law_draw
  refine ⟨f, fd, ["draws", "limit"], F.okX sc__law_draw (fun vs H Q E h => len_draw h) (fun cdv A outer s H vs Q E hr h => ⟨t_draw K, ?_, pure_draw vs H Q E h⟩), hg, F.kp, F.binds fun _ _ _ _ _ _ us hl => match us, hl with | [_, _], _ => rfl⟩
  exact pss_cons (ps_set (i := 2) sc__law_draw.nd rfl (.inl rfl) (pe_ix ix_lt (pv 0) pe_int (fun _ _ => rfl)))
    (pss_cons (ps_asg (pe_op or_plus (pe_ix ix_lt (pv 0) pe_int (fun _ _ => rfl)) pe_int) (pg_sub (pv 0) pe_int set_list))
    (pss_cons (ps_set (i := 3) sc__law_draw.nd rfl (.inl rfl) (pe_op op_mod (pe_ix ix_lt (pv 0) pe_int (fun _ _ => rfl)) (pe_callB cr_len' rfl T.bt.len bb_len (pa_cons (pv 2) pa_nil))))
    (pss_cons (ps_set (i := 4) sc__law_draw.nd rfl (.inl rfl) (pe_ix ix_lt (pv 2) (pv 3) (fun _ _ => rfl)))
    (pss_cons (ps_if (pt_cmpR op_ge (pv 4) pe_int (nomark _)) (pss_cons (ps_asg (pe_op op_fdiv (pv 4) (pv 1)) (pg_sub (pv 2) (pv 3) set_list)) (pss_one (ps_ret (pe_op op_mod (pv 4) (pv 1))))) pss_nil)
    (pss_cons (ps_set (i := 5) sc__law_draw.nd rfl (.inl rfl) (pe_op op_mod (pe_op or_plus (pv 4) (pe_op or_times pe_int (pe_ix ix_lt (pv 0) pe_int (fun _ _ => rfl)))) pe_int))
    (pss_cons (ps_set (i := 5) sc__law_draw.nd rfl (.inl rfl) (pe_op op_mod (pe_op op_pow (pv 5) pe_int) pe_int))
    (pss_one (ps_ret (pe_op op_mod (pe_op op_fdiv (pe_op op_mod (pe_op or_plus (pe_op or_times (pe_op op_fdiv (pv 5) pe_int) pe_int) (pv 5)) pe_int) pe_int) (pv 1))))))))))
theorem sc__law_error : FnScope ["caught", "kinds"] ["caught"] (defScope (topS 62)) := ⟨rfl, rfl, rfl, by decide +kernel, rfl, by decide +kernel, by decide +kernel⟩
theorem fx__law_error (T : Tp K mg cc) : Fx P w K mg base cc "_law_error" 1 C__law_error := by
  obtain ⟨gE, hgE, TE⟩ := T.xe
  exact fx_of (k := 0) 1 T.d__law_error sc__law_error rfl rfl (fun _ _ _ _ _ _ us hl => match us, hl with | [_], _ => rfl) fun f cdv A outer s H E hr => ⟨_,
    (dss_cons (ds_set 1 sc__law_error.nd (de_lst (da_cons (de_isE K 0 (c := .ref (cc.cl .mo)) (cv := .ref (cc.cl .mo)) (fun k => decide (k = .mo)) T.bt TE (pe_glob rfl T.x_BadMoments.g rfl) (fun _ h => h) (fun k => TE.own k .mo)) (da_cons (de_isE K 0 (c := .ref (cc.cl .nu)) (cv := .ref (cc.cl .nu)) (fun k => decide (k = .nu)) T.bt TE (pe_glob rfl T.x_BadNumber.g rfl) (fun _ h => h) (fun k => TE.own k .nu)) (da_cons (de_isE K 0 (c := .ref (cc.cl .gr)) (cv := .ref (cc.cl .gr)) (fun k => decide (k = .gr)) T.bt TE (pe_glob rfl T.x_BadGroups.g rfl) (fun _ h => h) (fun k => TE.own k .gr)) da_nil)))))
    (dss_cons (ds_set 1 sc__law_error.nd (de_add (de_v 1) (de_lst (da_cons (de_isE K 0 (c := .ref (cc.cl .la)) (cv := .ref (cc.cl .la)) (fun k => decide (k = .la)) T.bt TE (pe_glob rfl T.x_TooLate.g rfl) (fun _ h => h) (fun k => TE.own k .la)) (da_cons (de_isE K 0 (c := .ref (cc.cl .te)) (cv := .ref (cc.cl .te)) (fun k => decide (k = .te)) T.bt TE (pe_glob rfl T.x_BadText.g rfl) (fun _ h => h) (fun k => TE.own k .te)) (da_cons (de_isE K 0 (c := .ref (cc.cl .no)) (cv := .ref (cc.cl .no)) (fun k => decide (k = .no)) T.bt TE (pe_glob rfl T.x_NotFound.g rfl) (fun _ h => h) (fun k => TE.own k .no)) da_nil))))))
    (dss_cons (ds_if (DW.t (dw_or (dt_ne K hr (de_countB K (de_v 1) de_bl) de_int) (dw_or (dt_not (dt_val (DE.toB (de_isE K 0 (c := .ref gE) (cv := .ref gE) (fun _ => true) T.bt TE (pe_glob rfl hgE rfl) (fun _ h => h) (fun k => TE.gap k))))) (dw_or1 (dt_not (dt_val (DE.toB (de_isE K 0 (c := .ty "ValueError") (cv := .type "ValueError") (fun _ => true) T.bt TE (pe_bltn rfl T.ve bb_ValueError rfl) (fun _ h => h) (fun k => TE.val k))))))))) (dss_one (ds_ret de_str)) dss_nil)
    (dss_one (ds_ret (de_ix K (de_lst (da_cons de_str (da_cons de_str (da_cons de_str (da_cons de_str (da_cons de_str (da_cons de_str da_nil))))))) (de_indexB K (de_v 1) de_bl)))))))⟩
theorem sc_Stream___init__ : FnScope ["self", "gap", "lateness"] ["self", "gap", "lateness"] (defScope (inClass (topS 56) 0)) := ⟨rfl, rfl, rfl, by decide +kernel, rfl, by decide +kernel, by decide +kernel⟩
theorem fi_Stream (T : Tp K mg cc) : Fi P w K mg base cc 3 (ini C_check_gap) := by
  obtain ⟨f, fd, F, M⟩ := T.mk_Stream
  obtain ⟨g, gd, gps, G, hm, hk, hb⟩ := fp_check_gap (P := P) (w := w) (base := base) T
  refine ⟨f, fd, ["self", "gap", "lateness"], F.okX (k := 2) sc_Stream___init__ (fun vs H Q E h => len_init h) (fun cdv A outer s H vs Q E hr h => ⟨t_init K cc C_check_gap E, ?_, pure_init T.sc rfl h⟩), M, F.binds fun _ _ _ _ _ _ us hl => match us, hl with | [_, _, _], _ => rfl, T.mg_Stream⟩
  exact pss_cons (ps_expr (pe_callS G (hr.mono (by omega)) rfl hm hk hb (fun σ => passAt tk_of σ) (pa_cons (pv 1) pa_nil)))
    (pss_cons (ps_expr (pe_callS G (hr.mono (by omega)) rfl hm hk hb (fun σ => passAt tk_of σ) (pa_cons (pv 2) pa_nil)))
    (pss_cons (ps_fld (pv 0) (pv 1) rfl) (pss_cons (ps_fld (pv 0) (pv 2) rfl) (pss_cons (ps_fld (pv 0) (pe_lst pa_nil) rfl) (pss_one (ps_fld (pv 0) pe_int rfl))))))
theorem sc_Stream_limit : FnScope ["self"] ["self"] (defScope (inClass (topS 56) 1)) := ⟨rfl, rfl, rfl, by decide +kernel, rfl, by decide +kernel, by decide +kernel⟩
theorem fm_limit (T : Tp K mg cc) : Fst P w K mg base cc "limit" 1 C_Stream_limit := fst_of (cc := cc) (k := 0) 0 0 T.m_limit sc_Stream_limit rfl rfl (fun _ _ _ _ _ _ us hl => match us, hl with | [_], _ => rfl) fun f cdv A outer s H E hr => ⟨_,
    (dss_one (ds_ret (de_if (dt_ne K hr (de_fld K 0 .line T.sc) (de_lst da_nil)) (de_max K T.bt (da_cons de_int (da_cons (de_sub (de_ix K (de_fld K 0 .line T.sc) (de_neg de_int)) (de_fld K 0 .late T.sc)) da_nil))) de_int)))⟩
theorem sc_Stream_closed : FnScope ["self", "group"] ["self"] (defScope (inClass (topS 56) 2)) := ⟨rfl, rfl, rfl, by decide +kernel, rfl, by decide +kernel, by decide +kernel⟩
theorem fm_closed (T : Tp K mg cc) : Fst P w K mg base cc "closed" 2 C_Stream_closed := fst_of (cc := cc) (k := 1) 0 1 T.m_closed sc_Stream_closed rfl rfl (fun _ _ _ _ _ _ us hl => match us, hl with | [_], _ => rfl) fun f cdv A outer s H E hr => ⟨_,
    (dss_cons (ds_if (dt_eq K hr (de_fld K 0 .line T.sc) (de_lst da_nil)) (dss_one (ds_ret (de_lst da_nil))) dss_nil)
    (dss_one (ds_ret (de_lc [("group", 1)] sc_Stream_closed.nd (di_list K (de_call (fp_grouped T) hr (by omega) tk_of (da_cons (de_fld K 0 .line T.sc) (da_cons (de_fld K 0 .gap T.sc) da_nil)))) (blkOk_by (N := ["self", "group"]) (sc := defScope (inClass (topS 56) 2)) (by decide +kernel)) (fun _ _ _ _ _ => (dg_n 1 sc_Stream_closed.nd)) (fun _ _ _ _ _ => (dts_one (dt_lt (de_add (de_ix K (de_v 1) (de_neg de_int)) (de_fld K 0 .gap T.sc)) (de_meth0 0 T.sc.cl (fm_limit T) hr (by omega) takes0)))) (fun _ _ _ _ _ => (de_v 1))))))⟩
theorem sc_Stream_push : FnScope ["self", "moment", "found"] ["self", "moment"] (defScope (inClass (topS 56) 3)) := ⟨rfl, rfl, rfl, by decide +kernel, rfl, by decide +kernel, by decide +kernel⟩
theorem fm_push (T : Tp K mg cc) : Fst P w K mg base cc "push" 3 C_Stream_push := fst_of (cc := cc) (k := 2) 1 1 T.m_push sc_Stream_push rfl rfl (fun _ _ _ _ _ _ us hl => match us, hl with | [_, _], _ => rfl) fun f cdv A outer s H E hr => ⟨_,
    (dss_cons (ds_if (dt_not (dt_val (DE.toB (de_call (fp_is_int T) hr (by omega) tk_of (da_cons (de_v 1) (da_cons de_int (da_cons (de_gI T.c_MOST_MOMENT) da_nil))))))) (dss_one (ds_raise T.x_BadNumber tk_of)) dss_nil)
    (dss_cons (ds_if (dt_lt (de_v 1) (de_meth0 0 T.sc.cl (fm_limit T) hr (by omega) tk_of)) (dss_one (ds_raise T.x_TooLate tk_of)) dss_nil)
    (dss_cons (ds_setLine K 0 T.sc (de_sorted K T.bt (da_cons (de_add (de_fld K 0 .line T.sc) (de_lst (da_cons (de_v 1) da_nil))) da_nil)))
    (dss_cons (ds_set 2 sc_Stream_push.nd (de_slice K (de_meth0 0 T.sc.cl (fm_closed T) hr (by omega) tk_of) (do_some (de_fld K 0 .told T.sc)) do_none))
    (dss_cons (ds_augTold K 0 T.sc (de_len K T.bt (da_cons (de_v 2) da_nil)))
    (dss_one (ds_ret (de_v 2))))))))⟩
theorem sc__law_call : FnScope ["kind", "one", "two", "three"] ["kind", "one", "two", "three"] (defScope (topS 63)) := ⟨rfl, rfl, rfl, by decide +kernel, rfl, by decide +kernel, by decide +kernel⟩
theorem fp__law_call (T : Tp K mg cc) : Fp P w K mg base cc "_law_call" 6 C__law_call := fp_of (k := 5) 4 0 T.d__law_call sc__law_call rfl rfl (fun _ _ _ _ _ _ us hl => match us, hl with | [_, _, _, _], _ => rfl) fun f cdv A outer s H E hr => ⟨_,
    (dss_cons (ds_if (dt_eq K hr (de_v 0) de_int) (dss_one (ds_ret (de_call (fp_gap_range T) hr (by omega) tk_of (da_cons (de_v 1) da_nil)))) dss_nil)
    (dss_cons (ds_if (dt_eq K hr (de_v 0) de_int) (dss_one (ds_ret (de_call (fp_are_groups T) hr (by omega) tk_of (da_cons (de_v 1) da_nil)))) dss_nil)
    (dss_cons (ds_if (dt_eq K hr (de_v 0) de_int) (dss_one (ds_ret (de_call (fp_against T) hr (by omega) tk_of (da_cons (de_v 1) da_nil)))) dss_nil)
    (dss_cons (ds_if (dt_eq K hr (de_v 0) de_int) (dss_one (ds_ret (de_call (fp_moments_of T) hr (by omega) tk_of (da_cons (de_v 1) da_nil)))) dss_nil)
    (dss_cons (ds_if (dt_eq K hr (de_v 0) de_int) (dss_one (ds_ret (de_call (fp_bounded_range T) hr (by omega) tk_of (da_cons (de_v 1) da_nil)))) dss_nil)
    (dss_cons (ds_if (dt_eq K hr (de_v 0) de_int) (dss_one (ds_ret (de_call (fp_format_groups T) hr (by omega) tk_of (da_cons (de_v 1) da_nil)))) dss_nil)
    (dss_cons (ds_if (dt_eq K hr (de_v 0) de_int) (dss_one (ds_ret (de_call (fp_between T) hr (by omega) tk_of (da_cons (de_v 1) (da_cons (de_v 2) (da_cons (de_v 3) da_nil)))))) dss_nil)
    (dss_cons (ds_if (dt_eq K hr (de_v 0) de_int) (dss_one (ds_ret (de_call (fp_gaps_for T) hr (by omega) tk_of (da_cons (de_v 1) (da_cons (de_v 2) da_nil))))) dss_nil)
    (dss_cons (ds_if (dt_eq K hr (de_v 0) de_int) (dss_one (ds_ret (de_call (fp_with_moment T) hr (by omega) tk_of (da_cons (de_v 1) (da_cons (de_v 2) da_nil))))) dss_nil)
    (dss_cons (ds_if (dt_eq K hr (de_v 0) de_int) (dss_one (ds_ret (de_call (fp_without_moment T) hr (by omega) tk_of (da_cons (de_v 1) (da_cons (de_v 2) da_nil))))) dss_nil)
    (dss_cons (ds_if (dt_eq K hr (de_v 0) de_int) (dss_one (ds_ret (de_call (fp_merged T) hr (by omega) tk_of (da_cons (de_v 1) (da_cons (de_v 2) da_nil))))) dss_nil)
    (dss_cons (ds_if (dt_eq K hr (de_v 0) de_int) (dss_one (ds_ret (de_call (fp_moved T) hr (by omega) tk_of (da_cons (de_v 1) (da_cons (de_v 2) da_nil))))) dss_nil)
    (dss_cons (ds_if (dt_eq K hr (de_v 0) de_int) (dss_one (ds_ret (de_call (fp_scaled T) hr (by omega) tk_of (da_cons (de_v 1) (da_cons (de_v 2) da_nil))))) dss_nil)
    (dss_cons (ds_if (dt_eq K hr (de_v 0) de_int) (dss_one (ds_ret (de_call (fp_can_be T) hr (by omega) tk_of (da_cons (de_v 1) da_nil)))) dss_nil)
    (dss_cons (ds_if (dt_eq K hr (de_v 0) de_int) (dss_one (ds_ret (de_call (fp_least_length T) hr (by omega) tk_of (da_cons (de_v 1) da_nil)))) dss_nil)
    (dss_cons (ds_if (dt_eq K hr (de_v 0) de_int) (dss_one (ds_ret (de_call (fp_moments_with T) hr (by omega) tk_of (da_cons (de_v 1) da_nil)))) dss_nil)
    (dss_cons (ds_if (dt_eq K hr (de_v 0) de_int) (dss_one (ds_ret (de_call (fp_count_moments T) hr (by omega) tk_of (da_cons (de_v 1) da_nil)))) dss_nil)
    (dss_cons (ds_if (dt_eq K hr (de_v 0) de_int) (dss_one (ds_ret de_stk)) dss_nil)
    (dss_one (ds_ret (de_if (dt_eq K hr (de_v 0) de_int) (de_meth 1 T.sc.cl (fm_push T) hr (by omega) tk_of (da_cons (de_v 2) da_nil)) (de_call (fp_groups_of_days T) hr (by omega) tk_of (da_cons (de_lst (da_cons de_int (da_cons de_int da_nil))) (da_cons de_int (da_cons de_int (da_cons (de_v 1) da_nil))))))))))))))))))))))))))⟩
theorem fsd__law_call (T : Tp K mg cc) : Fsd P w K mg base cc 1 "_law_call" 6 CS__law_call := fsd_of (k := 5) 1 3 0 T.d__law_call sc__law_call rfl rfl (fun _ _ _ _ _ _ us hl => match us, hl with | [_, _, _, _], _ => rfl) fun f cdv A outer s H E hr => ⟨_,
    (dss_cons (ds_if (dt_eq K hr (de_v 0) de_int) (dss_one (ds_ret (de_call (fp_gap_range T) hr (by omega) tk_of (da_cons (de_v 1) da_nil)))) dss_nil)
    (dss_cons (ds_if (dt_eq K hr (de_v 0) de_int) (dss_one (ds_ret (de_call (fp_are_groups T) hr (by omega) tk_of (da_cons (de_v 1) da_nil)))) dss_nil)
    (dss_cons (ds_if (dt_eq K hr (de_v 0) de_int) (dss_one (ds_ret (de_call (fp_against T) hr (by omega) tk_of (da_cons (de_v 1) da_nil)))) dss_nil)
    (dss_cons (ds_if (dt_eq K hr (de_v 0) de_int) (dss_one (ds_ret (de_call (fp_moments_of T) hr (by omega) tk_of (da_cons (de_v 1) da_nil)))) dss_nil)
    (dss_cons (ds_if (dt_eq K hr (de_v 0) de_int) (dss_one (ds_ret (de_call (fp_bounded_range T) hr (by omega) tk_of (da_cons (de_v 1) da_nil)))) dss_nil)
    (dss_cons (ds_if (dt_eq K hr (de_v 0) de_int) (dss_one (ds_ret (de_call (fp_format_groups T) hr (by omega) tk_of (da_cons (de_v 1) da_nil)))) dss_nil)
    (dss_cons (ds_if (dt_eq K hr (de_v 0) de_int) (dss_one (ds_ret (de_call (fp_between T) hr (by omega) tk_of (da_cons (de_v 1) (da_cons (de_v 2) (da_cons (de_v 3) da_nil)))))) dss_nil)
    (dss_cons (ds_if (dt_eq K hr (de_v 0) de_int) (dss_one (ds_ret (de_call (fp_gaps_for T) hr (by omega) tk_of (da_cons (de_v 1) (da_cons (de_v 2) da_nil))))) dss_nil)
    (dss_cons (ds_if (dt_eq K hr (de_v 0) de_int) (dss_one (ds_ret (de_call (fp_with_moment T) hr (by omega) tk_of (da_cons (de_v 1) (da_cons (de_v 2) da_nil))))) dss_nil)
    (dss_cons (ds_if (dt_eq K hr (de_v 0) de_int) (dss_one (ds_ret (de_call (fp_without_moment T) hr (by omega) tk_of (da_cons (de_v 1) (da_cons (de_v 2) da_nil))))) dss_nil)
    (dss_cons (ds_if (dt_eq K hr (de_v 0) de_int) (dss_one (ds_ret (de_call (fp_merged T) hr (by omega) tk_of (da_cons (de_v 1) (da_cons (de_v 2) da_nil))))) dss_nil)
    (dss_cons (ds_if (dt_eq K hr (de_v 0) de_int) (dss_one (ds_ret (de_call (fp_moved T) hr (by omega) tk_of (da_cons (de_v 1) (da_cons (de_v 2) da_nil))))) dss_nil)
    (dss_cons (ds_if (dt_eq K hr (de_v 0) de_int) (dss_one (ds_ret (de_call (fp_scaled T) hr (by omega) tk_of (da_cons (de_v 1) (da_cons (de_v 2) da_nil))))) dss_nil)
    (dss_cons (ds_if (dt_eq K hr (de_v 0) de_int) (dss_one (ds_ret (de_call (fp_can_be T) hr (by omega) tk_of (da_cons (de_v 1) da_nil)))) dss_nil)
    (dss_cons (ds_if (dt_eq K hr (de_v 0) de_int) (dss_one (ds_ret (de_call (fp_least_length T) hr (by omega) tk_of (da_cons (de_v 1) da_nil)))) dss_nil)
    (dss_cons (ds_if (dt_eq K hr (de_v 0) de_int) (dss_one (ds_ret (de_call (fp_moments_with T) hr (by omega) tk_of (da_cons (de_v 1) da_nil)))) dss_nil)
    (dss_cons (ds_if (dt_eq K hr (de_v 0) de_int) (dss_one (ds_ret (de_call (fp_count_moments T) hr (by omega) tk_of (da_cons (de_v 1) da_nil)))) dss_nil)
    (dss_cons (ds_if (dt_eq K hr (de_v 0) de_int) (dss_one (ds_ret de_stk)) dss_nil)
    (dss_one (ds_ret (de_if (dt_eq K hr (de_v 0) de_int) (de_meth 1 T.sc.cl (fm_push T) hr (by omega) tk_of (da_cons (de_v 2) da_nil)) (de_call (fp_groups_of_days T) hr (by omega) tk_of (da_cons (de_lst (da_cons de_int (da_cons de_int da_nil))) (da_cons de_int (da_cons de_int (da_cons (de_v 1) da_nil))))))))))))))))))))))))))⟩
theorem sc__law_call17 : FnScope ["kind", "one", "two", "three"] ["kind", "one", "two", "three"] (defScope (topS 63)) := ⟨rfl, rfl, rfl, by decide +kernel, rfl, by decide +kernel, by decide +kernel⟩
theorem fu__law_call17 (T : Tp K mg cc) : Fu P w K mg base cc "_law_call" 6 C__law_call17 := fu_of (k := 5) 4 0 T.d__law_call sc__law_call17 rfl rfl (fun _ _ _ _ _ _ us hl => match us, hl with | [_, _, _, _], _ => rfl) fun f cdv A outer s H E hr => ⟨_,
    (dus_cons (du_of (ds_if (dt_eq K hr (de_v 0) de_int) (dss_one (ds_ret (de_call (fp_gap_range T) hr (by omega) tk_of (da_cons (de_v 1) da_nil)))) dss_nil))
    (dus_cons (du_of (ds_if (dt_eq K hr (de_v 0) de_int) (dss_one (ds_ret (de_call (fp_are_groups T) hr (by omega) tk_of (da_cons (de_v 1) da_nil)))) dss_nil))
    (dus_cons (du_of (ds_if (dt_eq K hr (de_v 0) de_int) (dss_one (ds_ret (de_call (fp_against T) hr (by omega) tk_of (da_cons (de_v 1) da_nil)))) dss_nil))
    (dus_cons (du_of (ds_if (dt_eq K hr (de_v 0) de_int) (dss_one (ds_ret (de_call (fp_moments_of T) hr (by omega) tk_of (da_cons (de_v 1) da_nil)))) dss_nil))
    (dus_cons (du_of (ds_if (dt_eq K hr (de_v 0) de_int) (dss_one (ds_ret (de_call (fp_bounded_range T) hr (by omega) tk_of (da_cons (de_v 1) da_nil)))) dss_nil))
    (dus_cons (du_of (ds_if (dt_eq K hr (de_v 0) de_int) (dss_one (ds_ret (de_call (fp_format_groups T) hr (by omega) tk_of (da_cons (de_v 1) da_nil)))) dss_nil))
    (dus_cons (du_of (ds_if (dt_eq K hr (de_v 0) de_int) (dss_one (ds_ret (de_call (fp_between T) hr (by omega) tk_of (da_cons (de_v 1) (da_cons (de_v 2) (da_cons (de_v 3) da_nil)))))) dss_nil))
    (dus_cons (du_of (ds_if (dt_eq K hr (de_v 0) de_int) (dss_one (ds_ret (de_call (fp_gaps_for T) hr (by omega) tk_of (da_cons (de_v 1) (da_cons (de_v 2) da_nil))))) dss_nil))
    (dus_cons (du_of (ds_if (dt_eq K hr (de_v 0) de_int) (dss_one (ds_ret (de_call (fp_with_moment T) hr (by omega) tk_of (da_cons (de_v 1) (da_cons (de_v 2) da_nil))))) dss_nil))
    (dus_cons (du_of (ds_if (dt_eq K hr (de_v 0) de_int) (dss_one (ds_ret (de_call (fp_without_moment T) hr (by omega) tk_of (da_cons (de_v 1) (da_cons (de_v 2) da_nil))))) dss_nil))
    (dus_cons (du_of (ds_if (dt_eq K hr (de_v 0) de_int) (dss_one (ds_ret (de_call (fp_merged T) hr (by omega) tk_of (da_cons (de_v 1) (da_cons (de_v 2) da_nil))))) dss_nil))
    (dus_cons (du_of (ds_if (dt_eq K hr (de_v 0) de_int) (dss_one (ds_ret (de_call (fp_moved T) hr (by omega) tk_of (da_cons (de_v 1) (da_cons (de_v 2) da_nil))))) dss_nil))
    (dus_cons (du_of (ds_if (dt_eq K hr (de_v 0) de_int) (dss_one (ds_ret (de_call (fp_scaled T) hr (by omega) tk_of (da_cons (de_v 1) (da_cons (de_v 2) da_nil))))) dss_nil))
    (dus_cons (du_of (ds_if (dt_eq K hr (de_v 0) de_int) (dss_one (ds_ret (de_call (fp_can_be T) hr (by omega) tk_of (da_cons (de_v 1) da_nil)))) dss_nil))
    (dus_cons (du_of (ds_if (dt_eq K hr (de_v 0) de_int) (dss_one (ds_ret (de_call (fp_least_length T) hr (by omega) tk_of (da_cons (de_v 1) da_nil)))) dss_nil))
    (dus_cons (du_of (ds_if (dt_eq K hr (de_v 0) de_int) (dss_one (ds_ret (de_call (fp_moments_with T) hr (by omega) tk_of (da_cons (de_v 1) da_nil)))) dss_nil))
    (dus_cons (du_of (ds_if (dt_eq K hr (de_v 0) de_int) (dss_one (ds_ret (de_call (fp_count_moments T) hr (by omega) tk_of (da_cons (de_v 1) da_nil)))) dss_nil))
    (dus_cons (du_if (dt_eq K hr (de_v 0) de_int) (dus_one (du_retNew (fi_Stream T) hr (by omega) tk_of (da_cons (de_v 1) (da_cons (de_v 2) da_nil)))) dus_nil)
    (dus_one (du_of (ds_ret (de_if (dt_eq K hr (de_v 0) de_int) de_stk (de_call (fp_groups_of_days T) hr (by omega) tk_of (da_cons (de_lst (da_cons de_int (da_cons de_int da_nil))) (da_cons de_int (da_cons de_int (da_cons (de_v 1) da_nil)))))))))))))))))))))))))))⟩
theorem sc__law_asked : FnScope ["kind", "one", "two", "three", "caught", "e"] ["kind", "one", "two", "three"] (defScope (topS 64)) := ⟨rfl, rfl, rfl, by decide +kernel, rfl, by decide +kernel, by decide +kernel⟩
theorem fp__law_asked (T : Tp K mg cc) : Fp P w K mg base cc "_law_asked" 7 C__law_asked := by
  obtain ⟨gE, hgE, TE⟩ := T.xe
  exact fp_of (k := 6) 4 2 T.d__law_asked sc__law_asked rfl rfl (fun _ _ _ _ _ _ us hl => match us, hl with | [_, _, _, _], _ => rfl) fun f cdv A outer s H E hr => ⟨_,
    (dss_cons (ds_set 4 sc__law_asked.nd de_non)
    (dss_cons (ds_try K 5 4 TE hgE tk_of sc__law_asked.nd (fun _ _ _ tkb => (dss_one (ds_expr (de_call (fp__law_call T) hr (by omega) tkb (da_cons (de_v 0) (da_cons (de_v 1) (da_cons (de_v 2) (da_cons (de_v 3) da_nil)))))))))
    (dss_one (ds_ret (de_if (dt_isNo 4) de_str (de_callX 4 (fx__law_error T) hr (by omega) tk_of))))))⟩
theorem sc__law_asked17 : FnScope ["kind", "one", "two", "three", "caught", "e"] ["kind", "one", "two", "three"] (defScope (topS 64)) := ⟨rfl, rfl, rfl, by decide +kernel, rfl, by decide +kernel, by decide +kernel⟩
theorem fp__law_asked17 (T : Tp K mg cc) : Fp P w K mg base cc "_law_asked" 7 C__law_asked17 := by
  obtain ⟨gE, hgE, TE⟩ := T.xe
  exact fp_of (k := 6) 4 2 T.d__law_asked sc__law_asked17 rfl rfl (fun _ _ _ _ _ _ us hl => match us, hl with | [_, _, _, _], _ => rfl) fun f cdv A outer s H E hr => ⟨_,
    (dss_cons (ds_set 4 sc__law_asked17.nd de_non)
    (dss_cons (ds_try K 5 4 TE hgE tk_of sc__law_asked17.nd (fun _ _ _ tkb => (dss_one (ds_callU (fu__law_call17 T) hr (by omega) tkb (da_cons (de_v 0) (da_cons (de_v 1) (da_cons (de_v 2) (da_cons (de_v 3) da_nil))))))))
    (dss_one (ds_ret (de_if (dt_isNo 4) de_str (de_callX 4 (fx__law_error T) hr (by omega) tk_of))))))⟩
theorem sc__law_asked18 : FnScope ["kind", "one", "two", "three", "caught", "e"] ["kind", "one", "two", "three"] (defScope (topS 64)) := ⟨rfl, rfl, rfl, by decide +kernel, rfl, by decide +kernel, by decide +kernel⟩
theorem fsd__law_asked18 (T : Tp K mg cc) : Fsd P w K mg base cc 1 "_law_asked" 7 C__law_asked18 := by
  obtain ⟨gE, hgE, TE⟩ := T.xe
  exact fsd_of (k := 6) 1 3 2 T.d__law_asked sc__law_asked18 rfl rfl (fun _ _ _ _ _ _ us hl => match us, hl with | [_, _, _, _], _ => rfl) fun f cdv A outer s H E hr => ⟨_,
    (dss_cons (ds_set 4 sc__law_asked18.nd de_non)
    (dss_cons (ds_try K 5 4 TE hgE tk_of sc__law_asked18.nd (fun _ _ _ tkb => (dss_one (ds_expr (de_callS1 1 (fsd__law_call T) hr (by omega) tkb (de_v 0) (da_cons (de_v 2) (da_cons (de_v 3) da_nil)))))))
    (dss_one (ds_ret (de_if (dt_isNo 4) de_str (de_callX 4 (fx__law_error T) hr (by omega) tk_of))))))⟩
theorem sc_Stream_finish : FnScope ["self", "found"] ["self"] (defScope (inClass (topS 56) 4)) := ⟨rfl, rfl, rfl, by decide +kernel, rfl, by decide +kernel, by decide +kernel⟩
theorem fm_finish (T : Tp K mg cc) : Fst P w K mg base cc "finish" 2 C_Stream_finish := fst_of (cc := cc) (k := 1) 0 1 T.m_finish sc_Stream_finish rfl rfl (fun _ _ _ _ _ _ us hl => match us, hl with | [_], _ => rfl) fun f cdv A outer s H E hr => ⟨_,
    (dss_cons (ds_set 1 sc_Stream_finish.nd (de_slice K (de_if (dt_ne K hr (de_fld K 0 .line T.sc) (de_lst da_nil)) (de_call (fp_grouped T) hr (by omega) tk_of (da_cons (de_fld K 0 .line T.sc) (da_cons (de_fld K 0 .gap T.sc) da_nil))) (de_lst da_nil)) (do_some (de_fld K 0 .told T.sc)) do_none))
    (dss_cons (ds_setLine K 0 T.sc (de_lst da_nil))
    (dss_cons (ds_setTold K 0 T.sc de_int)
    (dss_one (ds_ret (de_v 1))))))⟩
theorem sc_Stream_open_groups : FnScope ["self"] ["self"] (defScope (inClass (topS 56) 5)) := ⟨rfl, rfl, rfl, by decide +kernel, rfl, by decide +kernel, by decide +kernel⟩
theorem fm_open_groups (T : Tp K mg cc) : Fst P w K mg base cc "open_groups" 3 C_Stream_open_groups := fst_of (cc := cc) (k := 2) 0 0 T.m_open_groups sc_Stream_open_groups rfl rfl (fun _ _ _ _ _ _ us hl => match us, hl with | [_], _ => rfl) fun f cdv A outer s H E hr => ⟨_,
    (dss_one (ds_ret (de_slice K (de_if (dt_ne K hr (de_fld K 0 .line T.sc) (de_lst da_nil)) (de_call (fp_grouped T) hr (by omega) tk_of (da_cons (de_fld K 0 .line T.sc) (da_cons (de_fld K 0 .gap T.sc) da_nil))) (de_lst da_nil)) (do_some (de_len K T.bt (da_cons (de_meth0 0 T.sc.cl (fm_closed T) hr (by omega) tk_of) da_nil))) do_none)))⟩
theorem sc_Stream___len__ : FnScope ["self"] ["self"] (defScope (inClass (topS 56) 6)) := ⟨rfl, rfl, rfl, by decide +kernel, rfl, by decide +kernel, by decide +kernel⟩
theorem fm___len__ (T : Tp K mg cc) : Fst P w K mg base cc "__len__" 1 C_Stream___len__ := fst_of (cc := cc) (k := 0) 0 0 T.m___len__ sc_Stream___len__ rfl rfl (fun _ _ _ _ _ _ us hl => match us, hl with | [_], _ => rfl) fun f cdv A outer s H E hr => ⟨_,
    (dss_one (ds_ret (de_len K T.bt (da_cons (de_fld K 0 .line T.sc) da_nil))))⟩
theorem sc__law_stream : FnScope ["bad", "shown", "good", "late"] [] (defScope (topS 65)) := ⟨rfl, rfl, rfl, by decide +kernel, rfl, by decide +kernel, by decide +kernel⟩
theorem fp__law_stream (T : Tp K mg cc) : Fp P w K mg base cc "_law_stream" 8 C__law_stream := fp_of (k := 7) 0 4 T.d__law_stream sc__law_stream rfl rfl (fun _ _ _ _ _ _ us hl => match us, hl with | [], _ => rfl) fun f cdv A outer s H E hr => ⟨_,
    (dss_cons (ds_for pa_of (di_list K (de_lst (da_cons de_non (da_cons (de_sub de_int de_int) (da_cons de_int (da_cons de_bl (da_cons de_str da_nil))))))) (dg_n 0 sc__law_stream.nd) (dss_one (ds_if (DW.t (dw_or (dt_ne K hr (de_call (fp__law_asked17 T) hr (by omega) tk_of (da_cons de_int (da_cons (de_v 0) (da_cons de_non (da_cons de_int da_nil))))) de_str) (dw_or1 (dt_ne K hr (de_call (fp__law_asked17 T) hr (by omega) tk_of (da_cons de_int (da_cons de_int (da_cons (de_v 0) (da_cons de_int da_nil))))) de_str)))) (dss_one (ds_ret de_bl)) dss_nil)))
    (dss_cons (ds_if (dt_ne K hr (de_lc [("good", 2)] sc__law_stream.nd (di_tup K (de_tup (da_cons de_int (da_cons de_int da_nil)))) (blkOk_by (N := ["bad", "shown", "good", "late"]) (sc := defScope (topS 65)) (by decide +kernel)) (fun _ _ _ _ _ => (dg_n 2 sc__law_stream.nd)) (fun _ _ _ _ _ => dts_nil) (fun _ _ _ _ _ => (de_call (fp__law_asked17 T) hr (by omega) takes0 (da_cons de_int (da_cons (de_v 2) (da_cons (de_v 2) (da_cons de_int da_nil))))))) (de_mul (de_lst (da_cons de_str da_nil)) de_int)) (dss_one (ds_ret de_bl)) dss_nil)
    (dss_cons (ds_new 1 (fi_Stream T) hr (by omega) tk_of sc__law_stream.nd (da_cons de_int (da_cons de_int da_nil)))
    (dss_cons (ds_if (DW.t (dw_or (dt_ne K hr (de_meth0 1 T.sc.cl (fm_finish T) hr (by omega) tk_of) (de_lst da_nil)) (dw_or (dt_ne K hr (de_meth0 1 T.sc.cl (fm_closed T) hr (by omega) tk_of) (de_lst da_nil)) (dw_or (dt_ne K hr (de_meth0 1 T.sc.cl (fm_open_groups T) hr (by omega) tk_of) (de_lst da_nil)) (dw_or1 (dt_ne K hr (de_meth0 1 T.sc.cl (fm_limit T) hr (by omega) tk_of) de_int)))))) (dss_one (ds_ret de_bl)) dss_nil)
    (dss_cons (ds_expr (de_meth 1 T.sc.cl (fm_push T) hr (by omega) tk_of (da_cons de_int da_nil)))
    (dss_cons (ds_for pa_of (di_list K (de_lst (da_cons de_non (da_cons (de_sub de_int de_int) (da_cons de_int (da_cons de_bl (da_cons de_str da_nil))))))) (dg_n 0 sc__law_stream.nd) (dss_one (ds_if (dt_ne K hr (de_callS1 1 (fsd__law_asked18 T) hr (by omega) tk_of de_int (da_cons (de_v 0) (da_cons de_int da_nil))) de_str) (dss_one (ds_ret de_bl)) dss_nil)))
    (dss_cons (ds_if (DW.t (dw_or (dt_ne K hr (de_lc [("late", 3)] sc__law_stream.nd (di_tup K (de_tup (da_cons de_int (da_cons de_int da_nil)))) (blkOk_by (N := ["bad", "shown", "good", "late"]) (sc := defScope (topS 65)) (by decide +kernel)) (fun _ _ _ _ _ => (dg_n 3 sc__law_stream.nd)) (fun _ _ _ _ _ => dts_nil) (fun _ _ _ _ _ => (de_callS1 1 (fsd__law_asked18 T) hr (by omega) takes0 de_int (da_cons (de_v 3) (da_cons de_int da_nil))))) (de_mul (de_lst (da_cons de_str da_nil)) de_int)) (dw_or1 (dt_ne K hr (de_lenM 1 T.bt (fm___len__ T) hr (by omega)) de_int)))) (dss_one (ds_ret de_bl)) dss_nil)
    (dss_one (ds_ret (DB.toE (db_and (DE.toB (de_eq K hr (de_meth 1 T.sc.cl (fm_push T) hr (by omega) tk_of (da_cons de_int da_nil)) (de_lst da_nil))) (db_and (DE.toB (de_eq K hr (de_meth0 1 T.sc.cl (fm_open_groups T) hr (by omega) tk_of) (de_lst (da_cons (de_lst (da_cons de_int da_nil)) (da_cons (de_lst (da_cons de_int da_nil)) da_nil))))) (db_and (DE.toB (de_eq K hr (de_meth 1 T.sc.cl (fm_push T) hr (by omega) tk_of (da_cons de_int da_nil)) (de_lst (da_cons (de_lst (da_cons de_int da_nil)) (da_cons (de_lst (da_cons de_int da_nil)) da_nil))))) (db_one (DE.toB (de_eq K hr (de_meth0 1 T.sc.cl (fm_limit T) hr (by omega) tk_of) de_int))))))))))))))))⟩
theorem sc__law_numbers : FnScope ["bad", "k"] [] (defScope (topS 66)) := ⟨rfl, rfl, rfl, by decide +kernel, rfl, by decide +kernel, by decide +kernel⟩
theorem fp__law_numbers (T : Tp K mg cc) : Fp P w K mg base cc "_law_numbers" 8 C__law_numbers := fp_of (k := 7) 0 2 T.d__law_numbers sc__law_numbers rfl rfl (fun _ _ _ _ _ _ us hl => match us, hl with | [], _ => rfl) fun f cdv A outer s H E hr => ⟨_,
    (dss_cons (ds_for pa_of (di_list K (de_lst (da_cons de_non (da_cons de_int (da_cons (de_tup da_nil) (da_cons (de_lst (da_cons de_int da_nil)) (da_cons (de_tup (da_cons de_int da_nil)) (da_cons (de_tup (da_cons de_int da_nil)) (da_cons (de_tup (da_cons de_bl da_nil)) (da_cons (de_tup (da_cons de_str da_nil)) (da_cons (de_mulT K (de_tup (da_cons de_int da_nil)) de_int) (da_cons (de_tup (da_cons de_non da_nil)) da_nil)))))))))))) (dg_n 0 sc__law_numbers.nd) (dss_one (ds_if (dt_ne K hr (de_lc [("k", 1)] sc__law_numbers.nd (di_tup K (de_tup (da_cons de_int (da_cons de_int (da_cons de_int (da_cons de_int da_nil)))))) (blkOk_by (N := ["bad", "k"]) (sc := defScope (topS 66)) (by decide +kernel)) (fun _ _ _ _ _ => (dg_n 1 sc__law_numbers.nd)) (fun _ _ _ _ _ => dts_nil) (fun _ _ _ _ _ => (de_call (fp__law_asked T) hr (by omega) takes0 (da_cons (de_v 1) (da_cons (de_v 0) (da_cons de_int (da_cons de_int da_nil))))))) (de_mul (de_lst (da_cons de_str da_nil)) de_int)) (dss_one (ds_ret de_bl)) dss_nil)))
    (dss_cons (ds_if (dt_ne K hr (de_lc [("k", 1)] sc__law_numbers.nd (di_tup K (de_tup (da_cons de_int (da_cons de_int (da_cons de_int (da_cons de_int da_nil)))))) (blkOk_by (N := ["bad", "k"]) (sc := defScope (topS 66)) (by decide +kernel)) (fun _ _ _ _ _ => (dg_n 1 sc__law_numbers.nd)) (fun _ _ _ _ _ => dts_nil) (fun _ _ _ _ _ => (de_call (fp__law_asked T) hr (by omega) takes0 (da_cons (de_v 1) (da_cons (de_tup (da_cons de_int (da_cons de_int da_nil))) (da_cons de_int (da_cons de_int da_nil))))))) (de_lst (da_cons de_str (da_cons de_str (da_cons de_str (da_cons de_str da_nil)))))) (dss_one (ds_ret de_bl)) dss_nil)
    (dss_cons (ds_if (dt_ne K hr (de_lc [("k", 1)] sc__law_numbers.nd (di_tup K (de_tup (da_cons de_int (da_cons de_int (da_cons de_int (da_cons de_int da_nil)))))) (blkOk_by (N := ["bad", "k"]) (sc := defScope (topS 66)) (by decide +kernel)) (fun _ _ _ _ _ => (dg_n 1 sc__law_numbers.nd)) (fun _ _ _ _ _ => dts_nil) (fun _ _ _ _ _ => (de_call (fp__law_asked T) hr (by omega) takes0 (da_cons (de_v 1) (da_cons (de_mulT K (de_tup (da_cons de_int da_nil)) de_int) (da_cons de_int (da_cons de_int da_nil))))))) (de_mul (de_lst (da_cons de_str da_nil)) de_int)) (dss_one (ds_ret de_bl)) dss_nil)
    (dss_one (ds_ret (de_eq K hr (de_lc [("bad", 0)] sc__law_numbers.nd (di_tup K (de_tup (da_cons de_non (da_cons de_int (da_cons de_int (da_cons de_bl (da_cons de_str (da_cons de_int (da_cons de_int da_nil))))))))) (blkOk_by (N := ["bad", "k"]) (sc := defScope (topS 66)) (by decide +kernel)) (fun _ _ _ _ _ => (dg_n 0 sc__law_numbers.nd)) (fun _ _ _ _ _ => dts_nil) (fun _ _ _ _ _ => (de_call (fp__law_asked T) hr (by omega) takes0 (da_cons de_int (da_cons (de_v 0) (da_cons de_int (da_cons de_int da_nil))))))) (de_add (de_mul (de_lst (da_cons de_str da_nil)) de_int) (de_mul (de_lst (da_cons de_str da_nil)) de_int))))))))⟩
theorem sc_law : FnScope ["script", "draws", "bad", "moments", "kind", "low", "high", "many", "by", "k"] ["script"] (defScope (topS 67)) := ⟨rfl, rfl, rfl, by decide +kernel, rfl, by decide +kernel, by decide +kernel⟩
theorem ok_law (T : Tp K mg cc) (hG : LawOk 8 G_law) {f : Addr} {fd : FuncData} (F : Fun K "law" "law" (topS 67) f fd) : FnOk P w K mg base (L2.CX P w) 10 f fd ["script"] (spLaw K) := by
  obtain ⟨f0, fd0, ps0, F0, hm0, hk0, hb0⟩ := fs__law_start (P := P) (w := w) (base := base) T
  refine F.okX sc_law (fun vs H Q E h => ?_) (fun cdv A outer s H vs Q E hr h => ?_)
  · obtain ⟨a, ns, rfl, _⟩ := h
    rfl
  · have D : ∃ t, DSs (cxOf (L2.CX P w) P w K mg base ["script", "draws", "bad", "moments", "kind", "low", "high", "many", "by", "k"] "law" (defScope (topS 67)) f cdv A outer s H E) cc (fun cls d _ H' => E cls d H') ((defBody (topS 67)).drop 1) t G_law := ⟨_,
      (dss_cons (ds_for pa_of (di_list K (de_lst (da_cons de_non (da_cons de_int (da_cons (de_tup da_nil) (da_cons (de_lst da_nil) (da_cons (de_lst (da_cons (de_lst da_nil) da_nil)) (da_cons (de_lst (da_cons (de_lst (da_cons de_int da_nil)) (da_cons (de_lst da_nil) da_nil))) (da_cons (de_lst (da_cons de_int da_nil)) (da_cons (de_lst (da_cons (de_tup (da_cons de_int da_nil)) da_nil)) (da_cons (de_lst (da_cons (de_lst (da_cons de_int (da_cons de_int da_nil))) da_nil)) (da_cons (de_lst (da_cons (de_lst (da_cons de_int da_nil)) (da_cons (de_lst (da_cons de_int da_nil)) da_nil))) (da_cons (de_lst (da_cons (de_lst (da_cons de_int da_nil)) da_nil)) (da_cons (de_lst (da_cons (de_lst (da_cons de_bl da_nil)) da_nil)) (da_cons (de_mul (de_lst (da_cons (de_lst (da_cons de_int da_nil)) da_nil)) de_int) (da_cons (de_tup (da_cons (de_lst (da_cons de_int da_nil)) da_nil)) da_nil)))))))))))))))) (dg_n 2 sc_law.nd) (dss_one (ds_if (DW.t (dw_or (dt_isNot (de_call (fp_is_groups T) hr (by omega) tk_of (da_cons (de_v 2) da_nil)) de_bl) (dw_or1 (dt_ne K hr (de_lc [("k", 9)] sc_law.nd (di_rng1 T.bt.range (da_cons de_int da_nil)) (blkOk_by (N := ["script", "draws", "bad", "moments", "kind", "low", "high", "many", "by", "k"]) (sc := defScope (topS 67)) (by decide +kernel)) (fun _ _ _ _ _ => (dg_n 9 sc_law.nd)) (fun _ _ _ _ _ => dts_nil) (fun _ _ _ _ _ => (de_call (fp__law_asked T) hr (by omega) takes0 (da_cons (de_v 9) (da_cons (de_v 2) (da_cons de_int (da_cons de_int da_nil))))))) (de_mul (de_lst (da_cons de_str da_nil)) de_int))))) (dss_one (ds_ret de_bl)) dss_nil)))
    (dss_cons (ds_if (DW.t (dw_or (dt_ne K hr (de_lc [("k", 9)] sc_law.nd (di_rng1 T.bt.range (da_cons de_int da_nil)) (blkOk_by (N := ["script", "draws", "bad", "moments", "kind", "low", "high", "many", "by", "k"]) (sc := defScope (topS 67)) (by decide +kernel)) (fun _ _ _ _ _ => (dg_n 9 sc_law.nd)) (fun _ _ _ _ _ => dts_nil) (fun _ _ _ _ _ => (de_call (fp__law_asked T) hr (by omega) takes0 (da_cons (de_v 9) (da_cons (de_lst (da_cons (de_lst (da_cons de_int da_nil)) (da_cons (de_lst (da_cons de_int da_nil)) da_nil))) (da_cons de_int (da_cons de_int da_nil))))))) (de_lst (da_cons de_str (da_cons de_str (da_cons de_str (da_cons de_str (da_cons de_str da_nil))))))) (dw_or1 (dt_isNot (de_call (fp_is_groups T) hr (by omega) tk_of (da_cons (de_mul (de_lst (da_cons (de_lst (da_cons de_int da_nil)) da_nil)) de_int) da_nil)) de_bl)))) (dss_one (ds_ret de_bl)) dss_nil)
    (dss_cons (ds_for pa_of (di_list K (de_lst (da_cons de_non (da_cons de_int (da_cons (de_lst da_nil) (da_cons (de_tup (da_cons de_int (da_cons de_int da_nil))) (da_cons (de_lst (da_cons de_int da_nil)) (da_cons (de_lst (da_cons de_int (da_cons de_int da_nil))) (da_cons (de_mul (de_lst (da_cons de_int da_nil)) de_int) da_nil))))))))) (dg_n 2 sc_law.nd) (dss_one (ds_if (DW.t (dw_or (dt_ne K hr (de_lc [("k", 9)] sc_law.nd (di_rng2 T.bt.range (da_cons de_int (da_cons de_int da_nil))) (blkOk_by (N := ["script", "draws", "bad", "moments", "kind", "low", "high", "many", "by", "k"]) (sc := defScope (topS 67)) (by decide +kernel)) (fun _ _ _ _ _ => (dg_n 9 sc_law.nd)) (fun _ _ _ _ _ => dts_nil) (fun _ _ _ _ _ => (de_call (fp__law_asked T) hr (by omega) takes0 (da_cons (de_v 9) (da_cons (de_v 2) (da_cons de_non (da_cons de_non da_nil))))))) (de_mul (de_lst (da_cons de_str da_nil)) de_int)) (dw_or1 (dt_ne K hr (de_call (fp__law_asked T) hr (by omega) tk_of (da_cons de_int (da_cons (de_lst (da_cons de_int da_nil)) (da_cons (de_v 2) (da_cons de_int da_nil))))) de_str)))) (dss_one (ds_ret de_bl)) dss_nil)))
    (dss_cons (ds_set 3 sc_law.nd (de_lst (da_cons de_int (da_cons de_int (da_cons de_int (da_cons de_int (da_cons (de_add de_int (de_callD 1 (fd__law_draw T) hr (by omega) tk_of (da_cons de_int da_nil))) da_nil)))))))
    (dss_cons (ds_for pa_of (di_list K (de_lst (da_cons (de_tup (da_cons de_int (da_cons de_int (da_cons de_int da_nil)))) (da_cons (de_tup (da_cons de_int (da_cons de_int (da_cons de_int da_nil)))) (da_cons (de_tup (da_cons de_int (da_cons de_int (da_cons de_int da_nil)))) (da_cons (de_tup (da_cons de_int (da_cons de_int (da_cons de_int da_nil)))) (da_cons (de_tup (da_cons de_int (da_cons (de_sub de_int de_int) (da_cons de_int da_nil)))) (da_cons (de_tup (da_cons de_int (da_cons de_int (da_cons de_int da_nil)))) da_nil)))))))) (dg_t K (dgs_cons 4 sc_law.nd (dgs_cons 5 sc_law.nd (dgs_cons 6 sc_law.nd dgs_nil)))) (dss_one (ds_if (dt_ne K hr (de_lc [("bad", 2)] sc_law.nd (di_tup K (de_tup (da_cons de_non (da_cons (de_sub (de_v 5) de_int) (da_cons (de_add (de_v 6) de_int) (da_cons de_bl (da_cons (de_str' T.bt (da_cons (de_v 5) da_nil)) da_nil))))))) (blkOk_by (N := ["script", "draws", "bad", "moments", "kind", "low", "high", "many", "by", "k"]) (sc := defScope (topS 67)) (by decide +kernel)) (fun _ _ _ _ _ => (dg_n 2 sc_law.nd)) (fun _ _ _ _ _ => dts_nil) (fun _ _ _ _ _ => (de_call (fp__law_asked T) hr (by omega) takes0 (da_cons (de_v 4) (da_cons (de_v 3) (da_cons (de_v 2) (da_cons de_int da_nil))))))) (de_mul (de_lst (da_cons de_str da_nil)) de_int)) (dss_one (ds_ret de_bl)) dss_nil)))
    (dss_cons (ds_if (dt_ne K hr (de_lc [("bad", 2)] sc_law.nd (di_tup K (de_tup (da_cons de_non (da_cons de_int (da_cons (de_sub de_int de_int) (da_cons de_bl (da_cons de_int da_nil))))))) (blkOk_by (N := ["script", "draws", "bad", "moments", "kind", "low", "high", "many", "by", "k"]) (sc := defScope (topS 67)) (by decide +kernel)) (fun _ _ _ _ _ => (dg_n 2 sc_law.nd)) (fun _ _ _ _ _ => dts_nil) (fun _ _ _ _ _ => (de_call (fp__law_asked T) hr (by omega) takes0 (da_cons de_int (da_cons (de_v 3) (da_cons de_int (da_cons (de_v 2) da_nil))))))) (de_add (de_mul (de_lst (da_cons de_str da_nil)) de_int) (de_lst (da_cons de_str da_nil)))) (dss_one (ds_ret de_bl)) dss_nil)
    (dss_cons (ds_if (DW.t (dw_or (dt_ne K hr (de_lc [("many", 7)] sc_law.nd (di_tup K (de_tup (da_cons de_int (da_cons de_int da_nil)))) (blkOk_by (N := ["script", "draws", "bad", "moments", "kind", "low", "high", "many", "by", "k"]) (sc := defScope (topS 67)) (by decide +kernel)) (fun _ _ _ _ _ => (dg_n 7 sc_law.nd)) (fun _ _ _ _ _ => dts_nil) (fun _ _ _ _ _ => (de_call (fp__law_asked T) hr (by omega) takes0 (da_cons de_int (da_cons (de_mul (de_lst (da_cons de_int da_nil)) (de_v 7)) (da_cons de_int (da_cons de_int da_nil))))))) (de_lst (da_cons de_str (da_cons de_str da_nil)))) (dw_or1 (dt_ne K hr (de_lst (da_cons (de_call (fp__law_asked T) hr (by omega) tk_of (da_cons de_int (da_cons (de_lst (da_cons de_int da_nil)) (da_cons de_int (da_cons de_int da_nil))))) (da_cons (de_call (fp__law_asked T) hr (by omega) tk_of (da_cons de_int (da_cons (de_v 3) (da_cons de_int (da_cons de_int da_nil))))) da_nil))) (de_mul (de_lst (da_cons de_str da_nil)) de_int))))) (dss_one (ds_ret de_bl)) dss_nil)
    (dss_cons (ds_if (dt_ne K hr (de_lc [("many", 7)] sc_law.nd (di_tup K (de_tup (da_cons de_int (da_cons de_int da_nil)))) (blkOk_by (N := ["script", "draws", "bad", "moments", "kind", "low", "high", "many", "by", "k"]) (sc := defScope (topS 67)) (by decide +kernel)) (fun _ _ _ _ _ => (dg_n 7 sc_law.nd)) (fun _ _ _ _ _ => dts_nil) (fun _ _ _ _ _ => (de_call (fp__law_asked T) hr (by omega) takes0 (da_cons de_int (da_cons (de_mul (de_lst (da_cons de_int da_nil)) de_int) (da_cons (de_mul (de_lst (da_cons de_int da_nil)) (de_v 7)) (da_cons de_int da_nil))))))) (de_lst (da_cons de_str (da_cons de_str da_nil)))) (dss_one (ds_ret de_bl)) dss_nil)
    (dss_cons (ds_if (dt_ne K hr (de_lc [("by", 8)] sc_law.nd (di_tup K (de_tup (da_cons de_int (da_cons de_int (da_cons (de_sub de_int de_int) (da_cons (de_sub de_int de_int) da_nil)))))) (blkOk_by (N := ["script", "draws", "bad", "moments", "kind", "low", "high", "many", "by", "k"]) (sc := defScope (topS 67)) (by decide +kernel)) (fun _ _ _ _ _ => (dg_n 8 sc_law.nd)) (fun _ _ _ _ _ => dts_nil) (fun _ _ _ _ _ => (de_call (fp__law_asked T) hr (by omega) takes0 (da_cons de_int (da_cons (de_lst (da_cons de_int (da_cons de_int da_nil))) (da_cons (de_v 8) (da_cons de_int da_nil))))))) (de_lst (da_cons de_str (da_cons de_str (da_cons de_str (da_cons de_str da_nil)))))) (dss_one (ds_ret de_bl)) dss_nil)
    (dss_cons (ds_if (dt_ne K hr (de_lst (da_cons (de_call (fp__law_asked T) hr (by omega) tk_of (da_cons de_int (da_cons (de_lst (da_cons de_int da_nil)) (da_cons de_int (da_cons de_int da_nil))))) (da_cons (de_call (fp__law_asked T) hr (by omega) tk_of (da_cons de_int (da_cons (de_lst (da_cons de_int da_nil)) (da_cons (de_sub de_int de_int) (da_cons de_int da_nil))))) (da_cons (de_call (fp__law_asked T) hr (by omega) tk_of (da_cons de_int (da_cons (de_lst (da_cons de_int da_nil)) (da_cons de_int (da_cons de_int da_nil))))) da_nil)))) (de_mul (de_lst (da_cons de_str da_nil)) de_int)) (dss_one (ds_ret de_bl)) dss_nil)
    (dss_cons (ds_if (DW.t (dw_or (dt_ne K hr (de_lc [("by", 8)] sc_law.nd (di_tup K (de_tup (da_cons de_int (da_cons de_int (da_cons de_int da_nil))))) (blkOk_by (N := ["script", "draws", "bad", "moments", "kind", "low", "high", "many", "by", "k"]) (sc := defScope (topS 67)) (by decide +kernel)) (fun _ _ _ _ _ => (dg_n 8 sc_law.nd)) (fun _ _ _ _ _ => dts_nil) (fun _ _ _ _ _ => (de_call (fp__law_asked T) hr (by omega) takes0 (da_cons de_int (da_cons (de_lst (da_cons de_int da_nil)) (da_cons (de_v 8) (da_cons de_int da_nil))))))) (de_lst (da_cons de_str (da_cons de_str (da_cons de_str da_nil))))) (dw_or1 (dt_ne K hr (de_lst (da_cons (de_call (fp__law_asked T) hr (by omega) tk_of (da_cons de_int (da_cons (de_lst (da_cons de_int (da_cons de_int da_nil))) (da_cons de_int (da_cons de_int da_nil))))) (da_cons (de_call (fp__law_asked T) hr (by omega) tk_of (da_cons de_int (da_cons (de_lst (da_cons de_int (da_cons de_int da_nil))) (da_cons de_int (da_cons de_int da_nil))))) da_nil))) (de_lst (da_cons de_str (da_cons de_str da_nil))))))) (dss_one (ds_ret de_bl)) dss_nil)
    (dss_one (ds_ret (DB.toE (db_and (DE.toB (de_call0 (fp__law_numbers T) hr (by omega) tk_of)) (db_one (DE.toB (de_call0 (fp__law_stream T) hr (by omega) tk_of))))))))))))))))))⟩
    obtain ⟨t, ht⟩ := D
    exact ⟨_, pss_cons (ps_set (i := 1) sc_law.nd rfl (by first | exact .inl rfl | exact .inr rfl) (pe_callS F0 (hr.mono (by decide)) rfl hm0 hk0 hb0 (fun σ => passAt tk_of σ) (pa_cons (pv 0) pa_nil))) ht.p, pure_law (m := 8) rfl hG ht.s vs H Q h⟩
end
end GG

namespace GG
open PySem PySem.Spec PyProof.Rows L2
theorem all_mk (hG : LawOk 8 G_law) {P : Program} {w : World} {K : PySem.W.Frag} {h : Heap} {mg : Str → Option Value} {fa : Addr} (X : K.In h) (G : h.Ns mainGlobals mg) (hfa : mg "law" = some (.ref fa))
    {t_MOST_MOMENTS : Tok}
    {t_MOST_MOMENT : Tok}
    {t_MOST_NUMBERS : Tok}
    {C_BadMoments : Addr}
    {C_BadNumber : Addr}
    {C_BadGroups : Addr}
    {C_TooLate : Addr}
    {C_BadText : Addr}
    {C_NotFound : Addr}
    {C_GapError : Addr}
    {C_Stream : Addr}
    {f_S__init__ : Addr} {od_S__init__ an_S__init__ : Option Addr} {sl_S__init__ : Array (Option Value)} {oc_S__init__ kV_S__init__ dc_S__init__ pm_S__init__ cd_S__init__ ct_S__init__ : Value}
    {f_Slimit : Addr} {od_Slimit an_Slimit : Option Addr} {sl_Slimit : Array (Option Value)} {oc_Slimit kV_Slimit dc_Slimit pm_Slimit cd_Slimit ct_Slimit : Value}
    {f_Sclosed : Addr} {od_Sclosed an_Sclosed : Option Addr} {sl_Sclosed : Array (Option Value)} {oc_Sclosed kV_Sclosed dc_Sclosed pm_Sclosed cd_Sclosed ct_Sclosed : Value}
    {f_Spush : Addr} {od_Spush an_Spush : Option Addr} {sl_Spush : Array (Option Value)} {oc_Spush kV_Spush dc_Spush pm_Spush cd_Spush ct_Spush : Value}
    {f_Sfinish : Addr} {od_Sfinish an_Sfinish : Option Addr} {sl_Sfinish : Array (Option Value)} {oc_Sfinish kV_Sfinish dc_Sfinish pm_Sfinish cd_Sfinish ct_Sfinish : Value}
    {f_Sopen_groups : Addr} {od_Sopen_groups an_Sopen_groups : Option Addr} {sl_Sopen_groups : Array (Option Value)} {oc_Sopen_groups kV_Sopen_groups dc_Sopen_groups pm_Sopen_groups cd_Sopen_groups ct_Sopen_groups : Value}
    {f_S__len__ : Addr} {od_S__len__ an_S__len__ : Option Addr} {sl_S__len__ : Array (Option Value)} {oc_S__len__ kV_S__len__ dc_S__len__ pm_S__len__ cd_S__len__ ct_S__len__ : Value}
    {f_is_int : Addr} {od_is_int an_is_int : Option Addr} {sl_is_int : Array (Option Value)} {oc_is_int kV_is_int dc_is_int pm_is_int cd_is_int ct_is_int : Value}
    {f_is_moments : Addr} {od_is_moments an_is_moments : Option Addr} {sl_is_moments : Array (Option Value)} {oc_is_moments kV_is_moments dc_is_moments pm_is_moments cd_is_moments ct_is_moments : Value}
    {f_check_moments : Addr} {od_check_moments an_check_moments : Option Addr} {sl_check_moments : Array (Option Value)} {oc_check_moments kV_check_moments dc_check_moments pm_check_moments cd_check_moments ct_check_moments : Value}
    {f_check_gap : Addr} {od_check_gap an_check_gap : Option Addr} {sl_check_gap : Array (Option Value)} {oc_check_gap kV_check_gap dc_check_gap pm_check_gap cd_check_gap ct_check_gap : Value}
    {f_check_place : Addr} {od_check_place an_check_place : Option Addr} {sl_check_place : Array (Option Value)} {oc_check_place kV_check_place dc_check_place pm_check_place cd_check_place ct_check_place : Value}
    {f_is_groups : Addr} {od_is_groups an_is_groups : Option Addr} {sl_is_groups : Array (Option Value)} {oc_is_groups kV_is_groups dc_is_groups pm_is_groups cd_is_groups ct_is_groups : Value}
    {f_steps_of : Addr} {od_steps_of an_steps_of : Option Addr} {sl_steps_of : Array (Option Value)} {oc_steps_of kV_steps_of dc_steps_of pm_steps_of cd_steps_of ct_steps_of : Value}
    {f_between : Addr} {od_between an_between : Option Addr} {sl_between : Array (Option Value)} {oc_between kV_between dc_between pm_between cd_between ct_between : Value}
    {f_check_groups : Addr} {od_check_groups an_check_groups : Option Addr} {sl_check_groups : Array (Option Value)} {oc_check_groups kV_check_groups dc_check_groups pm_check_groups cd_check_groups ct_check_groups : Value}
    {f_whole_of : Addr} {od_whole_of an_whole_of : Option Addr} {sl_whole_of : Array (Option Value)} {oc_whole_of kV_whole_of dc_whole_of pm_whole_of cd_whole_of ct_whole_of : Value}
    {f_inner_and_outer : Addr} {od_inner_and_outer an_inner_and_outer : Option Addr} {sl_inner_and_outer : Array (Option Value)} {oc_inner_and_outer kV_inner_and_outer dc_inner_and_outer pm_inner_and_outer cd_inner_and_outer ct_inner_and_outer : Value}
    {f_gap_range : Addr} {od_gap_range an_gap_range : Option Addr} {sl_gap_range : Array (Option Value)} {oc_gap_range kV_gap_range dc_gap_range pm_gap_range cd_gap_range ct_gap_range : Value}
    {f_are_groups : Addr} {od_are_groups an_are_groups : Option Addr} {sl_are_groups : Array (Option Value)} {oc_are_groups kV_are_groups dc_are_groups pm_are_groups cd_are_groups ct_are_groups : Value}
    {f_against : Addr} {od_against an_against : Option Addr} {sl_against : Array (Option Value)} {oc_against kV_against dc_against pm_against cd_against ct_against : Value}
    {f_moments_of : Addr} {od_moments_of an_moments_of : Option Addr} {sl_moments_of : Array (Option Value)} {oc_moments_of kV_moments_of dc_moments_of pm_moments_of cd_moments_of ct_moments_of : Value}
    {f_bounded_range : Addr} {od_bounded_range an_bounded_range : Option Addr} {sl_bounded_range : Array (Option Value)} {oc_bounded_range kV_bounded_range dc_bounded_range pm_bounded_range cd_bounded_range ct_bounded_range : Value}
    {f_grouped : Addr} {od_grouped an_grouped : Option Addr} {sl_grouped : Array (Option Value)} {oc_grouped kV_grouped dc_grouped pm_grouped cd_grouped ct_grouped : Value}
    {f_gaps_for : Addr} {od_gaps_for an_gaps_for : Option Addr} {sl_gaps_for : Array (Option Value)} {oc_gaps_for kV_gaps_for dc_gaps_for pm_gaps_for cd_gaps_for ct_gaps_for : Value}
    {f_checked : Addr} {od_checked an_checked : Option Addr} {sl_checked : Array (Option Value)} {oc_checked kV_checked dc_checked pm_checked cd_checked ct_checked : Value}
    {f_check_moment : Addr} {od_check_moment an_check_moment : Option Addr} {sl_check_moment : Array (Option Value)} {oc_check_moment kV_check_moment dc_check_moment pm_check_moment cd_check_moment ct_check_moment : Value}
    {f_with_moment : Addr} {od_with_moment an_with_moment : Option Addr} {sl_with_moment : Array (Option Value)} {oc_with_moment kV_with_moment dc_with_moment pm_with_moment cd_with_moment ct_with_moment : Value}
    {f_without_moment : Addr} {od_without_moment an_without_moment : Option Addr} {sl_without_moment : Array (Option Value)} {oc_without_moment kV_without_moment dc_without_moment pm_without_moment cd_without_moment ct_without_moment : Value}
    {f_merged : Addr} {od_merged an_merged : Option Addr} {sl_merged : Array (Option Value)} {oc_merged kV_merged dc_merged pm_merged cd_merged ct_merged : Value}
    {f_moved : Addr} {od_moved an_moved : Option Addr} {sl_moved : Array (Option Value)} {oc_moved kV_moved dc_moved pm_moved cd_moved ct_moved : Value}
    {f_scaled : Addr} {od_scaled an_scaled : Option Addr} {sl_scaled : Array (Option Value)} {oc_scaled kV_scaled dc_scaled pm_scaled cd_scaled ct_scaled : Value}
    {f_is_numbers : Addr} {od_is_numbers an_is_numbers : Option Addr} {sl_is_numbers : Array (Option Value)} {oc_is_numbers kV_is_numbers dc_is_numbers pm_is_numbers cd_is_numbers ct_is_numbers : Value}
    {f_check_numbers : Addr} {od_check_numbers an_check_numbers : Option Addr} {sl_check_numbers : Array (Option Value)} {oc_check_numbers kV_check_numbers dc_check_numbers pm_check_numbers cd_check_numbers ct_check_numbers : Value}
    {f_falls : Addr} {od_falls an_falls : Option Addr} {sl_falls : Array (Option Value)} {oc_falls kV_falls dc_falls pm_falls cd_falls ct_falls : Value}
    {f_can_be : Addr} {od_can_be an_can_be : Option Addr} {sl_can_be : Array (Option Value)} {oc_can_be kV_can_be dc_can_be pm_can_be cd_can_be ct_can_be : Value}
    {f_steps_with : Addr} {od_steps_with an_steps_with : Option Addr} {sl_steps_with : Array (Option Value)} {oc_steps_with kV_steps_with dc_steps_with pm_steps_with cd_steps_with ct_steps_with : Value}
    {f_moments_with : Addr} {od_moments_with an_moments_with : Option Addr} {sl_moments_with : Array (Option Value)} {oc_moments_with kV_moments_with dc_moments_with pm_moments_with cd_moments_with ct_moments_with : Value}
    {f_orders : Addr} {od_orders an_orders : Option Addr} {sl_orders : Array (Option Value)} {oc_orders kV_orders dc_orders pm_orders cd_orders ct_orders : Value}
    {f_count_moments : Addr} {od_count_moments an_count_moments : Option Addr} {sl_count_moments : Array (Option Value)} {oc_count_moments kV_count_moments dc_count_moments pm_count_moments cd_count_moments ct_count_moments : Value}
    {f_least_length : Addr} {od_least_length an_least_length : Option Addr} {sl_least_length : Array (Option Value)} {oc_least_length kV_least_length dc_least_length pm_least_length cd_least_length ct_least_length : Value}
    {f_check_day : Addr} {od_check_day an_check_day : Option Addr} {sl_check_day : Array (Option Value)} {oc_check_day kV_check_day dc_check_day pm_check_day cd_check_day ct_check_day : Value}
    {f_groups_of_days : Addr} {od_groups_of_days an_groups_of_days : Option Addr} {sl_groups_of_days : Array (Option Value)} {oc_groups_of_days kV_groups_of_days dc_groups_of_days pm_groups_of_days cd_groups_of_days ct_groups_of_days : Value}
    {f_over_night : Addr} {od_over_night an_over_night : Option Addr} {sl_over_night : Array (Option Value)} {oc_over_night kV_over_night dc_over_night pm_over_night cd_over_night ct_over_night : Value}
    {f_format_groups : Addr} {od_format_groups an_format_groups : Option Addr} {sl_format_groups : Array (Option Value)} {oc_format_groups kV_format_groups dc_format_groups pm_format_groups cd_format_groups ct_format_groups : Value}
    {f__law_start : Addr} {od__law_start an__law_start : Option Addr} {sl__law_start : Array (Option Value)} {oc__law_start kV__law_start dc__law_start pm__law_start cd__law_start ct__law_start : Value}
    {f__law_draw : Addr} {od__law_draw an__law_draw : Option Addr} {sl__law_draw : Array (Option Value)} {oc__law_draw kV__law_draw dc__law_draw pm__law_draw cd__law_draw ct__law_draw : Value}
    {f__law_error : Addr} {od__law_error an__law_error : Option Addr} {sl__law_error : Array (Option Value)} {oc__law_error kV__law_error dc__law_error pm__law_error cd__law_error ct__law_error : Value}
    {f__law_call : Addr} {od__law_call an__law_call : Option Addr} {sl__law_call : Array (Option Value)} {oc__law_call kV__law_call dc__law_call pm__law_call cd__law_call ct__law_call : Value}
    {f__law_asked : Addr} {od__law_asked an__law_asked : Option Addr} {sl__law_asked : Array (Option Value)} {oc__law_asked kV__law_asked dc__law_asked pm__law_asked cd__law_asked ct__law_asked : Value}
    {f__law_stream : Addr} {od__law_stream an__law_stream : Option Addr} {sl__law_stream : Array (Option Value)} {oc__law_stream kV__law_stream dc__law_stream pm__law_stream cd__law_stream ct__law_stream : Value}
    {f__law_numbers : Addr} {od__law_numbers an__law_numbers : Option Addr} {sl__law_numbers : Array (Option Value)} {oc__law_numbers kV__law_numbers dc__law_numbers pm__law_numbers cd__law_numbers ct__law_numbers : Value}
    {f_law : Addr} {od_law an_law : Option Addr} {sl_law : Array (Option Value)} {oc_law kV_law dc_law pm_law cd_law ct_law : Value}
    (z0 : PySem.W.nsIn K mainGlobals "len" = some none)
    (z1 : PySem.W.nsIn K mainGlobals "range" = some none)
    (z2 : PySem.W.nsIn K mainGlobals "max" = some none)
    (z3 : PySem.W.nsIn K mainGlobals "min" = some none)
    (z4 : PySem.W.nsIn K mainGlobals "sum" = some none)
    (z5 : PySem.W.nsIn K mainGlobals "all" = some none)
    (z6 : PySem.W.nsIn K mainGlobals "sorted" = some none)
    (z7 : PySem.W.nsIn K mainGlobals "isinstance" = some none)
    (z8 : PySem.W.nsIn K mainGlobals "list" = some none)
    (z9 : PySem.W.nsIn K mainGlobals "tuple" = some none)
    (z10 : PySem.W.nsIn K mainGlobals "int" = some none)
    (z11 : PySem.W.nsIn K mainGlobals "bool" = some none)
    (z12 : PySem.W.nsIn K mainGlobals "str" = some none)
    (z13 : PySem.W.nsIn K mainGlobals "zip" = some none)
    (z14 : PySem.W.nsIn K mainGlobals "enumerate" = some none)
    (z15 : PySem.W.nsIn K mainGlobals "set" = some none)
    (c_MOST_MOMENTS : PySem.W.nsIn K mainGlobals "MOST_MOMENTS" = some (some (.int 12 t_MOST_MOMENTS)))
    (c_MOST_MOMENT : PySem.W.nsIn K mainGlobals "MOST_MOMENT" = some (some (.int 999 t_MOST_MOMENT)))
    (c_MOST_NUMBERS : PySem.W.nsIn K mainGlobals "MOST_NUMBERS" = some (some (.int 8 t_MOST_NUMBERS)))
    (xg_BadMoments : PySem.W.nsIn K mainGlobals "BadMoments" = some (some (.ref C_BadMoments)))
    (xx_BadMoments : PySem.W.excIn K C_BadMoments [.type "ValueError", .type "Exception", .type "BaseException", .type "object"] "ValueError.__new__" = true)
    (xk_BadMoments : PySem.W.keepIn K (.ref C_BadMoments) = true)
    (xb_BadMoments : PySem.W.subIn K (.ref C_BadMoments) (.type "BaseException") = some true)
    (xt_BadMoments : PySem.W.typeIn K (.ref C_BadMoments) = some (.type "type"))
    (xg_BadNumber : PySem.W.nsIn K mainGlobals "BadNumber" = some (some (.ref C_BadNumber)))
    (xx_BadNumber : PySem.W.excIn K C_BadNumber [.type "ValueError", .type "Exception", .type "BaseException", .type "object"] "ValueError.__new__" = true)
    (xk_BadNumber : PySem.W.keepIn K (.ref C_BadNumber) = true)
    (xb_BadNumber : PySem.W.subIn K (.ref C_BadNumber) (.type "BaseException") = some true)
    (xt_BadNumber : PySem.W.typeIn K (.ref C_BadNumber) = some (.type "type"))
    (xg_BadGroups : PySem.W.nsIn K mainGlobals "BadGroups" = some (some (.ref C_BadGroups)))
    (xx_BadGroups : PySem.W.excIn K C_BadGroups [.type "ValueError", .type "Exception", .type "BaseException", .type "object"] "ValueError.__new__" = true)
    (xk_BadGroups : PySem.W.keepIn K (.ref C_BadGroups) = true)
    (xb_BadGroups : PySem.W.subIn K (.ref C_BadGroups) (.type "BaseException") = some true)
    (xt_BadGroups : PySem.W.typeIn K (.ref C_BadGroups) = some (.type "type"))
    (xg_TooLate : PySem.W.nsIn K mainGlobals "TooLate" = some (some (.ref C_TooLate)))
    (xx_TooLate : PySem.W.excIn K C_TooLate [.type "ValueError", .type "Exception", .type "BaseException", .type "object"] "ValueError.__new__" = true)
    (xk_TooLate : PySem.W.keepIn K (.ref C_TooLate) = true)
    (xb_TooLate : PySem.W.subIn K (.ref C_TooLate) (.type "BaseException") = some true)
    (xt_TooLate : PySem.W.typeIn K (.ref C_TooLate) = some (.type "type"))
    (xg_BadText : PySem.W.nsIn K mainGlobals "BadText" = some (some (.ref C_BadText)))
    (xx_BadText : PySem.W.excIn K C_BadText [.type "ValueError", .type "Exception", .type "BaseException", .type "object"] "ValueError.__new__" = true)
    (xk_BadText : PySem.W.keepIn K (.ref C_BadText) = true)
    (xb_BadText : PySem.W.subIn K (.ref C_BadText) (.type "BaseException") = some true)
    (xt_BadText : PySem.W.typeIn K (.ref C_BadText) = some (.type "type"))
    (xg_NotFound : PySem.W.nsIn K mainGlobals "NotFound" = some (some (.ref C_NotFound)))
    (xx_NotFound : PySem.W.excIn K C_NotFound [.type "ValueError", .type "Exception", .type "BaseException", .type "object"] "ValueError.__new__" = true)
    (xk_NotFound : PySem.W.keepIn K (.ref C_NotFound) = true)
    (xb_NotFound : PySem.W.subIn K (.ref C_NotFound) (.type "BaseException") = some true)
    (xt_NotFound : PySem.W.typeIn K (.ref C_NotFound) = some (.type "type"))
    (eg : PySem.W.nsIn K mainGlobals "GapError" = some (some (.ref C_GapError)))
    (ev : PySem.W.nsIn K mainGlobals "ValueError" = some none)
    (en : PySem.W.specialIn K (.builtin "object.__class__") "__get__" = some (some (.builtin "getset_descriptor.__get__")))
    (et : PySem.W.takesIn K (.builtin "object.__class__") = some true)
    (gd : PySem.W.hasDictIn K C_GapError = true)
    (gt : PySem.W.typeIn K (.ref C_GapError) = some (.type "type"))
    (gb : PySem.W.subIn K (.ref C_GapError) (.type "BaseException") = some true)
    (e1_mo : PySem.W.findIn K (.ref C_BadMoments) "__getattribute__" = some (some (.builtin "BaseException.__getattribute__")))
    (e2_mo : PySem.W.findIn K (.ref C_BadMoments) "__getattr__" = some none)
    (e3_mo : PySem.W.hasDictIn K C_BadMoments = true)
    (e4_mo : PySem.W.findIn K (.ref C_BadMoments) "__class__" = some (some (.builtin "object.__class__")))
    (e5_mo : PySem.W.mroIn K C_BadMoments (.type "object") = some true)
    (e6_mo : PySem.W.subIn K (.ref C_BadMoments) (.ref C_GapError) = some true)
    (e7_mo : PySem.W.subIn K (.ref C_BadMoments) (.type "ValueError") = some true)
    (e9_mo_mo : PySem.W.subIn K (.ref C_BadMoments) (.ref C_BadMoments) = some true)
    (e9_mo_nu : PySem.W.subIn K (.ref C_BadMoments) (.ref C_BadNumber) = some false)
    (e9_mo_gr : PySem.W.subIn K (.ref C_BadMoments) (.ref C_BadGroups) = some false)
    (e9_mo_la : PySem.W.subIn K (.ref C_BadMoments) (.ref C_TooLate) = some false)
    (e9_mo_te : PySem.W.subIn K (.ref C_BadMoments) (.ref C_BadText) = some false)
    (e9_mo_no : PySem.W.subIn K (.ref C_BadMoments) (.ref C_NotFound) = some false)
    (e1_nu : PySem.W.findIn K (.ref C_BadNumber) "__getattribute__" = some (some (.builtin "BaseException.__getattribute__")))
    (e2_nu : PySem.W.findIn K (.ref C_BadNumber) "__getattr__" = some none)
    (e3_nu : PySem.W.hasDictIn K C_BadNumber = true)
    (e4_nu : PySem.W.findIn K (.ref C_BadNumber) "__class__" = some (some (.builtin "object.__class__")))
    (e5_nu : PySem.W.mroIn K C_BadNumber (.type "object") = some true)
    (e6_nu : PySem.W.subIn K (.ref C_BadNumber) (.ref C_GapError) = some true)
    (e7_nu : PySem.W.subIn K (.ref C_BadNumber) (.type "ValueError") = some true)
    (e9_nu_mo : PySem.W.subIn K (.ref C_BadNumber) (.ref C_BadMoments) = some false)
    (e9_nu_nu : PySem.W.subIn K (.ref C_BadNumber) (.ref C_BadNumber) = some true)
    (e9_nu_gr : PySem.W.subIn K (.ref C_BadNumber) (.ref C_BadGroups) = some false)
    (e9_nu_la : PySem.W.subIn K (.ref C_BadNumber) (.ref C_TooLate) = some false)
    (e9_nu_te : PySem.W.subIn K (.ref C_BadNumber) (.ref C_BadText) = some false)
    (e9_nu_no : PySem.W.subIn K (.ref C_BadNumber) (.ref C_NotFound) = some false)
    (e1_gr : PySem.W.findIn K (.ref C_BadGroups) "__getattribute__" = some (some (.builtin "BaseException.__getattribute__")))
    (e2_gr : PySem.W.findIn K (.ref C_BadGroups) "__getattr__" = some none)
    (e3_gr : PySem.W.hasDictIn K C_BadGroups = true)
    (e4_gr : PySem.W.findIn K (.ref C_BadGroups) "__class__" = some (some (.builtin "object.__class__")))
    (e5_gr : PySem.W.mroIn K C_BadGroups (.type "object") = some true)
    (e6_gr : PySem.W.subIn K (.ref C_BadGroups) (.ref C_GapError) = some true)
    (e7_gr : PySem.W.subIn K (.ref C_BadGroups) (.type "ValueError") = some true)
    (e9_gr_mo : PySem.W.subIn K (.ref C_BadGroups) (.ref C_BadMoments) = some false)
    (e9_gr_nu : PySem.W.subIn K (.ref C_BadGroups) (.ref C_BadNumber) = some false)
    (e9_gr_gr : PySem.W.subIn K (.ref C_BadGroups) (.ref C_BadGroups) = some true)
    (e9_gr_la : PySem.W.subIn K (.ref C_BadGroups) (.ref C_TooLate) = some false)
    (e9_gr_te : PySem.W.subIn K (.ref C_BadGroups) (.ref C_BadText) = some false)
    (e9_gr_no : PySem.W.subIn K (.ref C_BadGroups) (.ref C_NotFound) = some false)
    (e1_la : PySem.W.findIn K (.ref C_TooLate) "__getattribute__" = some (some (.builtin "BaseException.__getattribute__")))
    (e2_la : PySem.W.findIn K (.ref C_TooLate) "__getattr__" = some none)
    (e3_la : PySem.W.hasDictIn K C_TooLate = true)
    (e4_la : PySem.W.findIn K (.ref C_TooLate) "__class__" = some (some (.builtin "object.__class__")))
    (e5_la : PySem.W.mroIn K C_TooLate (.type "object") = some true)
    (e6_la : PySem.W.subIn K (.ref C_TooLate) (.ref C_GapError) = some true)
    (e7_la : PySem.W.subIn K (.ref C_TooLate) (.type "ValueError") = some true)
    (e9_la_mo : PySem.W.subIn K (.ref C_TooLate) (.ref C_BadMoments) = some false)
    (e9_la_nu : PySem.W.subIn K (.ref C_TooLate) (.ref C_BadNumber) = some false)
    (e9_la_gr : PySem.W.subIn K (.ref C_TooLate) (.ref C_BadGroups) = some false)
    (e9_la_la : PySem.W.subIn K (.ref C_TooLate) (.ref C_TooLate) = some true)
    (e9_la_te : PySem.W.subIn K (.ref C_TooLate) (.ref C_BadText) = some false)
    (e9_la_no : PySem.W.subIn K (.ref C_TooLate) (.ref C_NotFound) = some false)
    (e1_te : PySem.W.findIn K (.ref C_BadText) "__getattribute__" = some (some (.builtin "BaseException.__getattribute__")))
    (e2_te : PySem.W.findIn K (.ref C_BadText) "__getattr__" = some none)
    (e3_te : PySem.W.hasDictIn K C_BadText = true)
    (e4_te : PySem.W.findIn K (.ref C_BadText) "__class__" = some (some (.builtin "object.__class__")))
    (e5_te : PySem.W.mroIn K C_BadText (.type "object") = some true)
    (e6_te : PySem.W.subIn K (.ref C_BadText) (.ref C_GapError) = some true)
    (e7_te : PySem.W.subIn K (.ref C_BadText) (.type "ValueError") = some true)
    (e9_te_mo : PySem.W.subIn K (.ref C_BadText) (.ref C_BadMoments) = some false)
    (e9_te_nu : PySem.W.subIn K (.ref C_BadText) (.ref C_BadNumber) = some false)
    (e9_te_gr : PySem.W.subIn K (.ref C_BadText) (.ref C_BadGroups) = some false)
    (e9_te_la : PySem.W.subIn K (.ref C_BadText) (.ref C_TooLate) = some false)
    (e9_te_te : PySem.W.subIn K (.ref C_BadText) (.ref C_BadText) = some true)
    (e9_te_no : PySem.W.subIn K (.ref C_BadText) (.ref C_NotFound) = some false)
    (e1_no : PySem.W.findIn K (.ref C_NotFound) "__getattribute__" = some (some (.builtin "BaseException.__getattribute__")))
    (e2_no : PySem.W.findIn K (.ref C_NotFound) "__getattr__" = some none)
    (e3_no : PySem.W.hasDictIn K C_NotFound = true)
    (e4_no : PySem.W.findIn K (.ref C_NotFound) "__class__" = some (some (.builtin "object.__class__")))
    (e5_no : PySem.W.mroIn K C_NotFound (.type "object") = some true)
    (e6_no : PySem.W.subIn K (.ref C_NotFound) (.ref C_GapError) = some true)
    (e7_no : PySem.W.subIn K (.ref C_NotFound) (.type "ValueError") = some true)
    (e9_no_mo : PySem.W.subIn K (.ref C_NotFound) (.ref C_BadMoments) = some false)
    (e9_no_nu : PySem.W.subIn K (.ref C_NotFound) (.ref C_BadNumber) = some false)
    (e9_no_gr : PySem.W.subIn K (.ref C_NotFound) (.ref C_BadGroups) = some false)
    (e9_no_la : PySem.W.subIn K (.ref C_NotFound) (.ref C_TooLate) = some false)
    (e9_no_te : PySem.W.subIn K (.ref C_NotFound) (.ref C_BadText) = some false)
    (e9_no_no : PySem.W.subIn K (.ref C_NotFound) (.ref C_NotFound) = some true)
    (st_g : PySem.W.nsIn K mainGlobals "Stream" = some (some (.ref C_Stream)))
    (st_pg : PySem.W.plainGet K C_Stream Str.empty = true)
    (st_hd : PySem.W.hasDictIn K C_Stream = true)
    (st_po : PySem.W.plainOver K C_Stream = true)
    (st_sa : PySem.W.findIn K (.ref C_Stream) "__setattr__" = some (some (.builtin "object.__setattr__")))
    (st_mk : PySem.W.makesIn K C_Stream = true)
    (st_kc : PySem.W.keepIn K (.ref C_Stream) = true)
    (st_n0 : PySem.W.findIn K (.ref C_Stream) "gap" = some none)
    (st_n1 : PySem.W.findIn K (.ref C_Stream) "lateness" = some none)
    (st_n2 : PySem.W.findIn K (.ref C_Stream) "line" = some none)
    (st_n3 : PySem.W.findIn K (.ref C_Stream) "told" = some none)
    (a_S__init__ : PySem.W.findIn K (.ref C_Stream) "__init__" = some (some (.ref f_S__init__)))
    (i_S__init__ : PySem.W.isFn K (.ref f_S__init__) = true)
    (l_S__init__ : K.lookup f_S__init__ = some ⟨oc_S__init__, od_S__init__, .func (PySem.W.fnOf "__init__" "Stream.__init__" (defArgs (inClass (topS 56) 0)) (defBody (inClass (topS 56) 0)) (defScope (inClass (topS 56) 0)) .none kV_S__init__ dc_S__init__ pm_S__init__ an_S__init__ cd_S__init__ ct_S__init__), sl_S__init__⟩)
    (e_S__init__ : PySem.W.codeIn K cd_S__init__ "Stream.__init__" = true)
    (k_S__init__ : PySem.W.keepIn K (.ref f_S__init__) = true)
    (a_Slimit : PySem.W.findIn K (.ref C_Stream) "limit" = some (some (.ref f_Slimit)))
    (i_Slimit : PySem.W.isFn K (.ref f_Slimit) = true)
    (l_Slimit : K.lookup f_Slimit = some ⟨oc_Slimit, od_Slimit, .func (PySem.W.fnOf "limit" "Stream.limit" (defArgs (inClass (topS 56) 1)) (defBody (inClass (topS 56) 1)) (defScope (inClass (topS 56) 1)) .none kV_Slimit dc_Slimit pm_Slimit an_Slimit cd_Slimit ct_Slimit), sl_Slimit⟩)
    (e_Slimit : PySem.W.codeIn K cd_Slimit "Stream.limit" = true)
    (k_Slimit : PySem.W.keepIn K (.ref f_Slimit) = true)
    (a_Sclosed : PySem.W.findIn K (.ref C_Stream) "closed" = some (some (.ref f_Sclosed)))
    (i_Sclosed : PySem.W.isFn K (.ref f_Sclosed) = true)
    (l_Sclosed : K.lookup f_Sclosed = some ⟨oc_Sclosed, od_Sclosed, .func (PySem.W.fnOf "closed" "Stream.closed" (defArgs (inClass (topS 56) 2)) (defBody (inClass (topS 56) 2)) (defScope (inClass (topS 56) 2)) .none kV_Sclosed dc_Sclosed pm_Sclosed an_Sclosed cd_Sclosed ct_Sclosed), sl_Sclosed⟩)
    (e_Sclosed : PySem.W.codeIn K cd_Sclosed "Stream.closed" = true)
    (k_Sclosed : PySem.W.keepIn K (.ref f_Sclosed) = true)
    (a_Spush : PySem.W.findIn K (.ref C_Stream) "push" = some (some (.ref f_Spush)))
    (i_Spush : PySem.W.isFn K (.ref f_Spush) = true)
    (l_Spush : K.lookup f_Spush = some ⟨oc_Spush, od_Spush, .func (PySem.W.fnOf "push" "Stream.push" (defArgs (inClass (topS 56) 3)) (defBody (inClass (topS 56) 3)) (defScope (inClass (topS 56) 3)) .none kV_Spush dc_Spush pm_Spush an_Spush cd_Spush ct_Spush), sl_Spush⟩)
    (e_Spush : PySem.W.codeIn K cd_Spush "Stream.push" = true)
    (k_Spush : PySem.W.keepIn K (.ref f_Spush) = true)
    (a_Sfinish : PySem.W.findIn K (.ref C_Stream) "finish" = some (some (.ref f_Sfinish)))
    (i_Sfinish : PySem.W.isFn K (.ref f_Sfinish) = true)
    (l_Sfinish : K.lookup f_Sfinish = some ⟨oc_Sfinish, od_Sfinish, .func (PySem.W.fnOf "finish" "Stream.finish" (defArgs (inClass (topS 56) 4)) (defBody (inClass (topS 56) 4)) (defScope (inClass (topS 56) 4)) .none kV_Sfinish dc_Sfinish pm_Sfinish an_Sfinish cd_Sfinish ct_Sfinish), sl_Sfinish⟩)
    (e_Sfinish : PySem.W.codeIn K cd_Sfinish "Stream.finish" = true)
    (k_Sfinish : PySem.W.keepIn K (.ref f_Sfinish) = true)
    (a_Sopen_groups : PySem.W.findIn K (.ref C_Stream) "open_groups" = some (some (.ref f_Sopen_groups)))
    (i_Sopen_groups : PySem.W.isFn K (.ref f_Sopen_groups) = true)
    (l_Sopen_groups : K.lookup f_Sopen_groups = some ⟨oc_Sopen_groups, od_Sopen_groups, .func (PySem.W.fnOf "open_groups" "Stream.open_groups" (defArgs (inClass (topS 56) 5)) (defBody (inClass (topS 56) 5)) (defScope (inClass (topS 56) 5)) .none kV_Sopen_groups dc_Sopen_groups pm_Sopen_groups an_Sopen_groups cd_Sopen_groups ct_Sopen_groups), sl_Sopen_groups⟩)
    (e_Sopen_groups : PySem.W.codeIn K cd_Sopen_groups "Stream.open_groups" = true)
    (k_Sopen_groups : PySem.W.keepIn K (.ref f_Sopen_groups) = true)
    (a_S__len__ : PySem.W.findIn K (.ref C_Stream) "__len__" = some (some (.ref f_S__len__)))
    (i_S__len__ : PySem.W.isFn K (.ref f_S__len__) = true)
    (l_S__len__ : K.lookup f_S__len__ = some ⟨oc_S__len__, od_S__len__, .func (PySem.W.fnOf "__len__" "Stream.__len__" (defArgs (inClass (topS 56) 6)) (defBody (inClass (topS 56) 6)) (defScope (inClass (topS 56) 6)) .none kV_S__len__ dc_S__len__ pm_S__len__ an_S__len__ cd_S__len__ ct_S__len__), sl_S__len__⟩)
    (e_S__len__ : PySem.W.codeIn K cd_S__len__ "Stream.__len__" = true)
    (k_S__len__ : PySem.W.keepIn K (.ref f_S__len__) = true)
    (a_is_int : PySem.W.nsIn K mainGlobals "is_int" = some (some (.ref f_is_int)))
    (l_is_int : K.lookup f_is_int = some ⟨oc_is_int, od_is_int, .func (PySem.W.fnOf "is_int" "is_int" (defArgs (topS 10)) (defBody (topS 10)) (defScope (topS 10)) .none kV_is_int dc_is_int pm_is_int an_is_int cd_is_int ct_is_int), sl_is_int⟩)
    (e_is_int : PySem.W.codeIn K cd_is_int "is_int" = true)
    (k_is_int : PySem.W.keepIn K (.ref f_is_int) = true)
    (a_is_moments : PySem.W.nsIn K mainGlobals "is_moments" = some (some (.ref f_is_moments)))
    (l_is_moments : K.lookup f_is_moments = some ⟨oc_is_moments, od_is_moments, .func (PySem.W.fnOf "is_moments" "is_moments" (defArgs (topS 11)) (defBody (topS 11)) (defScope (topS 11)) .none kV_is_moments dc_is_moments pm_is_moments an_is_moments cd_is_moments ct_is_moments), sl_is_moments⟩)
    (e_is_moments : PySem.W.codeIn K cd_is_moments "is_moments" = true)
    (k_is_moments : PySem.W.keepIn K (.ref f_is_moments) = true)
    (a_check_moments : PySem.W.nsIn K mainGlobals "check_moments" = some (some (.ref f_check_moments)))
    (l_check_moments : K.lookup f_check_moments = some ⟨oc_check_moments, od_check_moments, .func (PySem.W.fnOf "check_moments" "check_moments" (defArgs (topS 12)) (defBody (topS 12)) (defScope (topS 12)) .none kV_check_moments dc_check_moments pm_check_moments an_check_moments cd_check_moments ct_check_moments), sl_check_moments⟩)
    (e_check_moments : PySem.W.codeIn K cd_check_moments "check_moments" = true)
    (k_check_moments : PySem.W.keepIn K (.ref f_check_moments) = true)
    (a_check_gap : PySem.W.nsIn K mainGlobals "check_gap" = some (some (.ref f_check_gap)))
    (l_check_gap : K.lookup f_check_gap = some ⟨oc_check_gap, od_check_gap, .func (PySem.W.fnOf "check_gap" "check_gap" (defArgs (topS 13)) (defBody (topS 13)) (defScope (topS 13)) .none kV_check_gap dc_check_gap pm_check_gap an_check_gap cd_check_gap ct_check_gap), sl_check_gap⟩)
    (e_check_gap : PySem.W.codeIn K cd_check_gap "check_gap" = true)
    (k_check_gap : PySem.W.keepIn K (.ref f_check_gap) = true)
    (a_check_place : PySem.W.nsIn K mainGlobals "check_place" = some (some (.ref f_check_place)))
    (l_check_place : K.lookup f_check_place = some ⟨oc_check_place, od_check_place, .func (PySem.W.fnOf "check_place" "check_place" (defArgs (topS 14)) (defBody (topS 14)) (defScope (topS 14)) .none kV_check_place dc_check_place pm_check_place an_check_place cd_check_place ct_check_place), sl_check_place⟩)
    (e_check_place : PySem.W.codeIn K cd_check_place "check_place" = true)
    (k_check_place : PySem.W.keepIn K (.ref f_check_place) = true)
    (a_is_groups : PySem.W.nsIn K mainGlobals "is_groups" = some (some (.ref f_is_groups)))
    (l_is_groups : K.lookup f_is_groups = some ⟨oc_is_groups, od_is_groups, .func (PySem.W.fnOf "is_groups" "is_groups" (defArgs (topS 15)) (defBody (topS 15)) (defScope (topS 15)) .none kV_is_groups dc_is_groups pm_is_groups an_is_groups cd_is_groups ct_is_groups), sl_is_groups⟩)
    (e_is_groups : PySem.W.codeIn K cd_is_groups "is_groups" = true)
    (k_is_groups : PySem.W.keepIn K (.ref f_is_groups) = true)
    (a_steps_of : PySem.W.nsIn K mainGlobals "steps_of" = some (some (.ref f_steps_of)))
    (l_steps_of : K.lookup f_steps_of = some ⟨oc_steps_of, od_steps_of, .func (PySem.W.fnOf "steps_of" "steps_of" (defArgs (topS 17)) (defBody (topS 17)) (defScope (topS 17)) .none kV_steps_of dc_steps_of pm_steps_of an_steps_of cd_steps_of ct_steps_of), sl_steps_of⟩)
    (e_steps_of : PySem.W.codeIn K cd_steps_of "steps_of" = true)
    (k_steps_of : PySem.W.keepIn K (.ref f_steps_of) = true)
    (a_between : PySem.W.nsIn K mainGlobals "between" = some (some (.ref f_between)))
    (l_between : K.lookup f_between = some ⟨oc_between, od_between, .func (PySem.W.fnOf "between" "between" (defArgs (topS 18)) (defBody (topS 18)) (defScope (topS 18)) .none kV_between dc_between pm_between an_between cd_between ct_between), sl_between⟩)
    (e_between : PySem.W.codeIn K cd_between "between" = true)
    (k_between : PySem.W.keepIn K (.ref f_between) = true)
    (a_check_groups : PySem.W.nsIn K mainGlobals "check_groups" = some (some (.ref f_check_groups)))
    (l_check_groups : K.lookup f_check_groups = some ⟨oc_check_groups, od_check_groups, .func (PySem.W.fnOf "check_groups" "check_groups" (defArgs (topS 20)) (defBody (topS 20)) (defScope (topS 20)) .none kV_check_groups dc_check_groups pm_check_groups an_check_groups cd_check_groups ct_check_groups), sl_check_groups⟩)
    (e_check_groups : PySem.W.codeIn K cd_check_groups "check_groups" = true)
    (k_check_groups : PySem.W.keepIn K (.ref f_check_groups) = true)
    (a_whole_of : PySem.W.nsIn K mainGlobals "whole_of" = some (some (.ref f_whole_of)))
    (l_whole_of : K.lookup f_whole_of = some ⟨oc_whole_of, od_whole_of, .func (PySem.W.fnOf "whole_of" "whole_of" (defArgs (topS 21)) (defBody (topS 21)) (defScope (topS 21)) .none kV_whole_of dc_whole_of pm_whole_of an_whole_of cd_whole_of ct_whole_of), sl_whole_of⟩)
    (e_whole_of : PySem.W.codeIn K cd_whole_of "whole_of" = true)
    (k_whole_of : PySem.W.keepIn K (.ref f_whole_of) = true)
    (a_inner_and_outer : PySem.W.nsIn K mainGlobals "inner_and_outer" = some (some (.ref f_inner_and_outer)))
    (l_inner_and_outer : K.lookup f_inner_and_outer = some ⟨oc_inner_and_outer, od_inner_and_outer, .func (PySem.W.fnOf "inner_and_outer" "inner_and_outer" (defArgs (topS 22)) (defBody (topS 22)) (defScope (topS 22)) .none kV_inner_and_outer dc_inner_and_outer pm_inner_and_outer an_inner_and_outer cd_inner_and_outer ct_inner_and_outer), sl_inner_and_outer⟩)
    (e_inner_and_outer : PySem.W.codeIn K cd_inner_and_outer "inner_and_outer" = true)
    (k_inner_and_outer : PySem.W.keepIn K (.ref f_inner_and_outer) = true)
    (a_gap_range : PySem.W.nsIn K mainGlobals "gap_range" = some (some (.ref f_gap_range)))
    (l_gap_range : K.lookup f_gap_range = some ⟨oc_gap_range, od_gap_range, .func (PySem.W.fnOf "gap_range" "gap_range" (defArgs (topS 23)) (defBody (topS 23)) (defScope (topS 23)) .none kV_gap_range dc_gap_range pm_gap_range an_gap_range cd_gap_range ct_gap_range), sl_gap_range⟩)
    (e_gap_range : PySem.W.codeIn K cd_gap_range "gap_range" = true)
    (k_gap_range : PySem.W.keepIn K (.ref f_gap_range) = true)
    (a_are_groups : PySem.W.nsIn K mainGlobals "are_groups" = some (some (.ref f_are_groups)))
    (l_are_groups : K.lookup f_are_groups = some ⟨oc_are_groups, od_are_groups, .func (PySem.W.fnOf "are_groups" "are_groups" (defArgs (topS 24)) (defBody (topS 24)) (defScope (topS 24)) .none kV_are_groups dc_are_groups pm_are_groups an_are_groups cd_are_groups ct_are_groups), sl_are_groups⟩)
    (e_are_groups : PySem.W.codeIn K cd_are_groups "are_groups" = true)
    (k_are_groups : PySem.W.keepIn K (.ref f_are_groups) = true)
    (a_against : PySem.W.nsIn K mainGlobals "against" = some (some (.ref f_against)))
    (l_against : K.lookup f_against = some ⟨oc_against, od_against, .func (PySem.W.fnOf "against" "against" (defArgs (topS 25)) (defBody (topS 25)) (defScope (topS 25)) .none kV_against dc_against pm_against an_against cd_against ct_against), sl_against⟩)
    (e_against : PySem.W.codeIn K cd_against "against" = true)
    (k_against : PySem.W.keepIn K (.ref f_against) = true)
    (a_moments_of : PySem.W.nsIn K mainGlobals "moments_of" = some (some (.ref f_moments_of)))
    (l_moments_of : K.lookup f_moments_of = some ⟨oc_moments_of, od_moments_of, .func (PySem.W.fnOf "moments_of" "moments_of" (defArgs (topS 26)) (defBody (topS 26)) (defScope (topS 26)) .none kV_moments_of dc_moments_of pm_moments_of an_moments_of cd_moments_of ct_moments_of), sl_moments_of⟩)
    (e_moments_of : PySem.W.codeIn K cd_moments_of "moments_of" = true)
    (k_moments_of : PySem.W.keepIn K (.ref f_moments_of) = true)
    (a_bounded_range : PySem.W.nsIn K mainGlobals "bounded_range" = some (some (.ref f_bounded_range)))
    (l_bounded_range : K.lookup f_bounded_range = some ⟨oc_bounded_range, od_bounded_range, .func (PySem.W.fnOf "bounded_range" "bounded_range" (defArgs (topS 27)) (defBody (topS 27)) (defScope (topS 27)) .none kV_bounded_range dc_bounded_range pm_bounded_range an_bounded_range cd_bounded_range ct_bounded_range), sl_bounded_range⟩)
    (e_bounded_range : PySem.W.codeIn K cd_bounded_range "bounded_range" = true)
    (k_bounded_range : PySem.W.keepIn K (.ref f_bounded_range) = true)
    (a_grouped : PySem.W.nsIn K mainGlobals "grouped" = some (some (.ref f_grouped)))
    (l_grouped : K.lookup f_grouped = some ⟨oc_grouped, od_grouped, .func (PySem.W.fnOf "grouped" "grouped" (defArgs (topS 29)) (defBody (topS 29)) (defScope (topS 29)) .none kV_grouped dc_grouped pm_grouped an_grouped cd_grouped ct_grouped), sl_grouped⟩)
    (e_grouped : PySem.W.codeIn K cd_grouped "grouped" = true)
    (k_grouped : PySem.W.keepIn K (.ref f_grouped) = true)
    (a_gaps_for : PySem.W.nsIn K mainGlobals "gaps_for" = some (some (.ref f_gaps_for)))
    (l_gaps_for : K.lookup f_gaps_for = some ⟨oc_gaps_for, od_gaps_for, .func (PySem.W.fnOf "gaps_for" "gaps_for" (defArgs (topS 31)) (defBody (topS 31)) (defScope (topS 31)) .none kV_gaps_for dc_gaps_for pm_gaps_for an_gaps_for cd_gaps_for ct_gaps_for), sl_gaps_for⟩)
    (e_gaps_for : PySem.W.codeIn K cd_gaps_for "gaps_for" = true)
    (k_gaps_for : PySem.W.keepIn K (.ref f_gaps_for) = true)
    (a_checked : PySem.W.nsIn K mainGlobals "checked" = some (some (.ref f_checked)))
    (l_checked : K.lookup f_checked = some ⟨oc_checked, od_checked, .func (PySem.W.fnOf "checked" "checked" (defArgs (topS 33)) (defBody (topS 33)) (defScope (topS 33)) .none kV_checked dc_checked pm_checked an_checked cd_checked ct_checked), sl_checked⟩)
    (e_checked : PySem.W.codeIn K cd_checked "checked" = true)
    (k_checked : PySem.W.keepIn K (.ref f_checked) = true)
    (a_check_moment : PySem.W.nsIn K mainGlobals "check_moment" = some (some (.ref f_check_moment)))
    (l_check_moment : K.lookup f_check_moment = some ⟨oc_check_moment, od_check_moment, .func (PySem.W.fnOf "check_moment" "check_moment" (defArgs (topS 34)) (defBody (topS 34)) (defScope (topS 34)) .none kV_check_moment dc_check_moment pm_check_moment an_check_moment cd_check_moment ct_check_moment), sl_check_moment⟩)
    (e_check_moment : PySem.W.codeIn K cd_check_moment "check_moment" = true)
    (k_check_moment : PySem.W.keepIn K (.ref f_check_moment) = true)
    (a_with_moment : PySem.W.nsIn K mainGlobals "with_moment" = some (some (.ref f_with_moment)))
    (l_with_moment : K.lookup f_with_moment = some ⟨oc_with_moment, od_with_moment, .func (PySem.W.fnOf "with_moment" "with_moment" (defArgs (topS 35)) (defBody (topS 35)) (defScope (topS 35)) .none kV_with_moment dc_with_moment pm_with_moment an_with_moment cd_with_moment ct_with_moment), sl_with_moment⟩)
    (e_with_moment : PySem.W.codeIn K cd_with_moment "with_moment" = true)
    (k_with_moment : PySem.W.keepIn K (.ref f_with_moment) = true)
    (a_without_moment : PySem.W.nsIn K mainGlobals "without_moment" = some (some (.ref f_without_moment)))
    (l_without_moment : K.lookup f_without_moment = some ⟨oc_without_moment, od_without_moment, .func (PySem.W.fnOf "without_moment" "without_moment" (defArgs (topS 36)) (defBody (topS 36)) (defScope (topS 36)) .none kV_without_moment dc_without_moment pm_without_moment an_without_moment cd_without_moment ct_without_moment), sl_without_moment⟩)
    (e_without_moment : PySem.W.codeIn K cd_without_moment "without_moment" = true)
    (k_without_moment : PySem.W.keepIn K (.ref f_without_moment) = true)
    (a_merged : PySem.W.nsIn K mainGlobals "merged" = some (some (.ref f_merged)))
    (l_merged : K.lookup f_merged = some ⟨oc_merged, od_merged, .func (PySem.W.fnOf "merged" "merged" (defArgs (topS 37)) (defBody (topS 37)) (defScope (topS 37)) .none kV_merged dc_merged pm_merged an_merged cd_merged ct_merged), sl_merged⟩)
    (e_merged : PySem.W.codeIn K cd_merged "merged" = true)
    (k_merged : PySem.W.keepIn K (.ref f_merged) = true)
    (a_moved : PySem.W.nsIn K mainGlobals "moved" = some (some (.ref f_moved)))
    (l_moved : K.lookup f_moved = some ⟨oc_moved, od_moved, .func (PySem.W.fnOf "moved" "moved" (defArgs (topS 38)) (defBody (topS 38)) (defScope (topS 38)) .none kV_moved dc_moved pm_moved an_moved cd_moved ct_moved), sl_moved⟩)
    (e_moved : PySem.W.codeIn K cd_moved "moved" = true)
    (k_moved : PySem.W.keepIn K (.ref f_moved) = true)
    (a_scaled : PySem.W.nsIn K mainGlobals "scaled" = some (some (.ref f_scaled)))
    (l_scaled : K.lookup f_scaled = some ⟨oc_scaled, od_scaled, .func (PySem.W.fnOf "scaled" "scaled" (defArgs (topS 39)) (defBody (topS 39)) (defScope (topS 39)) .none kV_scaled dc_scaled pm_scaled an_scaled cd_scaled ct_scaled), sl_scaled⟩)
    (e_scaled : PySem.W.codeIn K cd_scaled "scaled" = true)
    (k_scaled : PySem.W.keepIn K (.ref f_scaled) = true)
    (a_is_numbers : PySem.W.nsIn K mainGlobals "is_numbers" = some (some (.ref f_is_numbers)))
    (l_is_numbers : K.lookup f_is_numbers = some ⟨oc_is_numbers, od_is_numbers, .func (PySem.W.fnOf "is_numbers" "is_numbers" (defArgs (topS 42)) (defBody (topS 42)) (defScope (topS 42)) .none kV_is_numbers dc_is_numbers pm_is_numbers an_is_numbers cd_is_numbers ct_is_numbers), sl_is_numbers⟩)
    (e_is_numbers : PySem.W.codeIn K cd_is_numbers "is_numbers" = true)
    (k_is_numbers : PySem.W.keepIn K (.ref f_is_numbers) = true)
    (a_check_numbers : PySem.W.nsIn K mainGlobals "check_numbers" = some (some (.ref f_check_numbers)))
    (l_check_numbers : K.lookup f_check_numbers = some ⟨oc_check_numbers, od_check_numbers, .func (PySem.W.fnOf "check_numbers" "check_numbers" (defArgs (topS 43)) (defBody (topS 43)) (defScope (topS 43)) .none kV_check_numbers dc_check_numbers pm_check_numbers an_check_numbers cd_check_numbers ct_check_numbers), sl_check_numbers⟩)
    (e_check_numbers : PySem.W.codeIn K cd_check_numbers "check_numbers" = true)
    (k_check_numbers : PySem.W.keepIn K (.ref f_check_numbers) = true)
    (a_falls : PySem.W.nsIn K mainGlobals "falls" = some (some (.ref f_falls)))
    (l_falls : K.lookup f_falls = some ⟨oc_falls, od_falls, .func (PySem.W.fnOf "falls" "falls" (defArgs (topS 44)) (defBody (topS 44)) (defScope (topS 44)) .none kV_falls dc_falls pm_falls an_falls cd_falls ct_falls), sl_falls⟩)
    (e_falls : PySem.W.codeIn K cd_falls "falls" = true)
    (k_falls : PySem.W.keepIn K (.ref f_falls) = true)
    (a_can_be : PySem.W.nsIn K mainGlobals "can_be" = some (some (.ref f_can_be)))
    (l_can_be : K.lookup f_can_be = some ⟨oc_can_be, od_can_be, .func (PySem.W.fnOf "can_be" "can_be" (defArgs (topS 45)) (defBody (topS 45)) (defScope (topS 45)) .none kV_can_be dc_can_be pm_can_be an_can_be cd_can_be ct_can_be), sl_can_be⟩)
    (e_can_be : PySem.W.codeIn K cd_can_be "can_be" = true)
    (k_can_be : PySem.W.keepIn K (.ref f_can_be) = true)
    (a_steps_with : PySem.W.nsIn K mainGlobals "steps_with" = some (some (.ref f_steps_with)))
    (l_steps_with : K.lookup f_steps_with = some ⟨oc_steps_with, od_steps_with, .func (PySem.W.fnOf "steps_with" "steps_with" (defArgs (topS 46)) (defBody (topS 46)) (defScope (topS 46)) .none kV_steps_with dc_steps_with pm_steps_with an_steps_with cd_steps_with ct_steps_with), sl_steps_with⟩)
    (e_steps_with : PySem.W.codeIn K cd_steps_with "steps_with" = true)
    (k_steps_with : PySem.W.keepIn K (.ref f_steps_with) = true)
    (a_moments_with : PySem.W.nsIn K mainGlobals "moments_with" = some (some (.ref f_moments_with)))
    (l_moments_with : K.lookup f_moments_with = some ⟨oc_moments_with, od_moments_with, .func (PySem.W.fnOf "moments_with" "moments_with" (defArgs (topS 47)) (defBody (topS 47)) (defScope (topS 47)) .none kV_moments_with dc_moments_with pm_moments_with an_moments_with cd_moments_with ct_moments_with), sl_moments_with⟩)
    (e_moments_with : PySem.W.codeIn K cd_moments_with "moments_with" = true)
    (k_moments_with : PySem.W.keepIn K (.ref f_moments_with) = true)
    (a_orders : PySem.W.nsIn K mainGlobals "orders" = some (some (.ref f_orders)))
    (l_orders : K.lookup f_orders = some ⟨oc_orders, od_orders, .func (PySem.W.fnOf "orders" "orders" (defArgs (topS 48)) (defBody (topS 48)) (defScope (topS 48)) .none kV_orders dc_orders pm_orders an_orders cd_orders ct_orders), sl_orders⟩)
    (e_orders : PySem.W.codeIn K cd_orders "orders" = true)
    (k_orders : PySem.W.keepIn K (.ref f_orders) = true)
    (a_count_moments : PySem.W.nsIn K mainGlobals "count_moments" = some (some (.ref f_count_moments)))
    (l_count_moments : K.lookup f_count_moments = some ⟨oc_count_moments, od_count_moments, .func (PySem.W.fnOf "count_moments" "count_moments" (defArgs (topS 49)) (defBody (topS 49)) (defScope (topS 49)) .none kV_count_moments dc_count_moments pm_count_moments an_count_moments cd_count_moments ct_count_moments), sl_count_moments⟩)
    (e_count_moments : PySem.W.codeIn K cd_count_moments "count_moments" = true)
    (k_count_moments : PySem.W.keepIn K (.ref f_count_moments) = true)
    (a_least_length : PySem.W.nsIn K mainGlobals "least_length" = some (some (.ref f_least_length)))
    (l_least_length : K.lookup f_least_length = some ⟨oc_least_length, od_least_length, .func (PySem.W.fnOf "least_length" "least_length" (defArgs (topS 50)) (defBody (topS 50)) (defScope (topS 50)) .none kV_least_length dc_least_length pm_least_length an_least_length cd_least_length ct_least_length), sl_least_length⟩)
    (e_least_length : PySem.W.codeIn K cd_least_length "least_length" = true)
    (k_least_length : PySem.W.keepIn K (.ref f_least_length) = true)
    (a_check_day : PySem.W.nsIn K mainGlobals "check_day" = some (some (.ref f_check_day)))
    (l_check_day : K.lookup f_check_day = some ⟨oc_check_day, od_check_day, .func (PySem.W.fnOf "check_day" "check_day" (defArgs (topS 52)) (defBody (topS 52)) (defScope (topS 52)) .none kV_check_day dc_check_day pm_check_day an_check_day cd_check_day ct_check_day), sl_check_day⟩)
    (e_check_day : PySem.W.codeIn K cd_check_day "check_day" = true)
    (k_check_day : PySem.W.keepIn K (.ref f_check_day) = true)
    (a_groups_of_days : PySem.W.nsIn K mainGlobals "groups_of_days" = some (some (.ref f_groups_of_days)))
    (l_groups_of_days : K.lookup f_groups_of_days = some ⟨oc_groups_of_days, od_groups_of_days, .func (PySem.W.fnOf "groups_of_days" "groups_of_days" (defArgs (topS 53)) (defBody (topS 53)) (defScope (topS 53)) .none kV_groups_of_days dc_groups_of_days pm_groups_of_days an_groups_of_days cd_groups_of_days ct_groups_of_days), sl_groups_of_days⟩)
    (e_groups_of_days : PySem.W.codeIn K cd_groups_of_days "groups_of_days" = true)
    (k_groups_of_days : PySem.W.keepIn K (.ref f_groups_of_days) = true)
    (a_over_night : PySem.W.nsIn K mainGlobals "over_night" = some (some (.ref f_over_night)))
    (l_over_night : K.lookup f_over_night = some ⟨oc_over_night, od_over_night, .func (PySem.W.fnOf "over_night" "over_night" (defArgs (topS 54)) (defBody (topS 54)) (defScope (topS 54)) .none kV_over_night dc_over_night pm_over_night an_over_night cd_over_night ct_over_night), sl_over_night⟩)
    (e_over_night : PySem.W.codeIn K cd_over_night "over_night" = true)
    (k_over_night : PySem.W.keepIn K (.ref f_over_night) = true)
    (a_format_groups : PySem.W.nsIn K mainGlobals "format_groups" = some (some (.ref f_format_groups)))
    (l_format_groups : K.lookup f_format_groups = some ⟨oc_format_groups, od_format_groups, .func (PySem.W.fnOf "format_groups" "format_groups" (defArgs (topS 58)) (defBody (topS 58)) (defScope (topS 58)) .none kV_format_groups dc_format_groups pm_format_groups an_format_groups cd_format_groups ct_format_groups), sl_format_groups⟩)
    (e_format_groups : PySem.W.codeIn K cd_format_groups "format_groups" = true)
    (k_format_groups : PySem.W.keepIn K (.ref f_format_groups) = true)
    (a__law_start : PySem.W.nsIn K mainGlobals "_law_start" = some (some (.ref f__law_start)))
    (l__law_start : K.lookup f__law_start = some ⟨oc__law_start, od__law_start, .func (PySem.W.fnOf "_law_start" "_law_start" (defArgs (topS 60)) (defBody (topS 60)) (defScope (topS 60)) .none kV__law_start dc__law_start pm__law_start an__law_start cd__law_start ct__law_start), sl__law_start⟩)
    (e__law_start : PySem.W.codeIn K cd__law_start "_law_start" = true)
    (k__law_start : PySem.W.keepIn K (.ref f__law_start) = true)
    (a__law_draw : PySem.W.nsIn K mainGlobals "_law_draw" = some (some (.ref f__law_draw)))
    (l__law_draw : K.lookup f__law_draw = some ⟨oc__law_draw, od__law_draw, .func (PySem.W.fnOf "_law_draw" "_law_draw" (defArgs (topS 61)) (defBody (topS 61)) (defScope (topS 61)) .none kV__law_draw dc__law_draw pm__law_draw an__law_draw cd__law_draw ct__law_draw), sl__law_draw⟩)
    (e__law_draw : PySem.W.codeIn K cd__law_draw "_law_draw" = true)
    (k__law_draw : PySem.W.keepIn K (.ref f__law_draw) = true)
    (a__law_error : PySem.W.nsIn K mainGlobals "_law_error" = some (some (.ref f__law_error)))
    (l__law_error : K.lookup f__law_error = some ⟨oc__law_error, od__law_error, .func (PySem.W.fnOf "_law_error" "_law_error" (defArgs (topS 62)) (defBody (topS 62)) (defScope (topS 62)) .none kV__law_error dc__law_error pm__law_error an__law_error cd__law_error ct__law_error), sl__law_error⟩)
    (e__law_error : PySem.W.codeIn K cd__law_error "_law_error" = true)
    (k__law_error : PySem.W.keepIn K (.ref f__law_error) = true)
    (a__law_call : PySem.W.nsIn K mainGlobals "_law_call" = some (some (.ref f__law_call)))
    (l__law_call : K.lookup f__law_call = some ⟨oc__law_call, od__law_call, .func (PySem.W.fnOf "_law_call" "_law_call" (defArgs (topS 63)) (defBody (topS 63)) (defScope (topS 63)) .none kV__law_call dc__law_call pm__law_call an__law_call cd__law_call ct__law_call), sl__law_call⟩)
    (e__law_call : PySem.W.codeIn K cd__law_call "_law_call" = true)
    (k__law_call : PySem.W.keepIn K (.ref f__law_call) = true)
    (a__law_asked : PySem.W.nsIn K mainGlobals "_law_asked" = some (some (.ref f__law_asked)))
    (l__law_asked : K.lookup f__law_asked = some ⟨oc__law_asked, od__law_asked, .func (PySem.W.fnOf "_law_asked" "_law_asked" (defArgs (topS 64)) (defBody (topS 64)) (defScope (topS 64)) .none kV__law_asked dc__law_asked pm__law_asked an__law_asked cd__law_asked ct__law_asked), sl__law_asked⟩)
    (e__law_asked : PySem.W.codeIn K cd__law_asked "_law_asked" = true)
    (k__law_asked : PySem.W.keepIn K (.ref f__law_asked) = true)
    (a__law_stream : PySem.W.nsIn K mainGlobals "_law_stream" = some (some (.ref f__law_stream)))
    (l__law_stream : K.lookup f__law_stream = some ⟨oc__law_stream, od__law_stream, .func (PySem.W.fnOf "_law_stream" "_law_stream" (defArgs (topS 65)) (defBody (topS 65)) (defScope (topS 65)) .none kV__law_stream dc__law_stream pm__law_stream an__law_stream cd__law_stream ct__law_stream), sl__law_stream⟩)
    (e__law_stream : PySem.W.codeIn K cd__law_stream "_law_stream" = true)
    (k__law_stream : PySem.W.keepIn K (.ref f__law_stream) = true)
    (a__law_numbers : PySem.W.nsIn K mainGlobals "_law_numbers" = some (some (.ref f__law_numbers)))
    (l__law_numbers : K.lookup f__law_numbers = some ⟨oc__law_numbers, od__law_numbers, .func (PySem.W.fnOf "_law_numbers" "_law_numbers" (defArgs (topS 66)) (defBody (topS 66)) (defScope (topS 66)) .none kV__law_numbers dc__law_numbers pm__law_numbers an__law_numbers cd__law_numbers ct__law_numbers), sl__law_numbers⟩)
    (e__law_numbers : PySem.W.codeIn K cd__law_numbers "_law_numbers" = true)
    (k__law_numbers : PySem.W.keepIn K (.ref f__law_numbers) = true)
    (a_law : PySem.W.nsIn K mainGlobals "law" = some (some (.ref f_law)))
    (l_law : K.lookup f_law = some ⟨oc_law, od_law, .func (PySem.W.fnOf "law" "law" (defArgs (topS 67)) (defBody (topS 67)) (defScope (topS 67)) .none kV_law dc_law pm_law an_law cd_law ct_law), sl_law⟩)
    (e_law : PySem.W.codeIn K cd_law "law" = true)
    (k_law : PySem.W.keepIn K (.ref f_law) = true) :
    ∃ fd : FuncData, (∀ (s : Shared) (v : Value), BindsTo s fd ⟨[v], []⟩ [("script", v)]) ∧ ∀ base : Heap, K.In base → base.Ns mainGlobals mg → FnOk P w K mg base (L2.CX P w) 10 fa fd ["script"] (spLaw K) := by
  have T : Tp K mg ⟨fun k => match k with | .mo => C_BadMoments | .nu => C_BadNumber | .gr => C_BadGroups | .la => C_TooLate | .te => C_BadText | .no => C_NotFound, C_Stream⟩ := ⟨bt_mk X G z0 z1 z2 z3 z4 z5 z6 z7 z8 z9 z10 z11 z12 z13 z14 z15, ⟨_, PySem.W.mg_of X G c_MOST_MOMENTS⟩, ⟨_, PySem.W.mg_of X G c_MOST_MOMENT⟩, ⟨_, PySem.W.mg_of X G c_MOST_NUMBERS⟩, ⟨PySem.W.mg_of X G xg_BadMoments, xx_BadMoments, xk_BadMoments, xb_BadMoments, xt_BadMoments⟩, ⟨PySem.W.mg_of X G xg_BadNumber, xx_BadNumber, xk_BadNumber, xb_BadNumber, xt_BadNumber⟩, ⟨PySem.W.mg_of X G xg_BadGroups, xx_BadGroups, xk_BadGroups, xb_BadGroups, xt_BadGroups⟩, ⟨PySem.W.mg_of X G xg_TooLate, xx_TooLate, xk_TooLate, xb_TooLate, xt_TooLate⟩, ⟨PySem.W.mg_of X G xg_BadText, xx_BadText, xk_BadText, xb_BadText, xt_BadText⟩, ⟨PySem.W.mg_of X G xg_NotFound, xx_NotFound, xk_NotFound, xb_NotFound, xt_NotFound⟩, ⟨_, PySem.W.mg_of X G eg, ⟨fun k => match k with | .mo => ⟨e1_mo, e2_mo, xb_BadMoments, e3_mo, e4_mo, en, et, e5_mo⟩ | .nu => ⟨e1_nu, e2_nu, xb_BadNumber, e3_nu, e4_nu, en, et, e5_nu⟩ | .gr => ⟨e1_gr, e2_gr, xb_BadGroups, e3_gr, e4_gr, en, et, e5_gr⟩ | .la => ⟨e1_la, e2_la, xb_TooLate, e3_la, e4_la, en, et, e5_la⟩ | .te => ⟨e1_te, e2_te, xb_BadText, e3_te, e4_te, en, et, e5_te⟩ | .no => ⟨e1_no, e2_no, xb_NotFound, e3_no, e4_no, en, et, e5_no⟩, fun k k2 => match k, k2 with | .mo, .mo => kit_r e3_mo xt_BadMoments e9_mo_mo e9_mo_mo | .mo, .nu => kit_r e3_nu xt_BadNumber e9_mo_nu e9_mo_mo | .mo, .gr => kit_r e3_gr xt_BadGroups e9_mo_gr e9_mo_mo | .mo, .la => kit_r e3_la xt_TooLate e9_mo_la e9_mo_mo | .mo, .te => kit_r e3_te xt_BadText e9_mo_te e9_mo_mo | .mo, .no => kit_r e3_no xt_NotFound e9_mo_no e9_mo_mo | .nu, .mo => kit_r e3_mo xt_BadMoments e9_nu_mo e9_nu_nu | .nu, .nu => kit_r e3_nu xt_BadNumber e9_nu_nu e9_nu_nu | .nu, .gr => kit_r e3_gr xt_BadGroups e9_nu_gr e9_nu_nu | .nu, .la => kit_r e3_la xt_TooLate e9_nu_la e9_nu_nu | .nu, .te => kit_r e3_te xt_BadText e9_nu_te e9_nu_nu | .nu, .no => kit_r e3_no xt_NotFound e9_nu_no e9_nu_nu | .gr, .mo => kit_r e3_mo xt_BadMoments e9_gr_mo e9_gr_gr | .gr, .nu => kit_r e3_nu xt_BadNumber e9_gr_nu e9_gr_gr | .gr, .gr => kit_r e3_gr xt_BadGroups e9_gr_gr e9_gr_gr | .gr, .la => kit_r e3_la xt_TooLate e9_gr_la e9_gr_gr | .gr, .te => kit_r e3_te xt_BadText e9_gr_te e9_gr_gr | .gr, .no => kit_r e3_no xt_NotFound e9_gr_no e9_gr_gr | .la, .mo => kit_r e3_mo xt_BadMoments e9_la_mo e9_la_la | .la, .nu => kit_r e3_nu xt_BadNumber e9_la_nu e9_la_la | .la, .gr => kit_r e3_gr xt_BadGroups e9_la_gr e9_la_la | .la, .la => kit_r e3_la xt_TooLate e9_la_la e9_la_la | .la, .te => kit_r e3_te xt_BadText e9_la_te e9_la_la | .la, .no => kit_r e3_no xt_NotFound e9_la_no e9_la_la | .te, .mo => kit_r e3_mo xt_BadMoments e9_te_mo e9_te_te | .te, .nu => kit_r e3_nu xt_BadNumber e9_te_nu e9_te_te | .te, .gr => kit_r e3_gr xt_BadGroups e9_te_gr e9_te_te | .te, .la => kit_r e3_la xt_TooLate e9_te_la e9_te_te | .te, .te => kit_r e3_te xt_BadText e9_te_te e9_te_te | .te, .no => kit_r e3_no xt_NotFound e9_te_no e9_te_te | .no, .mo => kit_r e3_mo xt_BadMoments e9_no_mo e9_no_no | .no, .nu => kit_r e3_nu xt_BadNumber e9_no_nu e9_no_no | .no, .gr => kit_r e3_gr xt_BadGroups e9_no_gr e9_no_no | .no, .la => kit_r e3_la xt_TooLate e9_no_la e9_no_no | .no, .te => kit_r e3_te xt_BadText e9_no_te e9_no_no | .no, .no => kit_r e3_no xt_NotFound e9_no_no e9_no_no, fun k => match k with | .mo => kit_r gd gt e6_mo e9_mo_mo | .nu => kit_r gd gt e6_nu e9_nu_nu | .gr => kit_r gd gt e6_gr e9_gr_gr | .la => kit_r gd gt e6_la e9_la_la | .te => kit_r gd gt e6_te e9_te_te | .no => kit_r gd gt e6_no e9_no_no, fun k => match k with | .mo => kit_v e7_mo | .nu => kit_v e7_nu | .gr => kit_v e7_gr | .la => kit_v e7_la | .te => kit_v e7_te | .no => kit_v e7_no, fun k => match k with | .mo => PySem.W.exm_ref gb gd gt e6_mo | .nu => PySem.W.exm_ref gb gd gt e6_nu | .gr => PySem.W.exm_ref gb gd gt e6_gr | .la => PySem.W.exm_ref gb gd gt e6_la | .te => PySem.W.exm_ref gb gd gt e6_te | .no => PySem.W.exm_ref gb gd gt e6_no⟩⟩, PySem.W.mg_none_of X G ev, ⟨⟨st_pg, st_hd, st_po, st_sa⟩, fun f => match f with | .gap => st_n0 | .late => st_n1 | .line => st_n2 | .told => st_n3⟩, PySem.W.mg_of X G st_g, ⟨_, _, fun_mk l_S__init__ e_S__init__ k_S__init__, ⟨st_mk, a_S__init__, i_S__init__, st_kc⟩⟩, ⟨_, _, fun_mk l_Slimit e_Slimit k_Slimit, ⟨a_Slimit, i_Slimit, k_Slimit⟩⟩, ⟨_, _, fun_mk l_Sclosed e_Sclosed k_Sclosed, ⟨a_Sclosed, i_Sclosed, k_Sclosed⟩⟩, ⟨_, _, fun_mk l_Spush e_Spush k_Spush, ⟨a_Spush, i_Spush, k_Spush⟩⟩, ⟨_, _, fun_mk l_Sfinish e_Sfinish k_Sfinish, ⟨a_Sfinish, i_Sfinish, k_Sfinish⟩⟩, ⟨_, _, fun_mk l_Sopen_groups e_Sopen_groups k_Sopen_groups, ⟨a_Sopen_groups, i_Sopen_groups, k_Sopen_groups⟩⟩, ⟨_, _, fun_mk l_S__len__ e_S__len__ k_S__len__, ⟨a_S__len__, i_S__len__, k_S__len__⟩⟩, df_mk X G a_is_int l_is_int e_is_int k_is_int, df_mk X G a_is_moments l_is_moments e_is_moments k_is_moments, df_mk X G a_check_moments l_check_moments e_check_moments k_check_moments, df_mk X G a_check_gap l_check_gap e_check_gap k_check_gap, df_mk X G a_check_place l_check_place e_check_place k_check_place, df_mk X G a_is_groups l_is_groups e_is_groups k_is_groups, df_mk X G a_steps_of l_steps_of e_steps_of k_steps_of, df_mk X G a_between l_between e_between k_between, df_mk X G a_check_groups l_check_groups e_check_groups k_check_groups, df_mk X G a_whole_of l_whole_of e_whole_of k_whole_of, df_mk X G a_inner_and_outer l_inner_and_outer e_inner_and_outer k_inner_and_outer, df_mk X G a_gap_range l_gap_range e_gap_range k_gap_range, df_mk X G a_are_groups l_are_groups e_are_groups k_are_groups, df_mk X G a_against l_against e_against k_against, df_mk X G a_moments_of l_moments_of e_moments_of k_moments_of, df_mk X G a_bounded_range l_bounded_range e_bounded_range k_bounded_range, df_mk X G a_grouped l_grouped e_grouped k_grouped, df_mk X G a_gaps_for l_gaps_for e_gaps_for k_gaps_for, df_mk X G a_checked l_checked e_checked k_checked, df_mk X G a_check_moment l_check_moment e_check_moment k_check_moment, df_mk X G a_with_moment l_with_moment e_with_moment k_with_moment, df_mk X G a_without_moment l_without_moment e_without_moment k_without_moment, df_mk X G a_merged l_merged e_merged k_merged, df_mk X G a_moved l_moved e_moved k_moved, df_mk X G a_scaled l_scaled e_scaled k_scaled, df_mk X G a_is_numbers l_is_numbers e_is_numbers k_is_numbers, df_mk X G a_check_numbers l_check_numbers e_check_numbers k_check_numbers, df_mk X G a_falls l_falls e_falls k_falls, df_mk X G a_can_be l_can_be e_can_be k_can_be, df_mk X G a_steps_with l_steps_with e_steps_with k_steps_with, df_mk X G a_moments_with l_moments_with e_moments_with k_moments_with, df_mk X G a_orders l_orders e_orders k_orders, df_mk X G a_count_moments l_count_moments e_count_moments k_count_moments, df_mk X G a_least_length l_least_length e_least_length k_least_length, df_mk X G a_check_day l_check_day e_check_day k_check_day, df_mk X G a_groups_of_days l_groups_of_days e_groups_of_days k_groups_of_days, df_mk X G a_over_night l_over_night e_over_night k_over_night, df_mk X G a_format_groups l_format_groups e_format_groups k_format_groups, df_mk X G a__law_start l__law_start e__law_start k__law_start, df_mk X G a__law_draw l__law_draw e__law_draw k__law_draw, df_mk X G a__law_error l__law_error e__law_error k__law_error, df_mk X G a__law_call l__law_call e__law_call k__law_call, df_mk X G a__law_asked l__law_asked e__law_asked k__law_asked, df_mk X G a__law_stream l__law_stream e__law_stream k__law_stream, df_mk X G a__law_numbers l__law_numbers e__law_numbers k__law_numbers, df_mk X G a_law l_law e_law k_law⟩
  have e := hfa.symm.trans (PySem.W.mg_of X G a_law)
  cases e
  have F := fun_mk (st := topS 67) l_law e_law k_law
  exact ⟨_, fun s v => .of_eq rfl, fun base _ _ => ok_law T hG F⟩
end GG
open PySem PySem.W PyProof.Rows
set_option maxHeartbeats 0 in
theorem PySem.Challenge.cw_gapgroups_k18_more_errors_holds : PySem.Challenge.rw_gapgroups_k18_more_errors.Holds := by
  w_on; o_law; k_head; (case hw => w_witness2)
  k_fill
  refine L2.walk_of (l := PySem.Challenge.rw_gapgroups_k18_more_errors) (n := 63) (k := 10) (x := "script") (CX := fun w => L2.CX (PySem.Challenge.rw_gapgroups_k18_more_errors).prog w) (sp := fun w => GG.spLaw _) rfl (by decide) rfl ⟨rfl, by decide, by decide⟩ (fun w h Y => PySem.W.kIn_of Y) ?F (fun _ _ a ns hl _ hS => ⟨a, ns, rfl, hS, fun _ => rfl⟩) (fun _ _ _ _ _ h => by obtain ⟨_, _, _, _, _, _, _, _, _, _, _, _, z⟩ := h; exact z)
  case F =>
    intro w mg fa h KX G hmg
    refine' GG.all_mk GG.law_math KX G hmg ?z0 ?z1 ?z2 ?z3 ?z4 ?z5 ?z6 ?z7 ?z8 ?z9 ?z10 ?z11 ?z12 ?z13 ?z14 ?z15 ?c_MOST_MOMENTS ?c_MOST_MOMENT ?c_MOST_NUMBERS ?xg_BadMoments ?xx_BadMoments ?xk_BadMoments ?xb_BadMoments ?xt_BadMoments ?xg_BadNumber ?xx_BadNumber ?xk_BadNumber ?xb_BadNumber ?xt_BadNumber ?xg_BadGroups ?xx_BadGroups ?xk_BadGroups ?xb_BadGroups ?xt_BadGroups ?xg_TooLate ?xx_TooLate ?xk_TooLate ?xb_TooLate ?xt_TooLate ?xg_BadText ?xx_BadText ?xk_BadText ?xb_BadText ?xt_BadText ?xg_NotFound ?xx_NotFound ?xk_NotFound ?xb_NotFound ?xt_NotFound ?eg ?ev ?en ?et ?gd ?gt ?gb ?e1_mo ?e2_mo ?e3_mo ?e4_mo ?e5_mo ?e6_mo ?e7_mo ?e9_mo_mo ?e9_mo_nu ?e9_mo_gr ?e9_mo_la ?e9_mo_te ?e9_mo_no ?e1_nu ?e2_nu ?e3_nu ?e4_nu ?e5_nu ?e6_nu ?e7_nu ?e9_nu_mo ?e9_nu_nu ?e9_nu_gr ?e9_nu_la ?e9_nu_te ?e9_nu_no ?e1_gr ?e2_gr ?e3_gr ?e4_gr ?e5_gr ?e6_gr ?e7_gr ?e9_gr_mo ?e9_gr_nu ?e9_gr_gr ?e9_gr_la ?e9_gr_te ?e9_gr_no ?e1_la ?e2_la ?e3_la ?e4_la ?e5_la ?e6_la ?e7_la ?e9_la_mo ?e9_la_nu ?e9_la_gr ?e9_la_la ?e9_la_te ?e9_la_no ?e1_te ?e2_te ?e3_te ?e4_te ?e5_te ?e6_te ?e7_te ?e9_te_mo ?e9_te_nu ?e9_te_gr ?e9_te_la ?e9_te_te ?e9_te_no ?e1_no ?e2_no ?e3_no ?e4_no ?e5_no ?e6_no ?e7_no ?e9_no_mo ?e9_no_nu ?e9_no_gr ?e9_no_la ?e9_no_te ?e9_no_no ?st_g ?st_pg ?st_hd ?st_po ?st_sa ?st_mk ?st_kc ?st_n0 ?st_n1 ?st_n2 ?st_n3 ?a_S__init__ ?i_S__init__ ?l_S__init__ ?e_S__init__ ?k_S__init__ ?a_Slimit ?i_Slimit ?l_Slimit ?e_Slimit ?k_Slimit ?a_Sclosed ?i_Sclosed ?l_Sclosed ?e_Sclosed ?k_Sclosed ?a_Spush ?i_Spush ?l_Spush ?e_Spush ?k_Spush ?a_Sfinish ?i_Sfinish ?l_Sfinish ?e_Sfinish ?k_Sfinish ?a_Sopen_groups ?i_Sopen_groups ?l_Sopen_groups ?e_Sopen_groups ?k_Sopen_groups ?a_S__len__ ?i_S__len__ ?l_S__len__ ?e_S__len__ ?k_S__len__ ?a_is_int ?l_is_int ?e_is_int ?k_is_int ?a_is_moments ?l_is_moments ?e_is_moments ?k_is_moments ?a_check_moments ?l_check_moments ?e_check_moments ?k_check_moments ?a_check_gap ?l_check_gap ?e_check_gap ?k_check_gap ?a_check_place ?l_check_place ?e_check_place ?k_check_place ?a_is_groups ?l_is_groups ?e_is_groups ?k_is_groups ?a_steps_of ?l_steps_of ?e_steps_of ?k_steps_of ?a_between ?l_between ?e_between ?k_between ?a_check_groups ?l_check_groups ?e_check_groups ?k_check_groups ?a_whole_of ?l_whole_of ?e_whole_of ?k_whole_of ?a_inner_and_outer ?l_inner_and_outer ?e_inner_and_outer ?k_inner_and_outer ?a_gap_range ?l_gap_range ?e_gap_range ?k_gap_range ?a_are_groups ?l_are_groups ?e_are_groups ?k_are_groups ?a_against ?l_against ?e_against ?k_against ?a_moments_of ?l_moments_of ?e_moments_of ?k_moments_of ?a_bounded_range ?l_bounded_range ?e_bounded_range ?k_bounded_range ?a_grouped ?l_grouped ?e_grouped ?k_grouped ?a_gaps_for ?l_gaps_for ?e_gaps_for ?k_gaps_for ?a_checked ?l_checked ?e_checked ?k_checked ?a_check_moment ?l_check_moment ?e_check_moment ?k_check_moment ?a_with_moment ?l_with_moment ?e_with_moment ?k_with_moment ?a_without_moment ?l_without_moment ?e_without_moment ?k_without_moment ?a_merged ?l_merged ?e_merged ?k_merged ?a_moved ?l_moved ?e_moved ?k_moved ?a_scaled ?l_scaled ?e_scaled ?k_scaled ?a_is_numbers ?l_is_numbers ?e_is_numbers ?k_is_numbers ?a_check_numbers ?l_check_numbers ?e_check_numbers ?k_check_numbers ?a_falls ?l_falls ?e_falls ?k_falls ?a_can_be ?l_can_be ?e_can_be ?k_can_be ?a_steps_with ?l_steps_with ?e_steps_with ?k_steps_with ?a_moments_with ?l_moments_with ?e_moments_with ?k_moments_with ?a_orders ?l_orders ?e_orders ?k_orders ?a_count_moments ?l_count_moments ?e_count_moments ?k_count_moments ?a_least_length ?l_least_length ?e_least_length ?k_least_length ?a_check_day ?l_check_day ?e_check_day ?k_check_day ?a_groups_of_days ?l_groups_of_days ?e_groups_of_days ?k_groups_of_days ?a_over_night ?l_over_night ?e_over_night ?k_over_night ?a_format_groups ?l_format_groups ?e_format_groups ?k_format_groups ?a__law_start ?l__law_start ?e__law_start ?k__law_start ?a__law_draw ?l__law_draw ?e__law_draw ?k__law_draw ?a__law_error ?l__law_error ?e__law_error ?k__law_error ?a__law_call ?l__law_call ?e__law_call ?k__law_call ?a__law_asked ?l__law_asked ?e__law_asked ?k__law_asked ?a__law_stream ?l__law_stream ?e__law_stream ?k__law_stream ?a__law_numbers ?l__law_numbers ?e__law_numbers ?k__law_numbers ?a_law ?l_law ?e_law ?k_law
    (case z0 => k_is)
    (case z1 => k_is)
    (case z2 => k_is)
    (case z3 => k_is)
    (case z4 => k_is)
    (case z5 => k_is)
    (case z6 => k_is)
    (case z7 => k_is)
    (case z8 => k_is)
    (case z9 => k_is)
    (case z10 => k_is)
    (case z11 => k_is)
    (case z12 => k_is)
    (case z13 => k_is)
    (case z14 => k_is)
    (case z15 => k_is)
    (case c_MOST_MOMENTS => k_is)
    (case c_MOST_MOMENT => k_is)
    (case c_MOST_NUMBERS => k_is)
    (case xg_BadMoments => k_is)
    (case xx_BadMoments => first | k_is | k_exc)
    (case xk_BadMoments => k_is)
    (case xb_BadMoments => k_is)
    (case xt_BadMoments => k_is)
    (case xg_BadNumber => k_is)
    (case xx_BadNumber => first | k_is | k_exc)
    (case xk_BadNumber => k_is)
    (case xb_BadNumber => k_is)
    (case xt_BadNumber => k_is)
    (case xg_BadGroups => k_is)
    (case xx_BadGroups => first | k_is | k_exc)
    (case xk_BadGroups => k_is)
    (case xb_BadGroups => k_is)
    (case xt_BadGroups => k_is)
    (case xg_TooLate => k_is)
    (case xx_TooLate => first | k_is | k_exc)
    (case xk_TooLate => k_is)
    (case xb_TooLate => k_is)
    (case xt_TooLate => k_is)
    (case xg_BadText => k_is)
    (case xx_BadText => first | k_is | k_exc)
    (case xk_BadText => k_is)
    (case xb_BadText => k_is)
    (case xt_BadText => k_is)
    (case xg_NotFound => k_is)
    (case xx_NotFound => first | k_is | k_exc)
    (case xk_NotFound => k_is)
    (case xb_NotFound => k_is)
    (case xt_NotFound => k_is)
    (case eg => k_is)
    (case ev => k_is)
    (case en => k_is)
    (case et => k_is)
    (case gd => k_is)
    (case gt => k_is)
    (case gb => k_is)
    (case e1_mo => k_is)
    (case e2_mo => k_is)
    (case e3_mo => k_is)
    (case e4_mo => k_is)
    (case e5_mo => k_is)
    (case e6_mo => k_is)
    (case e7_mo => k_is)
    (case e9_mo_mo => k_is)
    (case e9_mo_nu => k_is)
    (case e9_mo_gr => k_is)
    (case e9_mo_la => k_is)
    (case e9_mo_te => k_is)
    (case e9_mo_no => k_is)
    (case e1_nu => k_is)
    (case e2_nu => k_is)
    (case e3_nu => k_is)
    (case e4_nu => k_is)
    (case e5_nu => k_is)
    (case e6_nu => k_is)
    (case e7_nu => k_is)
    (case e9_nu_mo => k_is)
    (case e9_nu_nu => k_is)
    (case e9_nu_gr => k_is)
    (case e9_nu_la => k_is)
    (case e9_nu_te => k_is)
    (case e9_nu_no => k_is)
    (case e1_gr => k_is)
    (case e2_gr => k_is)
    (case e3_gr => k_is)
    (case e4_gr => k_is)
    (case e5_gr => k_is)
    (case e6_gr => k_is)
    (case e7_gr => k_is)
    (case e9_gr_mo => k_is)
    (case e9_gr_nu => k_is)
    (case e9_gr_gr => k_is)
    (case e9_gr_la => k_is)
    (case e9_gr_te => k_is)
    (case e9_gr_no => k_is)
    (case e1_la => k_is)
    (case e2_la => k_is)
    (case e3_la => k_is)
    (case e4_la => k_is)
    (case e5_la => k_is)
    (case e6_la => k_is)
    (case e7_la => k_is)
    (case e9_la_mo => k_is)
    (case e9_la_nu => k_is)
    (case e9_la_gr => k_is)
    (case e9_la_la => k_is)
    (case e9_la_te => k_is)
    (case e9_la_no => k_is)
    (case e1_te => k_is)
    (case e2_te => k_is)
    (case e3_te => k_is)
    (case e4_te => k_is)
    (case e5_te => k_is)
    (case e6_te => k_is)
    (case e7_te => k_is)
    (case e9_te_mo => k_is)
    (case e9_te_nu => k_is)
    (case e9_te_gr => k_is)
    (case e9_te_la => k_is)
    (case e9_te_te => k_is)
    (case e9_te_no => k_is)
    (case e1_no => k_is)
    (case e2_no => k_is)
    (case e3_no => k_is)
    (case e4_no => k_is)
    (case e5_no => k_is)
    (case e6_no => k_is)
    (case e7_no => k_is)
    (case e9_no_mo => k_is)
    (case e9_no_nu => k_is)
    (case e9_no_gr => k_is)
    (case e9_no_la => k_is)
    (case e9_no_te => k_is)
    (case e9_no_no => k_is)
    (case st_g => k_is)
    (case st_pg => k_is)
    (case st_hd => k_is)
    (case st_po => k_is)
    (case st_sa => k_is)
    (case st_mk => k_is)
    (case st_kc => k_is)
    (case st_n0 => k_is)
    (case st_n1 => k_is)
    (case st_n2 => k_is)
    (case st_n3 => k_is)
    (case a_S__init__ => k_is)
    (case i_S__init__ => k_is)
    (case l_S__init__ => k_is)
    (case e_S__init__ => k_is)
    (case k_S__init__ => k_is)
    (case a_Slimit => k_is)
    (case i_Slimit => k_is)
    (case l_Slimit => k_is)
    (case e_Slimit => k_is)
    (case k_Slimit => k_is)
    (case a_Sclosed => k_is)
    (case i_Sclosed => k_is)
    (case l_Sclosed => k_is)
    (case e_Sclosed => k_is)
    (case k_Sclosed => k_is)
    (case a_Spush => k_is)
    (case i_Spush => k_is)
    (case l_Spush => k_is)
    (case e_Spush => k_is)
    (case k_Spush => k_is)
    (case a_Sfinish => k_is)
    (case i_Sfinish => k_is)
    (case l_Sfinish => k_is)
    (case e_Sfinish => k_is)
    (case k_Sfinish => k_is)
    (case a_Sopen_groups => k_is)
    (case i_Sopen_groups => k_is)
    (case l_Sopen_groups => k_is)
    (case e_Sopen_groups => k_is)
    (case k_Sopen_groups => k_is)
    (case a_S__len__ => k_is)
    (case i_S__len__ => k_is)
    (case l_S__len__ => k_is)
    (case e_S__len__ => k_is)
    (case k_S__len__ => k_is)
    (case a_is_int => k_is)
    (case l_is_int => k_is)
    (case e_is_int => k_is)
    (case k_is_int => k_is)
    (case a_is_moments => k_is)
    (case l_is_moments => k_is)
    (case e_is_moments => k_is)
    (case k_is_moments => k_is)
    (case a_check_moments => k_is)
    (case l_check_moments => k_is)
    (case e_check_moments => k_is)
    (case k_check_moments => k_is)
    (case a_check_gap => k_is)
    (case l_check_gap => k_is)
    (case e_check_gap => k_is)
    (case k_check_gap => k_is)
    (case a_check_place => k_is)
    (case l_check_place => k_is)
    (case e_check_place => k_is)
    (case k_check_place => k_is)
    (case a_is_groups => k_is)
    (case l_is_groups => k_is)
    (case e_is_groups => k_is)
    (case k_is_groups => k_is)
    (case a_steps_of => k_is)
    (case l_steps_of => k_is)
    (case e_steps_of => k_is)
    (case k_steps_of => k_is)
    (case a_between => k_is)
    (case l_between => k_is)
    (case e_between => k_is)
    (case k_between => k_is)
    (case a_check_groups => k_is)
    (case l_check_groups => k_is)
    (case e_check_groups => k_is)
    (case k_check_groups => k_is)
    (case a_whole_of => k_is)
    (case l_whole_of => k_is)
    (case e_whole_of => k_is)
    (case k_whole_of => k_is)
    (case a_inner_and_outer => k_is)
    (case l_inner_and_outer => k_is)
    (case e_inner_and_outer => k_is)
    (case k_inner_and_outer => k_is)
    (case a_gap_range => k_is)
    (case l_gap_range => k_is)
    (case e_gap_range => k_is)
    (case k_gap_range => k_is)
    (case a_are_groups => k_is)
    (case l_are_groups => k_is)
    (case e_are_groups => k_is)
    (case k_are_groups => k_is)
    (case a_against => k_is)
    (case l_against => k_is)
    (case e_against => k_is)
    (case k_against => k_is)
    (case a_moments_of => k_is)
    (case l_moments_of => k_is)
    (case e_moments_of => k_is)
    (case k_moments_of => k_is)
    (case a_bounded_range => k_is)
    (case l_bounded_range => k_is)
    (case e_bounded_range => k_is)
    (case k_bounded_range => k_is)
    (case a_grouped => k_is)
    (case l_grouped => k_is)
    (case e_grouped => k_is)
    (case k_grouped => k_is)
    (case a_gaps_for => k_is)
    (case l_gaps_for => k_is)
    (case e_gaps_for => k_is)
    (case k_gaps_for => k_is)
    (case a_checked => k_is)
    (case l_checked => k_is)
    (case e_checked => k_is)
    (case k_checked => k_is)
    (case a_check_moment => k_is)
    (case l_check_moment => k_is)
    (case e_check_moment => k_is)
    (case k_check_moment => k_is)
    (case a_with_moment => k_is)
    (case l_with_moment => k_is)
    (case e_with_moment => k_is)
    (case k_with_moment => k_is)
    (case a_without_moment => k_is)
    (case l_without_moment => k_is)
    (case e_without_moment => k_is)
    (case k_without_moment => k_is)
    (case a_merged => k_is)
    (case l_merged => k_is)
    (case e_merged => k_is)
    (case k_merged => k_is)
    (case a_moved => k_is)
    (case l_moved => k_is)
    (case e_moved => k_is)
    (case k_moved => k_is)
    (case a_scaled => k_is)
    (case l_scaled => k_is)
    (case e_scaled => k_is)
    (case k_scaled => k_is)
    (case a_is_numbers => k_is)
    (case l_is_numbers => k_is)
    (case e_is_numbers => k_is)
    (case k_is_numbers => k_is)
    (case a_check_numbers => k_is)
    (case l_check_numbers => k_is)
    (case e_check_numbers => k_is)
    (case k_check_numbers => k_is)
    (case a_falls => k_is)
    (case l_falls => k_is)
    (case e_falls => k_is)
    (case k_falls => k_is)
    (case a_can_be => k_is)
    (case l_can_be => k_is)
    (case e_can_be => k_is)
    (case k_can_be => k_is)
    (case a_steps_with => k_is)
    (case l_steps_with => k_is)
    (case e_steps_with => k_is)
    (case k_steps_with => k_is)
    (case a_moments_with => k_is)
    (case l_moments_with => k_is)
    (case e_moments_with => k_is)
    (case k_moments_with => k_is)
    (case a_orders => k_is)
    (case l_orders => k_is)
    (case e_orders => k_is)
    (case k_orders => k_is)
    (case a_count_moments => k_is)
    (case l_count_moments => k_is)
    (case e_count_moments => k_is)
    (case k_count_moments => k_is)
    (case a_least_length => k_is)
    (case l_least_length => k_is)
    (case e_least_length => k_is)
    (case k_least_length => k_is)
    (case a_check_day => k_is)
    (case l_check_day => k_is)
    (case e_check_day => k_is)
    (case k_check_day => k_is)
    (case a_groups_of_days => k_is)
    (case l_groups_of_days => k_is)
    (case e_groups_of_days => k_is)
    (case k_groups_of_days => k_is)
    (case a_over_night => k_is)
    (case l_over_night => k_is)
    (case e_over_night => k_is)
    (case k_over_night => k_is)
    (case a_format_groups => k_is)
    (case l_format_groups => k_is)
    (case e_format_groups => k_is)
    (case k_format_groups => k_is)
    (case a__law_start => k_is)
    (case l__law_start => k_is)
    (case e__law_start => k_is)
    (case k__law_start => k_is)
    (case a__law_draw => k_is)
    (case l__law_draw => k_is)
    (case e__law_draw => k_is)
    (case k__law_draw => k_is)
    (case a__law_error => k_is)
    (case l__law_error => k_is)
    (case e__law_error => k_is)
    (case k__law_error => k_is)
    (case a__law_call => k_is)
    (case l__law_call => k_is)
    (case e__law_call => k_is)
    (case k__law_call => k_is)
    (case a__law_asked => k_is)
    (case l__law_asked => k_is)
    (case e__law_asked => k_is)
    (case k__law_asked => k_is)
    (case a__law_stream => k_is)
    (case l__law_stream => k_is)
    (case e__law_stream => k_is)
    (case k__law_stream => k_is)
    (case a__law_numbers => k_is)
    (case l__law_numbers => k_is)
    (case e__law_numbers => k_is)
    (case k__law_numbers => k_is)
    (case a_law => k_is)
    (case l_law => k_is)
    (case e_law => k_is)
    (case k_law => k_is)


