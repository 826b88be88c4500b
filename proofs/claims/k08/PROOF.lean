import PyProof.Rows.All
import Wide.All
import OpenK.AllK
import Wide.FinOn
import HandS.ForMost
import HandS.TupAny
import HandS.TupMul
import HandS.Style
import HandS.IsInst
import HandS.Conv
import HandS.SortInts
import HandS.Zip
import HandS.ForExc
import HandS.Lambda
import KE.KDictKeyed
import HandS.Deep
import KE.GoesEnum
import HandS.TupLen
import HandS.DictTup
import KE.KDictList
import HandS.Defaults
import HandS.Head0
import HandS.Head1
import HandS.Head2
import HandS.HeadEnd
import HandS.HeadHook1
import HandS.HeadHook2
import HandS.HeadHook3
import HandS.DictComp
import KE.KDictCopyH
import HandS.CallSlots
import HandS.HeadHook4
import HandS.HeadWalk
import KE.KEqDict
import PySem.Challenge.RW_atoneroom_k08_whole_moves_and_late_senso
set_option Elab.async false
set_option linter.all false
set_option maxRecDepth 100000
set_option maxHeartbeats 8000000
/-! A0: data, slots, what a state of slots says of the heap. -/
namespace Aq
open PySem PySem.Spec PyProof.Rows L2

abbrev D := PyData

/-- the world of a row; T: the tables of code objects, each with the name that its objects bear -/
structure Wd where
  P : Program
  w : World
  K : PySem.W.Frag
  T : List (Addr × Str)

/-- what a field holds: data, another thing, None -/
inductive Fv where
  | d (x : D)
  | r (a : Addr)

/-- things that change in place, by their data: a list, a dict, a dict of things, an instance -/
inductive Ow where
  | lst (ds : List D)
  | dct (kvs : List (D × D))
  | dcr (kvs : List (D × Addr))
  | ins (C dx : Addr) (fs : List (Str × Fv))

/-- what a name holds: nothing; data; a thing that stands still; a thing of one's own; a thing lent by the caller; a bare value; behind all names: the things that are shared, by their places; what was handed to be called, and what stood still then -/
inductive S where
  | no
  | d (x : D)
  | fz (o : Ow)
  | ow (o : Ow)
  | pa (o : Ow)
  | raw (v : V)
  | hp (tl : List (Addr × Ow))
  | fn (f : Addr) (B : Hp)

def S.own : S → Bool
  | .ow _ => true
  | .pa _ => true
  | _ => false

mutual
def keyOf : D → Option NestedKey
  | .none => some .none
  | .bool b => some (.num (if b then 1 else 0))
  | .int i => some (.num i)
  | .str x => some (.text x)
  | .tuple ds => (keysOf ds).map NestedKey.tup
  | .list _ => none
  | .dict _ => none
def keysOf : List D → Option (List NestedKey)
  | [] => some []
  | d :: ds => match keyOf d, keysOf ds with
    | some k, some ks => some (k :: ks)
    | _, _ => none
end

def DOb (W : Wd) (ob : Obj) (xs : List (NestedKey × Addr × Value)) : Prop :=
  ∃ es ep, ob.ExactDict ∧ ob.data = .dict es ep ∧ es.toList = xs.map (entryOfKey (nestedKind W.P W.w)) ∧ (xs.map (·.1)).Nodup ∧ ∀ x ∈ xs, x.1.depth ≤ 8

/-- an object that is known to the last bit -/
def exO (a : Addr) (ob : Obj) : HO := .ext fun h => h.get? a = some ob

def EnOk (W : Wd) (F : Hp) (p : D × D) (q : NestedKey × Addr × Value) : Prop :=
  keyOf p.1 = some q.1 ∧ Dp W.K F (.ref q.2.1) p.1 ∧ ∃ v, RelV v q.2.2 ∧ Dp W.K F v p.2
def EnOkR (W : Wd) (F : Hp) (p : D × Addr) (q : NestedKey × Addr × Value) : Prop :=
  keyOf p.1 = some q.1 ∧ Dp W.K F (.ref q.2.1) p.1 ∧ q.2.2 = .ref p.2
def FvOk (W : Wd) (F : Hp) (p : Str × Fv) (q : Str × V) : Prop := p.1 = q.1 ∧ match p.2 with
  | .d x => Dp W.K F q.2 x
  | .r a => q.2 = .ref a

def RepO (W : Wd) (F : Hp) (a : Addr) : Ow → HO → Prop
  | .lst ds, ho => ∃ vs, ho = .lst vs ∧ DpAll W.K F vs ds
  | .dct kvs, ho => ∃ ob xs, ho = exO a ob ∧ (a == sysModules) = false ∧ DOb W ob xs ∧ Paired (EnOk W F) kvs xs ∧ kvs.length ≤ sizeLine
  | .dcr kvs, ho => ∃ ob xs, ho = exO a ob ∧ (a == sysModules) = false ∧ DOb W ob xs ∧ Paired (EnOkR W F) kvs xs ∧ kvs.length ≤ sizeLine
  | .ins C dx fs, ho => ∃ fvs, ho = .ins C dx fvs ∧ Paired (FvOk W F) fs fvs

def VOk (W : Wd) (F : Hp) : S → V → Prop
  | .d x, v => Dp W.K F v x
  | .fz o, v => ∃ a ho, v = .ref a ∧ F a = some ho ∧ RepO W F a o ho
  | .raw v', v => v = v'
  | .fn f B, v => v = .ref f ∧ Same B F
  | _, _ => False

/-- what stood at the entry: the heap, its still part, the addresses of what was lent; the loose things that are at work; what was lent among the shared things -/
structure Fx where
  H0 : Hp
  F0 : Hp
  ow : List Addr
  st : List (Addr × Ow)
  lt : List Addr
/-- one more loose thing is kept in mind -/
def Fx.push (G : Fx) (a : Addr) (o : Ow) : Fx := { G with st := (a, o) :: G.st }

def SlotOk (W : Wd) (G : Fx) (F H : Hp) (i : Nat) : S → Option (Option V) → Prop
  | .no, _ => True
  | .ow o, u => ∃ a ho, u = some (some (.ref a)) ∧ F a = none ∧ G.H0 a = none ∧ H a = some ho ∧ RepO W F a o ho
  | .pa o, u => ∃ a ho, u = some (some (.ref a)) ∧ G.ow[i]? = some a ∧ F a = none ∧ H a = some ho ∧ RepO W F a o ho
  | .d x, u => ∃ v, u = some (some v) ∧ VOk W F (.d x) v
  | .fz o, u => ∃ v, u = some (some v) ∧ VOk W F (.fz o) v
  | .raw v', u => ∃ v, u = some (some v) ∧ VOk W F (.raw v') v
  | .fn f B, u => ∃ v, u = some (some v) ∧ VOk W F (.fn f B) v
  | .hp _, _ => False

/-- it stays, but for tables -/
def Kp (o : HO) (u : Option HO) : Prop := u = some o ∨ ∃ ps ps', o = .tbl ps ∧ u = some (.tbl ps')
/-- all stays, but for tables -/
def Kept (H H' : Hp) : Prop := ∀ b o, H b = some o → Kp o (H' b)
theorem Kp.refl {o : HO} : Kp o (some o) := .inl rfl
theorem Kept.refl (H : Hp) : Kept H H := fun b o e => .inl e
theorem Kept.of {H H' : Hp} (e : Same H H') : Kept H H' := fun b o h => .inl (e b o h)
theorem Kp.ex {o : HO} {u : Option HO} (h : Kp o u) : ∃ o', u = some o' := by
  rcases h with h | ⟨_, _, _, h⟩
  · exact ⟨_, h⟩
  · exact ⟨_, h⟩
theorem Kp.trans {o : HO} {u v : Option HO} (h : Kp o u) (k : ∀ o', u = some o' → Kp o' v) : Kp o v := by
  rcases h with rfl | ⟨ps, ps', rfl, rfl⟩
  · exact k _ rfl
  · rcases k _ rfl with rfl | ⟨_, ps2, _, rfl⟩
    · exact .inr ⟨_, _, rfl, rfl⟩
    · exact .inr ⟨_, _, rfl, rfl⟩
theorem Kept.trans {H H1 H2 : Hp} (a : Kept H H1) (b : Kept H1 H2) : Kept H H2 := fun c o h => Kp.trans (a c o h) fun o' h' => b c o' h'
/-- no table -/
def NT (o : HO) : Prop := ∀ ps, o ≠ .tbl ps
theorem Kp.nt {o : HO} {u : Option HO} (h : Kp o u) (n : NT o) : u = some o := by
  rcases h with h | ⟨ps, _, e, _⟩
  · exact h
  · exact absurd e (n ps)
theorem RepO.nt {W : Wd} {F : Hp} {a : Addr} {o : Ow} {ho : HO} (h : RepO W F a o ho) : NT ho := fun ps e => by
  cases o with
  | lst ds => obtain ⟨vs, rfl, _⟩ := h; cases e
  | dct kvs => obtain ⟨ob, xs, rfl, _⟩ := h; unfold exO at e; cases e
  | dcr kvs => obtain ⟨ob, xs, rfl, _⟩ := h; unfold exO at e; cases e
  | ins C dx fs => obtain ⟨fvs, rfl, _⟩ := h; cases e
/-- a table: what it tells of stands still -/
def TabF (F H : Hp) (t : Addr × Str) : Prop := F t.1 = none ∧ ∃ ps : Array Value, H t.1 = some (.tbl ps) ∧ TriplesOk ps.toList ∧ ∀ (pos : Pos) (cv : Value), codeAmong pos ps.toList = some cv → ∃ c, cv = .ref c ∧ F c = some (LamX.CodeO c t.2)
theorem TabF.mono {F F' H H' : Hp} {t : Addr × Str} (h : TabF F H t) (k : Same F F') (n : F' t.1 = none) (e : ∀ ps, H t.1 = some (.tbl ps) → H' t.1 = some (.tbl ps)) : TabF F' H' t := by
  obtain ⟨_, ps, h1, h2, h3⟩ := h
  refine ⟨n, ps, e ps h1, h2, fun pos cv hc => ?_⟩
  obtain ⟨c, e1, e2⟩ := h3 pos cv hc
  exact ⟨c, e1, k _ _ e2⟩
abbrev Tbs (W : Wd) (F H : Hp) : Prop := ∀ t ∈ W.T, TabF F H t
/-- the shared things -/
def hpOf (ρ : List S) (n : Nat) : List (Addr × Ow) := match ρ[n]? with
  | some (.hp tl) => tl
  | _ => []
theorem hpOf_set {ρ : List S} {i n : Nat} {s : S} (h : i ≠ n) : hpOf (ρ.set i s) n = hpOf ρ n := by
  unfold hpOf
  rw [List.getElem?_set_ne h]

structure Rep (W : Wd) (G : Fx) (F : Hp) (ρ : List S) (σ : L2.St) (H : Hp) : Prop where
  sub : Same F H
  up : Same G.F0 F
  keep : ∀ b o, G.H0 b = some o → b ∉ G.ow → b ∉ G.lt → Kp o (H b)
  new : ∀ b o, F b = some o → G.F0 b = some o ∨ G.H0 b = none
  len : σ.length ≤ ρ.length
  slot : ∀ (i : Nat) (s : S), i < σ.length → ρ[i]? = some s → SlotOk W G F H i s σ[i]?
  top : ∀ (i : Nat) (s : S), σ.length ≤ i → ρ[i]? = some s → i = σ.length ∧ ∃ tl, s = .hp tl
  sep : ∀ (i j : Nat) (s t : S) (a : Addr), i ≠ j → ρ[i]? = some s → ρ[j]? = some t → s.own = true → t.own = true → σ[i]? = some (some (.ref a)) → σ[j]? = some (some (.ref a)) → False
  par : ∀ (i : Nat) (a : Addr), G.ow[i]? = some a → i < σ.length ∧ ∃ o, ρ[i]? = some (S.pa o)
  stk : ∀ (a : Addr) (o : Ow), (a, o) ∈ G.st → F a = none ∧ G.H0 a = none ∧ (∃ ho, H a = some ho ∧ RepO W F a o ho) ∧ ∀ (i : Nat) (s : S), ρ[i]? = some s → s.own = true → σ[i]? ≠ some (some (.ref a))
  shr : ∀ (a : Addr) (o : Ow), (a, o) ∈ hpOf ρ σ.length → F a = none ∧ (G.H0 a = none ∨ a ∈ G.lt) ∧ (∃ ho, H a = some ho ∧ RepO W F a o ho) ∧ ∀ (i : Nat) (s : S), ρ[i]? = some s → s.own = true → σ[i]? ≠ some (some (.ref a))
  std : ((hpOf ρ σ.length ++ G.st).map (·.1)).Nodup
  lnt : ∀ a ∈ G.lt, a ∈ (hpOf ρ σ.length).map (·.1)
  tabs : Tbs W F H

/-! ### growth -/
theorem SqT.mono {K : PySem.W.Frag} {H H' : Hp} {a : Addr} {xs : List V} (e : Same H H') (h : SqT K H a xs) : SqT K H' a xs := by
  rcases h with (h | ⟨o, h⟩) | h
  · exact .inl (.inl (e _ _ h))
  · exact .inl (.inr ⟨o, e _ _ h⟩)
  · exact .inr h
mutual
theorem Dp.mono {K : PySem.W.Frag} {H H' : Hp} (e : Same H H') : ∀ (d : D) (v : V), Dp K H v d → Dp K H' v d
  | .none, _, h => by cases h; exact .non
  | .bool _, _, h => by cases h; exact .bl _
  | .int _, _, h => by cases h; exact .int _
  | .str _, _, h => by cases h; exact .str _
  | .list ds, _, h => by
    cases h with
    | lst hs ha => exact .lst (e.seq hs) (DpAll.mono e ds _ ha)
  | .tuple ds, _, h => by
    cases h with
    | tup hs ha => exact .tup (SqT.mono e hs) (DpAll.mono e ds _ ha)
  | .dict _, _, h => by cases h
theorem DpAll.mono {K : PySem.W.Frag} {H H' : Hp} (e : Same H H') : ∀ (ds : List D) (vs : List V), DpAll K H vs ds → DpAll K H' vs ds
  | [], _, h => by cases h; exact .nil
  | d :: ds, _, h => by
    cases h with
    | cons h1 h2 => exact .cons (Dp.mono e d _ h1) (DpAll.mono e ds _ h2)
end
theorem EnOk.mono {W : Wd} {F F' : Hp} {p : D × D} {q : NestedKey × Addr × Value} (e : Same F F') (h : EnOk W F p q) : EnOk W F' p q :=
  let ⟨h1, h2, v, h3, h4⟩ := h
  ⟨h1, Dp.mono e _ _ h2, v, h3, Dp.mono e _ _ h4⟩
theorem EnOkR.mono {W : Wd} {F F' : Hp} {p : D × Addr} {q : NestedKey × Addr × Value} (e : Same F F') (h : EnOkR W F p q) : EnOkR W F' p q :=
  let ⟨h1, h2, h3⟩ := h
  ⟨h1, Dp.mono e _ _ h2, h3⟩
theorem FvOk.mono {W : Wd} {F F' : Hp} {p : Str × Fv} {q : Str × V} (e : Same F F') (h : FvOk W F p q) : FvOk W F' p q := by
  obtain ⟨n, f⟩ := p
  cases f with
  | d x => exact ⟨h.1, Dp.mono e _ _ h.2⟩
  | r a => exact h
theorem RepO.mono {W : Wd} {F F' : Hp} {a : Addr} {o : Ow} {ho : HO} (e : Same F F') (h : RepO W F a o ho) : RepO W F' a o ho := by
  cases o with
  | lst ds => obtain ⟨vs, h1, h2⟩ := h; exact ⟨vs, h1, DpAll.mono e _ _ h2⟩
  | dct kvs => obtain ⟨ob, xs, h1, h2, h3, h4, h5⟩ := h; exact ⟨ob, xs, h1, h2, h3, Paired.mapP h4 fun _ _ z => z.mono e, h5⟩
  | dcr kvs => obtain ⟨ob, xs, h1, h2, h3, h4, h5⟩ := h; exact ⟨ob, xs, h1, h2, h3, Paired.mapP h4 fun _ _ z => z.mono e, h5⟩
  | ins C dx fs => obtain ⟨fvs, h1, h2⟩ := h; exact ⟨fvs, h1, Paired.mapP h2 fun _ _ z => z.mono e⟩
theorem VOk.mono {W : Wd} {F F' : Hp} {s : S} {v : V} (e : Same F F') (h : VOk W F s v) : VOk W F' s v := by
  cases s with
  | d x => exact Dp.mono e _ _ h
  | fz o => obtain ⟨a, ho, h1, h2, h3⟩ := h; exact ⟨a, ho, h1, e _ _ h2, h3.mono e⟩
  | raw v' => exact h
  | no => exact h
  | ow o => exact h
  | pa o => exact h
  | hp o => exact h
  | fn f B => exact ⟨h.1, h.2.trans e⟩

section
variable {W : Wd} {G : Fx} {F H F' H' : Hp} {ρ : List S} {σ : L2.St}
/-- an address that something is noted of -/
def Owned (G : Fx) (ρ : List S) (σ : L2.St) (b : Addr) : Prop :=
  (∃ (i : Nat) (s : S), ρ[i]? = some s ∧ s.own = true ∧ σ[i]? = some (some (.ref b))) ∨ (∃ o, (b, o) ∈ G.st) ∨ ∃ o, (b, o) ∈ hpOf ρ σ.length
theorem own_lt {i : Nat} {b : Addr} (h : σ[i]? = some (some (V.ref b))) : i < σ.length := (List.getElem?_eq_some_iff.mp h).1
theorem Rep.lt (R : Rep W G F ρ σ H) {i : Nat} {s : S} (h : ρ[i]? = some s) (n : ∀ tl, s ≠ .hp tl) : i < σ.length := by
  by_cases hl : i < σ.length
  · exact hl
  · obtain ⟨_, tl, e⟩ := R.top i s (by omega) h
    exact absurd e (n tl)
theorem Rep.owd (R : Rep W G F ρ σ H) {b : Addr} (h : Owned G ρ σ b) : F b = none ∧ ∃ ho o, H b = some ho ∧ RepO W F b o ho := by
  rcases h with ⟨i, s, hi, hs, e⟩ | ⟨o, hm⟩ | ⟨o, hm⟩
  · have z := R.slot i s (own_lt e) hi
    cases s with
    | ow o => obtain ⟨a, ho, e1, e2, e3, e4, e5⟩ := z; rw [e] at e1; cases e1; exact ⟨e2, ho, o, e4, e5⟩
    | pa o => obtain ⟨a, ho, e1, e2, e3, e4, e5⟩ := z; rw [e] at e1; cases e1; exact ⟨e3, ho, o, e4, e5⟩
    | _ => cases hs
  · obtain ⟨h1, _, ⟨ho, h3, h4⟩, _⟩ := R.stk b o hm
    exact ⟨h1, ho, o, h3, h4⟩
  · obtain ⟨h1, _, ⟨ho, h3, h4⟩, _⟩ := R.shr b o hm
    exact ⟨h1, ho, o, h3, h4⟩
theorem Rep.notab (R : Rep W G F ρ σ H) {b : Addr} (h : Owned G ρ σ b) : ∀ t ∈ W.T, t.1 ≠ b := fun t ht e => by
  obtain ⟨_, ho, o, h1, h2⟩ := R.owd h
  obtain ⟨_, ps, h3, _⟩ := R.tabs t ht
  rw [e, h1] at h3
  exact h2.nt ps (Option.some.inj h3)

theorem Rep.nofree (R : Rep W G F ρ σ H) {p : Addr} (hp : H p = none) : F p = none ∧ G.H0 p = none := by
  have h1 : F p = none := by
    cases q : F p with
    | none => rfl
    | some o => rw [R.sub _ _ q] at hp; cases hp
  refine ⟨h1, ?_⟩
  cases q : G.H0 p with
  | none => rfl
  | some o =>
    by_cases hm : p ∈ G.ow
    · obtain ⟨i, hi⟩ := List.mem_iff_getElem?.mp hm
      obtain ⟨hlt, o', ho'⟩ := R.par i p hi
      obtain ⟨a, ho, _, e2, _, e4, _⟩ := R.slot i _ hlt ho'
      rw [hi] at e2; cases e2
      rw [hp] at e4; cases e4
    · by_cases hl : p ∈ G.lt
      · obtain ⟨⟨b, o'⟩, hb, e⟩ := List.mem_map.mp (R.lnt p hl)
        cases e
        obtain ⟨_, _, ⟨ho, h3, _⟩, _⟩ := R.shr b o' hb
        rw [hp] at h3; cases h3
      · obtain ⟨o', e⟩ := Kp.ex (R.keep p o q hm hl)
        rw [hp] at e; cases e

theorem same_upd {H : Hp} {p : Addr} {o : HO} (hp : H p = none) : Same H (upd H p o) := fun b u e => by
  rw [upd_ne (ne_of_none e hp)]; exact e

/-- the still part grows; the rest of the heap goes on, but for what is noted -/
theorem Rep.core (R : Rep W G F ρ σ H) (k : Same F F') (s : Same F' H') (hk : ∀ b o, H b = some o → (G.H0 b ≠ none ∨ Owned G ρ σ b) → Kp o (H' b)) (hn : ∀ b, Owned G ρ σ b → F' b = none) (nw : ∀ b o, F' b = some o → F b = some o ∨ G.H0 b = none) (ht : Tbs W F' H') : Rep W G F' ρ σ H' := by
  have go : ∀ {a : Addr} {ho : HO} {o : Ow}, Owned G ρ σ a → H a = some ho → RepO W F a o ho → H' a = some ho ∧ RepO W F' a o ho := fun {a ho o} w e r => ⟨Kp.nt (hk a ho e (.inr w)) r.nt, r.mono k⟩
  refine ⟨s, R.up.trans k, fun b o e h1 h2 => Kp.trans (R.keep b o e h1 h2) fun o' e' => hk b o' e' (.inl (by rw [e]; simp)), fun b o e => ?_, R.len, fun i t hl hi => ?_, R.top, R.sep, R.par, fun a o hm => ?_, fun a o hm => ?_, R.std, R.lnt, ht⟩
  · rcases nw b o e with z | z
    · exact R.new b o z
    · exact .inr z
  · have z := R.slot i t hl hi
    cases t with
    | no => trivial
    | ow o =>
      obtain ⟨a, ho, e1, e2, e3, e4, e5⟩ := z
      have w : Owned G ρ σ a := .inl ⟨i, _, hi, rfl, e1⟩
      exact ⟨a, ho, e1, hn a w, e3, (go w e4 e5).1, (go w e4 e5).2⟩
    | pa o =>
      obtain ⟨a, ho, e1, e2, e3, e4, e5⟩ := z
      have w : Owned G ρ σ a := .inl ⟨i, _, hi, rfl, e1⟩
      exact ⟨a, ho, e1, e2, hn a w, (go w e4 e5).1, (go w e4 e5).2⟩
    | d x => obtain ⟨v, e1, e2⟩ := z; exact ⟨v, e1, e2.mono k⟩
    | fz x => obtain ⟨v, e1, e2⟩ := z; exact ⟨v, e1, e2.mono k⟩
    | raw x => obtain ⟨v, e1, e2⟩ := z; exact ⟨v, e1, e2.mono k⟩
    | fn f B => obtain ⟨v, e1, e2⟩ := z; exact ⟨v, e1, e2.mono k⟩
    | hp x => exact z
  · obtain ⟨h1, h2, ⟨ho, h3, h4⟩, h5⟩ := R.stk a o hm
    have w : Owned G ρ σ a := .inr (.inl ⟨o, hm⟩)
    exact ⟨hn a w, h2, ⟨ho, (go w h3 h4).1, (go w h3 h4).2⟩, h5⟩
  · obtain ⟨h1, h2, ⟨ho, h3, h4⟩, h5⟩ := R.shr a o hm
    have w : Owned G ρ σ a := .inr (.inr ⟨o, hm⟩)
    exact ⟨hn a w, h2, ⟨ho, (go w h3 h4).1, (go w h3 h4).2⟩, h5⟩
theorem Rep.ownH (R : Rep W G F ρ σ H) {b : Addr} (h : Owned G ρ σ b) {p : Addr} (hp : H p = none) : b ≠ p := by
  obtain ⟨_, ho, o, h1, _⟩ := R.owd h
  exact ne_of_none h1 hp

/-- a still thing is laid -/
theorem Rep.alloc (R : Rep W G F ρ σ H) {p : Addr} (hp : H p = none) (o : HO) : Rep W G (upd F p o) ρ σ (upd H p o) := by
  obtain ⟨hF, h0⟩ := R.nofree hp
  refine R.core (same_upd hF) (fun b u e => ?_) (fun b u e _ => .inl (same_upd hp b u e)) (fun b w => ?_) (fun b u e => ?_) fun t ht => ?_
  · by_cases hb : b = p
    · subst hb; rw [upd_same] at e ⊢; exact e
    · rw [upd_ne hb] at e; rw [upd_ne hb]; exact R.sub _ _ e
  · rw [upd_ne (R.ownH w hp)]; exact (R.owd w).1
  · by_cases hb : b = p
    · subst hb; exact .inr h0
    · rw [upd_ne hb] at e; exact .inl e
  · have hT := R.tabs t ht
    obtain ⟨n, ps, e, _⟩ := id hT
    have ne : t.1 ≠ p := ne_of_none e hp
    exact hT.mono (same_upd hF) (by rw [upd_ne ne]; exact n) fun ps e => by rw [upd_ne ne]; exact e

/-- a thing that is not noted is laid or changed -/
theorem Rep.loose (R : Rep W G F ρ σ H) {p : Addr} (hF : F p = none) (h0 : G.H0 p = none) (hw : ¬ Owned G ρ σ p) (hT : ∀ ps, H p ≠ some (.tbl ps)) (o : HO) : Rep W G F ρ σ (upd H p o) := by
  refine R.core (Same.refl _) (fun b u e => ?_) (fun b u e w => ?_) (fun b w => (R.owd w).1) (fun b u e => .inl e) fun t ht => ?_
  · rw [upd_ne (ne_of_none e hF)]; exact R.sub _ _ e
  · have ne : b ≠ p := fun z => by
      subst z
      rcases w with w | w
      · exact w h0
      · exact hw w
    rw [upd_ne ne]
    exact .inl e
  · have hT' := R.tabs t ht
    refine hT'.mono (Same.refl _) hT'.1 fun ps e => ?_
    rw [upd_ne (fun z => hT ps (by rw [← z]; exact e))]
    exact e

/-- what stands loose becomes still -/
theorem Rep.settle (R : Rep W G F ρ σ H) {p : Addr} {o : HO} (hF : F p = none) (h0 : G.H0 p = none) (hH : H p = some o) (hw : ¬ Owned G ρ σ p) (hT : NT o) : Rep W G (upd F p o) ρ σ H := by
  refine R.core (same_upd hF) (fun b u e => ?_) (fun b u e _ => .inl e) (fun b w => ?_) (fun b u e => ?_) fun t ht => ?_
  · by_cases hb : b = p
    · subst hb; rw [upd_same] at e; cases e; exact hH
    · rw [upd_ne hb] at e; exact R.sub _ _ e
  · rw [upd_ne (fun z => hw (by rw [← z]; exact w))]; exact (R.owd w).1
  · by_cases hb : b = p
    · subst hb; exact .inr h0
    · rw [upd_ne hb] at e; exact .inl e
  · have hT' := R.tabs t ht
    obtain ⟨n, ps, e, _⟩ := id hT'
    have ne : t.1 ≠ p := fun z => by
      rw [z, hH] at e
      exact hT ps (Option.some.inj e)
    exact hT'.mono (same_upd hF) (by rw [upd_ne ne]; exact n) fun ps e => e

/-- a slot that is not lent is set -/
theorem Rep.set (R : Rep W G F ρ σ H) {i : Nat} {s : S} {v : V} (hi : i < σ.length) (hp : ∀ o, ρ[i]? ≠ some (S.pa o)) (hs : SlotOk W G F H i s (some (some v))) (hsep : s.own = true → ∀ (j : Nat) (t : S), j ≠ i → ρ[j]? = some t → t.own = true → σ[j]? ≠ some (some v))
    (hst : s.own = true → ∀ a o, (a, o) ∈ G.st → v ≠ .ref a) (hsh : s.own = true → ∀ a o, (a, o) ∈ hpOf ρ σ.length → v ≠ .ref a) : Rep W G F (ρ.set i s) (σ.set i (some v)) H := by
  have hiρ : i < ρ.length := Nat.lt_of_lt_of_le hi R.len
  have hne : i ≠ σ.length := Nat.ne_of_lt hi
  have e1 : hpOf (ρ.set i s) (σ.set i (some v)).length = hpOf ρ σ.length := by rw [List.length_set, hpOf_set hne]
  have other : ∀ (a : Addr) (o : Ow) , (s.own = true → v ≠ .ref a) → (∀ (j : Nat) (t : S), ρ[j]? = some t → t.own = true → σ[j]? ≠ some (some (.ref a))) → ∀ (j : Nat) (t : S), (ρ.set i s)[j]? = some t → t.own = true → (σ.set i (some v))[j]? ≠ some (some (.ref a)) := fun a o hv h5 j t hj ht ej => by
    by_cases e1 : i = j
    · subst e1
      rw [List.getElem?_set_self hiρ] at hj
      cases hj
      rw [List.getElem?_set_self hi] at ej
      cases ej
      exact hv ht rfl
    · rw [List.getElem?_set_ne e1] at hj ej
      exact h5 j t hj ht ej
  refine ⟨R.sub, R.up, R.keep, R.new, by simp [R.len], fun j t hl hj => ?_, fun j t hl hj => ?_, fun j k t u a hjk hj hk hto huo ej ek => ?_, fun j a hj => ?_, fun a o' hm => ?_, fun a o' hm => ?_, by rw [e1]; exact R.std, by rw [e1]; exact R.lnt, R.tabs⟩
  · by_cases e : i = j
    · subst e
      rw [List.getElem?_set_self hiρ] at hj
      cases hj
      rw [List.getElem?_set_self hi]
      exact hs
    · rw [List.getElem?_set_ne e] at hj
      rw [List.getElem?_set_ne e]
      exact R.slot j t (by simpa using hl) hj
  · rw [List.length_set] at hl ⊢
    rw [List.getElem?_set_ne (by omega)] at hj
    exact R.top j t hl hj
  · by_cases e1 : i = j
    · subst e1
      rw [List.getElem?_set_self hiρ] at hj
      cases hj
      rw [List.getElem?_set_self hi] at ej
      rw [List.getElem?_set_ne hjk] at hk ek
      cases ej
      exact hsep hto k u (Ne.symm hjk) hk huo ek
    · rw [List.getElem?_set_ne e1] at hj ej
      by_cases e2 : i = k
      · subst e2
        rw [List.getElem?_set_self hiρ] at hk
        cases hk
        rw [List.getElem?_set_self hi] at ek
        cases ek
        exact hsep huo j t hjk hj hto ej
      · rw [List.getElem?_set_ne e2] at hk ek
        exact R.sep j k t u a hjk hj hk hto huo ej ek
  · obtain ⟨hl, o, ho⟩ := R.par j a hj
    have e : i ≠ j := fun z => hp o (z ▸ ho)
    exact ⟨by simpa using hl, o, by rw [List.getElem?_set_ne e]; exact ho⟩
  · obtain ⟨h1, h2, h3, h5⟩ := R.stk a o' hm
    exact ⟨h1, h2, h3, other a o' (fun z => hst z a o' hm) h5⟩
  · rw [e1] at hm
    obtain ⟨h1, h2, h3, h5⟩ := R.shr a o' hm
    exact ⟨h1, h2, h3, other a o' (fun z => hsh z a o' hm) h5⟩

/-- the heap changes at what one thing is noted of: all else stays -/
theorem Rep.at_ (R : Rep W G F ρ σ H) {a : Addr} {ho : HO} (w : Owned G ρ σ a) : Same F (upd H a ho) ∧ (∀ b o, G.H0 b = some o → b ∉ G.ow → b ∉ G.lt → b = a ∨ Kp o (upd H a ho b)) ∧ Tbs W F (upd H a ho) := by
  obtain ⟨hF, h1, o1, h2, h3⟩ := R.owd w
  refine ⟨fun b u e => ?_, fun b o e h1 h2 => ?_, fun t ht => ?_⟩
  · rw [upd_ne (ne_of_none e hF)]; exact R.sub _ _ e
  · by_cases hb : b = a
    · exact .inl hb
    · exact .inr (by rw [upd_ne hb]; exact R.keep b o e h1 h2)
  · have hT := R.tabs t ht
    exact hT.mono (Same.refl _) hT.1 fun ps e => by rw [upd_ne (R.notab w t ht)]; exact e
/-- a slot of one's own has changed in place -/
theorem Rep.put (R : Rep W G F ρ σ H) {i : Nat} {o o' : Ow} {a : Addr} {ho : HO} (hi : ρ[i]? = some (S.ow o) ∨ ρ[i]? = some (S.pa o)) (ha : σ[i]? = some (some (.ref a))) (hr : RepO W F a o' ho) :
    Rep W G F (ρ.set i (match ρ[i]? with | some (S.pa _) => S.pa o' | _ => S.ow o')) σ (upd H a ho) := by
  have hlt : i < ρ.length := by
    rcases hi with h | h <;> exact (List.getElem?_eq_some_iff.mp h).1
  have hls : i < σ.length := own_lt ha
  have ownI : ∃ s, ρ[i]? = some s ∧ s.own = true := by
    rcases hi with h | h <;> exact ⟨_, h, rfl⟩
  have w : Owned G ρ σ a := by
    obtain ⟨s, h1, h2⟩ := ownI
    exact .inl ⟨i, s, h1, h2, ha⟩
  obtain ⟨s1, k1, t1⟩ := R.at_ (ho := ho) w
  obtain ⟨hF, hown⟩ : F a = none ∧ (G.H0 a = none ∨ a ∈ G.ow) := by
    rcases hi with h | h
    · obtain ⟨b, ho', e1, e2, e3, _⟩ := R.slot i _ hls h
      rw [ha] at e1; cases e1
      exact ⟨e2, .inl e3⟩
    · obtain ⟨b, ho', e1, e2, e3, _⟩ := R.slot i _ hls h
      rw [ha] at e1; cases e1
      exact ⟨e3, .inr (List.mem_of_getElem? e2)⟩
  have eh : hpOf (ρ.set i (match ρ[i]? with | some (S.pa _) => S.pa o' | _ => S.ow o')) σ.length = hpOf ρ σ.length := hpOf_set (Nat.ne_of_lt hls)
  have back : ∀ (j : Nat) (t : S), (ρ.set i (match ρ[i]? with | some (S.pa _) => S.pa o' | _ => S.ow o'))[j]? = some t → t.own = true → ∃ t' : S, ρ[j]? = some t' ∧ t'.own = true := by
    intro j t hj ht
    by_cases e : i = j
    · subst e; exact ownI
    · rw [List.getElem?_set_ne e] at hj
      exact ⟨t, hj, ht⟩
  have oth : ∀ j t b, i ≠ j → ρ[j]? = some t → t.own = true → σ[j]? = some (some (.ref b)) → b ≠ a := by
    intro j t b hij hj ht hb z
    subst z
    obtain ⟨s, h1, h2⟩ := ownI
    exact R.sep i j _ t b hij h1 hj h2 ht ha hb
  have nst : ∀ b (o2 : Ow), (∀ (j : Nat) (t : S), ρ[j]? = some t → t.own = true → σ[j]? ≠ some (some (.ref b))) → b ≠ a := fun b o2 h5 z => by
    subst z
    obtain ⟨s, h1, h2⟩ := ownI
    exact h5 i s h1 h2 ha
  refine ⟨s1, R.up, fun b u e h1 h2 => ?_, R.new, by simp [R.len], fun j t hl hj => ?_, fun j t hl hj => ?_, fun j k t u b hjk hj hk hto huo ej ek => ?_, fun j b hj => ?_, fun b o2 hm => ?_, fun b o2 hm => ?_, by rw [eh]; exact R.std, by rw [eh]; exact R.lnt, t1⟩
  · rcases k1 b u e h1 h2 with z | z
    · subst z
      rcases hown with q | q
      · rw [q] at e; cases e
      · exact absurd q h1
    · exact z
  · by_cases e : i = j
    · subst e
      rw [List.getElem?_set_self hlt] at hj
      rcases hi with h | h
      · simp only [h] at hj
        cases hj
        obtain ⟨b, ho', e1, e2, e3, _⟩ := R.slot i _ hls h
        rw [ha] at e1; cases e1
        exact ⟨a, ho, ha, e2, e3, upd_same, hr⟩
      · simp only [h] at hj
        cases hj
        obtain ⟨b, ho', e1, e2, e3, _⟩ := R.slot i _ hls h
        rw [ha] at e1; cases e1
        exact ⟨a, ho, ha, e2, e3, upd_same, hr⟩
    · rw [List.getElem?_set_ne e] at hj
      have h := R.slot j t hl hj
      cases t with
      | no => trivial
      | ow o2 =>
        obtain ⟨b, ho2, e1, e2, e3, e4, e5⟩ := h
        exact ⟨b, ho2, e1, e2, e3, by rw [upd_ne (oth j _ b e hj rfl e1)]; exact e4, e5⟩
      | pa o2 =>
        obtain ⟨b, ho2, e1, e2, e3, e4, e5⟩ := h
        exact ⟨b, ho2, e1, e2, e3, by rw [upd_ne (oth j _ b e hj rfl e1)]; exact e4, e5⟩
      | d x => exact h
      | fz x => exact h
      | raw x => exact h
      | fn f B => exact h
      | hp x => exact h
  · rw [List.getElem?_set_ne (by omega)] at hj
    exact R.top j t hl hj
  · obtain ⟨t', h1, h2⟩ := back j t hj hto
    obtain ⟨u', h3, h4⟩ := back k u hk huo
    exact R.sep j k t' u' b hjk h1 h3 h2 h4 ej ek
  · obtain ⟨hl, o2, h⟩ := R.par j b hj
    by_cases e : i = j
    · subst e
      rw [List.getElem?_set_self hlt]
      exact ⟨hl, o', by rw [h]⟩
    · exact ⟨hl, o2, by rw [List.getElem?_set_ne e]; exact h⟩
  · obtain ⟨h1, h2, ⟨ho', h3, h4⟩, h5⟩ := R.stk b o2 hm
    refine ⟨h1, h2, ⟨ho', by rw [upd_ne (nst b o2 h5)]; exact h3, h4⟩, fun j t hj ht ej => ?_⟩
    obtain ⟨t', k1, k2⟩ := back j t hj ht
    exact h5 j t' k1 k2 ej
  · rw [eh] at hm
    obtain ⟨h1, h2, ⟨ho', h3, h4⟩, h5⟩ := R.shr b o2 hm
    refine ⟨h1, h2, ⟨ho', by rw [upd_ne (nst b o2 h5)]; exact h3, h4⟩, fun j t hj ht ej => ?_⟩
    obtain ⟨t', k1, k2⟩ := back j t hj ht
    exact h5 j t' k1 k2 ej

/-! ### loose things -/
theorem Rep.free_not (R : Rep W G F ρ σ H) {p : Addr} (hp : H p = none) : ¬ Owned G ρ σ p := fun w => R.ownH w hp rfl
theorem not_own {G : Fx} {ρ : List S} {σ : L2.St} {p : Addr} (h : ¬ Owned G ρ σ p) : (∀ (i : Nat) (s : S), ρ[i]? = some s → s.own = true → σ[i]? ≠ some (some (.ref p))) ∧ (∀ a o, (a, o) ∈ G.st → a ≠ p) ∧ ∀ a o, (a, o) ∈ hpOf ρ σ.length → a ≠ p :=
  ⟨fun i s h1 h2 h3 => h (.inl ⟨i, s, h1, h2, h3⟩), fun a o hm z => h (.inr (.inl ⟨o, z ▸ hm⟩)), fun a o hm z => h (.inr (.inr ⟨o, z ▸ hm⟩))⟩
/-- a thing that stands loose is noted -/
theorem Rep.hold (R : Rep W G F ρ σ H) {a : Addr} {o : Ow} {ho : HO} (h1 : F a = none) (h2 : G.H0 a = none) (h3 : H a = some ho) (h4 : RepO W F a o ho) (h5 : ¬ Owned G ρ σ a) : Rep W (G.push a o) F ρ σ H := by
  obtain ⟨n1, n2, n3⟩ := not_own h5
  refine ⟨R.sub, R.up, R.keep, R.new, R.len, R.slot, R.top, R.sep, R.par, fun b o' hm => ?_, R.shr, ?_, R.lnt, R.tabs⟩
  · rcases List.mem_cons.mp hm with e | hm
    · cases e
      exact ⟨h1, h2, ⟨ho, h3, h4⟩, n1⟩
    · exact R.stk b o' hm
  · have hp : ((hpOf ρ σ.length ++ (a, o) :: G.st).map (·.1)).Perm (((a, o) :: (hpOf ρ σ.length ++ G.st)).map (·.1)) := List.Perm.map _ List.perm_middle
    show ((hpOf ρ σ.length ++ (a, o) :: G.st).map (·.1)).Nodup
    rw [hp.nodup_iff, List.map_cons, List.nodup_cons]
    refine ⟨fun z => ?_, R.std⟩
    obtain ⟨⟨b, o'⟩, hq, e⟩ := List.mem_map.mp z
    rcases List.mem_append.mp hq with q | q
    · exact n3 b o' q e
    · exact n2 b o' q e
/-- a loose thing is laid -/
theorem Rep.push (R : Rep W G F ρ σ H) {p : Addr} (hp : H p = none) {o : Ow} {ho : HO} (hr : RepO W F p o ho) : Rep W (G.push p o) F ρ σ (upd H p ho) := by
  obtain ⟨hF, h0⟩ := R.nofree hp
  have nw := R.free_not hp
  exact (R.loose hF h0 nw (fun ps e => by rw [hp] at e; cases e) ho).hold hF h0 upd_same hr nw
/-- it is let go: what is known of it then -/
theorem Rep.pop {p : Addr} {o : Ow} (R : Rep W (G.push p o) F ρ σ H) : Rep W G F ρ σ H ∧ F p = none ∧ G.H0 p = none ∧ (∃ ho, H p = some ho ∧ RepO W F p o ho) ∧ ¬ Owned G ρ σ p := by
  obtain ⟨h1, h2, h3, h4⟩ := R.stk p o List.mem_cons_self
  have hp : ((hpOf ρ σ.length ++ (p, o) :: G.st).map (·.1)).Perm (((p, o) :: (hpOf ρ σ.length ++ G.st)).map (·.1)) := List.Perm.map _ List.perm_middle
  have nd : ((hpOf ρ σ.length ++ (p, o) :: G.st).map (·.1)).Nodup := R.std
  rw [hp.nodup_iff, List.map_cons, List.nodup_cons] at nd
  obtain ⟨n1, n2⟩ := nd
  refine ⟨⟨R.sub, R.up, R.keep, R.new, R.len, R.slot, R.top, R.sep, R.par, fun a o' hm => R.stk a o' (List.mem_cons_of_mem _ hm), R.shr, n2, R.lnt, R.tabs⟩, h1, h2, h3, ?_⟩
  rintro (⟨i, s, a1, a2, a3⟩ | ⟨o', hm⟩ | ⟨o', hm⟩)
  · exact h4 i s a1 a2 a3
  · exact n1 (List.mem_map.mpr ⟨_, List.mem_append_right _ hm, rfl⟩)
  · exact n1 (List.mem_map.mpr ⟨_, List.mem_append_left _ hm, rfl⟩)
/-- it is changed -/
theorem Rep.restock {p : Addr} {o o' : Ow} {ho : HO} (R : Rep W (G.push p o) F ρ σ H) (hr : RepO W F p o' ho) : Rep W (G.push p o') F ρ σ (upd H p ho) := by
  obtain ⟨R0, hF, h0, ⟨h1, h2, h3⟩, hw⟩ := R.pop
  exact (R0.loose hF h0 hw (fun ps e => h3.nt ps (Option.some.inj (h2.symm.trans e))) ho).hold hF h0 upd_same hr hw
end
end Aq
/-! A1: expressions, told by data. -/
namespace Aq
open PySem PySem.Spec PyProof.Rows L2

abbrev FE := List S → (S → List S → Prop) → Prop
abbrev FT := List S → (Bool → List S → Prop) → Prop
abbrev FA := List S → (List S → List S → Prop) → Prop

/-- the tables of code objects of the row -/
class Tb (mg : Str → Option Value) where
  l : List (Addr × Str)
instance tbBlk {X : Cx} [h : Tb X.mg] {s : Shared} {H : Hp} {sc : Scope} {ce : Env} {fp : List Addr} : Tb (X.blk s H sc ce fp).mg := h
instance tbOf {CX : CXT} {P : Program} {w : World} {K : PySem.W.Frag} {mg : Str → Option Value} [h : Tb mg] {base : Heap} {N : List Str} {q : Str} {sc : Scope} {fa : Addr} {cdv : Value} {A : Around} {outer : List Env} {s : Shared} {H : Hp} {E : XK} : Tb (cxOf CX P w K mg base N q sc fa cdv A outer s H E).mg := h
instance tbNox {X : Cx} [h : Tb X.mg] : Tb X.nox.mg := h
instance tbTr {X : Cx} [h : Tb X.mg] {pn : List (Addr × Obj)} {xe : Value → Shared → Prop} : Tb (X.tr pn xe).mg := h
abbrev wd (X : Cx) [Tb X.mg] : Wd := ⟨X.prog, X.w, X.K, Tb.l X.mg⟩

def ESound (W : Wd) (t : TE) (f : FE) : Prop :=
  ∀ (G : Fx) (F : Hp) (ρ : List S) (σ : L2.St) (H : Hp) (Q : VK) (Q' : S → List S → Prop), Rep W G F ρ σ H → f ρ Q' →
    (∀ r ρ' F' H' v, Q' r ρ' → Same F F' → Rep W G F' ρ' σ H' → VOk W F' r v → Q v H') → t σ H Q
def TSound (W : Wd) (t : TT) (f : FT) : Prop :=
  ∀ (G : Fx) (F : Hp) (ρ : List S) (σ : L2.St) (H : Hp) (Q : Bool → Hp → Prop) (Q' : Bool → List S → Prop), Rep W G F ρ σ H → f ρ Q' →
    (∀ b ρ' F' H', Q' b ρ' → Same F F' → Rep W G F' ρ' σ H' → Q b H') → t σ H Q
abbrev VsOk (W : Wd) (F : Hp) : List S → List V → Prop := Paired (VOk W F)
def ASound (W : Wd) (t : TA) (f : FA) : Prop :=
  ∀ (G : Fx) (F : Hp) (ρ : List S) (σ : L2.St) (H : Hp) (Q : List V → Hp → Prop) (Q' : List S → List S → Prop), Rep W G F ρ σ H → f ρ Q' →
    (∀ rs ρ' F' H' vs, Q' rs ρ' → Same F F' → Rep W G F' ρ' σ H' → VsOk W F' rs vs → Q vs H') → t σ H Q
/-- the reading that says no more than the data -/
def tE (W : Wd) (f : FE) : TE := fun σ H Q => ∃ G F ρ Q', Rep W G F ρ σ H ∧ f ρ Q' ∧ ∀ r ρ' F' H' v, Q' r ρ' → Same F F' → Rep W G F' ρ' σ H' → VOk W F' r v → Q v H'
def tT (W : Wd) (f : FT) : TT := fun σ H Q => ∃ G F ρ Q', Rep W G F ρ σ H ∧ f ρ Q' ∧ ∀ b ρ' F' H', Q' b ρ' → Same F F' → Rep W G F' ρ' σ H' → Q b H'
def tA (W : Wd) (f : FA) : TA := fun σ H Q => ∃ G F ρ Q', Rep W G F ρ σ H ∧ f ρ Q' ∧ ∀ rs ρ' F' H' vs, Q' rs ρ' → Same F F' → Rep W G F' ρ' σ H' → VsOk W F' rs vs → Q vs H'
structure DE (X : Cx) [Tb X.mg] (e : Expr) (f : FE) : Prop where
  run : PE X e (tE (wd X) f)
structure DT (X : Cx) [Tb X.mg] (e : Expr) (f : FT) : Prop where
  run : PT X e (tT (wd X) f)
structure DA (X : Cx) [Tb X.mg] (es : List Expr) (f : FA) : Prop where
  run : PA X es (tA (wd X) f)
theorem DE.ex {X : Cx} [Tb X.mg] {e : Expr} {f : FE} (h : DE X e f) : ∃ t, PE X e t ∧ ESound (wd X) t f := ⟨_, h.run, fun _ _ _ _ _ _ _ R hf hq => ⟨_, _, _, _, R, hf, hq⟩⟩
theorem DT.ex {X : Cx} [Tb X.mg] {e : Expr} {f : FT} (h : DT X e f) : ∃ t, PT X e t ∧ TSound (wd X) t f := ⟨_, h.run, fun _ _ _ _ _ _ _ R hf hq => ⟨_, _, _, _, R, hf, hq⟩⟩
theorem DA.ex {X : Cx} [Tb X.mg] {es : List Expr} {f : FA} (h : DA X es f) : ∃ t, PA X es t ∧ ASound (wd X) t f := ⟨_, h.run, fun _ _ _ _ _ _ _ R hf hq => ⟨_, _, _, _, R, hf, hq⟩⟩
theorem DE.of {X : Cx} [Tb X.mg] {e : Expr} {f : FE} {t : TE} (p : PE X e t) (s : ESound (wd X) t f) : DE X e f :=
  ⟨⟨fun pins st σ H Q I ⟨_, _, _, _, R, hf, hq⟩ => p.run pins st σ H Q I (s _ _ _ _ _ _ _ R hf hq)⟩⟩
theorem DT.of {X : Cx} [Tb X.mg] {e : Expr} {f : FT} {t : TT} (p : PT X e t) (s : TSound (wd X) t f) : DT X e f :=
  ⟨⟨fun pins st σ H Q I ⟨_, _, _, _, R, hf, hq⟩ => p.run pins st σ H Q I (s _ _ _ _ _ _ _ R hf hq)⟩⟩
theorem DA.of {X : Cx} [Tb X.mg] {es : List Expr} {f : FA} {t : TA} (p : PA X es t) (s : ASound (wd X) t f) : DA X es f :=
  ⟨⟨fun pos pins st σ H Q I ⟨_, _, _, _, R, hf, hq⟩ => p.run pos pins st σ H Q I (s _ _ _ _ _ _ _ R hf hq)⟩⟩

theorem VsOk.mono {W : Wd} {F F' : Hp} {ss : List S} {vs : List V} (e : Same F F') (h : VsOk W F ss vs) : VsOk W F' ss vs := Paired.mapP h fun _ _ z => z.mono e

/-! ### data -/
def unD : List S → Option (List D)
  | [] => some []
  | .d x :: r => (unD r).map (x :: ·)
  | _ :: _ => none
theorem unD_ok {W : Wd} {F : Hp} : ∀ {ss : List S} {vs : List V} {ds : List D}, VsOk W F ss vs → unD ss = some ds → DpAll W.K F vs ds
  | [], _, ds, .nil, h => by cases h; exact .nil
  | .d x :: r, _, ds, .cons h1 h2, h => by
    simp only [unD] at h
    obtain ⟨ds', e, rfl⟩ := Option.map_eq_some_iff.mp h
    exact .cons h1 (unD_ok h2 e)
  | .no :: _, _, _, _, h => by cases h
  | .fz _ :: _, _, _, _, h => by cases h
  | .ow _ :: _, _, _, _, h => by cases h
  | .pa _ :: _, _, _, _, h => by cases h
  | .raw _ :: _, _, _, _, h => by cases h
  | .hp _ :: _, _, _, _, h => by cases h
  | .fn _ _ :: _, _, _, _, h => by cases h
theorem DpAll.length {K : PySem.W.Frag} {H : Hp} : ∀ {vs : List V} {ds : List D}, DpAll K H vs ds → vs.length = ds.length
  | _, _, .nil => rfl
  | _, _, .cons _ t => by simp [DpAll.length t]
theorem DpAll.get {K : PySem.W.Frag} {H : Hp} : ∀ {vs : List V} {ds : List D} {i : Nat} {d : D}, DpAll K H vs ds → ds[i]? = some d → ∃ v, vs[i]? = some v ∧ Dp K H v d
  | _, _, _, _, .nil, e => by simp at e
  | _, _, 0, _, .cons r _, e => by simp at e; subst e; exact ⟨_, rfl, r⟩
  | _, _, i + 1, d, .cons _ t, e => by
    obtain ⟨v, h1, h2⟩ := DpAll.get (i := i) (d := d) t (by simpa using e)
    exact ⟨v, by simpa using h1, h2⟩
theorem DpAll.get' {K : PySem.W.Frag} {H : Hp} : ∀ {vs : List V} {ds : List D} {i : Nat} {v : V}, DpAll K H vs ds → vs[i]? = some v → ∃ d, ds[i]? = some d ∧ Dp K H v d
  | _, _, _, _, .nil, e => by simp at e
  | _, _, 0, _, .cons r _, e => by simp at e; subst e; exact ⟨_, rfl, r⟩
  | _, _, i + 1, v, .cons _ t, e => by
    obtain ⟨d, h1, h2⟩ := DpAll.get' (i := i) (v := v) t (by simpa using e)
    exact ⟨d, by simpa using h1, h2⟩
theorem DpAll.append {K : PySem.W.Frag} {H : Hp} : ∀ {vs ws : List V} {ds es : List D}, DpAll K H vs ds → DpAll K H ws es → DpAll K H (vs ++ ws) (ds ++ es)
  | _, _, _, _, .nil, s => s
  | _, _, _, _, .cons r t, s => .cons r (DpAll.append t s)
theorem DpAll.take {K : PySem.W.Frag} {H : Hp} : ∀ {vs : List V} {ds : List D} (n : Nat), DpAll K H vs ds → DpAll K H (vs.take n) (ds.take n)
  | _, _, 0, _ => by simp; exact .nil
  | _, _, _ + 1, .nil => .nil
  | _, _, n + 1, .cons r t => .cons r (DpAll.take n t)
theorem DpAll.drop {K : PySem.W.Frag} {H : Hp} : ∀ {vs : List V} {ds : List D} (n : Nat), DpAll K H vs ds → DpAll K H (vs.drop n) (ds.drop n)
  | _, _, 0, h => h
  | _, _, _ + 1, .nil => .nil
  | _, _, n + 1, .cons _ t => DpAll.drop n t
theorem DpAll.set {K : PySem.W.Frag} {H : Hp} {v : V} {d : D} (r : Dp K H v d) : ∀ {vs : List V} {ds : List D} (i : Nat), DpAll K H vs ds → DpAll K H (vs.set i v) (ds.set i d)
  | _, _, _, .nil => .nil
  | _, _, 0, .cons _ t => .cons r t
  | _, _, i + 1, .cons q t => .cons q (DpAll.set r i t)
theorem DpAll.rep {K : PySem.W.Frag} {H : Hp} {vs : List V} {ds : List D} (h : DpAll K H vs ds) : ∀ k : Nat, DpAll K H (List.replicate k vs).flatten (List.replicate k ds).flatten
  | 0 => .nil
  | k + 1 => by
    rw [List.replicate_succ, List.replicate_succ, List.flatten_cons, List.flatten_cons]
    exact DpAll.append h (DpAll.rep h k)
theorem DpAll.dropLast {K : PySem.W.Frag} {H : Hp} {vs : List V} {ds : List D} (h : DpAll K H vs ds) : DpAll K H vs.dropLast ds.dropLast := by
  rw [List.dropLast_eq_take, List.dropLast_eq_take, DpAll.length h]
  exact DpAll.take _ h
theorem DpAll.reverse {K : PySem.W.Frag} {H : Hp} : ∀ {vs : List V} {ds : List D}, DpAll K H vs ds → DpAll K H vs.reverse ds.reverse
  | _, _, .nil => .nil
  | _, _, .cons r t => by
    rw [List.reverse_cons, List.reverse_cons]
    exact DpAll.append (DpAll.reverse t) (.cons r .nil)

/-! ### names, constants -/
section
variable {X : Cx} [Tb X.mg]
def fVar (i : Nat) : FE := fun ρ Q => match ρ[i]? with
  | some (.d x) => Q (.d x) ρ
  | some (.fz o) => Q (.fz o) ρ
  | some (.raw v) => Q (.raw v) ρ
  | some (.fn f B) => Q (.fn f B) ρ
  | _ => False
theorem snd_var {W : Wd} {i : Nat} : ESound W (tVar i) (fVar i) := by
  intro G F ρ σ H Q Q' R hf hq
  unfold fVar at hf
  split at hf
  · rename_i x hi
    obtain ⟨v, e1, e2⟩ := R.slot i _ (R.lt hi (by intro _ z; cases z)) hi
    exact ⟨v, e1, hq _ _ F H v hf (Same.refl _) R e2⟩
  · rename_i x hi
    obtain ⟨v, e1, e2⟩ := R.slot i _ (R.lt hi (by intro _ z; cases z)) hi
    exact ⟨v, e1, hq _ _ F H v hf (Same.refl _) R e2⟩
  · rename_i x hi
    obtain ⟨v, e1, e2⟩ := R.slot i _ (R.lt hi (by intro _ z; cases z)) hi
    exact ⟨v, e1, hq _ _ F H v hf (Same.refl _) R e2⟩
  · rename_i f B hi
    obtain ⟨v, e1, e2⟩ := R.slot i _ (R.lt hi (by intro _ z; cases z)) hi
    exact ⟨v, e1, hq _ _ F H v hf (Same.refl _) R e2⟩
  · exact hf.elim
theorem de_var (i : Nat) {x : Str} {pos : Pos} (hN : X.N[i]? = some x := by rfl) (hv : Vis X.env.scope x := by first | exact Or.inl rfl | exact Or.inr (Or.inl rfl) | exact Or.inr (Or.inr rfl)) (hd : (x == ("__debug__" : Str)) = false := by decide)
    (hcd : (x == ("__classdict__" : Str)) = false := by decide) : DE X (.Name x pos) (fVar i) := .of (pv i hN hv hd hcd) snd_var
/-- a name of a thing of one's own, whose last use it is: it stands still from here on -/
def fFrz (i : Nat) : FE := fun ρ Q => match ρ[i]? with
  | some (.ow (.lst ds)) => Q (.d (.list ds)) (ρ.set i (.d (.list ds)))
  | some (.ow o) => Q (.fz o) (ρ.set i (.fz o))
  | _ => False

def fC (x : D) : FE := fun ρ Q => Q (.d x) ρ
theorem snd_c {W : Wd} {v : V} {x : D} (h : ∀ F, Dp W.K F v x) : ESound W (tC v) (fC x) := fun _ F _ _ H _ _ R hf hq => hq _ _ F H v hf (Same.refl _) R (h F)
theorem de_int {i j pos} : DE X (.Constant (.int i) j pos) (fC (.int i)) := .of pe_int (snd_c fun _ => .int _)
theorem de_bl {b j pos} : DE X (.Constant (.bool b) j pos) (fC (.bool b)) := .of pe_bl (snd_c fun _ => .bl _)
theorem de_non {j pos} : DE X (.Constant .none j pos) (fC .none) := .of pe_non (snd_c fun _ => .non)
theorem de_str {x j pos} : DE X (.Constant (.str x) j pos) (fC (.str x)) := .of pe_str (snd_c fun _ => .str _)
/-- a constant of the module -/
def fRaw (s : S) : FE := fun ρ Q => Q s ρ
theorem de_glob {x : Str} {v : V} {u : Value} {s : S} {pos : Pos} (hg : Gl X x) (hm : X.mg x = some u) (r : RelV v u) (h : ∀ F, VOk (wd X) F s v) (hd : (x == ("__debug__" : Str)) = false := by decide) : DE X (.Name x pos) (fRaw s) :=
  .of (pe_glob hg hm r hd) fun _ F _ _ H _ _ R hf hq => hq _ _ F H v hf (Same.refl _) R (h F)

/-! ### arguments, displays -/
def fNil : FA := fun ρ Q => Q [] ρ
def fCons (f : FE) (g : FA) : FA := fun ρ Q => f ρ fun r ρ1 => g ρ1 fun rs ρ2 => Q (r :: rs) ρ2
theorem da_nil : DA X [] fNil := .of pa_nil fun _ F _ _ H _ _ R hf hq => hq _ _ F H [] hf (Same.refl _) R .nil
theorem da_cons {e : Expr} {es : List Expr} {f : FE} {g : FA} (ha : DE X e f) (hr : DA X es g) (hs : starEach (e :: es) X.env = (false, eval e X.env) :: starEach es X.env := by rfl) : DA X (e :: es) (fCons f g) := by
  obtain ⟨t, p, sd⟩ := ha.ex
  obtain ⟨t2, p2, sd2⟩ := hr.ex
  refine .of (pa_cons p p2 hs) fun G F ρ σ H Q Q' R hf hq => ?_
  refine sd G F ρ σ H _ _ R hf fun r ρ1 F1 H1 v q1 s1 R1 v1 => ?_
  refine sd2 G F1 ρ1 σ H1 _ _ R1 q1 fun rs ρ2 F2 H2 vs q2 s2 R2 v2 => ?_
  exact hq _ _ F2 H2 _ q2 (s1.trans s2) R2 (.cons (v1.mono s2) v2)
def fTup (g : FA) : FE := fun ρ Q => g ρ fun rs ρ1 => match unD rs with
  | some ds => ds.length ≤ sizeLine ∧ Q (.d (.tuple ds)) ρ1
  | none => False
theorem de_tup {es : List Expr} {g : FA} {x1} {pos : Pos} (h : DA X es g) : DE X (.Tuple es x1 pos) (fTup g) := by
  obtain ⟨t, p, sd⟩ := h.ex
  refine .of (pe_tup p) fun G F ρ σ H Q Q' R hf hq => ?_
  refine sd G F ρ σ H _ _ R hf fun rs ρ1 F1 H1 vs q1 s1 R1 v1 => ?_
  split at q1
  · rename_i ds e
    have hd := unD_ok v1 e
    refine ⟨by rw [DpAll.length hd]; exact q1.1, fun p hp => ?_⟩
    have hF := (R1.nofree hp).1
    exact hq _ _ (upd F1 p (.tup vs)) _ _ q1.2 (s1.trans (same_upd hF)) (R1.alloc hp _) (Dp.tup (SqT.of upd_same) (DpAll.mono (same_upd hF) _ _ hd))
  · exact q1.elim
def fLst (g : FA) : FE := fun ρ Q => g ρ fun rs ρ1 => match unD rs with
  | some ds => ds.length ≤ sizeLine ∧ Q (.d (.list ds)) ρ1
  | none => False
theorem de_lst {es : List Expr} {g : FA} {pos : Pos} (h : DA X es g) : DE X (.List es pos) (fLst g) := by
  obtain ⟨t, p, sd⟩ := h.ex
  refine .of (pe_lst p) fun G F ρ σ H Q Q' R hf hq => ?_
  refine sd G F ρ σ H _ _ R hf fun rs ρ1 F1 H1 vs q1 s1 R1 v1 => ?_
  split at q1
  · rename_i ds e
    have hd := unD_ok v1 e
    refine ⟨by rw [DpAll.length hd]; exact q1.1, fun p hp => ?_⟩
    have hF := (R1.nofree hp).1
    exact hq _ _ (upd F1 p (.lst vs)) _ _ q1.2 (s1.trans (same_upd hF)) (R1.alloc hp _) (Dp.lst (SqL.of upd_same) (DpAll.mono (same_upd hF) _ _ hd))
  · exact q1.elim

/-! ### operators -/
abbrev F2 := S → S → (S → Prop) → Prop
def OSound (W : Wd) (r : R2) (f : F2) : Prop :=
  ∀ (G : Fx) (F : Hp) (ρ : List S) (σ : L2.St) (H : Hp) (a b : S) (x y : V) (Q : VK) (Q' : S → Prop), Rep W G F ρ σ H → VOk W F a x → VOk W F b y → f a b Q' →
    (∀ r F' H' v, Q' r → Same F F' → Rep W G F' ρ σ H' → VOk W F' r v → Q v H') → r x y H Q
def fOp (f : F2) (fa fb : FE) : FE := fun ρ Q => fa ρ fun x ρ1 => fb ρ1 fun y ρ2 => f x y fun z => Q z ρ2
theorem snd_op {W : Wd} {r : R2} {f : F2} {ta tb : TE} {fa fb : FE} (ho : OSound W r f) (ha : ESound W ta fa) (hb : ESound W tb fb) : ESound W (tOp r ta tb) (fOp f fa fb) := by
  intro G F ρ σ H Q Q' R hf hq
  refine ha G F ρ σ H _ _ R hf fun x ρ1 F1 H1 v q1 s1 R1 v1 => ?_
  refine hb G F1 ρ1 σ H1 _ _ R1 q1 fun y ρ2 F2 H2 u q2 s2 R2 v2 => ?_
  refine ho G F2 ρ2 σ H2 x y v u _ _ R2 (v1.mono s2) v2 q2 fun z F3 H3 w q3 s3 R3 v3 => ?_
  exact hq _ _ F3 H3 w q3 ((s1.trans s2).trans s3) R3 v3
theorem OSound.or {W : Wd} {r r' : R2} {f f' : F2} (h : OSound W r f) (h' : OSound W r' f') : OSound W (fun x y H Q => r x y H Q ∨ r' x y H Q) (fun a b Q => f a b Q ∨ f' a b Q) := by
  intro G F ρ σ H a b x y Q Q' R va vb hf hq
  rcases hf with hf | hf
  · exact .inl (h G F ρ σ H a b x y Q Q' R va vb hf hq)
  · exact .inr (h' G F ρ σ H a b x y Q Q' R va vb hf hq)
structure BOp (X : Cx) [Tb X.mg] (op : Operator) (f : F2) : Prop where
  ex : ∃ r, OpR X (binaryOp op) r ∧ OSound (wd X) r f
structure COp (X : Cx) [Tb X.mg] (op : CmpOp) (f : F2) : Prop where
  ex : ∃ r, OpR X (compareOp op) r ∧ OSound (wd X) r f
variable {a b c : Expr} {fa fb fc : FE} {pos : Pos}
theorem de_op {op : Operator} {f : F2} (ho : BOp X op f) (ha : DE X a fa) (hb : DE X b fb) : DE X (.BinOp a op b pos) (fOp f fa fb) := by
  obtain ⟨r, o1, o2⟩ := ho.ex
  obtain ⟨ta, pa, sa⟩ := ha.ex
  obtain ⟨tb, pb, sb⟩ := hb.ex
  exact .of (pe_op o1 pa pb) (snd_op o2 sa sb)
/-- a test of a truth value -/
def fTest (f : FE) : FT := fun ρ Q => f ρ fun r ρ1 => match r with
  | .d (.bool b) => Q b ρ1
  | _ => False
theorem snd_test {W : Wd} {t : TE} {f : FE} (h : ESound W t f) : TSound W (tTest t) (fTest f) := by
  intro G F ρ σ H Q Q' R hf hq
  refine h G F ρ σ H _ _ R hf fun r ρ1 F1 H1 v q1 s1 R1 v1 => ?_
  split at q1
  · rename_i b
    cases v1
    exact ⟨b, rfl, hq _ _ F1 H1 q1 s1 R1⟩
  · exact q1.elim
theorem de_cmp {op : CmpOp} {f : F2} (ho : COp X op f) (ha : DE X a fa) (hb : DE X b fb) (hm : behindInMarks op b = false) : DE X (.Compare a [op] [b] pos) (fOp f fa fb) := by
  obtain ⟨r, o1, o2⟩ := ho.ex
  obtain ⟨ta, pa, sa⟩ := ha.ex
  obtain ⟨tb, pb, sb⟩ := hb.ex
  exact .of (pe_cmpR o1 pa pb hm) (snd_op o2 sa sb)
theorem dt_cmp {op : CmpOp} {f : F2} (ho : COp X op f) (ha : DE X a fa) (hb : DE X b fb) (hm : behindInMarks op b = false) : DT X (.Compare a [op] [b] pos) (fTest (fOp f fa fb)) := by
  obtain ⟨r, o1, o2⟩ := ho.ex
  obtain ⟨ta, pa, sa⟩ := ha.ex
  obtain ⟨tb, pb, sb⟩ := hb.ex
  exact .of (pt_cmpR o1 pa pb hm) (snd_test (snd_op o2 sa sb))
theorem dt_val {e : Expr} {f : FE} (h : DE X e f) (he : ∀ whole, isTrue e X.env whole = (do let v ← whole; standAt e.pos; holding [v] (truthy v)) := by intro _; rfl) : DT X e (fTest f) := by
  obtain ⟨t, p, s⟩ := h.ex
  exact .of (pt_val p he) (snd_test s)
/-- a op b op' c -/
def fChain (f f' : F2) (fa fb fc : FE) : FE := fun ρ Q => fa ρ fun x ρ1 => fb ρ1 fun y ρ2 => f x y fun z => match z with
  | .d (.bool k) => if k = true then fc ρ2 fun w ρ3 => f' y w fun u => Q u ρ3 else Q (.d (.bool false)) ρ2
  | _ => False
theorem snd_chain {W : Wd} {r r' : R2} {f f' : F2} {ta tb tc : TE} (ho : OSound W r f) (ho' : OSound W r' f') (ha : ESound W ta fa) (hb : ESound W tb fb) (hc : ESound W tc fc) : ESound W (tChain r r' ta tb tc) (fChain f f' fa fb fc) := by
  intro G F ρ σ H Q Q' R hf hq
  refine ha G F ρ σ H _ _ R hf fun x ρ1 F1 H1 v q1 s1 R1 v1 => ?_
  refine hb G F1 ρ1 σ H1 _ _ R1 q1 fun y ρ2 F2 H2 u q2 s2 R2 v2 => ?_
  refine ho G F2 ρ2 σ H2 x y v u _ _ R2 (v1.mono s2) v2 q2 fun z F3 H3 w q3 s3 R3 v3 => ?_
  split at q3
  · rename_i k
    cases v3
    refine ⟨k, rfl, ?_⟩
    cases k with
    | false =>
      rw [if_neg Bool.false_ne_true] at q3 ⊢
      exact hq _ _ F3 H3 _ q3 ((s1.trans s2).trans s3) R3 (.bl _)
    | true =>
      rw [if_pos rfl] at q3 ⊢
      refine hc G F3 ρ2 σ H3 _ _ R3 q3 fun w' ρ4 F4 H4 v4 q4 s4 R4 k4 => ?_
      refine ho' G F4 ρ4 σ H4 y w' u v4 _ _ R4 ((v2.mono s3).mono s4) k4 q4 fun z F5 H5 w q5 s5 R5 v5 => ?_
      exact hq _ _ F5 H5 w q5 ((((s1.trans s2).trans s3).trans s4).trans s5) R5 v5
  · exact q3.elim
theorem de_chain {op op' : CmpOp} {f f' : F2} (ho : COp X op f) (ho' : COp X op' f') (ha : DE X a fa) (hb : DE X b fb) (hc : DE X c fc) (hm : lastMarks [op, op'] [b, c] = false := by with_unfolding_all rfl) : DE X (.Compare a [op, op'] [b, c] pos) (fChain f f' fa fb fc) := by
  obtain ⟨r, o1, o2⟩ := ho.ex
  obtain ⟨r', o1', o2'⟩ := ho'.ex
  obtain ⟨ta, pa, sa⟩ := ha.ex
  obtain ⟨tb, pb, sb⟩ := hb.ex
  obtain ⟨tc, pc, sc⟩ := hc.ex
  exact .of (pe_chain o1 o1' pa pb pc hm) (snd_chain o2 o2' sa sb sc)
theorem dt_chain {op op' : CmpOp} {f f' : F2} (ho : COp X op f) (ho' : COp X op' f') (ha : DE X a fa) (hb : DE X b fb) (hc : DE X c fc) (hm : lastMarks [op, op'] [b, c] = false := by with_unfolding_all rfl) : DT X (.Compare a [op, op'] [b, c] pos) (fTest (fChain f f' fa fb fc)) := by
  obtain ⟨r, o1, o2⟩ := ho.ex
  obtain ⟨r', o1', o2'⟩ := ho'.ex
  obtain ⟨ta, pa, sa⟩ := ha.ex
  obtain ⟨tb, pb, sb⟩ := hb.ex
  obtain ⟨tc, pc, sc⟩ := hc.ex
  exact .of (pt_chain o1 o1' pa pb pc hm) (snd_test (snd_chain o2 o2' sa sb sc))

/-! ### and, or, not, if -/
structure DW (X : Cx) [Tb X.mg] (e : Expr) (f : FT) : Prop where
  run : PW X e (tT (wd X) f)
theorem DW.ex {X : Cx} [Tb X.mg] {e : Expr} {f : FT} (h : DW X e f) : ∃ t, PW X e t ∧ TSound (wd X) t f := ⟨_, h.run, fun _ _ _ _ _ _ _ R hf hq => ⟨_, _, _, _, R, hf, hq⟩⟩
theorem DW.of {X : Cx} [Tb X.mg] {e : Expr} {f : FT} {t : TT} (p : PW X e t) (s : TSound (wd X) t f) : DW X e f :=
  ⟨⟨fun wh pins st σ H Q I ⟨_, _, _, _, R, hf, hq⟩ => p.run wh pins st σ H Q I (s _ _ _ _ _ _ _ R hf hq)⟩⟩
variable {ft gt : FT} {rest : List Expr}
def fAnd (f g : FT) : FT := fun ρ Q => f ρ fun c ρ1 => if c = true then g ρ1 Q else Q false ρ1
def fOr (f g : FT) : FT := fun ρ Q => f ρ fun c ρ1 => if c = true then Q true ρ1 else g ρ1 Q
def fNot (f : FT) : FT := fun ρ Q => f ρ fun c ρ1 => Q (!c) ρ1
theorem dt_bool {e : Expr} (h : DW X e ft) : DT X e ft := let ⟨_, p, s⟩ := h.ex; .of (p.pt) s
theorem dw_and1 (h : DT X a ft) : DW X (.BoolOp .And [a] pos) ft := let ⟨_, p, s⟩ := h.ex; .of (pw_and1 p) s
theorem dw_or1 (h : DT X a ft) : DW X (.BoolOp .Or [a] pos) ft := let ⟨_, p, s⟩ := h.ex; .of (pw_or1 p) s
theorem dw_and (h : DT X a ft) (h2 : DW X (.BoolOp .And (b :: rest) pos) gt) : DW X (.BoolOp .And (a :: b :: rest) pos) (fAnd ft gt) := by
  obtain ⟨t, p, s⟩ := h.ex
  obtain ⟨t2, p2, s2⟩ := h2.ex
  refine .of (pw_and p p2) fun G F ρ σ H Q Q' R hf hq => ?_
  refine s G F ρ σ H _ _ R hf fun c ρ1 F1 H1 q1 k1 R1 => ?_
  cases c with
  | true =>
    rw [if_pos rfl] at q1 ⊢
    exact s2 G F1 ρ1 σ H1 _ _ R1 q1 fun c2 ρ2 F2 H2 q2 k2 R2 => hq _ _ F2 H2 q2 (k1.trans k2) R2
  | false =>
    rw [if_neg Bool.false_ne_true] at q1 ⊢
    exact hq _ _ F1 H1 q1 k1 R1
theorem dw_or (h : DT X a ft) (h2 : DW X (.BoolOp .Or (b :: rest) pos) gt) : DW X (.BoolOp .Or (a :: b :: rest) pos) (fOr ft gt) := by
  obtain ⟨t, p, s⟩ := h.ex
  obtain ⟨t2, p2, s2⟩ := h2.ex
  refine .of (pw_or p p2) fun G F ρ σ H Q Q' R hf hq => ?_
  refine s G F ρ σ H _ _ R hf fun c ρ1 F1 H1 q1 k1 R1 => ?_
  cases c with
  | true =>
    rw [if_pos rfl] at q1 ⊢
    exact hq _ _ F1 H1 q1 k1 R1
  | false =>
    rw [if_neg Bool.false_ne_true] at q1 ⊢
    exact s2 G F1 ρ1 σ H1 _ _ R1 q1 fun c2 ρ2 F2 H2 q2 k2 R2 => hq _ _ F2 H2 q2 (k1.trans k2) R2
theorem dt_not (h : DT X a ft) : DT X (.UnaryOp .Not a pos) (fNot ft) := by
  obtain ⟨t, p, s⟩ := h.ex
  refine .of (pt_not p) fun G F ρ σ H Q Q' R hf hq => ?_
  exact s G F ρ σ H _ _ R hf fun c ρ1 F1 H1 q1 k1 R1 => hq _ _ F1 H1 q1 k1 R1
/-- .. as values -/
def fAndV (f g : FE) : FE := fun ρ Q => f ρ fun r ρ1 => match r with
  | .d (.bool c) => if c = true then g ρ1 Q else Q (.d (.bool false)) ρ1
  | _ => False
def fOrV (f g : FE) : FE := fun ρ Q => f ρ fun r ρ1 => match r with
  | .d (.bool c) => if c = true then Q (.d (.bool true)) ρ1 else g ρ1 Q
  | _ => False
def fNotV (f : FE) : FE := fun ρ Q => f ρ fun r ρ1 => match r with
  | .d (.bool c) => Q (.d (.bool (!c))) ρ1
  | _ => False
theorem de_one {op} (h : DE X a fa) : DE X (.BoolOp op [a] pos) fa := let ⟨_, p, s⟩ := h.ex; .of (pe_one p) s
theorem de_and (h : DE X a fa) (h2 : DE X (.BoolOp .And (b :: rest) pos) fb) : DE X (.BoolOp .And (a :: b :: rest) pos) (fAndV fa fb) := by
  obtain ⟨t, p, s⟩ := h.ex
  obtain ⟨t2, p2, s2⟩ := h2.ex
  refine .of (pe_and p p2) fun G F ρ σ H Q Q' R hf hq => ?_
  refine s G F ρ σ H _ _ R hf fun r ρ1 F1 H1 v q1 k1 R1 v1 => ?_
  split at q1
  · rename_i c
    cases v1
    refine ⟨c, rfl, ?_⟩
    cases c with
    | true =>
      rw [if_pos rfl] at q1 ⊢
      exact s2 G F1 ρ1 σ H1 _ _ R1 q1 fun c2 ρ2 F2 H2 v2 q2 k2 R2 w2 => hq _ _ F2 H2 v2 q2 (k1.trans k2) R2 w2
    | false =>
      rw [if_neg Bool.false_ne_true] at q1 ⊢
      exact hq _ _ F1 H1 _ q1 k1 R1 (.bl _)
  · exact q1.elim
theorem de_or (h : DE X a fa) (h2 : DE X (.BoolOp .Or (b :: rest) pos) fb) : DE X (.BoolOp .Or (a :: b :: rest) pos) (fOrV fa fb) := by
  obtain ⟨t, p, s⟩ := h.ex
  obtain ⟨t2, p2, s2⟩ := h2.ex
  refine .of (pe_or p p2) fun G F ρ σ H Q Q' R hf hq => ?_
  refine s G F ρ σ H _ _ R hf fun r ρ1 F1 H1 v q1 k1 R1 v1 => ?_
  split at q1
  · rename_i c
    cases v1
    refine ⟨c, rfl, ?_⟩
    cases c with
    | true =>
      rw [if_pos rfl] at q1 ⊢
      exact hq _ _ F1 H1 _ q1 k1 R1 (.bl _)
    | false =>
      rw [if_neg Bool.false_ne_true] at q1 ⊢
      exact s2 G F1 ρ1 σ H1 _ _ R1 q1 fun c2 ρ2 F2 H2 v2 q2 k2 R2 w2 => hq _ _ F2 H2 v2 q2 (k1.trans k2) R2 w2
  · exact q1.elim
theorem de_not (h : DE X a fa) : DE X (.UnaryOp .Not a pos) (fNotV fa) := by
  obtain ⟨t, p, s⟩ := h.ex
  refine .of (pe_not p) fun G F ρ σ H Q Q' R hf hq => ?_
  refine s G F ρ σ H _ _ R hf fun r ρ1 F1 H1 v q1 k1 R1 v1 => ?_
  split at q1
  · rename_i c
    cases v1
    exact ⟨c, rfl, hq _ _ F1 H1 _ q1 k1 R1 (.bl _)⟩
  · exact q1.elim
def fIf (f : FT) (fa fb : FE) : FE := fun ρ Q => f ρ fun c ρ1 => if c = true then fa ρ1 Q else fb ρ1 Q
theorem de_if (h : DT X c ft) (ha : DE X a fa) (hb : DE X b fb) : DE X (.IfExp c a b pos) (fIf ft fa fb) := by
  obtain ⟨t, p, s⟩ := h.ex
  obtain ⟨ta, pa, sa⟩ := ha.ex
  obtain ⟨tb, pb, sb⟩ := hb.ex
  refine .of (pe_ifExp p pa pb) fun G F ρ σ H Q Q' R hf hq => ?_
  refine s G F ρ σ H _ _ R hf fun c ρ1 F1 H1 q1 k1 R1 => ?_
  cases c with
  | true =>
    rw [if_pos rfl] at q1 ⊢
    exact sa G F1 ρ1 σ H1 _ _ R1 q1 fun c2 ρ2 F2 H2 v2 q2 k2 R2 w2 => hq _ _ F2 H2 v2 q2 (k1.trans k2) R2 w2
  | false =>
    rw [if_neg Bool.false_ne_true] at q1 ⊢
    exact sb G F1 ρ1 σ H1 _ _ R1 q1 fun c2 ρ2 F2 H2 v2 q2 k2 R2 w2 => hq _ _ F2 H2 v2 q2 (k1.trans k2) R2 w2
end
end Aq
/-! A2: new things, statements, loops, comprehensions, told by data. -/
namespace Aq
open PySem PySem.Spec PyProof.Rows L2

/-! ### new things -/
abbrev FN := List S → (Ow → List S → Prop) → Prop
def NSound (W : Wd) (t : TE) (f : FN) : Prop :=
  ∀ (G : Fx) (F : Hp) (ρ : List S) (σ : L2.St) (H : Hp) (Q : VK) (Q' : Ow → List S → Prop), Rep W G F ρ σ H → f ρ Q' →
    (∀ o ρ' F' H' a, Q' o ρ' → Same F F' → Rep W (G.push a o) F' ρ' σ H' → Q (.ref a) H') → t σ H Q
def tN (W : Wd) (f : FN) : TE := fun σ H Q => ∃ G F ρ Q', Rep W G F ρ σ H ∧ f ρ Q' ∧ ∀ o ρ' F' H' a, Q' o ρ' → Same F F' → Rep W (G.push a o) F' ρ' σ H' → Q (.ref a) H'
structure DN (X : Cx) [Tb X.mg] (e : Expr) (f : FN) : Prop where
  run : PE X e (tN (wd X) f)
theorem DN.ex {X : Cx} [Tb X.mg] {e : Expr} {f : FN} (h : DN X e f) : ∃ t, PE X e t ∧ NSound (wd X) t f := ⟨_, h.run, fun _ _ _ _ _ _ _ R hf hq => ⟨_, _, _, _, R, hf, hq⟩⟩
theorem DN.of {X : Cx} [Tb X.mg] {e : Expr} {f : FN} {t : TE} (p : PE X e t) (s : NSound (wd X) t f) : DN X e f :=
  ⟨⟨fun pins st σ H Q I ⟨_, _, _, _, R, hf, hq⟩ => p.run pins st σ H Q I (s _ _ _ _ _ _ _ R hf hq)⟩⟩
section
variable {X : Cx} [Tb X.mg]
/-- a new thing is let stand -/
def still : Ow → S
  | .lst ds => .d (.list ds)
  | o => .fz o
theorem still_ok {W : Wd} {F : Hp} {a : Addr} {o : Ow} {ho : HO} (h : F a = some ho) (r : RepO W F a o ho) : VOk W F (still o) (.ref a) := by
  cases o with
  | lst ds =>
    obtain ⟨vs, rfl, hd⟩ := r
    exact Dp.lst (SqL.of h) hd
  | dct kvs => exact ⟨a, ho, rfl, h, r⟩
  | dcr kvs => exact ⟨a, ho, rfl, h, r⟩
  | ins C dx fs => exact ⟨a, ho, rfl, h, r⟩
theorem Rep.stand {W : Wd} {G : Fx} {F H : Hp} {ρ : List S} {σ : L2.St} {a : Addr} {o : Ow} (R : Rep W (G.push a o) F ρ σ H) : ∃ F', Same F F' ∧ Rep W G F' ρ σ H ∧ VOk W F' (still o) (.ref a) := by
  obtain ⟨R0, hF, h0, ⟨ho, h1, h2⟩, hw⟩ := R.pop
  have e : Same F (upd F a ho) := same_upd hF
  exact ⟨upd F a ho, e, R0.settle hF h0 h1 hw h2.nt, still_ok upd_same (h2.mono e)⟩
def fStill (f : FN) : FE := fun ρ Q => f ρ fun o ρ1 => Q (still o) ρ1
theorem de_still {e : Expr} {f : FN} (h : DN X e f) : DE X e (fStill f) := by
  obtain ⟨t, p, s⟩ := h.ex
  refine .of p fun G F ρ σ H Q Q' R hf hq => ?_
  refine s G F ρ σ H _ _ R hf fun o ρ1 F1 H1 a q1 s1 R1 => ?_
  obtain ⟨F2, s2, R2, v2⟩ := R1.stand
  exact hq _ _ F2 H1 _ q1 (s1.trans s2) R2 v2
def fnLst (g : FA) : FN := fun ρ Q => g ρ fun rs ρ1 => match unD rs with
  | some ds => ds.length ≤ sizeLine ∧ Q (.lst ds) ρ1
  | none => False
theorem dn_lst {es : List Expr} {g : FA} {pos : Pos} (h : DA X es g) : DN X (.List es pos) (fnLst g) := by
  obtain ⟨t, p, sd⟩ := h.ex
  refine .of (pe_lst p) fun G F ρ σ H Q Q' R hf hq => ?_
  refine sd G F ρ σ H _ _ R hf fun rs ρ1 F1 H1 vs q1 s1 R1 v1 => ?_
  split at q1
  · rename_i ds e
    have hd := unD_ok v1 e
    refine ⟨by rw [DpAll.length hd]; exact q1.1, fun p hp => ?_⟩
    exact hq _ _ F1 _ p q1.2 s1 (R1.push hp ⟨vs, rfl, hd⟩)
  · exact q1.elim
end

/-! ### statements -/
structure DEnds where
  nx : List S → Prop
  rt : S → List S → Prop
  bk : List S → Prop := fun _ => False
  ct : List S → Prop := fun _ => False
  rn : Ow → List S → Prop := fun _ _ => False
abbrev FS := DEnds → List S → Prop
structure EndsOk (W : Wd) (G : Fx) (F : Hp) (E' : DEnds) (E : Ends) : Prop where
  nx : ∀ ρ' F' σ' H', E'.nx ρ' → Same F F' → Rep W G F' ρ' σ' H' → E.nx σ' H'
  rt : ∀ r ρ' F' σ' H' v, E'.rt r ρ' → Same F F' → Rep W G F' ρ' σ' H' → VOk W F' r v → E.rt v H'
  bk : ∀ ρ' F' σ' H', E'.bk ρ' → Same F F' → Rep W G F' ρ' σ' H' → E.bk σ' H'
  ct : ∀ ρ' F' σ' H', E'.ct ρ' → Same F F' → Rep W G F' ρ' σ' H' → E.ct σ' H'
  rn : ∀ o ρ' F' σ' H' a, E'.rn o ρ' → Same F F' → Rep W (G.push a o) F' ρ' σ' H' → E.rt (.ref a) H'
theorem EndsOk.mono {W : Wd} {G : Fx} {F F1 : Hp} {E' : DEnds} {E : Ends} (s : Same F F1) (h : EndsOk W G F E' E) : EndsOk W G F1 E' E :=
  ⟨fun ρ F' σ H a b c => h.nx ρ F' σ H a (s.trans b) c, fun r ρ F' σ H v a b c d => h.rt r ρ F' σ H v a (s.trans b) c d, fun ρ F' σ H a b c => h.bk ρ F' σ H a (s.trans b) c, fun ρ F' σ H a b c => h.ct ρ F' σ H a (s.trans b) c, fun o ρ F' σ H v a b c => h.rn o ρ F' σ H v a (s.trans b) c⟩
def SSound (W : Wd) (t : TS) (f : FS) : Prop :=
  ∀ (G : Fx) (F : Hp) (ρ : List S) (σ : L2.St) (H : Hp) (E : Ends) (E' : DEnds), Rep W G F ρ σ H → f E' ρ → EndsOk W G F E' E → t E σ H
def tS (W : Wd) (f : FS) : TS := fun E σ H => ∃ G F ρ E', Rep W G F ρ σ H ∧ f E' ρ ∧ EndsOk W G F E' E
structure DS (X : Cx) [Tb X.mg] (st : Stmt) (f : FS) : Prop where
  run : PS X st (tS (wd X) f)
structure DSs (X : Cx) [Tb X.mg] (st : List Stmt) (f : FS) : Prop where
  run : PSs X st (tS (wd X) f)
theorem DS.ex {X : Cx} [Tb X.mg] {st : Stmt} {f : FS} (h : DS X st f) : ∃ t, PS X st t ∧ SSound (wd X) t f := ⟨_, h.run, fun _ _ _ _ _ _ _ R hf hq => ⟨_, _, _, _, R, hf, hq⟩⟩
theorem DSs.ex {X : Cx} [Tb X.mg] {st : List Stmt} {f : FS} (h : DSs X st f) : ∃ t, PSs X st t ∧ SSound (wd X) t f := ⟨_, h.run, fun _ _ _ _ _ _ _ R hf hq => ⟨_, _, _, _, R, hf, hq⟩⟩
theorem DS.of {X : Cx} [Tb X.mg] {st : Stmt} {f : FS} {t : TS} (p : PS X st t) (s : SSound (wd X) t f) : DS X st f :=
  ⟨⟨fun pins sh σ H Q I ⟨_, _, _, _, R, hf, hq⟩ => p.run pins sh σ H Q I (s _ _ _ _ _ _ _ R hf hq)⟩⟩
theorem DSs.of {X : Cx} [Tb X.mg] {st : List Stmt} {f : FS} {t : TS} (p : PSs X st t) (s : SSound (wd X) t f) : DSs X st f :=
  ⟨⟨fun pins sh σ H Q I ⟨_, _, _, _, R, hf, hq⟩ => p.run pins sh σ H Q I (s _ _ _ _ _ _ _ R hf hq)⟩⟩
section
variable {X : Cx} [Tb X.mg] {st : Stmt} {rest : List Stmt} {f g : FS} {e : Expr} {fe : FE} {pos : Pos}
def sNext : FS := fun E ρ => E.nx ρ
def sSeq (f g : FS) : FS := fun E ρ => f { E with nx := g E } ρ
theorem dss_nil : DSs X [] sNext := .of pss_nil fun G F ρ σ H E E' R hf ok => ok.nx _ F σ H hf (Same.refl _) R
theorem dss_one (h : DS X st f) : DSs X [st] f := let ⟨_, p, s⟩ := h.ex; .of (pss_one p) s
theorem dss_cons (h : DS X st f) (h2 : DSs X rest g) : DSs X (st :: rest) (sSeq f g) := by
  obtain ⟨t, p, s⟩ := h.ex
  obtain ⟨t2, p2, s2⟩ := h2.ex
  refine .of (pss_cons p p2) fun G F ρ σ H E E' R hf ok => ?_
  exact s G F ρ σ H _ _ R hf ⟨fun ρ' F' σ' H' q k R' => s2 G F' ρ' σ' H' _ _ R' q (ok.mono k), ok.rt, ok.bk, ok.ct, ok.rn⟩
theorem ds_pass : DS X (.Pass pos) sNext := .of ps_pass fun G F ρ σ H E E' R hf ok => ok.nx _ F σ H hf (Same.refl _) R
def sNever : FS := fun _ _ => False
theorem ds_never : DS X st sNever := .of ps_never fun _ _ _ _ _ _ _ _ hf _ => hf
theorem dss_never {sts : List Stmt} : DSs X sts sNever := .of pss_never fun _ _ _ _ _ _ _ _ hf _ => hf
def sExpr (f : FE) : FS := fun E ρ => f ρ fun _ ρ1 => E.nx ρ1
theorem ds_expr (he : DE X e fe) (hs : swapsWith e none pos.line X.env = pure false := by rfl) : DS X (.Expr e pos) (sExpr fe) := by
  obtain ⟨t, p, s⟩ := he.ex
  refine .of (ps_expr p hs) fun G F ρ σ H E E' R hf ok => ?_
  exact s G F ρ σ H _ _ R hf fun r ρ' F' H' v q k R' _ => ok.nx _ F' σ H' q k R'
def sRet (f : FE) : FS := fun E ρ => f ρ fun r ρ1 => E.rt r ρ1
theorem ds_ret (he : DE X e fe) : DS X (.Return (some e) pos) (sRet fe) := by
  obtain ⟨t, p, s⟩ := he.ex
  refine .of (ps_ret p) fun G F ρ σ H E E' R hf ok => ?_
  exact s G F ρ σ H _ _ R hf fun r ρ' F' H' v q k R' w => ok.rt _ _ F' σ H' v q k R' w
def sRetN : FS := fun E ρ => E.rt (.d .none) ρ
theorem ds_retN : DS X (.Return none pos) sRetN := .of ps_retN fun G F ρ σ H E E' R hf ok => ok.rt _ _ F σ H .non hf (Same.refl _) R Dp.non
def sRetW (f : FN) : FS := fun E ρ => f ρ fun o ρ1 => E.rn o ρ1
theorem ds_retW {f : FN} (he : DN X e f) : DS X (.Return (some e) pos) (sRetW f) := by
  obtain ⟨t, p, s⟩ := he.ex
  refine .of (ps_ret p) fun G F ρ σ H E E' R hf ok => ?_
  exact s G F ρ σ H _ _ R hf fun o ρ' F' H' a q k R' => ok.rn _ _ F' σ H' a q k R'
def sIf (c : FT) (f g : FS) : FS := fun E ρ => c ρ fun b ρ1 => if b = true then f E ρ1 else g E ρ1
theorem ds_if {c : Expr} {a b : List Stmt} {fc : FT} (hc : DT X c fc) (ha : DSs X a f) (hb : DSs X b g) : DS X (.If c a b pos) (sIf fc f g) := by
  obtain ⟨t, p, s⟩ := hc.ex
  obtain ⟨ta, pa, sa⟩ := ha.ex
  obtain ⟨tb, pb, sb⟩ := hb.ex
  refine .of (ps_if p pa pb) fun G F ρ σ H E E' R hf ok => ?_
  refine s G F ρ σ H _ _ R hf fun b ρ' F' H' q k R' => ?_
  cases b with
  | true =>
    rw [if_pos rfl] at q ⊢
    exact sa G F' ρ' σ H' _ _ R' q (ok.mono k)
  | false =>
    rw [if_neg Bool.false_ne_true] at q ⊢
    exact sb G F' ρ' σ H' _ _ R' q (ok.mono k)
end

/-! ### targets -/
abbrev FG := S → List S → (List S → Prop) → Prop
abbrev FGs := List D → List S → (List S → Prop) → Prop
/-- but for the slots us nothing has changed -/
def Off (us : List Nat) (σ σ' : L2.St) : Prop := σ'.length = σ.length ∧ ∀ j, j ∉ us → σ'[j]? = σ[j]?
theorem Off.refl (us : List Nat) (σ : L2.St) : Off us σ σ := ⟨rfl, fun _ _ => rfl⟩
theorem Off.app {us vs : List Nat} {σ σ1 σ2 : L2.St} (a : Off us σ σ1) (b : Off vs σ1 σ2) : Off (us ++ vs) σ σ2 :=
  ⟨b.1.trans a.1, fun j hj => (b.2 j fun z => hj (List.mem_append_right _ z)).trans (a.2 j fun z => hj (List.mem_append_left _ z))⟩
def GSound (W : Wd) (t : TG) (us : List Nat) (g : FG) : Prop :=
  ∀ (G : Fx) (F : Hp) (ρ : List S) (σ : L2.St) (H : Hp) (s : S) (v : V) (Q : L2.St → Hp → Prop) (Q' : List S → Prop), Rep W G F ρ σ H → VOk W F s v → g s ρ Q' →
    (∀ ρ' F' σ' H', Q' ρ' → Same F F' → Rep W G F' ρ' σ' H' → Off us σ σ' → Q σ' H') → t v σ H Q
def GsSound (W : Wd) (t : TGs) (us : List Nat) (g : FGs) : Prop :=
  ∀ (G : Fx) (F : Hp) (ρ : List S) (σ : L2.St) (H : Hp) (ds : List D) (vs : List V) (Q : L2.St → Hp → Prop) (Q' : List S → Prop), Rep W G F ρ σ H → DpAll W.K F vs ds → g ds ρ Q' →
    (∀ ρ' F' σ' H', Q' ρ' → Same F F' → Rep W G F' ρ' σ' H' → Off us σ σ' → Q σ' H') → t vs σ H Q
def tG (W : Wd) (us : List Nat) (g : FG) : TG := fun v σ H Q => ∃ G F ρ s Q', Rep W G F ρ σ H ∧ VOk W F s v ∧ g s ρ Q' ∧ ∀ ρ' F' σ' H', Q' ρ' → Same F F' → Rep W G F' ρ' σ' H' → Off us σ σ' → Q σ' H'
def tGs (W : Wd) (us : List Nat) (g : FGs) : TGs := fun vs σ H Q => ∃ G F ρ ds Q', Rep W G F ρ σ H ∧ DpAll W.K F vs ds ∧ g ds ρ Q' ∧ ∀ ρ' F' σ' H', Q' ρ' → Same F F' → Rep W G F' ρ' σ' H' → Off us σ σ' → Q σ' H'
structure DG (X : Cx) [Tb X.mg] (e : Expr) (us : List Nat) (g : FG) : Prop where
  run : PG X e (tG (wd X) us g)
structure DGs (X : Cx) [Tb X.mg] (es : List Expr) (us : List Nat) (g : FGs) : Prop where
  run : PGs X es (tGs (wd X) us g)
theorem DG.ex {X : Cx} [Tb X.mg] {e : Expr} {us : List Nat} {g : FG} (h : DG X e us g) : ∃ t, PG X e t ∧ GSound (wd X) t us g := ⟨_, h.run, fun _ _ _ _ _ _ _ _ _ R hv hf hq => ⟨_, _, _, _, _, R, hv, hf, hq⟩⟩
theorem DGs.ex {X : Cx} [Tb X.mg] {es : List Expr} {us : List Nat} {g : FGs} (h : DGs X es us g) : ∃ t, PGs X es t ∧ GsSound (wd X) t us g := ⟨_, h.run, fun _ _ _ _ _ _ _ _ _ R hv hf hq => ⟨_, _, _, _, _, R, hv, hf, hq⟩⟩
theorem DG.of {X : Cx} [Tb X.mg] {e : Expr} {us : List Nat} {g : FG} {t : TG} (p : PG X e t) (s : GSound (wd X) t us g) : DG X e us g :=
  ⟨⟨fun pins sh σ H v u Q I r ⟨_, _, _, _, _, R, hv, hf, hq⟩ => p.run pins sh σ H v u Q I r (s _ _ _ _ _ _ _ _ _ R hv hf hq)⟩⟩
theorem DGs.of {X : Cx} [Tb X.mg] {es : List Expr} {us : List Nat} {g : FGs} {t : TGs} (p : PGs X es t) (s : GsSound (wd X) t us g) : DGs X es us g :=
  ⟨⟨fun pins sh σ H v u Q I r ⟨_, _, _, _, _, R, hv, hf, hq⟩ => p.run pins sh σ H v u Q I r (s _ _ _ _ _ _ _ _ _ R hv hf hq)⟩⟩
/-- slot i is free to be stored -/
def settable (ρ : List S) (i : Nat) : Prop := match ρ[i]? with
  | some (.pa _) => False
  | some (.hp _) => False
  | some _ => True
  | none => False
theorem settable.ex {ρ : List S} {i : Nat} (h : settable ρ i) : ∃ s, ρ[i]? = some s ∧ (∀ o, s ≠ .pa o) ∧ ∀ tl, s ≠ .hp tl := by
  unfold settable at h
  split at h
  · exact h.elim
  · exact h.elim
  · rename_i s h1 h2 e; exact ⟨s, e, h1, h2⟩
  · exact h.elim
theorem settable.lt {ρ : List S} {i : Nat} (h : settable ρ i) : i < ρ.length := by
  obtain ⟨s, e, _⟩ := h.ex
  exact (List.getElem?_eq_some_iff.mp e).1
theorem settable.lts {W : Wd} {G : Fx} {F H : Hp} {ρ : List S} {σ : L2.St} (R : Rep W G F ρ σ H) {i : Nat} (h : settable ρ i) : i < σ.length := by
  obtain ⟨s, e, _, n⟩ := h.ex
  exact R.lt e n
theorem settable.no {ρ : List S} {i : Nat} (h : settable ρ i) : ∀ o, ρ[i]? ≠ some (S.pa o) := fun o e => by
  unfold settable at h
  rw [e] at h
  exact h
section
variable {X : Cx} [Tb X.mg] {pos : Pos}
def gNm (i : Nat) : FG := fun s ρ Q => settable ρ i ∧ Q (ρ.set i s)
theorem VOk.slot {W : Wd} {G : Fx} {F H : Hp} {i : Nat} {s : S} {v : V} (h : VOk W F s v) : SlotOk W G F H i s (some (some v)) ∧ s.own = false := by
  cases s with
  | d x => exact ⟨⟨v, rfl, h⟩, rfl⟩
  | fz x => exact ⟨⟨v, rfl, h⟩, rfl⟩
  | raw x => exact ⟨⟨v, rfl, h⟩, rfl⟩
  | no => exact h.elim
  | ow o => exact h.elim
  | pa o => exact h.elim
  | hp o => exact h.elim
  | fn f B => exact ⟨⟨v, rfl, h⟩, rfl⟩
theorem Rep.setV {W : Wd} {G : Fx} {F H : Hp} {ρ : List S} {σ : L2.St} {i : Nat} {s : S} {v : V} (R : Rep W G F ρ σ H) (h : settable ρ i) (hv : VOk W F s v) : Rep W G F (ρ.set i s) (σ.set i (some v)) H := by
  have z := (VOk.slot (G := G) (H := H) (i := i) hv)
  exact R.set (h.lts R) h.no z.1 (fun q => by rw [z.2] at q; cases q) (fun q => by rw [z.2] at q; cases q) (fun q => by rw [z.2] at q; cases q)
theorem dg_name (i : Nat) {x : Str} (hN : X.N.Nodup) (hi : X.N[i]? = some x := by rfl) (hx : Loc X.env.scope x := by first | exact Or.inl rfl | exact Or.inr rfl) (hf : X.fn x = true ∨ X.env.scope.names.lookup x = some .local := by first | exact .inl rfl | exact .inr rfl) : DG X (.Name x pos) [i] (gNm i) := by
  refine .of (pg_name hN hi hx hf) fun G F ρ σ H s v Q Q' R hv hf hq => ?_
  exact hq _ F _ H hf.2 (Same.refl _) (R.setV hf.1 hv) ⟨by simp, fun j hj => List.getElem?_set_ne (fun e => hj (by simp [e]))⟩
def gsNil : FGs := fun ds ρ Q => match ds with
  | [] => Q ρ
  | _ => False
def gsCons (g : FG) (h : FGs) : FGs := fun ds ρ Q => match ds with
  | [] => False
  | d :: r => g (.d d) ρ fun ρ1 => h r ρ1 Q
theorem dgs_nil : DGs X [] [] gsNil := by
  refine .of pgs_nil fun G F ρ σ H ds vs Q Q' R hv hf hq => ?_
  cases hv with
  | nil => exact ⟨rfl, hq _ F _ H hf (Same.refl _) R (Off.refl _ _)⟩
  | cons _ _ => exact hf.elim
theorem dgs_cons {e : Expr} {es : List Expr} {us vs : List Nat} {g : FG} {h : FGs} (h1 : DG X e us g) (h2 : DGs X es vs h) (hs : (assignEach (e :: es) X.env).map (·.2) = assign e X.env :: (assignEach es X.env).map (·.2) := by rfl) : DGs X (e :: es) (us ++ vs) (gsCons g h) := by
  obtain ⟨t, p, s⟩ := h1.ex
  obtain ⟨t2, p2, s2⟩ := h2.ex
  refine .of (pgs_cons p p2 hs) fun G F ρ σ H ds vs Q Q' R hv hf hq => ?_
  cases hv with
  | nil => exact hf.elim
  | cons q1 q2 =>
    refine ⟨_, _, rfl, s G F ρ σ H (.d _) _ _ _ R q1 hf fun ρ' F' σ' H' k1 k2 R' o1 => ?_⟩
    exact s2 G F' ρ' σ' H' _ _ _ _ R' (DpAll.mono k2 _ _ q2) k1 fun ρ2 F2 σ2 H2 k3 k4 R2 o2 => hq _ F2 _ H2 k3 (k2.trans k4) R2 (o1.app o2)
def gTp (n : Nat) (h : FGs) : FG := fun s ρ Q => match s with
  | .d (.tuple ds) => ds.length = n ∧ h ds ρ Q
  | _ => False
theorem dg_tup {es : List Expr} {k : Nat} {us : List Nat} {g : FGs} {n : Nat} (hc : X.calm = true) (h : DGs X es us g) (hn : (assignEach es X.env).length = n := by rfl) (hst : (assignEach es X.env).findIdx? (·.1) = none := by rfl) : DG X (.Tuple es k pos) us (gTp n g) := by
  obtain ⟨t, p, s⟩ := h.ex
  refine .of (pg_tup hc p hn hst) fun G F ρ σ H sv v Q Q' R hv hf hq => ?_
  unfold gTp at hf
  split at hf
  · rename_i ds
    cases hv with
    | tup hS hd => exact ⟨_, _, rfl, SqT.mono R.sub hS, by rw [DpAll.length hd]; exact hf.1, s G F ρ σ H ds _ _ _ R hd hf.2 hq⟩
  · exact hf.elim
def sAsg (f : FE) (g : FG) : FS := fun E ρ => f ρ fun r ρ1 => g r ρ1 E.nx
theorem ds_asg {tg e : Expr} {us : List Nat} {f : FE} {g : FG} (he : DE X e f) (hg : DG X tg us g) (hs : swapsWithSole [tg] e pos.line X.env = pure false := by rfl) (hw : swappedStores [tg] e X.env = pure none := by rfl)
    (h1 : (assignEach [tg] X.env).map (·.2) = [assign tg X.env] := by rfl) : DS X (.Assign [tg] e pos) (sAsg f g) := by
  obtain ⟨t, p, s⟩ := he.ex
  obtain ⟨t2, p2, s2⟩ := hg.ex
  refine .of (ps_asg p p2 hs hw h1) fun G F ρ σ H E E' R hf ok => ?_
  refine s G F ρ σ H _ _ R hf fun r ρ' F' H' v q k R' w => ?_
  exact s2 G F' ρ' σ H' r v _ _ R' w q fun ρ2 F2 σ2 H2 k3 k4 R2 _ => ok.nx _ F2 _ H2 k3 (k.trans k4) R2
theorem ds_set (i : Nat) {x : Str} {e : Expr} {f : FE} {pos' : Pos} (hN : X.N.Nodup) (he : DE X e f) (hi : X.N[i]? = some x := by rfl) (hx : Loc X.env.scope x := by first | exact Or.inl rfl | exact Or.inr rfl) (hs : swapsWith e (some (.Name x pos')) pos.line X.env = pure false := by rfl) (hf : X.fn x = true ∨ X.env.scope.names.lookup x = some .local := by first | exact .inl rfl | exact .inr rfl) :
    DS X (.Assign [.Name x pos'] e pos) (sAsg f (gNm i)) := by
  obtain ⟨t, p, s⟩ := he.ex
  refine .of (ps_set hN hi hx p hs hf) fun G F ρ σ H E E' R hf ok => ?_
  refine s G F ρ σ H _ _ R hf fun r ρ' F' H' v q k R' w => ?_
  exact ok.nx _ F' _ H' q.2 k (R'.setV q.1 w)
/-- a name takes a new thing as its own -/
theorem Rep.setO {W : Wd} {G : Fx} {F H : Hp} {ρ : List S} {σ : L2.St} {i : Nat} {o : Ow} {a : Addr} (R : Rep W (G.push a o) F ρ σ H) (h : settable ρ i) : Rep W G F (ρ.set i (.ow o)) (σ.set i (some (.ref a))) H := by
  obtain ⟨R0, hF, h0, ⟨ho, h1, h2⟩, hw⟩ := R.pop
  obtain ⟨n1, n2, n3⟩ := not_own hw
  exact R0.set (h.lts R0) h.no ⟨a, ho, rfl, hF, h0, h1, h2⟩ (fun _ j t _ htj ht ej => n1 j t htj ht ej) (fun _ b o' hm e => n2 b o' hm (by cases e; rfl)) (fun _ b o' hm e => n3 b o' hm (by cases e; rfl))
def sNew (f : FN) (i : Nat) : FS := fun E ρ => f ρ fun o ρ1 => settable ρ1 i ∧ E.nx (ρ1.set i (.ow o))
theorem ds_new (i : Nat) {x : Str} {e : Expr} {f : FN} {pos' : Pos} (hN : X.N.Nodup) (he : DN X e f) (hi : X.N[i]? = some x := by rfl) (hx : Loc X.env.scope x := by first | exact Or.inl rfl | exact Or.inr rfl) (hs : swapsWith e (some (.Name x pos')) pos.line X.env = pure false := by rfl) (hf : X.fn x = true ∨ X.env.scope.names.lookup x = some .local := by first | exact .inl rfl | exact .inr rfl) :
    DS X (.Assign [.Name x pos'] e pos) (sNew f i) := by
  obtain ⟨t, p, s⟩ := he.ex
  refine .of (ps_set hN hi hx p hs hf) fun G F ρ σ H E E' R hf ok => ?_
  refine s G F ρ σ H _ _ R hf fun o ρ' F' H' a q k R' => ?_
  exact ok.nx _ F' _ H' q.2 k (R'.setO q.1)
/-- two names from two -/
theorem pair_of {W : Wd} {F : Hp} {rs : List S} {vs : List V} {r1 r2 : S} (e : rs = [r1, r2]) (h : VsOk W F rs vs) : ∃ v1 v2, vs = [v1, v2] ∧ VOk W F r1 v1 ∧ VOk W F r2 v2 := by
  subst e
  cases h with
  | cons a b => cases b with
    | cons c d => cases d; exact ⟨_, _, rfl, a, c⟩
def sPar (i j : Nat) (g : FA) : FS := fun E ρ => g ρ fun rs ρ1 => match rs with
  | [r1, r2] => settable ρ1 i ∧ settable ρ1 j ∧ E.nx ((ρ1.set i r1).set j r2)
  | _ => False
theorem settable.set {ρ : List S} {i j : Nat} {s : S} (hij : i ≠ j) (h : settable ρ j) : settable (ρ.set i s) j := by
  unfold settable at h ⊢
  rw [List.getElem?_set_ne hij]
  exact h
theorem ds_par (i j : Nat) {x y : Str} {a b : Expr} {g : FA} {px py pt : Pos} {kt k2 pt2} (hc : X.calm = true) (hN : X.N.Nodup) (ha : DA X [a, b] g) (hij : i ≠ j := by decide) (hi : X.N[i]? = some x := by rfl) (hj : X.N[j]? = some y := by rfl)
    (hx : X.env.scope.names.lookup x = some .local := by rfl) (hy : X.env.scope.names.lookup y = some .local := by rfl)
    (hw : swappedStores [.Tuple [.Name x px, .Name y py] kt pt] (.Tuple [a, b] k2 pt2) X.env = pure (some [x, y]) := by rfl)
    (hs : swapsWithSole [.Tuple [.Name x px, .Name y py] kt pt] (.Tuple [a, b] k2 pt2) pos.line X.env = pure false := by rfl) :
    DS X (.Assign [.Tuple [.Name x px, .Name y py] kt pt] (.Tuple [a, b] k2 pt2) pos) (sPar i j g) := by
  obtain ⟨t, p, s⟩ := ha.ex
  refine .of (ps_par hc hN hi hj hij hx hy p hw hs) fun G F ρ σ H E E' R hf ok => ?_
  refine s G F ρ σ H _ _ R hf fun rs ρ' F' H' vs q k R' w => ?_
  split at q
  · rename_i r1 r2
    obtain ⟨v1, v2, rfl, w1, w2⟩ := pair_of rfl w
    exact ⟨v1, v2, rfl, ok.nx _ F' _ H' q.2.2 k ((R'.setV q.1 w1).setV (q.2.1.set hij) w2)⟩
  · exact q.elim
end

/-! ### while -/
section
variable {X : Cx} [Tb X.mg] {pos : Pos}
def sWhile (c : FT) (b : FS) : FS := fun E ρ => ∃ W : Nat → List S → Prop, (∃ m, W m ρ) ∧ ∀ m ρ, W m ρ →
  c ρ fun k ρ1 => if k = true then ∃ N : List S → Prop, (∀ ρ', N ρ' → ∃ m', m' < m ∧ W m' ρ') ∧ b { E with nx := N, ct := N, bk := E.nx } ρ1 else E.nx ρ1
theorem ds_while {c : Expr} {body : List Stmt} {fc : FT} {fb : FS} (hp : PassesOwn (model X.prog X.w) X.A X.env X.xe) (hc : DT X c fc) (hb : DSs X body fb) : DS X (.While c body [] pos) (sWhile fc fb) := by
  obtain ⟨t, p, s⟩ := hc.ex
  obtain ⟨t2, p2, s2⟩ := hb.ex
  refine .of (ps_while hp p p2) fun G F ρ σ H E E' R hf ok => ?_
  obtain ⟨W, ⟨m0, w0⟩, turn⟩ := hf
  refine ⟨fun m σ' H' => ∃ F' ρ', Same F F' ∧ Rep (wd X) G F' ρ' σ' H' ∧ W m ρ', ⟨m0, F, ρ, Same.refl _, R, w0⟩, ?_⟩
  rintro m σ1 H1 ⟨F1, ρ1, k1, R1, w1⟩
  refine s G F1 ρ1 σ1 H1 _ _ R1 (turn m ρ1 w1) fun b ρ2 F2 H2 q2 k2 R2 => ?_
  cases b with
  | true =>
    rw [if_pos rfl] at q2 ⊢
    obtain ⟨N, hN, q2⟩ := q2
    have again : ∀ ρ' F' (σ' : L2.St) H', N ρ' → Same F2 F' → Rep (wd X) G F' ρ' σ' H' → ∃ m', m' < m ∧ ∃ F'' ρ'', Same F F'' ∧ Rep (wd X) G F'' ρ'' σ' H' ∧ W m' ρ'' := fun ρ' F' σ' H' n k R' => by
      obtain ⟨m', hm, w'⟩ := hN ρ' n
      exact ⟨m', hm, F', ρ', (k1.trans k2).trans k, R', w'⟩
    refine ⟨fun σ' H' => ∃ m', m' < m ∧ ∃ F'' ρ'', Same F F'' ∧ Rep (wd X) G F'' ρ'' σ' H' ∧ W m' ρ'', fun σ' H' h => h, ?_⟩
    refine s2 G F2 ρ2 σ1 H2 _ _ R2 q2 ⟨again, fun r ρ' F' σ' H' v q k R' w => ok.rt r ρ' F' σ' H' v q ((k1.trans k2).trans k) R' w, fun ρ' F' σ' H' q k R' => ok.nx ρ' F' σ' H' q ((k1.trans k2).trans k) R', again, fun o ρ' F' σ' H' a q k R' => ok.rn o ρ' F' σ' H' a q ((k1.trans k2).trans k) R'⟩
  | false =>
    rw [if_neg Bool.false_ne_true] at q2 ⊢
    exact ok.nx _ F2 _ H2 q2 (k1.trans k2) R2
end

/-! ### what is walked -/
def Ext (F H F' H' : Hp) : Prop := (F' = F ∧ H' = H) ∨ ∃ p o, H p = none ∧ F' = upd F p o ∧ H' = upd H p o
theorem Rep.ext {W : Wd} {G : Fx} {F H F' H' : Hp} {ρ : List S} {σ : L2.St} (R : Rep W G F ρ σ H) (e : Ext F H F' H') : Rep W G F' ρ σ H' ∧ Same F F' := by
  rcases e with ⟨rfl, rfl⟩ | ⟨p, o, hp, rfl, rfl⟩
  · exact ⟨R, Same.refl _⟩
  · exact ⟨R.alloc hp o, same_upd (R.nofree hp).1⟩
/-- from F on the walk goes through the items -/
def ItOk (W : Wd) (J : It) (F : Hp) (items : List D) : Prop :=
  ∀ (i : Nat) (F1 H1 : Hp), Same F F1 → Same F1 H1 → (∀ x, items[i]? = some x → J.go i H1 ∧ ∀ v H2, J.yld i H1 v H2 → ∃ F2, Ext F1 H1 F2 H2 ∧ Dp W.K F2 v x) ∧ (items.length = i → J.stop i H1)
abbrev FI := List S → (List D → List S → Prop) → Prop
def ISound (W : Wd) (wi : TI) (fi : FI) : Prop :=
  ∀ (G : Fx) (F : Hp) (ρ : List S) (σ : L2.St) (H : Hp) (R' : It → Hp → Prop) (Q' : List D → List S → Prop), Rep W G F ρ σ H → fi ρ Q' →
    (∀ items ρ' F' H' J, Q' items ρ' → Same F F' → Rep W G F' ρ' σ H' → ItOk W J F' items → R' J H') → wi σ H R'
def tI (W : Wd) (fi : FI) : TI := fun σ H R' => ∃ G F ρ Q', Rep W G F ρ σ H ∧ fi ρ Q' ∧ ∀ items ρ' F' H' J, Q' items ρ' → Same F F' → Rep W G F' ρ' σ H' → ItOk W J F' items → R' J H'
structure DI (X : Cx) [Tb X.mg] (tg e : Expr) (f : FI) : Prop where
  run : PI X tg e (tI (wd X) f)
theorem DI.ex {X : Cx} [Tb X.mg] {tg e : Expr} {f : FI} (h : DI X tg e f) : ∃ t, PI X tg e t ∧ ISound (wd X) t f := ⟨_, h.run, fun _ _ _ _ _ _ _ R hf hq => ⟨_, _, _, _, R, hf, hq⟩⟩
theorem DI.of {X : Cx} [Tb X.mg] {tg e : Expr} {f : FI} {t : TI} (p : PI X tg e t) (s : ISound (wd X) t f) : DI X tg e f :=
  ⟨⟨fun pins sh σ H R' I ⟨_, _, _, _, R, hf, hq⟩ => p.run pins sh σ H R' I (s _ _ _ _ _ _ _ R hf hq)⟩⟩
section
variable {X : Cx} [Tb X.mg] {pos : Pos}
/-- a turn each: the invariant by what is gone through and what is left -/
def sFor (fi : FI) (g : FG) (b : FS) : FS := fun E ρ => fi ρ fun items ρ1 => ∃ W : List D → List D → List S → Prop, W [] items ρ1 ∧ (∀ pre ρ', W pre [] ρ' → E.nx ρ') ∧
  ∀ pre x post ρ', pre ++ x :: post = items → W pre (x :: post) ρ' → g (.d x) ρ' fun ρ2 => b { E with nx := W (pre ++ [x]) post, ct := W (pre ++ [x]) post, bk := E.nx } ρ2
theorem ds_for {tg iter : Expr} {us : List Nat} {body : List Stmt} {fi : FI} {g : FG} {fb : FS} (hp : PassesOwn (model X.prog X.w) X.A X.env X.xe) (hc : X.calm = true) (hi : DI X tg iter fi) (hg : DG X tg us g) (hb : DSs X body fb)
    (hs : ∀ x, foldedSetIterable iter X.env x = pure x := by intro _; rfl) : DS X (.For tg iter body [] pos) (sFor fi g fb) := by
  obtain ⟨ti, pi, si⟩ := hi.ex
  obtain ⟨tg', pg, sg⟩ := hg.ex
  obtain ⟨tb, pb, sb⟩ := hb.ex
  refine .of (ps_for hp hc pi pg pb hs) fun G F ρ σ H E E' R hf ok => ?_
  refine si G F ρ σ H _ _ R hf fun items ρ0 F0 H0 J q0 k0 R0 ito => ?_
  obtain ⟨W, w0, wend, turn⟩ := q0
  refine ⟨fun i m σ' H' => ∃ F' ρ' pre post, Same F0 F' ∧ Rep (wd X) G F' ρ' σ' H' ∧ W pre post ρ' ∧ pre ++ post = items ∧ pre.length = i ∧ m = post.length, ⟨items.length, F0, ρ0, [], items, Same.refl _, R0, w0, rfl, rfl, rfl⟩, ?_⟩
  rintro i m σ1 H1 ⟨F1, ρ1, pre, post, k1, R1, w1, e1, e2, rfl⟩
  obtain ⟨ig, is⟩ := ito i F1 H1 k1 R1.sub
  cases post with
  | nil =>
    refine .inl ⟨is (by rw [← e1, List.append_nil]; exact e2), ?_⟩
    exact ok.nx _ F1 _ H1 (wend pre ρ1 w1) (k0.trans k1) R1
  | cons x post =>
    obtain ⟨go, yl⟩ := ig x (by rw [← e1, ← e2]; simp)
    refine .inr ⟨go, fun σ' H' => ∃ F' ρ', Same F0 F' ∧ Rep (wd X) G F' ρ' σ' H' ∧ W (pre ++ [x]) post ρ', ?_, ?_⟩
    · rintro σ' H' ⟨F', ρ', k', R', w'⟩
      exact ⟨post.length, by simp, F', ρ', pre ++ [x], post, k', R', w', by rw [List.append_assoc]; exact e1, by simp [e2], rfl⟩
    · intro v H2 y
      obtain ⟨F2, ex, dv⟩ := yl v H2 y
      obtain ⟨R2, k2⟩ := R1.ext ex
      refine sg G F2 ρ1 σ1 H2 (.d x) v _ _ R2 dv (turn pre x post ρ1 e1 w1) fun ρ3 F3 σ3 H3 q3 k3 R3 _ => ?_
      have kk : Same F0 F3 := (k1.trans k2).trans k3
      refine sb G F3 ρ3 σ3 H3 _ _ R3 q3 ⟨fun ρ' F' σ' H' n k R' => ⟨F', ρ', kk.trans k, R', n⟩, fun r ρ' F' σ' H' v q k R' w => ok.rt r ρ' F' σ' H' v q ((k0.trans kk).trans k) R' w, fun ρ' F' σ' H' q k R' => ok.nx ρ' F' σ' H' q ((k0.trans kk).trans k) R', fun ρ' F' σ' H' n k R' => ⟨F', ρ', kk.trans k, R', n⟩, fun o ρ' F' σ' H' a q k R' => ok.rn o ρ' F' σ' H' a q ((k0.trans kk).trans k) R'⟩

/-- over data: a list, a tuple -/
def fiSeq (f : FE) : FI := fun ρ Q => f ρ fun r ρ1 => match r with
  | .d (.list ds) => Q ds ρ1
  | .d (.tuple ds) => Q ds ρ1
  | _ => False
def fiLst (f : FE) : FI := fun ρ Q => f ρ fun r ρ1 => match r with
  | .d (.list ds) => Q ds ρ1
  | _ => False
def fiTup (f : FE) : FI := fun ρ Q => f ρ fun r ρ1 => match r with
  | .d (.tuple ds) => Q ds ρ1
  | _ => False
theorem it_list {W : Wd} {F : Hp} {a : Addr} {xs : List V} {ds : List D} (h : SqL W.K F a xs) (hd : DpAll W.K F xs ds) : ItOk W (Itl W.K a) F ds := by
  intro i F1 H1 k1 k2
  have s1 : SqL W.K H1 a xs := k2.seq (k1.seq h)
  refine ⟨fun x hx => ?_, fun e => ⟨xs, s1, by rw [DpAll.length hd, e]; exact Nat.le_refl _⟩⟩
  obtain ⟨v, hv, dv⟩ := DpAll.get hd hx
  refine ⟨⟨xs, v, s1, hv⟩, fun u H2 y => ?_⟩
  obtain ⟨e, y⟩ := y
  have e2 := y xs s1
  rw [hv] at e2
  cases e2
  exact ⟨F1, .inl ⟨rfl, e⟩, Dp.mono k1 _ _ dv⟩
theorem it_tup {W : Wd} {F : Hp} {a : Addr} {xs : List V} {ds : List D} (h : SqT W.K F a xs) (hd : DpAll W.K F xs ds) : ItOk W (Itt W.K a) F ds := by
  intro i F1 H1 k1 k2
  have s1 : SqT W.K H1 a xs := SqT.mono k2 (SqT.mono k1 h)
  refine ⟨fun x hx => ?_, fun e => ⟨xs, s1, by rw [DpAll.length hd, e]; exact Nat.le_refl _⟩⟩
  obtain ⟨v, hv, dv⟩ := DpAll.get hd hx
  refine ⟨⟨xs, v, s1, hv⟩, fun u H2 y => ?_⟩
  obtain ⟨e, y⟩ := y
  have e2 := y xs s1
  rw [hv] at e2
  cases e2
  exact ⟨F1, .inl ⟨rfl, e⟩, Dp.mono k1 _ _ dv⟩
theorem di_list {tg e : Expr} {f : FE} (h : DE X e f) : DI X tg e (fiLst f) := by
  obtain ⟨t, p, s⟩ := h.ex
  refine .of (pi_list p) fun G F ρ σ H R' Q' R hf hq => ?_
  refine s G F ρ σ H _ _ R hf fun r ρ1 F1 H1 v q1 k1 R1 w1 => ?_
  split at q1
  · rename_i ds
    cases w1 with
    | lst hS hd => exact ⟨_, rfl, ⟨_, R1.sub.seq hS⟩, hq _ _ F1 H1 _ q1 k1 R1 (it_list hS hd)⟩
  · exact q1.elim
theorem di_tup {tg e : Expr} {f : FE} (h : DE X e f) : DI X tg e (fiTup f) := by
  obtain ⟨t, p, s⟩ := h.ex
  refine .of (pi_tup p) fun G F ρ σ H R' Q' R hf hq => ?_
  refine s G F ρ σ H _ _ R hf fun r ρ1 F1 H1 v q1 k1 R1 w1 => ?_
  split at q1
  · rename_i ds
    cases w1 with
    | tup hS hd => exact ⟨_, rfl, ⟨_, SqT.mono R1.sub hS⟩, hq _ _ F1 H1 _ q1 k1 R1 (it_tup hS hd)⟩
  · exact q1.elim
/-- ints from lo on, n of them -/
def upto (lo : Int) (n : Nat) : List D := (List.range n).map fun i => PyData.int (lo + (i : Nat))
theorem it_range {W : Wd} {F : Hp} (lo : Int) (n : Nat) : ItOk W (Itr lo n) F (upto lo n) := by
  intro i F1 H1 k1 k2
  refine ⟨fun x hx => ?_, fun e => ?_⟩
  · unfold upto at hx
    rw [List.getElem?_map] at hx
    obtain ⟨j, hj, rfl⟩ := Option.map_eq_some_iff.mp hx
    obtain ⟨hlt, e⟩ := List.getElem?_eq_some_iff.mp hj
    rw [List.getElem_range] at e
    subst e
    rw [List.length_range] at hlt
    refine ⟨hlt, fun v H2 y => ?_⟩
    obtain ⟨e1, e2⟩ := y
    exact ⟨F1, .inl ⟨rfl, e1⟩, by rw [e2]; exact .int _⟩
  · unfold upto at e
    rw [List.length_map, List.length_range] at e
    exact Nat.le_of_eq e
def fiR1 (g : FA) : FI := fun ρ Q => g ρ fun rs ρ1 => match rs with
  | [.d (.int n)] => -(2 ^ 62) ≤ n ∧ n < 2 ^ 62 ∧ Q (upto 0 n.toNat) ρ1
  | _ => False
def fiR2 (g : FA) : FI := fun ρ Q => g ρ fun rs ρ1 => match rs with
  | [.d (.int m), .d (.int n)] => (-(2 ^ 62) ≤ m ∧ m < 2 ^ 62 ∧ -(2 ^ 62) ≤ n ∧ n < 2 ^ 62) ∧ Q (upto m (n - m).toNat) ρ1
  | _ => False
theorem one_of {W : Wd} {F : Hp} {r1 : S} {vs : List V} (h : VsOk W F [r1] vs) : ∃ v1, vs = [v1] ∧ VOk W F r1 v1 := by
  cases h with
  | cons a b => cases b; exact ⟨_, rfl, a⟩
theorem di_range1 {tg a : Expr} {g : FA} {p : Pos} (hg : Gl X "range") (hm : X.mg "range" = none) (ha : DA X [a] g) (hs : starEach [a] X.env = [(false, eval a X.env)] := by rfl) : DI X tg (.Call (.Name "range" p) [a] [] pos) (fiR1 g) := by
  obtain ⟨t, p, s⟩ := ha.ex
  refine .of (pi_range1 hg hm p hs) fun G F ρ σ H R' Q' R hf hq => ?_
  refine s G F ρ σ H _ _ R hf fun rs ρ1 F1 H1 vs q1 k1 R1 w1 => ?_
  split at q1
  · rename_i n
    obtain ⟨v, rfl, w⟩ := one_of w1
    cases w
    exact ⟨n, rfl, q1.1, q1.2.1, hq _ _ F1 H1 _ q1.2.2 k1 R1 (it_range 0 _)⟩
  · exact q1.elim
theorem di_range2 {tg a b : Expr} {g : FA} {p : Pos} (hg : Gl X "range") (hm : X.mg "range" = none) (ha : DA X [a, b] g) (hs : starEach [a, b] X.env = [(false, eval a X.env), (false, eval b X.env)] := by rfl) (hs2 : starEach [b] X.env = [(false, eval b X.env)] := by rfl) : DI X tg (.Call (.Name "range" p) [a, b] [] pos) (fiR2 g) := by
  obtain ⟨t, p, s⟩ := ha.ex
  refine .of (pi_range2 hg hm p hs hs2) fun G F ρ σ H R' Q' R hf hq => ?_
  refine s G F ρ σ H _ _ R hf fun rs ρ1 F1 H1 vs q1 k1 R1 w1 => ?_
  split at q1
  · rename_i m n
    obtain ⟨v1, v2, rfl, w1, w2⟩ := pair_of rfl w1
    cases w1
    cases w2
    exact ⟨m, n, rfl, q1.1, hq _ _ F1 H1 _ q1.2 k1 R1 (it_range m _)⟩
  · exact q1.elim
end
end Aq
/-! A3: comprehensions; functions. -/
namespace Aq
open PySem PySem.Spec PyProof.Rows L2

/-! ### a comprehension -/
def wipeS (ρ : List S) : List Nat → List S
  | [] => ρ
  | v :: vs => (wipeS ρ vs).set v .no
theorem wipeS_length (ρ : List S) : ∀ vs : List Nat, (wipeS ρ vs).length = ρ.length
  | [] => rfl
  | v :: vs => by unfold wipeS; rw [List.length_set, wipeS_length ρ vs]
theorem wipeS_in {ρ : List S} {i : Nat} : ∀ {vs : List Nat}, i ∈ vs → i < ρ.length → (wipeS ρ vs)[i]? = some .no
  | v :: vs, h, hl => by
    unfold wipeS
    by_cases e : v = i
    · subst e
      exact List.getElem?_set_self (by rw [wipeS_length]; exact hl)
    · rw [List.getElem?_set_ne e]
      rcases List.mem_cons.mp h with z | z
      · exact absurd z.symm e
      · exact wipeS_in z hl
theorem wipeS_out {ρ : List S} {i : Nat} : ∀ {vs : List Nat}, i ∉ vs → (wipeS ρ vs)[i]? = ρ[i]?
  | [], _ => rfl
  | v :: vs, h => by
    unfold wipeS
    rw [List.getElem?_set_ne (fun e => h (by simp [e])), wipeS_out fun z => h (List.mem_cons_of_mem _ z)]
theorem wipe_in {σ : L2.St} {i : Nat} : ∀ {vs : List Nat}, i ∈ vs → i < σ.length → (wipe σ vs)[i]? = some none
  | v :: vs, h, hl => by
    unfold wipe
    by_cases e : v = i
    · subst e
      exact List.getElem?_set_self (by rw [wipe_length]; exact hl)
    · rw [List.getElem?_set_ne e]
      rcases List.mem_cons.mp h with z | z
      · exact absurd z.symm e
      · exact wipe_in z hl
theorem wipe_eq {σ σ' : L2.St} {vs us : List Nat} (o : Off us σ σ') (h : ∀ i ∈ us, i ∈ vs) : wipe σ' vs = wipe σ vs := by
  refine List.ext_getElem? fun i => ?_
  by_cases hi : i ∈ vs
  · by_cases hl : i < σ.length
    · rw [wipe_in hi hl, wipe_in hi (by rw [o.1]; exact hl)]
    · rw [List.getElem?_eq_none (by rw [wipe_length, o.1]; omega), List.getElem?_eq_none (by rw [wipe_length]; omega)]
  · rw [wipe_out hi, wipe_out hi]
    exact o.2 i fun z => hi (h i z)
theorem wipe_wipe {σ : L2.St} {vs : List Nat} : wipe (wipe σ vs) vs = wipe σ vs := by
  refine List.ext_getElem? fun i => ?_
  by_cases hi : i ∈ vs
  · by_cases hl : i < σ.length
    · rw [wipe_in hi hl, wipe_in hi (by rw [wipe_length]; exact hl)]
    · rw [List.getElem?_eq_none (by rw [wipe_length, wipe_length]; omega), List.getElem?_eq_none (by rw [wipe_length]; omega)]
  · rw [wipe_out hi]
section
variable {W : Wd} {G : Fx} {F H : Hp} {ρ : List S} {σ σ' : L2.St} {vs : List Nat}
/-- the slots vs forgotten; then any state that is the same elsewhere -/
theorem Rep.wiped (R : Rep W G F ρ σ H) (h : ∀ i ∈ vs, settable ρ i) (hl : σ'.length = σ.length) (hs : ∀ i, i ∉ vs → σ'[i]? = σ[i]?) : Rep W G F (wipeS ρ vs) σ' H := by
  have back : ∀ {i : Nat} {s : S}, (wipeS ρ vs)[i]? = some s → s ≠ .no → i ∉ vs ∧ ρ[i]? = some s := fun {i s} e hne => by
    by_cases hi : i ∈ vs
    · rw [wipeS_in hi (h i hi).lt] at e
      exact absurd (Option.some.inj e).symm hne
    · rw [wipeS_out hi] at e
      exact ⟨hi, e⟩
  have own_ne : ∀ {s : S}, s.own = true → s ≠ .no := fun {s} e z => by rw [z] at e; cases e
  have nin : σ.length ∉ vs := fun z => Nat.lt_irrefl _ ((h _ z).lts R)
  have eh : hpOf (wipeS ρ vs) σ'.length = hpOf ρ σ.length := by
    unfold hpOf
    rw [hl, wipeS_out nin]
  have oth : ∀ (a : Addr), (∀ (i : Nat) (s : S), ρ[i]? = some s → s.own = true → σ[i]? ≠ some (some (.ref a))) → ∀ (i : Nat) (s : S), (wipeS ρ vs)[i]? = some s → s.own = true → σ'[i]? ≠ some (some (.ref a)) := fun a h4 i s e hso ei => by
    obtain ⟨k1, k2⟩ := back e (own_ne hso)
    rw [hs i k1] at ei
    exact h4 i s k2 hso ei
  refine ⟨R.sub, R.up, R.keep, R.new, by rw [wipeS_length, hl]; exact R.len, fun i s hi e => ?_, fun i s hi e => ?_, fun i j s t a hij hi hj hso hto ei ej => ?_, fun i a e => ?_, fun a o hm => ?_, fun a o hm => ?_, by rw [eh]; exact R.std, by rw [eh]; exact R.lnt, R.tabs⟩
  · cases s with
    | no => trivial
    | _ =>
      obtain ⟨h1, h2⟩ := back e (by intro z; cases z)
      have z := R.slot i _ (by rw [← hl]; exact hi) h2
      rw [← hs i h1] at z
      exact z
  · rw [hl] at hi ⊢
    have hni : i ∉ vs := fun z => by have := (h i z).lts R; omega
    rw [wipeS_out hni] at e
    exact R.top i s hi e
  · obtain ⟨h1, h2⟩ := back hi (own_ne hso)
    obtain ⟨h3, h4⟩ := back hj (own_ne hto)
    rw [hs i h1] at ei
    rw [hs j h3] at ej
    exact R.sep i j s t a hij h2 h4 hso hto ei ej
  · obtain ⟨hlt, o, ho⟩ := R.par i a e
    have hi : i ∉ vs := fun z => (h i z).no o ho
    exact ⟨by rw [hl]; exact hlt, o, by rw [wipeS_out hi]; exact ho⟩
  · obtain ⟨h1, h2, h3, h4⟩ := R.stk a o hm
    exact ⟨h1, h2, h3, oth a h4⟩
  · rw [eh] at hm
    obtain ⟨h1, h2, h3, h4⟩ := R.shr a o hm
    exact ⟨h1, h2, h3, oth a h4⟩
theorem Rep.canset (R : Rep W G F ρ σ H) {i : Nat} (hi : i < σ.length) (ho : G.ow[i]? = none) : settable ρ i := by
  unfold settable
  split
  · rename_i o e
    obtain ⟨a, ho', _, e2, _⟩ := R.slot i _ hi e
    rw [ho] at e2
    cases e2
  · rename_i tl e
    exact R.slot i _ hi e
  · trivial
  · rename_i e
    rw [List.getElem?_eq_none_iff] at e
    have := R.len
    omega
theorem Rep.noow (R : Rep W G F ρ σ H) {i : Nat} (h : settable ρ i) : G.ow[i]? = none := by
  cases e : G.ow[i]? with
  | none => rfl
  | some a =>
    obtain ⟨_, o, ho⟩ := R.par i a e
    exact absurd ho (h.no o)
end

def lcGo (g : FG) (c : FT) (f : FE) (vs : List Nat) : List D → List D → List S → (List D → List S → Prop) → Prop
  | [], acc, ρ, Q => Q acc ρ
  | x :: xs, acc, ρ, Q => g (.d x) ρ fun ρ1 => c ρ1 fun b ρ2 => if b = true then f ρ2 fun y ρ3 => (match y with
    | .d y => acc.length < sizeLine ∧ lcGo g c f vs xs (acc ++ [y]) (wipeS ρ3 vs) Q
    | _ => False) else lcGo g c f vs xs acc (wipeS ρ2 vs) Q
def fnLc (fi : FI) (g : FG) (c : FT) (f : FE) (vs : List Nat) : FN := fun ρ Q => fi ρ fun items ρ1 => (∀ i ∈ vs, settable ρ1 i) ∧ lcGo g c f vs items [] (wipeS ρ1 vs) fun ds ρ2 => Q (.lst ds) ρ2
def fYes : FT := fun ρ Q => Q true ρ
structure DTs (X : Cx) [Tb X.mg] (ifs : List Expr) (f : FT) : Prop where
  run : PTs X ifs (tT (wd X) f)
section
variable {X : Cx} [Tb X.mg]
theorem dts_nil : DTs X [] fYes := ⟨⟨fun pins s σ H Q I ⟨_, F, _, _, R, hf, hq⟩ => pts_nil.run pins s σ H Q I (hq _ _ F H hf (Same.refl _) R)⟩⟩
theorem dts_one {c : Expr} {f : FT} (h : DT X c f) : DTs X [c] f := ⟨pts_one h.run⟩
theorem sqrtn {n : Nat} : n = n := rfl
theorem snd_lc {W : Wd} {wi : TI} {fi : FI} {us : List Nat} {g : FG} {c : FT} {f : FE} {vs : List Nat} (si : ISound W wi fi) (hus : ∀ i ∈ us, i ∈ vs) : NSound W (tLc wi (tG W us g) (tT W c) (tE W f) vs) (fnLc fi g c f vs) := by
  intro G F ρ σ H Q Q' R hf hq
  refine si G F ρ σ H _ _ R hf fun items ρ1 F1 H1 J q1 k1 R1 ito => ?_
  intro D hD
  have hset : ∀ i ∈ vs, G.ow[i]? = none := fun i hi => R1.noow (q1.1 i hi)
  have R2 : Rep W (G.push D (.lst [])) F1 ρ1 σ (upd H1 D (.lst [])) := R1.push hD ⟨[], rfl, .nil⟩
  have R3 : Rep W (G.push D (.lst [])) F1 (wipeS ρ1 vs) (wipe σ vs) (upd H1 D (.lst [])) := R2.wiped q1.1 (wipe_length σ vs) fun i hi => wipe_out hi
  refine ⟨fun i m H' => ∃ F' ρ' pre post acc, Same F1 F' ∧ Rep W (G.push D (.lst acc)) F' ρ' (wipe σ vs) H' ∧ (∀ i ∈ vs, ρ'[i]? = some S.no) ∧ lcGo g c f vs post acc ρ' (fun ds ρ2 => Q' (.lst ds) ρ2) ∧ pre ++ post = items ∧ pre.length = i ∧ m = post.length,
    ⟨items.length, F1, wipeS ρ1 vs, [], items, [], Same.refl _, R3, fun i hi => wipeS_in hi (q1.1 i hi).lt, q1.2, rfl, rfl, rfl⟩, ?_⟩
  rintro i m H' ⟨F', ρ', pre, post, acc, k2, R4, hno, hgo, e1, e2, rfl⟩
  obtain ⟨ig, is⟩ := ito i F' H' k2 R4.sub
  cases post with
  | nil =>
    refine .inl ⟨is (by rw [← e1, List.append_nil]; exact e2), ?_⟩
    refine hq (.lst acc) ρ' F' H' D hgo (k1.trans k2) ?_
    have hst : ∀ i ∈ vs, settable ρ' i := fun i hi => by unfold settable; rw [hno i hi]; trivial
    have e : wipeS ρ' vs = ρ' := by
      refine List.ext_getElem? fun j => ?_
      by_cases hj : j ∈ vs
      · rw [wipeS_in hj (hst j hj).lt, hno j hj]
      · rw [wipeS_out hj]
    have R5 := R4.wiped (σ' := σ) hst (wipe_length σ vs).symm fun i hi => (wipe_out hi).symm
    rw [e] at R5
    exact R5
  | cons x post =>
    obtain ⟨go, yl⟩ := ig x (by rw [← e1, ← e2]; simp)
    refine .inr ⟨go, fun H'' => ∃ F'' ρ'' acc', Same F1 F'' ∧ Rep W (G.push D (.lst acc')) F'' ρ'' (wipe σ vs) H'' ∧ (∀ i ∈ vs, ρ''[i]? = some S.no) ∧ lcGo g c f vs post acc' ρ'' (fun ds ρ2 => Q' (.lst ds) ρ2), ?_, ?_⟩
    · rintro H'' ⟨F'', ρ'', acc', a1, a2, a3, a4⟩
      exact ⟨post.length, by simp, F'', ρ'', pre ++ [x], post, acc', a1, a2, a3, a4, by rw [List.append_assoc]; exact e1, by simp [e2], rfl⟩
    · intro v H2 y
      obtain ⟨F2, ex, dv⟩ := yl v H2 y
      obtain ⟨R5, k5⟩ := R4.ext ex
      refine ⟨_, F2, ρ', .d x, _, R5, dv, hgo, fun ρ3 F3 σ3 H3 q3 k3 R6 off => ?_⟩
      have hw : wipe σ3 vs = wipe σ vs := (wipe_eq off hus).trans wipe_wipe
      refine ⟨hw, _, F3, ρ3, _, R6, q3, fun b ρ4 F4 H4 q4 k4 R7 => ?_⟩
      have clean : ∀ {o : Ow} {F5 H5 : Hp} {ρ5 : List S}, Rep W (G.push D o) F5 ρ5 σ3 H5 → Rep W (G.push D o) F5 (wipeS ρ5 vs) (wipe σ vs) H5 ∧ ∀ i ∈ vs, (wipeS ρ5 vs)[i]? = some S.no := fun {o F5 H5 ρ5} R' => by
        have hlen : ∀ i ∈ vs, i < σ3.length := fun i hi => by
          rw [off.1, wipe_length]
          exact (q1.1 i hi).lts R1
        refine ⟨R'.wiped (fun i hi => R'.canset (hlen i hi) (hset i hi)) (by rw [← hw, wipe_length]) fun i hi => ?_, fun i hi => wipeS_in hi (Nat.lt_of_lt_of_le (hlen i hi) R'.len)⟩
        rw [← hw, wipe_out hi]
      cases b with
      | false =>
        rw [if_neg Bool.false_ne_true] at q4
        obtain ⟨a1, a2⟩ := clean R7
        refine iteF ?_
        exact ⟨F4, wipeS ρ4 vs, acc, ((k2.trans k5).trans k3).trans k4, a1, a2, q4⟩
      | true =>
        rw [if_pos rfl] at q4
        refine iteT ?_
        refine ⟨_, F4, ρ4, _, R7, q4, fun y ρ5 F5 H5 w q5 k6 R8 w5 => ?_⟩
        split at q5
        · rename_i d
          obtain ⟨_, _, _, ⟨ho, h1, us', h2, h3⟩, _⟩ := R8.pop
          subst h2
          refine ⟨us', h1, by rw [DpAll.length h3]; exact q5.1, ?_⟩
          have R9 := R8.restock (o' := .lst (acc ++ [d])) (ho := .lst (us' ++ [w])) ⟨_, rfl, DpAll.append h3 (.cons w5 .nil)⟩
          obtain ⟨a1, a2⟩ := clean R9
          exact ⟨F5, wipeS ρ5 vs, acc ++ [d], (((k2.trans k5).trans k3).trans k4).trans k6, a1, a2, q5.2⟩
        · exact q5.elim
variable {elt tg iter : Expr} {ifs : List Expr} {scope : Scope} {pos : Pos} {us : List Nat} {fi : FI} {g : FG} {c : FT} {f : FE}
theorem dn_lc (own : List (Str × Nat)) (hc : X.calm = true) (hN : X.N.Nodup) (hi : DI X tg iter fi)
    (hg : ∀ (s : Shared) (H : Hp) (C : Addr) (cl : List (Str × Addr)) (fp : List Addr), DG (X.blk s H scope (compEnvC scope cl C X.env) fp) tg us g) (ht : ∀ (s : Shared) (H : Hp) (C : Addr) (cl : List (Str × Addr)) (fp : List Addr), DTs (X.blk s H scope (compEnvC scope cl C X.env) fp) ifs c)
    (he : ∀ (s : Shared) (H : Hp) (C : Addr) (cl : List (Str × Addr)) (fp : List Addr), DE (X.blk s H scope (compEnvC scope cl C X.env) fp) elt f) (ok : blkC X.N X.env.scope scope own = true := by kernel_rfl) (hus : ∀ i ∈ us, i ∈ own.map (·.2) := by decide)
    (hs : ∀ x, foldedSetIterable iter X.env x = pure x := by intro _; rfl) : DN X (.ListComp elt [⟨tg, iter, ifs, 0⟩] scope pos) (fnLc fi g c f (own.map (·.2))) := by
  obtain ⟨wi, pi, si⟩ := hi.ex
  exact .of (pe_lc (g := tG (wd X) us g) (tt := tT (wd X) c) (te := tE (wd X) f) hc hN pi (blkOk_by ok) (fun s H C cl fp => (hg s H C cl fp).run) (fun s H C cl fp => (ht s H C cl fp).run) (fun s H C cl fp => (he s H C cl fp).run) hs) (snd_lc si hus)
/-- y = [..] on one row -/
theorem ds_newLc (own : List (Str × Nat)) (i : Nat) {y : Str} {py spos : Pos} (hc : X.calm = true) (hN : X.N.Nodup) (hi : DI X tg iter fi)
    (hg : ∀ (s : Shared) (H : Hp) (C : Addr) (cl : List (Str × Addr)) (fp : List Addr), DG (X.blk s H scope (compEnvC scope cl C X.env) fp) tg us g) (ht : ∀ (s : Shared) (H : Hp) (C : Addr) (cl : List (Str × Addr)) (fp : List Addr), DTs (X.blk s H scope (compEnvC scope cl C X.env) fp) ifs c)
    (he : ∀ (s : Shared) (H : Hp) (C : Addr) (cl : List (Str × Addr)) (fp : List Addr), DE (X.blk s H scope (compEnvC scope cl C X.env) fp) elt f) (hsw : swapsWith (.ListComp elt [⟨tg, iter, ifs, 0⟩] scope pos) (some (.Name y py)) spos.line X.env = pure true) (hy : X.N[i]? = some y := by rfl) (hyl : X.env.scope.names.lookup y = some .local := by rfl) (ok : blkC X.N X.env.scope scope own = true := by kernel_rfl) (hus : ∀ i ∈ us, i ∈ own.map (·.2) := by decide)
    (hs : ∀ x, foldedSetIterable iter X.env x = pure x := by intro _; rfl) : DS X (.Assign [.Name y py] (.ListComp elt [⟨tg, iter, ifs, 0⟩] scope pos) spos) (sNew (fnLc fi g c f (own.map (·.2))) i) := by
  obtain ⟨wi, pi, si⟩ := hi.ex
  refine .of (ps_setLc (g := tG (wd X) us g) (tt := tT (wd X) c) (te := tE (wd X) f) hc hN hy hyl hsw pi (blkOk_by ok) (fun s H C cl fp => (hg s H C cl fp).run) (fun s H C cl fp => (ht s H C cl fp).run) (fun s H C cl fp => (he s H C cl fp).run) hs) fun G F ρ σ H E E' R hf okE => ?_
  refine snd_lc si hus G F ρ σ H _ _ R hf fun o ρ' F' H' a q k R' => ?_
  exact okE.nx _ F' _ H' q.2 k (R'.setO q.1)
/-- .. that is let stand -/
def sNewS (f : FN) (i : Nat) : FS := fun E ρ => f ρ fun o ρ1 => settable ρ1 i ∧ E.nx (ρ1.set i (still o))
theorem ds_newLcS (own : List (Str × Nat)) (i : Nat) {y : Str} {py spos : Pos} (hc : X.calm = true) (hN : X.N.Nodup) (hi : DI X tg iter fi)
    (hg : ∀ (s : Shared) (H : Hp) (C : Addr) (cl : List (Str × Addr)) (fp : List Addr), DG (X.blk s H scope (compEnvC scope cl C X.env) fp) tg us g) (ht : ∀ (s : Shared) (H : Hp) (C : Addr) (cl : List (Str × Addr)) (fp : List Addr), DTs (X.blk s H scope (compEnvC scope cl C X.env) fp) ifs c)
    (he : ∀ (s : Shared) (H : Hp) (C : Addr) (cl : List (Str × Addr)) (fp : List Addr), DE (X.blk s H scope (compEnvC scope cl C X.env) fp) elt f) (hsw : swapsWith (.ListComp elt [⟨tg, iter, ifs, 0⟩] scope pos) (some (.Name y py)) spos.line X.env = pure true) (hy : X.N[i]? = some y := by rfl) (hyl : X.env.scope.names.lookup y = some .local := by rfl) (ok : blkC X.N X.env.scope scope own = true := by kernel_rfl) (hus : ∀ i ∈ us, i ∈ own.map (·.2) := by decide)
    (hs : ∀ x, foldedSetIterable iter X.env x = pure x := by intro _; rfl) : DS X (.Assign [.Name y py] (.ListComp elt [⟨tg, iter, ifs, 0⟩] scope pos) spos) (sNewS (fnLc fi g c f (own.map (·.2))) i) := by
  obtain ⟨wi, pi, si⟩ := hi.ex
  refine .of (ps_setLc (g := tG (wd X) us g) (tt := tT (wd X) c) (te := tE (wd X) f) hc hN hy hyl hsw pi (blkOk_by ok) (fun s H C cl fp => (hg s H C cl fp).run) (fun s H C cl fp => (ht s H C cl fp).run) (fun s H C cl fp => (he s H C cl fp).run) hs) fun G F ρ σ H E E' R hf okE => ?_
  refine snd_lc si hus G F ρ σ H _ _ R hf fun o ρ' F' H' a q k R' => ?_
  obtain ⟨F2, s2, R2, v2⟩ := R'.stand
  exact okE.nx _ F2 _ H' q.2 (k.trans s2) (R2.setV q.1 v2)
end

/-! ### functions -/
/-- a function of data: what it gives -/
abbrev Fn := List S → (S → Prop) → Prop
/-- .. of a thing lent, and data: what it gives, what the thing is then -/
abbrev FnO := Ow → List S → (S → Ow → Prop) → Prop
def Fresh (F H F' : Hp) : Prop := ∀ b o, F' b = some o → F b = some o ∨ H b = none
/-- n arguments -/
def spF (W : Wd) (n : Nat) (f : Fn) : Sp := fun vs H Q _ => ∃ F ss Q', ss.length = n ∧ Same F H ∧ Tbs W F H ∧ VsOk W F ss vs ∧ f ss Q' ∧
  ∀ r F' H' v, Q' r → Same F F' → Same F' H' → Kept H H' → Fresh F H F' → Tbs W F' H' → VOk W F' r v → Q v H'
def spO (W : Wd) (n : Nat) (f : FnO) : Sp := fun vs H Q _ => ∃ F a o ho ss vs' Q', ss.length = n ∧ vs = .ref a :: vs' ∧ Same F H ∧ Tbs W F H ∧ F a = none ∧ H a = some ho ∧ RepO W F a o ho ∧ VsOk W F ss vs' ∧ f o ss Q' ∧
  ∀ r o' ho' F' H' v, Q' r o' → Same F F' → Same F' H' → (∀ b u, H b = some u → b ≠ a → Kp u (H' b)) → Fresh F H F' → Tbs W F' H' → F' a = none → H' a = some ho' → RepO W F' a o' ho' → VOk W F' r v → Q v H'
theorem VsOk.length {W : Wd} {F : Hp} {ss : List S} {vs : List V} (h : VsOk W F ss vs) : ss.length = vs.length := Paired.length h
section
variable {W : Wd} {G : Fx} {F H F' H' : Hp} {ρ : List S} {σ : L2.St}
/-- behind a call -/
theorem fresh_non {a : Addr} {ho : HO} (fr : Fresh F H F') (e1 : F a = none) (e2 : H a = some ho) : F' a = none := by
  cases e : F' a with
  | none => rfl
  | some u =>
    rcases fr a u e with z | z
    · rw [e1] at z; cases z
    · rw [e2] at z; cases z
theorem Rep.called (R : Rep W G F ρ σ H) (k : Same F F') (s : Same F' H') (h : Kept H H') (fr : Fresh F H F') (ht : Tbs W F' H') : Rep W G F' ρ σ H' :=
  R.core k s (fun b o e _ => h b o e) (fun b w => let ⟨e1, _, _, e2, _⟩ := R.owd w; fresh_non fr e1 e2) (fun b o e => (fr b o e).imp id fun z => (R.nofree z).2) ht
/-- what a slot of one's own becomes -/
def owned (ρ : List S) (i : Nat) (o : Ow) : S := match ρ[i]? with
  | some (.pa _) => .pa o
  | _ => .ow o
/-- the thing that slot i has as its own -/
def ownAt (ρ : List S) (i : Nat) : Option Ow := match ρ[i]? with
  | some (.ow o) => some o
  | some (.pa o) => some o
  | _ => none
theorem ownAt_or {i : Nat} {o : Ow} (h : ownAt ρ i = some o) : ρ[i]? = some (S.ow o) ∨ ρ[i]? = some (S.pa o) := by
  unfold ownAt at h
  split at h
  · rename_i e; cases h; exact .inl e
  · rename_i e; cases h; exact .inr e
  · cases h
theorem Rep.ownAt (R : Rep W G F ρ σ H) {i : Nat} {o : Ow} (h : ownAt ρ i = some o) : ∃ a ho, σ[i]? = some (some (.ref a)) ∧ F a = none ∧ H a = some ho ∧ RepO W F a o ho := by
  rcases ownAt_or h with e | e
  · obtain ⟨a, ho, e1, e2, e3, e4, e5⟩ := R.slot i _ (R.lt e (by intro _ z; cases z)) e
    exact ⟨a, ho, e1, e2, e4, e5⟩
  · obtain ⟨a, ho, e1, e2, e3, e4, e5⟩ := R.slot i _ (R.lt e (by intro _ z; cases z)) e
    exact ⟨a, ho, e1, e3, e4, e5⟩
/-- behind a call that was lent the thing of slot i -/
theorem Rep.calledO (R : Rep W G F ρ σ H) {i : Nat} {o o' : Ow} {a : Addr} {ho' : HO} (hi : Aq.ownAt ρ i = some o) (ha : σ[i]? = some (some (.ref a))) (k : Same F F') (s : Same F' H') (h : ∀ b u, H b = some u → b ≠ a → Kp u (H' b))
    (fr : Fresh F H F') (ht : Tbs W F' H') (hF : F' a = none) (hH : H' a = some ho') (hr : RepO W F' a o' ho') : Rep W G F' (ρ.set i (owned ρ i o')) σ H' := by
  obtain ⟨a', ho, e1, e2, e3, e4⟩ := R.ownAt hi
  rw [ha] at e1
  cases e1
  -- first the call, as though a were as it was; then the change
  have sH : Kept H (upd H' a ho) := fun b u e => by
    by_cases hb : b = a
    · subst hb; rw [upd_same, ← e3]; exact .inl e
    · rw [upd_ne hb]; exact h b u e hb
  have sF : Same F' (upd H' a ho) := fun b u e => by
    rw [upd_ne (ne_of_none e hF)]; exact s b u e
  have tF : Tbs W F' (upd H' a ho) := fun t ht' => by
    have hT := ht t ht'
    refine hT.mono (Same.refl _) hT.1 fun ps e => ?_
    have ne : t.1 ≠ a := fun z => by
      rw [z, hH] at e
      exact hr.nt ps (Option.some.inj e)
    rw [upd_ne ne]
    exact e
  have R1 := R.called k sF sH fr tF
  have R2 := R1.put (i := i) (o := o) (o' := o') (a := a) (ho := ho') (ownAt_or hi) ha hr
  rw [upd_upd] at R2
  have e : upd H' a ho' = H' := by
    funext b
    by_cases hb : b = a
    · subst hb; rw [upd_same, hH]
    · rw [upd_ne hb]
  rw [e] at R2
  exact R2
end
/-- a function that gives a new thing -/
abbrev FnN := List S → (Ow → Prop) → Prop
def spN (W : Wd) (n : Nat) (f : FnN) : Sp := fun vs H Q _ => ∃ F ss Q', ss.length = n ∧ Same F H ∧ Tbs W F H ∧ VsOk W F ss vs ∧ f ss Q' ∧
  ∀ o F' H' a ho, Q' o → Same F F' → Same F' H' → Kept H H' → Fresh F H F' → Tbs W F' H' → F' a = none → H a = none → H' a = some ho → RepO W F' a o ho → Q (.ref a) H'
def fCallN (f : FnN) (g : FA) : FN := fun ρ Q => g ρ fun ss ρ1 => f ss fun o => Q o ρ1
theorem snd_callN {W : Wd} {n : Nat} {f : FnN} {E : XK} {t : TA} {g : FA} (s : ASound W t g) (hn : ∀ ss Q, f ss Q → ss.length = n) : NSound W (tCall (spN W n f) [] E t) (fCallN f g) := by
  intro G F ρ σ H Q Q' R hf hq
  refine s G F ρ σ H _ _ R hf fun ss ρ1 F1 H1 vs q1 k1 R1 w1 => ?_
  show spN W n f (vs ++ []) H1 Q E
  rw [List.append_nil]
  refine ⟨F1, ss, _, hn _ _ q1, R1.sub, R1.tabs, w1, q1, fun o F' H' a ho q k2 s2 h2 fr ht e1 e2 e3 e4 => ?_⟩
  exact hq _ _ F' H' a q (k1.trans k2) ((R1.called k2 s2 h2 fr ht).hold e1 (R1.nofree e2).2 e3 e4 (R1.free_not e2))
/-- f(e, ..) -/
def fCall (f : Fn) (g : FA) : FE := fun ρ Q => g ρ fun ss ρ1 => f ss fun r => Q r ρ1
theorem snd_call {W : Wd} {n : Nat} {f : Fn} {E : XK} {t : TA} {g : FA} (s : ASound W t g) (hn : ∀ ss Q, f ss Q → ss.length = n) : ESound W (tCall (spF W n f) [] E t) (fCall f g) := by
  intro G F ρ σ H Q Q' R hf hq
  refine s G F ρ σ H _ _ R hf fun ss ρ1 F1 H1 vs q1 k1 R1 w1 => ?_
  show spF W n f (vs ++ []) H1 Q E
  rw [List.append_nil]
  refine ⟨F1, ss, _, hn _ _ q1, R1.sub, R1.tabs, w1, q1, fun r F' H' v q k2 s2 h2 fr ht w => ?_⟩
  exact hq _ _ F' H' v q (k1.trans k2) (R1.called k2 s2 h2 fr ht) w
section
variable {X : Cx} [Tb X.mg] {CX : CXT} {k n : Nat} {fa : Addr} {fd : FuncData} {ps : List Str} {f : Fn} {fo : FnO} {x : Str} {p pos : Pos} {e : Expr} {es : List Expr} {g : FA} {E : XK}
theorem de_call (Fk : FnOk X.prog X.w X.K X.mg X.base CX k fa fd ps (spF (wd X) n f)) (hr : Room k X.A) (hm : X.mg x = some (.ref fa)) (hk : PySem.W.keepIn X.K (.ref fa) = true) (hb : Binds X.K fd ps []) (hx : Passes CX X E) (ha : DA X (e :: es) g) (hn : ∀ ss Q, f ss Q → ss.length = n) (hg : Gl X x := by rfl)
    (hdb : (x == ("__debug__" : Str)) = false := by decide) (he : starEach (e :: es) X.env = (false, eval e X.env) :: starEach es X.env := by rfl) (hpl : (backTo pos (starEach es X.env)).any (·.1) = false := by rfl) : DE X (.Call (.Name x p) (e :: es) [] pos) (fCall f g) := by
  obtain ⟨t, p, s⟩ := ha.ex
  exact .of (pe_call Fk hr hg hm hk hb .nil hx p hdb he hpl) (snd_call s hn)
theorem dn_call {f : FnN} (Fk : FnOk X.prog X.w X.K X.mg X.base CX k fa fd ps (spN (wd X) n f)) (hr : Room k X.A) (hm : X.mg x = some (.ref fa)) (hk : PySem.W.keepIn X.K (.ref fa) = true) (hb : Binds X.K fd ps []) (hx : Passes CX X E) (ha : DA X (e :: es) g) (hn : ∀ ss Q, f ss Q → ss.length = n) (hg : Gl X x := by rfl)
    (hdb : (x == ("__debug__" : Str)) = false := by decide) (he : starEach (e :: es) X.env = (false, eval e X.env) :: starEach es X.env := by rfl) (hpl : (backTo pos (starEach es X.env)).any (·.1) = false := by rfl) : DN X (.Call (.Name x p) (e :: es) [] pos) (fCallN f g) := by
  obtain ⟨t, p, s⟩ := ha.ex
  exact .of (pe_call Fk hr hg hm hk hb .nil hx p hdb he hpl) (snd_callN s hn)
theorem de_call0 (Fk : FnOk X.prog X.w X.K X.mg X.base CX k fa fd ps (spF (wd X) n f)) (hr : Room k X.A) (hm : X.mg x = some (.ref fa)) (hk : PySem.W.keepIn X.K (.ref fa) = true) (hb : Binds X.K fd ps []) (hx : Passes CX X E) (hn : ∀ ss Q, f ss Q → ss.length = n) (hg : Gl X x := by rfl)
    (hdb : (x == ("__debug__" : Str)) = false := by decide) : DE X (.Call (.Name x p) [] [] pos) (fCall f fNil) := by
  exact .of (pe_call0 Fk hr hg hm hk hb .nil hx hdb) (snd_call (fun _ F _ _ H _ _ R hf hq => hq _ _ F H [] hf (Same.refl _) R .nil) hn)
end
end Aq
/-! A4: a function's body; a call that lends; operators on data. -/
namespace Aq
open PySem PySem.Spec PyProof.Rows L2

/-! ### a body -/
theorem start_get {N : List Str} {vs : List V} {i : Nat} {v : V} (h : vs[i]? = some v) : (start N vs)[i]? = some (some v) := by
  have hl := (List.getElem?_eq_some_iff.mp h).1
  unfold L2.start
  rw [List.getElem?_append_left (by simpa using hl), List.getElem?_map, h]
  rfl
/-- the slots at the entry -/
def slots0 (n : Nat) (ss : List S) : List S := ss ++ List.replicate (n - ss.length) .no
theorem slots0_get {n : Nat} {ss : List S} {i : Nat} {s : S} (h : (slots0 n ss)[i]? = some s) : ss[i]? = some s ∨ s = .no := by
  unfold slots0 at h
  by_cases hi : i < ss.length
  · rw [List.getElem?_append_left hi] at h
    exact .inl h
  · rw [List.getElem?_append_right (by omega), List.getElem?_replicate] at h
    split at h
    · exact .inr (Option.some.inj h).symm
    · cases h
theorem VsOk.get {W : Wd} {F : Hp} : ∀ {ss : List S} {vs : List V} {i : Nat} {s : S}, VsOk W F ss vs → ss[i]? = some s → ∃ v, vs[i]? = some v ∧ VOk W F s v
  | _, _, _, _, .nil, e => by simp at e
  | _, _, 0, _, .cons r _, e => by simp at e; subst e; exact ⟨_, rfl, r⟩
  | _, _, i + 1, s, .cons _ t, e => by
    obtain ⟨v, h1, h2⟩ := VsOk.get (i := i) (s := s) t (by simpa using e)
    exact ⟨v, by simpa using h1, h2⟩
theorem VOk.noown {W : Wd} {F : Hp} {s : S} {v : V} (h : VOk W F s v) : s.own = false := by
  cases s with
  | ow o => exact h.elim
  | pa o => exact h.elim
  | _ => rfl
theorem fn_few {N ps : List Str} {sc : Scope} (Sc : FnScope N ps sc) : ps.length ≤ N.length := by
  have := congrArg List.length Sc.pre
  rw [List.length_take] at this
  omega
/-- the state at a def's entry: arguments, what is lent, what is shared -/
structure Entry (W : Wd) (G : Fx) (F H : Hp) (n : Nat) (ss : List S) (vs : List V) (tl : List (Addr × Ow)) (hs : List S) : Prop where
  hs : (hs = [] ∧ tl = []) ∨ hs = [.hp tl]
  H0 : G.H0 = H
  F0 : G.F0 = F
  st : G.st = []
  lt : G.lt = tl.map (·.1)
  sub : Same F H
  tabs : Tbs W F H
  len : ss.length = vs.length
  few : ss.length ≤ n
  slot : ∀ (i : Nat) (s : S) (v : V), ss[i]? = some s → vs[i]? = some v → SlotOk W G F H i s (some (some v))
  own : ∀ (i : Nat) (s : S), ss[i]? = some s → s.own = true → i = 0
  par : ∀ (i : Nat) (a : Addr), G.ow[i]? = some a → ∃ o, ss[i]? = some (.pa o)
  shr : ∀ (a : Addr) (o : Ow), (a, o) ∈ tl → F a = none ∧ (∃ ho, H a = some ho ∧ RepO W F a o ho) ∧ ∀ s, ss[0]? = some s → s.own = true → vs[0]? ≠ some (.ref a)
  nd : (tl.map (·.1)).Nodup
theorem rep_entry {W : Wd} {G : Fx} {F H : Hp} {N : List Str} {ss : List S} {vs : List V} {tl : List (Addr × Ow)} {hs : List S} (e : Entry W G F H N.length ss vs tl hs) : Rep W G F (slots0 N.length ss ++ hs) (start N vs) H := by
  have hl := e.len
  have few := e.few
  have lσ : (start N vs).length = N.length := by
    unfold L2.start
    simp only [List.length_append, List.length_replicate, List.length_map]
    omega
  have lρ : (slots0 N.length ss).length = N.length := by
    unfold slots0
    simp only [List.length_append, List.length_replicate]
    omega
  have eh : hpOf (slots0 N.length ss ++ hs) (start N vs).length = tl := by
    unfold hpOf
    rw [lσ, List.getElem?_append_right (by omega), lρ, Nat.sub_self]
    rcases e.hs with ⟨h1, h2⟩ | h1
    · rw [h1, h2]; rfl
    · rw [h1]; rfl
  have nom : ∀ {i : Nat} {s : S}, i < N.length → (slots0 N.length ss ++ hs)[i]? = some s → ss[i]? = some s ∨ s = .no := fun {i s} hi q => by
    rw [List.getElem?_append_left (by omega)] at q
    exact slots0_get q
  have own0 : ∀ {i : Nat} {s : S}, (slots0 N.length ss ++ hs)[i]? = some s → s.own = true → i = 0 ∧ ss[0]? = some s := fun {i s} q ho => by
    by_cases hi : i < N.length
    · rcases nom hi q with z | rfl
      · have := e.own i s z ho
        subst this
        exact ⟨rfl, z⟩
      · cases ho
    · rw [List.getElem?_append_right (by omega)] at q
      rcases e.hs with ⟨h1, _⟩ | h1
      · rw [h1] at q; simp at q
      · rw [h1, lρ] at q
        have := (List.getElem?_eq_some_iff.mp q).1
        have i0 : i - N.length = 0 := by simpa using this
        rw [i0] at q
        cases q
        cases ho
  have st0 : ∀ {v : V}, (start N vs)[0]? = some (some v) → 0 < ss.length → vs[0]? = some v := fun {v} q h0 => by
    have h1 : ∃ v', vs[0]? = some v' := ⟨vs[0], List.getElem?_eq_getElem (by omega)⟩
    obtain ⟨v', h1⟩ := h1
    rw [start_get h1] at q
    cases q
    exact h1
  refine ⟨e.sub, by rw [e.F0]; exact Same.refl _, fun b o q _ _ => by rw [e.H0] at q; exact .inl q, fun b o q => .inl (by rw [e.F0]; exact q), by rw [lσ, List.length_append, lρ]; omega, fun i t hlt hi => ?_, fun i t hlt hi => ?_, fun i j t u a hij hi hj ht hu => absurd ((own0 hi ht).1.trans (own0 hj hu).1.symm) hij, fun i a q => ?_, fun a o hm => ?_, fun a o hm => ?_, ?_, ?_, e.tabs⟩
  · rw [lσ] at hlt
    rcases nom hlt hi with z | rfl
    · have hs' := (List.getElem?_eq_some_iff.mp z).1
      have hv : vs[i]? = some vs[i] := List.getElem?_eq_getElem (by omega)
      rw [start_get hv]
      exact e.slot i t _ z hv
    · trivial
  · rw [lσ] at hlt ⊢
    rw [List.getElem?_append_right (by omega), lρ] at hi
    rcases e.hs with ⟨h1, _⟩ | h1
    · rw [h1] at hi; simp at hi
    · rw [h1] at hi
      have := (List.getElem?_eq_some_iff.mp hi).1
      have i0 : i - N.length = 0 := by simpa using this
      rw [i0] at hi
      cases hi
      exact ⟨by omega, tl, rfl⟩
  · obtain ⟨o, z⟩ := e.par i a q
    have hi := (List.getElem?_eq_some_iff.mp z).1
    refine ⟨by rw [lσ]; omega, o, ?_⟩
    rw [List.getElem?_append_left (by omega)]
    unfold slots0
    rw [List.getElem?_append_left hi]
    exact z
  · rw [e.st] at hm
    cases hm
  · rw [eh] at hm
    obtain ⟨h1, h2, h3⟩ := e.shr a o hm
    refine ⟨h1, .inr (by rw [e.lt]; exact List.mem_map.mpr ⟨_, hm, rfl⟩), h2, fun i s hi ho q => ?_⟩
    obtain ⟨rfl, z⟩ := own0 hi ho
    exact h3 s z ho (st0 q (List.getElem?_eq_some_iff.mp z).1)
  · rw [eh, e.st, List.append_nil]
    exact e.nd
  · intro a ha
    rw [eh, ← e.lt]
    exact ha
theorem rep_start {W : Wd} {F H : Hp} {N : List Str} {ss : List S} {vs : List V} (s : Same F H) (ht : Tbs W F H) (hn : ss.length ≤ N.length) (w : VsOk W F ss vs) : Rep W ⟨H, F, [], [], []⟩ F (slots0 N.length ss) (start N vs) H := by
  have R := rep_entry (W := W) (G := ⟨H, F, [], [], []⟩) (F := F) (H := H) (N := N) (ss := ss) (vs := vs) (tl := []) (hs := []) ⟨.inl ⟨rfl, rfl⟩, rfl, rfl, rfl, rfl, s, ht, VsOk.length w, hn, fun i t v h1 h2 => ?_, fun i t h1 h2 => ?_, fun i a q => by simp at q, fun a o hm => by simp at hm, List.nodup_nil⟩
  · rw [List.append_nil] at R
    exact R
  · obtain ⟨v', e2, e3⟩ := VsOk.get w h1
    rw [h2] at e2
    cases e2
    exact (VOk.slot e3).1
  · obtain ⟨v', e2, e3⟩ := VsOk.get w h1
    rw [VOk.noown e3] at h2
    cases h2
theorem rep_startO {W : Wd} {F H : Hp} {N : List Str} {ss : List S} {vs : List V} {a : Addr} {o : Ow} {ho : HO} (s : Same F H) (ht : Tbs W F H) (hn : ss.length + 1 ≤ N.length) (hF : F a = none) (hH : H a = some ho) (hr : RepO W F a o ho) (w : VsOk W F ss vs) :
    Rep W ⟨H, F, [a], [], []⟩ F (slots0 N.length (.pa o :: ss)) (start N (.ref a :: vs)) H := by
  have R := rep_entry (W := W) (G := ⟨H, F, [a], [], []⟩) (F := F) (H := H) (N := N) (ss := .pa o :: ss) (vs := .ref a :: vs) (tl := []) (hs := []) ⟨.inl ⟨rfl, rfl⟩, rfl, rfl, rfl, rfl, s, ht, by simp [VsOk.length w], by simpa using hn, fun i t v h1 h2 => ?_, fun i t h1 h2 => ?_, fun i b q => ?_, fun b o hm => by simp at hm, List.nodup_nil⟩
  · rw [List.append_nil] at R
    exact R
  · cases i with
    | zero =>
      simp at h1 h2
      subst h1 h2
      exact ⟨a, ho, rfl, rfl, hF, hH, hr⟩
    | succ i =>
      obtain ⟨v', e2, e3⟩ := VsOk.get w (i := i) (s := t) (by simpa using h1)
      have h2' : vs[i]? = some v := by simpa using h2
      rw [h2'] at e2
      cases e2
      exact (VOk.slot e3).1
  · cases i with
    | zero => rfl
    | succ i =>
      obtain ⟨v', e2, e3⟩ := VsOk.get w (i := i) (s := t) (by simpa using h1)
      rw [VOk.noown e3] at h2
      cases h2
  · cases i with
    | zero => exact ⟨o, rfl⟩
    | succ i => simp at q
section
variable {P : Program} {w : World} {K : PySem.W.Frag} {mg : Str → Option Value} [Tb mg] {base : Heap}
theorem fn_data {x qual : Str} {st : Stmt} {fa : Addr} {fd : FuncData} {N ps : List Str} {k : Nat} {g : FS} {f : Fn} (Fk : Fun K x qual st fa fd) (Sc : FnScope N ps (defScope st))
    (body : ∀ (cdv : Value) (A : Around) (outer : List Env) (s : Shared) (H : Hp) (E : XK), Room k (A.deeper (envOfC qual (defScope st) s.heap.objs.size fa cdv)) → DSs (cxOf CX0 P w K mg base N qual (defScope st) fa cdv A outer s H E).nox (defBody st) g)
    (h : ∀ ss Q', ss.length = ps.length → f ss Q' → g { nx := fun _ => Q' (.d .none), rt := fun r _ => Q' r } (slots0 N.length ss)) : FnOk P w K mg base CX0 (k + 1) fa fd ps (spF ⟨P, w, K, Tb.l mg⟩ ps.length f) := by
  refine Fk.ok Sc (fun vs H Q E hs => ?_) (fun cdv A outer s H vs Q E hr hs => ?_)
  · obtain ⟨F, ss, Q', hl, _, _, hw, _⟩ := hs
    rw [← hl]
    exact (VsOk.length hw).symm
  · obtain ⟨F, ss, Q', hl, hsame, htb, hw, hf, hq⟩ := hs
    refine ⟨_, (body cdv A outer s H E hr).run, ⟨H, F, [], [], []⟩, F, _, _, rep_start hsame htb (by rw [hl]; exact (fn_few Sc)) hw, h ss Q' hl hf, ?_, ?_, fun _ _ _ _ z => z.elim, fun _ _ _ _ z => z.elim, fun _ _ _ _ _ _ z => z.elim⟩
    · exact fun ρ' F' σ' H' q k R => hq _ F' H' .non q k R.sub (fun b o e => R.keep b o e (by simp) (by simp)) R.new R.tabs Dp.non
    · exact fun r ρ' F' σ' H' v q k R w => hq r F' H' v q k R.sub (fun b o e => R.keep b o e (by simp) (by simp)) R.new R.tabs w
theorem fn_dataN {x qual : Str} {st : Stmt} {fa : Addr} {fd : FuncData} {N ps : List Str} {k : Nat} {g : FS} {f : FnN} (Fk : Fun K x qual st fa fd) (Sc : FnScope N ps (defScope st))
    (body : ∀ (cdv : Value) (A : Around) (outer : List Env) (s : Shared) (H : Hp) (E : XK), Room k (A.deeper (envOfC qual (defScope st) s.heap.objs.size fa cdv)) → DSs (cxOf CX0 P w K mg base N qual (defScope st) fa cdv A outer s H E).nox (defBody st) g)
    (h : ∀ ss Q', ss.length = ps.length → f ss Q' → g { nx := fun _ => False, rt := fun _ _ => False, rn := fun o _ => Q' o } (slots0 N.length ss)) : FnOk P w K mg base CX0 (k + 1) fa fd ps (spN ⟨P, w, K, Tb.l mg⟩ ps.length f) := by
  refine Fk.ok Sc (fun vs H Q E hs => ?_) (fun cdv A outer s H vs Q E hr hs => ?_)
  · obtain ⟨F, ss, Q', hl, _, _, hw, _⟩ := hs
    rw [← hl]
    exact (VsOk.length hw).symm
  · obtain ⟨F, ss, Q', hl, hsame, htb, hw, hf, hq⟩ := hs
    refine ⟨_, (body cdv A outer s H E hr).run, ⟨H, F, [], [], []⟩, F, _, _, rep_start hsame htb (by rw [hl]; exact (fn_few Sc)) hw, h ss Q' hl hf, fun _ _ _ _ z => z.elim, fun _ _ _ _ _ _ z => z.elim, fun _ _ _ _ z => z.elim, fun _ _ _ _ z => z.elim, ?_⟩
    intro o ρ' F' σ' H' a q k R
    obtain ⟨R0, h1, h2, ⟨ho, h3, h4⟩, _⟩ := R.pop
    exact hq o F' H' a ho q k R.sub (fun b o e => R0.keep b o e (by simp) (by simp)) R0.new R0.tabs h1 h2 h3 h4
/-- what a lent thing is at the end -/
def lentEnd (Q' : S → Ow → Prop) (r : S) (ρ : List S) : Prop := match (ρ[0]? : Option S) with
  | some (S.pa o) => Q' r o
  | _ => False
theorem fn_dataO {x qual : Str} {st : Stmt} {fa : Addr} {fd : FuncData} {N ps : List Str} {k n : Nat} {g : FS} {f : FnO} (Fk : Fun K x qual st fa fd) (Sc : FnScope N ps (defScope st)) (hn : ps.length = n + 1)
    (body : ∀ (cdv : Value) (A : Around) (outer : List Env) (s : Shared) (H : Hp) (E : XK), Room k (A.deeper (envOfC qual (defScope st) s.heap.objs.size fa cdv)) → DSs (cxOf CX0 P w K mg base N qual (defScope st) fa cdv A outer s H E).nox (defBody st) g)
    (h : ∀ o ss Q', ss.length = n → f o ss Q' → g { nx := fun ρ => lentEnd Q' (.d .none) ρ, rt := fun r ρ => lentEnd Q' r ρ } (slots0 N.length (.pa o :: ss))) : FnOk P w K mg base CX0 (k + 1) fa fd ps (spO ⟨P, w, K, Tb.l mg⟩ n f) := by
  refine Fk.ok Sc (fun vs H Q E hs => ?_) (fun cdv A outer s H vs Q E hr hs => ?_)
  · obtain ⟨F, a, o, ho, ss, vs', Q', hl, rfl, _, _, _, _, _, hw, _⟩ := hs
    rw [List.length_cons, ← VsOk.length hw, hl, hn]
  · obtain ⟨F, a, o, ho, ss, vs', Q', hl, rfl, hsame, htb, hF, hH, hrep, hw, hf, hq⟩ := hs
    have fin : ∀ {r : S} {ρ' : List S} {F' H' : Hp} {σ' : L2.St} {v : V}, lentEnd Q' r ρ' → Same F F' → Rep ⟨P, w, K, Tb.l mg⟩ ⟨H, F, [a], [], []⟩ F' ρ' σ' H' → VOk ⟨P, w, K, Tb.l mg⟩ F' r v → Q v H' := fun {r ρ' F' H' σ' v} q k R w => by
      obtain ⟨hlt, o', ho'⟩ := R.par 0 a rfl
      unfold lentEnd at q
      rw [ho'] at q
      obtain ⟨b, hb, e1, e2, e3, e4, e5⟩ := R.slot 0 _ hlt ho'
      have eb : a = b := Option.some.inj e2
      subst eb
      exact hq r o' hb F' H' v q k R.sub (fun c u e ne => R.keep c u e (by simpa using ne) (by simp)) R.new R.tabs e3 e4 e5 w
    refine ⟨_, (body cdv A outer s H E hr).run, ⟨H, F, [a], [], []⟩, F, _, _, rep_startO hsame htb (by rw [hl, ← hn]; exact (fn_few Sc)) hF hH hrep hw, h o ss Q' hl hf, ?_, ?_, fun _ _ _ _ z => z.elim, fun _ _ _ _ z => z.elim, fun _ _ _ _ _ _ z => z.elim⟩
    · exact fun ρ' F' σ' H' q k R => fin (r := .d .none) q k R Dp.non
    · exact fun r ρ' F' σ' H' v q k R w => fin q k R w
end

/-! ### a call that lends the thing of slot i -/
def fCallO (i : Nat) (f : FnO) (g : FA) : FE := fun ρ Q => (ownAt ρ i).isSome = true ∧ g ρ fun ss ρ1 => match ownAt ρ1 i with
  | some o => f o ss fun r o' => Q r (ρ1.set i (owned ρ1 i o'))
  | none => False
theorem snd_callO {W : Wd} {n i : Nat} {f : FnO} {E : XK} {t : TA} {g : FA} (s : ASound W t g) (hn : ∀ o ss Q, f o ss Q → ss.length = n) : ESound W (tCall (spO W n f) [] E (tCons (tVar i) t)) (fCallO i f g) := by
  intro G F ρ σ H Q Q' R hf hq
  obtain ⟨h0, hf⟩ := hf
  obtain ⟨o, ho⟩ := Option.isSome_iff_exists.mp h0
  obtain ⟨a, _, ha, _⟩ := R.ownAt ho
  refine ⟨.ref a, ha, ?_⟩
  refine s G F ρ σ H _ _ R hf fun ss ρ1 F1 H1 vs q1 k1 R1 w1 => ?_
  show spO W n f ((.ref a :: vs) ++ []) H1 Q E
  rw [List.append_nil]
  split at q1
  · rename_i o1 e1
    obtain ⟨b, hb, e2, e3, e4, e5⟩ := R1.ownAt e1
    rw [ha] at e2
    cases e2
    refine ⟨F1, a, o1, hb, ss, vs, _, hn _ _ _ q1, rfl, R1.sub, R1.tabs, e3, e4, e5, w1, q1, fun r o' ho' F' H' v q k2 s2 h2 fr ht hF hH hr w => ?_⟩
    exact hq _ _ F' H' v q (k1.trans k2) (R1.calledO e1 ha k2 s2 h2 fr ht hF hH hr) w
  · exact q1.elim
section
variable {X : Cx} [Tb X.mg] {CX : CXT} {k n : Nat} {fa : Addr} {fd : FuncData} {ps : List Str} {fo : FnO} {x y : Str} {p py pos : Pos} {es : List Expr} {g : FA} {E : XK}
theorem de_callO (i : Nat) (Fk : FnOk X.prog X.w X.K X.mg X.base CX k fa fd ps (spO (wd X) n fo)) (hr : Room k X.A) (hm : X.mg x = some (.ref fa)) (hk : PySem.W.keepIn X.K (.ref fa) = true) (hb : Binds X.K fd ps []) (hx : Passes CX X E) (ha : DA X es g) (hn : ∀ o ss Q, fo o ss Q → ss.length = n)
    (hN : X.N[i]? = some y := by rfl) (hv : Vis X.env.scope y := by first | exact Or.inl rfl | exact Or.inr (Or.inl rfl) | exact Or.inr (Or.inr rfl)) (hd : (y == ("__debug__" : Str)) = false := by decide) (hcd : (y == ("__classdict__" : Str)) = false := by decide) (hg : Gl X x := by rfl)
    (hdb : (x == ("__debug__" : Str)) = false := by decide) (hs : starEach (.Name y py :: es) X.env = (false, eval (.Name y py) X.env) :: starEach es X.env := by rfl) (hpl : (backTo pos (starEach es X.env)).any (·.1) = false := by rfl) :
    DE X (.Call (.Name x p) (.Name y py :: es) [] pos) (fCallO i fo g) := by
  obtain ⟨t, p, s⟩ := ha.ex
  exact .of (pe_call Fk hr hg hm hk hb .nil hx (pa_cons (pv i hN hv hd hcd) p hs) hdb hs hpl) (snd_callO s hn)
end

/-! ### operators on data -/
section
variable {X : Cx} [Tb X.mg]
theorem osnd_val {W : Wd} {r : R2} {f : F2} (h : ∀ (F H : Hp) (a b : S) (x y : V) (Q : VK) (Q' : S → Prop), Same F H → VOk W F a x → VOk W F b y → f a b Q' → (∀ s v, Q' s → VOk W F s v → Q v H) → r x y H Q) : OSound W r f :=
  fun G F ρ σ H a b x y Q Q' R va vb hf hq => h F H a b x y Q Q' R.sub va vb hf fun s v q w => hq s F H v q (Same.refl _) R w
/-- two whole numbers -/
def f2I (C : Int → Int → Prop) (g : Int → Int → D) : F2 := fun a b Q => match a, b with
  | .d (.int i), .d (.int j) => C i j ∧ Q (.d (g i j))
  | _, _ => False
theorem osnd_int {W : Wd} {C : Int → Int → Prop} {g : Int → Int → V} {g' : Int → Int → D} (hg : ∀ F i j, Dp W.K F (g i j) (g' i j)) : OSound W (rI C g) (f2I C g') := osnd_val fun F H a b x y Q Q' s va vb hf hq => by
  unfold f2I at hf
  split at hf
  · cases va; cases vb
    exact ⟨_, _, rfl, rfl, hf.1, hq _ _ hf.2 (hg F _ _)⟩
  · exact hf.elim
theorem osnd_int0 {W : Wd} {g : Int → Int → V} {g' : Int → Int → D} (hg : ∀ F i j, Dp W.K F (g i j) (g' i j)) : OSound W (rI0 g) (f2I (fun _ _ => True) g') := osnd_val fun F H a b x y Q Q' s va vb hf hq => by
  unfold f2I at hf
  split at hf
  · cases va; cases vb
    exact ⟨_, _, rfl, rfl, hq _ _ hf.2 (hg F _ _)⟩
  · exact hf.elim
abbrev TT2 : Int → Int → Prop := fun _ _ => True
theorem b_sub : BOp X .Sub (f2I TT2 fun i j => .int (i - j)) := ⟨_, op_sub, osnd_int0 fun _ _ _ => .int _⟩
theorem b_fdiv : BOp X .FloorDiv (f2I CDiv fun i j => .int (i / j)) := ⟨_, op_fdiv, osnd_int fun _ _ _ => .int _⟩
theorem b_mod : BOp X .Mod (f2I (fun _ j => 0 < j) fun i j => .int (i % j)) := ⟨_, op_mod, osnd_int fun _ _ _ => .int _⟩
theorem b_pow : BOp X .Pow (f2I CPow fun i j => .int (i ^ j.toNat)) := ⟨_, op_pow, osnd_int fun _ _ _ => .int _⟩
theorem b_mulI : BOp X .Mult (f2I CMul fun i j => .int (i * j)) := ⟨_, op_mul, osnd_int fun _ _ _ => .int _⟩
theorem c_lt : COp X .Lt (f2I TT2 fun i j => .bool (decide (i < j))) := ⟨_, op_lt, osnd_int0 fun _ _ _ => .bl _⟩
theorem c_le : COp X .LtE (f2I TT2 fun i j => .bool (decide (i ≤ j))) := ⟨_, op_le, osnd_int0 fun _ _ _ => .bl _⟩
theorem c_gt : COp X .Gt (f2I TT2 fun i j => .bool (decide (j < i))) := ⟨_, op_gt, osnd_int0 fun _ _ _ => .bl _⟩
theorem c_ge : COp X .GtE (f2I TT2 fun i j => .bool (decide (j ≤ i))) := ⟨_, op_ge, osnd_int0 fun _ _ _ => .bl _⟩

/-- lists, tuples, texts, whole numbers put together -/
def rCatL (K : PySem.W.Frag) : R2 := fun x y H Q => ∃ l b xs zs, x = .ref l ∧ y = .ref b ∧ SqL K H l xs ∧ SqL K H b zs ∧ xs.length + zs.length ≤ sizeLine ∧ ∀ p, H p = none → Q (.ref p) (upd H p (.lst (xs ++ zs)))
theorem op_catL : OpR X (binaryOp .Add) (rCatL X.K) := by
  intro pins s σ H x y v u Q I rx ry h
  obtain ⟨l, b, xs, zs, rfl, rfl, hH, hB, hz, q⟩ := h
  cases rx
  cases ry
  obtain ⟨its, r, pl, z⟩ := I.list hH
  obtain ⟨its2, r2, pl2, z2⟩ := I.list hB
  have e1 := r.length
  have e2 := r2.length
  obtain ⟨⟨cls, dd, data, sl⟩, ho, hc, n, hd⟩ := id pl.isList
  obtain ⟨⟨cls2, dd2, data2, sl2⟩, ho2, hc2, n2, hd2⟩ := id pl2.isList
  simp only at hc hd hc2 hd2
  subst hc hd hc2 hd2
  refine concat_meets ⟨_, ho, rfl⟩ ⟨_, ho2, rfl⟩ noFill_list_add seq_list_add PySem.F.slot_list_add PySem.F.entry_list_add (PySem.F.args_list_add_2 _ _) (list_addW l b its.toArray its2.toArray n n2 dd dd2 sl sl2 (by simpa using (by omega : its.length + its2.length ≤ sizeLine))) ⟨ho, ho2, ?_⟩
  have e : its.toArray ++ its2.toArray = (its ++ its2).toArray := by simp
  rw [e]
  exact ⟨.ref _, _, I.lnew (t' := s.toks) (r.append r2) (by rw [List.length_append]; omega), rfl, q _ I.fresh⟩
def fAdd : F2 := fun a b Q => match a, b with
  | .d (.int i), .d (.int j) => Q (.d (.int (i + j)))
  | .d (.str x), .d (.str y) => x.length + y.length ≤ sizeLine ∧ Q (.d (.str (x ++ y)))
  | .d (.tuple x), .d (.tuple y) => x.length + y.length ≤ sizeLine ∧ Q (.d (.tuple (x ++ y)))
  | .d (.list x), .d (.list y) => x.length + y.length ≤ sizeLine ∧ Q (.d (.list (x ++ y)))
  | _, _ => False
theorem nil_of {K : PySem.W.Frag} {H : Hp} {vs : List V} {ds : List D} (h : DpAll K H vs ds) : vs = [] ↔ ds = [] := by
  cases h <;> simp
theorem b_add : BOp X .Add fAdd := by
  refine ⟨_, ((op_add.or op_add_str).or op_catA).or op_catL, fun G F ρ σ H a b x y Q Q' R va vb hf hq => ?_⟩
  unfold fAdd at hf
  split at hf
  · cases va; cases vb
    exact .inl (.inl (.inl ⟨_, _, rfl, rfl, hq _ F H _ hf (Same.refl _) R (Dp.int _)⟩))
  · cases va; cases vb
    exact .inl (.inl (.inr ⟨_, _, rfl, rfl, hf.1, hq _ F H _ hf.2 (Same.refl _) R (Dp.str _)⟩))
  · rename_i xs ys
    cases va with
    | tup s1 d1 => cases vb with
      | tup s2 d2 =>
        refine .inl (.inr ⟨_, _, _, _, rfl, rfl, SqT.mono R.sub s1, SqT.mono R.sub s2, by rw [DpAll.length d1, DpAll.length d2]; exact hf.1, fun e => ?_, fun e1 e2 => ?_, fun e1 e2 p hp => ?_⟩)
        · have e' := (nil_of d1).mp e
          subst e'
          exact hq _ F H _ hf.2 (Same.refl _) R (Dp.tup s2 d2)
        · have e' := (nil_of d2).mp e2
          subst e'
          rw [List.append_nil] at hf
          exact hq _ F H _ hf.2 (Same.refl _) R (Dp.tup s1 d1)
        · have hF := (R.nofree hp).1
          exact hq _ (upd F p _) _ _ hf.2 (same_upd hF) (R.alloc hp _) (Dp.tup (SqT.of upd_same) (DpAll.mono (same_upd hF) _ _ (DpAll.append d1 d2)))
  · rename_i xs ys
    cases va with
    | lst s1 d1 => cases vb with
      | lst s2 d2 =>
        refine .inr ⟨_, _, _, _, rfl, rfl, R.sub.seq s1, R.sub.seq s2, by rw [DpAll.length d1, DpAll.length d2]; exact hf.1, fun p hp => ?_⟩
        have hF := (R.nofree hp).1
        exact hq _ (upd F p _) _ _ hf.2 (same_upd hF) (R.alloc hp _) (Dp.lst (SqL.of upd_same) (DpAll.mono (same_upd hF) _ _ (DpAll.append d1 d2)))
  · exact hf.elim

/-! ### likeness -/
def fEq (neg : Bool) : F2 := fun a b Q => match a, b with
  | .d x, .d y => SeqAt.shaped x = true ∧ SeqAt.shaped y = true ∧ Q (.d (.bool (if neg then !PyData.eqv x y else PyData.eqv x y)))
  | _, _ => False
theorem c_eq (hu : X.A.units + 64 < cLine) : COp X .Eq (fEq false) := ⟨_, op_eqD hu, osnd_val fun F H a b x y Q Q' s va vb hf hq => by
  unfold fEq at hf
  split at hf
  · exact ⟨_, _, Dp.mono s _ _ va, Dp.mono s _ _ vb, hf.1, hf.2.1, hq _ _ hf.2.2 (Dp.bl _)⟩
  · exact hf.elim⟩
theorem c_ne (hu : X.A.units + 64 < cLine) : COp X .NotEq (fEq true) := ⟨_, op_neD hu, osnd_val fun F H a b x y Q Q' s va vb hf hq => by
  unfold fEq at hf
  split at hf
  · exact ⟨_, _, Dp.mono s _ _ va, Dp.mono s _ _ vb, hf.1, hf.2.1, hq _ _ hf.2.2 (Dp.bl _)⟩
  · exact hf.elim⟩
/-- is None, is not None -/
def isNone : D → Bool
  | .none => true
  | _ => false
def fIsN (neg : Bool) : F2 := fun a b Q => match a, b with
  | .d x, .d .none => Q (.d (.bool (if neg then !isNone x else isNone x)))
  | .fz _, .d .none => Q (.d (.bool neg))
  | _, _ => False
theorem isNone_ok {K : PySem.W.Frag} {F : Hp} {v : V} {x : D} (h : Dp K F v x) : decide (v = .non) = isNone x := by
  cases h <;> rfl
theorem c_is : COp X .Is (fIsN false) := ⟨_, op_isN, osnd_val fun F H a b x y Q Q' s va vb hf hq => by
  unfold fIsN at hf
  split at hf
  · cases vb
    refine ⟨rfl, hq _ _ hf ?_⟩
    rw [isNone_ok va]
    exact Dp.bl _
  · cases vb
    obtain ⟨a, ho, rfl, _⟩ := va
    exact ⟨rfl, hq _ _ hf (Dp.bl false)⟩
  · exact hf.elim⟩
theorem c_isnot : COp X .IsNot (fIsN true) := ⟨_, op_notN, osnd_val fun F H a b x y Q Q' s va vb hf hq => by
  unfold fIsN at hf
  split at hf
  · cases vb
    refine ⟨rfl, hq _ _ hf ?_⟩
    rw [isNone_ok va]
    exact Dp.bl _
  · cases vb
    obtain ⟨a, ho, rfl, _⟩ := va
    exact ⟨rfl, hq _ _ hf (Dp.bl true)⟩
  · exact hf.elim⟩
/-- in, not in: flat things of a list or a tuple -/
def flatD : D → Bool
  | .none => true
  | .bool _ => true
  | .int _ => true
  | .str _ => true
  | _ => false
theorem flat_ok {K : PySem.W.Frag} {F : Hp} {v : V} {x : D} (h : Dp K F v x) (f : flatD x = true) : flatV v = true := by
  cases h <;> first | rfl | cases f
theorem flats_ok {K : PySem.W.Frag} {F : Hp} : ∀ {vs : List V} {xs : List D}, DpAll K F vs xs → xs.all flatD = true → vs.all flatV = true
  | _, _, .nil, _ => rfl
  | _, _, .cons h t, f => by
    rw [List.all_cons, Bool.and_eq_true] at f ⊢
    exact ⟨flat_ok h f.1, flats_ok t f.2⟩
theorem eqV_eqv {K : PySem.W.Frag} {F : Hp} {v w : V} {x y : D} (h : Dp K F v x) (h' : Dp K F w y) (f : flatD x = true) (f' : flatD y = true) : eqV w v = PyData.eqv y x := by
  cases h <;> first | (cases f; done) | (cases h' <;> first | (cases f'; done) | (simp [eqV, PyData.eqv]; done) | (simp [eqV, PyData.eqv, eq_comm]; done) | rfl)
end
end Aq
/-! A5: places, slices, built-ins, methods of things of one's own. -/
namespace Aq
open PySem PySem.Spec PyProof.Rows L2

theorem cln {a b : Nat} (h : a = b) : a ≤ b := Nat.le_of_eq h
section
variable {X : Cx} [Tb X.mg]
theorem any_eqV {K : PySem.W.Frag} {F : Hp} {v : V} {x : D} (h : Dp K F v x) (f : flatD x = true) : ∀ {vs : List V} {xs : List D}, DpAll K F vs xs → xs.all flatD = true → inV v vs = xs.any fun y => PyData.eqv y x
  | _, _, .nil, _ => rfl
  | w :: vs, y :: xs, .cons h1 t, g => by
    rw [List.all_cons, Bool.and_eq_true] at g
    have ih := any_eqV h f t g.2
    have e := eqV_eqv h h1 f g.1
    show ((w :: vs).any fun z => eqV z v) = _
    rw [List.any_cons, List.any_cons, e]
    exact congrArg _ ih
def fIn (neg : Bool) : F2 := fun a b Q => match a, b with
  | .d x, .d (.list ys) => flatD x = true ∧ ys.all flatD = true ∧ Q (.d (.bool (if neg then !(ys.any fun y => PyData.eqv y x) else ys.any fun y => PyData.eqv y x)))
  | .d x, .d (.tuple ys) => flatD x = true ∧ ys.all flatD = true ∧ Q (.d (.bool (if neg then !(ys.any fun y => PyData.eqv y x) else ys.any fun y => PyData.eqv y x)))
  | _, _ => False
theorem osnd_in {W : Wd} {neg : Bool} : OSound W (rIn W.K neg) (fIn neg) := osnd_val fun F H a b x y Q Q' s va vb hf hq => by
  unfold fIn at hf
  split at hf
  · cases vb with
    | lst s1 d1 =>
      refine ⟨_, _, rfl, .inl (s.seq s1), flat_ok va hf.1, flats_ok d1 hf.2.1, hq _ _ hf.2.2 ?_⟩
      rw [any_eqV va hf.1 d1 hf.2.1]
      exact Dp.bl _
  · cases vb with
    | tup s1 d1 =>
      refine ⟨_, _, rfl, .inr (SqT.mono s s1), flat_ok va hf.1, flats_ok d1 hf.2.1, hq _ _ hf.2.2 ?_⟩
      rw [any_eqV va hf.1 d1 hf.2.1]
      exact Dp.bl _
  · exact hf.elim
theorem c_in : COp X .In (fIn false) := ⟨_, op_in_seq, osnd_in⟩
theorem c_notin : COp X .NotIn (fIn true) := ⟨_, op_notIn_seq, osnd_in⟩

/-! ### places and slices -/
theorem atI_ok {K : PySem.W.Frag} {F : Hp} {vs : List V} {ds : List D} {i : Int} {d : D} (h : DpAll K F vs ds) (e : atI ds i = some d) : ∃ v, atI vs i = some v ∧ Dp K F v d := by
  unfold atI at e ⊢
  rw [DpAll.length h]
  cases q : ixN ds.length i with
  | none => rw [q] at e; cases e
  | some j =>
    rw [q] at e
    exact DpAll.get h e
def fIx : F2 := fun a b Q => match a, b with
  | .d (.tuple ds), .d (.int i) => (match atI ds i with | some d => Q (.d d) | none => False)
  | .d (.list ds), .d (.int i) => (match atI ds i with | some d => Q (.d d) | none => False)
  | _, _ => False
theorem osnd_ix {W : Wd} : OSound W (rIx W.K) fIx := osnd_val fun F H a b x y Q Q' s va vb hf hq => by
  unfold fIx at hf
  split at hf
  · split at hf
    · rename_i d e
      cases vb
      cases va with
      | tup s1 d1 =>
        obtain ⟨v, e1, e2⟩ := atI_ok d1 e
        exact .inr (.inl ⟨_, _, _, v, rfl, rfl, SqT.mono s s1, e1, hq _ _ hf e2⟩)
    · exact hf.elim
  · split at hf
    · rename_i d e
      cases vb
      cases va with
      | lst s1 d1 =>
        obtain ⟨v, e1, e2⟩ := atI_ok d1 e
        exact .inl ⟨_, _, _, v, rfl, rfl, s.seq s1, e1, hq _ _ hf e2⟩
    · exact hf.elim
  · exact hf.elim
variable {a b : Expr} {fa fb : FE} {pos : Pos}
theorem de_ix (ha : DE X a fa) (hb : DE X b fb) (hs : PlainIx b := by exact fun _ _ => rfl) : DE X (.Subscript a b pos) (fOp fIx fa fb) := by
  obtain ⟨ta, pa, sa⟩ := ha.ex
  obtain ⟨tb, pb, sb⟩ := hb.ex
  exact .of (pe_ix ix_seq pa pb hs) (snd_op osnd_ix sa sb)
/-- a name of one's own, at a place -/
def fIxN (i : Nat) (fb : FE) : FE := fun ρ Q => (ownAt ρ i).isSome = true ∧ fb ρ fun y ρ1 => match ownAt ρ1 i, y with
  | some (.lst ds), .d (.int k) => (match atI ds k with | some d => Q (.d d) ρ1 | none => False)
  | _, _ => False
theorem de_ixN (i : Nat) {x : Str} {p : Pos} (hb : DE X b fb) (hN : X.N[i]? = some x := by rfl) (hv : Vis X.env.scope x := by first | exact Or.inl rfl | exact Or.inr (Or.inl rfl) | exact Or.inr (Or.inr rfl)) (hd : (x == ("__debug__" : Str)) = false := by decide)
    (hcd : (x == ("__classdict__" : Str)) = false := by decide) (hs : PlainIx b := by exact fun _ _ => rfl) : DE X (.Subscript (.Name x p) b pos) (fIxN i fb) := by
  obtain ⟨tb, pb, sb⟩ := hb.ex
  refine .of (pe_ix ix_list (pv i hN hv hd hcd) pb hs) fun G F ρ σ H Q Q' R hf hq => ?_
  obtain ⟨o, ho⟩ := Option.isSome_iff_exists.mp hf.1
  obtain ⟨ad, _, ha, _⟩ := R.ownAt ho
  refine ⟨.ref ad, ha, ?_⟩
  refine sb G F ρ σ H _ _ R hf.2 fun y ρ1 F1 H1 w q1 k1 R1 w1 => ?_
  split at q1
  · rename_i ds k e
    obtain ⟨a2, h2, e2, e3, e4, vs, rfl, e6⟩ := R1.ownAt e
    rw [ha] at e2; cases e2
    cases w1
    split at q1
    · rename_i d ed
      obtain ⟨v, z1, z2⟩ := atI_ok e6 ed
      exact ⟨_, _, _, v, rfl, rfl, SqL.of e4, z1, hq _ _ F1 H1 v q1 k1 R1 z2⟩
    · exact q1.elim
  · exact q1.elim

abbrev FO := List S → (Option Int → List S → Prop) → Prop
def PSound (W : Wd) (t : TO) (f : FO) : Prop :=
  ∀ (G : Fx) (F : Hp) (ρ : List S) (σ : L2.St) (H : Hp) (Q : Option Int → Hp → Prop) (Q' : Option Int → List S → Prop), Rep W G F ρ σ H → f ρ Q' →
    (∀ r ρ' F' H', Q' r ρ' → Same F F' → Rep W G F' ρ' σ H' → Q r H') → t σ H Q
def tO (W : Wd) (f : FO) : TO := fun σ H Q => ∃ G F ρ Q', Rep W G F ρ σ H ∧ f ρ Q' ∧ ∀ r ρ' F' H', Q' r ρ' → Same F F' → Rep W G F' ρ' σ H' → Q r H'
structure DO (X : Cx) [Tb X.mg] (e : Option Expr) (f : FO) : Prop where
  run : PO X e (tO (wd X) f)
theorem DO.of {e : Option Expr} {f : FO} {t : TO} (p : PO X e t) (s : PSound (wd X) t f) : DO X e f :=
  ⟨⟨fun pins st σ H Q I ⟨_, _, _, _, R, hf, hq⟩ => p.run pins st σ H Q I (s _ _ _ _ _ _ _ R hf hq)⟩⟩
def fNoPart : FO := fun ρ Q => Q none ρ
def fPart (f : FE) : FO := fun ρ Q => f ρ fun r ρ1 => match r with
  | .d (.int i) => Q (some i) ρ1
  | _ => False
theorem do_none : DO X none fNoPart := .of po_none fun G F ρ σ H Q Q' R hf hq => hq _ _ F H hf (Same.refl _) R
theorem do_some (h : DE X a fa) : DO X (some a) (fPart fa) := by
  obtain ⟨t, p, s⟩ := h.ex
  refine .of (po_some p) fun G F ρ σ H Q Q' R hf hq => ?_
  refine s G F ρ σ H _ _ R hf fun r ρ1 F1 H1 w q1 k1 R1 w1 => ?_
  split at q1
  · cases w1
    exact ⟨_, rfl, hq _ _ F1 H1 q1 k1 R1⟩
  · exact q1.elim
def cut {α : Type} (xs : List α) (lo hi : Option Int) : List α := (xs.drop (HT.sIx xs.length 0 lo)).take (HT.sIx xs.length xs.length hi - HT.sIx xs.length 0 lo)
theorem cut_ok {K : PySem.W.Frag} {F : Hp} {vs : List V} {ds : List D} (h : DpAll K F vs ds) (lo hi : Option Int) : DpAll K F (cutV vs lo hi) (cut ds lo hi) := by
  unfold cutV cut
  rw [DpAll.length h]
  exact DpAll.take _ (DpAll.drop _ h)
theorem cut_whole {α : Type} {xs : List α} {lo hi : Option Int} (h : HT.sIx xs.length 0 lo = 0 ∧ HT.sIx xs.length xs.length hi = xs.length) : cut xs lo hi = xs := by
  unfold cut
  rw [h.1, h.2]
  simp
def fSl (f : FE) (fl fh : FO) : FE := fun ρ Q => f ρ fun r ρ1 => fl ρ1 fun lo ρ2 => fh ρ2 fun hi ρ3 => match r with
  | .d (.list ds) => Q (.d (.list (cut ds lo hi))) ρ3
  | .d (.tuple ds) => Q (.d (.tuple (cut ds lo hi))) ρ3
  | .d (.str z) => z.length ≤ sizeLine ∧ Q (.d (.str (cutS z lo hi))) ρ3
  | _ => False
theorem de_slice {lo hi : Option Expr} {fl fh : FO} {p2 : Pos} (he : DE X a fa) (hl : DO X lo fl) (hh : DO X hi fh) : DE X (.Subscript a (.Slice lo hi none p2) pos) (fSl fa fl fh) := by
  obtain ⟨t, p, s⟩ := he.ex
  refine .of (pe_slice ((sl_list.or sl_tupA).or sl_str) p hl.run hh.run) fun G F ρ σ H Q Q' R hf hq => ?_
  refine s G F ρ σ H _ _ R hf fun r ρ1 F1 H1 w q1 k1 R1 w1 => ?_
  refine ⟨G, F1, ρ1, _, R1, q1, fun lo' ρ2 F2 H2 q2 k2 R2 => ?_⟩
  refine ⟨G, F2, ρ2, _, R2, q2, fun hi' ρ3 F3 H3 q3 k3 R3 => ?_⟩
  have kk := (k1.trans k2).trans k3
  have w3 := VOk.mono (k2.trans k3) w1
  split at q3
  · cases w3 with
    | lst s1 d1 =>
      refine .inl (.inl ⟨_, _, rfl, R3.sub.seq s1, fun p hp => ?_⟩)
      have hF := (R3.nofree hp).1
      exact hq _ _ (upd F3 p _) _ _ q3 (kk.trans (same_upd hF)) (R3.alloc hp _) (Dp.lst (SqL.of upd_same) (DpAll.mono (same_upd hF) _ _ (cut_ok d1 _ _)))
  · rename_i ds
    cases w3 with
    | tup s1 d1 =>
      refine .inl (.inr ⟨_, _, rfl, SqT.mono R3.sub s1, fun e => ?_, fun e p hp => ?_⟩)
      · rw [DpAll.length d1] at e
        rw [cut_whole e] at q3
        exact hq _ _ F3 H3 _ q3 kk R3 (Dp.tup s1 d1)
      · have hF := (R3.nofree hp).1
        exact hq _ _ (upd F3 p _) _ _ q3 (kk.trans (same_upd hF)) (R3.alloc hp _) (Dp.tup (SqT.of upd_same) (DpAll.mono (same_upd hF) _ _ (cut_ok d1 _ _)))
  · cases w3
    exact .inr ⟨_, rfl, q3.1, hq _ _ F3 H3 _ q3.2 kk R3 (Dp.str _)⟩
  · exact q3.elim
def fNeg (f : FE) : FE := fun ρ Q => f ρ fun r ρ1 => match r with
  | .d (.int i) => Q (.d (.int (-i))) ρ1
  | _ => False
theorem de_neg (h : DE X a fa) : DE X (.UnaryOp .USub a pos) (fNeg fa) := by
  obtain ⟨t, p, s⟩ := h.ex
  refine .of (pe_un un_neg p) fun G F ρ σ H Q Q' R hf hq => ?_
  refine s G F ρ σ H _ _ R hf fun r ρ1 F1 H1 w q1 k1 R1 w1 => ?_
  split at q1
  · cases w1
    exact ⟨_, rfl, hq _ _ F1 H1 _ q1 k1 R1 (Dp.int _)⟩
  · exact q1.elim

/-! ### built-ins -/
def CSound (W : Wd) (r : List V → Hp → VK → Prop) (f : Fn) : Prop :=
  ∀ (G : Fx) (F : Hp) (ρ : List S) (σ : L2.St) (H : Hp) (ss : List S) (vs : List V) (Q : VK) (Q' : S → Prop), Rep W G F ρ σ H → VsOk W F ss vs → f ss Q' →
    (∀ s F' H' v, Q' s → Same F F' → Rep W G F' ρ σ H' → VOk W F' s v → Q v H') → r vs H Q
theorem csnd_val {W : Wd} {r : List V → Hp → VK → Prop} {f : Fn} (h : ∀ (F H : Hp) (ss : List S) (vs : List V) (Q : VK) (Q' : S → Prop), Same F H → VsOk W F ss vs → f ss Q' → (∀ s v, Q' s → VOk W F s v → Q v H) → r vs H Q) : CSound W r f :=
  fun G F ρ σ H ss vs Q Q' R w hf hq => h F H ss vs Q Q' R.sub w hf fun s v q z => hq s F H v q (Same.refl _) R z
theorem snd_cb {W : Wd} {r : List V → Hp → VK → Prop} {f : Fn} {t : TA} {g : FA} (h : CSound W r f) (s : ASound W t g) : ESound W (tCB r t) (fCall f g) := by
  intro G F ρ σ H Q Q' R hf hq
  refine s G F ρ σ H _ _ R hf fun ss ρ1 F1 H1 vs q1 k1 R1 w1 => ?_
  exact h G F1 ρ1 σ H1 ss vs _ _ R1 w1 q1 fun r F' H' v q k2 R2 w => hq _ _ F' H' v q (k1.trans k2) R2 w
structure BFn (X : Cx) [Tb X.mg] (u : Value) (f : Fn) : Prop where
  ex : ∃ r, CallR X u r ∧ CSound (wd X) r f
variable {x id T : Str} {e : Expr} {es : List Expr} {g : FA} {f : Fn} {p : Pos}
theorem de_bi {id : String} (h : BFn X (.builtin id) f) (hm : X.mg x = none) (hv : bootBuiltins x = some (.builtin id)) (ha : DA X (e :: es) g) (hg : Gl X x := by rfl) (hn : x ≠ "__name__" := by decide) (hdb : (x == ("__debug__" : Str)) = false := by decide)
    (he : starEach (e :: es) X.env = (false, eval e X.env) :: starEach es X.env := by rfl) (hpl : (backTo pos (starEach es X.env)).any (·.1) = false := by rfl) : DE X (.Call (.Name x p) (e :: es) [] pos) (fCall f g) := by
  obtain ⟨r, c, s⟩ := h.ex
  obtain ⟨t, q, sa⟩ := ha.ex
  exact .of (pe_callB c hg hm hv q hn hdb he hpl) (snd_cb s sa)
theorem de_ty {T : String} (h : BFn X (.type T) f) (hm : X.mg x = none) (hv : bootBuiltins x = some (.type T)) (ha : DA X (e :: es) g) (hg : Gl X x := by rfl) (hn : x ≠ "__name__" := by decide) (hdb : (x == ("__debug__" : Str)) = false := by decide)
    (he : starEach (e :: es) X.env = (false, eval e X.env) :: starEach es X.env := by rfl) (hpl : (backTo pos (starEach es X.env)).any (·.1) = false := by rfl) : DE X (.Call (.Name x p) (e :: es) [] pos) (fCall f g) := by
  obtain ⟨r, c, s⟩ := h.ex
  obtain ⟨t, q, sa⟩ := ha.ex
  exact .of (pe_callTy c hg hm hv q hn hdb he hpl) (snd_cb s sa)
/-- a built-in type as a value -/
theorem de_tyv {T : String} (hm : X.mg x = none) (hv : bootBuiltins x = some (.type T)) (hg : Gl X x := by rfl) (hn : x ≠ "__name__" := by decide) (hdb : (x == ("__debug__" : Str)) = false := by decide) : DE X (.Name x pos) (fRaw (.raw (.ty T))) :=
  .of (pe_bltn (v := .ty T) hg hm hv rfl hn hdb) fun _ F _ _ H _ _ R hf hq => hq _ _ F H _ hf (Same.refl _) R rfl

def fLen : Fn := fun ss Q => match ss with
  | [.d (.list ds)] => Q (.d (.int ds.length))
  | [.d (.tuple ds)] => Q (.d (.int ds.length))
  | [.d (.str z)] => z.length ≤ sizeLine ∧ Q (.d (.int z.length))
  | _ => False
theorem b_len : BFn X (.builtin "len") fLen := ⟨_, call_len, csnd_val fun F H ss vs Q Q' s w hf hq => by
  unfold fLen at hf
  split at hf
  · obtain ⟨v, rfl, w1⟩ := one_of w
    cases w1 with
    | lst s1 d1 => exact ⟨_, _, rfl, .inl ⟨_, s.seq s1, rfl⟩, hq _ _ hf (by rw [DpAll.length d1]; exact Dp.int _)⟩
  · obtain ⟨v, rfl, w1⟩ := one_of w
    cases w1 with
    | tup s1 d1 => exact ⟨_, _, rfl, .inr ⟨_, SqT.mono s s1, rfl⟩, hq _ _ hf (by rw [DpAll.length d1]; exact Dp.int _)⟩
  · obtain ⟨v, rfl, w1⟩ := one_of w
    cases w1
    exact ⟨_, _, rfl, ⟨hf.1, rfl⟩, hq _ _ hf.2 (Dp.int _)⟩
  · exact hf.elim⟩
/-- len of a list of one's own -/
def fLenN (i : Nat) : FE := fun ρ Q => match ownAt ρ i with
  | some (.lst ds) => Q (.d (.int ds.length)) ρ
  | _ => False
theorem de_lenN (i : Nat) {y : Str} {q : Pos} (hm : X.mg x = none) (hx : x = "len" := by rfl) (hN : X.N[i]? = some y := by rfl) (hvi : Vis X.env.scope y := by first | exact Or.inl rfl | exact Or.inr (Or.inl rfl) | exact Or.inr (Or.inr rfl)) (hd : (y == ("__debug__" : Str)) = false := by decide)
    (hcd : (y == ("__classdict__" : Str)) = false := by decide) (hg : Gl X x := by rfl) (he : starEach (.Name y q :: []) X.env = (false, eval (.Name y q) X.env) :: starEach [] X.env := by rfl) (hpl : (backTo pos (starEach [] X.env)).any (·.1) = false := by rfl) : DE X (.Call (.Name x p) [.Name y q] [] pos) (fLenN i) := by
  subst hx
  refine .of (pe_callB call_len hg hm boot_len (pa_cons (pv i hN hvi hd hcd) pa_nil he) (by decide) (by decide) he hpl) fun G F ρ σ H Q Q' R hf hq => ?_
  unfold fLenN at hf
  split at hf
  · rename_i ds ho
    obtain ⟨ad, h2, ha, e3, e4, vs, rfl, e6⟩ := R.ownAt ho
    exact ⟨.ref ad, ha, _, _, rfl, .inl ⟨_, SqL.of e4, rfl⟩, hq _ _ F H _ hf (Same.refl _) R (by rw [DpAll.length e6]; exact Dp.int _)⟩
  · exact hf.elim
/-- what kind a datum is -/
def tyD : D → String
  | .none => "NoneType"
  | .bool _ => "bool"
  | .int _ => "int"
  | .str _ => "str"
  | .list _ => "list"
  | .tuple _ => "tuple"
  | .dict _ => "dict"
theorem tyD_ok {K : PySem.W.Frag} {F H : Hp} {v : V} {d : D} (s : Same F H) (h : Dp K F v d) : TyX K H v (.type (tyD d)) := by
  cases h with
  | non => exact .base .non
  | bl b => exact .base (.bl b)
  | int i => exact .base (.int i)
  | str z => exact .base (.str z)
  | lst hs _ =>
    rcases hs with (h | ⟨o, h⟩) | ⟨o, its, n, hk, hc, _⟩
    · exact .base (.lst (s _ _ h))
    · exact .base (.frz (s _ _ h))
    · exact .kList hk hc
  | tup hs _ =>
    rcases hs with (h | ⟨o, h⟩) | ⟨o, its, n, hk, hc, _⟩
    · exact .base (.tup (s _ _ h))
    · exact .fTuple (s _ _ h)
    · exact .kTuple hk hc
/-- is a datum of the type -/
def isTy : D → String → Bool
  | .none, _ => false
  | .bool _, T => T == "bool" || T == "int"
  | .int _, T => T == "int"
  | .str _, T => T == "str"
  | .list _, T => T == "list"
  | .tuple _, T => T == "tuple"
  | .dict _, T => T == "dict"
def okTy (T : String) : Bool := T == "bool" || T == "int" || T == "str" || T == "list" || T == "tuple"
theorem okTy_cases {T : String} (h : okTy T = true) : T = "bool" ∨ T = "int" ∨ T = "str" ∨ T = "list" ∨ T = "tuple" := by
  unfold okTy at h
  simp only [Bool.or_eq_true, beq_iff_eq] at h
  rcases h with (((h | h) | h) | h) | h <;> simp [h]
theorem isTy_kit {d : D} {T : String} (h : okTy T = true) (hd : ∀ x, d ≠ .dict x) : kitB (tyD d) T = some (isTy d T) := by
  rcases okTy_cases h with rfl | rfl | rfl | rfl | rfl <;> cases d <;> first | (exact absurd rfl (hd _)) | (simp only [tyD, isTy]; decide +kernel)
theorem Dp.nodict {K : PySem.W.Frag} {F : Hp} {v : V} {d : D} (h : Dp K F v d) : ∀ x, d ≠ .dict x := fun x e => by subst e; cases h
def fIsi : Fn := fun ss Q => match ss with
  | [.d x, .raw (.ty T)] => okTy T = true ∧ Q (.d (.bool (isTy x T)))
  | _ => False
theorem b_isi : BFn X (.builtin "isinstance") fIsi := ⟨_, call_isi, csnd_val fun F H ss vs Q Q' s w hf hq => by
  unfold fIsi at hf
  split at hf
  · rename_i d T
    obtain ⟨v1, v2, rfl, w1, w2⟩ := pair_of rfl w
    have e : v2 = .ty T := w2
    subst e
    exact ⟨_, _, _, _, _, rfl, .ty T, tyD_ok s w1, kit_ty (isTy_kit hf.1 (Dp.nodict w1)), hq _ _ hf.2 (Dp.bl _)⟩
  · exact hf.elim⟩
/-- isinstance(e, (T, U)) -/
def fIsi2 (T U : String) (f : FE) : FE := fun ρ Q => f ρ fun r ρ1 => match r with
  | .d x => Q (.d (.bool (isTy x T || isTy x U))) ρ1
  | _ => False
theorem de_isi2 {T U : String} {y z : Str} {k : Nat} {py pz pt : Pos} (ha : DE X a fa) (hx : X.mg x = none) (hy : X.mg y = none) (hz : X.mg z = none) (hvy : bootBuiltins y = some (.type T)) (hvz : bootBuiltins z = some (.type U)) (hv : bootBuiltins x = some (.builtin "isinstance")) (hT : okTy T = true := by decide) (hU : okTy U = true := by decide)
    (hgx : Gl X x := by rfl) (hgy : Gl X y := by rfl) (hgz : Gl X z := by rfl) (hnx : x ≠ "__name__" := by decide) (hdx : (x == ("__debug__" : Str)) = false := by decide) (hny : y ≠ "__name__" := by decide) (hdy : (y == ("__debug__" : Str)) = false := by decide) (hnz : z ≠ "__name__" := by decide) (hdz : (z == ("__debug__" : Str)) = false := by decide)
    (he : starEach (a :: [.Tuple [.Name y py, .Name z pz] k pt]) X.env = (false, eval a X.env) :: starEach [.Tuple [.Name y py, .Name z pz] k pt] X.env := by rfl) (hpl : (backTo pos (starEach [.Tuple [.Name y py, .Name z pz] k pt] X.env)).any (·.1) = false := by rfl) :
    DE X (.Call (.Name x p) [a, .Tuple [.Name y py, .Name z pz] k pt] [] pos) (fIsi2 T U fa) := by
  obtain ⟨t, q, s⟩ := ha.ex
  refine .of (pe_callB call_isiT hgx hx hv (pa_cons q (pa_cons (pe_tup (pa_cons (pe_bltn (v := .ty T) hgy hy hvy rfl hny hdy) (pa_cons (pe_bltn (v := .ty U) hgz hz hvz rfl hnz hdz) pa_nil))) pa_nil) he) hnx hdx he hpl) fun G F ρ σ H Q Q' R hf hq => ?_
  refine s G F ρ σ H _ _ R hf fun r ρ1 F1 H1 w q1 k1 R1 w1 => ?_
  split at q1
  · rename_i d
    refine ⟨by show 2 ≤ sizeLine; decide, fun p hp => ?_⟩
    have hF := (R1.nofree hp).1
    have R2 := R1.alloc hp (.tup [.ty T, .ty U])
    have w2 : VOk (wd X) (upd F1 p (.tup [.ty T, .ty U])) (.d d) w := VOk.mono (same_upd hF) w1
    have nd := Dp.nodict w1
    refine ⟨w, p, [.ty T, .ty U], .type (tyD d), [.type T, .type U], isTy d T || isTy d U, rfl, upd_same, .cons (.ty T) (.cons (.ty U) .nil), tyD_ok R2.sub w2, ?_, ?_⟩
    · refine kitAny_cons (kit_ty (isTy_kit hT nd)) (fun e => kitAny_cons (kit_ty (isTy_kit hU nd)) (fun e2 => ?_) fun e2 => ?_) fun e => ?_
      · rw [e, e2]; exact kitAny_nil
      · rw [e, e2]; rfl
      · rw [e]; rfl
    · exact hq _ _ _ _ _ q1 (k1.trans (same_upd hF)) R2 (Dp.bl _)
  · exact q1.elim
def fAbs : Fn := fun ss Q => match ss with
  | [.d (.int i)] => Q (.d (.int (if i < 0 then -i else i)))
  | _ => False
theorem b_abs : BFn X (.builtin "abs") fAbs := ⟨_, call_abs, csnd_val fun F H ss vs Q Q' s w hf hq => by
  unfold fAbs at hf
  split at hf
  · obtain ⟨v, rfl, w1⟩ := one_of w
    cases w1
    exact ⟨_, rfl, hq _ _ hf (Dp.int _)⟩
  · exact hf.elim⟩
def fInt : Fn := fun ss Q => match ss with
  | [.d (.int i)] => Q (.d (.int i))
  | [.d (.bool b)] => Q (.d (.int (if b then 1 else 0)))
  | _ => False
theorem b_int : BFn X (.type "int") fInt := ⟨_, call_int1, csnd_val fun F H ss vs Q Q' s w hf hq => by
  unfold fInt at hf
  split at hf
  · obtain ⟨v, rfl, w1⟩ := one_of w
    cases w1
    exact .inl ⟨_, rfl, hq _ _ hf (Dp.int _)⟩
  · obtain ⟨v, rfl, w1⟩ := one_of w
    cases w1
    exact .inr ⟨_, rfl, hq _ _ hf (Dp.int _)⟩
  · exact hf.elim⟩
def fMax2 : Fn := fun ss Q => match ss with
  | [.d (.int i), .d (.int j)] => Q (.d (.int (if j > i then j else i)))
  | _ => False
def fMin2 : Fn := fun ss Q => match ss with
  | [.d (.int i), .d (.int j)] => Q (.d (.int (if j < i then j else i)))
  | _ => False
theorem b_max2 (hc : X.calm = true) : BFn X (.builtin "max") fMax2 := ⟨_, call_max2 hc, csnd_val fun F H ss vs Q Q' s w hf hq => by
  unfold fMax2 at hf
  split at hf
  · obtain ⟨v1, v2, rfl, w1, w2⟩ := pair_of rfl w
    cases w1; cases w2
    exact ⟨_, _, rfl, hq _ _ hf (Dp.int _)⟩
  · exact hf.elim⟩
theorem b_min2 (hc : X.calm = true) : BFn X (.builtin "min") fMin2 := ⟨_, call_min2 hc, csnd_val fun F H ss vs Q Q' s w hf hq => by
  unfold fMin2 at hf
  split at hf
  · obtain ⟨v1, v2, rfl, w1, w2⟩ := pair_of rfl w
    cases w1; cases w2
    exact ⟨_, _, rfl, hq _ _ hf (Dp.int _)⟩
  · exact hf.elim⟩
/-- tuple(..) -/
def fTupOf : Fn := fun ss Q => match ss with
  | [.d (.list ds)] => Q (.d (.tuple ds))
  | [.d (.tuple ds)] => Q (.d (.tuple ds))
  | _ => False
theorem b_tuple : BFn X (.type "tuple") fTupOf := ⟨_, call_tuple_of, fun G F ρ σ H ss vs Q Q' R w hf hq => by
  unfold fTupOf at hf
  split at hf
  · obtain ⟨v, rfl, w1⟩ := one_of w
    cases w1 with
    | lst s1 d1 =>
      refine ⟨_, _, rfl, .inl ⟨R.sub.seq s1, fun p hp => ?_⟩⟩
      have hF := (R.nofree hp).1
      exact hq _ (upd F p _) _ _ hf (same_upd hF) (R.alloc hp _) (Dp.tup (SqT.of upd_same) (DpAll.mono (same_upd hF) _ _ d1))
  · obtain ⟨v, rfl, w1⟩ := one_of w
    cases w1 with
    | tup s1 d1 => exact ⟨_, _, rfl, .inr ⟨SqT.mono R.sub s1, hq _ F H _ hf (Same.refl _) R (Dp.tup s1 d1)⟩⟩
  · exact hf.elim⟩
/-- list(..): a new one -/
def CNSound (W : Wd) (r : List V → Hp → VK → Prop) (f : FnN) : Prop :=
  ∀ (G : Fx) (F : Hp) (ρ : List S) (σ : L2.St) (H : Hp) (ss : List S) (vs : List V) (Q : VK) (Q' : Ow → Prop), Rep W G F ρ σ H → VsOk W F ss vs → f ss Q' →
    (∀ o a H', Q' o → Rep W (G.push a o) F ρ σ H' → Q (.ref a) H') → r vs H Q
structure BFnN (X : Cx) [Tb X.mg] (u : Value) (f : FnN) : Prop where
  ex : ∃ r, CallR X u r ∧ CNSound (wd X) r f
theorem snd_cbN {W : Wd} {r : List V → Hp → VK → Prop} {f : FnN} {t : TA} {g : FA} (h : CNSound W r f) (s : ASound W t g) : NSound W (tCB r t) (fCallN f g) := by
  intro G F ρ σ H Q Q' R hf hq
  refine s G F ρ σ H _ _ R hf fun ss ρ1 F1 H1 vs q1 k1 R1 w1 => ?_
  exact h G F1 ρ1 σ H1 ss vs _ _ R1 w1 q1 fun o a H' q R2 => hq _ _ F1 H' a q k1 R2
theorem dn_bi {id : String} {f : FnN} (h : BFnN X (.builtin id) f) (hm : X.mg x = none) (hv : bootBuiltins x = some (.builtin id)) (ha : DA X (e :: es) g) (hg : Gl X x := by rfl) (hn : x ≠ "__name__" := by decide) (hdb : (x == ("__debug__" : Str)) = false := by decide)
    (he : starEach (e :: es) X.env = (false, eval e X.env) :: starEach es X.env := by rfl) (hpl : (backTo pos (starEach es X.env)).any (·.1) = false := by rfl) : DN X (.Call (.Name x p) (e :: es) [] pos) (fCallN f g) := by
  obtain ⟨r, c, s⟩ := h.ex
  obtain ⟨t, q, sa⟩ := ha.ex
  exact .of (pe_callB c hg hm hv q hn hdb he hpl) (snd_cbN s sa)
theorem dn_ty {T : String} {f : FnN} (h : BFnN X (.type T) f) (hm : X.mg x = none) (hv : bootBuiltins x = some (.type T)) (ha : DA X (e :: es) g) (hg : Gl X x := by rfl) (hn : x ≠ "__name__" := by decide) (hdb : (x == ("__debug__" : Str)) = false := by decide)
    (he : starEach (e :: es) X.env = (false, eval e X.env) :: starEach es X.env := by rfl) (hpl : (backTo pos (starEach es X.env)).any (·.1) = false := by rfl) : DN X (.Call (.Name x p) (e :: es) [] pos) (fCallN f g) := by
  obtain ⟨r, c, s⟩ := h.ex
  obtain ⟨t, q, sa⟩ := ha.ex
  exact .of (pe_callTy c hg hm hv q hn hdb he hpl) (snd_cbN s sa)
def fListOf : FnN := fun ss Q => match ss with
  | [.d (.list ds)] => Q (.lst ds)
  | [.d (.tuple ds)] => Q (.lst ds)
  | _ => False
theorem b_list : BFnN X (.type "list") fListOf := ⟨_, call_list_of, fun G F ρ σ H ss vs Q Q' R w hf hq => by
  unfold fListOf at hf
  split at hf
  · obtain ⟨v, rfl, w1⟩ := one_of w
    cases w1 with
    | lst s1 d1 => exact ⟨_, _, rfl, .inl (R.sub.seq s1), fun p hp => hq _ p _ hf (R.push hp ⟨_, rfl, d1⟩)⟩
  · obtain ⟨v, rfl, w1⟩ := one_of w
    cases w1 with
    | tup s1 d1 => exact ⟨_, _, rfl, .inr (SqT.mono R.sub s1), fun p hp => hq _ p _ hf (R.push hp ⟨_, rfl, d1⟩)⟩
  · exact hf.elim⟩
/-- the ints of a list -/
def intsD : List D → Option (List Int)
  | [] => some []
  | .int i :: r => (intsD r).map (i :: ·)
  | _ :: _ => none
theorem intsD_ok {K : PySem.W.Frag} {F : Hp} : ∀ {vs : List V} {ds : List D} {ns : List Int}, DpAll K F vs ds → intsD ds = some ns → vs = ns.map V.int
  | _, [], ns, .nil, h => by cases h; rfl
  | _, .int i :: r, ns, .cons h1 h2, h => by
    simp only [intsD] at h
    obtain ⟨ns', e, rfl⟩ := Option.map_eq_some_iff.mp h
    cases h1
    rw [List.map_cons, intsD_ok h2 e]
  | _, .none :: _, _, _, h => by cases h
  | _, .bool _ :: _, _, _, h => by cases h
  | _, .str _ :: _, _, _, h => by cases h
  | _, .list _ :: _, _, _, h => by cases h
  | _, .tuple _ :: _, _, _, h => by cases h
  | _, .dict _ :: _, _, _, h => by cases h
theorem ints_ok {K : PySem.W.Frag} {F : Hp} : ∀ ns : List Int, DpAll K F (ns.map V.int) (ns.map PyData.int)
  | [] => .nil
  | n :: ns => .cons (.int n) (ints_ok ns)
theorem intsD_map : ∀ ns : List Int, intsD (ns.map PyData.int) = some ns
  | [] => rfl
  | n :: ns => by simp [intsD, intsD_map ns]
def ins (x : Int) : List Int → List Int
  | [] => [x]
  | y :: ys => if x ≤ y then x :: y :: ys else y :: ins x ys
def isort : List Int → List Int
  | [] => []
  | x :: xs => ins x (isort xs)
theorem ins_perm (x : Int) : ∀ ys : List Int, (ins x ys).Perm (x :: ys)
  | [] => .refl _
  | y :: ys => by
    unfold ins
    split
    · exact .refl _
    · exact ((ins_perm x ys).cons y).trans (.swap x y ys)
theorem isort_perm : ∀ xs : List Int, (isort xs).Perm xs
  | [] => .refl _
  | x :: xs => (ins_perm x _).trans ((isort_perm xs).cons x)
theorem ins_sorted (x : Int) : ∀ ys : List Int, ys.Pairwise (· ≤ ·) → (ins x ys).Pairwise (· ≤ ·)
  | [], _ => List.pairwise_singleton _ _
  | y :: ys, h => by
    obtain ⟨h1, h2⟩ := List.pairwise_cons.mp h
    unfold ins
    split
    · rename_i hxy
      refine List.pairwise_cons.mpr ⟨fun z hz => ?_, h⟩
      rcases List.mem_cons.mp hz with rfl | hz
      · exact hxy
      · exact Int.le_trans hxy (h1 z hz)
    · rename_i hxy
      refine List.pairwise_cons.mpr ⟨fun z hz => ?_, ins_sorted x ys h2⟩
      rcases List.mem_cons.mp ((ins_perm x ys).mem_iff.mp hz) with rfl | hz
      · omega
      · exact h1 z hz
theorem isort_sorted : ∀ xs : List Int, (isort xs).Pairwise (· ≤ ·)
  | [] => .nil
  | x :: xs => ins_sorted x _ (isort_sorted xs)
theorem sorted_unique : ∀ {xs ys : List Int}, xs.Perm ys → xs.Pairwise (· ≤ ·) → ys.Pairwise (· ≤ ·) → xs = ys
  | [], ys, p, _, _ => (List.nil_perm.mp p).symm
  | x :: xs, [], p, _, _ => absurd p (by intro z; have := z.length_eq; simp at this)
  | x :: xs, y :: ys, p, h1, h2 => by
    obtain ⟨a1, a2⟩ := List.pairwise_cons.mp h1
    obtain ⟨b1, b2⟩ := List.pairwise_cons.mp h2
    have hx : x ∈ y :: ys := p.mem_iff.mp List.mem_cons_self
    have hy : y ∈ x :: xs := p.mem_iff.mpr List.mem_cons_self
    have e : x = y := by
      rcases List.mem_cons.mp hx with e | hx
      · exact e
      · rcases List.mem_cons.mp hy with e | hy
        · exact e.symm
        · exact Int.le_antisymm (a1 y hy) (b1 x hx)
    subst e
    rw [sorted_unique p.cons_inv a2 b2]
def fSorted : FnN := fun ss Q => match ss with
  | [.d (.list ds)] => (match intsD ds with
    | some ns => Q (.lst ((isort ns).map PyData.int))
    | none => False)
  | _ => False
theorem b_sorted : BFnN X (.builtin "sorted") fSorted := ⟨_, cr_sortedI, fun G F ρ σ H ss vs Q Q' R w hf hq => by
  unfold fSorted at hf
  split at hf
  · obtain ⟨v, rfl, w1⟩ := one_of w
    split at hf
    · rename_i ns e
      cases w1 with
      | lst s1 d1 =>
        have e1 := intsD_ok d1 e
        subst e1
        refine ⟨_, ns, rfl, R.sub.seq s1, fun ns' p hp hs hpn => ?_⟩
        have e2 : ns' = isort ns := sorted_unique (hp.trans (isort_perm ns).symm) hs (isort_sorted ns)
        subst e2
        exact hq _ p _ hf (R.push hpn ⟨_, rfl, ints_ok _⟩)
    · exact hf.elim
  · exact hf.elim⟩
/-- list(range(..)) -/
def fLstR (g : FA) : FN := fun ρ Q => g ρ fun rs ρ1 => match rs with
  | [.d (.int n)] => RgOk 0 n ∧ Q (.lst (upto 0 n.toNat)) ρ1
  | [.d (.int m), .d (.int n)] => RgOk m n ∧ Q (.lst (upto m (n - m).toNat)) ρ1
  | _ => False
theorem upto_ok {K : PySem.W.Frag} {F : Hp} (m n : Int) : DpAll K F (rgV m n) (upto m (n - m).toNat) := by
  unfold rgV upto
  have h : ∀ l : List Nat, DpAll K F (l.map fun i => V.int (m + (i : Nat))) (l.map fun i => PyData.int (m + (i : Nat))) := fun l => by
    induction l with
    | nil => exact .nil
    | cons i l ih => exact .cons (.int _) ih
  exact h _
theorem dn_lstR {b' : Expr} {p2 pos2 : Pos} (hc : X.calm = true) (hl : X.mg "list" = none) (hm : X.mg "range" = none) (ha : DE X a fa) (hb : DE X b' fb) (hgl : Gl X "list" := by rfl) (hg : Gl X "range" := by rfl) (n1 : starEach [a, b'] X.env = (false, eval a X.env) :: starEach [b'] X.env := by rfl) (n2 : starEach [b'] X.env = (false, eval b' X.env) :: starEach [] X.env := by rfl)
    (n3 : starEach [.Call (.Name "range" p2) [a, b'] [] pos2] X.env = (false, eval (.Call (.Name "range" p2) [a, b'] [] pos2) X.env) :: starEach [] X.env := by rfl) (n4 : (backTo pos2 (starEach [b'] X.env)).any (·.1) = false := by rfl) : DN X (.Call (.Name "list" p) [.Call (.Name "range" p2) [a, b'] [] pos2] [] pos) (fLstR (fCons fa (fCons fb fNil))) := by
  obtain ⟨ta, pa, sa⟩ := ha.ex
  obtain ⟨tb, pb, sb⟩ := hb.ex
  refine .of (pe_listRg hc hgl hl (prg_2 hg hm pa pb n1 n2 n4) n3) fun G F ρ σ H Q Q' R hf hq => ?_
  refine sa G F ρ σ H _ _ R hf fun r ρ1 F1 H1 w q1 k1 R1 w1 => ?_
  refine sb G F1 ρ1 σ H1 _ _ R1 q1 fun r2 ρ2 F2 H2 w' q2 k2 R2 w2 => ?_
  have q2 : (match [r, r2] with
    | [.d (.int n)] => RgOk 0 n ∧ Q' (.lst (upto 0 n.toNat)) ρ2
    | [.d (.int m), .d (.int n)] => RgOk m n ∧ Q' (.lst (upto m (n - m).toNat)) ρ2
    | _ => False) := q2
  split at q2
  · rename_i e; cases e
  · rename_i m n e
    cases e
    cases w1
    cases w2
    exact ⟨m, n, rfl, rfl, q2.1, fun q hq' => hq _ _ F2 _ q q2.2 (k1.trans k2) (R2.push hq' ⟨_, rfl, upto_ok m n⟩)⟩
  · exact q2.elim
end
end Aq
/-! A6: stores into things of one's own, zip, tuple * int, all, any. -/
namespace Aq
open PySem PySem.Spec PyProof.Rows L2
section
variable {X : Cx} [Tb X.mg] {a b e : Expr} {fa fb fe : FE} {pos p q : Pos} {x y : Str}

theorem owned_eq (ρ : List S) (i : Nat) (o : Ow) : owned ρ i o = (match ρ[i]? with | some (S.pa _) => S.pa o | _ => S.ow o) := rfl
/-- x[k] = e, x a list of one's own -/
def sSetIx (i : Nat) (fe fi : FE) : FS := fun E ρ => (ownAt ρ i).isSome = true ∧ fe ρ fun r ρ1 => (ownAt ρ1 i).isSome = true ∧ fi ρ1 fun k ρ2 => match r, k, ownAt ρ2 i with
  | .d v, .d (.int k), some (.lst ds) => (match ixN ds.length k with
    | some j => E.nx (ρ2.set i (owned ρ2 i (.lst (ds.set j v))))
    | none => False)
  | _, _, _ => False
theorem ds_setIx (i : Nat) (he : DE X e fe) (hb : DE X b fb) (hN : X.N[i]? = some x := by rfl) (hv : Vis X.env.scope x := by first | exact Or.inl rfl | exact Or.inr (Or.inl rfl) | exact Or.inr (Or.inr rfl)) (hd : (x == ("__debug__" : Str)) = false := by decide)
    (hcd : (x == ("__classdict__" : Str)) = false := by decide) (hs : swapsWithSole [.Subscript (.Name x p) b q] e pos.line X.env = pure false := by rfl) (hw : swappedStores [.Subscript (.Name x p) b q] e X.env = pure none := by rfl)
    (h1 : (assignEach [.Subscript (.Name x p) b q] X.env).map (·.2) = [assign (.Subscript (.Name x p) b q) X.env] := by rfl)
    (h2 : ∀ v, assign (.Subscript (.Name x p) b q) X.env v = (do
      let ov ← holding [v] (eval (.Name x p) X.env)
      let iv ← holding [v, ov] (eval b X.env)
      standAt q
      holding [v, ov, iv] (setItem ov iv v)
      release [v, ov, iv] []) := by intro _; rfl) : DS X (.Assign [.Subscript (.Name x p) b q] e pos) (sSetIx i fe fb) := by
  obtain ⟨te, pe, se⟩ := he.ex
  obtain ⟨tb, pb, sb⟩ := hb.ex
  refine .of (ps_asg pe (pg_sub (pv i hN hv hd hcd) pb set_list h2) hs hw h1) fun G F ρ σ H E E' R hf ok => ?_
  obtain ⟨o, ho⟩ := Option.isSome_iff_exists.mp hf.1
  obtain ⟨ad, _, ha, _⟩ := R.ownAt ho
  refine se G F ρ σ H _ _ R hf.2 fun r ρ1 F1 H1 v q1 k1 R1 w1 => ?_
  refine ⟨.ref ad, ha, ?_⟩
  refine sb G F1 ρ1 σ H1 _ _ R1 q1.2 fun kk ρ2 F2 H2 v2 q2 k2 R2 w2 => ?_
  split at q2
  · rename_i d k ds e3
    split at q2
    · rename_i j ej
      cases w2
      obtain ⟨a2, h2, e2, e3', e4, vs, rfl, e6⟩ := R2.ownAt e3
      rw [ha] at e2; cases e2
      refine ⟨_, vs, k, j, rfl, rfl, e4, by rw [DpAll.length e6]; exact ej, ?_⟩
      have R3 := R2.put (o' := .lst (ds.set j d)) (ho := .lst (vs.set j v)) (ownAt_or e3) ha ⟨_, rfl, DpAll.set (Dp.mono k2 _ _ w1) j e6⟩
      exact ok.nx _ F2 _ _ q2 (k1.trans k2) R3
    · exact q2.elim
  · exact q2.elim
/-- x.append(e) -/
def sApp (i : Nat) (fe : FE) : FS := fun E ρ => (ownAt ρ i).isSome = true ∧ (match ownAt ρ i with | some (.lst _) => True | _ => False) ∧ fe ρ fun r ρ1 => match r, ownAt ρ1 i with
  | .d v, some (.lst ds) => ds.length < sizeLine ∧ E.nx (ρ1.set i (owned ρ1 i (.lst (ds ++ [v]))))
  | _, _ => False
theorem ds_append (i : Nat) {ap cp : Pos} (he : DE X e fe) (hN : X.N[i]? = some x := by rfl) (hv : Vis X.env.scope x := by first | exact Or.inl rfl | exact Or.inr (Or.inl rfl) | exact Or.inr (Or.inr rfl)) (hd : (x == ("__debug__" : Str)) = false := by decide)
    (hcd : (x == ("__classdict__" : Str)) = false := by decide) {stp : Pos}
    (hp : ∀ {t : TE}, PE X e t → PE X (.Call (.Attribute (.Name x p) "append" ap) [e] [] cp) (tBM X.K "list" rAppend (tVar i) (tCons t tNil))) (hs : swapsWith (.Call (.Attribute (.Name x p) "append" ap) [e] [] cp) none stp.line X.env = pure false := by rfl) :
    DS X (.Expr (.Call (.Attribute (.Name x p) "append" ap) [e] [] cp) stp) (sApp i fe) := by
  obtain ⟨te, pe, se⟩ := he.ex
  refine .of (ps_expr (hp pe) hs) fun G F ρ σ H E E' R hf ok => ?_
  obtain ⟨o, ho⟩ := Option.isSome_iff_exists.mp hf.1
  obtain ⟨ad, ho', ha, _, hH, hR⟩ := R.ownAt ho
  have hf2 := hf.2.1
  rw [ho] at hf2
  cases o with
  | dct _ => exact hf2.elim
  | dcr _ => exact hf2.elim
  | ins _ _ _ => exact hf2.elim
  | lst ds0 =>
    obtain ⟨vs0, rfl, _⟩ := hR
    refine ⟨.ref ad, ha, .inl ⟨rfl, _, SqL.of hH⟩, ?_⟩
    refine se G F ρ σ H _ _ R hf.2.2 fun r ρ1 F1 H1 v q1 k1 R1 w1 => ?_
    split at q1
    · rename_i d ds e3
      obtain ⟨a2, h2, e2, e3', e4, vs, rfl, e6⟩ := R1.ownAt e3
      rw [ha] at e2; cases e2
      refine ⟨_, vs, v, rfl, rfl, e4, by rw [DpAll.length e6]; exact q1.1, ?_⟩
      have R3 := R1.put (o' := .lst (ds ++ [d])) (ho := .lst (vs ++ [v])) (ownAt_or e3) ha ⟨_, rfl, DpAll.append e6 (.cons w1 .nil)⟩
      exact ok.nx _ F1 _ _ q1.2 k1 R3
    · exact q1.elim

/-! ### zip -/
theorem DpAll.zip {W : Wd} {F : Hp} {a b : Addr} {xs ys : List V} {ds es : List D} {J : It} (hg : ∀ (i : Nat) (H : Hp), Same F H → (∀ x y, xs[i]? = some x → ys[i]? = some y → J.go i H) ∧ (xs.length ≤ i ∨ ys.length ≤ i → J.stop i H) ∧ ∀ v H', J.yld i H v H' → ∃ T x y, v = .ref T ∧ H T = none ∧ H' = upd H T (.tup [x, y]) ∧ xs[i]? = some x ∧ ys[i]? = some y)
    (hd : DpAll W.K F xs ds) (he : DpAll W.K F ys es) : ItOk W J F (ds.zip es |>.map fun z => PyData.tuple [z.1, z.2]) := by
  intro i F1 H1 k1 k2
  obtain ⟨g1, g2, g3⟩ := hg i H1 (k1.trans k2)
  refine ⟨fun z hz => ?_, fun e => ?_⟩
  · rw [List.getElem?_map] at hz
    obtain ⟨⟨d1, e1⟩, hz0, rfl⟩ := Option.map_eq_some_iff.mp hz
    obtain ⟨hz1, hz2⟩ := List.getElem?_zip_eq_some.mp hz0
    obtain ⟨x, hx, dx⟩ := DpAll.get hd hz1
    obtain ⟨y, hy, dy⟩ := DpAll.get he hz2
    refine ⟨g1 x y hx hy, fun v H2 yl => ?_⟩
    obtain ⟨T, x', y', rfl, hT, rfl, ex, ey⟩ := g3 v H2 yl
    rw [hx] at ex; cases ex
    rw [hy] at ey; cases ey
    have hF : F1 T = none := by
      cases q : F1 T with
      | none => rfl
      | some o => rw [k2 _ _ q] at hT; cases hT
    have kk := k1.trans (same_upd hF (o := .tup [x, y]))
    exact ⟨upd F1 T (.tup [x, y]), .inr ⟨T, _, hT, rfl, rfl⟩, Dp.tup (SqT.of upd_same) (.cons (Dp.mono kk _ _ dx) (.cons (Dp.mono kk _ _ dy) .nil))⟩
  · rw [List.length_map, List.length_zip] at e
    have h1 := DpAll.length hd
    have h2 := DpAll.length he
    exact g2 (by omega)
theorem it_zipL {W : Wd} {F : Hp} {a b : Addr} {xs ys : List V} {ds es : List D} (h1 : SqL W.K F a xs) (h2 : SqL W.K F b ys) (hd : DpAll W.K F xs ds) (he : DpAll W.K F ys es) : ItOk W (Itz W.K a b) F (ds.zip es |>.map fun z => PyData.tuple [z.1, z.2]) :=
  DpAll.zip (a := a) (b := b) (fun i H s => ⟨fun x y hx hy => ⟨xs, ys, x, y, s.seq h1, s.seq h2, hx, hy⟩, fun h => ⟨xs, ys, s.seq h1, s.seq h2, h⟩, fun v H' ⟨T, x, y, e1, e2, e3, e4, e5⟩ => ⟨T, x, y, e1, e2, e3, e4 xs (s.seq h1), e5 ys (s.seq h2)⟩⟩) hd he
theorem it_zipT {W : Wd} {F : Hp} {a b : Addr} {xs ys : List V} {ds es : List D} (h1 : SqT W.K F a xs) (h2 : SqT W.K F b ys) (hd : DpAll W.K F xs ds) (he : DpAll W.K F ys es) : ItOk W (RZ.ItzT W.K a b) F (ds.zip es |>.map fun z => PyData.tuple [z.1, z.2]) :=
  DpAll.zip (a := a) (b := b) (fun i H s => ⟨fun x y hx hy => ⟨xs, ys, x, y, SqT.mono s h1, SqT.mono s h2, hx, hy⟩, fun h => ⟨xs, ys, SqT.mono s h1, SqT.mono s h2, h⟩, fun v H' ⟨T, x, y, e1, e2, e3, e4, e5⟩ => ⟨T, x, y, e1, e2, e3, e4 xs (SqT.mono s h1), e5 ys (SqT.mono s h2)⟩⟩) hd he
def fiZip (g : FA) : FI := fun ρ Q => g ρ fun rs ρ1 => match rs with
  | [.d (.list ds), .d (.list es)] => Q (ds.zip es |>.map fun z => PyData.tuple [z.1, z.2]) ρ1
  | [.d (.tuple ds), .d (.tuple es)] => Q (ds.zip es |>.map fun z => PyData.tuple [z.1, z.2]) ρ1
  | _ => False
theorem di_zip {tpos : Pos} {elts : List Expr} {kk : Nat} {g : FA} (hm : X.mg "zip" = none) (ha : DA X [a, b] g) (hg : Gl X "zip" := by rfl)
    (hs : starEach [a, b] X.env = (false, eval a X.env) :: starEach [b] X.env := by rfl) (hpl : (backTo pos (starEach [b] X.env)).any (·.1) = false := by rfl) : DI X (.Tuple elts kk tpos) (.Call (.Name "zip" p) [a, b] [] pos) (fiZip g) := by
  obtain ⟨t, q, s⟩ := ha.ex
  refine .of (RZ.pi_zipA hg hm q hs hpl) fun G F ρ σ H R' Q' R hf hq => ?_
  refine s G F ρ σ H _ _ R hf fun rs ρ1 F1 H1 vs q1 k1 R1 w1 => ?_
  unfold fiZip at hf
  split at q1
  · obtain ⟨v1, v2, rfl, w1, w2⟩ := pair_of rfl w1
    cases w1 with
    | lst s1 d1 => cases w2 with
      | lst s2 d2 => exact ⟨_, _, _, _, rfl, .inl ⟨R1.sub.seq s1, R1.sub.seq s2, hq _ _ F1 H1 _ q1 k1 R1 (it_zipL s1 s2 d1 d2)⟩⟩
  · obtain ⟨v1, v2, rfl, w1, w2⟩ := pair_of rfl w1
    cases w1 with
    | tup s1 d1 => cases w2 with
      | tup s2 d2 => exact ⟨_, _, _, _, rfl, .inr ⟨SqT.mono R1.sub s1, SqT.mono R1.sub s2, hq _ _ F1 H1 _ q1 k1 R1 (it_zipT s1 s2 d1 d2)⟩⟩
  · exact q1.elim

/-! ### all, any -/
def boolsD : List D → Option (List Bool)
  | [] => some []
  | .bool i :: r => (boolsD r).map (i :: ·)
  | _ :: _ => none
theorem boolsD_ok {K : PySem.W.Frag} {F : Hp} : ∀ {vs : List V} {ds : List D} {ns : List Bool}, DpAll K F vs ds → boolsD ds = some ns → vs = ns.map V.bl
  | _, [], ns, .nil, h => by cases h; rfl
  | _, .bool i :: r, ns, .cons h1 h2, h => by
    simp only [boolsD] at h
    obtain ⟨ns', e, rfl⟩ := Option.map_eq_some_iff.mp h
    cases h1
    rw [List.map_cons, boolsD_ok h2 e]
  | _, .none :: _, _, _, h => by cases h
  | _, .int _ :: _, _, _, h => by cases h
  | _, .str _ :: _, _, _, h => by cases h
  | _, .list _ :: _, _, _, h => by cases h
  | _, .tuple _ :: _, _, _, h => by cases h
  | _, .dict _ :: _, _, _, h => by cases h
theorem boolsD_map : ∀ ns : List Bool, boolsD (ns.map PyData.bool) = some ns
  | [] => rfl
  | n :: ns => by simp [boolsD, boolsD_map ns]
def fAll : Fn := fun ss Q => match ss with
  | [.d (.list ds)] => (match boolsD ds with
    | some bs => Q (.d (.bool (bs.all id)))
    | none => False)
  | _ => False
def fAny : Fn := fun ss Q => match ss with
  | [.d (.list ds)] => (match boolsD ds with
    | some bs => Q (.d (.bool (bs.any id)))
    | none => False)
  | _ => False
theorem b_all (hc : X.calm = true) : BFn X (.builtin "all") fAll := ⟨_, cr_all hc, csnd_val fun F H ss vs Q Q' s w hf hq => by
  unfold fAll at hf
  split at hf
  · obtain ⟨v, rfl, w1⟩ := one_of w
    split at hf
    · rename_i bs e
      cases w1 with
      | lst s1 d1 =>
        have e1 := boolsD_ok d1 e
        subst e1
        exact ⟨_, _, rfl, s.seq s1, hq _ _ hf (Dp.bl _)⟩
    · exact hf.elim
  · exact hf.elim⟩
theorem b_any (hc : X.calm = true) : BFn X (.builtin "any") fAny := ⟨_, cr_any hc, csnd_val fun F H ss vs Q Q' s w hf hq => by
  unfold fAny at hf
  split at hf
  · obtain ⟨v, rfl, w1⟩ := one_of w
    split at hf
    · rename_i bs e
      cases w1 with
      | lst s1 d1 =>
        have e1 := boolsD_ok d1 e
        subst e1
        exact ⟨_, _, rfl, s.seq s1, hq _ _ hf (Dp.bl _)⟩
    · exact hf.elim
  · exact hf.elim⟩
end

/-! ### tuple * int -/
theorem mul_same (l : Addr) (items : Array Value) (n : Nat) (dd : Option Addr) (sl : Array (Option Value)) (x : Int) (u : Tok) (c0 : (decide (x < -(2 ^ 63)) || decide (x ≥ 2 ^ 63)) = false) (c1 : (items.isEmpty || x == 1) = true) :
    Meets (Builtin.«tuple.__mul__» ⟨[.ref l, .int x u], []⟩) (fun _ R s => s.heap.get? l = some { cls := .type "tuple", dict := dd, data := .seq items n, slots := sl } ∧ R (.ok (.ret (Value.ref l))) s) :=
  .of_wp fun prog w A R s h => by
    obtain ⟨hp, g, d, tk, os⟩ := s
    obtain ⟨hl, h⟩ := h
    have f1 := AutoSeq1.idx_int
    wp_walk using wpAny_loadPart' hl
    repeat (first
      | (refine wpAny_ite_false (decide_eq_false (by rw [c0]; exact Bool.false_ne_true)) ?_; wp_walk using wpAny_loadPart' hl)
      | (refine wpAny_ite_true (decide_eq_true c1) ?_; wp_walk using wpAny_loadPart' hl))
    exact ⟨_, rfl, h⟩
theorem mul_none (l : Addr) (items : Array Value) (n : Nat) (dd : Option Addr) (sl : Array (Option Value)) (x : Int) (u : Tok) (c0 : (decide (x < -(2 ^ 63)) || decide (x ≥ 2 ^ 63)) = false) (c1 : (items.isEmpty || x == 1) = false) (c2 : (decide (x ≤ 0) || items.isEmpty) = true) :
    Meets (Builtin.«tuple.__mul__» ⟨[.ref l, .int x u], []⟩) (fun _ R s => s.heap.get? l = some { cls := .type "tuple", dict := dd, data := .seq items n, slots := sl } ∧
      R (.ok (.ret (Value.ref s.heap.objs.size))) { s with heap := s.heap.push { cls := Value.type "tuple", data := Data.seq #[] }, toks := s.toks }) :=
  .of_wp fun prog w A R s h => by
    obtain ⟨hp, g, d, tk, os⟩ := s
    obtain ⟨hl, h⟩ := h
    have f1 := AutoSeq1.idx_int
    wp_walk using wpAny_loadPart' hl
    repeat (first
      | (refine wpAny_ite_false (decide_eq_false (by rw [c0]; exact Bool.false_ne_true)) ?_; wp_walk using wpAny_loadPart' hl)
      | (refine wpAny_ite_false (decide_eq_false (by rw [c1]; exact Bool.false_ne_true)) ?_; wp_walk using wpAny_loadPart' hl)
      | (refine wpAny_ite_true (decide_eq_true c2) ?_; wp_walk using wpAny_loadPart' hl))
    exact ⟨_, rfl, h⟩
/-- t * k, any k that fits -/
def rRepA (K : PySem.W.Frag) : R2 := fun x y H Q => ∃ l k xs, x = .ref l ∧ y = .int k ∧ SqT K H l xs ∧ -(2 ^ 62) ≤ k ∧ k < 2 ^ 62 ∧ xs.length * k.toNat ≤ sizeLine ∧
  ((xs = [] ∨ k = 1) → Q (.ref l) H) ∧ (xs ≠ [] → k ≠ 1 → ∀ p, H p = none → Q (.ref p) (upd H p (.tup (List.replicate k.toNat xs).flatten)))
section
variable {X : Cx} [Tb X.mg]
theorem op_repA : OpR X (binaryOp .Mult) (rRepA X.K) := by
  intro pins s σ H x y v u Q I rx ry h
  obtain ⟨l, k, xs, rfl, rfl, hT, h1, h2, hz, q1, q2⟩ := h
  cases rx
  obtain ⟨t, rfl⟩ := ry
  obtain ⟨its, r, ⟨⟨cls, dd, data, sl⟩, ho, hc, n, hd⟩, hs⟩ := I.tuple hT
  simp only at hc hd
  subst hc hd
  have hle : its.length = xs.length := r.length.symm
  have c0 : (decide (k < -(2 ^ 63)) || decide (k ≥ 2 ^ 63)) = false := by
    rw [decide_eq_false (by omega), decide_eq_false (by omega)] <;> rfl
  by_cases hn : xs = [] ∨ k = 1
  · have c1 : (its.toArray.isEmpty || k == 1) = true := by
      rcases hn with e | e
      · subst e
        cases its with
        | nil => rfl
        | cons a b => cases hle
      · rw [e]; simp
    refine wpAny_binaryOp_repeat_ref (T := "tuple") (U := "int") (by decide) ⟨_, ho, rfl⟩ (fun s' => typeIs_int s' k t) noFill_tuple_mul F.fills_int_mul F.slot_int_rmul repeat_tuple F.slot_int_index.lookup
      (call_meets F.slot_int_rmul (typeIs_int s k t) F.entry_int_rmul (F.args_int_rmul_2 _ _) (int_rmul_tuple k t l its.toArray n dd sl)
        ⟨ho, rfl, ⟨_, ho, rfl⟩, call_meets F.slot_tuple_mul ⟨_, ho, rfl⟩ F.entry_tuple_mul (F.args_tuple_mul_2 _ _) (mul_same l its.toArray n dd sl k t c0 c1) ⟨ho, ?_⟩⟩)
    exact ⟨.ref l, H, I, rfl, q1 hn⟩
  · have hne : xs ≠ [] := fun e => hn (.inl e)
    have hk1 : k ≠ 1 := fun e => hn (.inr e)
    have q := q2 hne hk1
    have hi : its.toArray.isEmpty = false := by
      cases its with
      | nil => exact absurd (List.eq_nil_of_length_eq_zero hle.symm) hne
      | cons a b => rfl
    have hpos : 0 < xs.length := List.length_pos_iff.mpr hne
    have c1 : (its.toArray.isEmpty || k == 1) = false := by
      rw [hi, Bool.false_or]
      exact beq_eq_false_iff_ne.mpr hk1
    by_cases hk : k ≤ 0
    · have c2 : (decide (k ≤ 0) || its.toArray.isEmpty) = true := by rw [decide_eq_true hk]; rfl
      refine wpAny_binaryOp_repeat_ref (T := "tuple") (U := "int") (by decide) ⟨_, ho, rfl⟩ (fun s' => typeIs_int s' k t) noFill_tuple_mul F.fills_int_mul F.slot_int_rmul repeat_tuple F.slot_int_index.lookup
        (call_meets F.slot_int_rmul (typeIs_int s k t) F.entry_int_rmul (F.args_int_rmul_2 _ _) (int_rmul_tuple k t l its.toArray n dd sl)
          ⟨ho, rfl, ⟨_, ho, rfl⟩, call_meets F.slot_tuple_mul ⟨_, ho, rfl⟩ F.entry_tuple_mul (F.args_tuple_mul_2 _ _) (mul_none l its.toArray n dd sl k t c0 c1 c2) ⟨ho, ?_⟩⟩)
      have e : (List.replicate k.toNat xs).flatten = [] := by
        have : k.toNat = 0 := by omega
        rw [this]; rfl
      rw [e] at q
      refine ⟨.ref s.heap.objs.size, _, I.laid (t' := s.toks) (o := .tup []) (fun b ob q => Heap.get?_push_of_some _ q) (Nat.le_refl _) ?_, rfl, q _ (I.hok.fresh (Nat.le_refl _))⟩
      exact ⟨Nat.zero_le _, [], .nil, IsTup.new _ _⟩
    · have hsz0 : its.toArray.size = xs.length := by rw [List.size_toArray, hle]
      have hm0 : xs.length * k.toNat ≤ 16777216 := by rw [← sizeLine_eq]; exact hz
      have hm : ((its.toArray.size : Nat) : Int) * k ≤ 16777216 := by
        rw [hsz0]
        have e : k = ((k.toNat : Nat) : Int) := by omega
        rw [e, ← Int.natCast_mul]
        omega
      have flen : (List.replicate k.toNat its).flatten.length ≤ sizeLine := by
        rw [PyProof.Rows.lm_len_rep_flat, hle, Nat.mul_comm]
        exact hz
      have c2 : (decide (k ≤ 0) || its.toArray.isEmpty) = false := by
        rw [hi, Bool.or_false]
        exact decide_eq_false hk
      have c4 : Builtin.Tuple.tupleTooMany (((its.toArray.size : Nat) : Int) * k) = false := by
        unfold Builtin.Tuple.tupleTooMany
        rw [sizeLine_eq]
        exact decide_eq_false (by omega)
      refine wpAny_binaryOp_repeat_ref (T := "tuple") (U := "int") (by decide) ⟨_, ho, rfl⟩ (fun s' => typeIs_int s' k t) noFill_tuple_mul F.fills_int_mul F.slot_int_rmul repeat_tuple F.slot_int_index.lookup
        (call_meets F.slot_int_rmul (typeIs_int s k t) F.entry_int_rmul (F.args_int_rmul_2 _ _) (int_rmul_tuple k t l its.toArray n dd sl)
          ⟨ho, rfl, ⟨_, ho, rfl⟩, call_meets F.slot_tuple_mul ⟨_, ho, rfl⟩ F.entry_tuple_mul (F.args_tuple_mul_2 _ _) (tuple_mulW l its.toArray n dd sl k t c0 c1 c2 (by omega) c4 (by rw [size_rep, List.size_toArray]; exact flen)) ⟨ho, ?_⟩⟩)
      rw [size_rep]
      refine ⟨.ref s.heap.objs.size, _, I.laid (t' := s.toks) (o := .tup (List.replicate k.toNat xs).flatten) (fun b ob q => Heap.get?_push_of_some _ q) (Nat.le_refl _) ?_, rfl, q _ (I.hok.fresh (Nat.le_refl _))⟩
      exact ⟨by rw [PyProof.Rows.lm_len_rep_flat, Nat.mul_comm]; exact hz, _, r.rep k.toNat, IsTup.new _ _⟩
/-- products: of ints, of a tuple and an int -/
def fMul : F2 := fun a b Q => match a, b with
  | .d (.int i), .d (.int j) => CMul i j ∧ Q (.d (.int (i * j)))
  | .d (.tuple x), .d (.int k) => (-(2 ^ 62) ≤ k ∧ k < 2 ^ 62 ∧ x.length * k.toNat ≤ sizeLine) ∧ Q (.d (.tuple (List.replicate k.toNat x).flatten))
  | _, _ => False
theorem b_mul : BOp X .Mult fMul := by
  refine ⟨_, op_mul.or op_repA, fun G F ρ σ H a b x y Q Q' R va vb hf hq => ?_⟩
  unfold fMul at hf
  split at hf
  · cases va; cases vb
    exact .inl ⟨_, _, rfl, rfl, hf.1, hq _ F H _ hf.2 (Same.refl _) R (Dp.int _)⟩
  · rename_i xs k
    cases vb
    cases va with
    | tup s1 d1 =>
      have hl := DpAll.length d1
      refine .inr ⟨_, k, _, rfl, rfl, SqT.mono R.sub s1, hf.1.1, hf.1.2.1, by rw [hl]; exact hf.1.2.2, fun e => ?_, fun e1 e2 p hp => ?_⟩
      · have e' : (List.replicate k.toNat xs).flatten = xs := by
          rcases e with e | e
          · have e2 := (nil_of d1).mp e
            subst e2
            simp
          · rw [e]; simp
        rw [e'] at hf
        exact hq _ F H _ hf.2 (Same.refl _) R (Dp.tup s1 d1)
      · have hF := (R.nofree hp).1
        exact hq _ (upd F p _) _ _ hf.2 (same_upd hF) (R.alloc hp _) (Dp.tup (SqT.of upd_same) (DpAll.mono (same_upd hF) _ _ (DpAll.rep d1 k.toNat)))
  · exact hf.elim
end
end Aq
/-! A7: a conditional expression as a test; three names stored at once. -/
namespace Aq
open PySem PySem.Spec PyProof.Rows L2
section
variable {X : Cx} [Tb X.mg] {c a b : Expr} {pos : Pos}
theorem pt_ifExp {tc ta tb : TT} (hc : PT X c tc) (ha : PT X a ta) (hb : PT X b tb) : PT X (.IfExp c a b pos) (fun σ H Q => tc σ H fun k H1 => if k = true then ta σ H1 Q else tb σ H1 Q) := by
  refine ⟨fun pins s σ H Q I h => ?_⟩
  have e : ∀ w, PySem.isTrue (.IfExp c a b pos) X.env w = (PySem.isTrue c X.env (eval c X.env) >>= fun k => if k then PySem.isTrue a X.env (eval a X.env) else PySem.isTrue b X.env (eval b X.env)) := fun w => rfl
  rw [e]
  refine wpAny_bind (thn (hc.run pins s σ H _ I h) fun d s1 ⟨H1, I1, q1⟩ => ?_)
  cases d with
  | true => exact ha.run pins s1 σ H1 Q I1 q1
  | false => exact hb.run pins s1 σ H1 Q I1 q1
def fIfT (f : FT) (fa fb : FT) : FT := fun ρ Q => f ρ fun k ρ1 => if k = true then fa ρ1 Q else fb ρ1 Q
theorem dt_if {fc fa fb : FT} (hc : DT X c fc) (ha : DT X a fa) (hb : DT X b fb) : DT X (.IfExp c a b pos) (fIfT fc fa fb) := by
  obtain ⟨t, p, s⟩ := hc.ex
  obtain ⟨ta, pa, sa⟩ := ha.ex
  obtain ⟨tb, pb, sb⟩ := hb.ex
  refine .of (pt_ifExp p pa pb) fun G F ρ σ H Q Q' R hf hq => ?_
  refine s G F ρ σ H _ _ R hf fun k ρ1 F1 H1 q1 k1 R1 => ?_
  cases k with
  | true =>
    rw [if_pos rfl] at q1 ⊢
    exact sa G F1 ρ1 σ H1 _ _ R1 q1 fun c2 ρ2 F2 H2 q2 k2 R2 => hq _ _ F2 H2 q2 (k1.trans k2) R2
  | false =>
    rw [if_neg Bool.false_ne_true] at q1 ⊢
    exact sb G F1 ρ1 σ H1 _ _ R1 q1 fun c2 ρ2 F2 H2 q2 k2 R2 => hq _ _ F2 H2 q2 (k1.trans k2) R2
theorem three_of {R : S → V → Prop} {r1 r2 r3 : S} {rs : List S} {vs : List V} (h : Paired R rs vs) (e : rs = [r1, r2, r3]) : ∃ v1 v2 v3, vs = [v1, v2, v3] ∧ R r1 v1 ∧ R r2 v2 ∧ R r3 v3 := by
  subst e
  cases h with
  | cons a b => cases b with
    | cons c d => cases d with
      | cons e f => cases f; exact ⟨_, _, _, rfl, a, c, e⟩
def sPar3 (i j l : Nat) (g : FA) : FS := fun E ρ => g ρ fun rs ρ1 => match rs with
  | [r1, r2, r3] => settable ρ1 i ∧ settable ρ1 j ∧ settable ρ1 l ∧ E.nx (((ρ1.set i r1).set j r2).set l r3)
  | _ => False
theorem ds_par3 (i j l : Nat) {x y z : Str} {a b c : Expr} {g : FA} {px py pz pt pos : Pos} {kt k2 pt2} (hc : X.calm = true) (hN : X.N.Nodup) (ha : DA X [a, b, c] g) (hij : i ≠ j := by decide) (hil : i ≠ l := by decide) (hjl : j ≠ l := by decide) (hi : X.N[i]? = some x := by rfl) (hj : X.N[j]? = some y := by rfl) (hl : X.N[l]? = some z := by rfl)
    (hx : X.env.scope.names.lookup x = some .local := by rfl) (hy : X.env.scope.names.lookup y = some .local := by rfl) (hz : X.env.scope.names.lookup z = some .local := by rfl)
    (hw : swappedStores [.Tuple [.Name x px, .Name y py, .Name z pz] kt pt] (.Tuple [a, b, c] k2 pt2) X.env = pure (some [x, y, z]) := by rfl)
    (hs : swapsWithSole [.Tuple [.Name x px, .Name y py, .Name z pz] kt pt] (.Tuple [a, b, c] k2 pt2) pos.line X.env = pure false := by rfl) :
    DS X (.Assign [.Tuple [.Name x px, .Name y py, .Name z pz] kt pt] (.Tuple [a, b, c] k2 pt2) pos) (sPar3 i j l g) := by
  obtain ⟨t, p, s⟩ := ha.ex
  refine .of (ps_par3 hc hN hi hj hl hij hil hjl hx hy hz p hw hs) fun G F ρ σ H E E' R hf ok => ?_
  refine s G F ρ σ H _ _ R hf fun rs ρ' F' H' vs q k R' w => ?_
  split at q
  · rename_i r1 r2 r3
    obtain ⟨v1, v2, v3, rfl, w1, w2, w3⟩ := three_of w rfl
    exact ⟨v1, v2, v3, rfl, ok.nx _ F' _ H' q.2.2.2 k (((R'.setV q.1 w1).setV (q.2.1.set hij) w2).setV ((q.2.2.1.set hil).set hjl) w3)⟩
  · exact q.elim
end
end Aq
/-! A8: zip of a tuple and two lists. -/
namespace Aq
open PySem PySem.Spec PyProof.Rows L2
/-- the items of three side by side, in new triples -/
def Itz3 (K : PySem.W.Frag) (a b c : Addr) : It :=
  ⟨fun i H => ∃ (xs ys us : List V) (x y u : V), SqT K H a xs ∧ SqL K H b ys ∧ SqL K H c us ∧ xs[i]? = some x ∧ ys[i]? = some y ∧ us[i]? = some u,
    fun i H v H' => ∃ T x y u, v = .ref T ∧ H T = none ∧ H' = upd H T (.tup [x, y, u]) ∧ (∀ xs, SqT K H a xs → xs[i]? = some x) ∧ (∀ ys, SqL K H b ys → ys[i]? = some y) ∧ ∀ us, SqL K H c us → us[i]? = some u,
    fun i H => ∃ xs ys us : List V, SqT K H a xs ∧ SqL K H b ys ∧ SqL K H c us ∧ i ≤ xs.length ∧ i ≤ ys.length ∧ i ≤ us.length ∧ (i = xs.length ∨ i = ys.length ∨ i = us.length)⟩
structure Apart3 (z TI TO i1 i2 i3 a b c : Addr) : Prop where
  S : ZipSep3 z TI TO i1 i2 i3 [i1, a] [i2, b] [i3, c]
  ai : a ≠ i1
  bi : b ≠ i2
  ci : c ≠ i3
theorem turn_zip3 {P : Program} {w : World} {K : PySem.W.Frag} {elts : List Expr} {kk : Nat} {tpos : Pos} {a b c z TI TO i1 i2 i3 : Addr} (D : Apart3 z TI TO i1 i2 i3 a b c) :
    Turn P w K (.Tuple elts kk tpos) (Itz3 K a b c) [z, TI, TO, i1, i2, i3] z (fun i h => IsZip h z TI TO .none ∧ IsTupOf3 h TI (.ref i1) (.ref i2) (.ref i3) ∧ (∃ x y u, IsTupOf3 h TO x y u) ∧ h.IsTupleIter i1 a i ∧ h.IsListIter i2 b i ∧ h.IsListIter i3 c i) where
  mem := by simp
  obj := fun i h st c hc => by
    obtain ⟨hz, hTI, ⟨x, y, u, hTO⟩, ⟨o1, e1, _, d1⟩, ⟨o2, e2, _, d2⟩, ⟨o3, e3, _, d3⟩⟩ := st
    have e' : c = z ∨ c = TI ∨ c = TO ∨ c = i1 ∨ c = i2 ∨ c = i3 := by simpa using hc
    rcases e' with q | q | q | q | q | q
    · rw [q]; exact ⟨_, hz, fun v q => nomatch q⟩
    · rw [q]; exact ⟨_, hTI, fun v q => nomatch q⟩
    · rw [q]; exact ⟨_, hTO, fun v q => nomatch q⟩
    · rw [q]; exact ⟨o1, e1, fun v q => by rw [d1] at q; cases q⟩
    · rw [q]; exact ⟨o2, e2, fun v q => by rw [d2] at q; cases q⟩
    · rw [q]; exact ⟨o3, e3, fun v q => by rw [d3] at q; cases q⟩
  keep := fun i h h' st k => by
    obtain ⟨hz, hTI, ⟨x, y, u, hTO⟩, h1, h2, h3⟩ := st
    exact ⟨k z (by simp) _ hz, k TI (by simp) _ hTI, ⟨x, y, u, k TO (by simp) _ hTO⟩, h1.at fun o q => k i1 (by simp) o q, h2.at fun o q => k i2 (by simp) o q, h3.at fun o q => k i3 (by simp) o q⟩
  item := by
    intro X hP hw hK hc i pins s σ H E I hf st hg
    subst hP hw hK
    obtain ⟨hz, hTI, ⟨x0, y0, u0, hTO⟩, h1, h2, h3⟩ := st
    obtain ⟨xs, ys, us, x, y, u, hqx, hqy, hqu, hx, hy, hu⟩ := hg
    obtain ⟨its, rv, p, _⟩ := I.tuple hqx
    obtain ⟨its2, rv2, p2, _⟩ := I.list hqy
    obtain ⟨its3, rv3, p3, _⟩ := I.list hqu
    obtain ⟨v1, hv1, ru1⟩ := rv.get hx
    obtain ⟨v2, hv2, ru2⟩ := rv2.get hy
    obtain ⟨v3, hv3, ru3⟩ := rv3.get hu
    have hzl : z < s.heap.objs.size := Heap.lt_size hz
    have hh : X.A.in1.handled = none := I.ok.hd hc
    have n1 : i < its.toArray.size := by simpa using (List.getElem?_eq_some_iff.mp hv1).1
    have n2 : i < its2.toArray.size := by simpa using (List.getElem?_eq_some_iff.mp hv2).1
    have n3 : i < its3.toArray.size := by simpa using (List.getElem?_eq_some_iff.mp hv3).1
    refine wpAny_pyNext_zipD3_item D.S (Draws.tuple hh i1 a D.ai its.toArray) (Draws.list hh i2 b D.bi its2.toArray) (Draws.list hh i3 c D.ci its3.toArray) hz hTI hTO ⟨h1, p⟩ ⟨h2, p2.isList⟩ ⟨h3, p3.isList⟩ n1 n2 n3 fun w1 w2 w3 h' tk e1 e2 e3 z' TO' st1 st2 st3 hT hsz hk => ?_
    have q1 : w1 = v1 := by
      have e : its.toArray[i]? = some v1 := by simpa using hv1
      exact Option.some.inj (e1.symm.trans e)
    have q2 : w2 = v2 := by
      have e : its2.toArray[i]? = some v2 := by simpa using hv2
      exact Option.some.inj (e2.symm.trans e)
    have q3 : w3 = v3 := by
      have e : its3.toArray[i]? = some v3 := by simpa using hv3
      exact Option.some.inj (e3.symm.trans e)
    subst q1 q2 q3
    refine ⟨_, rfl, wpAny_letOwnedTupleGo_zip (s := { s with heap := h', toks := tk }) z' fun h'' z'' sb => ?_⟩
    have hT2 : h''.get? s.heap.objs.size = some { cls := .type "tuple", data := .seq #[w1, w2, w3] } := (sb.2 _ (Nat.ne_of_gt hzl)).trans hT
    have new : ObjOk X.prog X.w (upd H s.heap.objs.size (.tup [x, y, u])) h'' s.heap.objs.size (.tup [x, y, u]) :=
      ⟨by show 3 ≤ sizeLine; decide, [w1, w2, w3], .cons ru1 (.cons ru2 (.cons ru3 .nil)), ⟨_, hT2, rfl, _, rfl⟩⟩
    have I1 : Inv X pins σ (upd H s.heap.objs.size (.tup [x, y, u])) { s with heap := h'', toks := tk } :=
      I.turnedNew (t' := tk) (ch := [z, TI, TO, i1, i2, i3]) (fun c o hb q => (sb.2 c (fun q' => hb (by simp [q']))).trans (hk c o (fun q' => hb (by simp [q'])) (fun q' => hb (by simp [q'])) (fun q' => hb (by simp [q'])) (fun q' => hb (by simp [q'])) (fun q' => hb (by simp [q'])) q)) hf (Nat.le_refl _) new
    refine ⟨.ref s.heap.objs.size, _, I1, rfl, ⟨_, x, y, u, rfl, I.hok.fresh (Nat.le_refl _), rfl, fun l hl => by rw [I.tuple_inj hl hqx]; exact hx, fun l hl => by rw [I.list_inj hl hqy]; exact hy, fun l hl => by rw [I.list_inj hl hqu]; exact hu⟩, ⟨z'', ?_, ⟨w1, w2, w3, ?_⟩, ?_, ?_, ?_⟩, fun c hcm => ?_⟩
    · exact (sb.2 _ D.S.TIz).trans (hk _ _ D.S.TIz D.S.TITO D.S.TIi1 D.S.TIi2 D.S.TIi3 hTI)
    · exact (sb.2 _ D.S.TOz).trans TO'
    · exact st1.1.at fun o q => (sb.2 _ (fun e => D.S.zf1 (by simp [e]))).trans q
    · exact st2.1.at fun o q => (sb.2 _ (fun e => D.S.zf2 (by simp [e]))).trans q
    · exact st3.1.at fun o q => (sb.2 _ (fun e => D.S.zf3 (by simp [e]))).trans q
    · have hlt : c < s.heap.objs.size := by
        have e' : c = z ∨ c = TI ∨ c = TO ∨ c = i1 ∨ c = i2 ∨ c = i3 := by simpa using hcm
        rcases e' with q | q | q | q | q | q
        · rw [q]; exact hzl
        · rw [q]; exact Heap.lt_size hTI
        · rw [q]; exact Heap.lt_size hTO
        · rw [q]; obtain ⟨_, e1, _⟩ := h1; exact Heap.lt_size e1
        · rw [q]; obtain ⟨_, e2, _⟩ := h2; exact Heap.lt_size e2
        · rw [q]; obtain ⟨_, e3, _⟩ := h3; exact Heap.lt_size e3
      rw [upd_ne (Nat.ne_of_lt hlt)]
      exact (hf c hcm).1
  done := by
    intro X hP hw hK hc i pins s σ H E I hf st hg
    subst hP hw hK
    obtain ⟨hz, hTI, ⟨x0, y0, u0, hTO⟩, h1, h2, h3⟩ := st
    obtain ⟨xs, ys, us, hqx, hqy, hqu, l1, l2, l3, hend⟩ := hg
    obtain ⟨its, rv, p, _⟩ := I.tuple hqx
    obtain ⟨its2, rv2, p2, _⟩ := I.list hqy
    obtain ⟨its3, rv3, p3, _⟩ := I.list hqu
    have m1 := rv.length
    have m2 := rv2.length
    have m3 := rv3.length
    have hh : X.A.in1.handled = none := I.ok.hd hc
    refine wpAny_pyNext_zipD3_end D.S (Draws.tuple hh i1 a D.ai its.toArray) (Draws.list hh i2 b D.bi its2.toArray) (Draws.list hh i3 c D.ci its3.toArray) hz hTI hTO ⟨h1, p⟩ ⟨h2, p2.isList⟩ ⟨h3, p3.isList⟩ (by simp; omega) (by simp; omega) (by simp; omega) (by simp; omega) fun h' tk hk => ⟨rfl, ?_⟩
    exact I.turnedL (t' := tk) (ch := [z, TI, TO, i1, i2, i3]) (fun c o hb q =>
      hk c o (fun q' => hb (by simp [q'])) (fun q' => hb (by simp [q'])) (fun q' => hb (by simp [q'])) (fun q' => hb (by simp [q'])) (fun q' => hb (by simp [q'])) q) hf
  self := fun A i s Q E st h => wpAny_pyIter_zip st.1 h
def iZip3 (K : PySem.W.Frag) (ta : TA) : TI := fun σ H R => ta σ H fun vs H1 => ∃ a b c xs ys us, vs = [.ref a, .ref b, .ref c] ∧ SqT K H1 a xs ∧ SqL K H1 b ys ∧ SqL K H1 c us ∧ R (Itz3 K a b c) H1
theorem pi_zip3 {X : Cx} [Tb X.mg] {e e2 e3 : Expr} {ta : TA} {p pos tpos : Pos} {elts : List Expr} {kk : Nat} (hg : Gl X "zip") (hm : X.mg "zip" = none) (ha : PA X [e, e2, e3] ta)
    (hs : starEach [e, e2, e3] X.env = (false, eval e X.env) :: starEach [e2, e3] X.env := by rfl) (hpl : (backTo pos (starEach [e2, e3] X.env)).any (·.1) = false := by rfl) :
    PI X (.Tuple elts kk tpos) (.Call (.Name "zip" p) [e, e2, e3] [] pos) (iZip3 X.K ta) := by
  refine ⟨fun pins s σ H R I h => ?_⟩
  refine Call_ (ld_blt I hg hm PyProof.Rows.boot_zip (PyProof.Rows.callWith_type1 (thn (ha.run pos pins s σ H _ I h) fun us s1 ⟨vs, H1, I1, r1, q1⟩ => ?_) hs hpl))
  obtain ⟨a, b, c, xs, ys, zs, ex, hqx, hqy, hqz, q⟩ := q1
  subst ex
  cases r1 with
  | cons r rr =>
    cases rr with
    | cons r' rr =>
      cases rr with
      | cons r'' rr =>
        cases rr
        cases r
        cases r'
        cases r''
        obtain ⟨its, rv, p1, _⟩ := I1.tuple hqx
        obtain ⟨its2, rv2, p2, _⟩ := I1.list hqy
        obtain ⟨its3, rv3, p3, _⟩ := I1.list hqz
        obtain ⟨o1, ho1, _⟩ := id p1
        have la : a < s1.heap.objs.size := Heap.lt_size ho1
        refine zip_begins3 (begins_tuple a its.toArray) (begins_list b its2.toArray) (begins_list c its3.toArray) p1 p2.isList p3.isList fun h' hz hTI hTO g1 g2 g3 hsz hk => wpAny_pyIter_zip hz ?_
        have I2 : Inv X pins σ H1 { s1 with heap := h' } := I1.kept (t' := s1.toks) hk
        have fresh6 : ∀ d, d ∈ [s1.heap.objs.size + 5, s1.heap.objs.size + 3, s1.heap.objs.size + 4, s1.heap.objs.size, s1.heap.objs.size + 1, s1.heap.objs.size + 2] → FpOk X pins H1 d := fun d hd => by
          have hle : s1.heap.objs.size ≤ d := by
            have e' : d = s1.heap.objs.size + 5 ∨ d = s1.heap.objs.size + 3 ∨ d = s1.heap.objs.size + 4 ∨ d = s1.heap.objs.size ∨ d = s1.heap.objs.size + 1 ∨ d = s1.heap.objs.size + 2 := by simpa using hd
            rcases e' with z | z | z | z | z | z
            · rw [z]; exact Nat.le_add_right _ _
            · rw [z]; exact Nat.le_add_right _ _
            · rw [z]; exact Nat.le_add_right _ _
            · rw [z]; exact Nat.le_refl _
            · rw [z]; exact Nat.le_add_right _ _
            · rw [z]; exact Nat.le_add_right _ _
          exact I1.fpOk hle (I1.hok.fresh hle)
        have D : Apart3 (s1.heap.objs.size + 5) (s1.heap.objs.size + 3) (s1.heap.objs.size + 4) s1.heap.objs.size (s1.heap.objs.size + 1) (s1.heap.objs.size + 2) a b c :=
          ⟨zip_sep3 (fun d hd => by rw [List.mem_singleton.mp hd]; exact la) (fun d hd => by rw [List.mem_singleton.mp hd]; exact p2.lt) (fun d hd => by rw [List.mem_singleton.mp hd]; exact p3.lt),
            Nat.ne_of_lt la, Nat.ne_of_lt (Nat.lt_of_lt_of_le p2.lt (Nat.le_add_right _ _)), Nat.ne_of_lt (Nat.lt_of_lt_of_le p3.lt (Nat.le_add_right _ _))⟩
        exact ⟨s1.heap.objs.size + 5, [s1.heap.objs.size + 5, s1.heap.objs.size + 3, s1.heap.objs.size + 4, s1.heap.objs.size, s1.heap.objs.size + 1, s1.heap.objs.size + 2], _, _, H1, rfl, I2, turn_zip3 D, ⟨hz, hTI, ⟨_, _, _, hTO⟩, ⟨_, g1, rfl, rfl⟩, ⟨_, g2, rfl, rfl⟩, ⟨_, g3, rfl, rfl⟩⟩, fresh6, q⟩
/-- .. by data -/
def zip3D : List D → List D → List D → List D
  | x :: xs, y :: ys, z :: zs => .tuple [x, y, z] :: zip3D xs ys zs
  | _, _, _ => []
theorem zip3D_get : ∀ (xs ys zs : List D) (i : Nat), (zip3D xs ys zs)[i]? = (match xs[i]?, ys[i]?, zs[i]? with
    | some x, some y, some z => some (.tuple [x, y, z])
    | _, _, _ => none)
  | [], ys, zs, i => by simp [zip3D]
  | x :: xs, [], zs, i => by simp [zip3D]
  | x :: xs, y :: ys, [], i => by simp [zip3D]
  | x :: xs, y :: ys, z :: zs, 0 => rfl
  | x :: xs, y :: ys, z :: zs, i + 1 => by
    unfold zip3D
    simpa using zip3D_get xs ys zs i
theorem zip3D_length : ∀ xs ys zs : List D, (zip3D xs ys zs).length = min (min xs.length ys.length) zs.length
  | [], ys, zs => by simp [zip3D]
  | x :: xs, [], zs => by simp [zip3D]
  | x :: xs, y :: ys, [] => by simp [zip3D]
  | x :: xs, y :: ys, z :: zs => by
    unfold zip3D
    simp only [List.length_cons, zip3D_length xs ys zs]
    omega
theorem it_zip3 {W : Wd} {F : Hp} {a b c : Addr} {xs ys zs : List V} {ds es fs : List D} (h1 : SqT W.K F a xs) (h2 : SqL W.K F b ys) (h3 : SqL W.K F c zs) (hd : DpAll W.K F xs ds) (he : DpAll W.K F ys es) (hf : DpAll W.K F zs fs) : ItOk W (Itz3 W.K a b c) F (zip3D ds es fs) := by
  intro i F1 H1 k1 k2
  have s := k1.trans k2
  have q1 := SqT.mono s h1
  have q2 := s.seq h2
  have q3 := s.seq h3
  refine ⟨fun z hz => ?_, fun e => ?_⟩
  · rw [zip3D_get] at hz
    split at hz
    · rename_i d1 d2 d3 g1 g2 g3
      cases hz
      obtain ⟨x, hx, dx⟩ := DpAll.get hd g1
      obtain ⟨y, hy, dy⟩ := DpAll.get he g2
      obtain ⟨u, hu, du⟩ := DpAll.get hf g3
      refine ⟨⟨xs, ys, zs, x, y, u, q1, q2, q3, hx, hy, hu⟩, fun v H2 yl => ?_⟩
      obtain ⟨T, x', y', u', rfl, hT, rfl, ex, ey, eu⟩ := yl
      have ex := ex _ q1
      have ey := ey _ q2
      have eu := eu _ q3
      rw [hx] at ex; cases ex
      rw [hy] at ey; cases ey
      rw [hu] at eu; cases eu
      have hF : F1 T = none := by
        cases q : F1 T with
        | none => rfl
        | some o => rw [k2 _ _ q] at hT; cases hT
      have kk := k1.trans (same_upd hF (o := .tup [x, y, u]))
      exact ⟨upd F1 T (.tup [x, y, u]), .inr ⟨T, _, hT, rfl, rfl⟩, Dp.tup (SqT.of upd_same) (.cons (Dp.mono kk _ _ dx) (.cons (Dp.mono kk _ _ dy) (.cons (Dp.mono kk _ _ du) .nil)))⟩
    · cases hz
  · rw [zip3D_length] at e
    have l1 := DpAll.length hd
    have l2 := DpAll.length he
    have l3 := DpAll.length hf
    exact ⟨xs, ys, zs, q1, q2, q3, by omega, by omega, by omega, by omega⟩
def fiZip3 (g : FA) : FI := fun ρ Q => g ρ fun rs ρ1 => match rs with
  | [.d (.tuple ds), .d (.list es), .d (.list fs)] => Q (zip3D ds es fs) ρ1
  | _ => False
theorem di_zip3 {X : Cx} [Tb X.mg] {a b c : Expr} {p pos tpos : Pos} {elts : List Expr} {kk : Nat} {g : FA} (hm : X.mg "zip" = none) (ha : DA X [a, b, c] g) (hg : Gl X "zip" := by rfl)
    (hs : starEach [a, b, c] X.env = (false, eval a X.env) :: starEach [b, c] X.env := by rfl) (hpl : (backTo pos (starEach [b, c] X.env)).any (·.1) = false := by rfl) : DI X (.Tuple elts kk tpos) (.Call (.Name "zip" p) [a, b, c] [] pos) (fiZip3 g) := by
  obtain ⟨t, q, s⟩ := ha.ex
  refine .of (pi_zip3 hg hm q hs hpl) fun G F ρ σ H R' Q' R hf hq => ?_
  refine s G F ρ σ H _ _ R hf fun rs ρ1 F1 H1 vs q1 k1 R1 w1 => ?_
  split at q1
  · obtain ⟨v1, v2, v3, rfl, w1, w2, w3⟩ := three_of w1 rfl
    cases w1 with
    | tup s1 d1 => cases w2 with
      | lst s2 d2 => cases w3 with
        | lst s3 d3 => exact ⟨_, _, _, _, _, _, rfl, SqT.mono R1.sub s1, R1.sub.seq s2, R1.sub.seq s3, hq _ _ F1 H1 _ q1 k1 R1 (it_zip3 s1 s2 s3 d1 d2 d3)⟩
  · exact q1.elim
end Aq
/-! A9: dicts with nested tuple keys, by values and heaps. -/
namespace Aq
open PySem PySem.Spec PyProof.Rows L2
theorem EnOk.up {W : Wd} {F H : Hp} (s : Same F H) {kvs : List (D × D)} {xs : List (NestedKey × Addr × Value)} (h : Paired (EnOk W F) kvs xs) : Paired (EnOk W H) kvs xs := Paired.mapP h fun _ _ z => z.mono s
/-- at a stands a dict of such data -/
def DAt (W : Wd) (F H : Hp) (a : Addr) (kvs : List (D × D)) : Prop := Same F H ∧ ∃ ob xs, H a = some (exO a ob) ∧ (a == sysModules) = false ∧ DOb W ob xs ∧ Paired (EnOk W F) kvs xs ∧ kvs.length ≤ sizeLine
/-- what a key gives -/
def dGet (kvs : List (D × D)) (k : NestedKey) : Option D := (kvs.find? fun p => decide (keyOf p.1 = some k)).map (·.2)
/-- a key put -/
def dPut (kvs : List (D × D)) (k d : D) : List (D × D) :=
  if (kvs.find? fun p => decide (keyOf p.1 = keyOf k)).isSome then kvs.map fun p => if keyOf p.1 = keyOf k then (p.1, d) else p else kvs ++ [(k, d)]
/-- a key that a dict may have: a tuple of known things, not too deep -/
def keyD (d : D) : Option NestedKey := match d with
  | .tuple _ => (match keyOf d with
    | some k => if k.depth ≤ 8 then some k else none
    | none => none)
  | _ => none
theorem keyD_some {d : D} {k : NestedKey} (h : keyD d = some k) : (∃ ds, d = .tuple ds) ∧ keyOf d = some k ∧ k.depth ≤ 8 := by
  unfold keyD at h
  split at h
  · split at h
    · rename_i ds k' e
      split at h
      · cases h
        exact ⟨⟨_, rfl⟩, e, by assumption⟩
      · cases h
    · cases h
  · cases h
theorem DAt.obj {X : Cx} {pins : List (Addr × Obj)} {σ : L2.St} {H : Hp} {s : Shared} (I : Inv X pins σ H s) {a : Addr} {ob : Obj} (h : H a = some (exO a ob)) : s.heap.get? a = some ob := (I.hok a _ h).1
section
variable {X : Cx} [Tb X.mg] {pins : List (Addr × Obj)} {σ : L2.St} {H : Hp} {s : Shared} {A : Around} {E : Value → Shared → Prop}
mutual
theorem nest_of (I : Inv X pins σ H s) : ∀ (d : D) (v : V) (u : Value) (k : NestedKey), Dp X.K H v d → keyOf d = some k → RelV v u → NestedIs s.heap k u
  | .none, _, _, _, h, e, r => by
    cases h
    simp only [keyOf, Option.some.injEq] at e
    subst e
    cases r
    exact .none
  | .bool b, _, _, _, h, e, r => by
    cases h
    simp only [keyOf, Option.some.injEq] at e
    subst e
    cases r
    exact .bool rfl
  | .int i, _, _, _, h, e, r => by
    cases h
    simp only [keyOf, Option.some.injEq] at e
    subst e
    obtain ⟨t, rfl⟩ := r
    exact .int i t
  | .str x, _, _, _, h, e, r => by
    cases h
    simp only [keyOf, Option.some.injEq] at e
    subst e
    obtain ⟨t, rfl⟩ := r
    exact .text x t
  | .tuple ds, _, _, _, h, e, r => by
    cases h with
    | tup hS hd =>
      simp only [keyOf] at e
      obtain ⟨ks, ek, rfl⟩ := Option.map_eq_some_iff.mp e
      cases r
      obtain ⟨its, rv, ⟨o, h1, h2, n, h3⟩, _⟩ := I.tuple hS
      exact .tup h1 h2 h3 (by simpa using nests_of I ds _ its ks hd ek rv)
  | .list _, _, _, _, _, e, _ => by simp [keyOf] at e
  | .dict _, _, _, _, _, e, _ => by simp [keyOf] at e
theorem nests_of (I : Inv X pins σ H s) : ∀ (ds : List D) (vs : List V) (us : List Value) (ks : List NestedKey), DpAll X.K H vs ds → keysOf ds = some ks → Vals vs us → NestedAll s.heap ks us
  | [], _, _, _, h, e, r => by
    cases h
    cases r
    simp only [keysOf, Option.some.injEq] at e
    subst e
    exact .nil
  | d :: ds, _, _, _, h, e, r => by
    cases h with
    | cons h1 h2 =>
      cases r with
      | cons r1 r2 =>
        simp only [keysOf] at e
        split at e
        · rename_i k ks e1 e2
          cases e
          exact .cons (nest_of I d _ _ k h1 e1 r1) (nests_of I ds _ _ ks h2 e2 r2)
        · cases e
end
theorem key_is (I : Inv X pins σ H s) {d : D} {a : Addr} {k : NestedKey} (h : Dp X.K H (.ref a) d) (e : keyD d = some k) : (nestedKind X.prog X.w).is s.heap k a :=
  let ⟨_, e1, e2⟩ := keyD_some e
  ⟨nest_of I d _ _ k h e1 rfl, e2⟩
theorem ens_is (I : Inv X pins σ H s) : ∀ {kvs : List (D × D)} {xs : List (NestedKey × Addr × Value)}, Paired (EnOk (wd X) H) kvs xs → (∀ x ∈ xs, x.1.depth ≤ 8) → ∀ x ∈ xs, (nestedKind X.prog X.w).is s.heap x.1 x.2.1
  | _, _, .nil, _, x, hx => nomatch hx
  | _, _, .cons h t, hd, x, hx => by
    rcases List.mem_cons.mp hx with rfl | hx
    · exact ⟨nest_of I _ _ _ _ h.2.1 h.1 rfl, hd _ List.mem_cons_self⟩
    · exact ens_is I t (fun y hy => hd y (List.mem_cons_of_mem _ hy)) x hx
theorem DAt.of (I : Inv X pins σ H s) {F : Hp} {a : Addr} {kvs : List (D × D)} (h : DAt (wd X) F H a kvs) : (a == sysModules) = false ∧ ∃ xs, Paired (EnOk (wd X) F) kvs xs ∧ kvs.length ≤ sizeLine ∧ s.heap.DictOfH (nestedKind X.prog X.w) a xs := by
  obtain ⟨sF, ob, xs, h1, h2, ⟨es, ep, h3, h4, h5, h6, h7⟩, h8, h9⟩ := h
  exact ⟨h2, xs, h8, h9, ob, es, ep, DAt.obj I h1, h3, h4, h5, ens_is I (EnOk.up sF h8) h7, h6⟩
theorem at_get {W : Wd} {F : Hp} {k : NestedKey} : ∀ {kvs : List (D × D)} {xs : List (NestedKey × Addr × Value)}, Paired (EnOk W F) kvs xs →
    (match dGet kvs k with
      | some d => ∃ p v, atKey xs k = some p ∧ RelV v p.2 ∧ Dp W.K F v d
      | none => atKey xs k = none)
  | _, _, .nil => rfl
  | (kd, d) :: kvs, (k', a, u) :: xs, .cons ⟨h1, h2, v, h3, h4⟩ t => by
    have ih := at_get (k := k) t
    have h1' : keyOf kd = some k' := h1
    by_cases e : k' = k
    · subst e
      have e1 : dGet ((kd, d) :: kvs) k' = some d := by simp [dGet, h1']
      rw [e1]
      exact ⟨(a, u), v, by simp [atKey], h3, h4⟩
    · have e1 : dGet ((kd, d) :: kvs) k = dGet kvs k := by simp [dGet, h1', e]
      have e2 : atKey ((k', a, u) :: xs) k = atKey xs k := by simp [atKey, e]
      rw [e1, e2]
      exact ih
theorem at_some {W : Wd} {F : Hp} {k : NestedKey} {kvs : List (D × D)} {xs : List (NestedKey × Addr × Value)} (h : Paired (EnOk W F) kvs xs) : (atKey xs k).isSome = (dGet kvs k).isSome := by
  have := at_get (k := k) h
  cases e : dGet kvs k with
  | none => rw [e] at this; rw [this]; rfl
  | some d => rw [e] at this; obtain ⟨p, v, q, _⟩ := this; rw [q]; rfl
/-- room for such keys -/
theorem hroom (hu : A.units + 64 < cLine) : (nestedKind X.prog X.w).room A.in1 := by
  show A.in1.units + 8 < cLine
  have : A.in1.units ≤ A.units + 1 := by
    show A.units + 1 ≤ A.units + 1
    omega
  omega
end
/-! ### readings -/
/-- d[k] -/
def rIxD (W : Wd) : R2 := fun x y H Q => ∃ F a b kvs kd k d, x = .ref a ∧ y = .ref b ∧ DAt W F H a kvs ∧ Dp W.K H y kd ∧ keyD kd = some k ∧ dGet kvs k = some d ∧ ∀ w, Dp W.K F w d → Q w H
def rInDc (W : Wd) (neg : Bool) : R2 := fun x y H Q => ∃ F a b kvs kd k, y = .ref a ∧ x = .ref b ∧ DAt W F H a kvs ∧ Dp W.K H x kd ∧ keyD kd = some k ∧ Q (.bl (if neg then !(dGet kvs k).isSome else (dGet kvs k).isSome)) H
section
variable {X : Cx} [Tb X.mg]
theorem ix_dc (hu : X.A.units + 64 < cLine) : IxR X (rIxD (wd X)) := by
  intro value slice pins s σ H x y v u Q I rx ry h hs
  obtain ⟨F, a, b, kvs, kd, k, d, rfl, rfl, hD, hk, ek, eg, q⟩ := h
  cases rx
  cases ry
  obtain ⟨hd, xs, hp, hl, hm⟩ := hD.of I
  have hg := at_get (k := k) hp
  rw [eg] at hg
  obtain ⟨p, w, e1, rw', dw⟩ := hg
  exact subscriptTail_builtinR (x := p.2) hm.typeIs PySem.F.slot_dict_getitem.lookup
    (wpAny_getItem_heap (Q := fun r s' => r = p.2 ∧ EP X pins σ Q r s') (hroom (X := X) hu) (key_is I hk ek) hm e1 ⟨rfl, w, H, I.tok _, rw', q w dw⟩) hs
theorem op_inDc (hu : X.A.units + 64 < cLine) : OpR X (compareOp .In) (rInDc (wd X) false) := by
  intro pins s σ H x y v u Q I rx ry h
  obtain ⟨F, a, b, kvs, kd, k, rfl, rfl, hD, hk, ek, q⟩ := h
  cases rx
  cases ry
  obtain ⟨hd, xs, hp, hl, hm⟩ := hD.of I
  refine wpAny_in_heap (hroom (X := X) hu) (key_is I hk ek) hd hm ?_
  rw [at_some hp]
  exact ⟨.bl (dGet kvs k).isSome, H, I.tok _, rfl, by simpa using q⟩
theorem op_notInDc (hu : X.A.units + 64 < cLine) : OpR X (compareOp .NotIn) (rInDc (wd X) true) := by
  intro pins s σ H x y v u Q I rx ry h
  obtain ⟨F, a, b, kvs, kd, k, rfl, rfl, hD, hk, ek, q⟩ := h
  cases rx
  cases ry
  obtain ⟨hd, xs, hp, hl, hm⟩ := hD.of I
  refine wpAny_notIn_heap (hroom (X := X) hu) (key_is I hk ek) hd hm ?_
  rw [at_some hp]
  exact ⟨.bl (!(dGet kvs k).isSome), H, I.tok _, rfl, by simpa using q⟩
/-- d.get(k) -/
def rGetD (W : Wd) : V → List V → Hp → VK → Prop := fun x xs H Q => ∃ F a b kvs kd k, x = .ref a ∧ xs = [.ref b] ∧ DAt W F H a kvs ∧ Dp W.K H (.ref b) kd ∧ keyD kd = some k ∧ ∀ w, Dp W.K F w ((dGet kvs k).getD .none) → Q w H
theorem mt_getD (hu : X.A.units + 64 < cLine) : MtR X "dict.get" (rGetD (wd X)) := by
  intro pins s σ H x xs v us Q I rx rs h
  obtain ⟨F, a, b, kvs, kd, k, rfl, rfl, hD, hk, ek, q⟩ := h
  cases rx
  cases rs with
  | cons r1 r2 =>
    cases r2
    cases r1
    obtain ⟨hd, xs, hp, hl, hm⟩ := hD.of I
    refine get_keyed (hroom (X := X) hu) (key_is I hk ek) hd ⟨xs, hm, rfl⟩ ?_
    rw [valueAt_pairsH]
    have hg := at_get (k := k) hp
    cases eg : dGet kvs k with
    | none =>
      rw [eg] at hg q
      rw [hg]
      exact ⟨.non, H, I.tok _, rfl, q _ Dp.non⟩
    | some d =>
      rw [eg] at hg q
      obtain ⟨p, w, e1, rw', dw⟩ := hg
      rw [e1]
      exact ⟨w, H, I.tok _, rw', q w dw⟩
/-- len(d) -/
def rLenDc (W : Wd) : List V → Hp → VK → Prop := fun xs H Q => ∃ F a kvs, xs = [.ref a] ∧ DAt W F H a kvs ∧ Q (.int kvs.length) H
theorem call_lenDc : CallR X (.builtin "len") (rLenDc (wd X)) := by
  intro pins s σ H xs us Q I rs h
  obtain ⟨F, a, kvs, rfl, hD, q⟩ := h
  cases rs with
  | cons r1 r2 =>
    cases r2
    cases r1
    obtain ⟨hd, xs, hp, hl, hm⟩ := hD.of I
    have e := Paired.length hp
    refine call_len_dictH hd hm (by rw [← e]; rw [sizeLine_eq] at hl; omega) ?_
    rw [← e]
    exact ⟨.int kvs.length, H, I.tok _, ⟨_, rfl⟩, q⟩
end
end Aq
/-! A10: dicts with nested tuple keys, by data. -/
namespace Aq
open PySem PySem.Spec PyProof.Rows L2
theorem DAt.ofRep {W : Wd} {F H : Hp} {a : Addr} {kvs : List (D × D)} {ho : HO} (s : Same F H) (h : H a = some ho) (r : RepO W F a (.dct kvs) ho) : DAt W F H a kvs := by
  obtain ⟨ob, xs, rfl, h2, h3, h4, h5⟩ := r
  exact ⟨s, ob, xs, h, h2, h3, h4, h5⟩
theorem keyD_of {d : D} {k : NestedKey} (h : keyD d = some k) : keyOf d = some k := (keyD_some h).2.1
theorem dp_ref {K : PySem.W.Frag} {F : Hp} {v : V} {d : D} {k : NestedKey} (h : Dp K F v d) (e : keyD d = some k) : ∃ b, v = .ref b := by
  obtain ⟨⟨ds, rfl⟩, _, _⟩ := keyD_some e
  cases h
  exact ⟨_, rfl⟩
/-! ### a store -/
theorem Paired.app {α β : Type} {R : α → β → Prop} : ∀ {xs : List α} {ys : List β} {us : List α} {vs : List β}, Paired R xs ys → Paired R us vs → Paired R (xs ++ us) (ys ++ vs)
  | _, _, _, _, .nil, h => h
  | _, _, _, _, .cons a b, h => .cons a (Paired.app b h)
theorem put_ok {W : Wd} {F : Hp} {k : NestedKey} {kd dv : D} {b : Addr} {v : V} {r : Value} (ek : keyOf kd = some k) (hk : Dp W.K F (.ref b) kd) (hv : Dp W.K F v dv) (rv : RelV v r) {kvs : List (D × D)} {xs : List (NestedKey × Addr × Value)} (h : Paired (EnOk W F) kvs xs) :
    Paired (EnOk W F) (dPut kvs kd dv) (storedH xs k b r) := by
  have e1 : (kvs.find? fun p => decide (keyOf p.1 = keyOf kd)).isSome = (atKey xs k).isSome := by
    have := at_some (k := k) h
    rw [this]
    unfold dGet
    rw [ek, Option.isSome_map]
  unfold dPut storedH
  rw [e1]
  split
  · have go : ∀ {kvs : List (D × D)} {xs : List (NestedKey × Addr × Value)}, Paired (EnOk W F) kvs xs → Paired (EnOk W F) (kvs.map fun p => if keyOf p.1 = keyOf kd then (p.1, dv) else p) (xs.map (putAt k r)) := fun {kvs xs} h => by
      induction h with
      | nil => exact .nil
      | @cons p q ps qs hp t ih =>
        refine .cons ?_ ih
        obtain ⟨h1, h2, v', h3, h4⟩ := hp
        have h1' : keyOf p.1 = some q.1 := h1
        by_cases e : q.1 = k
        · have c : keyOf p.1 = keyOf kd := by rw [h1', ek, e]
          have g1 : (fun p : D × D => if keyOf p.1 = keyOf kd then (p.1, dv) else p) p = (p.1, dv) := if_pos c
          have g2 : putAt k r q = (q.1, q.2.1, r) := if_pos e
          rw [g1, g2]
          exact ⟨h1, h2, v, rv, hv⟩
        · have c : ¬ keyOf p.1 = keyOf kd := fun z => e (by rw [h1', ek] at z; exact Option.some.inj z)
          have g1 : (fun p : D × D => if keyOf p.1 = keyOf kd then (p.1, dv) else p) p = p := if_neg c
          have g2 : putAt k r q = q := if_neg e
          rw [g1, g2]
          exact ⟨h1, h2, v', h3, h4⟩
    exact go h
  · exact Aq.Paired.app h (.cons ⟨ek, hk, v, rv, hv⟩ .nil)
theorem dPut_length (kvs : List (D × D)) (k d : D) : (dPut kvs k d).length ≤ kvs.length + 1 := by
  unfold dPut
  split
  · rw [List.length_map]; omega
  · rw [List.length_append]; exact Nat.le_refl _
theorem stored_depth {xs : List (NestedKey × Addr × Value)} {k : NestedKey} {b : Addr} {r : Value} (h : ∀ x ∈ xs, x.1.depth ≤ 8) (hk : k.depth ≤ 8) : ∀ x ∈ storedH xs k b r, x.1.depth ≤ 8 := by
  intro x hx
  unfold storedH at hx
  split at hx
  · obtain ⟨y, hy, rfl⟩ := List.mem_map.mp hx
    unfold putAt
    split
    · exact h y hy
    · exact h y hy
  · rcases List.mem_append.mp hx with q | q
    · exact h x q
    · rw [List.mem_singleton.mp q]; exact hk
theorem exO_ok {P : Program} {w : World} {H : Hp} {h : Heap} {a : Addr} {ob : Obj} (e : h.get? a = some ob) : ObjOk P w H h a (exO a ob) := ⟨e, ⟨_, e⟩, fun _ _ p k => k _ p⟩
def rSetDc (W : Wd) : TSet := fun o i v H Q => ∃ F a b ob xs kvs kd k dv, o = .ref a ∧ i = .ref b ∧ Same F H ∧ H a = some (exO a ob) ∧ (a == sysModules) = false ∧ DOb W ob xs ∧ Paired (EnOk W F) kvs xs ∧ kvs.length < sizeLine ∧ Dp W.K F (.ref b) kd ∧ keyD kd = some k ∧ Dp W.K F v dv ∧
  ∀ ob', RepO W F a (.dct (dPut kvs kd dv)) (exO a ob') → Q (upd H a (exO a ob'))
section
variable {X : Cx} [Tb X.mg]
theorem set_dct (hu : X.A.units + 64 < cLine) : PSet X (rSetDc (wd X)) := by
  intro pins s σ H o i v ov iv u Q I ro ri rv h
  obtain ⟨F, a, b, ob, xs, kvs, kd, k, dv, rfl, rfl, sF, hH, hd, hD, hp, hl, hk, ek, hv, q⟩ := h
  cases ro
  cases ri
  obtain ⟨_, _, _, hm⟩ : (a == sysModules) = false ∧ Paired (EnOk (wd X) H) kvs xs ∧ True ∧ s.heap.DictOfH (nestedKind X.prog X.w) a xs := by
    obtain ⟨es, ep, h3, h4, h5, h6, h7⟩ := id hD
    exact ⟨hd, EnOk.up sF hp, trivial, ob, es, ep, DAt.obj I hH, h3, h4, h5, ens_is I (EnOk.up sF hp) h7, h6⟩
  have hdep : ∀ x ∈ xs, x.1.depth ≤ 8 := let ⟨_, _, _, _, _, _, h7⟩ := hD
    h7
  have el := Paired.length hp
  refine wpAny_setItem_heap (hsz := by rw [← el]; omega) (hroom (X := X) hu) (key_is I (Dp.mono sF _ _ hk) ek) hm fun h' dd' hs => ?_
  obtain ⟨o', es', ep', ho, hx, hdt, htl, _, hn⟩ := dd'
  have D' : DOb (wd X) o' (storedH xs k b u) := ⟨es', ep', hx, hdt, htl, hn, stored_depth hdep (keyD_some ek).2.2⟩
  refine ⟨upd H a (exO a o'), ?_, q o' ⟨o', _, rfl, hd, D', put_ok (keyD_of ek) hk hv rv hp, ?_⟩⟩
  · exact d_write I (by rw [hH]; exact True.intro) hs ⟨_, ho⟩ (exO_ok ho)
  · have := dPut_length kvs kd dv
    omega
end

/-! ### a dict's method -/
def tBMD (W : Wd) (r : V → List V → Hp → VK → Prop) (to : TE) (t : TA) : TE := fun σ H Q => to σ H fun x H1 => (∃ F a kvs, x = .ref a ∧ DAt W F H1 a kvs) ∧ t σ H1 fun xs H2 => r x xs H2 Q
theorem dat_is {X : Cx} [Tb X.mg] {pins : List (Addr × Obj)} {σ : L2.St} {H : Hp} {s : Shared} (I : Inv X pins σ H s) {x : V} {v : Value} (r : RelV x v) (h : ∃ F a kvs, x = .ref a ∧ DAt (wd X) F H a kvs) :
    s.TypeIs v "dict" ∧ ∀ a, v = .ref a → ∃ ob, s.heap.get? a = some ob ∧ ob.dict = none := by
  obtain ⟨F, a, kvs, rfl, hD⟩ := h
  cases r
  obtain ⟨_, xs, _, _, hm⟩ := hD.of I
  refine ⟨hm.typeIs, fun b e => ?_⟩
  cases e
  obtain ⟨o, _, _, ho, hx, _⟩ := hm
  exact ⟨o, ho, hx.2.1⟩
section
variable {X : Cx} [Tb X.mg] {o e : Expr} {es : List Expr} {to : TE} {t : TA} {name : Str} {apos cpos : Pos} {id : String} {r : V → List V → Hp → VK → Prop}
theorem pe_bmD (slot : Slot "dict" name id) (hty : typeOf (.builtin id) = pure (.type "method_descriptor")) (hm : MtR X id r) (ho : PE X o to) (ha : PA X (e :: es) t)
    (hbase : attributeBase o name X.env (eval o X.env) = eval o X.env := by rfl)
    (hfew : ((backTo cpos (starEach (e :: es) X.env)).all (fun x => !x.1) && (backToKw cpos (keywordEach [] X.env)).all (fun x => x.1.isSome)
      && decide ((e :: es).length + ([] : List Keyword).length + (if ([] : List Keyword).isEmpty then 0 else 1) < 30)) = true := by rfl)
    (hline : (apos.endLine == cpos.line) = true := by rfl) (hs : starEach (e :: es) X.env = (false, eval e X.env) :: starEach es X.env := by rfl) (hplain : (backTo cpos (starEach es X.env)).any (·.1) = false := by rfl) :
    PE X (.Call (.Attribute o name apos) (e :: es) [] cpos) (tBMD (wd X) r to t) := by
  refine ⟨fun pins s σ H Q I h => ?_⟩
  refine wpAny_Call_method_late hbase hfew hline rfl (thn (ho.run pins s σ H _ I h) fun v s1 ⟨x, H1, I1, r1, ty, q1⟩ => ?_)
  obtain ⟨h1, h2⟩ := dat_is I1 r1 ty
  refine ⟨"dict", id, PySem.F.plainAttrs_dict, slot, hty, h1, h2, ?_⟩
  have hA := ha.run cpos pins s1 σ H1 _ I1 q1
  rw [hs] at hA ⊢
  refine Calls.callWith_builtin (by show (false || (backTo cpos (starEach es X.env)).any (·.1)) = false; rw [hplain] <;> rfl) (Calls.evalArgs_plain ?_)
  exact thn hA fun us s2 ⟨vs, H2, I2, r2, q2⟩ => hm pins s2 σ H2 x vs v us Q I2 r1 r2 q2
end
/-! ### by data -/
/-- a dict that stands still, read at a key; its own -/
def fIxZ : F2 := fun a b Q => match a, b with
  | .fz (.dct kvs), .d kd => (match keyD kd with
    | some k => (match dGet kvs k with
      | some d => Q (.d d)
      | none => False)
    | none => False)
  | _, _ => False
def fInZ (neg : Bool) : F2 := fun a b Q => match a, b with
  | .d kd, .fz (.dct kvs) => (match keyD kd with
    | some k => Q (.d (.bool (if neg then !(dGet kvs k).isSome else (dGet kvs k).isSome)))
    | none => False)
  | _, _ => False
def fIxDN (i : Nat) (fb : FE) : FE := fun ρ Q => (ownAt ρ i).isSome = true ∧ fb ρ fun y ρ1 => match ownAt ρ1 i, y with
  | some (.dct kvs), .d kd => (match keyD kd with
    | some k => (match dGet kvs k with
      | some d => Q (.d d) ρ1
      | none => False)
    | none => False)
  | _, _ => False
def fInDN (neg : Bool) (i : Nat) (fa : FE) : FE := fun ρ Q => fa ρ fun y ρ1 => match ownAt ρ1 i, y with
  | some (.dct kvs), .d kd => (match keyD kd with
    | some k => Q (.d (.bool (if neg then !(dGet kvs k).isSome else (dGet kvs k).isSome))) ρ1
    | none => False)
  | _, _ => False
def sDPut (i : Nat) (fe fi : FE) : FS := fun E ρ => (ownAt ρ i).isSome = true ∧ fe ρ fun r ρ1 => (ownAt ρ1 i).isSome = true ∧ fi ρ1 fun k ρ2 => match r, k, ownAt ρ2 i with
  | .d v, .d kd, some (.dct kvs) => (keyD kd).isSome = true ∧ kvs.length < sizeLine ∧ E.nx (ρ2.set i (owned ρ2 i (.dct (dPut kvs kd v))))
  | _, _, _ => False
section
variable {X : Cx} [Tb X.mg] {a b e : Expr} {fa fb fe : FE} {pos p q : Pos} {x y : Str}
theorem de_ixZ (hu : X.A.units + 64 < cLine) (ha : DE X a fa) (hb : DE X b fb) (hs : PlainIx b := by exact fun _ _ => rfl) : DE X (.Subscript a b pos) (fOp fIxZ fa fb) := by
  obtain ⟨ta, pa, sa⟩ := ha.ex
  obtain ⟨tb, pb, sb⟩ := hb.ex
  refine .of (pe_ix (ix_dc hu) pa pb hs) (snd_op (fun G F ρ σ H a b x y Q Q' R va vb hf hq => ?_) sa sb)
  unfold fIxZ at hf
  split at hf
  · rename_i kvs kd
    split at hf
    · rename_i k ek
      split at hf
      · rename_i d ed
        obtain ⟨ad, ho, rfl, h1, h2⟩ := va
        obtain ⟨bd, rfl⟩ := dp_ref vb ek
        exact ⟨F, ad, bd, kvs, kd, k, d, rfl, rfl, DAt.ofRep R.sub (R.sub _ _ h1) h2, Dp.mono R.sub _ _ vb, ek, ed, fun w dw => hq _ F H w hf (Same.refl _) R dw⟩
      · exact hf.elim
    · exact hf.elim
  · exact hf.elim
theorem de_ixDN (i : Nat) (hu : X.A.units + 64 < cLine) (hb : DE X b fb) (hN : X.N[i]? = some x := by rfl) (hv : Vis X.env.scope x := by first | exact Or.inl rfl | exact Or.inr (Or.inl rfl) | exact Or.inr (Or.inr rfl)) (hd : (x == ("__debug__" : Str)) = false := by decide)
    (hcd : (x == ("__classdict__" : Str)) = false := by decide) (hs : PlainIx b := by exact fun _ _ => rfl) : DE X (.Subscript (.Name x p) b pos) (fIxDN i fb) := by
  obtain ⟨tb, pb, sb⟩ := hb.ex
  refine .of (pe_ix (ix_dc hu) (pv i hN hv hd hcd) pb hs) fun G F ρ σ H Q Q' R hf hq => ?_
  obtain ⟨o, ho⟩ := Option.isSome_iff_exists.mp hf.1
  obtain ⟨ad, _, ha, _⟩ := R.ownAt ho
  refine ⟨.ref ad, ha, ?_⟩
  refine sb G F ρ σ H _ _ R hf.2 fun y ρ1 F1 H1 w q1 k1 R1 w1 => ?_
  split at q1
  · rename_i kvs kd e
    obtain ⟨a2, h2, e2, e3, e4, e5⟩ := R1.ownAt e
    rw [ha] at e2; cases e2
    split at q1
    · rename_i k ek
      split at q1
      · rename_i d ed
        obtain ⟨bd, rfl⟩ := dp_ref w1 ek
        exact ⟨F1, ad, bd, kvs, kd, k, d, rfl, rfl, DAt.ofRep R1.sub e4 e5, Dp.mono R1.sub _ _ w1, ek, ed, fun w dw => hq _ ρ1 F1 H1 w q1 k1 R1 dw⟩
      · exact q1.elim
    · exact q1.elim
  · exact q1.elim
theorem c_inZ (hu : X.A.units + 64 < cLine) : COp X .In (fInZ false) := ⟨_, op_inDc hu, fun G F ρ σ H a b x y Q Q' R va vb hf hq => by
  unfold fInZ at hf
  split at hf
  · rename_i kd kvs
    split at hf
    · rename_i k ek
      obtain ⟨ad, ho, rfl, h1, h2⟩ := vb
      obtain ⟨bd, rfl⟩ := dp_ref va ek
      exact ⟨F, ad, bd, kvs, kd, k, rfl, rfl, DAt.ofRep R.sub (R.sub _ _ h1) h2, Dp.mono R.sub _ _ va, ek, hq _ F H _ hf (Same.refl _) R (Dp.bl _)⟩
    · exact hf.elim
  · exact hf.elim⟩
theorem c_notinZ (hu : X.A.units + 64 < cLine) : COp X .NotIn (fInZ true) := ⟨_, op_notInDc hu, fun G F ρ σ H a b x y Q Q' R va vb hf hq => by
  unfold fInZ at hf
  split at hf
  · rename_i kd kvs
    split at hf
    · rename_i k ek
      obtain ⟨ad, ho, rfl, h1, h2⟩ := vb
      obtain ⟨bd, rfl⟩ := dp_ref va ek
      exact ⟨F, ad, bd, kvs, kd, k, rfl, rfl, DAt.ofRep R.sub (R.sub _ _ h1) h2, Dp.mono R.sub _ _ va, ek, hq _ F H _ hf (Same.refl _) R (Dp.bl _)⟩
    · exact hf.elim
  · exact hf.elim⟩
theorem snd_inDN {W : Wd} {neg : Bool} {i : Nat} {ta : TE} (sa : ESound W ta fa) : ESound W (tOp (rInDc W neg) ta (tVar i)) (fInDN neg i fa) := by
  intro G F ρ σ H Q Q' R hf hq
  refine sa G F ρ σ H _ _ R hf fun y ρ1 F1 H1 w q1 k1 R1 w1 => ?_
  split at q1
  · rename_i kvs kd e
    obtain ⟨ad, h2, e2, e3, e4, e5⟩ := R1.ownAt e
    split at q1
    · rename_i k ek
      obtain ⟨bd, rfl⟩ := dp_ref w1 ek
      exact ⟨.ref ad, e2, F1, ad, bd, kvs, kd, k, rfl, rfl, DAt.ofRep R1.sub e4 e5, Dp.mono R1.sub _ _ w1, ek, hq _ ρ1 F1 H1 _ q1 k1 R1 (Dp.bl _)⟩
    · exact q1.elim
  · exact q1.elim
theorem dt_inDN (i : Nat) (hu : X.A.units + 64 < cLine) (ha : DE X a fa) (hN : X.N[i]? = some x := by rfl) (hv : Vis X.env.scope x := by first | exact Or.inl rfl | exact Or.inr (Or.inl rfl) | exact Or.inr (Or.inr rfl)) (hd : (x == ("__debug__" : Str)) = false := by decide)
    (hcd : (x == ("__classdict__" : Str)) = false := by decide) (hm : behindInMarks .In (.Name x p) = false := by rfl) : DT X (.Compare a [.In] [.Name x p] pos) (fTest (fInDN false i fa)) := by
  obtain ⟨ta, pa, sa⟩ := ha.ex
  exact .of (pt_cmpR (op_inDc hu) pa (pv i hN hv hd hcd) hm) (snd_test (snd_inDN sa))
theorem dt_notinDN (i : Nat) (hu : X.A.units + 64 < cLine) (ha : DE X a fa) (hN : X.N[i]? = some x := by rfl) (hv : Vis X.env.scope x := by first | exact Or.inl rfl | exact Or.inr (Or.inl rfl) | exact Or.inr (Or.inr rfl)) (hd : (x == ("__debug__" : Str)) = false := by decide)
    (hcd : (x == ("__classdict__" : Str)) = false := by decide) (hm : behindInMarks .NotIn (.Name x p) = false := by rfl) : DT X (.Compare a [.NotIn] [.Name x p] pos) (fTest (fInDN true i fa)) := by
  obtain ⟨ta, pa, sa⟩ := ha.ex
  exact .of (pt_cmpR (op_notInDc hu) pa (pv i hN hv hd hcd) hm) (snd_test (snd_inDN sa))
theorem ds_dput (i : Nat) (hu : X.A.units + 64 < cLine) (he : DE X e fe) (hb : DE X b fb) (hN : X.N[i]? = some x := by rfl) (hv : Vis X.env.scope x := by first | exact Or.inl rfl | exact Or.inr (Or.inl rfl) | exact Or.inr (Or.inr rfl)) (hd : (x == ("__debug__" : Str)) = false := by decide)
    (hcd : (x == ("__classdict__" : Str)) = false := by decide) (hs : swapsWithSole [.Subscript (.Name x p) b q] e pos.line X.env = pure false := by rfl) (hw : swappedStores [.Subscript (.Name x p) b q] e X.env = pure none := by rfl)
    (h1 : (assignEach [.Subscript (.Name x p) b q] X.env).map (·.2) = [assign (.Subscript (.Name x p) b q) X.env] := by rfl)
    (h2 : ∀ v, assign (.Subscript (.Name x p) b q) X.env v = (do
      let ov ← holding [v] (eval (.Name x p) X.env)
      let iv ← holding [v, ov] (eval b X.env)
      standAt q
      holding [v, ov, iv] (setItem ov iv v)
      release [v, ov, iv] []) := by intro _; rfl) : DS X (.Assign [.Subscript (.Name x p) b q] e pos) (sDPut i fe fb) := by
  obtain ⟨te, pe, se⟩ := he.ex
  obtain ⟨tb, pb, sb⟩ := hb.ex
  refine .of (ps_asg pe (pg_sub (pv i hN hv hd hcd) pb (set_dct hu) h2) hs hw h1) fun G F ρ σ H E E' R hf ok => ?_
  obtain ⟨o, ho⟩ := Option.isSome_iff_exists.mp hf.1
  obtain ⟨ad, _, ha, _⟩ := R.ownAt ho
  refine se G F ρ σ H _ _ R hf.2 fun r ρ1 F1 H1 v q1 k1 R1 w1 => ?_
  refine ⟨.ref ad, ha, ?_⟩
  refine sb G F1 ρ1 σ H1 _ _ R1 q1.2 fun kk ρ2 F2 H2 v2 q2 k2 R2 w2 => ?_
  split at q2
  · rename_i d kd kvs e3
    obtain ⟨hk, hl, q2⟩ := q2
    obtain ⟨k, ek⟩ := Option.isSome_iff_exists.mp hk
    obtain ⟨a2, h2, e2, e3', e4, ob, xs, rfl, e6, e7, e8, e9⟩ := R2.ownAt e3
    rw [ha] at e2; cases e2
    obtain ⟨bd, rfl⟩ := dp_ref w2 ek
    exact ⟨F2, ad, bd, ob, xs, kvs, kd, k, d, rfl, rfl, R2.sub, e4, e6, e7, e8, hl, w2, ek, Dp.mono k2 _ _ w1, fun ob' hr => ok.nx _ F2 _ _ q2 (k1.trans k2) (R2.put (ownAt_or e3) ha hr)⟩
  · exact q2.elim
/-- len of a dict that stands still -/
def fLenZ : Fn := fun ss Q => match ss with
  | [.fz (.dct kvs)] => Q (.d (.int kvs.length))
  | _ => False
theorem b_lenZ : BFn X (.builtin "len") fLenZ := ⟨_, call_lenDc, fun G F ρ σ H ss vs Q Q' R w hf hq => by
  unfold fLenZ at hf
  split at hf
  · rename_i kvs
    cases w with
    | cons w1 w2 =>
      cases w2
      obtain ⟨ad, ho, rfl, h1, h2⟩ := w1
      exact ⟨F, ad, kvs, rfl, DAt.ofRep R.sub (R.sub _ _ h1) h2, hq _ F H _ hf (Same.refl _) R (Dp.int _)⟩
  · exact hf.elim⟩
/-- d.get(k) -/
def fGetZ (fa fb : FE) : FE := fun ρ Q => fa ρ fun x ρ1 => match x with
  | .fz (.dct kvs) => fb ρ1 fun y ρ2 => match y with
    | .d kd => (match keyD kd with
      | some k => Q (.d ((dGet kvs k).getD .none)) ρ2
      | none => False)
    | _ => False
  | _ => False
theorem de_getZ {apos cpos : Pos} (hu : X.A.units + 64 < cLine) (ha : DE X a fa) (hb : DE X b fb)
    (hbase : attributeBase a "get" X.env (eval a X.env) = eval a X.env := by rfl)
    (hfew : ((backTo cpos (starEach [b] X.env)).all (fun x => !x.1) && (backToKw cpos (keywordEach [] X.env)).all (fun x => x.1.isSome)
      && decide (([b] : List Expr).length + ([] : List Keyword).length + (if ([] : List Keyword).isEmpty then 0 else 1) < 30)) = true := by rfl)
    (hline : (apos.endLine == cpos.line) = true := by rfl) (hs : starEach [b] X.env = (false, eval b X.env) :: starEach [] X.env := by rfl) (hplain : (backTo cpos (starEach [] X.env)).any (·.1) = false := by rfl) :
    DE X (.Call (.Attribute a "get" apos) [b] [] cpos) (fGetZ fa fb) := by
  obtain ⟨ta, pa, sa⟩ := ha.ex
  obtain ⟨tb, pb, sb⟩ := hb.ex
  refine .of (pe_bmD PySem.F.slot_dict_get PySem.F.type_dict_get (mt_getD hu) pa (pa_cons pb pa_nil hs) hbase hfew hline hs hplain) fun G F ρ σ H Q Q' R hf hq => ?_
  refine sa G F ρ σ H _ _ R hf fun x ρ1 F1 H1 v q1 k1 R1 w1 => ?_
  split at q1
  · rename_i kvs
    obtain ⟨ad, ho, rfl, h1, h2⟩ := w1
    refine ⟨⟨F1, ad, kvs, rfl, DAt.ofRep R1.sub (R1.sub _ _ h1) h2⟩, ?_⟩
    refine sb G F1 ρ1 σ H1 _ _ R1 q1 fun y ρ2 F2 H2 v2 q2 k2 R2 w2 => ?_
    split at q2
    · rename_i kd
      split at q2
      · rename_i k ek
        obtain ⟨bd, rfl⟩ := dp_ref w2 ek
        exact ⟨F2, ad, bd, kvs, kd, k, rfl, rfl, DAt.ofRep R2.sub (R2.sub _ _ (k2 _ _ h1)) (h2.mono k2), Dp.mono R2.sub _ _ w2, ek, fun w dw => hq _ ρ2 F2 H2 w q2 (k1.trans k2) R2 dw⟩
      · exact q2.elim
    · exact q2.elim
  · exact q1.elim
end
end Aq
/-! A11: walks over dicts that stand still; displays. -/
namespace Aq
open PySem PySem.Spec PyProof.Rows L2
/-- the entries by keys' tuples and values -/
def Ents (es : Array DictEntry) (ents : List (Addr × V)) : Prop := Paired (fun (p : Addr × V) (e : DictEntry) => e.key = .ref p.1 ∧ RelV p.2 e.val) ents es.toList
theorem Ents.size {es : Array DictEntry} {ents : List (Addr × V)} (h : Ents es ents) : es.size = ents.length := by
  have := Paired.length h
  rw [Array.length_toList] at this
  exact this.symm
theorem Ents.at_ {es : Array DictEntry} {ents : List (Addr × V)} (h : Ents es ents) {i : Nat} {p : Addr × V} (e : ents[i]? = some p) : ∃ en, es[i]? = some en ∧ en.key = .ref p.1 ∧ RelV p.2 en.val := by
  obtain ⟨en, h1, h2⟩ := paired_get h e
  exact ⟨en, by simpa using h1, h2.1, h2.2⟩
def ItK (d : Addr) (o : Obj) (ents : List (Addr × V)) : It :=
  ⟨fun i H => H d = some (exO d o) ∧ i < ents.length, fun i H x H' => H' = H ∧ ∃ p, ents[i]? = some p ∧ x = .ref p.1, fun i H => H d = some (exO d o) ∧ ents.length ≤ i⟩
def ItI (d : Addr) (o : Obj) (ents : List (Addr × V)) : It :=
  ⟨fun i H => H d = some (exO d o) ∧ i < ents.length, fun i H x H' => ∃ T p, ents[i]? = some p ∧ x = .ref T ∧ H T = none ∧ H' = upd H T (.tup [.ref p.1, p.2]), fun i H => H d = some (exO d o) ∧ ents.length ≤ i⟩
section
variable {P : Program} {w : World} {K : PySem.W.Frag} {tg : Expr} {d : Addr} {o : Obj} {es : Array DictEntry} {ep : Nat} {ents : List (Addr × V)}
theorem turn_keysD (it : Addr) (hod : o.data = .dict es ep) (hen : Ents es ents) : Turn P w K tg (ItK d o ents) [it] it (fun i h => h.IsKeyIter it d i ents.length ep) where
  mem := by simp
  obj := fun i h st b hb => by
    have e : b = it := by simpa using hb
    subst e
    obtain ⟨oi, e, c, dd⟩ := st
    exact ⟨oi, e, fun v z => by rw [dd] at z; cases z⟩
  keep := fun i h h' st k => st.at fun oi e => k it (by simp) oi e
  item := by
    intro X hP hw hK hc i pins s σ H E I hf st hg
    subst hP hw hK
    obtain ⟨hd, hi⟩ := hg
    obtain ⟨f0, f1, f2, f3, f4, f5⟩ := hf it (by simp)
    have hgd := DAt.obj I hd
    obtain ⟨p, hp⟩ : ∃ p, ents[i]? = some p := ⟨ents[i], List.getElem?_eq_getElem hi⟩
    obtain ⟨en, hx, hkey, _⟩ := hen.at_ hp
    refine next_key_item st hgd hod hen.size hx fun h' st' sb => ?_
    have I1 : Inv X pins σ H { s with heap := h' } := I.turned (t' := s.toks) (fun b ob hb e => (sb.2 b hb).trans e) f0 f1 f3 f4 f5
    obtain ⟨oi, e, c, dd⟩ := id st'
    exact ⟨en.key, rfl, go_of (s := { s with heap := h' }) e c dd (by decide) ⟨.ref p.1, H, I1, hkey, ⟨rfl, p, hp, rfl⟩, st', fun b hb => (hf b hb).1⟩⟩
  done := by
    intro X hP hw hK hc i pins s σ H E I hf st hg
    subst hP hw hK
    obtain ⟨hd, hi⟩ := hg
    obtain ⟨f0, f1, f2, f3, f4, f5⟩ := hf it (by simp)
    exact next_key_end (I.ok.hd hc) st (DAt.obj I hd) hod hen.size hi fun h' eb => ⟨rfl, I.turned (t' := s.toks) (fun b ob hb e => eb b ob hb e) f0 f1 f3 f4 f5⟩
  self := fun A i s Q E st h => by
    refine wpAny_pyIter_slot st.typeIs PySem.F.slot_dict_keyiterator_iter (wpAny_call_entry PySem.F.slot_dict_keyiterator_iter st.typeIs PySem.F.entry_dict_keyiterator_iter ?_ (PySem.F.args_dict_keyiterator_iter_1 _))
    show wpAny _ _ (ret (.ref it)) _ _ s
    exact wpAny_pure ⟨_, rfl, "dict_keyiterator", _, st.typeIs, PySem.F.slot_dict_keyiterator_next.lookup, h⟩
theorem turn_itemsD {elts : List Expr} {kk : Nat} {tpos : Pos} (it : Addr) (hx : o.ExactDict) (hod : o.data = .dict es ep) (hen : Ents es ents) :
    Turn P w K (.Tuple elts kk tpos) (ItI d o ents) [it] it (fun i h => ∃ ok ov, IsItemIter h it d i es.size ep ok ov) where
  mem := by simp
  obj := fun i h st b hb => by
    have e : b = it := by simpa using hb
    subst e
    obtain ⟨ok, ov, e⟩ := st
    exact ⟨_, e, fun v z => nomatch z⟩
  keep := fun i h h' st k => let ⟨ok, ov, e⟩ := st; ⟨ok, ov, k it (by simp) _ e⟩
  item := by
    intro X hP hw hK hc i pins s σ H E I hf st hg
    subst hP hw hK
    obtain ⟨hd, hi⟩ := hg
    have hgd := DAt.obj I hd
    obtain ⟨p, hp⟩ : ∃ p, ents[i]? = some p := ⟨ents[i], List.getElem?_eq_getElem hi⟩
    obtain ⟨en, hen1, hkey, rval⟩ := hen.at_ hp
    obtain ⟨ok, ov, he⟩ := st
    have hlt : it < s.heap.objs.size := Heap.lt_size he
    have hie : i < es.size := by rw [hen.size]; exact hi
    have een : es[i] = en := by
      have := Array.getElem?_eq_getElem hie
      rw [hen1] at this
      exact (Option.some.inj this).symm
    refine DT.nextI he ⟨o, hgd, hx, hod⟩ hie fun h' ho hT hz hk => ?_
    rw [een] at hT ho
    refine ⟨_, rfl, wpAny_letOwnedTupleGo_items (s := { s with heap := h' }) ho fun h'' he' sb => ?_⟩
    have hT2 : h''.get? s.heap.objs.size = some { cls := .type "tuple", data := .seq #[en.key, en.val] } := (sb.2 _ (Nat.ne_of_gt hlt)).trans hT
    have new : ObjOk X.prog X.w (upd H s.heap.objs.size (.tup [.ref p.1, p.2])) h'' s.heap.objs.size (.tup [.ref p.1, p.2]) :=
      ⟨by show 2 ≤ sizeLine; decide, [en.key, en.val], .cons hkey (.cons rval .nil), ⟨_, hT2, rfl, _, rfl⟩⟩
    have I1 : Inv X pins σ (upd H s.heap.objs.size (.tup [.ref p.1, p.2])) { s with heap := h'' } :=
      I.turnedNew (t' := s.toks) (ch := [it]) (fun b ob hb e => (sb.2 b (by simpa using hb)).trans (hk b ob (by simpa using hb) e)) hf (Nat.le_refl _) new
    refine ⟨.ref s.heap.objs.size, _, I1, rfl, ⟨_, p, hp, rfl, I.hok.fresh (Nat.le_refl _), rfl⟩, ⟨en.key, en.val, he'⟩, fun b hb => ?_⟩
    have e : b = it := by simpa using hb
    rw [e, upd_ne (Nat.ne_of_lt hlt)]
    exact (hf it (by simp)).1
  done := by
    intro X hP hw hK hc i pins s σ H E I hf st hg
    subst hP hw hK
    obtain ⟨hd, hi⟩ := hg
    obtain ⟨f0, f1, f2, f3, f4, f5⟩ := hf it (by simp)
    obtain ⟨ok, ov, he⟩ := st
    exact DT.endI (I.ok.hd hc) he ⟨o, DAt.obj I hd, hx, hod⟩ (by rw [hen.size]; exact hi) fun h' eb => ⟨rfl, I.turned (t' := s.toks) (fun b ob hb e => eb b ob hb e) f0 f1 f3 f4 f5⟩
  self := fun A i s Q E st h => let ⟨_, _, e⟩ := st; PySem.W.kcp_self e h
end
/-! ### for k in d, for k, v in d.items() -/
def iKeysD (td : TE) : TI := fun σ H R => td σ H fun x H1 => ∃ d o es ep ents, x = .ref d ∧ H1 d = some (exO d o) ∧ (d == sysModules) = false ∧ o.ExactDict ∧ o.data = .dict es ep ∧ Ents es ents ∧ R (ItK d o ents) H1
def iItemsD (td : TE) : TI := fun σ H R => td σ H fun x H1 => ∃ d o es ep ents, x = .ref d ∧ H1 d = some (exO d o) ∧ (d == sysModules) = false ∧ o.ExactDict ∧ o.data = .dict es ep ∧ Ents es ents ∧ R (ItI d o ents) H1
section
variable {X : Cx} [Tb X.mg] {tg e : Expr} {td : TE} {apos cpos : Pos}
theorem pi_keysD (he : PE X e td) : PI X tg e (iKeysD td) := by
  refine ⟨fun pins s σ H R I h => ?_⟩
  refine thn (he.run pins s σ H _ I h) fun u s1 ⟨x, H1, I1, rx, d, o, es, ep, ents, ex, hd, hs, hx, hdt, hen, q⟩ => ?_
  subst ex
  obtain rfl : u = Value.ref d := rx
  refine iter_keys hs (DAt.obj I1 hd) hx hdt (pi_one (tk := s1.toks) I1 _ (turn_keysD _ hdt hen) ⟨_, Heap.get?_push_size _ rfl, rfl, ?_⟩ q)
  rw [hen.size] <;> rfl
theorem pi_itemsD {elts : List Expr} {kk : Nat} {tpos : Pos} (he : PE X e td) (hbase : attributeBase e "items" X.env (eval e X.env) = eval e X.env := by rfl) (hline : (apos.endLine == cpos.line) = true := by rfl) :
    PI X (.Tuple elts kk tpos) (.Call (.Attribute e "items" apos) [] [] cpos) (iItemsD td) := by
  refine ⟨fun pins s σ H R I h => ?_⟩
  refine wpAny_Call_method (T := "dict") (id := "dict.items") hbase rfl hline PySem.F.plainAttrs_dict PySem.F.slot_dict_items PySem.F.type_dict_items (thn (he.run pins s σ H _ I h) fun u s1 ⟨x, H1, I1, rx, d, o, es, ep, ents, ex, hd, hs, hx, hdt, hen, q⟩ => ?_)
  subst ex
  obtain rfl : u = Value.ref d := rx
  have hgd := DAt.obj I1 hd
  have hraw : DT.Raw s1.heap d es ep := ⟨o, hgd, hx, hdt⟩
  refine ⟨hraw.typeIs, fun b q => by cases q; exact ⟨o, hgd, hx.2.1⟩, ?_⟩
  have I2 : Inv X pins σ H1 { s1 with heap := s1.heap.push { cls := .type "dict_items", data := .fields #[.ref d] } } := I1.kept (t' := s1.toks) fun b ob q => Heap.get?_push_of_some _ q
  have fin : wpAny (model X.prog X.w) X.A (pyIter (.ref s1.heap.objs.size)) (PIE X pins σ (.Tuple elts kk tpos) R) X.xe { s1 with heap := s1.heap.push { cls := .type "dict_items", data := .fields #[.ref d] } } := by
    refine DT.iterI (d := d) (es := es) (ep := ep) ⟨_, Heap.get?_push_size _ rfl, rfl, rfl⟩ (hraw.push _) (pi_one (tk := s1.toks) I2 _ (turn_itemsD _ hx hdt hen) ⟨.none, .none, ?_⟩ q)
    exact Heap.get?_push_size _ rfl
  show wpAny _ _ (callWith cpos (.builtin "dict.items") [.ref d] [] []) _ X.xe s1
  exact method_meetsIn PySem.F.slot_dict_items PySem.F.entry_dict_items rfl (PySem.evalArgs_none ⟨rfl, hraw.typeIs, PySem.F.args_dict_items_1 _, _, DT.meetsItems (es := es) (ep := ep) hs, hraw, fin⟩)
/-! ### by data -/
theorem ents_of {W : Wd} {F : Hp} : ∀ {kvs : List (D × D)} {xs : List (NestedKey × Addr × Value)}, Paired (EnOk W F) kvs xs → ∃ ents : List (Addr × V), Paired (fun (p : Addr × V) (e : DictEntry) => e.key = .ref p.1 ∧ RelV p.2 e.val) ents (xs.map (entryOfKey (nestedKind W.P W.w))) ∧ Paired (fun (p : D × D) (q : Addr × V) => Dp W.K F (.ref q.1) p.1 ∧ Dp W.K F q.2 p.2) kvs ents
  | _, _, .nil => ⟨[], .nil, .nil⟩
  | _, _, .cons ⟨h1, h2, v, h3, h4⟩ t => let ⟨ents, e1, e2⟩ := ents_of t
    ⟨(_, v) :: ents, .cons ⟨rfl, h3⟩ e1, .cons ⟨h2, h4⟩ e2⟩
def fiKeysZ (f : FE) : FI := fun ρ Q => f ρ fun r ρ1 => match r with
  | .fz (.dct kvs) => Q (kvs.map (·.1)) ρ1
  | _ => False
def fiItemsZ (f : FE) : FI := fun ρ Q => f ρ fun r ρ1 => match r with
  | .fz (.dct kvs) => Q (kvs.map fun p => .tuple [p.1, p.2]) ρ1
  | _ => False
theorem di_keysZ {fe : FE} (he : DE X e fe) : DI X tg e (fiKeysZ fe) := by
  obtain ⟨t, p, s⟩ := he.ex
  refine .of (pi_keysD p) fun G F ρ σ H R' Q' R hf hq => ?_
  refine s G F ρ σ H _ _ R hf fun r ρ1 F1 H1 v q1 k1 R1 w1 => ?_
  split at q1
  · rename_i kvs
    obtain ⟨d, ho, rfl, h1, ob, xs, rfl, h2, ⟨es, ep, h3, h4, h5, h6, h7⟩, h8, h9⟩ := w1
    obtain ⟨ents, e1, e2⟩ := ents_of h8
    have hen : Ents es ents := by
      unfold Ents
      rw [h5]
      exact e1
    refine ⟨d, ob, es, ep, ents, rfl, R1.sub _ _ h1, h2, h3, h4, hen, hq _ _ F1 H1 _ q1 k1 R1 ?_⟩
    intro i F2 H2 g1 g2
    have hl := Paired.length e2
    refine ⟨fun x hx => ?_, fun hx => ⟨g2 _ _ (g1 _ _ h1), by rw [List.length_map] at hx; omega⟩⟩
    rw [List.getElem?_map] at hx
    obtain ⟨⟨kd, vd⟩, hkv, rfl⟩ := Option.map_eq_some_iff.mp hx
    obtain ⟨q, hq2, dq, _⟩ := paired_get e2 hkv
    refine ⟨⟨g2 _ _ (g1 _ _ h1), (List.getElem?_eq_some_iff.mp hq2).1⟩, fun v H3 y => ?_⟩
    obtain ⟨rfl, p', hp', rfl⟩ := y
    rw [hq2] at hp'
    cases hp'
    exact ⟨F2, .inl ⟨rfl, rfl⟩, Dp.mono g1 _ _ dq⟩
  · exact q1.elim
theorem di_itemsZ {fe : FE} {elts : List Expr} {kk : Nat} {tpos : Pos} (he : DE X e fe) (hbase : attributeBase e "items" X.env (eval e X.env) = eval e X.env := by rfl) (hline : (apos.endLine == cpos.line) = true := by rfl) :
    DI X (.Tuple elts kk tpos) (.Call (.Attribute e "items" apos) [] [] cpos) (fiItemsZ fe) := by
  obtain ⟨t, p, s⟩ := he.ex
  refine .of (pi_itemsD p hbase hline) fun G F ρ σ H R' Q' R hf hq => ?_
  refine s G F ρ σ H _ _ R hf fun r ρ1 F1 H1 v q1 k1 R1 w1 => ?_
  split at q1
  · rename_i kvs
    obtain ⟨d, ho, rfl, h1, ob, xs, rfl, h2, ⟨es, ep, h3, h4, h5, h6, h7⟩, h8, h9⟩ := w1
    obtain ⟨ents, e1, e2⟩ := ents_of h8
    have hen : Ents es ents := by
      unfold Ents
      rw [h5]
      exact e1
    refine ⟨d, ob, es, ep, ents, rfl, R1.sub _ _ h1, h2, h3, h4, hen, hq _ _ F1 H1 _ q1 k1 R1 ?_⟩
    intro i F2 H2 g1 g2
    have hl := Paired.length e2
    refine ⟨fun x hx => ?_, fun hx => ⟨g2 _ _ (g1 _ _ h1), by rw [List.length_map] at hx; omega⟩⟩
    rw [List.getElem?_map] at hx
    obtain ⟨⟨kd, vd⟩, hkv, rfl⟩ := Option.map_eq_some_iff.mp hx
    obtain ⟨q, hq2, dq, dv⟩ := paired_get e2 hkv
    refine ⟨⟨g2 _ _ (g1 _ _ h1), (List.getElem?_eq_some_iff.mp hq2).1⟩, fun v H3 y => ?_⟩
    obtain ⟨T, p', hp', rfl, hT, rfl⟩ := y
    rw [hq2] at hp'
    cases hp'
    have hF : F2 T = none := by
      cases z : F2 T with
      | none => rfl
      | some o => rw [g2 _ _ z] at hT; cases hT
    have kk := g1.trans (same_upd hF (o := .tup [.ref q.1, q.2]))
    exact ⟨upd F2 T (.tup [.ref q.1, q.2]), .inr ⟨T, _, hT, rfl, rfl⟩, Dp.tup (SqT.of upd_same) (.cons (Dp.mono kk _ _ dq) (.cons (Dp.mono kk _ _ dv) .nil))⟩
  · exact q1.elim
end
end Aq
/-! A12: displays of dicts. -/
namespace Aq
open PySem PySem.Spec PyProof.Rows L2
def ob0 : Obj := { cls := .type "dict", data := .dict #[] }
theorem dob0 {W : Wd} : DOb W ob0 [] := ⟨#[], _, ⟨rfl, rfl, rfl⟩, rfl, rfl, List.nodup_nil, fun x hx => nomatch hx⟩
theorem rep0 {W : Wd} {F : Hp} {p : Addr} (h : (p == sysModules) = false) : RepO W F p (.dct []) (exO p ob0) := ⟨ob0, [], rfl, h, dob0, .nil, Nat.zero_le _⟩
def tD0 : TE := fun _ H Q => ∀ p, H p = none → (p == sysModules) = false → Q (.ref p) (upd H p (exO p ob0))
/-- what the one pair must be -/
def PairOk (W : Wd) (p : Addr) (Q : VK) (ps : List (V × V)) (H2 : Hp) : Prop := ∃ x y F b ob kd k dv, ps = [(x, y)] ∧ x = .ref b ∧ Same F H2 ∧ H2 p = some (exO p ob) ∧ DOb W ob [] ∧ Dp W.K F x kd ∧ keyD kd = some k ∧ Dp W.K F y dv ∧
  ∀ ob', RepO W F p (.dct [(kd, dv)]) (exO p ob') → Q (.ref p) (upd H2 p (exO p ob'))
def tD1 (W : Wd) (tk tv : TE) : TE := fun σ H Q => ∀ p, H p = none → (p == sysModules) = false → tPairs [(tk, tv)] σ (upd H p (exO p ob0)) (PairOk W p Q)
section
variable {X : Cx} [Tb X.mg] {pos : Pos} {k v : Expr} {tk tv : TE}
theorem new_sys {pins : List (Addr × Obj)} {σ : L2.St} {H : Hp} {s : Shared} (I : Inv X pins σ H s) : (s.heap.objs.size == sysModules) = false := beq_eq_false_iff_ne.mpr (Ne.symm (Nat.ne_of_lt I.big))
theorem pe_d0 : PE X (.Dict [] [] pos) tD0 := ⟨fun pins s σ H Q I h =>
  wpAny_Dict_empty ⟨.ref s.heap.objs.size, _, I.laid (a := s.heap.objs.size) (o := exO s.heap.objs.size ob0) (t' := s.toks) (fun _ _ q => Heap.get?_push_of_some _ q) (Nat.le_refl _) (exO_ok (Heap.get?_push_size _ rfl)), rfl, h _ (I.hok.fresh (Nat.le_refl _)) (new_sys I)⟩⟩
theorem pe_d1 (hu : X.A.units + 64 < cLine) (hk : PE X k tk) (hv : PE X v tv) : PE X (.Dict [some k] [v] pos) (tD1 (wd X) tk tv) := by
  refine ⟨fun pins s σ H Q I q => ?_⟩
  have hn := I.hok.fresh (Nat.le_refl s.heap.objs.size)
  have I1 := I.laid (a := s.heap.objs.size) (o := exO s.heap.objs.size ob0) (h' := s.heap.push { cls := .type "dict", data := .dict #[] }) (t' := s.toks) (fun _ _ q => Heap.get?_push_of_some _ q) (Nat.le_refl _) (exO_ok (Heap.get?_push_size _ rfl))
  refine wpAny_Dict_any rfl rfl (by simp) (by simp) (thn ((pps_cons hk hv pps_nil).run pins _ σ _ _ I1 (q _ hn (new_sys I))) fun ws s2 ⟨ps, H2, I2, rel, q2⟩ => ?_)
  obtain ⟨x, y, F, b, ob, kd, kk, dv, rfl, rfl, sF, hH, hD, hkd, ek, hdv, q3⟩ := q2
  cases rel with
  | @cons _ w _ _ r1 r2 =>
    cases r2
    obtain ⟨u1, u2⟩ := w
    obtain ⟨ru, rv⟩ := r1
    cases (show u1 = Value.ref b from ru)
    have hm : s2.heap.DictOfH (nestedKind X.prog X.w) s.heap.objs.size [] := by
      obtain ⟨es, ep, h3, h4, h5, h6, h7⟩ := hD
      exact ⟨ob, es, ep, DAt.obj I2 hH, h3, h4, h5, fun x hx => (nomatch hx), h6⟩
    unfold storeAll
    simp only [List.forIn_cons, List.forIn_nil]
    refine wpAny_bind (wpAny_bind (wpAny_dictSet_heap (hsz := Nat.zero_le _) (show X.A.units + 8 < cLine by omega) (key_is I2 (Dp.mono sF _ _ hkd) ek) hm fun h' dd' hs => wpAny_pure ?_))
    refine wpAny_pure ?_
    obtain ⟨o', es', ep', ho, hx, hdt, htl, _, hnd⟩ := dd'
    have e1 : storedH ([] : List (NestedKey × Addr × Value)) kk b u2 = [(kk, b, u2)] := rfl
    rw [e1] at htl hnd
    have D' : DOb (wd X) o' [(kk, b, u2)] := ⟨es', ep', hx, hdt, htl, hnd, fun x hx => by rw [List.mem_singleton.mp hx]; exact (keyD_some ek).2.2⟩
    have hR : RepO (wd X) F s.heap.objs.size (.dct [(kd, dv)]) (exO s.heap.objs.size o') := ⟨o', _, rfl, new_sys I, D', .cons ⟨keyD_of ek, hkd, y, rv, hdv⟩ .nil, by show 1 ≤ sizeLine; decide⟩
    exact ⟨.ref s.heap.objs.size, _, d_write I2 (by rw [hH]; exact True.intro) hs ⟨_, ho⟩ (exO_ok ho), rfl, q3 o' hR⟩
def fnD0 : FN := fun ρ Q => Q (.dct []) ρ
def fnD1 (fk fv : FE) : FN := fun ρ Q => fk ρ fun k ρ1 => fv ρ1 fun v ρ2 => match k, v with
  | .d kd, .d dv => (keyD kd).isSome = true ∧ Q (.dct [(kd, dv)]) ρ2
  | _, _ => False
theorem dn_d0 : DN X (.Dict [] [] pos) fnD0 := .of pe_d0 fun G F ρ σ H Q Q' R hf hq p hp hs => hq _ ρ F _ p hf (Same.refl _) (R.push hp (rep0 hs))
theorem dn_d1 {fk fv : FE} (hu : X.A.units + 64 < cLine) (hk : DE X k fk) (hv : DE X v fv) : DN X (.Dict [some k] [v] pos) (fnD1 fk fv) := by
  obtain ⟨tk, pk, sk⟩ := hk.ex
  obtain ⟨tv, pv', sv⟩ := hv.ex
  refine .of (pe_d1 hu pk pv') fun G F ρ σ H Q Q' R hf hq p hp hs => ?_
  have R0 := R.push hp (rep0 (W := wd X) (F := F) hs)
  refine sk _ F ρ σ _ _ _ R0 hf fun rk ρ1 F1 H1 v1 q1 k1 R1 w1 => ?_
  refine sv _ F1 ρ1 σ H1 _ _ R1 q1 fun rv ρ2 F2 H2 v2 q2 k2 R2 w2 => ?_
  split at q2
  · rename_i kd dv
    obtain ⟨hk, q2⟩ := q2
    obtain ⟨kk, ek⟩ := Option.isSome_iff_exists.mp hk
    obtain ⟨bd, rfl⟩ := dp_ref w1 ek
    obtain ⟨_, _, _, ⟨ho, h1, ob, xs, rfl, h2, h3, h4, h5⟩, _⟩ := R2.pop
    cases h4
    exact ⟨_, _, F2, bd, ob, kd, kk, dv, rfl, rfl, R2.sub, h1, h3, Dp.mono k2 _ _ w1, ek, w2, fun ob' hr => hq _ ρ2 F2 _ p q2 (k1.trans k2) (R2.restock hr)⟩
  · exact q2.elim
end
end Aq
/-! A13: list of a dict. -/
namespace Aq
open PySem PySem.Spec PyProof.Rows L2
section
variable {prog : Program} {w : World} {A : Around} {d : Addr} {o : Obj} {es : Array DictEntry} {ep : Nat}
theorem src_raw (hd : (d == sysModules) = false) (hx : o.ExactDict) (hdt : o.data = .dict es ep) : PySem.W.KdlSrc prog w "dict" d d es.size (fun i v => ∃ e, es[i]? = some e ∧ v = e.key) (fun h => h.get? d = some o) where
  type := fun _ hm => ⟨o, hm, hx.1⟩
  there := fun _ hm => ⟨Heap.lt_size hm, Heap.lt_size hm⟩
  keep := fun _ _ hm hk => hk d (.inl rfl) o hm
  notList := by decide
  notTuple := by decide
  hint := fun _ _ _ _ hm hq => PySem.W.kdl_hint_dict ⟨o, hm, hx.1⟩ hq
  iter := fun A s hh hm => by
    refine ⟨_, fun i h => h.IsKeyIter s.heap.objs.size d i es.size ep ∧ h.get? d = some o, fun E Q hq => iter_keys hd hm hx hdt hq, ?_, ⟨_, Heap.get?_push_size _ rfl, rfl, rfl⟩, Heap.get?_push_of_some _ hm⟩
    have hne : d ≠ s.heap.objs.size := Nat.ne_of_lt (Heap.lt_size hm)
    exact
      { sub := fun b hb => by rw [List.mem_singleton.mp hb]; exact List.mem_cons_self
        frame := fun i h h' st hk => ⟨st.1.at fun oi e => hk _ List.mem_cons_self oi e, hk d (by simp) o st.2⟩
        item := fun i s' Q E hi st hQ => by
          refine next_key_item st.1 st.2 hdt rfl (Array.getElem?_eq_getElem hi) fun h' st' sb => ?_
          exact hQ _ h' s'.toks ⟨_, Array.getElem?_eq_getElem hi, rfl⟩ ⟨st', (sb.2 _ hne).trans st.2⟩ fun b ob hb e => (sb.2 b (fun z => hb (by rw [z]; exact List.mem_singleton.mpr rfl))).trans e
        done := fun s' Q E st hQ => next_key_end hh st.1 st.2 hdt rfl (Nat.le_refl _) fun h' eb => hQ h' s'.toks fun b ob hb e => eb b ob (fun z => hb (by rw [z]; exact List.mem_singleton.mpr rfl)) e
        self := fun i s' Q E st h => by
          refine wpAny_pyIter_slot st.1.typeIs PySem.F.slot_dict_keyiterator_iter (wpAny_call_entry PySem.F.slot_dict_keyiterator_iter st.1.typeIs PySem.F.entry_dict_keyiterator_iter ?_ (PySem.F.args_dict_keyiterator_iter_1 _))
          show wpAny _ _ (ret _) _ _ s'
          exact wpAny_pure ⟨_, rfl, "dict_keyiterator", _, st.1.typeIs, PySem.F.slot_dict_keyiterator_next.lookup, h⟩ }
end
/-- list(d), d a dict that stands still -/
def rListD : List V → Hp → VK → Prop := fun xs H Q => ∃ a o es ep ents, xs = [.ref a] ∧ H a = some (exO a o) ∧ (a == sysModules) = false ∧ o.ExactDict ∧ o.data = .dict es ep ∧ Ents es ents ∧ ents.length ≤ sizeLine ∧ ∀ l, H l = none → Q (.ref l) (upd H l (.lst (ents.map fun p => V.ref p.1)))
theorem call_listD {X : Cx} [Tb X.mg] (hc : X.calm = true) : CallR X (.type "list") rListD := by
  intro pins s σ H xs us Q I r h
  obtain ⟨a, o, es, ep, ents, rfl, hH, hs, hx, hdt, hen, hz, q⟩ := h
  cases r with
  | cons r1 r2 =>
    cases r2
    cases r1
    have hn : es.size ≤ sizeLine := by rw [hen.size]; exact hz
    refine PySem.W.kdl_call (src_raw hs hx hdt) (I.ok.hd hc) (DAt.obj I hH) hn fun h' tk acc c' kp e hit => ?_
    have hv : Vals (ents.map fun p => V.ref p.1) acc.toList := by
      have h1 : acc.toList.length = ents.length := by rw [Array.length_toList, hit.1, hen.size]
      have go : ∀ (ents : List (Addr × V)) (l : List Value), l.length = ents.length → (∀ (j : Nat) (v : Value) (p : Addr × V), l[j]? = some v → ents[j]? = some p → v = .ref p.1) → Vals (ents.map fun p => V.ref p.1) l := by
        intro ents
        induction ents with
        | nil => intro l hl _; cases l with | nil => exact .nil | cons _ _ => simp at hl
        | cons p ps ih =>
          intro l hl hj
          cases l with
          | nil => simp at hl
          | cons v vs =>
            have e0 := hj 0 v p rfl rfl
            subst e0
            exact .cons rfl (ih vs (by simpa using hl) fun j v' p' g1 g2 => hj (j + 1) v' p' (by simpa using g1) (by simpa using g2))
      refine go ents acc.toList h1 fun j v p g1 g2 => ?_
      obtain ⟨en, e1, rfl⟩ := hit.2 j v (by rw [← Array.getElem?_toList]; exact g1)
      obtain ⟨en', e2, e3, _⟩ := hen.at_ g2
      rw [e1] at e2
      cases e2
      exact e3
    exact ⟨.ref s.heap.objs.size, _, I.laid (t' := tk) kp (Nat.le_refl _) (show ObjOk X.prog X.w _ h' _ (.lst (ents.map fun p => V.ref p.1)) from ⟨by rw [List.length_map]; exact hz, acc.toList, c', hv, by simpa using e⟩), rfl, q _ (I.hok.fresh (Nat.le_refl _))⟩
def fListZ : FnN := fun ss Q => match ss with
  | [.fz (.dct kvs)] => Q (.lst (kvs.map (·.1)))
  | _ => False
theorem keys_dp {K : PySem.W.Frag} {F : Hp} : ∀ {kvs : List (D × D)} {ents : List (Addr × V)}, Paired (fun (p : D × D) (q : Addr × V) => Dp K F (.ref q.1) p.1 ∧ Dp K F q.2 p.2) kvs ents → DpAll K F (ents.map fun p => V.ref p.1) (kvs.map (·.1))
  | _, _, .nil => .nil
  | _, _, .cons h t => .cons h.1 (keys_dp t)
theorem b_listZ {X : Cx} [Tb X.mg] (hc : X.calm = true) : BFnN X (.type "list") fListZ := ⟨_, call_listD hc, fun G F ρ σ H ss vs Q Q' R w hf hq => by
  unfold fListZ at hf
  split at hf
  · rename_i kvs
    cases w with
    | cons w1 w2 =>
      cases w2
      obtain ⟨d, ho, rfl, h1, ob, xs, rfl, h2, ⟨es, ep, h3, h4, h5, h6, h7⟩, h8, h9⟩ := w1
      obtain ⟨ents, e1, e2⟩ := ents_of h8
      have hen : Ents es ents := by
        unfold Ents
        rw [h5]
        exact e1
      have hl := Paired.length e2
      exact ⟨d, ob, es, ep, ents, rfl, R.sub _ _ h1, h2, h3, h4, hen, by omega, fun p hp => hq _ p _ hf (R.push hp ⟨_, rfl, keys_dp e2⟩)⟩
  · exact hf.elim⟩
end Aq
/-! A14: one's own thing given away; three names, two of them new things. -/
namespace Aq
open PySem PySem.Spec PyProof.Rows L2
/-- a slot's own thing is given away -/
theorem Rep.give {W : Wd} {G : Fx} {F H : Hp} {ρ : List S} {σ : L2.St} {i : Nat} {o : Ow} {a : Addr} (R : Rep W G F ρ σ H) (hi : ρ[i]? = some (S.ow o)) (ha : σ[i]? = some (some (.ref a))) : Rep W (G.push a o) F (ρ.set i .no) σ H := by
  have hlt : i < ρ.length := (List.getElem?_eq_some_iff.mp hi).1
  obtain ⟨b, ho, e1, e2, e3, e4, e5⟩ := R.slot i _ (own_lt ha) hi
  rw [ha] at e1
  have eb : a = b := by cases e1; rfl
  subst eb
  have at_ : ∀ (j : Nat) (s : S), (ρ.set i .no)[j]? = some s → s.own = true → j ≠ i ∧ ρ[j]? = some s := fun j s hj hs => by
    by_cases e : i = j
    · subst e
      rw [List.getElem?_set_self hlt] at hj
      cases hj
      cases hs
    · rw [List.getElem?_set_ne e] at hj
      exact ⟨fun z => e z.symm, hj⟩
  have hls : i < σ.length := own_lt ha
  have eh : hpOf (ρ.set i .no) σ.length = hpOf ρ σ.length := hpOf_set (Nat.ne_of_lt hls)
  have R0 : Rep W G F (ρ.set i .no) σ H := by
    refine ⟨R.sub, R.up, R.keep, R.new, by rw [List.length_set]; exact R.len, fun j s hl hj => ?_, fun j s hl hj => ?_, fun j k s t b hjk hj hk hs ht ej ek => ?_, fun j b hj => ?_, fun b o' hm => ?_, fun b o' hm => ?_, by rw [eh]; exact R.std, by rw [eh]; exact R.lnt, R.tabs⟩
    · by_cases e : i = j
      · subst e
        rw [List.getElem?_set_self hlt] at hj
        cases hj
        trivial
      · rw [List.getElem?_set_ne e] at hj
        exact R.slot j s hl hj
    · rw [List.getElem?_set_ne (by omega)] at hj
      exact R.top j s hl hj
    · exact R.sep j k s t b hjk (at_ j s hj hs).2 (at_ k t hk ht).2 hs ht ej ek
    · obtain ⟨hl, o', h'⟩ := R.par j b hj
      by_cases e : i = j
      · subst e
        rw [hi] at h'
        cases h'
      · exact ⟨hl, o', by rw [List.getElem?_set_ne e]; exact h'⟩
    · obtain ⟨h1, h2, h3, h4⟩ := R.stk b o' hm
      exact ⟨h1, h2, h3, fun j s hj hs => h4 j s (at_ j s hj hs).2 hs⟩
    · rw [eh] at hm
      obtain ⟨h1, h2, h3, h4⟩ := R.shr b o' hm
      exact ⟨h1, h2, h3, fun j s hj hs => h4 j s (at_ j s hj hs).2 hs⟩
  refine R0.hold e2 e3 e4 e5 ?_
  rintro (⟨j, s, hj, hs, ej⟩ | ⟨o', hm⟩ | ⟨o', hm⟩)
  · obtain ⟨h1, h2⟩ := at_ j s hj hs
    exact R.sep i j _ s a (fun z => h1 z.symm) hi h2 rfl hs ha ej
  · obtain ⟨_, _, _, h4⟩ := R.stk a o' hm
    exact h4 i _ hi rfl ha
  · rw [eh] at hm
    obtain ⟨_, _, _, h4⟩ := R.shr a o' hm
    exact h4 i _ hi rfl ha
def fnOwn (i : Nat) : FN := fun ρ Q => match ρ[i]? with
  | some (.ow o) => Q o (ρ.set i .no)
  | _ => False
section
variable {X : Cx} [Tb X.mg] {pos : Pos}
theorem dn_own (i : Nat) {x : Str} {p : Pos} (hN : X.N[i]? = some x := by rfl) (hv : Vis X.env.scope x := by first | exact Or.inl rfl | exact Or.inr (Or.inl rfl) | exact Or.inr (Or.inr rfl)) (hd : (x == ("__debug__" : Str)) = false := by decide)
    (hcd : (x == ("__classdict__" : Str)) = false := by decide) : DN X (.Name x p) (fnOwn i) := by
  refine .of (pv i hN hv hd hcd) fun G F ρ σ H Q Q' R hf hq => ?_
  unfold fnOwn at hf
  split at hf
  · rename_i o e
    obtain ⟨a, _, ha, _⟩ := R.slot i _ (R.lt e (by intro _ z; cases z)) e
    exact ⟨.ref a, ha, hq o _ F H a hf (Same.refl _) (R.give e ha)⟩
  · exact hf.elim
/-- x, y, z = new, new, data -/
def sPar3W (i j l : Nat) (f g : FN) (h : FE) : FS := fun E ρ => f ρ fun o1 ρ1 => g ρ1 fun o2 ρ2 => h ρ2 fun r ρ3 => settable ρ3 i ∧ settable ρ3 j ∧ settable ρ3 l ∧ E.nx (((ρ3.set j (.ow o2)).set i (.ow o1)).set l r)
theorem ds_par3W (i j l : Nat) {x y z : Str} {a b c : Expr} {f g : FN} {h : FE} {px py pz pt pos : Pos} {kt k2 pt2} (hc : X.calm = true) (hN : X.N.Nodup) (ha : DN X a f) (hb : DN X b g) (hcc : DE X c h) (hij : i ≠ j := by decide) (hil : i ≠ l := by decide) (hjl : j ≠ l := by decide) (hi : X.N[i]? = some x := by rfl) (hj : X.N[j]? = some y := by rfl) (hl : X.N[l]? = some z := by rfl)
    (hx : X.env.scope.names.lookup x = some .local := by rfl) (hy : X.env.scope.names.lookup y = some .local := by rfl) (hz : X.env.scope.names.lookup z = some .local := by rfl)
    (hs1 : starEach [a, b, c] X.env = (false, eval a X.env) :: starEach [b, c] X.env := by rfl) (hs2 : starEach [b, c] X.env = (false, eval b X.env) :: starEach [c] X.env := by rfl) (hs3 : starEach [c] X.env = (false, eval c X.env) :: starEach [] X.env := by rfl)
    (hw : swappedStores [.Tuple [.Name x px, .Name y py, .Name z pz] kt pt] (.Tuple [a, b, c] k2 pt2) X.env = pure (some [x, y, z]) := by rfl)
    (hs : swapsWithSole [.Tuple [.Name x px, .Name y py, .Name z pz] kt pt] (.Tuple [a, b, c] k2 pt2) pos.line X.env = pure false := by rfl) :
    DS X (.Assign [.Tuple [.Name x px, .Name y py, .Name z pz] kt pt] (.Tuple [a, b, c] k2 pt2) pos) (sPar3W i j l f g h) := by
  obtain ⟨ta, pa, sa⟩ := ha.ex
  obtain ⟨tb, pb, sb⟩ := hb.ex
  obtain ⟨tc, pc, sc⟩ := hcc.ex
  refine .of (ps_par3 hc hN hi hj hl hij hil hjl hx hy hz (pa_cons pa (pa_cons pb (pa_cons pc pa_nil hs3) hs2) hs1) hw hs) fun G F ρ σ H E E' R hf ok => ?_
  refine sa G F ρ σ H _ _ R hf fun o1 ρ1 F1 H1 a1 q1 k1 R1 => ?_
  refine sb _ F1 ρ1 σ H1 _ _ R1 q1 fun o2 ρ2 F2 H2 a2 q2 k2 R2 => ?_
  refine sc _ F2 ρ2 σ H2 _ _ R2 q2 fun r ρ3 F3 H3 v q3 k3 R3 w3 => ?_
  obtain ⟨s1, s2, s3, q⟩ := q3
  have R4 := R3.setO s2
  have R5 := R4.setO (s1.set (fun z => hij z.symm))
  have R6 := R5.setV (i := l) (s := r) (v := v) ((s3.set hjl).set hil) w3
  have e : ((σ.set j (some (V.ref a2))).set i (some (V.ref a1))) = (σ.set i (some (V.ref a1))).set j (some (V.ref a2)) := List.set_comm _ _ (fun z => hij z.symm)
  rw [e] at R6
  exact ⟨_, _, _, rfl, ok.nx _ F3 _ _ q (k1.trans (k2.trans k3)) R6⟩
end
/-! ### the greatest, the least of a list -/
def fMaxL : Fn := fun ss Q => match ss with
  | [.d (.list ds)] => (match intsD ds with
    | some ns => 0 < ns.length ∧ ∀ m, m ∈ ns → (∀ n ∈ ns, n ≤ m) → Q (.d (.int m))
    | none => False)
  | _ => False
def fMinL : Fn := fun ss Q => match ss with
  | [.d (.list ds)] => (match intsD ds with
    | some ns => 0 < ns.length ∧ ∀ m, m ∈ ns → (∀ n ∈ ns, m ≤ n) → Q (.d (.int m))
    | none => False)
  | _ => False
theorem b_maxL {X : Cx} [Tb X.mg] (hc : X.calm = true) : BFn X (.builtin "max") fMaxL := ⟨_, cr_max hc, fun G F ρ σ H ss vs Q Q' R w hf hq => by
  unfold fMaxL at hf
  split at hf
  · rename_i ds
    split at hf
    · rename_i ns e
      obtain ⟨v, rfl, w1⟩ := one_of w
      cases w1 with
      | lst s1 d1 =>
        have ev := intsD_ok d1 e
        subst ev
        exact ⟨_, ns, rfl, R.sub.seq s1, hf.1, fun m hm hle => hq _ F H _ (hf.2 m hm hle) (Same.refl _) R (Dp.int _)⟩
    · exact hf.elim
  · exact hf.elim⟩
theorem b_minL {X : Cx} [Tb X.mg] (hc : X.calm = true) : BFn X (.builtin "min") fMinL := ⟨_, cr_min hc, fun G F ρ σ H ss vs Q Q' R w hf hq => by
  unfold fMinL at hf
  split at hf
  · rename_i ds
    split at hf
    · rename_i ns e
      obtain ⟨v, rfl, w1⟩ := one_of w
      cases w1 with
      | lst s1 d1 =>
        have ev := intsD_ok d1 e
        subst ev
        exact ⟨_, ns, rfl, R.sub.seq s1, hf.1, fun m hm hle => hq _ F H _ (hf.2 m hm hle) (Same.refl _) R (Dp.int _)⟩
    · exact hf.elim
  · exact hf.elim⟩
end Aq
/-! B1: plans, stands, ticks: as plain functions; what the defs give by data. -/
namespace Aq
open PySem PySem.Spec PyProof.Rows L2
/-! ### plain -/
structure Dev where
  low : Int
  high : Int
  on : Int
  off : Int
  power : Int
structure Pl where
  h : Dev
  c : Dev
  late : Int
  step : Int
  wl : Int
  wh : Int
  bar : Str
  beg : Int
structure Pt where
  runs : Bool
  n : Int
deriving DecidableEq
structure Stn where
  w : Int
  past : List Int
  h : Pt
  c : Pt
deriving DecidableEq
def Dev.d (x : Dev) : D := .tuple [.int x.low, .int x.high, .int x.on, .int x.off, .int x.power]
def Pl.d (p : Pl) : D := .tuple [p.h.d, p.c.d, .tuple [.int p.late, .int p.step], .tuple [.int p.wl, .int p.wh], .str p.bar, .int p.beg]
def Pt.d (q : Pt) : D := .tuple [.bool q.runs, .int q.n]
def Stn.d (s : Stn) : D := .tuple [.int s.w, .tuple (s.past.map PyData.int), s.h.d, s.c.d]
def devOf : D → Option Dev
  | .tuple [.int a, .int b, .int c, .int d, .int e] => some ⟨a, b, c, d, e⟩
  | _ => none
def planOf : D → Option Pl
  | .tuple [h, c, .tuple [.int l, .int s], .tuple [.int a, .int b], .str r, .int g] => (match devOf h, devOf c with
    | some h, some c => some ⟨h, c, l, s, a, b, r, g⟩
    | _, _ => none)
  | _ => none
def partOf : D → Option Pt
  | .tuple [.bool r, .int n] => some ⟨r, n⟩
  | _ => none
def standOf : D → Option Stn
  | .tuple [.int w, .tuple ps, h, c] => (match intsD ps, partOf h, partOf c with
    | some p, some h, some c => some ⟨w, p, h, c⟩
    | _, _, _ => none)
  | _ => none
theorem devOf_d (x : Dev) : devOf x.d = some x := rfl
theorem planOf_d (p : Pl) : planOf p.d = some p := rfl
theorem partOf_d (q : Pt) : partOf q.d = some q := rfl
theorem standOf_d (s : Stn) : standOf s.d = some s := by
  unfold Stn.d standOf
  simp only [intsD_map, partOf_d]
theorem devOf_some {v : D} {x : Dev} (h : devOf v = some x) : v = x.d := by
  unfold devOf at h
  split at h
  · cases h; rfl
  · cases h
theorem planOf_some {v : D} {p : Pl} (h : planOf v = some p) : v = p.d := by
  unfold planOf at h
  split at h
  · split at h
    · rename_i e1 e2
      cases h
      rw [devOf_some e1, devOf_some e2]
      rfl
    · cases h
  · cases h
theorem intsD_some : ∀ {ds : List D} {ns : List Int}, intsD ds = some ns → ds = ns.map PyData.int
  | [], ns, h => by cases h; rfl
  | .int i :: r, ns, h => by
    simp only [intsD] at h
    obtain ⟨ns', e, rfl⟩ := Option.map_eq_some_iff.mp h
    rw [List.map_cons, intsD_some e]
  | .none :: _, _, h => by cases h
  | .bool _ :: _, _, h => by cases h
  | .str _ :: _, _, h => by cases h
  | .list _ :: _, _, h => by cases h
  | .tuple _ :: _, _, h => by cases h
  | .dict _ :: _, _, h => by cases h
theorem partOf_some {v : D} {q : Pt} (h : partOf v = some q) : v = q.d := by
  unfold partOf at h
  split at h
  · cases h; rfl
  · cases h
theorem standOf_some {v : D} {s : Stn} (h : standOf v = some s) : v = s.d := by
  unfold standOf at h
  split at h
  · split at h
    · rename_i e1 e2 e3
      cases h
      rw [intsD_some e1, partOf_some e2, partOf_some e3]
      rfl
    · cases h
  · cases h

/-- within two bounds -/
def isWithin (v : D) (lo hi : Int) : Bool := match v with
  | .int i => decide (lo ≤ i) && decide (i ≤ hi)
  | _ => false
def isRow (v : D) (n : Int) : Bool := match v with
  | .tuple ds => decide ((ds.length : Int) = n)
  | _ => false
def isDevice (v : D) : Bool := match v with
  | .tuple [a, .int b, c, d, e] => (decide (1 ≤ b) && decide (b ≤ 15)) && isWithin a 0 (b - 1) && isWithin c 1 3 && isWithin d 1 3 && isWithin e 1 4
  | _ => false
def isBar (b : Str) : Bool := b == "none" || b == "heater" || b == "cooler"
def isPlan (v : D) : Bool := match v with
  | .tuple [h, c, .tuple [l, s], .tuple [.int a, b], .str r, g] => isDevice h && isDevice c && isWithin l 0 2 && isWithin s 1 3 && (decide (-3 ≤ a) && decide (a ≤ 3)) && isWithin b a 3 && isBar r && isWithin g 0 15
  | _ => false
structure Dev.ok (x : Dev) : Prop where
  l0 : 0 ≤ x.low
  lh : x.low < x.high
  h15 : x.high ≤ 15
  on1 : 1 ≤ x.on
  on3 : x.on ≤ 3
  off1 : 1 ≤ x.off
  off3 : x.off ≤ 3
  p1 : 1 ≤ x.power
  p4 : x.power ≤ 4
structure Pl.ok (p : Pl) : Prop where
  h : p.h.ok
  c : p.c.ok
  la0 : 0 ≤ p.late
  la2 : p.late ≤ 2
  st1 : 1 ≤ p.step
  st3 : p.step ≤ 3
  w0 : -3 ≤ p.wl
  w1 : p.wl ≤ p.wh
  w2 : p.wh ≤ 3
  bar : isBar p.bar = true
  b0 : 0 ≤ p.beg
  b15 : p.beg ≤ 15
theorem isDevice_d {x : Dev} : isDevice x.d = true ↔ x.ok := by
  unfold isDevice Dev.d
  simp only [isWithin, Bool.and_eq_true, decide_eq_true_eq]
  constructor
  · rintro ⟨⟨⟨⟨⟨a, b⟩, c, d⟩, e, f⟩, g, h⟩, i, j⟩
    exact ⟨c, by omega, b, e, f, g, h, i, j⟩
  · rintro ⟨a, b, c, d, e, f, g, h, i⟩
    exact ⟨⟨⟨⟨⟨by omega, c⟩, a, by omega⟩, d, e⟩, f, g⟩, h, i⟩
theorem isPlan_d {p : Pl} : isPlan p.d = true ↔ p.ok := by
  unfold isPlan Pl.d
  simp only [isWithin, Bool.and_eq_true, decide_eq_true_eq, isDevice_d]
  constructor
  · rintro ⟨⟨⟨⟨⟨⟨⟨a, b⟩, c, d⟩, e, f⟩, g, h⟩, i, j⟩, k⟩, l, m⟩
    exact ⟨a, b, c, d, e, f, g, i, j, k, l, m⟩
  · rintro ⟨a, b, c, d, e, f, g, i, j, k, l, m⟩
    exact ⟨⟨⟨⟨⟨⟨⟨a, b⟩, c, d⟩, e, f⟩, g, by omega⟩, i, j⟩, k⟩, l, m⟩
theorem isDevice_some {v : D} (h : isDevice v = true) : ∃ x : Dev, v = x.d ∧ x.ok := by
  unfold isDevice at h
  split at h
  · rename_i a b c d e
    simp only [Bool.and_eq_true] at h
    obtain ⟨⟨⟨⟨hb, ha⟩, hc⟩, hd⟩, he⟩ := id h
    have k : ∀ {v : D} {lo hi : Int}, isWithin v lo hi = true → ∃ i, v = .int i := fun {v lo hi} z => by
      unfold isWithin at z
      split at z
      · exact ⟨_, rfl⟩
      · cases z
    obtain ⟨a', rfl⟩ := k ha
    obtain ⟨c', rfl⟩ := k hc
    obtain ⟨d', rfl⟩ := k hd
    obtain ⟨e', rfl⟩ := k he
    refine ⟨⟨a', b, c', d', e'⟩, rfl, isDevice_d.mp ?_⟩
    show isDevice (.tuple [.int a', .int b, .int c', .int d', .int e']) = true
    unfold isDevice
    simp only [Bool.and_eq_true]
    exact h
  · cases h
theorem isPlan_some {v : D} (h : isPlan v = true) : ∃ p : Pl, v = p.d ∧ p.ok := by
  unfold isPlan at h
  split at h
  · rename_i hh c l s a b r g
    simp only [Bool.and_eq_true] at h
    obtain ⟨⟨⟨⟨⟨⟨⟨h1, h2⟩, h3⟩, h4⟩, h5⟩, h6⟩, h7⟩, h8⟩ := id h
    have k : ∀ {v : D} {lo hi : Int}, isWithin v lo hi = true → ∃ i, v = .int i := fun {v lo hi} z => by
      unfold isWithin at z
      split at z
      · exact ⟨_, rfl⟩
      · cases z
    obtain ⟨x, rfl, _⟩ := isDevice_some h1
    obtain ⟨y, rfl, _⟩ := isDevice_some h2
    obtain ⟨l', rfl⟩ := k h3
    obtain ⟨s', rfl⟩ := k h4
    obtain ⟨b', rfl⟩ := k h6
    obtain ⟨g', rfl⟩ := k h8
    refine ⟨⟨x, y, l', s', a, b', r, g'⟩, rfl, isPlan_d.mp ?_⟩
    show isPlan (.tuple [x.d, y.d, .tuple [.int l', .int s'], .tuple [.int a, .int b'], .str r, .int g']) = true
    unfold isPlan
    simp only [Bool.and_eq_true]
    exact h
  · cases h

/-- the warmth that is told of -/
def Stn.seen (s : Stn) : Int := match s.past with
  | [] => s.w
  | a :: r => (a :: r).getLast (by simp)
def told (p : Pl) (s : Stn) : Int := p.step * (s.seen / p.step)
def goesOn (x : Dev) (q : Pt) (begins ends free : Bool) : Pt :=
  if (q.runs && (ends && decide (x.on ≤ q.n))) || (!q.runs && (begins && (decide (x.off ≤ q.n) && free))) then ⟨!q.runs, 1⟩
  else ⟨q.runs, if q.n + 1 < (if q.runs then x.on else x.off) then q.n + 1 else (if q.runs then x.on else x.off)⟩
def partH (p : Pl) (s : Stn) : Pt := goesOn p.h s.h (decide (told p s ≤ p.h.low)) (decide (p.h.high ≤ told p s)) (!(p.bar == "heater") || !s.c.runs)
def partC (p : Pl) (s : Stn) : Pt := goesOn p.c s.c (decide (p.c.high ≤ told p s)) (decide (told p s ≤ p.c.low)) (!(p.bar == "cooler") || !s.h.runs)
def b2n (b : Bool) : Int := if b then 1 else 0
def clampW (w : Int) : Int := if (if 0 < w then w else 0) < 15 then (if 0 < w then w else 0) else 15
def behind (p : Pl) (s : Stn) (ch : Int) : Stn :=
  ⟨clampW (s.w + ch + p.h.power * b2n (partH p s).runs - p.c.power * b2n (partC p s).runs), (s.w :: s.past).take p.late.toNat, partH p s, partC p s⟩
def firstStand (p : Pl) : Stn := ⟨p.beg, List.replicate p.late.toNat p.beg, ⟨false, p.h.off⟩, ⟨false, p.c.off⟩⟩
/-- a part that fits a device -/
def isPart (x : D) (v : D) : Bool := match x, v with
  | .tuple [_, _, .int on, .int off, _], .tuple [.bool r, n] => isWithin n 0 (if r then on else off)
  | _, _ => false
/-- is a stand of the plan -/
def fitsStand (p : Pl) (v : D) : Bool := match v with
  | .tuple [w, .tuple ps, h, c] => isWithin w 0 15 && decide ((ps.length : Int) = p.late) && ps.all (fun x => isWithin x 0 15) && isPart p.h.d h && isPart p.c.d c
  | _ => false
/-- .. as a stand -/
structure Stn.fits (p : Pl) (s : Stn) : Prop where
  w0 : 0 ≤ s.w
  w15 : s.w ≤ 15
  len : (s.past.length : Int) = p.late
  past : ∀ x ∈ s.past, 0 ≤ x ∧ x ≤ 15
  h0 : 0 ≤ s.h.n
  h1 : s.h.n ≤ if s.h.runs then p.h.on else p.h.off
  c0 : 0 ≤ s.c.n
  c1 : s.c.n ≤ if s.c.runs then p.c.on else p.c.off

/-! ### what the defs give -/
def fn_is_within : Fn := fun ss Q => match ss with
  | [.d v, .d (.int lo), .d (.int hi)] => Q (.d (.bool (isWithin v lo hi)))
  | _ => False
def fn_is_row : Fn := fun ss Q => match ss with
  | [.d v, .d (.int n)] => Q (.d (.bool (isRow v n)))
  | _ => False
def fn_is_device : Fn := fun ss Q => match ss with
  | [.d v] => Q (.d (.bool (isDevice v)))
  | _ => False
def fn_is_plan : Fn := fun ss Q => match ss with
  | [.d v] => Q (.d (.bool (isPlan v)))
  | _ => False
def fn_look_at_plan : Fn := fun ss Q => match ss with
  | [.d v] => isPlan v = true ∧ Q (.d .none)
  | _ => False
def fn_is_part : Fn := fun ss Q => match ss with
  | [.d x, .d v] => (match devOf x with | some x' => Q (.d (.bool (isPart x v))) | none => False)
  | _ => False
def fn_fits : Fn := fun ss Q => match ss with
  | [.d x, .d v] => (match planOf x with | some p => p.ok ∧ Q (.d (.bool (fitsStand p v))) | none => False)
  | _ => False
def fn_is_stand : Fn := fun ss Q => match ss with
  | [.d x, .d v] => (match planOf x with | some p => p.ok ∧ Q (.d (.bool (fitsStand p v))) | none => False)
  | _ => False
def fn_look_at_stand : Fn := fun ss Q => match ss with
  | [.d x, .d v] => (match planOf x with | some p => p.ok ∧ fitsStand p v = true ∧ Q (.d .none) | none => False)
  | _ => False
/-- of a plan and a stand -/
def fnPS (f : Pl → Stn → D) : Fn := fun ss Q => match ss with
  | [.d x, .d y] => (match planOf x, standOf y with
    | some p, some s => (p.ok ∧ (s.past.length : Int) = p.late) ∧ Q (.d (f p s))
    | _, _ => False)
  | _ => False
def fn_told_by : Fn := fnPS fun p s => .int (told p s)
def fn_goes_on : Fn := fun ss Q => match ss with
  | [.d x, .d y, .d (.bool a), .d (.bool b), .d (.bool c)] => (match devOf x, partOf y with
    | some x, some q => Q (.d (goesOn x q a b c).d)
    | _, _ => False)
  | _ => False
def fn_parts_by : Fn := fnPS fun p s => .tuple [(partH p s).d, (partC p s).d]
def fn_behind : Fn := fun ss Q => match ss with
  | [.d x, .d y, .d (.int ch)] => (match planOf x, standOf y with
    | some p, some s => (p.ok ∧ (s.past.length : Int) = p.late) ∧ Q (.d (behind p s ch).d)
    | _, _ => False)
  | _ => False
/-- of a plan and a stand that is checked -/
def fnPSc (f : Pl → Stn → D) : Fn := fun ss Q => match ss with
  | [.d x, .d y] => (match planOf x, standOf y with
    | some p, some s => (p.ok ∧ s.fits p) ∧ Q (.d (f p s))
    | _, _ => False)
  | _ => False
def fn_told : Fn := fnPSc fun p s => .int (told p s)
def fn_running : Fn := fnPSc fun p s => .tuple [.bool (partH p s).runs, .bool (partC p s).runs]
def fn_is_change : Fn := fun ss Q => match ss with
  | [.d x, .d v] => (match planOf x with | some p => Q (.d (.bool (isWithin v p.wl p.wh))) | none => False)
  | _ => False
def fn_look_at_choice : Fn := fun ss Q => match ss with
  | [.d x, .d v] => (match planOf x with | some p => isWithin v p.wl p.wh = true ∧ Q (.d .none) | none => False)
  | _ => False
def fn_after : Fn := fun ss Q => match ss with
  | [.d x, .d y, .d (.int ch)] => (match planOf x, standOf y with
    | some p, some s => (p.ok ∧ s.fits p ∧ p.wl ≤ ch ∧ ch ≤ p.wh) ∧ Q (.d (behind p s ch).d)
    | _, _ => False)
  | _ => False
def fn__law_told : Fn := fn_told_by
def fn__law_part : Fn := fun ss Q => match ss with
  | [.d x, .d y, .d (.bool a), .d (.bool b)] => (match devOf x, partOf y with
    | some x, some q => Q (.d (goesOn x q a b true).d)
    | _, _ => False)
  | _ => False
def fn__law_parts : Fn := fn_parts_by
def fn__law_after : Fn := fn_behind
def fn__law_on : Fn := fnPS fun p s => .tuple [.bool (partH p s).runs, .bool (partC p s).runs]
def fn__law_first : Fn := fun ss Q => match ss with
  | [.d x] => (match planOf x with | some p => p.ok ∧ Q (.d (firstStand p).d) | none => False)
  | _ => False
def fn_begin_of : Fn := fn__law_first
def changes (p : Pl) : List D := upto p.wl (p.wh + 1 - p.wl).toNat
def fn__law_changes : Fn := fun ss Q => match ss with
  | [.d x] => (match planOf x with | some p => p.ok ∧ Q (.d (.list (changes p))) | none => False)
  | _ => False

/-! ### draws -/
/-- the spring: two numbers -/
def spr (a b : Int) : Ow := .lst [.int a, .int b]
def fn__law_spring : FnN := fun ss Q => match ss with
  | [.d (.list ds), .d (.int at_)] => (match intsD ds with
    | some ns => (0 ≤ at_ ∧ at_ < 64) ∧ ∀ a b, Q (spr a b)
    | none => False)
  | _ => False
def fn__law_pick : FnO := fun o ss Q => match o, ss with
  | .lst [.int _, .int _], [.d (.int m)] => (1 ≤ m ∧ m < 1073741824) ∧ ∀ r a b : Int, 0 ≤ r → r < m → Q (.d (.int r)) (spr a b)
  | _, _ => False
structure Dev.drawn (low : Int) (x : Dev) : Prop where
  l0 : low ≤ x.low
  l3 : x.low ≤ low + 3
  h1 : x.low + 1 ≤ x.high
  h4 : x.high ≤ x.low + 4
  on1 : 1 ≤ x.on
  on3 : x.on ≤ 3
  off1 : 1 ≤ x.off
  off3 : x.off ≤ 3
  p1 : 1 ≤ x.power
  p4 : x.power ≤ 4
structure Pl.drawn (late : Int) (p : Pl) : Prop where
  h : p.h.drawn 2
  c : p.c.drawn 4
  la0 : 0 ≤ p.late
  la : p.late ≤ late
  st1 : 1 ≤ p.step
  st3 : p.step ≤ 3
  w0 : -2 ≤ p.wl
  w1 : p.wl ≤ p.wh
  w2 : p.wh ≤ p.wl + 2
  w3 : p.wl ≤ 1
  w4 : p.wh ≤ 3
  bar : isBar p.bar = true
  b3 : 3 ≤ p.beg
  b11 : p.beg ≤ 11
theorem Dev.drawn.ok {low : Int} {x : Dev} (h : x.drawn low) (h0 : 0 ≤ low) (h1 : low ≤ 4) : x.ok :=
  ⟨by have := h.l0; omega, by have := h.h1; omega, by have := h.l3; have := h.h4; omega, h.on1, h.on3, h.off1, h.off3, h.p1, h.p4⟩
theorem Pl.drawn.ok {late : Int} {p : Pl} (h : p.drawn late) (h2 : late ≤ 2) : p.ok :=
  ⟨h.h.ok (by decide) (by decide), h.c.ok (by decide) (by decide), h.la0, by have := h.la; omega, h.st1, h.st3, by have := h.w0; omega, h.w1, h.w4, h.bar, by have := h.b3; omega, by have := h.b11; omega⟩
def fn__law_device : FnO := fun o ss Q => match o, ss with
  | .lst [.int _, .int _], [.d (.int low)] => ∀ (x : Dev) (a b : Int), x.drawn low → Q (.d x.d) (spr a b)
  | _, _ => False
def fn__law_plan : FnO := fun o ss Q => match o, ss with
  | .lst [.int _, .int _], [.d (.int late)] => (0 ≤ late ∧ late ≤ 2) ∧ ∀ (p : Pl) (a b : Int), p.drawn late → Q (.d p.d) (spr a b)
  | _, _ => False
/-! ### likeness -/
def kindD : D → Int
  | .none => 0
  | .bool _ => 1
  | .list _ => 2
  | .tuple _ => 3
  | .int _ => 4
  | .str _ => 5
  | .dict _ => 6
mutual
/-- equal, with the same kinds all through -/
def twins : D → D → Bool
  | .none, .none => true
  | .bool a, .bool b => a == b
  | .int a, .int b => a == b
  | .str a, .str b => a == b
  | .list xs, .list ys => twinsL xs ys
  | .tuple xs, .tuple ys => twinsL xs ys
  | _, _ => false
def twinsL : List D → List D → Bool
  | [], [] => true
  | x :: xs, y :: ys => twins x y && twinsL xs ys
  | _, _ => false
end
mutual
/-- no deeper than so, no dict, texts that can be compared -/
def low (n : Nat) : D → Bool
  | .list xs => match n with
    | 0 => false
    | n + 1 => decide (xs.length ≤ 1000000) && lowL n xs
  | .tuple xs => match n with
    | 0 => false
    | n + 1 => decide (xs.length ≤ 1000000) && lowL n xs
  | .dict _ => false
  | .str x => SeqAt.shaped (.str x)
  | _ => true
def lowL (n : Nat) : List D → Bool
  | [] => true
  | x :: xs => low n x && lowL n xs
end
def fn__law_kind : Fn := fun ss Q => match ss with
  | [.d x] => Q (.d (.int (kindD x)))
  | _ => False
/-- .. where the first is no deeper than n -/
def fn_twins (n : Nat) : Fn := fun ss Q => match ss with
  | [.d x, .d y] => (low n x = true ∧ low n y = true) ∧ Q (.d (.bool (twins x y)))
  | _ => False
/-- the depth that all laws keep to -/
def fn__law_twins : Fn := fn_twins 12
end Aq
/-! B2: the defs' data programs give what is said (plans, stands, ticks). -/
namespace Aq
open PySem PySem.Spec PyProof.Rows L2
abbrev EF (Q' : S → Prop) : DEnds := { nx := fun _ => Q' (.d .none), rt := fun r _ => Q' r }
abbrev EO (Q' : S → Ow → Prop) : DEnds := { nx := fun ρ => lentEnd Q' (.d .none) ρ, rt := fun r ρ => lentEnd Q' r ρ }
abbrev EN (Q' : Ow → Prop) : DEnds := { nx := fun _ => False, rt := fun _ _ => False, rn := fun o _ => Q' o }
def g_is_within : FS := (sRet (fAndV (fCall fIsi (fCons (fVar 0) (fCons (fRaw (.raw (.ty "int"))) fNil))) (fAndV (fNotV (fCall fIsi (fCons (fVar 0) (fCons (fRaw (.raw (.ty "bool"))) fNil)))) (fChain (f2I TT2 fun i j => .bool (decide (i ≤ j))) (f2I TT2 fun i j => .bool (decide (i ≤ j))) (fVar 1) (fVar 0) (fVar 2)))))
def g_is_row : FS := (sRet (fAndV (fCall fIsi (fCons (fVar 0) (fCons (fRaw (.raw (.ty "tuple"))) fNil))) (fOp (fEq false) (fCall fLen (fCons (fVar 0) fNil)) (fVar 1))))
def g_is_device : FS := (sSeq (sIf (fOr (fNot (fTest (fCall fn_is_row (fCons (fVar 0) (fCons (fC (.int 5)) fNil))))) (fOr (fNot (fTest (fCall fn_is_within (fCons (fOp fIx (fVar 0) (fC (.int 1))) (fCons (fC (.int 1)) (fCons (fRaw (.d (.int 15))) fNil)))))) (fNot (fTest (fCall fn_is_within (fCons (fOp fIx (fVar 0) (fC (.int 0))) (fCons (fC (.int 0)) (fCons (fOp (f2I TT2 fun i j => .int (i - j)) (fOp fIx (fVar 0) (fC (.int 1))) (fC (.int 1))) fNil)))))))) (sRet (fC (.bool false))) sNext)
    (sRet (fAndV (fCall fn_is_within (fCons (fOp fIx (fVar 0) (fC (.int 2))) (fCons (fC (.int 1)) (fCons (fC (.int 3)) fNil)))) (fAndV (fCall fn_is_within (fCons (fOp fIx (fVar 0) (fC (.int 3))) (fCons (fC (.int 1)) (fCons (fC (.int 3)) fNil)))) (fCall fn_is_within (fCons (fOp fIx (fVar 0) (fC (.int 4))) (fCons (fC (.int 1)) (fCons (fC (.int 4)) fNil))))))))
def g_is_plan : FS := (sSeq (sIf (fOr (fNot (fTest (fCall fn_is_row (fCons (fVar 0) (fCons (fC (.int 6)) fNil))))) (fOr (fNot (fTest (fCall fn_is_device (fCons (fOp fIx (fVar 0) (fC (.int 0))) fNil)))) (fNot (fTest (fCall fn_is_device (fCons (fOp fIx (fVar 0) (fC (.int 1))) fNil)))))) (sRet (fC (.bool false))) sNext)
    (sSeq (sIf (fOr (fNot (fTest (fCall fn_is_row (fCons (fOp fIx (fVar 0) (fC (.int 2))) (fCons (fC (.int 2)) fNil))))) (fOr (fNot (fTest (fCall fn_is_within (fCons (fOp fIx (fOp fIx (fVar 0) (fC (.int 2))) (fC (.int 0))) (fCons (fC (.int 0)) (fCons (fC (.int 2)) fNil)))))) (fNot (fTest (fCall fn_is_within (fCons (fOp fIx (fOp fIx (fVar 0) (fC (.int 2))) (fC (.int 1))) (fCons (fC (.int 1)) (fCons (fC (.int 3)) fNil)))))))) (sRet (fC (.bool false))) sNext)
    (sSeq (sIf (fOr (fNot (fTest (fCall fn_is_row (fCons (fOp fIx (fVar 0) (fC (.int 3))) (fCons (fC (.int 2)) fNil))))) (fOr (fNot (fTest (fCall fn_is_within (fCons (fOp fIx (fOp fIx (fVar 0) (fC (.int 3))) (fC (.int 0))) (fCons (fNeg (fC (.int 3))) (fCons (fC (.int 3)) fNil)))))) (fNot (fTest (fCall fn_is_within (fCons (fOp fIx (fOp fIx (fVar 0) (fC (.int 3))) (fC (.int 1))) (fCons (fOp fIx (fOp fIx (fVar 0) (fC (.int 3))) (fC (.int 0))) (fCons (fC (.int 3)) fNil)))))))) (sRet (fC (.bool false))) sNext)
    (sSeq (sIf (fOr (fNot (fTest (fCall fIsi (fCons (fOp fIx (fVar 0) (fC (.int 4))) (fCons (fRaw (.raw (.ty "str"))) fNil))))) (fTest (fOp (fIn true) (fOp fIx (fVar 0) (fC (.int 4))) (fTup (fCons (fC (.str "none")) (fCons (fC (.str "heater")) (fCons (fC (.str "cooler")) fNil))))))) (sRet (fC (.bool false))) sNext)
    (sRet (fCall fn_is_within (fCons (fOp fIx (fVar 0) (fC (.int 5))) (fCons (fC (.int 0)) (fCons (fRaw (.d (.int 15))) fNil)))))))))
def g_look_at_plan : FS := (sIf (fNot (fTest (fCall fn_is_plan (fCons (fVar 0) fNil)))) sNever sNext)
def g_is_part : FS := (sSeq (sIf (fOr (fNot (fTest (fCall fn_is_row (fCons (fVar 1) (fCons (fC (.int 2)) fNil))))) (fNot (fTest (fCall fIsi (fCons (fOp fIx (fVar 1) (fC (.int 0))) (fCons (fRaw (.raw (.ty "bool"))) fNil)))))) (sRet (fC (.bool false))) sNext)
    (sRet (fCall fn_is_within (fCons (fOp fIx (fVar 1) (fC (.int 1))) (fCons (fC (.int 0)) (fCons (fIf (fTest (fOp fIx (fVar 1) (fC (.int 0)))) (fOp fIx (fVar 0) (fC (.int 2))) (fOp fIx (fVar 0) (fC (.int 3)))) fNil))))))
def g_fits : FS := (sSeq (sIf (fOr (fNot (fTest (fCall fn_is_row (fCons (fVar 1) (fCons (fC (.int 4)) fNil))))) (fOr (fNot (fTest (fCall fn_is_within (fCons (fOp fIx (fVar 1) (fC (.int 0))) (fCons (fC (.int 0)) (fCons (fRaw (.d (.int 15))) fNil)))))) (fNot (fTest (fCall fn_is_row (fCons (fOp fIx (fVar 1) (fC (.int 1))) (fCons (fOp fIx (fOp fIx (fVar 0) (fC (.int 2))) (fC (.int 0))) fNil))))))) (sRet (fC (.bool false))) sNext)
    (sSeq (sIf (fNot (fTest (fCall fAll (fCons (fStill (fnLc (fiTup (fOp fIx (fVar 1) (fC (.int 1)))) (gNm 2) fYes (fCall fn_is_within (fCons (fVar 2) (fCons (fC (.int 0)) (fCons (fRaw (.d (.int 15))) fNil)))) [2])) fNil)))) (sRet (fC (.bool false))) sNext)
    (sRet (fAndV (fCall fn_is_part (fCons (fOp fIx (fVar 0) (fC (.int 0))) (fCons (fOp fIx (fVar 1) (fC (.int 2))) fNil))) (fCall fn_is_part (fCons (fOp fIx (fVar 0) (fC (.int 1))) (fCons (fOp fIx (fVar 1) (fC (.int 3))) fNil)))))))
def g_is_stand : FS := (sSeq (sExpr (fCall fn_look_at_plan (fCons (fVar 0) fNil)))
    (sRet (fCall fn_fits (fCons (fVar 0) (fCons (fVar 1) fNil)))))
def g_look_at_stand : FS := (sIf (fNot (fTest (fCall fn_fits (fCons (fVar 0) (fCons (fVar 1) fNil))))) sNever sNext)
def g_told_by : FS := (sSeq (sAsg (fOp fIx (fVar 0) (fC (.int 2))) (gTp 2 (gsCons (gNm 2) (gsCons (gNm 3) gsNil))))
    (sSeq (sAsg (fIf (fTest (fOp (f2I TT2 fun i j => .bool (decide (j < i))) (fVar 2) (fC (.int 0)))) (fOp fIx (fOp fIx (fVar 1) (fC (.int 1))) (fNeg (fC (.int 1)))) (fOp fIx (fVar 1) (fC (.int 0)))) (gNm 4))
    (sRet (fOp fMul (fVar 3) (fOp (f2I CDiv fun i j => .int (i / j)) (fVar 4) (fVar 3))))))
def g_goes_on : FS := (sSeq (sAsg (fVar 0) (gTp 5 (gsCons (gNm 5) (gsCons (gNm 6) (gsCons (gNm 7) (gsCons (gNm 8) (gsCons (gNm 9) gsNil)))))))
    (sSeq (sAsg (fVar 1) (gTp 2 (gsCons (gNm 10) (gsCons (gNm 11) gsNil))))
    (sSeq (sIf (fOr (fAnd (fTest (fVar 10)) (fAnd (fTest (fVar 3)) (fTest (fOp (f2I TT2 fun i j => .bool (decide (j ≤ i))) (fVar 11) (fVar 7))))) (fAnd (fNot (fTest (fVar 10))) (fAnd (fTest (fVar 2)) (fAnd (fTest (fOp (f2I TT2 fun i j => .bool (decide (j ≤ i))) (fVar 11) (fVar 8))) (fTest (fVar 4)))))) (sRet (fTup (fCons (fNotV (fVar 10)) (fCons (fC (.int 1)) fNil)))) sNext)
    (sRet (fTup (fCons (fVar 10) (fCons (fCall fMin2 (fCons (fIf (fTest (fVar 10)) (fVar 7) (fVar 8)) (fCons (fOp fAdd (fVar 11) (fC (.int 1))) fNil))) fNil)))))))
def g_parts_by : FS := (sSeq (sPar 2 3 (fCons (fCall fn_told_by (fCons (fVar 0) (fCons (fVar 1) fNil))) (fCons (fOp fIx (fVar 0) (fC (.int 4))) fNil)))
    (sSeq (sPar 4 5 (fCons (fOp fIx (fVar 1) (fC (.int 2))) (fCons (fOp fIx (fVar 1) (fC (.int 3))) fNil)))
    (sSeq (sAsg (fCall fn_goes_on (fCons (fOp fIx (fVar 0) (fC (.int 0))) (fCons (fVar 4) (fCons (fOp (f2I TT2 fun i j => .bool (decide (i ≤ j))) (fVar 2) (fOp fIx (fOp fIx (fVar 0) (fC (.int 0))) (fC (.int 0)))) (fCons (fOp (f2I TT2 fun i j => .bool (decide (j ≤ i))) (fVar 2) (fOp fIx (fOp fIx (fVar 0) (fC (.int 0))) (fC (.int 1)))) (fCons (fOrV (fOp (fEq true) (fVar 3) (fC (.str "heater"))) (fNotV (fOp fIx (fVar 5) (fC (.int 0))))) fNil)))))) (gNm 6))
    (sSeq (sAsg (fCall fn_goes_on (fCons (fOp fIx (fVar 0) (fC (.int 1))) (fCons (fVar 5) (fCons (fOp (f2I TT2 fun i j => .bool (decide (j ≤ i))) (fVar 2) (fOp fIx (fOp fIx (fVar 0) (fC (.int 1))) (fC (.int 1)))) (fCons (fOp (f2I TT2 fun i j => .bool (decide (i ≤ j))) (fVar 2) (fOp fIx (fOp fIx (fVar 0) (fC (.int 1))) (fC (.int 0)))) (fCons (fOrV (fOp (fEq true) (fVar 3) (fC (.str "cooler"))) (fNotV (fOp fIx (fVar 4) (fC (.int 0))))) fNil)))))) (gNm 7))
    (sRet (fTup (fCons (fVar 6) (fCons (fVar 7) fNil))))))))
def g_behind : FS := (sSeq (sAsg (fCall fn_parts_by (fCons (fVar 0) (fCons (fVar 1) fNil))) (gTp 2 (gsCons (gNm 3) (gsCons (gNm 4) gsNil))))
    (sSeq (sAsg (fOp (f2I TT2 fun i j => .int (i - j)) (fOp fAdd (fOp fAdd (fOp fIx (fVar 1) (fC (.int 0))) (fVar 2)) (fOp fMul (fOp fIx (fOp fIx (fVar 0) (fC (.int 0))) (fC (.int 4))) (fCall fInt (fCons (fOp fIx (fVar 3) (fC (.int 0))) fNil)))) (fOp fMul (fOp fIx (fOp fIx (fVar 0) (fC (.int 1))) (fC (.int 4))) (fCall fInt (fCons (fOp fIx (fVar 4) (fC (.int 0))) fNil)))) (gNm 5))
    (sSeq (sAsg (fSl (fOp fAdd (fTup (fCons (fOp fIx (fVar 1) (fC (.int 0))) fNil)) (fOp fIx (fVar 1) (fC (.int 1)))) fNoPart (fPart (fOp fIx (fOp fIx (fVar 0) (fC (.int 2))) (fC (.int 0))))) (gNm 6))
    (sRet (fTup (fCons (fCall fMin2 (fCons (fRaw (.d (.int 15))) (fCons (fCall fMax2 (fCons (fC (.int 0)) (fCons (fVar 5) fNil))) fNil))) (fCons (fVar 6) (fCons (fVar 3) (fCons (fVar 4) fNil)))))))))
def g_is_change : FS := (sRet (fCall fn_is_within (fCons (fVar 1) (fCons (fOp fIx (fOp fIx (fVar 0) (fC (.int 3))) (fC (.int 0))) (fCons (fOp fIx (fOp fIx (fVar 0) (fC (.int 3))) (fC (.int 1))) fNil)))))
def g_look_at_choice : FS := (sIf (fNot (fTest (fCall fn_is_change (fCons (fVar 0) (fCons (fVar 1) fNil))))) sNever sNext)
def g_told : FS := (sSeq (sExpr (fCall fn_look_at_plan (fCons (fVar 0) fNil)))
    (sSeq (sExpr (fCall fn_look_at_stand (fCons (fVar 0) (fCons (fVar 1) fNil))))
    (sRet (fCall fn_told_by (fCons (fVar 0) (fCons (fVar 1) fNil))))))
def g_running : FS := (sSeq (sExpr (fCall fn_look_at_plan (fCons (fVar 0) fNil)))
    (sSeq (sExpr (fCall fn_look_at_stand (fCons (fVar 0) (fCons (fVar 1) fNil))))
    (sRet (fCall fTupOf (fCons (fStill (fnLc (fiTup (fCall fn_parts_by (fCons (fVar 0) (fCons (fVar 1) fNil)))) (gNm 2) fYes (fOp fIx (fVar 2) (fC (.int 0))) [2])) fNil)))))
def g_after : FS := (sSeq (sExpr (fCall fn_look_at_plan (fCons (fVar 0) fNil)))
    (sSeq (sExpr (fCall fn_look_at_stand (fCons (fVar 0) (fCons (fVar 1) fNil))))
    (sSeq (sExpr (fCall fn_look_at_choice (fCons (fVar 0) (fCons (fVar 2) fNil))))
    (sRet (fCall fn_behind (fCons (fVar 0) (fCons (fVar 1) (fCons (fVar 2) fNil))))))))
theorem d_is_within (ss : List S) (Q' : S → Prop) (h : fn_is_within ss Q') : g_is_within (EF Q') (slots0 3 ss) := by
  unfold fn_is_within at h
  split at h
  · rename_i v lo hi
    cases v <;> simp [g_is_within, isTy, okTy, isWithin, sSeq, sRet, sRetN, sRetW, sIf, sNext, sNever, sExpr, sAsg, sNew, sNewS, sPar, sPar3, sApp, sSetIx, sDPut, sPar3W, fnD0, fnD1, fnOwn, fIxDN, fInDN, fIxZ, fInZ, fLenZ, fListZ, fGetZ, fMaxL, fMinL, fVar, fC, fRaw, fNil, fCons, fTup, fLst, fOp, fTest, fChain, fAnd, fOr, fNot, fAndV, fOrV, fNotV, fIf, fIfT, fStill, still, fnLst, gNm, gTp, gsCons, gsNil, fCall, fCallO, fCallN, fIxN, fLenN, fSl, fPart, fNoPart, fNeg, fIsi, fIsi2, fLen, fAbs, fInt, fMax2, fMin2, fTupOf, fListOf, fSorted, fLstR, fAll, fAny, fIx, fIn, fEq, fIsN, fAdd, fMul, f2I, unD, slots0, settable, ownAt, owned, lentEnd, fiLst, fiTup, fiR1, fiR2, fiZip, fiZip3, fiKeysZ, fiItemsZ, fYes, wipeS] at h ⊢ <;> try exact h
    rename_i i
    by_cases h1 : lo ≤ i <;> simp [h1] at h ⊢ <;> exact h
  · exact h.elim
theorem shaped_int (i : Int) : SeqAt.shaped (.int i) = true := rfl
theorem shaped_bool (i : Bool) : SeqAt.shaped (.bool i) = true := rfl
theorem d_is_row (ss : List S) (Q' : S → Prop) (h : fn_is_row ss Q') : g_is_row (EF Q') (slots0 2 ss) := by
  unfold fn_is_row at h
  split at h
  · rename_i v n
    cases v <;> simp [g_is_row, isTy, okTy, isRow, shaped_int, PyData.eqv, sSeq, sRet, sRetN, sRetW, sIf, sNext, sNever, sExpr, sAsg, sNew, sNewS, sPar, sPar3, sApp, sSetIx, sDPut, sPar3W, fnD0, fnD1, fnOwn, fIxDN, fInDN, fIxZ, fInZ, fLenZ, fListZ, fGetZ, fMaxL, fMinL, fVar, fC, fRaw, fNil, fCons, fTup, fLst, fOp, fTest, fChain, fAnd, fOr, fNot, fAndV, fOrV, fNotV, fIf, fIfT, fStill, still, fnLst, gNm, gTp, gsCons, gsNil, fCall, fCallO, fCallN, fIxN, fLenN, fSl, fPart, fNoPart, fNeg, fIsi, fIsi2, fLen, fAbs, fInt, fMax2, fMin2, fTupOf, fListOf, fSorted, fLstR, fAll, fAny, fIx, fIn, fEq, fIsN, fAdd, fMul, f2I, unD, slots0, settable, ownAt, owned, lentEnd, fiLst, fiTup, fiR1, fiR2, fiZip, fiZip3, fiKeysZ, fiItemsZ, fYes, wipeS] at h ⊢ <;> try exact h
  · exact h.elim
theorem isRow2 {v : D} : isRow v 2 = true ↔ ∃ a b, v = .tuple [a, b] := by
  constructor
  · intro h
    unfold isRow at h
    split at h
    · rename_i ds
      rw [decide_eq_true_eq] at h
      match ds, h with
      | [a, b], _ => exact ⟨a, b, rfl⟩
      | [], h => simp at h
      | [_], h => simp at h
      | _ :: _ :: _ :: _, h => simp at h; omega
    · cases h
  · rintro ⟨a, b, rfl⟩; rfl
theorem isRow4 {v : D} : isRow v 4 = true ↔ ∃ a b c d, v = .tuple [a, b, c, d] := by
  constructor
  · intro h
    unfold isRow at h
    split at h
    · rename_i ds
      rw [decide_eq_true_eq] at h
      match ds, h with
      | [a, b, c, d], _ => exact ⟨a, b, c, d, rfl⟩
      | [], h => simp at h
      | [_], h => simp at h
      | [_, _], h => simp at h
      | [_, _, _], h => simp at h
      | _ :: _ :: _ :: _ :: _ :: _, h => simp at h; omega
    · cases h
  · rintro ⟨a, b, c, d, rfl⟩; rfl
theorem isRow5 {v : D} : isRow v 5 = true ↔ ∃ a b c d e, v = .tuple [a, b, c, d, e] := by
  constructor
  · intro h
    unfold isRow at h
    split at h
    · rename_i ds
      rw [decide_eq_true_eq] at h
      match ds, h with
      | [a, b, c, d, e], _ => exact ⟨a, b, c, d, e, rfl⟩
      | [], h => simp at h
      | [_], h => simp at h
      | [_, _], h => simp at h
      | [_, _, _], h => simp at h
      | [_, _, _, _], h => simp at h
      | _ :: _ :: _ :: _ :: _ :: _ :: _, h => simp at h; omega
    · cases h
  · rintro ⟨a, b, c, d, e, rfl⟩; rfl
theorem isRow6 {v : D} : isRow v 6 = true ↔ ∃ a b c d e f, v = .tuple [a, b, c, d, e, f] := by
  constructor
  · intro h
    unfold isRow at h
    split at h
    · rename_i ds
      rw [decide_eq_true_eq] at h
      match ds, h with
      | [a, b, c, d, e, f], _ => exact ⟨a, b, c, d, e, f, rfl⟩
      | [], h => simp at h
      | [_], h => simp at h
      | [_, _], h => simp at h
      | [_, _, _], h => simp at h
      | [_, _, _, _], h => simp at h
      | [_, _, _, _, _], h => simp at h
      | _ :: _ :: _ :: _ :: _ :: _ :: _ :: _, h => simp at h; omega
    · cases h
  · rintro ⟨a, b, c, d, e, f, rfl⟩; rfl
theorem isDevice_row {v : D} (h : ¬ isRow v 5 = true) : isDevice v = false := by
  cases e : isDevice v with
  | false => rfl
  | true =>
    obtain ⟨x, rfl, _⟩ := isDevice_some e
    exact absurd rfl h
theorem isWithin_int {v : D} {lo hi : Int} (h : isWithin v lo hi = true) : ∃ i, v = .int i := by
  unfold isWithin at h
  split at h
  · exact ⟨_, rfl⟩
  · cases h
theorem isDevice_b {a b c d e : D} (h : isWithin b 1 15 = false) : isDevice (.tuple [a, b, c, d, e]) = false := by
  cases q : isDevice (.tuple [a, b, c, d, e]) with
  | false => rfl
  | true =>
    obtain ⟨x, hx, ok⟩ := isDevice_some q
    unfold Dev.d at hx
    cases hx
    have h1 := ok.l0
    have h2 := ok.lh
    have h3 := ok.h15
    simp [isWithin] at h
    omega
theorem d_is_device (ss : List S) (Q' : S → Prop) (h : fn_is_device ss Q') : g_is_device (EF Q') (slots0 1 ss) := by
  unfold fn_is_device at h
  split at h
  · rename_i v
    by_cases hr : isRow v 5 = true
    · obtain ⟨a, b, c, d, e, rfl⟩ := isRow5.mp hr
      cases hb : isWithin b 1 15 with
      | false =>
        have q := isDevice_b (a := a) (c := c) (d := d) (e := e) hb
        simp [g_is_device, fn_is_row, fn_is_within, hr, atI, ixN, hb, q, sSeq, sRet, sRetN, sRetW, sIf, sNext, sNever, sExpr, sAsg, sNew, sNewS, sPar, sPar3, sApp, sSetIx, sDPut, sPar3W, fnD0, fnD1, fnOwn, fIxDN, fInDN, fIxZ, fInZ, fLenZ, fListZ, fGetZ, fMaxL, fMinL, fVar, fC, fRaw, fNil, fCons, fTup, fLst, fOp, fTest, fChain, fAnd, fOr, fNot, fAndV, fOrV, fNotV, fIf, fIfT, fStill, still, fnLst, gNm, gTp, gsCons, gsNil, fCall, fCallO, fCallN, fIxN, fLenN, fSl, fPart, fNoPart, fNeg, fIsi, fIsi2, fLen, fAbs, fInt, fMax2, fMin2, fTupOf, fListOf, fSorted, fLstR, fAll, fAny, fIx, fIn, fEq, fIsN, fAdd, fMul, f2I, unD, slots0, settable, ownAt, owned, lentEnd, fiLst, fiTup, fiR1, fiR2, fiZip, fiZip3, fiKeysZ, fiItemsZ, fYes, wipeS] at h ⊢
        exact h
      | true =>
        obtain ⟨i, rfl⟩ := isWithin_int hb
        have hb' := hb
        simp only [isWithin, Bool.and_eq_true, decide_eq_true_eq] at hb'
        simp [g_is_device, fn_is_row, fn_is_within, hr, atI, ixN, hb, hb'.1, hb'.2, isDevice, sSeq, sRet, sRetN, sRetW, sIf, sNext, sNever, sExpr, sAsg, sNew, sNewS, sPar, sPar3, sApp, sSetIx, sDPut, sPar3W, fnD0, fnD1, fnOwn, fIxDN, fInDN, fIxZ, fInZ, fLenZ, fListZ, fGetZ, fMaxL, fMinL, fVar, fC, fRaw, fNil, fCons, fTup, fLst, fOp, fTest, fChain, fAnd, fOr, fNot, fAndV, fOrV, fNotV, fIf, fIfT, fStill, still, fnLst, gNm, gTp, gsCons, gsNil, fCall, fCallO, fCallN, fIxN, fLenN, fSl, fPart, fNoPart, fNeg, fIsi, fIsi2, fLen, fAbs, fInt, fMax2, fMin2, fTupOf, fListOf, fSorted, fLstR, fAll, fAny, fIx, fIn, fEq, fIsN, fAdd, fMul, f2I, unD, slots0, settable, ownAt, owned, lentEnd, fiLst, fiTup, fiR1, fiR2, fiZip, fiZip3, fiKeysZ, fiItemsZ, fYes, wipeS] at h ⊢
        revert h; cases isWithin a 0 (i - 1) <;> cases isWithin c 1 3 <;> cases isWithin d 1 3 <;> simp
    · have e := isDevice_row hr
      simp [g_is_device, fn_is_row, hr, e, sSeq, sRet, sRetN, sRetW, sIf, sNext, sNever, sExpr, sAsg, sNew, sNewS, sPar, sPar3, sApp, sSetIx, sDPut, sPar3W, fnD0, fnD1, fnOwn, fIxDN, fInDN, fIxZ, fInZ, fLenZ, fListZ, fGetZ, fMaxL, fMinL, fVar, fC, fRaw, fNil, fCons, fTup, fLst, fOp, fTest, fChain, fAnd, fOr, fNot, fAndV, fOrV, fNotV, fIf, fIfT, fStill, still, fnLst, gNm, gTp, gsCons, gsNil, fCall, fCallO, fCallN, fIxN, fLenN, fSl, fPart, fNoPart, fNeg, fIsi, fIsi2, fLen, fAbs, fInt, fMax2, fMin2, fTupOf, fListOf, fSorted, fLstR, fAll, fAny, fIx, fIn, fEq, fIsN, fAdd, fMul, f2I, unD, slots0, settable, ownAt, owned, lentEnd, fiLst, fiTup, fiR1, fiR2, fiZip, fiZip3, fiKeysZ, fiItemsZ, fYes, wipeS] at h ⊢
      exact h
  · exact h.elim
theorem isPlan_row {v : D} (h : ¬ isRow v 6 = true) : isPlan v = false := by
  cases e : isPlan v with
  | false => rfl
  | true =>
    obtain ⟨x, rfl, _⟩ := isPlan_some e
    exact absurd rfl h
theorem isPlan_row2 {a b c d e f : D} (h : ¬ isRow c 2 = true) : isPlan (.tuple [a, b, c, d, e, f]) = false := by
  cases q : isPlan (.tuple [a, b, c, d, e, f]) with
  | false => rfl
  | true =>
    obtain ⟨x, hx, _⟩ := isPlan_some q
    unfold Pl.d at hx
    cases hx
    exact absurd rfl h
theorem isPlan_row3 {a b c d e f : D} (h : ¬ isRow d 2 = true) : isPlan (.tuple [a, b, c, d, e, f]) = false := by
  cases q : isPlan (.tuple [a, b, c, d, e, f]) with
  | false => rfl
  | true =>
    obtain ⟨x, hx, _⟩ := isPlan_some q
    unfold Pl.d at hx
    cases hx
    exact absurd rfl h
theorem str_beq_comm (a b : Str) : (a == b) = (b == a) := by
  by_cases e : a = b
  · subst e; rfl
  · rw [beq_eq_false_iff_ne.mpr e, beq_eq_false_iff_ne.mpr (fun z => e z.symm)]
theorem d_is_plan (ss : List S) (Q' : S → Prop) (h : fn_is_plan ss Q') : g_is_plan (EF Q') (slots0 1 ss) := by
  unfold fn_is_plan at h
  split at h
  · rename_i v
    by_cases hr : isRow v 6 = true
    · obtain ⟨a, b, c, d, e, f, rfl⟩ := isRow6.mp hr
      by_cases h1 : isDevice a = true
      case neg =>
        have e : isPlan (.tuple [a, b, c, d, e, f]) = false := by
          cases q : isPlan (.tuple [a, b, c, d, e, f]) with
          | false => rfl
          | true => obtain ⟨x, hx, ok⟩ := isPlan_some q; unfold Pl.d at hx; cases hx; exact absurd (isDevice_d.mpr ok.h) h1
        simp [g_is_plan, fn_is_row, fn_is_device, isRow, atI, ixN, h1, e, sSeq, sRet, sRetN, sRetW, sIf, sNext, sNever, sExpr, sAsg, sNew, sNewS, sPar, sPar3, sApp, sSetIx, sDPut, sPar3W, fnD0, fnD1, fnOwn, fIxDN, fInDN, fIxZ, fInZ, fLenZ, fListZ, fGetZ, fMaxL, fMinL, fVar, fC, fRaw, fNil, fCons, fTup, fLst, fOp, fTest, fChain, fAnd, fOr, fNot, fAndV, fOrV, fNotV, fIf, fIfT, fStill, still, fnLst, gNm, gTp, gsCons, gsNil, fCall, fCallO, fCallN, fIxN, fLenN, fSl, fPart, fNoPart, fNeg, fIsi, fIsi2, fLen, fAbs, fInt, fMax2, fMin2, fTupOf, fListOf, fSorted, fLstR, fAll, fAny, fIx, fIn, fEq, fIsN, fAdd, fMul, f2I, unD, slots0, settable, ownAt, owned, lentEnd, fiLst, fiTup, fiR1, fiR2, fiZip, fiZip3, fiKeysZ, fiItemsZ, fYes, wipeS] at h ⊢
        exact h
      by_cases h2 : isDevice b = true
      case neg =>
        have e : isPlan (.tuple [a, b, c, d, e, f]) = false := by
          cases q : isPlan (.tuple [a, b, c, d, e, f]) with
          | false => rfl
          | true => obtain ⟨x, hx, ok⟩ := isPlan_some q; unfold Pl.d at hx; cases hx; exact absurd (isDevice_d.mpr ok.c) h2
        simp [g_is_plan, fn_is_row, fn_is_device, isRow, atI, ixN, h1, h2, e, sSeq, sRet, sRetN, sRetW, sIf, sNext, sNever, sExpr, sAsg, sNew, sNewS, sPar, sPar3, sApp, sSetIx, sDPut, sPar3W, fnD0, fnD1, fnOwn, fIxDN, fInDN, fIxZ, fInZ, fLenZ, fListZ, fGetZ, fMaxL, fMinL, fVar, fC, fRaw, fNil, fCons, fTup, fLst, fOp, fTest, fChain, fAnd, fOr, fNot, fAndV, fOrV, fNotV, fIf, fIfT, fStill, still, fnLst, gNm, gTp, gsCons, gsNil, fCall, fCallO, fCallN, fIxN, fLenN, fSl, fPart, fNoPart, fNeg, fIsi, fIsi2, fLen, fAbs, fInt, fMax2, fMin2, fTupOf, fListOf, fSorted, fLstR, fAll, fAny, fIx, fIn, fEq, fIsN, fAdd, fMul, f2I, unD, slots0, settable, ownAt, owned, lentEnd, fiLst, fiTup, fiR1, fiR2, fiZip, fiZip3, fiKeysZ, fiItemsZ, fYes, wipeS] at h ⊢
        exact h
      by_cases h3 : isRow c 2 = true
      case neg =>
        have e' := isPlan_row2 (a := a) (b := b) (d := d) (e := e) (f := f) h3
        have e5 : (((6 : Nat) : Int) = 6) := rfl
        simp [g_is_plan, fn_is_row, fn_is_device, show isRow (.tuple [a, b, c, d, e, f]) 6 = true from rfl, atI, ixN, h1, h2, h3, e', sSeq, sRet, sRetN, sRetW, sIf, sNext, sNever, sExpr, sAsg, sNew, sNewS, sPar, sPar3, sApp, sSetIx, sDPut, sPar3W, fnD0, fnD1, fnOwn, fIxDN, fInDN, fIxZ, fInZ, fLenZ, fListZ, fGetZ, fMaxL, fMinL, fVar, fC, fRaw, fNil, fCons, fTup, fLst, fOp, fTest, fChain, fAnd, fOr, fNot, fAndV, fOrV, fNotV, fIf, fIfT, fStill, still, fnLst, gNm, gTp, gsCons, gsNil, fCall, fCallO, fCallN, fIxN, fLenN, fSl, fPart, fNoPart, fNeg, fIsi, fIsi2, fLen, fAbs, fInt, fMax2, fMin2, fTupOf, fListOf, fSorted, fLstR, fAll, fAny, fIx, fIn, fEq, fIsN, fAdd, fMul, f2I, unD, slots0, settable, ownAt, owned, lentEnd, fiLst, fiTup, fiR1, fiR2, fiZip, fiZip3, fiKeysZ, fiItemsZ, fYes, wipeS] at h ⊢
        exact h
      obtain ⟨l, s, rfl⟩ := isRow2.mp h3
      by_cases h4 : isRow d 2 = true
      case neg =>
        have e' := isPlan_row3 (a := a) (b := b) (c := .tuple [l, s]) (e := e) (f := f) h4
        simp [g_is_plan, fn_is_row, fn_is_device, fn_is_within, show isRow (.tuple [a, b, .tuple [l, s], d, e, f]) 6 = true from rfl, show isRow (.tuple [l, s]) 2 = true from rfl, atI, ixN, h1, h2, h4, e', sSeq, sRet, sRetN, sRetW, sIf, sNext, sNever, sExpr, sAsg, sNew, sNewS, sPar, sPar3, sApp, sSetIx, sDPut, sPar3W, fnD0, fnD1, fnOwn, fIxDN, fInDN, fIxZ, fInZ, fLenZ, fListZ, fGetZ, fMaxL, fMinL, fVar, fC, fRaw, fNil, fCons, fTup, fLst, fOp, fTest, fChain, fAnd, fOr, fNot, fAndV, fOrV, fNotV, fIf, fIfT, fStill, still, fnLst, gNm, gTp, gsCons, gsNil, fCall, fCallO, fCallN, fIxN, fLenN, fSl, fPart, fNoPart, fNeg, fIsi, fIsi2, fLen, fAbs, fInt, fMax2, fMin2, fTupOf, fListOf, fSorted, fLstR, fAll, fAny, fIx, fIn, fEq, fIsN, fAdd, fMul, f2I, unD, slots0, settable, ownAt, owned, lentEnd, fiLst, fiTup, fiR1, fiR2, fiZip, fiZip3, fiKeysZ, fiItemsZ, fYes, wipeS] at h ⊢
        revert h; cases isWithin l 0 2 <;> cases isWithin s 1 3 <;> simp
      obtain ⟨wl, wh, rfl⟩ := isRow2.mp h4
      cases hw : isWithin wl (-3) 3 with
      | false =>
        have e' : isPlan (.tuple [a, b, .tuple [l, s], .tuple [wl, wh], e, f]) = false := by
          cases q : isPlan (.tuple [a, b, .tuple [l, s], .tuple [wl, wh], e, f]) with
          | false => rfl
          | true =>
            obtain ⟨x, hx, ok⟩ := isPlan_some q
            unfold Pl.d at hx
            cases hx
            have := ok.w0
            have := ok.w1
            have := ok.w2
            simp [isWithin] at hw
            omega
        simp [g_is_plan, fn_is_row, fn_is_device, fn_is_within, show isRow (.tuple [a, b, .tuple [l, s], .tuple [wl, wh], e, f]) 6 = true from rfl, show isRow (.tuple [l, s]) 2 = true from rfl, show isRow (.tuple [wl, wh]) 2 = true from rfl, atI, ixN, h1, h2, hw, e', sSeq, sRet, sRetN, sRetW, sIf, sNext, sNever, sExpr, sAsg, sNew, sNewS, sPar, sPar3, sApp, sSetIx, sDPut, sPar3W, fnD0, fnD1, fnOwn, fIxDN, fInDN, fIxZ, fInZ, fLenZ, fListZ, fGetZ, fMaxL, fMinL, fVar, fC, fRaw, fNil, fCons, fTup, fLst, fOp, fTest, fChain, fAnd, fOr, fNot, fAndV, fOrV, fNotV, fIf, fIfT, fStill, still, fnLst, gNm, gTp, gsCons, gsNil, fCall, fCallO, fCallN, fIxN, fLenN, fSl, fPart, fNoPart, fNeg, fIsi, fIsi2, fLen, fAbs, fInt, fMax2, fMin2, fTupOf, fListOf, fSorted, fLstR, fAll, fAny, fIx, fIn, fEq, fIsN, fAdd, fMul, f2I, unD, slots0, settable, ownAt, owned, lentEnd, fiLst, fiTup, fiR1, fiR2, fiZip, fiZip3, fiKeysZ, fiItemsZ, fYes, wipeS] at h ⊢
        revert h; cases isWithin l 0 2 <;> cases isWithin s 1 3 <;> simp
      | true =>
        obtain ⟨wl, rfl⟩ := isWithin_int hw
        have hw' := hw
        simp only [isWithin, Bool.and_eq_true, decide_eq_true_eq] at hw'
        cases e with
        | str r =>
          simp [g_is_plan, fn_is_row, fn_is_device, fn_is_within, show isRow (.tuple [a, b, .tuple [l, s], .tuple [.int wl, wh], .str r, f]) 6 = true from rfl, show isRow (.tuple [l, s]) 2 = true from rfl, show isRow (.tuple [.int wl, wh]) 2 = true from rfl, atI, ixN, h1, h2, hw, hw'.1, hw'.2, isPlan, isBar, isTy, okTy, flatD, PyData.eqv, sizeLine_eq, sSeq, sRet, sRetN, sRetW, sIf, sNext, sNever, sExpr, sAsg, sNew, sNewS, sPar, sPar3, sApp, sSetIx, sDPut, sPar3W, fnD0, fnD1, fnOwn, fIxDN, fInDN, fIxZ, fInZ, fLenZ, fListZ, fGetZ, fMaxL, fMinL, fVar, fC, fRaw, fNil, fCons, fTup, fLst, fOp, fTest, fChain, fAnd, fOr, fNot, fAndV, fOrV, fNotV, fIf, fIfT, fStill, still, fnLst, gNm, gTp, gsCons, gsNil, fCall, fCallO, fCallN, fIxN, fLenN, fSl, fPart, fNoPart, fNeg, fIsi, fIsi2, fLen, fAbs, fInt, fMax2, fMin2, fTupOf, fListOf, fSorted, fLstR, fAll, fAny, fIx, fIn, fEq, fIsN, fAdd, fMul, f2I, unD, slots0, settable, ownAt, owned, lentEnd, fiLst, fiTup, fiR1, fiR2, fiZip, fiZip3, fiKeysZ, fiItemsZ, fYes, wipeS] at h ⊢
          revert h
          by_cases e1 : r = "none"
          · cases isWithin l 0 2 <;> cases isWithin s 1 3 <;> cases isWithin wh wl 3 <;> simp [e1]
          by_cases e2 : r = "heater"
          · cases isWithin l 0 2 <;> cases isWithin s 1 3 <;> cases isWithin wh wl 3 <;> simp [e2]
          by_cases e3 : r = "cooler"
          · cases isWithin l 0 2 <;> cases isWithin s 1 3 <;> cases isWithin wh wl 3 <;> simp [e3]
          have f1 : ¬ ("none" : Str) = r := fun z => e1 z.symm
          have f2 : ¬ ("heater" : Str) = r := fun z => e2 z.symm
          have f3 : ¬ ("cooler" : Str) = r := fun z => e3 z.symm
          cases isWithin l 0 2 <;> cases isWithin s 1 3 <;> cases isWithin wh wl 3 <;> simp [beq_eq_false_iff_ne.mpr e1, beq_eq_false_iff_ne.mpr e2, beq_eq_false_iff_ne.mpr e3, f1, f2, f3]
        | _ =>
          simp [g_is_plan, fn_is_row, fn_is_device, fn_is_within, show isRow (.tuple [a, b, .tuple [l, s], .tuple [.int wl, wh], _, f]) 6 = true from rfl, show isRow (.tuple [l, s]) 2 = true from rfl, show isRow (.tuple [.int wl, wh]) 2 = true from rfl, atI, ixN, h1, h2, hw, isPlan, isTy, okTy, sSeq, sRet, sRetN, sRetW, sIf, sNext, sNever, sExpr, sAsg, sNew, sNewS, sPar, sPar3, sApp, sSetIx, sDPut, sPar3W, fnD0, fnD1, fnOwn, fIxDN, fInDN, fIxZ, fInZ, fLenZ, fListZ, fGetZ, fMaxL, fMinL, fVar, fC, fRaw, fNil, fCons, fTup, fLst, fOp, fTest, fChain, fAnd, fOr, fNot, fAndV, fOrV, fNotV, fIf, fIfT, fStill, still, fnLst, gNm, gTp, gsCons, gsNil, fCall, fCallO, fCallN, fIxN, fLenN, fSl, fPart, fNoPart, fNeg, fIsi, fIsi2, fLen, fAbs, fInt, fMax2, fMin2, fTupOf, fListOf, fSorted, fLstR, fAll, fAny, fIx, fIn, fEq, fIsN, fAdd, fMul, f2I, unD, slots0, settable, ownAt, owned, lentEnd, fiLst, fiTup, fiR1, fiR2, fiZip, fiZip3, fiKeysZ, fiItemsZ, fYes, wipeS] at h ⊢
          revert h; cases isWithin l 0 2 <;> cases isWithin s 1 3 <;> cases isWithin wh wl 3 <;> simp
    · have e := isPlan_row hr
      simp [g_is_plan, fn_is_row, hr, e, sSeq, sRet, sRetN, sRetW, sIf, sNext, sNever, sExpr, sAsg, sNew, sNewS, sPar, sPar3, sApp, sSetIx, sDPut, sPar3W, fnD0, fnD1, fnOwn, fIxDN, fInDN, fIxZ, fInZ, fLenZ, fListZ, fGetZ, fMaxL, fMinL, fVar, fC, fRaw, fNil, fCons, fTup, fLst, fOp, fTest, fChain, fAnd, fOr, fNot, fAndV, fOrV, fNotV, fIf, fIfT, fStill, still, fnLst, gNm, gTp, gsCons, gsNil, fCall, fCallO, fCallN, fIxN, fLenN, fSl, fPart, fNoPart, fNeg, fIsi, fIsi2, fLen, fAbs, fInt, fMax2, fMin2, fTupOf, fListOf, fSorted, fLstR, fAll, fAny, fIx, fIn, fEq, fIsN, fAdd, fMul, f2I, unD, slots0, settable, ownAt, owned, lentEnd, fiLst, fiTup, fiR1, fiR2, fiZip, fiZip3, fiKeysZ, fiItemsZ, fYes, wipeS] at h ⊢
      exact h
  · exact h.elim
theorem d_look_at_plan (ss : List S) (Q' : S → Prop) (h : fn_look_at_plan ss Q') : g_look_at_plan (EF Q') (slots0 1 ss) := by
  unfold fn_look_at_plan at h
  split at h
  · simp [g_look_at_plan, fn_is_plan, h.1, sSeq, sRet, sRetN, sRetW, sIf, sNext, sNever, sExpr, sAsg, sNew, sNewS, sPar, sPar3, sApp, sSetIx, sDPut, sPar3W, fnD0, fnD1, fnOwn, fIxDN, fInDN, fIxZ, fInZ, fLenZ, fListZ, fGetZ, fMaxL, fMinL, fVar, fC, fRaw, fNil, fCons, fTup, fLst, fOp, fTest, fChain, fAnd, fOr, fNot, fAndV, fOrV, fNotV, fIf, fIfT, fStill, still, fnLst, gNm, gTp, gsCons, gsNil, fCall, fCallO, fCallN, fIxN, fLenN, fSl, fPart, fNoPart, fNeg, fIsi, fIsi2, fLen, fAbs, fInt, fMax2, fMin2, fTupOf, fListOf, fSorted, fLstR, fAll, fAny, fIx, fIn, fEq, fIsN, fAdd, fMul, f2I, unD, slots0, settable, ownAt, owned, lentEnd, fiLst, fiTup, fiR1, fiR2, fiZip, fiZip3, fiKeysZ, fiItemsZ, fYes, wipeS] at h ⊢
    exact h
  · exact h.elim
theorem d_is_part (ss : List S) (Q' : S → Prop) (h : fn_is_part ss Q') : g_is_part (EF Q') (slots0 2 ss) := by
  unfold fn_is_part at h
  split at h
  · rename_i x v
    split at h
    · rename_i x' e
      have e2 := devOf_some e
      subst e2
      by_cases hr : isRow v 2 = true
      · obtain ⟨a, b, rfl⟩ := isRow2.mp hr
        cases a with
        | bool r =>
          simp [g_is_part, fn_is_row, fn_is_within, hr, atI, ixN, isTy, okTy, Dev.d, isPart, sSeq, sRet, sRetN, sRetW, sIf, sNext, sNever, sExpr, sAsg, sNew, sNewS, sPar, sPar3, sApp, sSetIx, sDPut, sPar3W, fnD0, fnD1, fnOwn, fIxDN, fInDN, fIxZ, fInZ, fLenZ, fListZ, fGetZ, fMaxL, fMinL, fVar, fC, fRaw, fNil, fCons, fTup, fLst, fOp, fTest, fChain, fAnd, fOr, fNot, fAndV, fOrV, fNotV, fIf, fIfT, fStill, still, fnLst, gNm, gTp, gsCons, gsNil, fCall, fCallO, fCallN, fIxN, fLenN, fSl, fPart, fNoPart, fNeg, fIsi, fIsi2, fLen, fAbs, fInt, fMax2, fMin2, fTupOf, fListOf, fSorted, fLstR, fAll, fAny, fIx, fIn, fEq, fIsN, fAdd, fMul, f2I, unD, slots0, settable, ownAt, owned, lentEnd, fiLst, fiTup, fiR1, fiR2, fiZip, fiZip3, fiKeysZ, fiItemsZ, fYes, wipeS] at h ⊢
          cases r <;> simp at h ⊢ <;> exact h
        | _ =>
          simp [g_is_part, fn_is_row, fn_is_within, hr, atI, ixN, isTy, okTy, Dev.d, isPart, sSeq, sRet, sRetN, sRetW, sIf, sNext, sNever, sExpr, sAsg, sNew, sNewS, sPar, sPar3, sApp, sSetIx, sDPut, sPar3W, fnD0, fnD1, fnOwn, fIxDN, fInDN, fIxZ, fInZ, fLenZ, fListZ, fGetZ, fMaxL, fMinL, fVar, fC, fRaw, fNil, fCons, fTup, fLst, fOp, fTest, fChain, fAnd, fOr, fNot, fAndV, fOrV, fNotV, fIf, fIfT, fStill, still, fnLst, gNm, gTp, gsCons, gsNil, fCall, fCallO, fCallN, fIxN, fLenN, fSl, fPart, fNoPart, fNeg, fIsi, fIsi2, fLen, fAbs, fInt, fMax2, fMin2, fTupOf, fListOf, fSorted, fLstR, fAll, fAny, fIx, fIn, fEq, fIsN, fAdd, fMul, f2I, unD, slots0, settable, ownAt, owned, lentEnd, fiLst, fiTup, fiR1, fiR2, fiZip, fiZip3, fiKeysZ, fiItemsZ, fYes, wipeS] at h ⊢
          exact h
      · have e : isPart x'.d v = false := by
          cases q : isPart x'.d v with
          | false => rfl
          | true =>
            exfalso
            unfold isPart Dev.d at q
            split at q
            · exact hr rfl
            · cases q
        simp [g_is_part, fn_is_row, hr, e, sSeq, sRet, sRetN, sRetW, sIf, sNext, sNever, sExpr, sAsg, sNew, sNewS, sPar, sPar3, sApp, sSetIx, sDPut, sPar3W, fnD0, fnD1, fnOwn, fIxDN, fInDN, fIxZ, fInZ, fLenZ, fListZ, fGetZ, fMaxL, fMinL, fVar, fC, fRaw, fNil, fCons, fTup, fLst, fOp, fTest, fChain, fAnd, fOr, fNot, fAndV, fOrV, fNotV, fIf, fIfT, fStill, still, fnLst, gNm, gTp, gsCons, gsNil, fCall, fCallO, fCallN, fIxN, fLenN, fSl, fPart, fNoPart, fNeg, fIsi, fIsi2, fLen, fAbs, fInt, fMax2, fMin2, fTupOf, fListOf, fSorted, fLstR, fAll, fAny, fIx, fIn, fEq, fIsN, fAdd, fMul, f2I, unD, slots0, settable, ownAt, owned, lentEnd, fiLst, fiTup, fiR1, fiR2, fiZip, fiZip3, fiKeysZ, fiItemsZ, fYes, wipeS] at h ⊢
        exact h
    · exact h.elim
  · exact h.elim
theorem set_no {ρ : List S} {i : Nat} {s : S} (hi : ρ[i]? = some S.no) : (ρ.set i s).set i .no = ρ := by
  refine List.ext_getElem? fun j => ?_
  have hl := (List.getElem?_eq_some_iff.mp hi).1
  by_cases e : i = j
  · subst e
    rw [List.getElem?_set_self (by simpa using hl), hi]
  · rw [List.getElem?_set_ne e, List.getElem?_set_ne e]
/-- a comprehension that asks each item and changes nothing -/
theorem lc_map {i : Nat} {f : FE} {p : D → D} {ρ : List S} {Q : List D → List S → Prop} (hi : ρ[i]? = some S.no) : ∀ (xs acc : List D), acc.length + xs.length ≤ sizeLine →
    (∀ x ∈ xs, ∀ Q2 : S → List S → Prop, Q2 (.d (p x)) (ρ.set i (.d x)) → f (ρ.set i (.d x)) Q2) → Q (acc ++ xs.map p) ρ → lcGo (gNm i) fYes f [i] xs acc ρ Q
  | [], acc, _, _, h => by simpa [lcGo] using h
  | x :: xs, acc, hz, hs, h => by
    unfold lcGo
    refine ⟨by unfold settable; rw [hi]; trivial, ?_⟩
    show f (ρ.set i (.d x)) _
    refine hs x List.mem_cons_self _ ?_
    show acc.length < sizeLine ∧ lcGo (gNm i) fYes f [i] xs (acc ++ [p x]) (wipeS (ρ.set i (.d x)) [i]) Q
    have e : wipeS (ρ.set i (.d x)) [i] = ρ := set_no hi
    rw [e]
    exact ⟨by simp at hz; omega, lc_map hi xs (acc ++ [p x]) (by simp at hz ⊢; omega) (fun z hz' => hs z (List.mem_cons_of_mem _ hz')) (by simpa using h)⟩
theorem d_fits (ss : List S) (Q' : S → Prop) (h : fn_fits ss Q') : g_fits (EF Q') (slots0 3 ss) := by
  unfold fn_fits at h
  split at h
  · rename_i x v
    split at h
    · rename_i p e
      have e2 := planOf_some e
      subst e2
      obtain ⟨ok, h⟩ := h
      have nof : ∀ {w q a b : D}, v = .tuple [w, q, a, b] → (∀ ps, q = .tuple ps → (ps.length : Int) = p.late → False) → fitsStand p v = false := fun {w q a b} e hn => by
        subst e
        unfold fitsStand
        split
        · rename_i w' ps h' c' e'
          cases e'
          have : ¬ ((ps.length : Int) = p.late) := fun z => hn ps rfl z
          simp [this]
        · rfl
      by_cases hr : isRow v 4 = true
      · obtain ⟨w, q, a, b, rfl⟩ := isRow4.mp hr
        by_cases hq : isRow q p.late = true
        · obtain ⟨ps, rfl⟩ : ∃ ps, q = .tuple ps := by
            unfold isRow at hq
            split at hq
            · exact ⟨_, rfl⟩
            · cases hq
          have hq' := hq
          simp only [isRow, decide_eq_true_eq] at hq'
          have hlen : ps.length ≤ 2 := by have := ok.la2; omega
          cases hw : isWithin w 0 15 with
          | false =>
            simp [g_fits, fn_is_row, fn_is_within, hr, atI, ixN, hw, Pl.d, fitsStand, sSeq, sRet, sRetN, sRetW, sIf, sNext, sNever, sExpr, sAsg, sNew, sNewS, sPar, sPar3, sApp, sSetIx, sDPut, sPar3W, fnD0, fnD1, fnOwn, fIxDN, fInDN, fIxZ, fInZ, fLenZ, fListZ, fGetZ, fMaxL, fMinL, fVar, fC, fRaw, fNil, fCons, fTup, fLst, fOp, fTest, fChain, fAnd, fOr, fNot, fAndV, fOrV, fNotV, fIf, fIfT, fStill, still, fnLst, gNm, gTp, gsCons, gsNil, fCall, fCallO, fCallN, fIxN, fLenN, fSl, fPart, fNoPart, fNeg, fIsi, fIsi2, fLen, fAbs, fInt, fMax2, fMin2, fTupOf, fListOf, fSorted, fLstR, fAll, fAny, fIx, fIn, fEq, fIsN, fAdd, fMul, f2I, unD, slots0, settable, ownAt, owned, lentEnd, fiLst, fiTup, fiR1, fiR2, fiZip, fiZip3, fiKeysZ, fiItemsZ, fYes, wipeS] at h ⊢
            exact h
          | true =>
            have comp : ∀ (Q : List D → List S → Prop), Q (ps.map fun x => PyData.bool (isWithin x 0 15)) [.d p.d, .d (.tuple [w, .tuple ps, a, b]), .no] → lcGo (gNm 2) fYes (fCall fn_is_within (fCons (fVar 2) (fCons (fC (.int 0)) (fCons (fRaw (.d (.int 15))) fNil)))) [2] ps [] [.d p.d, .d (.tuple [w, .tuple ps, a, b]), .no] Q := fun Q hQ =>
              lc_map (p := fun x => PyData.bool (isWithin x 0 15)) rfl ps [] (by rw [sizeLine_eq]; simp; omega) (fun x _ Q2 h2 => by simpa [fn_is_within, sSeq, sRet, sRetN, sRetW, sIf, sNext, sNever, sExpr, sAsg, sNew, sNewS, sPar, sPar3, sApp, sSetIx, sDPut, sPar3W, fnD0, fnD1, fnOwn, fIxDN, fInDN, fIxZ, fInZ, fLenZ, fListZ, fGetZ, fMaxL, fMinL, fVar, fC, fRaw, fNil, fCons, fTup, fLst, fOp, fTest, fChain, fAnd, fOr, fNot, fAndV, fOrV, fNotV, fIf, fIfT, fStill, still, fnLst, gNm, gTp, gsCons, gsNil, fCall, fCallO, fCallN, fIxN, fLenN, fSl, fPart, fNoPart, fNeg, fIsi, fIsi2, fLen, fAbs, fInt, fMax2, fMin2, fTupOf, fListOf, fSorted, fLstR, fAll, fAny, fIx, fIn, fEq, fIsN, fAdd, fMul, f2I, unD, slots0, settable, ownAt, owned, lentEnd, fiLst, fiTup, fiR1, fiR2, fiZip, fiZip3, fiKeysZ, fiItemsZ, fYes, wipeS] using h2) hQ
            have bo : boolsD (ps.map fun x => PyData.bool (isWithin x 0 15)) = some (ps.map fun x => isWithin x 0 15) := by
              have := boolsD_map (ps.map fun x => isWithin x 0 15)
              rw [List.map_map] at this
              exact this
            have al : (ps.map fun x => isWithin x 0 15).all id = ps.all fun x => isWithin x 0 15 := by rw [List.all_map]; rfl
            unfold Pl.d at comp
            simp [g_fits, fn_is_row, fn_is_within, fn_is_part, hr, atI, ixN, hw, Pl.d, hq, fnLc, devOf_d, fitsStand, hq', sSeq, sRet, sRetN, sRetW, sIf, sNext, sNever, sExpr, sAsg, sNew, sNewS, sPar, sPar3, sApp, sSetIx, sDPut, sPar3W, fnD0, fnD1, fnOwn, fIxDN, fInDN, fIxZ, fInZ, fLenZ, fListZ, fGetZ, fMaxL, fMinL, fVar, fC, fRaw, fNil, fCons, fTup, fLst, fOp, fTest, fChain, fAnd, fOr, fNot, fAndV, fOrV, fNotV, fIf, fIfT, fStill, still, fnLst, gNm, gTp, gsCons, gsNil, fCall, fCallO, fCallN, fIxN, fLenN, fSl, fPart, fNoPart, fNeg, fIsi, fIsi2, fLen, fAbs, fInt, fMax2, fMin2, fTupOf, fListOf, fSorted, fLstR, fAll, fAny, fIx, fIn, fEq, fIsN, fAdd, fMul, f2I, unD, slots0, settable, ownAt, owned, lentEnd, fiLst, fiTup, fiR1, fiR2, fiZip, fiZip3, fiKeysZ, fiItemsZ, fYes, wipeS] at h ⊢
            refine comp _ ?_
            rw [bo]
            simp only [al]
            by_cases hx : false ∈ ps.map fun x => isWithin x 0 15
            · have hal : (ps.all fun x => isWithin x 0 15) = false := by
                obtain ⟨z, h1, h2⟩ := List.mem_map.mp hx
                rw [List.all_eq_false]
                exact ⟨z, h1, by simp [h2]⟩
              simp [hal] at h
              rw [if_pos hx]
              exact h
            · have hal : (ps.all fun x => isWithin x 0 15) = true := by
                rw [List.all_eq_true]
                intro z hz
                cases q : isWithin z 0 15 with
                | true => rfl
                | false => exact absurd (List.mem_map.mpr ⟨z, hz, q⟩) hx
              simp [hal] at h
              rw [if_neg hx]
              revert h
              cases h3 : isPart p.h.d a <;> simp [devOf_d, h3]
        · have e := nof rfl (fun ps e1 e2 => hq (by subst e1; simpa [isRow] using e2)) (w := w) (q := q) (a := a) (b := b)
          rw [e] at h
          simp [g_fits, fn_is_row, fn_is_within, hr, atI, ixN, Pl.d, hq, sSeq, sRet, sRetN, sRetW, sIf, sNext, sNever, sExpr, sAsg, sNew, sNewS, sPar, sPar3, sApp, sSetIx, sDPut, sPar3W, fnD0, fnD1, fnOwn, fIxDN, fInDN, fIxZ, fInZ, fLenZ, fListZ, fGetZ, fMaxL, fMinL, fVar, fC, fRaw, fNil, fCons, fTup, fLst, fOp, fTest, fChain, fAnd, fOr, fNot, fAndV, fOrV, fNotV, fIf, fIfT, fStill, still, fnLst, gNm, gTp, gsCons, gsNil, fCall, fCallO, fCallN, fIxN, fLenN, fSl, fPart, fNoPart, fNeg, fIsi, fIsi2, fLen, fAbs, fInt, fMax2, fMin2, fTupOf, fListOf, fSorted, fLstR, fAll, fAny, fIx, fIn, fEq, fIsN, fAdd, fMul, f2I, unD, slots0, settable, ownAt, owned, lentEnd, fiLst, fiTup, fiR1, fiR2, fiZip, fiZip3, fiKeysZ, fiItemsZ, fYes, wipeS] at h ⊢
          revert h; cases isWithin w 0 15 <;> simp
      · have e : fitsStand p v = false := by
          cases q : fitsStand p v with
          | false => rfl
          | true =>
            exfalso
            unfold fitsStand at q
            split at q
            · exact hr rfl
            · cases q
        rw [e] at h
        simp [g_fits, fn_is_row, hr, sSeq, sRet, sRetN, sRetW, sIf, sNext, sNever, sExpr, sAsg, sNew, sNewS, sPar, sPar3, sApp, sSetIx, sDPut, sPar3W, fnD0, fnD1, fnOwn, fIxDN, fInDN, fIxZ, fInZ, fLenZ, fListZ, fGetZ, fMaxL, fMinL, fVar, fC, fRaw, fNil, fCons, fTup, fLst, fOp, fTest, fChain, fAnd, fOr, fNot, fAndV, fOrV, fNotV, fIf, fIfT, fStill, still, fnLst, gNm, gTp, gsCons, gsNil, fCall, fCallO, fCallN, fIxN, fLenN, fSl, fPart, fNoPart, fNeg, fIsi, fIsi2, fLen, fAbs, fInt, fMax2, fMin2, fTupOf, fListOf, fSorted, fLstR, fAll, fAny, fIx, fIn, fEq, fIsN, fAdd, fMul, f2I, unD, slots0, settable, ownAt, owned, lentEnd, fiLst, fiTup, fiR1, fiR2, fiZip, fiZip3, fiKeysZ, fiItemsZ, fYes, wipeS] at h ⊢
        exact h
    · exact h.elim
  · exact h.elim
theorem d_is_stand (ss : List S) (Q' : S → Prop) (h : fn_is_stand ss Q') : g_is_stand (EF Q') (slots0 2 ss) := by
  unfold fn_is_stand at h
  split at h
  · rename_i x v
    split at h
    · rename_i p e
      have e2 := planOf_some e
      subst e2
      simp [g_is_stand, fn_look_at_plan, fn_fits, isPlan_d.mpr h.1, planOf_d, h.1, sSeq, sRet, sRetN, sRetW, sIf, sNext, sNever, sExpr, sAsg, sNew, sNewS, sPar, sPar3, sApp, sSetIx, sDPut, sPar3W, fnD0, fnD1, fnOwn, fIxDN, fInDN, fIxZ, fInZ, fLenZ, fListZ, fGetZ, fMaxL, fMinL, fVar, fC, fRaw, fNil, fCons, fTup, fLst, fOp, fTest, fChain, fAnd, fOr, fNot, fAndV, fOrV, fNotV, fIf, fIfT, fStill, still, fnLst, gNm, gTp, gsCons, gsNil, fCall, fCallO, fCallN, fIxN, fLenN, fSl, fPart, fNoPart, fNeg, fIsi, fIsi2, fLen, fAbs, fInt, fMax2, fMin2, fTupOf, fListOf, fSorted, fLstR, fAll, fAny, fIx, fIn, fEq, fIsN, fAdd, fMul, f2I, unD, slots0, settable, ownAt, owned, lentEnd, fiLst, fiTup, fiR1, fiR2, fiZip, fiZip3, fiKeysZ, fiItemsZ, fYes, wipeS]
      exact h.2
    · exact h.elim
  · exact h.elim
theorem d_look_at_stand (ss : List S) (Q' : S → Prop) (h : fn_look_at_stand ss Q') : g_look_at_stand (EF Q') (slots0 2 ss) := by
  unfold fn_look_at_stand at h
  split at h
  · rename_i x v
    split at h
    · rename_i p e
      have e2 := planOf_some e
      subst e2
      simp [g_look_at_stand, fn_fits, planOf_d, h.1, h.2.1, sSeq, sRet, sRetN, sRetW, sIf, sNext, sNever, sExpr, sAsg, sNew, sNewS, sPar, sPar3, sApp, sSetIx, sDPut, sPar3W, fnD0, fnD1, fnOwn, fIxDN, fInDN, fIxZ, fInZ, fLenZ, fListZ, fGetZ, fMaxL, fMinL, fVar, fC, fRaw, fNil, fCons, fTup, fLst, fOp, fTest, fChain, fAnd, fOr, fNot, fAndV, fOrV, fNotV, fIf, fIfT, fStill, still, fnLst, gNm, gTp, gsCons, gsNil, fCall, fCallO, fCallN, fIxN, fLenN, fSl, fPart, fNoPart, fNeg, fIsi, fIsi2, fLen, fAbs, fInt, fMax2, fMin2, fTupOf, fListOf, fSorted, fLstR, fAll, fAny, fIx, fIn, fEq, fIsN, fAdd, fMul, f2I, unD, slots0, settable, ownAt, owned, lentEnd, fiLst, fiTup, fiR1, fiR2, fiZip, fiZip3, fiKeysZ, fiItemsZ, fYes, wipeS]
      exact h.2.2
    · exact h.elim
  · exact h.elim
theorem seen_late {s : Stn} {n : Int} (h : (s.past.length : Int) = n) (h0 : 0 ≤ n) (h2 : n ≤ 2) : (n = 0 ∧ s.past = []) ∨ (n = 1 ∧ ∃ a, s.past = [a]) ∨ (n = 2 ∧ ∃ a b, s.past = [a, b]) := by
  match e : s.past with
  | [] => left; rw [e] at h; exact ⟨by simpa using h.symm, rfl⟩
  | [a] => right; left; rw [e] at h; exact ⟨by simpa using h.symm, a, rfl⟩
  | [a, b] => right; right; rw [e] at h; exact ⟨by simpa using h.symm, a, b, rfl⟩
  | a :: b :: c :: r => rw [e] at h; simp at h; omega
theorem fnPS_some {f : Pl → Stn → D} {ss : List S} {Q' : S → Prop} (h : fnPS f ss Q') : ∃ p s, ss = [.d p.d, .d s.d] ∧ p.ok ∧ (s.past.length : Int) = p.late ∧ Q' (.d (f p s)) := by
  unfold fnPS at h
  split at h
  · split at h
    · rename_i e1 e2
      rw [planOf_some e1, standOf_some e2]
      exact ⟨_, _, rfl, h.1.1, h.1.2, h.2⟩
    · exact h.elim
  · exact h.elim
theorem mk_step {a b : Int} (h1 : 1 ≤ a) (h3 : a ≤ 3) : CMul a b := .inl ⟨by omega, by omega⟩
theorem mk_div {a b : Int} (h1 : 1 ≤ b) (h3 : b ≤ 3) : CDiv a b := ⟨by omega, by omega⟩
theorem d_told_by (ss : List S) (Q' : S → Prop) (h : fn_told_by ss Q') : g_told_by (EF Q') (slots0 5 ss) := by
  obtain ⟨p, s, rfl, ok, hl, h⟩ := fnPS_some h
  have k1 := mk_step (b := s.seen / p.step) ok.st1 ok.st3
  have k2 := mk_div (a := s.seen) ok.st1 ok.st3
  rcases seen_late hl ok.la0 ok.la2 with ⟨e1, e2⟩ | ⟨e1, a, e2⟩ | ⟨e1, a, b, e2⟩
  all_goals
    simp [told, Stn.seen, e2] at h k1 k2
    simp [g_told_by, Pl.d, Stn.d, atI, ixN, e1, e2, k1, k2, sSeq, sRet, sRetN, sRetW, sIf, sNext, sNever, sExpr, sAsg, sNew, sNewS, sPar, sPar3, sApp, sSetIx, sDPut, sPar3W, fnD0, fnD1, fnOwn, fIxDN, fInDN, fIxZ, fInZ, fLenZ, fListZ, fGetZ, fMaxL, fMinL, fVar, fC, fRaw, fNil, fCons, fTup, fLst, fOp, fTest, fChain, fAnd, fOr, fNot, fAndV, fOrV, fNotV, fIf, fIfT, fStill, still, fnLst, gNm, gTp, gsCons, gsNil, fCall, fCallO, fCallN, fIxN, fLenN, fSl, fPart, fNoPart, fNeg, fIsi, fIsi2, fLen, fAbs, fInt, fMax2, fMin2, fTupOf, fListOf, fSorted, fLstR, fAll, fAny, fIx, fIn, fEq, fIsN, fAdd, fMul, f2I, unD, slots0, settable, ownAt, owned, lentEnd, fiLst, fiTup, fiR1, fiR2, fiZip, fiZip3, fiKeysZ, fiItemsZ, fYes, wipeS]
    exact h
theorem d_goes_on (ss : List S) (Q' : S → Prop) (h : fn_goes_on ss Q') : g_goes_on (EF Q') (slots0 12 ss) := by
  unfold fn_goes_on at h
  split at h
  · rename_i x y a b c
    split at h
    · rename_i x' q' e1 e2
      have e3 := devOf_some e1
      have e4 := partOf_some e2
      subst e3; subst e4
      obtain ⟨l, hi, on, off, pw⟩ := x'
      obtain ⟨r, n⟩ := q'
      by_cases h1 : on ≤ n <;> by_cases h2 : off ≤ n <;> cases r <;> cases a <;> cases b <;> cases c <;> simp [g_goes_on, goesOn, Dev.d, Pt.d, sizeLine_eq, h1, h2, sSeq, sRet, sRetN, sRetW, sIf, sNext, sNever, sExpr, sAsg, sNew, sNewS, sPar, sPar3, sApp, sSetIx, sDPut, sPar3W, fnD0, fnD1, fnOwn, fIxDN, fInDN, fIxZ, fInZ, fLenZ, fListZ, fGetZ, fMaxL, fMinL, fVar, fC, fRaw, fNil, fCons, fTup, fLst, fOp, fTest, fChain, fAnd, fOr, fNot, fAndV, fOrV, fNotV, fIf, fIfT, fStill, still, fnLst, gNm, gTp, gsCons, gsNil, fCall, fCallO, fCallN, fIxN, fLenN, fSl, fPart, fNoPart, fNeg, fIsi, fIsi2, fLen, fAbs, fInt, fMax2, fMin2, fTupOf, fListOf, fSorted, fLstR, fAll, fAny, fIx, fIn, fEq, fIsN, fAdd, fMul, f2I, unD, slots0, settable, ownAt, owned, lentEnd, fiLst, fiTup, fiR1, fiR2, fiZip, fiZip3, fiKeysZ, fiItemsZ, fYes, wipeS] at h ⊢ <;> exact h
    · exact h.elim
  · exact h.elim
end Aq
/-! B3: the defs' data programs give what is said (ticks; the law's own ticks). -/
namespace Aq
open PySem PySem.Spec PyProof.Rows L2
def g_begin_of : FS := (sSeq (sAsg (fVar 0) (gTp 6 (gsCons (gNm 1) (gsCons (gNm 2) (gsCons (gNm 3) (gsCons (gNm 4) (gsCons (gNm 5) (gsCons (gNm 6) gsNil))))))))
    (sRet (fTup (fCons (fVar 6) (fCons (fOp fMul (fTup (fCons (fVar 6) fNil)) (fOp fIx (fVar 3) (fC (.int 0)))) (fCons (fTup (fCons (fC (.bool false)) (fCons (fOp fIx (fVar 1) (fC (.int 3))) fNil))) (fCons (fTup (fCons (fC (.bool false)) (fCons (fOp fIx (fVar 2) (fC (.int 3))) fNil))) fNil)))))))
def g__law_spring : FS := (sSeq (sAsg (fC (.int 7)) (gNm 2))
    (sSeq (sIf (fTest (fOp (f2I TT2 fun i j => .bool (decide (i < j))) (fVar 1) (fCall fLen (fCons (fVar 0) fNil)))) (sAsg (fCall fAbs (fCons (fOp fIx (fVar 0) (fVar 1)) fNil)) (gNm 2)) sNext)
    (sSeq (sAsg (fOp (f2I (fun _ j => 0 < j) fun i j => .int (i % j)) (fCall fInt (fCons (fOp fAdd (fOp fAdd (fOp fMul (fVar 2) (fC (.int 863))) (fOp fMul (fC (.int 524287)) (fVar 1))) (fC (.int 1))) fNil)) (fC (.int 999999999989))) (gNm 3))
    (sRetW (fnLst (fCons (fIf (fTest (fOp (f2I TT2 fun i j => .bool (decide (j ≤ i))) (fVar 2) (fOp (f2I CPow fun i j => .int (i ^ j.toNat)) (fC (.int 10)) (fC (.int 18))))) (fVar 2) (fC (.int 0))) (fCons (fVar 3) fNil)))))))
def g__law_pick : FS := (sSeq (sIf (fTest (fOp (f2I TT2 fun i j => .bool (decide (j < i))) (fIxN 0 (fC (.int 0))) (fC (.int 0)))) (sSeq (sAsg (fOp (f2I (fun _ j => 0 < j) fun i j => .int (i % j)) (fCall fInt (fCons (fIxN 0 (fC (.int 0))) fNil)) (fVar 1)) (gNm 2))
    (sSeq (sSetIx 0 (fOp (f2I CDiv fun i j => .int (i / j)) (fIxN 0 (fC (.int 0))) (fVar 1)) (fC (.int 0)))
    (sRet (fVar 2)))) sNext)
    (sSeq (sSetIx 0 (fOp (f2I (fun _ j => 0 < j) fun i j => .int (i % j)) (fCall fInt (fCons (fOp fAdd (fOp fMul (fIxN 0 (fC (.int 1))) (fC (.int 393555900739))) (fC (.int 8191))) fNil)) (fC (.int 999999999989))) (fC (.int 1)))
    (sRet (fOp (f2I (fun _ j => 0 < j) fun i j => .int (i % j)) (fCall fInt (fCons (fOp (f2I CDiv fun i j => .int (i / j)) (fIxN 0 (fC (.int 1))) (fC (.int 4093))) fNil)) (fVar 1)))))
def g__law_kind : FS := (sSeq (sIf (fOr (fTest (fOp (fIsN false) (fVar 0) (fC .none))) (fTest (fCall fIsi (fCons (fVar 0) (fCons (fRaw (.raw (.ty "bool"))) fNil))))) (sRet (fIf (fTest (fOp (fIsN false) (fVar 0) (fC .none))) (fC (.int 0)) (fC (.int 1)))) sNext)
    (sSeq (sIf (fTest (fIsi2 "list" "tuple" (fVar 0))) (sRet (fIf (fTest (fCall fIsi (fCons (fVar 0) (fCons (fRaw (.raw (.ty "list"))) fNil)))) (fC (.int 2)) (fC (.int 3)))) sNext)
    (sRet (fIf (fTest (fCall fIsi (fCons (fVar 0) (fCons (fRaw (.raw (.ty "int"))) fNil)))) (fC (.int 4)) (fIf (fTest (fCall fIsi (fCons (fVar 0) (fCons (fRaw (.raw (.ty "str"))) fNil)))) (fC (.int 5)) (fC (.int 6)))))))
def g__law_device : FS := (sSeq (sAsg (fOp fAdd (fVar 1) (fCallO 0 fn__law_pick (fCons (fC (.int 4)) fNil))) (gNm 1))
    (sSeq (sAsg (fTup (fCons (fOp fAdd (fC (.int 1)) (fOp fIx (fStill (fnLst (fCons (fC (.int 0)) (fCons (fC (.int 0)) (fCons (fC (.int 1)) (fCons (fC (.int 2)) fNil)))))) (fCallO 0 fn__law_pick (fCons (fC (.int 4)) fNil)))) (fCons (fOp fAdd (fC (.int 1)) (fOp fIx (fStill (fnLst (fCons (fC (.int 0)) (fCons (fC (.int 0)) (fCons (fC (.int 1)) (fCons (fC (.int 2)) fNil)))))) (fCallO 0 fn__law_pick (fCons (fC (.int 4)) fNil)))) fNil))) (gNm 2))
    (sRet (fOp fAdd (fOp fAdd (fTup (fCons (fVar 1) (fCons (fOp fAdd (fOp fAdd (fVar 1) (fC (.int 1))) (fCallO 0 fn__law_pick (fCons (fC (.int 4)) fNil))) fNil))) (fVar 2)) (fTup (fCons (fOp fAdd (fC (.int 1)) (fCallO 0 fn__law_pick (fCons (fC (.int 4)) fNil))) fNil))))))
def g__law_plan : FS := (sSeq (sAsg (fTup (fCons (fCallO 0 fn__law_pick (fCons (fOp fAdd (fVar 1) (fC (.int 1))) fNil)) (fCons (fOp fAdd (fC (.int 1)) (fOp fIx (fStill (fnLst (fCons (fC (.int 0)) (fCons (fC (.int 0)) (fCons (fC (.int 1)) (fCons (fC (.int 2)) fNil)))))) (fCallO 0 fn__law_pick (fCons (fC (.int 4)) fNil)))) fNil))) (gNm 2))
    (sSeq (sAsg (fOp fIx (fStill (fnLst (fCons (fNeg (fC (.int 2))) (fCons (fNeg (fC (.int 1))) (fCons (fNeg (fC (.int 1))) (fCons (fC (.int 0)) (fCons (fC (.int 0)) (fCons (fC (.int 1)) fNil)))))))) (fCallO 0 fn__law_pick (fCons (fC (.int 6)) fNil))) (gNm 3))
    (sSeq (sAsg (fTup (fCons (fVar 3) (fCons (fCall fMin2 (fCons (fC (.int 3)) (fCons (fOp fAdd (fVar 3) (fOp fIx (fStill (fnLst (fCons (fC (.int 0)) (fCons (fC (.int 1)) (fCons (fC (.int 2)) (fCons (fC (.int 2)) fNil)))))) (fCallO 0 fn__law_pick (fCons (fC (.int 4)) fNil)))) fNil))) fNil))) (gNm 4))
    (sSeq (sAsg (fOp fIx (fStill (fnLst (fCons (fC (.str "none")) (fCons (fC (.str "none")) (fCons (fC (.str "heater")) (fCons (fC (.str "cooler")) fNil)))))) (fCallO 0 fn__law_pick (fCons (fC (.int 4)) fNil))) (gNm 5))
    (sSeq (sAsg (fOp fAdd (fC (.int 3)) (fCallO 0 fn__law_pick (fCons (fC (.int 9)) fNil))) (gNm 6))
    (sRet (fTup (fCons (fCallO 0 fn__law_device (fCons (fC (.int 2)) fNil)) (fCons (fCallO 0 fn__law_device (fCons (fC (.int 4)) fNil)) (fCons (fVar 2) (fCons (fVar 4) (fCons (fVar 5) (fCons (fVar 6) fNil)))))))))))))
def g__law_first : FS := (sRet (fTup (fCons (fOp fIx (fVar 0) (fC (.int 5))) (fCons (fOp fMul (fTup (fCons (fOp fIx (fVar 0) (fC (.int 5))) fNil)) (fOp fIx (fOp fIx (fVar 0) (fC (.int 2))) (fC (.int 0)))) (fCons (fTup (fCons (fC (.bool false)) (fCons (fOp fIx (fOp fIx (fVar 0) (fC (.int 0))) (fC (.int 3))) fNil))) (fCons (fTup (fCons (fC (.bool false)) (fCons (fOp fIx (fOp fIx (fVar 0) (fC (.int 1))) (fC (.int 3))) fNil))) fNil))))))
def g__law_told : FS := (sSeq (sAsg (fOp fIx (fOp fAdd (fSl (fVar 1) fNoPart (fPart (fC (.int 1)))) (fOp fIx (fVar 1) (fC (.int 1)))) (fNeg (fC (.int 1)))) (gNm 2))
    (sRet (fOp (f2I TT2 fun i j => .int (i - j)) (fVar 2) (fOp (f2I (fun _ j => 0 < j) fun i j => .int (i % j)) (fVar 2) (fOp fIx (fOp fIx (fVar 0) (fC (.int 2))) (fC (.int 1)))))))
def g__law_part : FS := (sSeq (sAsg (fVar 1) (gTp 2 (gsCons (gNm 4) (gsCons (gNm 5) gsNil))))
    (sSeq (sAsg (fIf (fTest (fVar 4)) (fOp fIx (fVar 0) (fC (.int 2))) (fOp fIx (fVar 0) (fC (.int 3)))) (gNm 6))
    (sSeq (sIf (fAnd (fTest (fOp (f2I TT2 fun i j => .bool (decide (j < i))) (fVar 5) (fOp (f2I TT2 fun i j => .int (i - j)) (fVar 6) (fC (.int 1))))) (fIfT (fTest (fVar 4)) (fTest (fVar 3)) (fTest (fVar 2)))) (sRet (fTup (fCons (fNotV (fVar 4)) (fCons (fC (.int 1)) fNil)))) sNext)
    (sRet (fTup (fCons (fVar 4) (fCons (fCall fMin2 (fCons (fVar 6) (fCons (fOp fAdd (fVar 5) (fC (.int 1))) fNil))) fNil)))))))
def g__law_parts : FS := (sSeq (sAsg (fCall fn__law_told (fCons (fVar 0) (fCons (fVar 1) fNil))) (gNm 2))
    (sSeq (sAsg (fVar 0) (gTp 6 (gsCons (gNm 3) (gsCons (gNm 4) (gsCons (gNm 5) (gsCons (gNm 6) (gsCons (gNm 7) (gsCons (gNm 8) gsNil))))))))
    (sSeq (sAsg (fOrV (fOp (fEq true) (fVar 7) (fC (.str "heater"))) (fNotV (fOp fIx (fOp fIx (fVar 1) (fC (.int 3))) (fC (.int 0))))) (gNm 9))
    (sSeq (sAsg (fOrV (fOp (fEq true) (fVar 7) (fC (.str "cooler"))) (fNotV (fOp fIx (fOp fIx (fVar 1) (fC (.int 2))) (fC (.int 0))))) (gNm 10))
    (sSeq (sAsg (fCall fn__law_part (fCons (fVar 3) (fCons (fOp fIx (fVar 1) (fC (.int 2))) (fCons (fAndV (fOp (f2I TT2 fun i j => .bool (decide (i ≤ j))) (fVar 2) (fOp fIx (fVar 3) (fC (.int 0)))) (fVar 9)) (fCons (fOp (f2I TT2 fun i j => .bool (decide (i ≤ j))) (fOp fIx (fVar 3) (fC (.int 1))) (fVar 2)) fNil))))) (gNm 11))
    (sSeq (sAsg (fCall fn__law_part (fCons (fVar 4) (fCons (fOp fIx (fVar 1) (fC (.int 3))) (fCons (fAndV (fOp (f2I TT2 fun i j => .bool (decide (i ≤ j))) (fOp fIx (fVar 4) (fC (.int 1))) (fVar 2)) (fVar 10)) (fCons (fOp (f2I TT2 fun i j => .bool (decide (i ≤ j))) (fVar 2) (fOp fIx (fVar 4) (fC (.int 0)))) fNil))))) (gNm 12))
    (sRet (fTup (fCons (fVar 11) (fCons (fVar 12) fNil))))))))))
def g__law_after : FS := (sSeq (sAsg (fCall fn__law_parts (fCons (fVar 0) (fCons (fVar 1) fNil))) (gTp 2 (gsCons (gNm 3) (gsCons (gNm 4) gsNil))))
    (sSeq (sAsg (fOp fAdd (fOp fIx (fVar 1) (fC (.int 0))) (fVar 2)) (gNm 5))
    (sSeq (sIf (fTest (fOp fIx (fVar 3) (fC (.int 0)))) (sAsg (fOp fAdd (fVar 5) (fOp fIx (fOp fIx (fVar 0) (fC (.int 0))) (fC (.int 4)))) (gNm 5)) sNext)
    (sSeq (sIf (fTest (fOp fIx (fVar 4) (fC (.int 0)))) (sAsg (fOp (f2I TT2 fun i j => .int (i - j)) (fVar 5) (fOp fIx (fOp fIx (fVar 0) (fC (.int 1))) (fC (.int 4)))) (gNm 5)) sNext)
    (sSeq (sAsg (fSl (fOp fAdd (fSl (fVar 1) fNoPart (fPart (fC (.int 1)))) (fOp fIx (fVar 1) (fC (.int 1)))) fNoPart (fPart (fCall fLen (fCons (fOp fIx (fVar 1) (fC (.int 1))) fNil)))) (gNm 6))
    (sRet (fTup (fCons (fOp fIx (fStill (fCallN fSorted (fCons (fStill (fnLst (fCons (fC (.int 0)) (fCons (fVar 5) (fCons (fC (.int 15)) fNil))))) fNil))) (fC (.int 1))) (fCons (fVar 6) (fCons (fVar 3) (fCons (fVar 4) fNil)))))))))))
def g__law_on : FS := (sSeq (sAsg (fCall fn__law_parts (fCons (fVar 0) (fCons (fVar 1) fNil))) (gTp 2 (gsCons (gNm 2) (gsCons (gNm 3) gsNil))))
    (sRet (fTup (fCons (fOp fIx (fVar 2) (fC (.int 0))) (fCons (fOp fIx (fVar 3) (fC (.int 0))) fNil)))))
def g__law_changes : FS := (sRet (fStill (fLstR (fCons (fOp fIx (fOp fIx (fVar 0) (fC (.int 3))) (fC (.int 0))) (fCons (fOp fAdd (fOp fIx (fOp fIx (fVar 0) (fC (.int 3))) (fC (.int 1))) (fC (.int 1))) fNil)))))
theorem shaped_str2 {r : Str} {b : Str} (h : isBar r = true) : SeqAt.shaped (.str r) = true := by
  unfold isBar at h
  simp only [Bool.or_eq_true, beq_iff_eq] at h
  rcases h with (rfl | rfl) | rfl <;> decide +kernel
theorem shaped_bar {p : Pl} (ok : p.ok) : SeqAt.shaped (.str p.bar) = true := shaped_str2 (b := p.bar) ok.bar
theorem sh_heater : SeqAt.shaped (.str "heater") = true := by decide +kernel
theorem sh_cooler : SeqAt.shaped (.str "cooler") = true := by decide +kernel
theorem d_parts_by (ss : List S) (Q' : S → Prop) (h : fn_parts_by ss Q') : g_parts_by (EF Q') (slots0 8 ss) := by
  obtain ⟨p, s, rfl, ok, hl, h⟩ := fnPS_some h
  have e1 := standOf_d s
  have e2 := planOf_d p
  unfold Stn.d Pt.d at e1
  unfold Pl.d at e2
  simp [partH, partC] at h
  simp [g_parts_by, fn_told_by, fnPS, fn_goes_on, Pl.d, Stn.d, Pt.d, e1, e2, ok, hl, atI, ixN, shaped_bar ok, sh_heater, sh_cooler, devOf_d, partOf, sizeLine_eq, PyData.eqv, sSeq, sRet, sRetN, sRetW, sIf, sNext, sNever, sExpr, sAsg, sNew, sNewS, sPar, sPar3, sApp, sSetIx, sDPut, sPar3W, fnD0, fnD1, fnOwn, fIxDN, fInDN, fIxZ, fInZ, fLenZ, fListZ, fGetZ, fMaxL, fMinL, fVar, fC, fRaw, fNil, fCons, fTup, fLst, fOp, fTest, fChain, fAnd, fOr, fNot, fAndV, fOrV, fNotV, fIf, fIfT, fStill, still, fnLst, gNm, gTp, gsCons, gsNil, fCall, fCallO, fCallN, fIxN, fLenN, fSl, fPart, fNoPart, fNeg, fIsi, fIsi2, fLen, fAbs, fInt, fMax2, fMin2, fTupOf, fListOf, fSorted, fLstR, fAll, fAny, fIx, fIn, fEq, fIsN, fAdd, fMul, f2I, unD, slots0, settable, ownAt, owned, lentEnd, fiLst, fiTup, fiR1, fiR2, fiZip, fiZip3, fiKeysZ, fiItemsZ, fYes, wipeS] at h ⊢
  by_cases h1 : p.bar = "heater" <;> by_cases h2 : p.bar = "cooler" <;> simp [h1, h2, beq_eq_false_iff_ne.mpr, bne] at h ⊢ <;> exact h
theorem take_map {α β : Type} (f : α → β) (xs : List α) (n : Nat) : (xs.map f).take n = (xs.take n).map f := List.map_take.symm
/-- the first n items -/
theorem cut_to {α : Type} (xs : List α) {n : Int} (h0 : 0 ≤ n) (h : n ≤ xs.length) : cut xs none (some n) = xs.take n.toNat := by
  unfold cut
  have e1 : HT.sIx xs.length 0 none = 0 := rfl
  have e2 : HT.sIx xs.length xs.length (some n) = n.toNat := by
    have e3 : n = ((n.toNat : Nat) : Int) := by omega
    rw [e3, HT.sIx_nat]
    omega
  rw [e1, e2]
  simp
theorem cmul_power {a b : Int} (h1 : 1 ≤ a) (h3 : a ≤ 4) : CMul a b := .inl ⟨by omega, by omega⟩
theorem b2n_eq (b : Bool) : (if b = true then (1 : Int) else 0) = b2n b := rfl
theorem d_behind (ss : List S) (Q' : S → Prop) (h : fn_behind ss Q') : g_behind (EF Q') (slots0 7 ss) := by
  unfold fn_behind at h
  split at h
  · split at h
    · rename_i p s e1 e2
      rw [planOf_some e1, standOf_some e2]
      obtain ⟨⟨ok, hl⟩, h⟩ := h
      have q1 := standOf_d s
      have q2 := planOf_d p
      have k1 := cmul_power (b := if (partH p s).runs = true then 1 else 0) ok.h.p1 ok.h.p4
      have k2 := cmul_power (b := if (partC p s).runs = true then 1 else 0) ok.c.p1 ok.c.p4
      have hc : cut (PyData.int s.w :: s.past.map PyData.int) none (some p.late) = ((s.w :: s.past).take p.late.toNat).map PyData.int := by
        rw [cut_to _ ok.la0 (by simp; omega), List.map_take]
        rfl
      have hz : s.past.length + 1 ≤ 16777216 := by have := ok.la2; omega
      unfold Stn.d Pt.d at q1
      unfold Pl.d Dev.d at q2
      simp [behind, clampW, b2n, Stn.d] at h
      simp [g_behind, fn_parts_by, fnPS, Pl.d, Stn.d, Pt.d, Dev.d, q1, q2, ok, hl, atI, ixN, sizeLine_eq, k1, k2, hc, Nat.add_comm 1, hz, sSeq, sRet, sRetN, sRetW, sIf, sNext, sNever, sExpr, sAsg, sNew, sNewS, sPar, sPar3, sApp, sSetIx, sDPut, sPar3W, fnD0, fnD1, fnOwn, fIxDN, fInDN, fIxZ, fInZ, fLenZ, fListZ, fGetZ, fMaxL, fMinL, fVar, fC, fRaw, fNil, fCons, fTup, fLst, fOp, fTest, fChain, fAnd, fOr, fNot, fAndV, fOrV, fNotV, fIf, fIfT, fStill, still, fnLst, gNm, gTp, gsCons, gsNil, fCall, fCallO, fCallN, fIxN, fLenN, fSl, fPart, fNoPart, fNeg, fIsi, fIsi2, fLen, fAbs, fInt, fMax2, fMin2, fTupOf, fListOf, fSorted, fLstR, fAll, fAny, fIx, fIn, fEq, fIsN, fAdd, fMul, f2I, unD, slots0, settable, ownAt, owned, lentEnd, fiLst, fiTup, fiR1, fiR2, fiZip, fiZip3, fiKeysZ, fiItemsZ, fYes, wipeS] at h ⊢
      exact h
    · exact h.elim
  · exact h.elim
theorem d_is_change (ss : List S) (Q' : S → Prop) (h : fn_is_change ss Q') : g_is_change (EF Q') (slots0 2 ss) := by
  unfold fn_is_change at h
  split at h
  · split at h
    · rename_i p e
      rw [planOf_some e]
      simp [g_is_change, fn_is_within, Pl.d, atI, ixN, sSeq, sRet, sRetN, sRetW, sIf, sNext, sNever, sExpr, sAsg, sNew, sNewS, sPar, sPar3, sApp, sSetIx, sDPut, sPar3W, fnD0, fnD1, fnOwn, fIxDN, fInDN, fIxZ, fInZ, fLenZ, fListZ, fGetZ, fMaxL, fMinL, fVar, fC, fRaw, fNil, fCons, fTup, fLst, fOp, fTest, fChain, fAnd, fOr, fNot, fAndV, fOrV, fNotV, fIf, fIfT, fStill, still, fnLst, gNm, gTp, gsCons, gsNil, fCall, fCallO, fCallN, fIxN, fLenN, fSl, fPart, fNoPart, fNeg, fIsi, fIsi2, fLen, fAbs, fInt, fMax2, fMin2, fTupOf, fListOf, fSorted, fLstR, fAll, fAny, fIx, fIn, fEq, fIsN, fAdd, fMul, f2I, unD, slots0, settable, ownAt, owned, lentEnd, fiLst, fiTup, fiR1, fiR2, fiZip, fiZip3, fiKeysZ, fiItemsZ, fYes, wipeS]
      exact h
    · exact h.elim
  · exact h.elim
theorem d_look_at_choice (ss : List S) (Q' : S → Prop) (h : fn_look_at_choice ss Q') : g_look_at_choice (EF Q') (slots0 2 ss) := by
  unfold fn_look_at_choice at h
  split at h
  · split at h
    · rename_i p e
      rw [planOf_some e]
      simp [g_look_at_choice, fn_is_change, planOf_d, h.1, sSeq, sRet, sRetN, sRetW, sIf, sNext, sNever, sExpr, sAsg, sNew, sNewS, sPar, sPar3, sApp, sSetIx, sDPut, sPar3W, fnD0, fnD1, fnOwn, fIxDN, fInDN, fIxZ, fInZ, fLenZ, fListZ, fGetZ, fMaxL, fMinL, fVar, fC, fRaw, fNil, fCons, fTup, fLst, fOp, fTest, fChain, fAnd, fOr, fNot, fAndV, fOrV, fNotV, fIf, fIfT, fStill, still, fnLst, gNm, gTp, gsCons, gsNil, fCall, fCallO, fCallN, fIxN, fLenN, fSl, fPart, fNoPart, fNeg, fIsi, fIsi2, fLen, fAbs, fInt, fMax2, fMin2, fTupOf, fListOf, fSorted, fLstR, fAll, fAny, fIx, fIn, fEq, fIsN, fAdd, fMul, f2I, unD, slots0, settable, ownAt, owned, lentEnd, fiLst, fiTup, fiR1, fiR2, fiZip, fiZip3, fiKeysZ, fiItemsZ, fYes, wipeS]
      exact h.2
    · exact h.elim
  · exact h.elim
theorem all_within {xs : List Int} (h : ∀ x ∈ xs, 0 ≤ x ∧ x ≤ 15) : (xs.map PyData.int).all (fun x => isWithin x 0 15) = true := by
  rw [List.all_eq_true]
  intro z hz
  obtain ⟨x, hx, rfl⟩ := List.mem_map.mp hz
  have := h x hx
  simp [isWithin, this]
theorem fits_ok {p : Pl} {s : Stn} (h : s.fits p) : fitsStand p s.d = true := by
  have h1 := all_within h.past
  have h2 := h.h1
  have h3 := h.c1
  unfold fitsStand Stn.d
  simp only [h1, isPart, Dev.d, Pt.d, List.length_map, h.len, decide_true, Bool.and_true]
  simp [isWithin, h.w0, h.w15, h.h0, h.c0, h2, h3]
theorem fnPSc_some {f : Pl → Stn → D} {ss : List S} {Q' : S → Prop} (h : fnPSc f ss Q') : ∃ p s, ss = [.d p.d, .d s.d] ∧ p.ok ∧ s.fits p ∧ Q' (.d (f p s)) := by
  unfold fnPSc at h
  split at h
  · split at h
    · rename_i e1 e2
      rw [planOf_some e1, standOf_some e2]
      exact ⟨_, _, rfl, h.1.1, h.1.2, h.2⟩
    · exact h.elim
  · exact h.elim
theorem d_told (ss : List S) (Q' : S → Prop) (h : fn_told ss Q') : g_told (EF Q') (slots0 2 ss) := by
  obtain ⟨p, s, rfl, ok, hf, h⟩ := fnPSc_some h
  simp [g_told, fn_look_at_plan, fn_look_at_stand, fn_told_by, fnPS, planOf_d, standOf_d, isPlan_d.mpr ok, ok, fits_ok hf, hf.len, sSeq, sRet, sRetN, sRetW, sIf, sNext, sNever, sExpr, sAsg, sNew, sNewS, sPar, sPar3, sApp, sSetIx, sDPut, sPar3W, fnD0, fnD1, fnOwn, fIxDN, fInDN, fIxZ, fInZ, fLenZ, fListZ, fGetZ, fMaxL, fMinL, fVar, fC, fRaw, fNil, fCons, fTup, fLst, fOp, fTest, fChain, fAnd, fOr, fNot, fAndV, fOrV, fNotV, fIf, fIfT, fStill, still, fnLst, gNm, gTp, gsCons, gsNil, fCall, fCallO, fCallN, fIxN, fLenN, fSl, fPart, fNoPart, fNeg, fIsi, fIsi2, fLen, fAbs, fInt, fMax2, fMin2, fTupOf, fListOf, fSorted, fLstR, fAll, fAny, fIx, fIn, fEq, fIsN, fAdd, fMul, f2I, unD, slots0, settable, ownAt, owned, lentEnd, fiLst, fiTup, fiR1, fiR2, fiZip, fiZip3, fiKeysZ, fiItemsZ, fYes, wipeS]
  exact h
theorem d_running (ss : List S) (Q' : S → Prop) (h : fn_running ss Q') : g_running (EF Q') (slots0 3 ss) := by
  obtain ⟨p, s, rfl, ok, hf, h⟩ := fnPSc_some h
  simp [g_running, fn_look_at_plan, fn_look_at_stand, fn_parts_by, fnPS, fnLc, lcGo, planOf_d, standOf_d, isPlan_d.mpr ok, ok, fits_ok hf, hf.len, Pt.d, atI, ixN, sizeLine_eq, sSeq, sRet, sRetN, sRetW, sIf, sNext, sNever, sExpr, sAsg, sNew, sNewS, sPar, sPar3, sApp, sSetIx, sDPut, sPar3W, fnD0, fnD1, fnOwn, fIxDN, fInDN, fIxZ, fInZ, fLenZ, fListZ, fGetZ, fMaxL, fMinL, fVar, fC, fRaw, fNil, fCons, fTup, fLst, fOp, fTest, fChain, fAnd, fOr, fNot, fAndV, fOrV, fNotV, fIf, fIfT, fStill, still, fnLst, gNm, gTp, gsCons, gsNil, fCall, fCallO, fCallN, fIxN, fLenN, fSl, fPart, fNoPart, fNeg, fIsi, fIsi2, fLen, fAbs, fInt, fMax2, fMin2, fTupOf, fListOf, fSorted, fLstR, fAll, fAny, fIx, fIn, fEq, fIsN, fAdd, fMul, f2I, unD, slots0, settable, ownAt, owned, lentEnd, fiLst, fiTup, fiR1, fiR2, fiZip, fiZip3, fiKeysZ, fiItemsZ, fYes, wipeS]
  exact h
theorem d_after (ss : List S) (Q' : S → Prop) (h : fn_after ss Q') : g_after (EF Q') (slots0 3 ss) := by
  unfold fn_after at h
  split at h
  · split at h
    · rename_i p s e1 e2
      rw [planOf_some e1, standOf_some e2]
      obtain ⟨⟨ok, hf, h1, h2⟩, h⟩ := h
      simp [g_after, fn_look_at_plan, fn_look_at_stand, fn_look_at_choice, fn_behind, planOf_d, standOf_d, isPlan_d.mpr ok, ok, fits_ok hf, hf.len, isWithin, h1, h2, sSeq, sRet, sRetN, sRetW, sIf, sNext, sNever, sExpr, sAsg, sNew, sNewS, sPar, sPar3, sApp, sSetIx, sDPut, sPar3W, fnD0, fnD1, fnOwn, fIxDN, fInDN, fIxZ, fInZ, fLenZ, fListZ, fGetZ, fMaxL, fMinL, fVar, fC, fRaw, fNil, fCons, fTup, fLst, fOp, fTest, fChain, fAnd, fOr, fNot, fAndV, fOrV, fNotV, fIf, fIfT, fStill, still, fnLst, gNm, gTp, gsCons, gsNil, fCall, fCallO, fCallN, fIxN, fLenN, fSl, fPart, fNoPart, fNeg, fIsi, fIsi2, fLen, fAbs, fInt, fMax2, fMin2, fTupOf, fListOf, fSorted, fLstR, fAll, fAny, fIx, fIn, fEq, fIsN, fAdd, fMul, f2I, unD, slots0, settable, ownAt, owned, lentEnd, fiLst, fiTup, fiR1, fiR2, fiZip, fiZip3, fiKeysZ, fiItemsZ, fYes, wipeS]
      exact h
    · exact h.elim
  · exact h.elim
theorem d_begin_of (ss : List S) (Q' : S → Prop) (h : fn_begin_of ss Q') : g_begin_of (EF Q') (slots0 7 ss) := by
  unfold fn_begin_of fn__law_first at h
  split at h
  · split at h
    · rename_i p e
      rw [planOf_some e]
      obtain ⟨ok, h⟩ := h
      have h1 := ok.la0
      have h2 := ok.la2
      have e1 : (List.replicate p.late.toNat [PyData.int p.beg]).flatten = (List.replicate p.late.toNat p.beg).map PyData.int := by
        rw [List.map_replicate]
        generalize p.late.toNat = n
        induction n with
        | zero => rfl
        | succ n ih => rw [List.replicate_succ, List.replicate_succ, List.flatten_cons, ih]; rfl
      simp [firstStand, Stn.d, Pt.d] at h
      simp [g_begin_of, Pl.d, Dev.d, atI, ixN, sizeLine_eq, e1, sSeq, sRet, sRetN, sRetW, sIf, sNext, sNever, sExpr, sAsg, sNew, sNewS, sPar, sPar3, sApp, sSetIx, sDPut, sPar3W, fnD0, fnD1, fnOwn, fIxDN, fInDN, fIxZ, fInZ, fLenZ, fListZ, fGetZ, fMaxL, fMinL, fVar, fC, fRaw, fNil, fCons, fTup, fLst, fOp, fTest, fChain, fAnd, fOr, fNot, fAndV, fOrV, fNotV, fIf, fIfT, fStill, still, fnLst, gNm, gTp, gsCons, gsNil, fCall, fCallO, fCallN, fIxN, fLenN, fSl, fPart, fNoPart, fNeg, fIsi, fIsi2, fLen, fAbs, fInt, fMax2, fMin2, fTupOf, fListOf, fSorted, fLstR, fAll, fAny, fIx, fIn, fEq, fIsN, fAdd, fMul, f2I, unD, slots0, settable, ownAt, owned, lentEnd, fiLst, fiTup, fiR1, fiR2, fiZip, fiZip3, fiKeysZ, fiItemsZ, fYes, wipeS]
      exact ⟨⟨by omega, by omega, by omega⟩, h⟩
    · exact h.elim
  · exact h.elim
theorem d__law_first (ss : List S) (Q' : S → Prop) (h : fn__law_first ss Q') : g__law_first (EF Q') (slots0 1 ss) := by
  unfold fn__law_first at h
  split at h
  · split at h
    · rename_i p e
      rw [planOf_some e]
      obtain ⟨ok, h⟩ := h
      have h1 := ok.la0
      have h2 := ok.la2
      have e1 : (List.replicate p.late.toNat [PyData.int p.beg]).flatten = (List.replicate p.late.toNat p.beg).map PyData.int := by
        rw [List.map_replicate]
        generalize p.late.toNat = n
        induction n with
        | zero => rfl
        | succ n ih => rw [List.replicate_succ, List.replicate_succ, List.flatten_cons, ih]; rfl
      simp [firstStand, Stn.d, Pt.d] at h
      simp [g__law_first, Pl.d, Dev.d, atI, ixN, sizeLine_eq, e1, sSeq, sRet, sRetN, sRetW, sIf, sNext, sNever, sExpr, sAsg, sNew, sNewS, sPar, sPar3, sApp, sSetIx, sDPut, sPar3W, fnD0, fnD1, fnOwn, fIxDN, fInDN, fIxZ, fInZ, fLenZ, fListZ, fGetZ, fMaxL, fMinL, fVar, fC, fRaw, fNil, fCons, fTup, fLst, fOp, fTest, fChain, fAnd, fOr, fNot, fAndV, fOrV, fNotV, fIf, fIfT, fStill, still, fnLst, gNm, gTp, gsCons, gsNil, fCall, fCallO, fCallN, fIxN, fLenN, fSl, fPart, fNoPart, fNeg, fIsi, fIsi2, fLen, fAbs, fInt, fMax2, fMin2, fTupOf, fListOf, fSorted, fLstR, fAll, fAny, fIx, fIn, fEq, fIsN, fAdd, fMul, f2I, unD, slots0, settable, ownAt, owned, lentEnd, fiLst, fiTup, fiR1, fiR2, fiZip, fiZip3, fiKeysZ, fiItemsZ, fYes, wipeS]
      exact ⟨⟨by omega, by omega, by omega⟩, h⟩
    · exact h.elim
  · exact h.elim
theorem told_mod (w k : Int) : w - w % k = k * (w / k) := by
  have := Int.emod_add_mul_ediv w k
  omega
theorem d__law_told (ss : List S) (Q' : S → Prop) (h : fn__law_told ss Q') : g__law_told (EF Q') (slots0 3 ss) := by
  obtain ⟨p, s, rfl, ok, hl, h⟩ := fnPS_some h
  have k2 : 0 < p.step := by have := ok.st1; omega
  rcases seen_late hl ok.la0 ok.la2 with ⟨e1, e2⟩ | ⟨e1, a, e2⟩ | ⟨e1, a, b, e2⟩
  all_goals
    simp [told, Stn.seen, e2] at h
    simp [g__law_told, Pl.d, Stn.d, atI, ixN, e1, e2, k2, sizeLine_eq, cut, HT.sIx, told_mod, sSeq, sRet, sRetN, sRetW, sIf, sNext, sNever, sExpr, sAsg, sNew, sNewS, sPar, sPar3, sApp, sSetIx, sDPut, sPar3W, fnD0, fnD1, fnOwn, fIxDN, fInDN, fIxZ, fInZ, fLenZ, fListZ, fGetZ, fMaxL, fMinL, fVar, fC, fRaw, fNil, fCons, fTup, fLst, fOp, fTest, fChain, fAnd, fOr, fNot, fAndV, fOrV, fNotV, fIf, fIfT, fStill, still, fnLst, gNm, gTp, gsCons, gsNil, fCall, fCallO, fCallN, fIxN, fLenN, fSl, fPart, fNoPart, fNeg, fIsi, fIsi2, fLen, fAbs, fInt, fMax2, fMin2, fTupOf, fListOf, fSorted, fLstR, fAll, fAny, fIx, fIn, fEq, fIsN, fAdd, fMul, f2I, unD, slots0, settable, ownAt, owned, lentEnd, fiLst, fiTup, fiR1, fiR2, fiZip, fiZip3, fiKeysZ, fiItemsZ, fYes, wipeS]
    exact h
theorem d__law_part (ss : List S) (Q' : S → Prop) (h : fn__law_part ss Q') : g__law_part (EF Q') (slots0 7 ss) := by
  unfold fn__law_part at h
  split at h
  · rename_i x y a b
    split at h
    · rename_i x' q' e1 e2
      have e3 := devOf_some e1
      have e4 := partOf_some e2
      subst e3; subst e4
      obtain ⟨l, hi, on, off, pw⟩ := x'
      obtain ⟨r, n⟩ := q'
      have c1 : (on - 1 < n) = (on ≤ n) := propext ⟨fun h => by omega, fun h => by omega⟩
      have c2 : (off - 1 < n) = (off ≤ n) := propext ⟨fun h => by omega, fun h => by omega⟩
      by_cases h1 : on ≤ n <;> by_cases h2 : off ≤ n <;> cases r <;> cases a <;> cases b <;> simp [g__law_part, goesOn, Dev.d, Pt.d, atI, ixN, sizeLine_eq, h1, h2, c1, c2, sSeq, sRet, sRetN, sRetW, sIf, sNext, sNever, sExpr, sAsg, sNew, sNewS, sPar, sPar3, sApp, sSetIx, sDPut, sPar3W, fnD0, fnD1, fnOwn, fIxDN, fInDN, fIxZ, fInZ, fLenZ, fListZ, fGetZ, fMaxL, fMinL, fVar, fC, fRaw, fNil, fCons, fTup, fLst, fOp, fTest, fChain, fAnd, fOr, fNot, fAndV, fOrV, fNotV, fIf, fIfT, fStill, still, fnLst, gNm, gTp, gsCons, gsNil, fCall, fCallO, fCallN, fIxN, fLenN, fSl, fPart, fNoPart, fNeg, fIsi, fIsi2, fLen, fAbs, fInt, fMax2, fMin2, fTupOf, fListOf, fSorted, fLstR, fAll, fAny, fIx, fIn, fEq, fIsN, fAdd, fMul, f2I, unD, slots0, settable, ownAt, owned, lentEnd, fiLst, fiTup, fiR1, fiR2, fiZip, fiZip3, fiKeysZ, fiItemsZ, fYes, wipeS] at h ⊢ <;> exact h
    · exact h.elim
  · exact h.elim
theorem goesOn_free (x : Dev) (q : Pt) (b e f : Bool) : goesOn x q (b && f) e true = goesOn x q b e f := by
  unfold goesOn
  cases q.runs <;> cases b <;> cases e <;> cases f <;> simp
theorem d__law_parts (ss : List S) (Q' : S → Prop) (h : fn__law_parts ss Q') : g__law_parts (EF Q') (slots0 13 ss) := by
  obtain ⟨p, s, rfl, ok, hl, h⟩ := fnPS_some h
  have e1 := standOf_d s
  have e2 := planOf_d p
  unfold Stn.d Pt.d at e1
  unfold Pl.d Dev.d at e2
  have dh : devOf (PyData.tuple [.int p.h.low, .int p.h.high, .int p.h.on, .int p.h.off, .int p.h.power]) = some p.h := rfl
  have dc : devOf (PyData.tuple [.int p.c.low, .int p.c.high, .int p.c.on, .int p.c.off, .int p.c.power]) = some p.c := rfl
  have qh : ({ runs := s.h.runs, n := s.h.n } : Pt) = s.h := rfl
  have qc : ({ runs := s.c.runs, n := s.c.n } : Pt) = s.c := rfl
  simp [partH, partC, ← goesOn_free, Pt.d] at h
  simp [g__law_parts, fn__law_told, fn_told_by, fnPS, fn__law_part, Pl.d, Stn.d, Pt.d, Dev.d, e1, e2, dh, dc, qh, qc, ok, hl, atI, ixN, shaped_bar ok, sh_heater, sh_cooler, partOf, sizeLine_eq, PyData.eqv, sSeq, sRet, sRetN, sRetW, sIf, sNext, sNever, sExpr, sAsg, sNew, sNewS, sPar, sPar3, sApp, sSetIx, sDPut, sPar3W, fnD0, fnD1, fnOwn, fIxDN, fInDN, fIxZ, fInZ, fLenZ, fListZ, fGetZ, fMaxL, fMinL, fVar, fC, fRaw, fNil, fCons, fTup, fLst, fOp, fTest, fChain, fAnd, fOr, fNot, fAndV, fOrV, fNotV, fIf, fIfT, fStill, still, fnLst, gNm, gTp, gsCons, gsNil, fCall, fCallO, fCallN, fIxN, fLenN, fSl, fPart, fNoPart, fNeg, fIsi, fIsi2, fLen, fAbs, fInt, fMax2, fMin2, fTupOf, fListOf, fSorted, fLstR, fAll, fAny, fIx, fIn, fEq, fIsN, fAdd, fMul, f2I, unD, slots0, settable, ownAt, owned, lentEnd, fiLst, fiTup, fiR1, fiR2, fiZip, fiZip3, fiKeysZ, fiItemsZ, fYes, wipeS]
  have bt : ∀ {x : Str}, p.bar = x → (p.bar == x) = true := fun {x} e => by rw [e]; exact beq_self_eq_true _
  have bf : ∀ {x : Str}, ¬ p.bar = x → (p.bar == x) = false := fun {x} e => beq_eq_false_iff_ne.mpr e
  by_cases h1 : p.bar = "heater" <;> by_cases h2 : p.bar = "cooler" <;> by_cases h3 : told p s ≤ p.h.low <;> by_cases h4 : p.c.high ≤ told p s
  all_goals
    first | rw [bt h1] at h | rw [bf h1] at h
    first | rw [bt h2] at h | rw [bf h2] at h
    simp [h3, h4] at h
    first | rw [if_pos h1] | rw [if_neg h1]
    first | rw [if_pos h2] | rw [if_neg h2]
    simp [h3, h4]
    exact h
theorem at0 {a : D} {l : List D} : atI (a :: l) 0 = some a := atI_nat (j := 0) rfl
theorem at1 {a b : D} {l : List D} : atI (a :: b :: l) 1 = some b := atI_nat (j := 1) rfl
theorem at2 {a b c : D} {l : List D} : atI (a :: b :: c :: l) 2 = some c := atI_nat (j := 2) rfl
theorem at3 {a b c d : D} {l : List D} : atI (a :: b :: c :: d :: l) 3 = some d := atI_nat (j := 3) rfl
theorem at4 {a b c d e : D} {l : List D} : atI (a :: b :: c :: d :: e :: l) 4 = some e := atI_nat (j := 4) rfl
theorem at5 {a b c d e f : D} {l : List D} : atI (a :: b :: c :: d :: e :: f :: l) 5 = some f := atI_nat (j := 5) rfl
theorem d__law_after (ss : List S) (Q' : S → Prop) (h : fn__law_after ss Q') : g__law_after (EF Q') (slots0 7 ss) := by
  unfold fn__law_after fn_behind at h
  split at h
  · split at h
    · rename_i p s e1 e2
      rw [planOf_some e1, standOf_some e2]
      obtain ⟨⟨ok, hl⟩, h⟩ := h
      have q1 := standOf_d s
      have q2 := planOf_d p
      have hc : cut (PyData.int s.w :: s.past.map PyData.int) none (some (s.past.length : Int)) = ((s.w :: s.past).take p.late.toNat).map PyData.int := by
        rw [cut_to _ (by omega) (by simp; omega), List.map_take, ← hl]
        rfl
      have hz : s.past.length + 1 ≤ 16777216 := by have := ok.la2; omega
      have hw : ∀ w : Int, atI ((isort [0, w, 15]).map PyData.int) 1 = some (.int (clampW w)) := fun w => by
        unfold clampW
        by_cases a1 : w ≤ 15 <;> by_cases a2 : 0 ≤ w <;> by_cases a3 : 0 < w <;> by_cases a4 : w < 15 <;> simp [isort, ins, atI, ixN, a1, a2, a3, a4] <;> omega
      have hc1 : ∀ a b c d : D, cut [a, b, c, d] none (some 1) = [a] := fun _ _ _ _ => rfl
      unfold Stn.d Pt.d at q1
      unfold Pl.d Dev.d at q2
      simp [behind, Stn.d, Pt.d, b2n] at h
      rw [hl] at hc
      simp only [List.map_take, List.map_cons] at hc
      simp [g__law_after, fn__law_parts, fn_parts_by, fnPS, Pl.d, Stn.d, Pt.d, Dev.d, q1, q2, ok, hl, at0, at1, at2, at3, at4, at5, sizeLine_eq, intsD, Nat.add_comm 1, hz, hw, hc, hc1, sSeq, sRet, sRetN, sRetW, sIf, sNext, sNever, sExpr, sAsg, sNew, sNewS, sPar, sPar3, sApp, sSetIx, sDPut, sPar3W, fnD0, fnD1, fnOwn, fIxDN, fInDN, fIxZ, fInZ, fLenZ, fListZ, fGetZ, fMaxL, fMinL, fVar, fC, fRaw, fNil, fCons, fTup, fLst, fOp, fTest, fChain, fAnd, fOr, fNot, fAndV, fOrV, fNotV, fIf, fIfT, fStill, still, fnLst, gNm, gTp, gsCons, gsNil, fCall, fCallO, fCallN, fIxN, fLenN, fSl, fPart, fNoPart, fNeg, fIsi, fIsi2, fLen, fAbs, fInt, fMax2, fMin2, fTupOf, fListOf, fSorted, fLstR, fAll, fAny, fIx, fIn, fEq, fIsN, fAdd, fMul, f2I, unD, slots0, settable, ownAt, owned, lentEnd, fiLst, fiTup, fiR1, fiR2, fiZip, fiZip3, fiKeysZ, fiItemsZ, fYes, wipeS]
      by_cases a1 : (partH p s).runs = true <;> by_cases a2 : (partC p s).runs = true <;> simp [a1, a2] at h ⊢ <;> exact h
    · exact h.elim
  · exact h.elim
theorem d__law_on (ss : List S) (Q' : S → Prop) (h : fn__law_on ss Q') : g__law_on (EF Q') (slots0 4 ss) := by
  obtain ⟨p, s, rfl, ok, hl, h⟩ := fnPS_some h
  simp [g__law_on, fn__law_parts, fn_parts_by, fnPS, planOf_d, standOf_d, ok, hl, Pt.d, atI, ixN, sizeLine_eq, sSeq, sRet, sRetN, sRetW, sIf, sNext, sNever, sExpr, sAsg, sNew, sNewS, sPar, sPar3, sApp, sSetIx, sDPut, sPar3W, fnD0, fnD1, fnOwn, fIxDN, fInDN, fIxZ, fInZ, fLenZ, fListZ, fGetZ, fMaxL, fMinL, fVar, fC, fRaw, fNil, fCons, fTup, fLst, fOp, fTest, fChain, fAnd, fOr, fNot, fAndV, fOrV, fNotV, fIf, fIfT, fStill, still, fnLst, gNm, gTp, gsCons, gsNil, fCall, fCallO, fCallN, fIxN, fLenN, fSl, fPart, fNoPart, fNeg, fIsi, fIsi2, fLen, fAbs, fInt, fMax2, fMin2, fTupOf, fListOf, fSorted, fLstR, fAll, fAny, fIx, fIn, fEq, fIsN, fAdd, fMul, f2I, unD, slots0, settable, ownAt, owned, lentEnd, fiLst, fiTup, fiR1, fiR2, fiZip, fiZip3, fiKeysZ, fiItemsZ, fYes, wipeS]
  exact h
theorem d__law_changes (ss : List S) (Q' : S → Prop) (h : fn__law_changes ss Q') : g__law_changes (EF Q') (slots0 1 ss) := by
  unfold fn__law_changes at h
  split at h
  · split at h
    · rename_i p e
      rw [planOf_some e]
      obtain ⟨ok, h⟩ := h
      have h0 := ok.w0
      have h1 := ok.w1
      have h2 := ok.w2
      simp [changes] at h
      simp [g__law_changes, Pl.d, atI, ixN, RgOk, sSeq, sRet, sRetN, sRetW, sIf, sNext, sNever, sExpr, sAsg, sNew, sNewS, sPar, sPar3, sApp, sSetIx, sDPut, sPar3W, fnD0, fnD1, fnOwn, fIxDN, fInDN, fIxZ, fInZ, fLenZ, fListZ, fGetZ, fMaxL, fMinL, fVar, fC, fRaw, fNil, fCons, fTup, fLst, fOp, fTest, fChain, fAnd, fOr, fNot, fAndV, fOrV, fNotV, fIf, fIfT, fStill, still, fnLst, gNm, gTp, gsCons, gsNil, fCall, fCallO, fCallN, fIxN, fLenN, fSl, fPart, fNoPart, fNeg, fIsi, fIsi2, fLen, fAbs, fInt, fMax2, fMin2, fTupOf, fListOf, fSorted, fLstR, fAll, fAny, fIx, fIn, fEq, fIsN, fAdd, fMul, f2I, unD, slots0, settable, ownAt, owned, lentEnd, fiLst, fiTup, fiR1, fiR2, fiZip, fiZip3, fiKeysZ, fiItemsZ, fYes, wipeS]
      exact ⟨by omega, h⟩
    · exact h.elim
  · exact h.elim
end Aq
/-! B4: draws, likeness. -/
namespace Aq
open PySem PySem.Spec PyProof.Rows L2
theorem d__law_kind (ss : List S) (Q' : S → Prop) (h : fn__law_kind ss Q') : g__law_kind (EF Q') (slots0 1 ss) := by
  unfold fn__law_kind at h
  split at h
  · rename_i x
    cases x <;> simp [g__law_kind, kindD, isNone, isTy, okTy, sSeq, sRet, sRetN, sRetW, sIf, sNext, sNever, sExpr, sAsg, sNew, sNewS, sPar, sPar3, sApp, sSetIx, sDPut, sPar3W, fnD0, fnD1, fnOwn, fIxDN, fInDN, fIxZ, fInZ, fLenZ, fListZ, fGetZ, fMaxL, fMinL, fVar, fC, fRaw, fNil, fCons, fTup, fLst, fOp, fTest, fChain, fAnd, fOr, fNot, fAndV, fOrV, fNotV, fIf, fIfT, fStill, still, fnLst, gNm, gTp, gsCons, gsNil, fCall, fCallO, fCallN, fIxN, fLenN, fSl, fPart, fNoPart, fNeg, fIsi, fIsi2, fLen, fAbs, fInt, fMax2, fMin2, fTupOf, fListOf, fSorted, fLstR, fAll, fAny, fIx, fIn, fEq, fIsN, fAdd, fMul, f2I, unD, slots0, settable, ownAt, owned, lentEnd, fiLst, fiTup, fiR1, fiR2, fiZip, fiZip3, fiKeysZ, fiItemsZ, fYes, wipeS] at h ⊢ <;> exact h
  · exact h.elim
theorem d__law_pick (o : Ow) (ss : List S) (Q' : S → Ow → Prop) (h : fn__law_pick o ss Q') : g__law_pick (EO Q') (slots0 3 (.pa o :: ss)) := by
  unfold fn__law_pick at h
  split at h
  · rename_i a b m
    obtain ⟨⟨h1, h2⟩, h⟩ := h
    have k1 : CDiv a m := ⟨by omega, h2⟩
    have k2 : CMul b 393555900739 := .inr ⟨by decide, by decide⟩
    have k3 : ∀ x : Int, CDiv x 4093 := fun x => ⟨by decide, by decide⟩
    have k4 : 0 < m := by omega
    by_cases ha : 0 < a
    · simp [g__law_pick, spr, ha, k1, k4, at0, at1, ixN, sSeq, sRet, sRetN, sRetW, sIf, sNext, sNever, sExpr, sAsg, sNew, sNewS, sPar, sPar3, sApp, sSetIx, sDPut, sPar3W, fnD0, fnD1, fnOwn, fIxDN, fInDN, fIxZ, fInZ, fLenZ, fListZ, fGetZ, fMaxL, fMinL, fVar, fC, fRaw, fNil, fCons, fTup, fLst, fOp, fTest, fChain, fAnd, fOr, fNot, fAndV, fOrV, fNotV, fIf, fIfT, fStill, still, fnLst, gNm, gTp, gsCons, gsNil, fCall, fCallO, fCallN, fIxN, fLenN, fSl, fPart, fNoPart, fNeg, fIsi, fIsi2, fLen, fAbs, fInt, fMax2, fMin2, fTupOf, fListOf, fSorted, fLstR, fAll, fAny, fIx, fIn, fEq, fIsN, fAdd, fMul, f2I, unD, slots0, settable, ownAt, owned, lentEnd, fiLst, fiTup, fiR1, fiR2, fiZip, fiZip3, fiKeysZ, fiItemsZ, fYes, wipeS]
      exact h _ _ _ (Int.emod_nonneg _ (by omega)) (Int.emod_lt_of_pos _ k4)
    · simp [g__law_pick, spr, ha, k2, k3, k4, at0, at1, ixN, sSeq, sRet, sRetN, sRetW, sIf, sNext, sNever, sExpr, sAsg, sNew, sNewS, sPar, sPar3, sApp, sSetIx, sDPut, sPar3W, fnD0, fnD1, fnOwn, fIxDN, fInDN, fIxZ, fInZ, fLenZ, fListZ, fGetZ, fMaxL, fMinL, fVar, fC, fRaw, fNil, fCons, fTup, fLst, fOp, fTest, fChain, fAnd, fOr, fNot, fAndV, fOrV, fNotV, fIf, fIfT, fStill, still, fnLst, gNm, gTp, gsCons, gsNil, fCall, fCallO, fCallN, fIxN, fLenN, fSl, fPart, fNoPart, fNeg, fIsi, fIsi2, fLen, fAbs, fInt, fMax2, fMin2, fTupOf, fListOf, fSorted, fLstR, fAll, fAny, fIx, fIn, fEq, fIsN, fAdd, fMul, f2I, unD, slots0, settable, ownAt, owned, lentEnd, fiLst, fiTup, fiR1, fiR2, fiZip, fiZip3, fiKeysZ, fiItemsZ, fYes, wipeS]
      exact h _ _ _ (Int.emod_nonneg _ (by omega)) (Int.emod_lt_of_pos _ k4)
  · exact h.elim
theorem d__law_spring (ss : List S) (Q' : Ow → Prop) (h : fn__law_spring ss Q') : g__law_spring (EN Q') (slots0 4 ss) := by
  unfold fn__law_spring at h
  split at h
  · rename_i ds i
    split at h
    · rename_i ns e
      have e2 := intsD_some e
      subst e2
      obtain ⟨⟨h0, h1⟩, h⟩ := h
      have k1 : ∀ c : Int, CMul c 863 := fun c => .inr ⟨by decide, by decide⟩
      have k2 : CMul 524287 i := .inl ⟨by decide, by decide⟩
      have k3 : CPow 10 18 := ⟨by decide, by decide, by decide⟩
      have fin : ∀ c m : Int, (if 10 ^ 18 ≤ c then Q' (.lst [.int c, .int m]) else Q' (.lst [.int 0, .int m])) := fun c m => by
        split <;> exact h _ _
      by_cases hi : i < ns.length
      · have e3 : atI (ns.map PyData.int) i = some (.int (ns[i.toNat]'(by omega))) := by
          have e4 : i = ((i.toNat : Nat) : Int) := by omega
          have e5 : (ns.map PyData.int)[i.toNat]? = some (.int (ns[i.toNat]'(by omega))) := by simp
          have := atI_nat e5
          rw [← e4] at this
          exact this
        simp [g__law_spring, hi, e3, k1, k2, k3, sizeLine_eq, sSeq, sRet, sRetN, sRetW, sIf, sNext, sNever, sExpr, sAsg, sNew, sNewS, sPar, sPar3, sApp, sSetIx, sDPut, sPar3W, fnD0, fnD1, fnOwn, fIxDN, fInDN, fIxZ, fInZ, fLenZ, fListZ, fGetZ, fMaxL, fMinL, fVar, fC, fRaw, fNil, fCons, fTup, fLst, fOp, fTest, fChain, fAnd, fOr, fNot, fAndV, fOrV, fNotV, fIf, fIfT, fStill, still, fnLst, gNm, gTp, gsCons, gsNil, fCall, fCallO, fCallN, fIxN, fLenN, fSl, fPart, fNoPart, fNeg, fIsi, fIsi2, fLen, fAbs, fInt, fMax2, fMin2, fTupOf, fListOf, fSorted, fLstR, fAll, fAny, fIx, fIn, fEq, fIsN, fAdd, fMul, f2I, unD, slots0, settable, ownAt, owned, lentEnd, fiLst, fiTup, fiR1, fiR2, fiZip, fiZip3, fiKeysZ, fiItemsZ, fYes, wipeS]
        exact fin _ _
      · simp [g__law_spring, hi, k1, k2, k3, sizeLine_eq, sSeq, sRet, sRetN, sRetW, sIf, sNext, sNever, sExpr, sAsg, sNew, sNewS, sPar, sPar3, sApp, sSetIx, sDPut, sPar3W, fnD0, fnD1, fnOwn, fIxDN, fInDN, fIxZ, fInZ, fLenZ, fListZ, fGetZ, fMaxL, fMinL, fVar, fC, fRaw, fNil, fCons, fTup, fLst, fOp, fTest, fChain, fAnd, fOr, fNot, fAndV, fOrV, fNotV, fIf, fIfT, fStill, still, fnLst, gNm, gTp, gsCons, gsNil, fCall, fCallO, fCallN, fIxN, fLenN, fSl, fPart, fNoPart, fNeg, fIsi, fIsi2, fLen, fAbs, fInt, fMax2, fMin2, fTupOf, fListOf, fSorted, fLstR, fAll, fAny, fIx, fIn, fEq, fIsN, fAdd, fMul, f2I, unD, slots0, settable, ownAt, owned, lentEnd, fiLst, fiTup, fiR1, fiR2, fiZip, fiZip3, fiKeysZ, fiItemsZ, fYes, wipeS]
        exact h _ _
    · exact h.elim
  · exact h.elim
theorem four {r : Int} (h0 : 0 ≤ r) (h : r < 4) : r = 0 ∨ r = 1 ∨ r = 2 ∨ r = 3 := by omega
theorem six {r : Int} (h0 : 0 ≤ r) (h : r < 6) : r = 0 ∨ r = 1 ∨ r = 2 ∨ r = 3 ∨ r = 4 ∨ r = 5 := by omega
/-- what [0, 0, 1, 2] gives -/
theorem at0012 {r : Int} (h0 : 0 ≤ r) (h : r < 4) : ∃ k : Int, atI [PyData.int 0, .int 0, .int 1, .int 2] r = some (.int k) ∧ 0 ≤ k ∧ k ≤ 2 := by
  rcases four h0 h with rfl | rfl | rfl | rfl
  · exact ⟨0, rfl, by decide, by decide⟩
  · exact ⟨0, rfl, by decide, by decide⟩
  · exact ⟨1, rfl, by decide, by decide⟩
  · exact ⟨2, rfl, by decide, by decide⟩
theorem at0122 {r : Int} (h0 : 0 ≤ r) (h : r < 4) : ∃ k : Int, atI [PyData.int 0, .int 1, .int 2, .int 2] r = some (.int k) ∧ 0 ≤ k ∧ k ≤ 2 := by
  rcases four h0 h with rfl | rfl | rfl | rfl
  · exact ⟨0, rfl, by decide, by decide⟩
  · exact ⟨1, rfl, by decide, by decide⟩
  · exact ⟨2, rfl, by decide, by decide⟩
  · exact ⟨2, rfl, by decide, by decide⟩
theorem atLow {r : Int} (h0 : 0 ≤ r) (h : r < 6) : ∃ k : Int, atI [PyData.int (-2), .int (-1), .int (-1), .int 0, .int 0, .int 1] r = some (.int k) ∧ -2 ≤ k ∧ k ≤ 1 := by
  rcases six h0 h with rfl | rfl | rfl | rfl | rfl | rfl
  · exact ⟨-2, rfl, by decide, by decide⟩
  · exact ⟨-1, rfl, by decide, by decide⟩
  · exact ⟨-1, rfl, by decide, by decide⟩
  · exact ⟨0, rfl, by decide, by decide⟩
  · exact ⟨0, rfl, by decide, by decide⟩
  · exact ⟨1, rfl, by decide, by decide⟩
theorem atBar {r : Int} (h0 : 0 ≤ r) (h : r < 4) : ∃ k : Str, atI [PyData.str "none", .str "none", .str "heater", .str "cooler"] r = some (.str k) ∧ isBar k = true := by
  rcases four h0 h with rfl | rfl | rfl | rfl
  · exact ⟨"none", rfl, by decide +kernel⟩
  · exact ⟨"none", rfl, by decide +kernel⟩
  · exact ⟨"heater", rfl, by decide +kernel⟩
  · exact ⟨"cooler", rfl, by decide +kernel⟩
theorem d__law_device (o : Ow) (ss : List S) (Q' : S → Ow → Prop) (h : fn__law_device o ss Q') : g__law_device (EO Q') (slots0 3 (.pa o :: ss)) := by
  unfold fn__law_device at h
  split at h
  · rename_i a b low
    simp [g__law_device, fn__law_pick, spr, sizeLine_eq, sSeq, sRet, sRetN, sRetW, sIf, sNext, sNever, sExpr, sAsg, sNew, sNewS, sPar, sPar3, sApp, sSetIx, sDPut, sPar3W, fnD0, fnD1, fnOwn, fIxDN, fInDN, fIxZ, fInZ, fLenZ, fListZ, fGetZ, fMaxL, fMinL, fVar, fC, fRaw, fNil, fCons, fTup, fLst, fOp, fTest, fChain, fAnd, fOr, fNot, fAndV, fOrV, fNotV, fIf, fIfT, fStill, still, fnLst, gNm, gTp, gsCons, gsNil, fCall, fCallO, fCallN, fIxN, fLenN, fSl, fPart, fNoPart, fNeg, fIsi, fIsi2, fLen, fAbs, fInt, fMax2, fMin2, fTupOf, fListOf, fSorted, fLstR, fAll, fAny, fIx, fIn, fEq, fIsN, fAdd, fMul, f2I, unD, slots0, settable, ownAt, owned, lentEnd, fiLst, fiTup, fiR1, fiR2, fiZip, fiZip3, fiKeysZ, fiItemsZ, fYes, wipeS]
    intro r1 z1 z1' r2 z2 z2'
    obtain ⟨k2, e2, y2, y2'⟩ := at0012 z2 z2'
    rw [e2]
    dsimp only
    intro r3 z3 z3'
    obtain ⟨k3, e3, y3, y3'⟩ := at0012 z3 z3'
    rw [e3]
    dsimp only
    intro r4 z4 z4' r5 a5 b5 z5 z5'
    exact h ⟨low + r1, low + r1 + 1 + r4, 1 + k2, 1 + k3, 1 + r5⟩ a5 b5 ⟨by show low ≤ low + r1; omega, by show low + r1 ≤ low + 3; omega, by show low + r1 + 1 ≤ low + r1 + 1 + r4; omega, by show low + r1 + 1 + r4 ≤ low + r1 + 4; omega, by show 1 ≤ 1 + k2; omega, by show 1 + k2 ≤ 3; omega, by show 1 ≤ 1 + k3; omega, by show 1 + k3 ≤ 3; omega, by show 1 ≤ 1 + r5; omega, by show 1 + r5 ≤ 4; omega⟩
  · exact h.elim
theorem d__law_plan (o : Ow) (ss : List S) (Q' : S → Ow → Prop) (h : fn__law_plan o ss Q') : g__law_plan (EO Q') (slots0 7 (.pa o :: ss)) := by
  unfold fn__law_plan at h
  split at h
  · rename_i a b late
    obtain ⟨⟨l0, l2⟩, h⟩ := h
    simp [g__law_plan, fn__law_pick, spr, sizeLine_eq, sSeq, sRet, sRetN, sRetW, sIf, sNext, sNever, sExpr, sAsg, sNew, sNewS, sPar, sPar3, sApp, sSetIx, sDPut, sPar3W, fnD0, fnD1, fnOwn, fIxDN, fInDN, fIxZ, fInZ, fLenZ, fListZ, fGetZ, fMaxL, fMinL, fVar, fC, fRaw, fNil, fCons, fTup, fLst, fOp, fTest, fChain, fAnd, fOr, fNot, fAndV, fOrV, fNotV, fIf, fIfT, fStill, still, fnLst, gNm, gTp, gsCons, gsNil, fCall, fCallO, fCallN, fIxN, fLenN, fSl, fPart, fNoPart, fNeg, fIsi, fIsi2, fLen, fAbs, fInt, fMax2, fMin2, fTupOf, fListOf, fSorted, fLstR, fAll, fAny, fIx, fIn, fEq, fIsN, fAdd, fMul, f2I, unD, slots0, settable, ownAt, owned, lentEnd, fiLst, fiTup, fiR1, fiR2, fiZip, fiZip3, fiKeysZ, fiItemsZ, fYes, wipeS]
    refine ⟨by omega, ?_⟩
    intro r1 z1 z1' r2 z2 z2'
    obtain ⟨k2, e2, y2, y2'⟩ := at0012 z2 z2'
    rw [e2]
    dsimp only
    intro r3 z3 z3'
    obtain ⟨k3, e3, y3, y3'⟩ := atLow z3 z3'
    rw [e3]
    dsimp only
    intro r4 z4 z4'
    obtain ⟨k4, e4, y4, y4'⟩ := at0122 z4 z4'
    rw [e4]
    dsimp only
    intro r5 z5 z5'
    obtain ⟨k5, e5, y5⟩ := atBar z5 z5'
    rw [e5]
    dsimp only
    intro r6 a6 b6 z6 z6'
    intro x a7 b7 hx y a8 b8 hy
    simp [unD]
    refine h ⟨x, y, r1, 1 + k2, k3, if k3 + k4 < 3 then k3 + k4 else 3, k5, 3 + r6⟩ a8 b8 ⟨hx, hy, z1, ?_, ?_, ?_, y3, ?_, ?_, y3', ?_, y5, ?_, ?_⟩
    · show r1 ≤ late; omega
    · show 1 ≤ 1 + k2; omega
    · show 1 + k2 ≤ 3; omega
    · show k3 ≤ if k3 + k4 < 3 then k3 + k4 else 3
      split <;> omega
    · show (if k3 + k4 < 3 then k3 + k4 else 3) ≤ k3 + 2
      split <;> omega
    · show (if k3 + k4 < 3 then k3 + k4 else 3) ≤ 3
      split <;> omega
    · show 3 ≤ 3 + r6; omega
    · show 3 + r6 ≤ 11; omega
  · exact h.elim
def g_twins (rec_ : Fn) : FS := (sSeq (sIf (fTest (fOp (fEq true) (fCall fn__law_kind (fCons (fVar 0) fNil)) (fCall fn__law_kind (fCons (fVar 1) fNil)))) (sRet (fC (.bool false))) sNext)
    (sSeq (sIf (fTest (fOp (fIn false) (fCall fn__law_kind (fCons (fVar 0) fNil)) (fStill (fnLst (fCons (fC (.int 2)) (fCons (fC (.int 3)) fNil)))))) (sRet (fAndV (fOp (fEq false) (fCall fLen (fCons (fVar 0) fNil)) (fCall fLen (fCons (fVar 1) fNil))) (fOp (fEq false) (fStill (fnLc (fiZip (fCons (fVar 0) (fCons (fVar 1) fNil))) (gTp 2 (gsCons (gNm 2) (gsCons (gNm 3) gsNil))) (fNot (fTest (fCall rec_ (fCons (fVar 2) (fCons (fVar 3) fNil))))) (fC (.int 1)) [2, 3])) (fStill (fnLst fNil))))) sNext)
    (sRet (fOp (fEq false) (fVar 0) (fVar 1)))))
theorem lowL_mem {n : Nat} : ∀ {xs : List D}, lowL n xs = true → ∀ x ∈ xs, low n x = true
  | [], _, _, h => by cases h
  | y :: ys, h, x, hx => by
    unfold lowL at h
    rw [Bool.and_eq_true] at h
    rcases List.mem_cons.mp hx with rfl | hx
    · exact h.1
    · exact lowL_mem h.2 x hx
theorem shaped_ones (n : Nat) : SeqAt.shaped (.list (List.replicate n (PyData.int 1))) = true := by
  have h1 : ∀ n, PyData.canLayAll0 (List.replicate n (PyData.int 1)) = true := fun n => by
    induction n with
    | zero => rfl
    | succ n ih => rw [List.replicate_succ]; simp [PyData.canLayAll0, PyData.canLay0, ih]
  have h2 : ∀ n, PyData.depthAll (List.replicate n (PyData.int 1)) = 0 := fun n => by
    induction n with
    | zero => rfl
    | succ n ih => rw [List.replicate_succ]; simp [PyData.depthAll, PyData.depth, ih]
  unfold SeqAt.shaped
  simp [PyData.canLay0, PyData.depth, h1, h2]
theorem eqv_ones (n : Nat) : PyData.eqv (.list (List.replicate n (PyData.int 1))) (.list []) = decide (n = 0) := by
  cases n with
  | zero => rfl
  | succ n => rw [List.replicate_succ]; simp [PyData.eqv, PyData.eqvAll]
theorem eqvAll_ones (n : Nat) : PyData.eqvAll (List.replicate n (PyData.int 1)) [] = decide (n = 0) := by
  cases n with
  | zero => rfl
  | succ n => rw [List.replicate_succ]; simp [PyData.eqvAll]
/-- how many pairs are no twins -/
def odds : List D → List D → Nat
  | x :: xs, y :: ys => (if twins x y then 0 else 1) + odds xs ys
  | _, _ => 0
theorem twinsL_odds : ∀ xs ys : List D, twinsL xs ys = (decide (xs.length = ys.length) && decide (odds xs ys = 0))
  | [], [] => rfl
  | [], y :: ys => by simp [twinsL]
  | x :: xs, [] => by simp [twinsL]
  | x :: xs, y :: ys => by
    unfold twinsL odds
    rw [twinsL_odds xs ys]
    cases twins x y <;> simp
theorem odds_le : ∀ xs ys : List D, odds xs ys ≤ xs.length
  | [], _ => Nat.zero_le _
  | x :: xs, [] => Nat.zero_le _
  | x :: xs, y :: ys => by
    have := odds_le xs ys
    unfold odds
    split <;> simp <;> omega
theorem lc_odds {n : Nat} {a b : S} {Q : List D → List S → Prop} : ∀ (xs ys : List D) (k : Nat), lowL n xs = true → lowL n ys = true → k + xs.length < sizeLine → Q (List.replicate (k + odds xs ys) (PyData.int 1)) [a, b, .no, .no] →
    lcGo (gTp 2 (gsCons (gNm 2) (gsCons (gNm 3) gsNil))) (fNot (fTest (fCall (fn_twins n) (fCons (fVar 2) (fCons (fVar 3) fNil))))) (fC (.int 1)) [2, 3] ((xs.zip ys).map fun z => PyData.tuple [z.1, z.2]) (List.replicate k (PyData.int 1)) [a, b, .no, .no] Q
  | [], _, k, _, _, _, h => by simpa [lcGo, odds] using h
  | x :: xs, [], k, _, _, _, h => by simpa [lcGo, odds] using h
  | x :: xs, y :: ys, k, hx, hy, hz, h => by
    unfold lowL at hx hy
    rw [Bool.and_eq_true] at hx hy
    rw [List.zip_cons_cons, List.map_cons]
    unfold lcGo
    unfold odds at h
    simp only [List.length_cons] at hz
    cases e : twins x y with
    | true =>
      rw [e] at h
      simp [fn_twins, hx.1, hy.1, e, sSeq, sRet, sRetN, sRetW, sIf, sNext, sNever, sExpr, sAsg, sNew, sNewS, sPar, sPar3, sApp, sSetIx, sDPut, sPar3W, fnD0, fnD1, fnOwn, fIxDN, fInDN, fIxZ, fInZ, fLenZ, fListZ, fGetZ, fMaxL, fMinL, fVar, fC, fRaw, fNil, fCons, fTup, fLst, fOp, fTest, fChain, fAnd, fOr, fNot, fAndV, fOrV, fNotV, fIf, fIfT, fStill, still, fnLst, gNm, gTp, gsCons, gsNil, fCall, fCallO, fCallN, fIxN, fLenN, fSl, fPart, fNoPart, fNeg, fIsi, fIsi2, fLen, fAbs, fInt, fMax2, fMin2, fTupOf, fListOf, fSorted, fLstR, fAll, fAny, fIx, fIn, fEq, fIsN, fAdd, fMul, f2I, unD, slots0, settable, ownAt, owned, lentEnd, fiLst, fiTup, fiR1, fiR2, fiZip, fiZip3, fiKeysZ, fiItemsZ, fYes, wipeS]
      exact lc_odds xs ys k hx.2 hy.2 (by omega) (by simpa using h)
    | false =>
      rw [e] at h
      simp [fn_twins, hx.1, hy.1, e, sSeq, sRet, sRetN, sRetW, sIf, sNext, sNever, sExpr, sAsg, sNew, sNewS, sPar, sPar3, sApp, sSetIx, sDPut, sPar3W, fnD0, fnD1, fnOwn, fIxDN, fInDN, fIxZ, fInZ, fLenZ, fListZ, fGetZ, fMaxL, fMinL, fVar, fC, fRaw, fNil, fCons, fTup, fLst, fOp, fTest, fChain, fAnd, fOr, fNot, fAndV, fOrV, fNotV, fIf, fIfT, fStill, still, fnLst, gNm, gTp, gsCons, gsNil, fCall, fCallO, fCallN, fIxN, fLenN, fSl, fPart, fNoPart, fNeg, fIsi, fIsi2, fLen, fAbs, fInt, fMax2, fMin2, fTupOf, fListOf, fSorted, fLstR, fAll, fAny, fIx, fIn, fEq, fIsN, fAdd, fMul, f2I, unD, slots0, settable, ownAt, owned, lentEnd, fiLst, fiTup, fiR1, fiR2, fiZip, fiZip3, fiKeysZ, fiItemsZ, fYes, wipeS]
      refine ⟨by omega, ?_⟩
      have e2 : List.replicate k (PyData.int 1) ++ [PyData.int 1] = List.replicate (k + 1) (PyData.int 1) := by
        rw [List.replicate_succ']
      rw [e2]
      refine lc_odds xs ys (k + 1) hx.2 hy.2 (by omega) ?_
      have e3 : k + 1 + odds xs ys = k + ((if false = true then 0 else 1) + odds xs ys) := by simp; omega
      rw [e3]
      exact h
theorem sh_nil : SeqAt.shaped (.list []) = true := rfl
theorem d_twins_flat (f : Fn) {m : Nat} {x y : D} (Q' : S → Prop) (hx : low m x = true) (hy : low m y = true) (k : ¬ (kindD x = 2 ∨ kindD x = 3)) (h : Q' (.d (.bool (twins x y)))) : g_twins f (EF Q') (slots0 4 [.d x, .d y]) := by
  cases x <;> first | (exfalso; revert k; simp [kindD]; done) | skip
  all_goals
    cases y <;> simp [low] at hx hy <;> simp [g_twins, fn__law_kind, kindD, shaped_int, shaped_bool, PyData.eqv, flatD, sizeLine_eq, hx, hy, twins, sSeq, sRet, sRetN, sRetW, sIf, sNext, sNever, sExpr, sAsg, sNew, sNewS, sPar, sPar3, sApp, sSetIx, sDPut, sPar3W, fnD0, fnD1, fnOwn, fIxDN, fInDN, fIxZ, fInZ, fLenZ, fListZ, fGetZ, fMaxL, fMinL, fVar, fC, fRaw, fNil, fCons, fTup, fLst, fOp, fTest, fChain, fAnd, fOr, fNot, fAndV, fOrV, fNotV, fIf, fIfT, fStill, still, fnLst, gNm, gTp, gsCons, gsNil, fCall, fCallO, fCallN, fIxN, fLenN, fSl, fPart, fNoPart, fNeg, fIsi, fIsi2, fLen, fAbs, fInt, fMax2, fMin2, fTupOf, fListOf, fSorted, fLstR, fAll, fAny, fIx, fIn, fEq, fIsN, fAdd, fMul, f2I, unD, slots0, settable, ownAt, owned, lentEnd, fiLst, fiTup, fiR1, fiR2, fiZip, fiZip3, fiKeysZ, fiItemsZ, fYes, wipeS] at h ⊢ <;> first | exact h | exact ⟨hx, hy, h⟩ | exact ⟨rfl, rfl, h⟩ | exact ⟨rfl, by simpa using h⟩
theorem d_twins_seq (n : Nat) {x y : D} (Q' : S → Prop) (hx : low (n + 1) x = true) (hy : low (n + 1) y = true) (k : kindD x = 2 ∨ kindD x = 3) (h : Q' (.d (.bool (twins x y)))) : g_twins (fn_twins n) (EF Q') (slots0 4 [.d x, .d y]) := by
  cases x <;> first | (exfalso; revert k; simp [kindD]; done) | skip
  all_goals
    rename_i xs
    cases y <;> first
      | (simp [g_twins, fn__law_kind, kindD, shaped_int, PyData.eqv, twins, sSeq, sRet, sRetN, sRetW, sIf, sNext, sNever, sExpr, sAsg, sNew, sNewS, sPar, sPar3, sApp, sSetIx, sDPut, sPar3W, fnD0, fnD1, fnOwn, fIxDN, fInDN, fIxZ, fInZ, fLenZ, fListZ, fGetZ, fMaxL, fMinL, fVar, fC, fRaw, fNil, fCons, fTup, fLst, fOp, fTest, fChain, fAnd, fOr, fNot, fAndV, fOrV, fNotV, fIf, fIfT, fStill, still, fnLst, gNm, gTp, gsCons, gsNil, fCall, fCallO, fCallN, fIxN, fLenN, fSl, fPart, fNoPart, fNeg, fIsi, fIsi2, fLen, fAbs, fInt, fMax2, fMin2, fTupOf, fListOf, fSorted, fLstR, fAll, fAny, fIx, fIn, fEq, fIsN, fAdd, fMul, f2I, unD, slots0, settable, ownAt, owned, lentEnd, fiLst, fiTup, fiR1, fiR2, fiZip, fiZip3, fiKeysZ, fiItemsZ, fYes, wipeS] at h ⊢; exact h; done)
      | skip
    rename_i ys
    simp only [low, Bool.and_eq_true, decide_eq_true_eq] at hx hy
    simp only [twins, twinsL_odds] at h
    simp [g_twins, fn__law_kind, kindD, shaped_int, PyData.eqv, flatD, sizeLine_eq, fnLc, sSeq, sRet, sRetN, sRetW, sIf, sNext, sNever, sExpr, sAsg, sNew, sNewS, sPar, sPar3, sApp, sSetIx, sDPut, sPar3W, fnD0, fnD1, fnOwn, fIxDN, fInDN, fIxZ, fInZ, fLenZ, fListZ, fGetZ, fMaxL, fMinL, fVar, fC, fRaw, fNil, fCons, fTup, fLst, fOp, fTest, fChain, fAnd, fOr, fNot, fAndV, fOrV, fNotV, fIf, fIfT, fStill, still, fnLst, gNm, gTp, gsCons, gsNil, fCall, fCallO, fCallN, fIxN, fLenN, fSl, fPart, fNoPart, fNeg, fIsi, fIsi2, fLen, fAbs, fInt, fMax2, fMin2, fTupOf, fListOf, fSorted, fLstR, fAll, fAny, fIx, fIn, fEq, fIsN, fAdd, fMul, f2I, unD, slots0, settable, ownAt, owned, lentEnd, fiLst, fiTup, fiR1, fiR2, fiZip, fiZip3, fiKeysZ, fiItemsZ, fYes, wipeS]
    by_cases hl : xs.length = ys.length
    · rw [if_pos (show (xs.length : Int) = ys.length by omega)]
      refine lc_odds (n := n) xs ys 0 hx.2 hy.2 (by rw [sizeLine_eq]; omega) ?_
      simp [shaped_ones, sh_nil, eqvAll_ones]
      simpa [hl] using h
    · rw [if_neg (show ¬ (xs.length : Int) = ys.length by omega)]
      simpa [hl] using h
theorem d_twins (n : Nat) (ss : List S) (Q' : S → Prop) (h : fn_twins (n + 1) ss Q') : g_twins (fn_twins n) (EF Q') (slots0 4 ss) := by
  unfold fn_twins at h
  split at h
  · rename_i x y
    obtain ⟨⟨hx, hy⟩, h⟩ := h
    by_cases k : kindD x = 2 ∨ kindD x = 3
    · exact d_twins_seq n Q' hx hy k h
    · exact d_twins_flat _ Q' hx hy k h
  · exact h.elim
theorem d_twins0 (f : Fn) (ss : List S) (Q' : S → Prop) (h : fn_twins 0 ss Q') : g_twins f (EF Q') (slots0 4 ss) := by
  unfold fn_twins at h
  split at h
  · rename_i x y
    obtain ⟨⟨hx, hy⟩, h⟩ := h
    refine d_twins_flat _ Q' hx hy (fun k => ?_) h
    cases x <;> simp [low, kindD] at hx k
  · exact h.elim
end Aq
/-! B5: how many slots the defs take; a def's facts; a law's end. -/
namespace Aq
open PySem PySem.Spec PyProof.Rows L2
theorem n_PS {f : Pl → Stn → D} : ∀ ss Q, fnPS f ss Q → ss.length = 2 := by
  intro ss Q h
  unfold fnPS at h
  split at h
  · rfl
  · exact h.elim
theorem n_PSc {f : Pl → Stn → D} : ∀ ss Q, fnPSc f ss Q → ss.length = 2 := by
  intro ss Q h
  unfold fnPSc at h
  split at h
  · rfl
  · exact h.elim
theorem n_is_within : ∀ ss Q, fn_is_within ss Q → ss.length = 3 := by
  intro ss Q h
  unfold fn_is_within at h
  split at h
  · rfl
  · exact h.elim
theorem n_is_row : ∀ ss Q, fn_is_row ss Q → ss.length = 2 := by
  intro ss Q h
  unfold fn_is_row at h
  split at h
  · rfl
  · exact h.elim
theorem n_is_device : ∀ ss Q, fn_is_device ss Q → ss.length = 1 := by
  intro ss Q h
  unfold fn_is_device at h
  split at h
  · rfl
  · exact h.elim
theorem n_is_plan : ∀ ss Q, fn_is_plan ss Q → ss.length = 1 := by
  intro ss Q h
  unfold fn_is_plan at h
  split at h
  · rfl
  · exact h.elim
theorem n_look_at_plan : ∀ ss Q, fn_look_at_plan ss Q → ss.length = 1 := by
  intro ss Q h
  unfold fn_look_at_plan at h
  split at h
  · rfl
  · exact h.elim
theorem n_is_part : ∀ ss Q, fn_is_part ss Q → ss.length = 2 := by
  intro ss Q h
  unfold fn_is_part at h
  split at h
  · rfl
  · exact h.elim
theorem n_fits : ∀ ss Q, fn_fits ss Q → ss.length = 2 := by
  intro ss Q h
  unfold fn_fits at h
  split at h
  · rfl
  · exact h.elim
theorem n_is_stand : ∀ ss Q, fn_is_stand ss Q → ss.length = 2 := by
  intro ss Q h
  unfold fn_is_stand at h
  split at h
  · rfl
  · exact h.elim
theorem n_look_at_stand : ∀ ss Q, fn_look_at_stand ss Q → ss.length = 2 := by
  intro ss Q h
  unfold fn_look_at_stand at h
  split at h
  · rfl
  · exact h.elim
theorem n_told_by : ∀ ss Q, fn_told_by ss Q → ss.length = 2 := n_PS
theorem n_goes_on : ∀ ss Q, fn_goes_on ss Q → ss.length = 5 := by
  intro ss Q h
  unfold fn_goes_on at h
  split at h
  · rfl
  · exact h.elim
theorem n_parts_by : ∀ ss Q, fn_parts_by ss Q → ss.length = 2 := n_PS
theorem n_behind : ∀ ss Q, fn_behind ss Q → ss.length = 3 := by
  intro ss Q h
  unfold fn_behind at h
  split at h
  · rfl
  · exact h.elim
theorem n_is_change : ∀ ss Q, fn_is_change ss Q → ss.length = 2 := by
  intro ss Q h
  unfold fn_is_change at h
  split at h
  · rfl
  · exact h.elim
theorem n_look_at_choice : ∀ ss Q, fn_look_at_choice ss Q → ss.length = 2 := by
  intro ss Q h
  unfold fn_look_at_choice at h
  split at h
  · rfl
  · exact h.elim
theorem n_told : ∀ ss Q, fn_told ss Q → ss.length = 2 := n_PSc
theorem n_running : ∀ ss Q, fn_running ss Q → ss.length = 2 := n_PSc
theorem n_after : ∀ ss Q, fn_after ss Q → ss.length = 3 := by
  intro ss Q h
  unfold fn_after at h
  split at h
  · rfl
  · exact h.elim
theorem n__law_kind : ∀ ss Q, fn__law_kind ss Q → ss.length = 1 := by
  intro ss Q h
  unfold fn__law_kind at h
  split at h
  · rfl
  · exact h.elim
theorem n__law_first : ∀ ss Q, fn__law_first ss Q → ss.length = 1 := by
  intro ss Q h
  unfold fn__law_first at h
  split at h
  · rfl
  · exact h.elim
theorem n__law_told : ∀ ss Q, fn__law_told ss Q → ss.length = 2 := n_told_by
theorem n__law_part : ∀ ss Q, fn__law_part ss Q → ss.length = 4 := by
  intro ss Q h
  unfold fn__law_part at h
  split at h
  · rfl
  · exact h.elim
theorem n__law_parts : ∀ ss Q, fn__law_parts ss Q → ss.length = 2 := n_parts_by
theorem n__law_after : ∀ ss Q, fn__law_after ss Q → ss.length = 3 := n_behind
theorem n__law_on : ∀ ss Q, fn__law_on ss Q → ss.length = 2 := n_PS
theorem n__law_changes : ∀ ss Q, fn__law_changes ss Q → ss.length = 1 := by
  intro ss Q h
  unfold fn__law_changes at h
  split at h
  · rfl
  · exact h.elim
theorem n_begin_of : ∀ ss Q, fn_begin_of ss Q → ss.length = 1 := n__law_first
theorem n_twins (n : Nat) : ∀ ss Q, fn_twins n ss Q → ss.length = 2 := by
  intro ss Q h
  unfold fn_twins at h
  split at h
  · rfl
  · exact h.elim
theorem n__law_twins : ∀ ss Q, fn__law_twins ss Q → ss.length = 2 := n_twins 12
theorem n__law_spring : ∀ ss Q, fn__law_spring ss Q → ss.length = 2 := by
  intro ss Q h
  unfold fn__law_spring at h
  split at h
  · rfl
  · exact h.elim
theorem n__law_pick : ∀ o ss Q, fn__law_pick o ss Q → ss.length = 1 := by
  intro o ss Q h
  unfold fn__law_pick at h
  split at h
  · rfl
  · exact h.elim
theorem n__law_device : ∀ o ss Q, fn__law_device o ss Q → ss.length = 1 := by
  intro o ss Q h
  unfold fn__law_device at h
  split at h
  · rfl
  · exact h.elim
theorem n__law_plan : ∀ o ss Q, fn__law_plan o ss Q → ss.length = 1 := by
  intro o ss Q h
  unfold fn__law_plan at h
  split at h
  · rfl
  · exact h.elim
/-! ### a def behind the top -/
structure FnT (K : PySem.W.Frag) (mg : Str → Option Value) (x : Str) (st : Stmt) where
  f : Addr
  fd : FuncData
  F : Fun K x x st f fd
  g : mg x = some (.ref f)
theorem fun_ofD {K : PySem.W.Frag} {x q : Str} {st : Stmt} {f : Addr} {fd : FuncData} (F : FunD K x q (defArgs st) (defBody st) (defScope st) [] [] f fd) : Fun K x q st f fd := by
  obtain ⟨⟨oc, od, dV, kV, doc, pm, an, cdv, ct, osl, e, lk, cd, hd, _⟩, kp⟩ := F
  rcases hd with ⟨_, rfl⟩ | ⟨hn, _⟩
  · exact ⟨⟨oc, od, kV, doc, pm, an, cdv, ct, osl, e, lk, cd⟩, kp⟩
  · exact absurd rfl hn
def fnNone : Fn := fun _ _ => False
section
variable {P : Program} {w : World} {K : PySem.W.Frag} {mg : Str → Option Value} [Tb mg] {base : Heap}
theorem ok_none {x qual : Str} {st : Stmt} {fa : Addr} {fd : FuncData} {N ps : List Str} {k : Nat} (Fk : Fun K x qual st fa fd) (Sc : FnScope N ps (defScope st)) : FnOk P w K mg base CX0 (k + 1) fa fd ps (spF ⟨P, w, K, Tb.l mg⟩ ps.length fnNone) :=
  fn_data Fk Sc (fun _ _ _ _ _ _ _ => dss_never) fun _ _ _ h => h.elim
end
/-- a law of a script of whole numbers -/
def fn_law : Fn := fun ss Q => match ss with
  | [.d (.list ds)] => (match intsD ds with
    | some ns => ns.length ≤ 63 ∧ Q (.d (.bool true))
    | none => False)
  | _ => False
theorem ints_dp {K : PySem.W.Frag} {H : Hp} : ∀ ns : List Int, DpAll K H (ns.map V.int) (ns.map PyData.int)
  | [] => .nil
  | n :: ns => .cons (.int n) (ints_dp ns)
/-- the heap without its tables -/
def offT (H : Hp) : Hp := fun b => match H b with
  | some (.tbl _) => none
  | u => u
theorem offT_same (H : Hp) : Same (offT H) H := fun b o e => by
  unfold offT at e
  split at e
  · cases e
  · exact e
theorem offT_of {H : Hp} {b : Addr} {o : HO} (h : H b = some o) (n : NT o) : offT H b = some o := by
  unfold offT
  rw [h]
  split
  · rename_i ps e; cases e; exact absurd rfl (n ps)
  · rfl
theorem offT_list {K : PySem.W.Frag} {H : Hp} {a : Addr} {xs : List V} (h : SqL K H a xs) : SqL K (offT H) a xs := by
  rcases h with (h | ⟨o, h⟩) | h
  · exact .inl (.inl (offT_of h fun ps e => by cases e))
  · exact .inl (.inr ⟨o, offT_of h fun ps e => by cases e⟩)
  · exact .inr h
theorem law_asked {W : Wd} {H : Hp} {a : Addr} {ns : List Int} (hT : ∀ t ∈ W.T, H t.1 = some (.tbl #[])) (hl : ns.length ≤ 63) (hS : SqL W.K H a (ns.map V.int)) : spF W 1 fn_law [.ref a] H (fun v _ => v = .bl true) fun _ _ _ => False := by
  refine ⟨offT H, [.d (.list (ns.map PyData.int))], fun s => s = .d (.bool true), rfl, offT_same H, fun t ht => ⟨?_, #[], hT t ht, trivial, fun pos cv hc => ?_⟩, ?_, ?_, ?_⟩
  · unfold offT
    rw [hT t ht]
  · exact nomatch (show codeAmong pos [] = some cv from hc)
  · exact .cons (Dp.lst (offT_list hS) (ints_dp ns)) .nil
  · unfold fn_law
    simp only [intsD_map]
    exact ⟨hl, trivial⟩
  · intro r F' H' v hr _ _ _ _ _ hv
    subst hr
    cases hv
    rfl
/-! ### loops -/
/-- not lent by the caller -/
def np : S → Prop
  | .pa _ => False
  | .hp _ => False
  | _ => True
theorem npd {x : D} : np (.d x) = True := rfl
theorem npD (x : D) : np (.d x) := trivial
theorem npn : np .no = True := rfl
theorem npo {x : Ow} : np (.ow x) = True := rfl
theorem npf {x : Ow} : np (.fz x) = True := rfl
theorem npr {x : V} : np (.raw x) = True := rfl
theorem set_iff {ρ : List S} {i : Nat} : settable ρ i ↔ ∃ s, ρ[i]? = some s ∧ np s := by
  constructor
  · intro h
    obtain ⟨s, e, h1, h2⟩ := h.ex
    exact ⟨s, e, by cases s <;> first | trivial | exact absurd rfl (h1 _) | exact absurd rfl (h2 _)⟩
  · rintro ⟨s, e1, e2⟩
    unfold settable
    rw [e1]
    cases s <;> first | trivial | exact e2
theorem sFor_inv {fi : FI} {g : FG} {b : FS} {E : DEnds} {ρ : List S} (items : List D) (I : List S → Prop) (h0 : ∀ Q : List D → List S → Prop, Q items ρ → fi ρ Q) (h1 : I ρ) (h2 : ∀ ρ', I ρ' → E.nx ρ')
    (h3 : ∀ x ∈ items, ∀ ρ', I ρ' → g (.d x) ρ' fun ρ2 => b { E with nx := I, ct := I, bk := E.nx } ρ2) : sFor fi g b E ρ :=
  h0 _ ⟨fun _ _ => I, h1, fun _ ρ' z => h2 ρ' z, fun pre x post ρ' e z => h3 x (by rw [← e]; simp) ρ' z⟩
def forGo (g : FG) (b : FS) (E : DEnds) : List D → List S → Prop
  | [], ρ => E.nx ρ
  | x :: xs, ρ => g (.d x) ρ fun ρ2 => b { E with nx := forGo g b E xs, ct := forGo g b E xs, bk := E.nx } ρ2
theorem sFor_go {fi : FI} {g : FG} {b : FS} {E : DEnds} {ρ : List S} (items : List D) (h0 : ∀ Q : List D → List S → Prop, Q items ρ → fi ρ Q) (h : forGo g b E items ρ) : sFor fi g b E ρ :=
  h0 _ ⟨fun _ post ρ' => forGo g b E post ρ', h, fun _ ρ' z => z, fun pre x post ρ' e z => z⟩
/-- what a loop asks of its items -/
def sForB (g : FG) (b : FS) (E : DEnds) (items : List D) (ρ1 : List S) : Prop := ∃ W : List D → List D → List S → Prop, W [] items ρ1 ∧ (∀ pre ρ', W pre [] ρ' → E.nx ρ') ∧
  ∀ pre x post ρ', pre ++ x :: post = items → W pre (x :: post) ρ' → g (.d x) ρ' fun ρ2 => b { E with nx := W (pre ++ [x]) post, ct := W (pre ++ [x]) post, bk := E.nx } ρ2
theorem sFor_eq {fi : FI} {g : FG} {b : FS} {E : DEnds} {ρ : List S} : sFor fi g b E ρ = fi ρ (sForB g b E) := rfl
theorem sForB_inv {g : FG} {b : FS} {E : DEnds} {ρ : List S} {items : List D} (I : List S → Prop) (h1 : I ρ) (h2 : ∀ ρ', I ρ' → E.nx ρ')
    (h3 : ∀ x ∈ items, ∀ ρ', I ρ' → g (.d x) ρ' fun ρ2 => b { E with nx := I, ct := I, bk := E.nx } ρ2) : sForB g b E items ρ :=
  ⟨fun _ _ => I, h1, fun _ ρ' z => h2 ρ' z, fun pre x post ρ' e z => h3 x (by rw [← e]; simp) ρ' z⟩
theorem sForB_go {g : FG} {b : FS} {E : DEnds} {ρ : List S} {items : List D} (h : forGo g b E items ρ) : sForB g b E items ρ :=
  ⟨fun _ post ρ' => forGo g b E post ρ', h, fun _ ρ' z => z, fun pre x post ρ' e z => z⟩
/-- .. by what is gone through: I says how many -/
theorem sForB_cnt {g : FG} {b : FS} {E : DEnds} {ρ : List S} {items : List D} (I : Nat → List S → Prop) (h1 : I 0 ρ) (h2 : ∀ ρ', I items.length ρ' → E.nx ρ')
    (h3 : ∀ (n : Nat) (x : D), items[n]? = some x → ∀ ρ', I n ρ' → g (.d x) ρ' fun ρ2 => b { E with nx := I (n + 1), ct := I (n + 1), bk := E.nx } ρ2) : sForB g b E items ρ := by
  refine ⟨fun pre post ρ' => pre.length + post.length = items.length ∧ I pre.length ρ', ⟨by simp, h1⟩, ?_, ?_⟩
  · intro pre ρ' z
    have e : pre.length = items.length := by simpa using z.1
    exact h2 ρ' (e ▸ z.2)
  intro pre x post ρ' e z
  have q := h3 pre.length x (by rw [← e]; simp) ρ' z.2
  have e2 : (fun ρ' : List S => (pre ++ [x]).length + post.length = items.length ∧ I (pre ++ [x]).length ρ') = I (pre.length + 1) := by
    funext ρ2
    rw [← e]
    simp
    omega
  dsimp only
  rw [e2]
  exact q
theorem upto_mem {lo : Int} {n : Nat} {x : D} (h : x ∈ upto lo n) : ∃ i : Int, x = .int i ∧ lo ≤ i ∧ i < lo + n := by
  unfold upto at h
  obtain ⟨j, h1, rfl⟩ := List.mem_map.mp h
  have := List.mem_range.mp h1
  exact ⟨_, rfl, by omega, by omega⟩
/-- draws into a list -/
theorem lc_draw {j : Nat} {m : Int} (hm : 1 ≤ m ∧ m < 1073741824) {Q : List D → List S → Prop} : ∀ (items : List D) (acc : List Int) (ρ : List S) (a b : Int), ρ[j]? = some .no → ρ[2]? = some (.ow (spr a b)) → j ≠ 2 → acc.length + items.length < sizeLine →
    (∀ x ∈ acc, 0 ≤ x ∧ x < m) → (∀ (l : List Int) (a b : Int), l.length = acc.length + items.length → (∀ x ∈ l, 0 ≤ x ∧ x < m) → Q (l.map PyData.int) (ρ.set 2 (.ow (spr a b)))) →
    lcGo (gNm j) fYes (fCallO 2 fn__law_pick (fCons (fC (.int m)) fNil)) [j] items (acc.map PyData.int) ρ Q
  | [], acc, ρ, a, b, h6, h2, _, hz, ha, h => by
    have := h acc a b rfl ha
    have e : ρ.set 2 (.ow (spr a b)) = ρ := by
      refine List.ext_getElem? fun k => ?_
      by_cases e : 2 = k
      · subst e; rw [List.getElem?_set_self (List.getElem?_eq_some_iff.mp h2).1, h2]
      · rw [List.getElem?_set_ne e]
    rw [e] at this
    exact this
  | x :: xs, acc, ρ, a, b, h6, h2, hne, hz, ha, h => by
    have l2 := (List.getElem?_eq_some_iff.mp h2).1
    have l6 := (List.getElem?_eq_some_iff.mp h6).1
    have e2 : (ρ.set j (S.d x))[2]? = some (.ow (spr a b)) := by rw [List.getElem?_set_ne hne]; exact h2
    have own : ∀ {ρ : List S}, ρ[2]? = some (.ow (spr a b)) → ownAt ρ 2 = some (spr a b) := fun {ρ} e => by unfold ownAt; rw [e]
    unfold lcGo
    refine ⟨set_iff.mpr ⟨_, h6, trivial⟩, ?_⟩
    refine ⟨by rw [own e2]; rfl, ?_⟩
    show (match ownAt (ρ.set j (S.d x)) 2 with | some o => _ | none => _)
    rw [own e2]
    refine ⟨hm, fun r a' b' r0 r1 => ?_⟩
    have e3 : owned (ρ.set j (S.d x)) 2 (spr a' b') = .ow (spr a' b') := by unfold owned; rw [e2]
    dsimp only
    rw [e3]
    have e4 : wipeS ((ρ.set j (S.d x)).set 2 (.ow (spr a' b'))) [j] = ρ.set 2 (.ow (spr a' b')) := by
      show ((ρ.set j (S.d x)).set 2 (.ow (spr a' b'))).set j .no = _
      rw [List.set_comm _ _ (by omega : (2 : Nat) ≠ j)]
      exact congrArg (fun z => List.set z 2 (S.ow (spr a' b'))) (set_no h6)
    rw [e4]
    refine ⟨by simp at hz ⊢; omega, ?_⟩
    have e5 : acc.map PyData.int ++ [PyData.int r] = (acc ++ [r]).map PyData.int := by simp
    rw [e5]
    refine lc_draw hm xs (acc ++ [r]) (ρ.set 2 (.ow (spr a' b'))) a' b' (by rw [List.getElem?_set_ne (by omega)]; exact h6) (List.getElem?_set_self l2) hne (by simp at hz ⊢; omega) (fun z hz' => ?_) (fun l a'' b'' hl hx => ?_)
    · rcases List.mem_append.mp hz' with q | q
      · exact ha z q
      · simp at q; subst q; exact ⟨r0, r1⟩
    · rw [List.set_set]
      exact h l a'' b'' (by rw [hl]; simp; omega) hx
theorem lowL_ints : ∀ (n : Nat) (l : List Int), lowL n (l.map PyData.int) = true
  | _, [] => rfl
  | n, x :: xs => by rw [List.map_cons]; unfold lowL; rw [lowL_ints n xs]; cases n <;> rfl
theorem twinsL_refl_ints : ∀ (l : List Int), twinsL (l.map PyData.int) (l.map PyData.int) = true
  | [] => rfl
  | x :: xs => by rw [List.map_cons]; unfold twinsL; rw [twinsL_refl_ints xs]; simp [twins]
theorem stn_low {s : Stn} (h : s.past.length ≤ 1000000) : low 12 s.d = true := by
  unfold Stn.d Pt.d
  simp [low, lowL, lowL_ints, h]
theorem stn_twins (s : Stn) : twins s.d s.d = true := by
  unfold Stn.d Pt.d
  simp [twins, twinsL, twinsL_refl_ints]
theorem settable_iff {ρ : List S} {i : Nat} : settable ρ i = ∃ s, ρ[i]? = some s ∧ np s := propext set_iff
end Aq
/-! B6: runs; drawn choices. -/
namespace Aq
open PySem PySem.Spec PyProof.Rows L2
/-! ### plain -/
def ledTo (p : Pl) (s : Stn) (cs : List Int) : Stn := cs.foldl (behind p) s
def fitsRun (p : Pl) (v : D) : Bool := match v with
  | .tuple ds => decide (ds.length ≤ 60) && ds.all fun x => isWithin x p.wl p.wh
  | _ => false
theorem goesOn_fits {x : Dev} (ok : x.ok) {q : Pt} (h0 : 0 ≤ q.n) (b e f : Bool) : 0 ≤ (goesOn x q b e f).n ∧ (goesOn x q b e f).n ≤ if (goesOn x q b e f).runs = true then x.on else x.off := by
  have o1 := ok.on1
  have o2 := ok.off1
  obtain ⟨r, n⟩ := q
  unfold goesOn
  split
  · cases r <;> simp <;> omega
  · cases r
    · show 0 ≤ (if n + 1 < x.off then n + 1 else x.off) ∧ (if n + 1 < x.off then n + 1 else x.off) ≤ x.off
      have : 0 ≤ n := h0
      split <;> omega
    · show 0 ≤ (if n + 1 < x.on then n + 1 else x.on) ∧ (if n + 1 < x.on then n + 1 else x.on) ≤ x.on
      have : 0 ≤ n := h0
      split <;> omega
theorem clampW_in (w : Int) : 0 ≤ clampW w ∧ clampW w ≤ 15 := by
  unfold clampW
  split <;> split <;> omega
theorem behind_fits {p : Pl} (ok : p.ok) {s : Stn} (h : s.fits p) (ch : Int) : (behind p s ch).fits p := by
  have c := clampW_in (s.w + ch + p.h.power * b2n (partH p s).runs - p.c.power * b2n (partC p s).runs)
  have g1 := goesOn_fits ok.h h.h0 (decide (told p s ≤ p.h.low)) (decide (p.h.high ≤ told p s)) (!(p.bar == "heater") || !s.c.runs)
  have g2 := goesOn_fits ok.c h.c0 (decide (p.c.high ≤ told p s)) (decide (told p s ≤ p.c.low)) (!(p.bar == "cooler") || !s.h.runs)
  have l0 := ok.la0
  have hl := h.len
  refine ⟨c.1, c.2, ?_, ?_, g1.1, g1.2, g2.1, g2.2⟩
  · show (((s.w :: s.past).take p.late.toNat).length : Int) = p.late
    rw [List.length_take, List.length_cons]
    omega
  · intro x hx
    have hx2 : x ∈ s.w :: s.past := List.mem_of_mem_take hx
    rcases List.mem_cons.mp hx2 with rfl | hx3
    · exact ⟨h.w0, h.w15⟩
    · exact h.past x hx3
theorem firstStand_fits {p : Pl} (ok : p.ok) : (firstStand p).fits p := by
  have l0 := ok.la0
  have o1 := ok.h.off1
  have o2 := ok.c.off1
  refine ⟨ok.b0, ok.b15, ?_, ?_, ?_, ?_, ?_, ?_⟩
  · show ((List.replicate p.late.toNat p.beg).length : Int) = p.late
    rw [List.length_replicate]
    omega
  · intro x hx
    rw [List.eq_of_mem_replicate hx]
    exact ⟨ok.b0, ok.b15⟩
  · show 0 ≤ p.h.off; omega
  · show p.h.off ≤ if false = true then p.h.on else p.h.off; simp
  · show 0 ≤ p.c.off; omega
  · show p.c.off ≤ if false = true then p.c.on else p.c.off; simp
theorem ledTo_fits {p : Pl} (ok : p.ok) : ∀ {cs : List Int} {s : Stn}, s.fits p → (ledTo p s cs).fits p
  | [], _, h => h
  | c :: cs, s, h => ledTo_fits ok (cs := cs) (behind_fits ok h c)
theorem ledTo_snoc (p : Pl) (s : Stn) (cs : List Int) (c : Int) : ledTo p s (cs ++ [c]) = behind p (ledTo p s cs) c := by
  unfold ledTo
  rw [List.foldl_append]
  rfl
theorem fitsRun_ints {p : Pl} {v : D} (h : fitsRun p v = true) : ∃ cs : List Int, v = .tuple (cs.map PyData.int) ∧ cs.length ≤ 60 ∧ ∀ c ∈ cs, p.wl ≤ c ∧ c ≤ p.wh := by
  unfold fitsRun at h
  split at h
  · rename_i ds
    rw [Bool.and_eq_true, decide_eq_true_eq, List.all_eq_true] at h
    obtain ⟨h1, h2⟩ := h
    have : ∀ ds : List D, (∀ x ∈ ds, isWithin x p.wl p.wh = true) → ∃ cs : List Int, ds = cs.map PyData.int ∧ ∀ c ∈ cs, p.wl ≤ c ∧ c ≤ p.wh := fun ds => by
      induction ds with
      | nil => exact fun _ => ⟨[], rfl, fun c hc => by cases hc⟩
      | cons x xs ih =>
        intro hx
        obtain ⟨cs, e, hc⟩ := ih fun z hz => hx z (List.mem_cons_of_mem _ hz)
        have hw := hx x List.mem_cons_self
        obtain ⟨i, rfl⟩ := isWithin_int hw
        simp only [isWithin, Bool.and_eq_true, decide_eq_true_eq] at hw
        refine ⟨i :: cs, by rw [List.map_cons, e], fun c hc' => ?_⟩
        rcases List.mem_cons.mp hc' with rfl | hc'
        · exact hw
        · exact hc c hc'
    obtain ⟨cs, rfl, hc⟩ := this ds h2
    exact ⟨cs, rfl, by simpa using h1, hc⟩
  · cases h
theorem fitsRun_snoc {p : Pl} {cs : List Int} (hc : ∀ c ∈ cs, p.wl ≤ c ∧ c ≤ p.wh) (x : D) : fitsRun p (.tuple (cs.map PyData.int ++ [x])) = (decide (cs.length < 60) && isWithin x p.wl p.wh) := by
  unfold fitsRun
  have e : (cs.map PyData.int).all (fun x => isWithin x p.wl p.wh) = true := by
    rw [List.all_eq_true]
    intro z hz
    obtain ⟨c, h1, rfl⟩ := List.mem_map.mp hz
    simp [isWithin, hc c h1]
  show (decide ((cs.map PyData.int ++ [x]).length ≤ 60) && (cs.map PyData.int ++ [x]).all fun x => isWithin x p.wl p.wh) = _
  rw [List.all_append, e]
  simp
  by_cases q : cs.length < 60
  · simp [q, show cs.length + 1 ≤ 60 by omega, show cs.length ≤ 59 by omega]
  · simp [q, show ¬ cs.length + 1 ≤ 60 by omega, show ¬ cs.length ≤ 59 by omega]
theorem fitsRun_of {p : Pl} {cs : List Int} (hl : cs.length ≤ 60) (hc : ∀ c ∈ cs, p.wl ≤ c ∧ c ≤ p.wh) : fitsRun p (.tuple (cs.map PyData.int)) = true := by
  unfold fitsRun
  rw [Bool.and_eq_true, List.all_eq_true]
  refine ⟨by simpa using hl, fun z hz => ?_⟩
  obtain ⟨c, h1, rfl⟩ := List.mem_map.mp hz
  simp [isWithin, hc c h1]
/-- the i-th of a range -/
theorem atI_upto {lo : Int} {n : Nat} {k : Int} (h0 : -(n : Int) ≤ k) (h1 : k < n) : ∃ c : Int, atI (upto lo n) k = some (.int c) ∧ lo ≤ c ∧ c < lo + n := by
  by_cases hk : 0 ≤ k
  · obtain ⟨j, rfl⟩ : ∃ j : Nat, k = j := ⟨k.toNat, by omega⟩
    refine ⟨lo + j, atI_nat ?_, by omega, by omega⟩
    unfold upto
    rw [List.getElem?_map, List.getElem?_range (by omega)]
    rfl
  · have hl : (upto lo n).length = n := by simp [upto]
    obtain ⟨j, e⟩ : ∃ j : Nat, (j : Int) = n + k := ⟨(n + k).toNat, by omega⟩
    refine ⟨lo + j, ?_, by omega, by omega⟩
    have : (upto lo n)[j]? = some (.int (lo + j)) := by
      unfold upto
      rw [List.getElem?_map, List.getElem?_range (by omega)]
      rfl
    unfold atI ixN
    rw [hl, if_neg hk, if_pos h0, show (k + (n : Int)).toNat = j by omega]
    exact this
theorem any_upto (lo : Int) (n : Nat) (c : Int) : ((upto lo n).any fun y => PyData.eqv y (.int c)) = (decide (lo ≤ c) && decide (c < lo + n)) := by
  have h : ((upto lo n).any fun y => PyData.eqv y (.int c)) = true ↔ lo ≤ c ∧ c < lo + n := by
    rw [List.any_eq_true]
    constructor
    · rintro ⟨y, hy, e⟩
      obtain ⟨j, rfl, a, b⟩ := upto_mem hy
      have : j = c := by simpa [PyData.eqv] using e
      subst this
      exact ⟨a, b⟩
    · rintro ⟨a, b⟩
      refine ⟨.int c, ?_, by simp [PyData.eqv]⟩
      unfold upto
      rw [List.mem_map]
      exact ⟨(c - lo).toNat, by rw [List.mem_range]; omega, by rw [show lo + (((c - lo).toNat : Nat) : Int) = c by omega]⟩
  cases q : ((upto lo n).any fun y => PyData.eqv y (.int c)) with
  | true => have := h.mp q; simp [this]
  | false =>
    have : ¬ (lo ≤ c ∧ c < lo + n) := fun z => by rw [h.mpr z] at q; cases q
    by_cases a : lo ≤ c <;> by_cases b : c < lo + n <;> simp [a, b] <;> exact absurd ⟨a, b⟩ this
theorem all_flat_upto (lo : Int) (n : Nat) : (upto lo n).all flatD = true := by
  rw [List.all_eq_true]
  intro y hy
  obtain ⟨j, rfl, _⟩ := upto_mem hy
  rfl
/-! ### what the defs give -/
def fn_fits_run : Fn := fun ss Q => match ss with
  | [.d x, .d v] => (match planOf x with | some p => Q (.d (.bool (fitsRun p v))) | none => False)
  | _ => False
def fn_look_at_run : Fn := fun ss Q => match ss with
  | [.d x, .d v] => (match planOf x with | some p => fitsRun p v = true ∧ Q (.d .none) | none => False)
  | _ => False
def fn_is_run : Fn := fun ss Q => match ss with
  | [.d x, .d v] => (match planOf x with | some p => p.ok ∧ Q (.d (.bool (fitsRun p v))) | none => False)
  | _ => False
def fn_led_to : Fn := fun ss Q => match ss with
  | [.d x, .d y, .d (.tuple ds)] => (match planOf x, standOf y, intsD ds with
    | some p, some s, some cs => (p.ok ∧ s.fits p) ∧ Q (.d (ledTo p s cs).d)
    | _, _, _ => False)
  | _ => False
def fn_stand_behind : Fn := fun ss Q => match ss with
  | [.d x, .d (.tuple ds)] => (match planOf x, intsD ds with
    | some p, some cs => (p.ok ∧ fitsRun p (.tuple ds) = true) ∧ Q (.d (ledTo p (firstStand p) cs).d)
    | _, _ => False)
  | _ => False
theorem n_fits_run : ∀ ss Q, fn_fits_run ss Q → ss.length = 2 := by
  intro ss Q h
  unfold fn_fits_run at h
  split at h
  · rfl
  · exact h.elim
theorem n_look_at_run : ∀ ss Q, fn_look_at_run ss Q → ss.length = 2 := by
  intro ss Q h
  unfold fn_look_at_run at h
  split at h
  · rfl
  · exact h.elim
theorem n_is_run : ∀ ss Q, fn_is_run ss Q → ss.length = 2 := by
  intro ss Q h
  unfold fn_is_run at h
  split at h
  · rfl
  · exact h.elim
theorem n_led_to : ∀ ss Q, fn_led_to ss Q → ss.length = 3 := by
  intro ss Q h
  unfold fn_led_to at h
  split at h
  · rfl
  · exact h.elim
theorem n_stand_behind : ∀ ss Q, fn_stand_behind ss Q → ss.length = 2 := by
  intro ss Q h
  unfold fn_stand_behind at h
  split at h
  · rfl
  · exact h.elim
def g_fits_run : FS := (sSeq (sIf (fOr (fNot (fTest (fCall fIsi (fCons (fVar 1) (fCons (fRaw (.raw (.ty "tuple"))) fNil))))) (fTest (fOp (f2I TT2 fun i j => .bool (decide (j < i))) (fCall fLen (fCons (fVar 1) fNil)) (fRaw (.d (.int 60)))))) (sRet (fC (.bool false))) sNext)
    (sRet (fCall fAll (fCons (fStill (fnLc (fiTup (fVar 1)) (gNm 2) fYes (fCall fn_is_change (fCons (fVar 0) (fCons (fVar 2) fNil))) [2])) fNil))))
def g_look_at_run : FS := (sIf (fNot (fTest (fCall fn_fits_run (fCons (fVar 0) (fCons (fVar 1) fNil))))) sNever sNext)
def g_is_run : FS := (sSeq (sExpr (fCall fn_look_at_plan (fCons (fVar 0) fNil)))
    (sRet (fCall fn_fits_run (fCons (fVar 0) (fCons (fVar 1) fNil)))))
def g_led_to_1 : FS := (sAsg (fCall fn_behind (fCons (fVar 0) (fCons (fVar 1) (fCons (fVar 3) fNil)))) (gNm 1))
def g_led_to : FS := (sSeq (sFor (fiTup (fVar 2)) (gNm 3) g_led_to_1)
    (sRet (fVar 1)))
def g_stand_behind : FS := (sSeq (sExpr (fCall fn_look_at_plan (fCons (fVar 0) fNil)))
    (sSeq (sExpr (fCall fn_look_at_run (fCons (fVar 0) (fCons (fVar 1) fNil))))
    (sRet (fCall fn_led_to (fCons (fVar 0) (fCons (fCall fn_begin_of (fCons (fVar 0) fNil)) (fCons (fVar 1) fNil)))))))
theorem d_fits_run (ss : List S) (Q' : S → Prop) (h : fn_fits_run ss Q') : g_fits_run (EF Q') (slots0 3 ss) := by
  unfold fn_fits_run at h
  split at h
  · rename_i x v
    split at h
    · rename_i p e
      have e2 := planOf_some e
      subst e2
      unfold fitsRun at h
      cases v with
      | tuple ds =>
        by_cases hl : ds.length ≤ 60
        · have hl' : ¬ (60 : Int) < ds.length := by omega
          simp [hl] at h
          simp [g_fits_run, isTy, okTy, hl', sSeq, sRet, sRetN, sRetW, sIf, sNext, sNever, sExpr, sAsg, sNew, sNewS, sPar, sPar3, sApp, sSetIx, sDPut, sPar3W, fnD0, fnD1, fnOwn, fIxDN, fInDN, fIxZ, fInZ, fLenZ, fListZ, fGetZ, fMaxL, fMinL, fVar, fC, fRaw, fNil, fCons, fTup, fLst, fOp, fTest, fChain, fAnd, fOr, fNot, fAndV, fOrV, fNotV, fIf, fIfT, fStill, still, fnLst, gNm, gTp, gsCons, gsNil, fCall, fCallO, fCallN, fIxN, fLenN, fSl, fPart, fNoPart, fNeg, fIsi, fIsi2, fLen, fAbs, fInt, fMax2, fMin2, fTupOf, fListOf, fSorted, fLstR, fAll, fAny, fIx, fIn, fEq, fIsN, fAdd, fMul, f2I, unD, slots0, settable, ownAt, owned, lentEnd, fiLst, fiTup, fiR1, fiR2, fiZip, fiZip3, fiKeysZ, fiItemsZ, fYes, wipeS]
          simp [fnLc, sSeq, sRet, sRetN, sRetW, sIf, sNext, sNever, sExpr, sAsg, sNew, sNewS, sPar, sPar3, sApp, sSetIx, sDPut, sPar3W, fnD0, fnD1, fnOwn, fIxDN, fInDN, fIxZ, fInZ, fLenZ, fListZ, fGetZ, fMaxL, fMinL, fVar, fC, fRaw, fNil, fCons, fTup, fLst, fOp, fTest, fChain, fAnd, fOr, fNot, fAndV, fOrV, fNotV, fIf, fIfT, fStill, still, fnLst, gNm, gTp, gsCons, gsNil, fCall, fCallO, fCallN, fIxN, fLenN, fSl, fPart, fNoPart, fNeg, fIsi, fIsi2, fLen, fAbs, fInt, fMax2, fMin2, fTupOf, fListOf, fSorted, fLstR, fAll, fAny, fIx, fIn, fEq, fIsN, fAdd, fMul, f2I, unD, slots0, settable, ownAt, owned, lentEnd, fiLst, fiTup, fiR1, fiR2, fiZip, fiZip3, fiKeysZ, fiItemsZ, fYes, wipeS]
          refine lc_map (p := fun x => PyData.bool (isWithin x p.wl p.wh)) rfl ds [] (by rw [sizeLine_eq]; simp; omega) (fun x _ Q2 h2 => by simpa [fn_is_change, planOf_d, sSeq, sRet, sRetN, sRetW, sIf, sNext, sNever, sExpr, sAsg, sNew, sNewS, sPar, sPar3, sApp, sSetIx, sDPut, sPar3W, fnD0, fnD1, fnOwn, fIxDN, fInDN, fIxZ, fInZ, fLenZ, fListZ, fGetZ, fMaxL, fMinL, fVar, fC, fRaw, fNil, fCons, fTup, fLst, fOp, fTest, fChain, fAnd, fOr, fNot, fAndV, fOrV, fNotV, fIf, fIfT, fStill, still, fnLst, gNm, gTp, gsCons, gsNil, fCall, fCallO, fCallN, fIxN, fLenN, fSl, fPart, fNoPart, fNeg, fIsi, fIsi2, fLen, fAbs, fInt, fMax2, fMin2, fTupOf, fListOf, fSorted, fLstR, fAll, fAny, fIx, fIn, fEq, fIsN, fAdd, fMul, f2I, unD, slots0, settable, ownAt, owned, lentEnd, fiLst, fiTup, fiR1, fiR2, fiZip, fiZip3, fiKeysZ, fiItemsZ, fYes, wipeS] using h2) ?_
          have bo : boolsD (ds.map fun x => PyData.bool (isWithin x p.wl p.wh)) = some (ds.map fun x => isWithin x p.wl p.wh) := by
            have := boolsD_map (ds.map fun x => isWithin x p.wl p.wh)
            rw [List.map_map] at this
            exact this
          simp only [List.nil_append, bo, List.all_map, Function.comp_def, id_eq]
          exact h
        · have hl' : (60 : Int) < ds.length := by omega
          simp [hl] at h
          simp [g_fits_run, isTy, okTy, hl', sSeq, sRet, sRetN, sRetW, sIf, sNext, sNever, sExpr, sAsg, sNew, sNewS, sPar, sPar3, sApp, sSetIx, sDPut, sPar3W, fnD0, fnD1, fnOwn, fIxDN, fInDN, fIxZ, fInZ, fLenZ, fListZ, fGetZ, fMaxL, fMinL, fVar, fC, fRaw, fNil, fCons, fTup, fLst, fOp, fTest, fChain, fAnd, fOr, fNot, fAndV, fOrV, fNotV, fIf, fIfT, fStill, still, fnLst, gNm, gTp, gsCons, gsNil, fCall, fCallO, fCallN, fIxN, fLenN, fSl, fPart, fNoPart, fNeg, fIsi, fIsi2, fLen, fAbs, fInt, fMax2, fMin2, fTupOf, fListOf, fSorted, fLstR, fAll, fAny, fIx, fIn, fEq, fIsN, fAdd, fMul, f2I, unD, slots0, settable, ownAt, owned, lentEnd, fiLst, fiTup, fiR1, fiR2, fiZip, fiZip3, fiKeysZ, fiItemsZ, fYes, wipeS]
          exact h
      | _ =>
        simp [g_fits_run, isTy, okTy, sSeq, sRet, sRetN, sRetW, sIf, sNext, sNever, sExpr, sAsg, sNew, sNewS, sPar, sPar3, sApp, sSetIx, sDPut, sPar3W, fnD0, fnD1, fnOwn, fIxDN, fInDN, fIxZ, fInZ, fLenZ, fListZ, fGetZ, fMaxL, fMinL, fVar, fC, fRaw, fNil, fCons, fTup, fLst, fOp, fTest, fChain, fAnd, fOr, fNot, fAndV, fOrV, fNotV, fIf, fIfT, fStill, still, fnLst, gNm, gTp, gsCons, gsNil, fCall, fCallO, fCallN, fIxN, fLenN, fSl, fPart, fNoPart, fNeg, fIsi, fIsi2, fLen, fAbs, fInt, fMax2, fMin2, fTupOf, fListOf, fSorted, fLstR, fAll, fAny, fIx, fIn, fEq, fIsN, fAdd, fMul, f2I, unD, slots0, settable, ownAt, owned, lentEnd, fiLst, fiTup, fiR1, fiR2, fiZip, fiZip3, fiKeysZ, fiItemsZ, fYes, wipeS] at h ⊢
        exact h
    · exact h.elim
  · exact h.elim
theorem d_look_at_run (ss : List S) (Q' : S → Prop) (h : fn_look_at_run ss Q') : g_look_at_run (EF Q') (slots0 2 ss) := by
  unfold fn_look_at_run at h
  split at h
  · split at h
    · rename_i p e
      rw [planOf_some e]
      simp [g_look_at_run, fn_fits_run, planOf_d, h.1, sSeq, sRet, sRetN, sRetW, sIf, sNext, sNever, sExpr, sAsg, sNew, sNewS, sPar, sPar3, sApp, sSetIx, sDPut, sPar3W, fnD0, fnD1, fnOwn, fIxDN, fInDN, fIxZ, fInZ, fLenZ, fListZ, fGetZ, fMaxL, fMinL, fVar, fC, fRaw, fNil, fCons, fTup, fLst, fOp, fTest, fChain, fAnd, fOr, fNot, fAndV, fOrV, fNotV, fIf, fIfT, fStill, still, fnLst, gNm, gTp, gsCons, gsNil, fCall, fCallO, fCallN, fIxN, fLenN, fSl, fPart, fNoPart, fNeg, fIsi, fIsi2, fLen, fAbs, fInt, fMax2, fMin2, fTupOf, fListOf, fSorted, fLstR, fAll, fAny, fIx, fIn, fEq, fIsN, fAdd, fMul, f2I, unD, slots0, settable, ownAt, owned, lentEnd, fiLst, fiTup, fiR1, fiR2, fiZip, fiZip3, fiKeysZ, fiItemsZ, fYes, wipeS]
      exact h.2
    · exact h.elim
  · exact h.elim
theorem d_is_run (ss : List S) (Q' : S → Prop) (h : fn_is_run ss Q') : g_is_run (EF Q') (slots0 2 ss) := by
  unfold fn_is_run at h
  split at h
  · split at h
    · rename_i p e
      rw [planOf_some e]
      simp [g_is_run, fn_look_at_plan, fn_fits_run, planOf_d, isPlan_d.mpr h.1, sSeq, sRet, sRetN, sRetW, sIf, sNext, sNever, sExpr, sAsg, sNew, sNewS, sPar, sPar3, sApp, sSetIx, sDPut, sPar3W, fnD0, fnD1, fnOwn, fIxDN, fInDN, fIxZ, fInZ, fLenZ, fListZ, fGetZ, fMaxL, fMinL, fVar, fC, fRaw, fNil, fCons, fTup, fLst, fOp, fTest, fChain, fAnd, fOr, fNot, fAndV, fOrV, fNotV, fIf, fIfT, fStill, still, fnLst, gNm, gTp, gsCons, gsNil, fCall, fCallO, fCallN, fIxN, fLenN, fSl, fPart, fNoPart, fNeg, fIsi, fIsi2, fLen, fAbs, fInt, fMax2, fMin2, fTupOf, fListOf, fSorted, fLstR, fAll, fAny, fIx, fIn, fEq, fIsN, fAdd, fMul, f2I, unD, slots0, settable, ownAt, owned, lentEnd, fiLst, fiTup, fiR1, fiR2, fiZip, fiZip3, fiKeysZ, fiItemsZ, fYes, wipeS]
      exact h.2
    · exact h.elim
  · exact h.elim
theorem d_led_to (ss : List S) (Q' : S → Prop) (h : fn_led_to ss Q') : g_led_to (EF Q') (slots0 4 ss) := by
  unfold fn_led_to at h
  split at h
  · rename_i x y ds
    split at h
    · rename_i p s cs e1 e2 e3
      have i1 := planOf_some e1
      have i2 := standOf_some e2
      have i3 := intsD_some e3
      subst i1; subst i2; subst i3
      obtain ⟨⟨ok, hf⟩, h⟩ := h
      unfold g_led_to sSeq
      refine sFor_go (cs.map PyData.int) (fun Q q => ?_) ?_
      · simp [sSeq, sRet, sRetN, sRetW, sIf, sNext, sNever, sExpr, sAsg, sNew, sNewS, sPar, sPar3, sApp, sSetIx, sDPut, sPar3W, fnD0, fnD1, fnOwn, fIxDN, fInDN, fIxZ, fInZ, fLenZ, fListZ, fGetZ, fMaxL, fMinL, fVar, fC, fRaw, fNil, fCons, fTup, fLst, fOp, fTest, fChain, fAnd, fOr, fNot, fAndV, fOrV, fNotV, fIf, fIfT, fStill, still, fnLst, gNm, gTp, gsCons, gsNil, fCall, fCallO, fCallN, fIxN, fLenN, fSl, fPart, fNoPart, fNeg, fIsi, fIsi2, fLen, fAbs, fInt, fMax2, fMin2, fTupOf, fListOf, fSorted, fLstR, fAll, fAny, fIx, fIn, fEq, fIsN, fAdd, fMul, f2I, unD, slots0, settable, ownAt, owned, lentEnd, fiLst, fiTup, fiR1, fiR2, fiZip, fiZip3, fiKeysZ, fiItemsZ, fYes, wipeS]
        exact q
      · have go : ∀ (cs : List Int) (ds : D) (s : Stn) (v : S), s.fits p → np v → Q' (.d (ledTo p s cs).d) → forGo (gNm 3) g_led_to_1 { nx := sRet (fVar 1) (EF Q'), rt := (EF Q').rt } (cs.map PyData.int) [.d p.d, .d s.d, .d ds, v] := fun cs ds => by
          induction cs with
          | nil =>
            intro s v hf hv h
            unfold List.map forGo
            simp [sSeq, sRet, sRetN, sRetW, sIf, sNext, sNever, sExpr, sAsg, sNew, sNewS, sPar, sPar3, sApp, sSetIx, sDPut, sPar3W, fnD0, fnD1, fnOwn, fIxDN, fInDN, fIxZ, fInZ, fLenZ, fListZ, fGetZ, fMaxL, fMinL, fVar, fC, fRaw, fNil, fCons, fTup, fLst, fOp, fTest, fChain, fAnd, fOr, fNot, fAndV, fOrV, fNotV, fIf, fIfT, fStill, still, fnLst, gNm, gTp, gsCons, gsNil, fCall, fCallO, fCallN, fIxN, fLenN, fSl, fPart, fNoPart, fNeg, fIsi, fIsi2, fLen, fAbs, fInt, fMax2, fMin2, fTupOf, fListOf, fSorted, fLstR, fAll, fAny, fIx, fIn, fEq, fIsN, fAdd, fMul, f2I, unD, slots0, settable, ownAt, owned, lentEnd, fiLst, fiTup, fiR1, fiR2, fiZip, fiZip3, fiKeysZ, fiItemsZ, fYes, wipeS]
            exact h
          | cons c cs ih =>
            intro s v hf hv h
            rw [List.map_cons]
            unfold forGo g_led_to_1
            simp [hv, fn_behind, planOf_d, standOf_d, ok, hf.len, sSeq, sRet, sRetN, sRetW, sIf, sNext, sNever, sExpr, sAsg, sNew, sNewS, sPar, sPar3, sApp, sSetIx, sDPut, sPar3W, fnD0, fnD1, fnOwn, fIxDN, fInDN, fIxZ, fInZ, fLenZ, fListZ, fGetZ, fMaxL, fMinL, fVar, fC, fRaw, fNil, fCons, fTup, fLst, fOp, fTest, fChain, fAnd, fOr, fNot, fAndV, fOrV, fNotV, fIf, fIfT, fStill, still, fnLst, gNm, gTp, gsCons, gsNil, fCall, fCallO, fCallN, fIxN, fLenN, fSl, fPart, fNoPart, fNeg, fIsi, fIsi2, fLen, fAbs, fInt, fMax2, fMin2, fTupOf, fListOf, fSorted, fLstR, fAll, fAny, fIx, fIn, fEq, fIsN, fAdd, fMul, f2I, unD, slots0, settable_iff, npd, npn, npo, npf, npr, ownAt, owned, lentEnd, fiLst, fiTup, fiR1, fiR2, fiZip, fiZip3, fiKeysZ, fiItemsZ, fYes, wipeS]
            exact ih (behind p s c) _ (behind_fits ok hf c) trivial h
        exact go cs _ s .no hf trivial h
    · exact h.elim
  · exact h.elim
theorem d_stand_behind (ss : List S) (Q' : S → Prop) (h : fn_stand_behind ss Q') : g_stand_behind (EF Q') (slots0 2 ss) := by
  unfold fn_stand_behind at h
  split at h
  · rename_i x ds
    split at h
    · rename_i p cs e1 e2
      have i1 := planOf_some e1
      subst i1
      obtain ⟨⟨ok, hf⟩, h⟩ := h
      simp [g_stand_behind, fn_look_at_plan, fn_look_at_run, fn_begin_of, fn__law_first, fn_led_to, planOf_d, standOf_d, isPlan_d.mpr ok, ok, hf, e2, firstStand_fits ok, sSeq, sRet, sRetN, sRetW, sIf, sNext, sNever, sExpr, sAsg, sNew, sNewS, sPar, sPar3, sApp, sSetIx, sDPut, sPar3W, fnD0, fnD1, fnOwn, fIxDN, fInDN, fIxZ, fInZ, fLenZ, fListZ, fGetZ, fMaxL, fMinL, fVar, fC, fRaw, fNil, fCons, fTup, fLst, fOp, fTest, fChain, fAnd, fOr, fNot, fAndV, fOrV, fNotV, fIf, fIfT, fStill, still, fnLst, gNm, gTp, gsCons, gsNil, fCall, fCallO, fCallN, fIxN, fLenN, fSl, fPart, fNoPart, fNeg, fIsi, fIsi2, fLen, fAbs, fInt, fMax2, fMin2, fTupOf, fListOf, fSorted, fLstR, fAll, fAny, fIx, fIn, fEq, fIsN, fAdd, fMul, f2I, unD, slots0, settable, ownAt, owned, lentEnd, fiLst, fiTup, fiR1, fiR2, fiZip, fiZip3, fiKeysZ, fiItemsZ, fYes, wipeS]
      exact h
    · exact h.elim
  · exact h.elim
end Aq
/-! B6L: low things. -/
namespace Aq
open PySem PySem.Spec PyProof.Rows L2
mutual
theorem low_up : ∀ (n : Nat) (x : D), low n x = true → low (n + 1) x = true
  | n, .list xs, h => by
    cases n with
    | zero => simp [low] at h
    | succ n =>
      simp only [low, Bool.and_eq_true] at h ⊢
      exact ⟨h.1, lowL_up n xs h.2⟩
  | n, .tuple xs, h => by
    cases n with
    | zero => simp [low] at h
    | succ n =>
      simp only [low, Bool.and_eq_true] at h ⊢
      exact ⟨h.1, lowL_up n xs h.2⟩
  | _, .dict _, h => by simp [low] at h
  | _, .str x, h => by simpa [low] using h
  | _, .none, _ => by simp [low]
  | _, .bool _, _ => by simp [low]
  | _, .int _, _ => by simp [low]
theorem lowL_up : ∀ (n : Nat) (xs : List D), lowL n xs = true → lowL (n + 1) xs = true
  | _, [], _ => rfl
  | n, x :: xs, h => by
    simp only [lowL, Bool.and_eq_true] at h ⊢
    exact ⟨low_up n x h.1, lowL_up n xs h.2⟩
end
theorem low_le {n m : Nat} {x : D} (h : low n x = true) (hm : n ≤ m) : low m x = true := by
  induction hm with
  | refl => exact h
  | step _ ih => exact low_up _ _ ih
mutual
theorem low_lay : ∀ (n : Nat) (x : D), low n x = true → PyData.canLay0 x = true ∧ PyData.depth x ≤ n
  | n, .list xs, h => by
    cases n with
    | zero => simp [low] at h
    | succ n =>
      simp only [low, Bool.and_eq_true] at h
      have := lowL_lay n xs h.2
      simp [PyData.canLay0, PyData.depth, this.1, this.2]
  | n, .tuple xs, h => by
    cases n with
    | zero => simp [low] at h
    | succ n =>
      simp only [low, Bool.and_eq_true] at h
      have := lowL_lay n xs h.2
      simp [PyData.canLay0, PyData.depth, this.1, this.2]
  | _, .dict _, h => by simp [low] at h
  | _, .str x, h => by
    simp only [low] at h
    exact ⟨SeqAt.canLay_of_shaped h, by simp [PyData.depth]⟩
  | _, .none, _ => by simp [PyData.canLay0, PyData.depth]
  | _, .bool _, _ => by simp [PyData.canLay0, PyData.depth]
  | _, .int _, _ => by simp [PyData.canLay0, PyData.depth]
theorem lowL_lay : ∀ (n : Nat) (xs : List D), lowL n xs = true → PyData.canLayAll0 xs = true ∧ PyData.depthAll xs ≤ n
  | _, [], _ => by simp [PyData.canLayAll0, PyData.depthAll]
  | n, x :: xs, h => by
    simp only [lowL, Bool.and_eq_true] at h
    have h1 := low_lay n x h.1
    have h2 := lowL_lay n xs h.2
    simp [PyData.canLayAll0, PyData.depthAll, h1.1, h2.1]
    omega
end
theorem shaped_low {n : Nat} {x : D} (h : low n x = true) (hn : n ≤ 64) : SeqAt.shaped x = true := by
  have := low_lay n x h
  unfold SeqAt.shaped
  rw [this.1, Bool.true_and]
  exact decide_eq_true (by omega)
theorem lowL_app {n : Nat} {xs ys : List D} : lowL n (xs ++ ys) = (lowL n xs && lowL n ys) := by
  induction xs with
  | nil => simp [lowL]
  | cons x xs ih => simp [lowL, ih, Bool.and_assoc]
theorem lowL_iff {n : Nat} {xs : List D} : lowL n xs = true ↔ ∀ x ∈ xs, low n x = true := by
  induction xs with
  | nil => simp [lowL]
  | cons x xs ih => simp [lowL, ih]
theorem at_mem {xs : List D} {r : Int} (h0 : 0 ≤ r) (h1 : r < xs.length) : ∃ d, d ∈ xs ∧ atI xs r = some d := by
  obtain ⟨j, rfl⟩ : ∃ j : Nat, r = j := ⟨r.toNat, by omega⟩
  have hj : j < xs.length := by omega
  exact ⟨xs[j], List.getElem_mem hj, atI_nat (List.getElem?_eq_getElem hj)⟩
end Aq
/-! B9: all stands that come up, in the order in which they are found. -/
namespace Aq
open PySem PySem.Spec PyProof.Rows L2
abbrev Fd := List (Stn × List Int)
def changesI (p : Pl) : List Int := (List.range (p.wh + 1 - p.wl).toNat).map fun i => p.wl + (i : Nat)
theorem changes_eq (p : Pl) : changes p = (changesI p).map PyData.int := by
  unfold changes changesI upto
  rw [List.map_map]
  rfl
def addC (p : Pl) (s : Stn) (run : List Int) (f : Fd) (c : Int) : Fd := if (f.any fun e => decide (e.1 = behind p s c)) = true then f else f ++ [(behind p s c, run ++ [c])]
def expand (p : Pl) (f : Fd) (s : Stn) (run : List Int) : Fd := (changesI p).foldl (addC p s run) f
def waysGo (p : Pl) : Nat → Nat → Fd → Fd
  | 0, _, f => f
  | m + 1, i, f => match f[i]? with
    | some (s, run) => waysGo p m (i + 1) (expand p f s run)
    | none => f
def WB : Nat := 262144
def waysOf (p : Pl) : Fd := waysGo p WB 0 [(firstStand p, [])]
structure GoodF (p : Pl) (f : Fd) : Prop where
  nd : (f.map (·.1)).Nodup
  fits : ∀ e ∈ f, e.1.fits p
  run : ∀ (i : Nat) (e : Stn × List Int), f[i]? = some e → e.2.length ≤ i
theorem addC_pre {p : Pl} {s : Stn} {run : List Int} {f : Fd} {c : Int} : ∃ g, addC p s run f c = f ++ g := by
  unfold addC
  split
  · exact ⟨[], by simp⟩
  · exact ⟨_, rfl⟩
theorem foldC_pre {p : Pl} {s : Stn} {run : List Int} : ∀ (cs : List Int) (f : Fd), ∃ g, cs.foldl (addC p s run) f = f ++ g
  | [], f => ⟨[], by simp⟩
  | c :: cs, f => by
    obtain ⟨g1, e1⟩ := addC_pre (p := p) (s := s) (run := run) (f := f) (c := c)
    obtain ⟨g2, e2⟩ := foldC_pre cs (addC p s run f c)
    exact ⟨g1 ++ g2, by rw [List.foldl_cons, e2, e1, List.append_assoc]⟩
theorem addC_good {p : Pl} (ok : p.ok) {s : Stn} {run : List Int} {f : Fd} (hs : s.fits p) (hr : run.length < f.length) (g : GoodF p f) (c : Int) : GoodF p (addC p s run f c) ∧ run.length < (addC p s run f c).length := by
  unfold addC
  split
  · exact ⟨g, hr⟩
  · rename_i h
    refine ⟨⟨?_, ?_, ?_⟩, by rw [List.length_append]; omega⟩
    · rw [List.map_append, List.nodup_append]
      refine ⟨g.nd, by simp, ?_⟩
      intro a ha b hb e
      simp at hb
      subst hb
      subst e
      obtain ⟨e, he, e2⟩ := List.mem_map.mp ha
      exact h (List.any_eq_true.mpr ⟨e, he, decide_eq_true e2⟩)
    · intro e he
      rcases List.mem_append.mp he with q | q
      · exact g.fits e q
      · rw [List.mem_singleton.mp q]
        exact behind_fits ok hs c
    · intro i e he
      by_cases hi : i < f.length
      · rw [List.getElem?_append_left hi] at he
        exact g.run i e he
      · rw [List.getElem?_append_right (by omega)] at he
        have h0 : i - f.length = 0 := by
          have := (List.getElem?_eq_some_iff.mp he).1
          simp at this
          omega
        rw [h0] at he
        simp at he
        rw [← he]
        simp
        omega
theorem foldC_good {p : Pl} (ok : p.ok) {s : Stn} {run : List Int} (hs : s.fits p) : ∀ (cs : List Int) (f : Fd), run.length < f.length → GoodF p f → GoodF p (cs.foldl (addC p s run) f)
  | [], f, _, g => g
  | c :: cs, f, hr, g => by
    have := addC_good ok hs hr g c
    rw [List.foldl_cons]
    exact foldC_good ok hs cs _ this.2 this.1
theorem good0 {p : Pl} (ok : p.ok) : GoodF p [(firstStand p, [])] := by
  refine ⟨by simp, fun e he => ?_, fun i e he => ?_⟩
  · rw [List.mem_singleton.mp he]
    exact firstStand_fits ok
  · have := (List.getElem?_eq_some_iff.mp he).1
    simp at this
    subst this
    simp at he
    rw [← he]
    simp
/-! ### how many -/
def ptCode (q : Pt) : Nat := q.n.toNat * 2 + if q.runs = true then 1 else 0
def stCode (s : Stn) : Nat := (((match s.past with
  | [a] => a.toNat
  | [a, b] => a.toNat * 16 + b.toNat
  | _ => 0) * 16 + s.w.toNat) * 8 + ptCode s.h) * 8 + ptCode s.c
theorem ptCode_lt {x : Dev} (ok : x.ok) {q : Pt} (h0 : 0 ≤ q.n) (h1 : q.n ≤ if q.runs = true then x.on else x.off) : ptCode q < 8 := by
  have a := ok.on3
  have b := ok.off3
  unfold ptCode
  split at h1 <;> simp_all <;> omega
theorem ptCode_inj {q r : Pt} (h0 : 0 ≤ q.n) (h1 : 0 ≤ r.n) (h : ptCode q = ptCode r) : q = r := by
  obtain ⟨a, n⟩ := q
  obtain ⟨b, m⟩ := r
  unfold ptCode at h
  simp at h h0 h1
  cases a <;> cases b <;> simp at h ⊢ <;> omega
theorem stCode_lt {p : Pl} (ok : p.ok) {s : Stn} (h : s.fits p) : stCode s < WB := by
  have h1 := ptCode_lt ok.h h.h0 h.h1
  have h2 := ptCode_lt ok.c h.c0 h.c1
  have w0 := h.w0
  have w1 := h.w15
  unfold stCode WB
  rcases seen_late h.len ok.la0 ok.la2 with ⟨_, e⟩ | ⟨_, a, e⟩ | ⟨_, a, b, e⟩
  · simp only [e]
    omega
  · have := h.past a (by rw [e]; simp)
    simp only [e]
    omega
  · have q1 := h.past a (by rw [e]; simp)
    have q2 := h.past b (by rw [e]; simp)
    simp only [e]
    omega
theorem stCode_inj {p : Pl} (ok : p.ok) {s t : Stn} (h : s.fits p) (k : t.fits p) (e : stCode s = stCode t) : s = t := by
  have h1 := ptCode_lt ok.h h.h0 h.h1
  have h2 := ptCode_lt ok.c h.c0 h.c1
  have k1 := ptCode_lt ok.h k.h0 k.h1
  have k2 := ptCode_lt ok.c k.c0 k.c1
  have w0 := h.w0
  have w1 := h.w15
  have v0 := k.w0
  have v1 := k.w15
  have fin : s.w = t.w → s.past = t.past → ptCode s.h = ptCode t.h → ptCode s.c = ptCode t.c → s = t := fun a b c d => by
    have c' := ptCode_inj h.h0 k.h0 c
    have d' := ptCode_inj h.c0 k.c0 d
    cases s; cases t
    simp_all
  unfold stCode at e
  rcases seen_late h.len ok.la0 ok.la2 with ⟨l1, e1⟩ | ⟨l1, a, e1⟩ | ⟨l1, a, b, e1⟩ <;> rcases seen_late k.len ok.la0 ok.la2 with ⟨l2, e2⟩ | ⟨l2, c, e2⟩ | ⟨l2, c, d, e2⟩ <;> try omega
  · simp only [e1, e2] at e
    exact fin (by omega) (by rw [e1, e2]) (by omega) (by omega)
  · have q1 := h.past a (by rw [e1]; simp)
    have q2 := k.past c (by rw [e2]; simp)
    simp only [e1, e2] at e
    exact fin (by omega) (by rw [e1, e2, show a = c by omega]) (by omega) (by omega)
  · have q1 := h.past a (by rw [e1]; simp)
    have q2 := k.past c (by rw [e2]; simp)
    have q3 := h.past b (by rw [e1]; simp)
    have q4 := k.past d (by rw [e2]; simp)
    simp only [e1, e2] at e
    exact fin (by omega) (by rw [e1, e2, show a = c by omega, show b = d by omega]) (by omega) (by omega)
theorem nat_nodup_len : ∀ (n : Nat) (l : List Nat), l.Nodup → (∀ x ∈ l, x < n) → l.length ≤ n
  | 0, l, _, h => by
    cases l with
    | nil => simp
    | cons x xs => exact absurd (h x List.mem_cons_self) (by omega)
  | n + 1, l, hd, h => by
    have e1 := nat_nodup_len n (l.erase n) (hd.erase n) fun x hx => by
      have h1 := h x (List.mem_of_mem_erase hx)
      have h2 : x ≠ n := fun e => by
        subst e
        exact (hd.mem_erase_iff.mp hx).1 rfl
      omega
    have e2 : l.length ≤ (l.erase n).length + 1 := by
      rw [List.length_erase]
      split <;> omega
    omega
theorem GoodF.len {p : Pl} (ok : p.ok) {f : Fd} (g : GoodF p f) : f.length ≤ WB := by
  have h1 : ((f.map (·.1)).map stCode).Nodup := by
    have : ∀ l : List Stn, l.Nodup → (∀ s ∈ l, s.fits p) → (l.map stCode).Nodup := fun l => by
      induction l with
      | nil => intro _ _; simp
      | cons s ss ih =>
        intro hd hf
        rw [List.nodup_cons] at hd
        rw [List.map_cons, List.nodup_cons]
        refine ⟨fun hm => ?_, ih hd.2 fun t ht => hf t (List.mem_cons_of_mem _ ht)⟩
        obtain ⟨t, ht, e⟩ := List.mem_map.mp hm
        have := stCode_inj ok (hf t (List.mem_cons_of_mem _ ht)) (hf s List.mem_cons_self) e
        exact hd.1 (this ▸ ht)
    refine this _ g.nd fun s hs => ?_
    obtain ⟨e, he, rfl⟩ := List.mem_map.mp hs
    exact g.fits e he
  have h2 := nat_nodup_len WB _ h1 fun x hx => by
    obtain ⟨s, hs, rfl⟩ := List.mem_map.mp hx
    obtain ⟨e, he, rfl⟩ := List.mem_map.mp hs
    exact stCode_lt ok (g.fits e he)
  simpa using h2
end Aq
/-! B10: the walk through all stands, by data. -/
namespace Aq
open PySem PySem.Spec PyProof.Rows L2
def kvsF (f : Fd) : List (D × D) := f.map fun e => (e.1.d, .tuple (e.2.map PyData.int))
def queueF (f : Fd) : List D := f.map fun e => e.1.d
def bN (b : Bool) : Int := if b = true then 1 else 0
def skey (s : Stn) : NestedKey := .tup [.num s.w, .tup (s.past.map NestedKey.num), .tup [.num (bN s.h.runs), .num s.h.n], .tup [.num (bN s.c.runs), .num s.c.n]]
theorem keysOf_ints : ∀ l : List Int, keysOf (l.map PyData.int) = some (l.map NestedKey.num)
  | [] => rfl
  | x :: xs => by rw [List.map_cons]; simp only [keysOf, keyOf, keysOf_ints xs]; rfl
theorem keyOf_stn (s : Stn) : keyOf s.d = some (skey s) := by
  unfold Stn.d Pt.d skey bN
  simp [keyOf, keysOf, keysOf_ints]
theorem depth_nums : ∀ l : List Int, NestedKey.depthAll (l.map NestedKey.num) = 0
  | [] => rfl
  | x :: xs => by rw [List.map_cons]; simp [NestedKey.depthAll, NestedKey.depth, depth_nums xs]
theorem keyD_stn (s : Stn) : keyD s.d = some (skey s) := by
  have h := keyOf_stn s
  have hd : (skey s).depth ≤ 8 := by
    unfold skey
    simp [NestedKey.depth, NestedKey.depthAll, depth_nums]
  have e : ∃ ds, s.d = .tuple ds := ⟨_, rfl⟩
  obtain ⟨ds, e⟩ := e
  unfold keyD
  rw [e] at h ⊢
  simp only [h, hd, if_true]
theorem nums_inj : ∀ l m : List Int, l.map NestedKey.num = m.map NestedKey.num → l = m
  | [], [], _ => rfl
  | [], _ :: _, h => by simp at h
  | _ :: _, [], h => by simp at h
  | x :: xs, y :: ys, h => by
    simp only [List.map_cons, List.cons.injEq, NestedKey.num.injEq] at h
    rw [h.1, nums_inj xs ys h.2]
theorem bN_inj {a b : Bool} (h : bN a = bN b) : a = b := by
  cases a <;> cases b <;> simp [bN] at h ⊢
theorem skey_inj {s t : Stn} (h : skey s = skey t) : s = t := by
  obtain ⟨w, ps, ⟨a, n⟩, ⟨b, m⟩⟩ := s
  obtain ⟨w', ps', ⟨a', n'⟩, ⟨b', m'⟩⟩ := t
  unfold skey at h
  simp only [NestedKey.tup.injEq, List.cons.injEq, NestedKey.num.injEq, and_true] at h
  obtain ⟨h1, h2, ⟨h3, h4⟩, h5, h6⟩ := h
  rw [h1, nums_inj _ _ h2, bN_inj h3, h4, bN_inj h5, h6]
theorem key_dec (s t : Stn) : decide (keyOf s.d = some (skey t)) = decide (s = t) := by
  rw [keyOf_stn]
  by_cases e : s = t
  · subst e; simp
  · have : ¬ skey s = skey t := fun z => e (skey_inj z)
    simp [e, this]
theorem find_any {α : Type} (p : α → Bool) : ∀ l : List α, (l.find? p).isSome = l.any p
  | [] => rfl
  | x :: xs => by
    rw [List.find?_cons, List.any_cons]
    cases p x with
    | true => rfl
    | false => simpa using find_any p xs
theorem find_at : ∀ {f : Fd} {i : Nat} {s : Stn} {run : List Int}, (f.map (·.1)).Nodup → f[i]? = some (s, run) → f.find? (fun e => decide (e.1 = s)) = some (s, run)
  | [], i, _, _, _, h => by simp at h
  | e :: es, 0, s, run, _, h => by
    simp at h
    subst h
    simp
  | e :: es, i + 1, s, run, hn, h => by
    rw [List.map_cons, List.nodup_cons] at hn
    simp at h
    have hne : ¬ e.1 = s := fun z => hn.1 (List.mem_map.mpr ⟨(s, run), List.mem_of_getElem? h, z.symm⟩)
    rw [List.find?_cons]
    simp only [hne, decide_false]
    exact find_at hn.2 h
theorem dGet_kvs (f : Fd) (s : Stn) : dGet (kvsF f) (skey s) = (f.find? fun e => decide (e.1 = s)).map fun e => .tuple (e.2.map PyData.int) := by
  unfold dGet kvsF
  rw [List.find?_map, Option.map_map]
  have e : ((fun p : D × D => decide (keyOf p.1 = some (skey s))) ∘ fun e : Stn × List Int => (e.1.d, PyData.tuple (e.2.map PyData.int))) = fun e => decide (e.1 = s) := by
    funext e
    exact key_dec e.1 s
  rw [e]
  rfl
theorem dGet_any (f : Fd) (s : Stn) : (dGet (kvsF f) (skey s)).isSome = f.any fun e => decide (e.1 = s) := by
  rw [dGet_kvs, Option.isSome_map]
  exact find_any _ _
theorem dGet_at {f : Fd} (hn : (f.map (·.1)).Nodup) {i : Nat} {s : Stn} {run : List Int} (h : f[i]? = some (s, run)) : dGet (kvsF f) (skey s) = some (.tuple (run.map PyData.int)) := by
  rw [dGet_kvs]
  rw [find_at hn h]
  rfl
theorem dPut_new {f : Fd} {s : Stn} {v : D} (h : (f.any fun e => decide (e.1 = s)) = false) : dPut (kvsF f) s.d v = kvsF f ++ [(s.d, v)] := by
  have : (kvsF f).find? (fun p => decide (keyOf p.1 = keyOf s.d)) = none := by
    have := dGet_any f s
    rw [h] at this
    unfold dGet at this
    rw [Option.isSome_map] at this
    rw [keyOf_stn]
    simpa using this
  unfold dPut
  rw [this]
  rfl
/-! ### the defs -/
def fn_ways_by : FnN := fun ss Q => match ss with
  | [.d x] => (match planOf x with | some p => p.ok ∧ Q (.dct (kvsF (waysOf p))) | none => False)
  | _ => False
def fn__law_ways : FnN := fn_ways_by
def fn_changes_of : Fn := fn__law_changes
theorem n_ways_by : ∀ ss Q, fn_ways_by ss Q → ss.length = 1 := by
  intro ss Q h
  unfold fn_ways_by at h
  split at h
  · rfl
  · exact h.elim
theorem n__law_ways : ∀ ss Q, fn__law_ways ss Q → ss.length = 1 := n_ways_by
theorem n_changes_of : ∀ ss Q, fn_changes_of ss Q → ss.length = 1 := n__law_changes
def g_ways_by_1 : FS := (sRetW (fnOwn 2))
def g_ways_by_2 : FS := (sApp 3 (fVar 7))
def g_ways_by_3 : FS := (sIf (fTest (fInDN true 2 (fVar 7))) (sSeq (sDPut 2 (fOp fAdd (fIxDN 2 (fVar 5)) (fTup (fCons (fVar 6) fNil))) (fVar 7))
    g_ways_by_2) sNext)
def g_ways_by_4 : FS := (sSeq (sAsg (fCall fn_behind (fCons (fVar 0) (fCons (fVar 5) (fCons (fVar 6) fNil)))) (gNm 7))
    g_ways_by_3)
def g_ways_by_5 : FS := (sFor (fiLst (fCall fn_changes_of (fCons (fVar 0) fNil))) (gNm 6) g_ways_by_4)
def g_ways_by_6 : FS := (sSeq (sAsg (fOp fAdd (fVar 4) (fC (.int 1))) (gNm 4))
    g_ways_by_5)
def g_ways_by_7 : FS := (sSeq (sAsg (fIxN 3 (fVar 4)) (gNm 5))
    g_ways_by_6)
def g_ways_by_8 : FS := (sSeq (sWhile (fTest (fOp (f2I TT2 fun i j => .bool (decide (i < j))) (fVar 4) (fLenN 3))) g_ways_by_7)
    g_ways_by_1)
def g_ways_by_9 : FS := (sSeq (sPar3W 2 3 4 (fnD1 (fVar 1) (fTup fNil)) (fnLst (fCons (fVar 1) fNil)) (fC (.int 0)))
    g_ways_by_8)
def g_ways_by : FS := (sSeq (sAsg (fCall fn_begin_of (fCons (fVar 0) fNil)) (gNm 1))
    g_ways_by_9)
def g_changes_of : FS := (sRet (fStill (fLstR (fCons (fOp fIx (fOp fIx (fVar 0) (fC (.int 3))) (fC (.int 0))) (fCons (fOp fAdd (fOp fIx (fOp fIx (fVar 0) (fC (.int 3))) (fC (.int 1))) (fC (.int 1))) fNil)))))
def g__law_ways_1 : FS := (sRetW (fnOwn 2))
def g__law_ways_2 : FS := (sApp 3 (fVar 7))
def g__law_ways_3 : FS := (sIf (fTest (fInDN true 2 (fVar 7))) (sSeq (sDPut 2 (fOp fAdd (fIxDN 2 (fVar 5)) (fTup (fCons (fVar 6) fNil))) (fVar 7))
    g__law_ways_2) sNext)
def g__law_ways_4 : FS := (sSeq (sAsg (fCall fn__law_after (fCons (fVar 0) (fCons (fVar 5) (fCons (fVar 6) fNil)))) (gNm 7))
    g__law_ways_3)
def g__law_ways_5 : FS := (sFor (fiLst (fCall fn__law_changes (fCons (fVar 0) fNil))) (gNm 6) g__law_ways_4)
def g__law_ways_6 : FS := (sSeq (sAsg (fOp fAdd (fVar 4) (fC (.int 1))) (gNm 4))
    g__law_ways_5)
def g__law_ways_7 : FS := (sSeq (sAsg (fIxN 3 (fVar 4)) (gNm 5))
    g__law_ways_6)
def g__law_ways_8 : FS := (sSeq (sWhile (fTest (fOp (f2I TT2 fun i j => .bool (decide (i < j))) (fVar 4) (fLenN 3))) g__law_ways_7)
    g__law_ways_1)
def g__law_ways_9 : FS := (sSeq (sPar3W 2 3 4 (fnD1 (fVar 1) (fTup fNil)) (fnLst (fCons (fVar 1) fNil)) (fC (.int 0)))
    g__law_ways_8)
def g__law_ways : FS := (sSeq (sAsg (fCall fn__law_first (fCons (fVar 0) fNil)) (gNm 1))
    g__law_ways_9)
theorem d_changes_of (ss : List S) (Q' : S → Prop) (h : fn_changes_of ss Q') : g_changes_of (EF Q') (slots0 1 ss) := d__law_changes ss Q' h
def stW (p : Pl) (f : Fd) (i : Nat) (s1 s5 s6 s7 : S) : List S := [.d p.d, s1, .ow (.dct (kvsF f)), .ow (.lst (queueF f)), .d (.int i), s5, s6, s7]
/-- a way on -/
theorem d_way_step {p : Pl} (ok : p.ok) {f : Fd} {i k : Nat} {s : Stn} {run : List Int} {c : Int} (g : GoodF p f) (hk : f[k]? = some (s, run)) (hs : s.fits p) {s1 s6 s7 : S} (p1 : np s1) (p6 : np s6) (p7 : np s7) {E : DEnds}
    (hE : ∀ s6 s7, np s6 → np s7 → E.nx (stW p (addC p s run f c) i s1 (.d s.d) s6 s7)) : gNm 6 (.d (.int c)) (stW p f i s1 (.d s.d) s6 s7) fun ρ2 => g_ways_by_4 E ρ2 := by
  have hlen := g.len ok
  have hW : WB = 262144 := rfl
  have hrun := g.run k _ hk
  have hkl := (List.getElem?_eq_some_iff.mp hk).1
  unfold g_ways_by_4 stW
  simp [p6, p7, fn_behind, planOf_d, standOf_d, ok, hs.len, sSeq, sRet, sRetN, sRetW, sIf, sNext, sNever, sExpr, sAsg, sNew, sNewS, sPar, sPar3, sApp, sSetIx, sDPut, sPar3W, fnD0, fnD1, fnOwn, fIxDN, fInDN, fIxZ, fInZ, fLenZ, fListZ, fGetZ, fMaxL, fMinL, fVar, fC, fRaw, fNil, fCons, fTup, fLst, fOp, fTest, fChain, fAnd, fOr, fNot, fAndV, fOrV, fNotV, fIf, fIfT, fStill, still, fnLst, gNm, gTp, gsCons, gsNil, fCall, fCallO, fCallN, fIxN, fLenN, fSl, fPart, fNoPart, fNeg, fIsi, fIsi2, fLen, fAbs, fInt, fMax2, fMin2, fTupOf, fListOf, fSorted, fLstR, fAll, fAny, fIx, fIn, fEq, fIsN, fAdd, fMul, f2I, unD, slots0, settable_iff, npd, npn, npo, npf, npr, ownAt, owned, lentEnd, fiLst, fiTup, fiR1, fiR2, fiZip, fiZip3, fiKeysZ, fiItemsZ, fYes, wipeS]
  unfold g_ways_by_3
  have hrun' : run.length ≤ k := hrun
  have hdg := dGet_at g.nd hk
  have kl : (kvsF f).length = f.length := by simp [kvsF]
  have ql : (queueF f).length = f.length := by simp [queueF]
  simp only [sIf, fTest, fInDN, fVar, ownAt, List.getElem?_cons_succ, List.getElem?_cons_zero, keyD_stn, dGet_any]
  cases ha : (f.any fun e => decide (e.1 = behind p s c)) with
  | true =>
    have e1 : addC p s run f c = f := if_pos ha
    have := hE (.d (.int c)) (.d (behind p s c).d) trivial trivial
    rw [e1] at this
    simp [sSeq, sRet, sRetN, sRetW, sIf, sNext, sNever, sExpr, sAsg, sNew, sNewS, sPar, sPar3, sApp, sSetIx, sDPut, sPar3W, fnD0, fnD1, fnOwn, fIxDN, fInDN, fIxZ, fInZ, fLenZ, fListZ, fGetZ, fMaxL, fMinL, fVar, fC, fRaw, fNil, fCons, fTup, fLst, fOp, fTest, fChain, fAnd, fOr, fNot, fAndV, fOrV, fNotV, fIf, fIfT, fStill, still, fnLst, gNm, gTp, gsCons, gsNil, fCall, fCallO, fCallN, fIxN, fLenN, fSl, fPart, fNoPart, fNeg, fIsi, fIsi2, fLen, fAbs, fInt, fMax2, fMin2, fTupOf, fListOf, fSorted, fLstR, fAll, fAny, fIx, fIn, fEq, fIsN, fAdd, fMul, f2I, unD, slots0, settable_iff, npd, npn, npo, npf, npr, ownAt, owned, lentEnd, fiLst, fiTup, fiR1, fiR2, fiZip, fiZip3, fiKeysZ, fiItemsZ, fYes, wipeS]
    exact this
  | false =>
    have e1 : addC p s run f c = f ++ [(behind p s c, run ++ [c])] := if_neg (by rw [ha]; exact Bool.false_ne_true)
    have := hE (.d (.int c)) (.d (behind p s c).d) trivial trivial
    rw [e1] at this
    have s1 : (1 : Nat) ≤ sizeLine := by decide
    simp [keyD_stn, hdg, kl, sizeLine_eq, sSeq, sRet, sRetN, sRetW, sIf, sNext, sNever, sExpr, sAsg, sNew, sNewS, sPar, sPar3, sApp, sSetIx, sDPut, sPar3W, fnD0, fnD1, fnOwn, fIxDN, fInDN, fIxZ, fInZ, fLenZ, fListZ, fGetZ, fMaxL, fMinL, fVar, fC, fRaw, fNil, fCons, fTup, fLst, fOp, fTest, fChain, fAnd, fOr, fNot, fAndV, fOrV, fNotV, fIf, fIfT, fStill, still, fnLst, gNm, gTp, gsCons, gsNil, fCall, fCallO, fCallN, fIxN, fLenN, fSl, fPart, fNoPart, fNeg, fIsi, fIsi2, fLen, fAbs, fInt, fMax2, fMin2, fTupOf, fListOf, fSorted, fLstR, fAll, fAny, fIx, fIn, fEq, fIsN, fAdd, fMul, f2I, unD, slots0, settable_iff, npd, npn, npo, npf, npr, ownAt, owned, lentEnd, fiLst, fiTup, fiR1, fiR2, fiZip, fiZip3, fiKeysZ, fiItemsZ, fYes, wipeS]
    refine ⟨by omega, by omega, ?_⟩
    unfold g_ways_by_2
    simp [ql, sizeLine_eq, sSeq, sRet, sRetN, sRetW, sIf, sNext, sNever, sExpr, sAsg, sNew, sNewS, sPar, sPar3, sApp, sSetIx, sDPut, sPar3W, fnD0, fnD1, fnOwn, fIxDN, fInDN, fIxZ, fInZ, fLenZ, fListZ, fGetZ, fMaxL, fMinL, fVar, fC, fRaw, fNil, fCons, fTup, fLst, fOp, fTest, fChain, fAnd, fOr, fNot, fAndV, fOrV, fNotV, fIf, fIfT, fStill, still, fnLst, gNm, gTp, gsCons, gsNil, fCall, fCallO, fCallN, fIxN, fLenN, fSl, fPart, fNoPart, fNeg, fIsi, fIsi2, fLen, fAbs, fInt, fMax2, fMin2, fTupOf, fListOf, fSorted, fLstR, fAll, fAny, fIx, fIn, fEq, fIsN, fAdd, fMul, f2I, unD, slots0, settable_iff, npd, npn, npo, npf, npr, ownAt, owned, lentEnd, fiLst, fiTup, fiR1, fiR2, fiZip, fiZip3, fiKeysZ, fiItemsZ, fYes, wipeS]
    refine ⟨by omega, ?_⟩
    rw [dPut_new ha]
    have e2 : kvsF (f ++ [(behind p s c, run ++ [c])]) = kvsF f ++ [((behind p s c).d, PyData.tuple (run.map PyData.int ++ [PyData.int c]))] := by simp [kvsF]
    have e3 : queueF (f ++ [(behind p s c, run ++ [c])]) = queueF f ++ [(behind p s c).d] := by simp [queueF]
    unfold stW at this
    rw [e2, e3] at this
    exact this
theorem changesI_get {p : Pl} {n : Nat} {x : D} (h : (changes p)[n]? = some x) : ∃ c, x = .int c ∧ (changesI p)[n]? = some c := by
  rw [changes_eq, List.getElem?_map] at h
  obtain ⟨c, h1, rfl⟩ := Option.map_eq_some_iff.mp h
  exact ⟨c, rfl, h1⟩
theorem waysGo_end {p : Pl} {m i : Nat} {f : Fd} (h : f.length ≤ i) : waysGo p m i f = f := by
  cases m with
  | zero => rfl
  | succ m => unfold waysGo; rw [List.getElem?_eq_none h]
theorem expand_good {p : Pl} (ok : p.ok) {f : Fd} {i : Nat} {s : Stn} {run : List Int} (g : GoodF p f) (h : f[i]? = some (s, run)) : GoodF p (expand p f s run) := by
  have hi := (List.getElem?_eq_some_iff.mp h).1
  have h1 := g.run i _ h
  exact foldC_good ok (g.fits _ (List.mem_of_getElem? h)) _ _ (by show run.length < f.length; have : run.length ≤ i := h1; omega) g
theorem d_ways_by (ss : List S) (Q' : Ow → Prop) (h : fn_ways_by ss Q') : g_ways_by (EN Q') (slots0 8 ss) := by
  unfold fn_ways_by at h
  split at h
  · split at h
    · rename_i p e
      rw [planOf_some e]
      obtain ⟨ok, h⟩ := h
      have hk0 := keyD_stn (firstStand p)
      unfold g_ways_by
      simp [fn_begin_of, fn__law_first, planOf_d, ok, sSeq, sRet, sRetN, sRetW, sIf, sNext, sNever, sExpr, sAsg, sNew, sNewS, sPar, sPar3, sApp, sSetIx, sDPut, sPar3W, fnD0, fnD1, fnOwn, fIxDN, fInDN, fIxZ, fInZ, fLenZ, fListZ, fGetZ, fMaxL, fMinL, fVar, fC, fRaw, fNil, fCons, fTup, fLst, fOp, fTest, fChain, fAnd, fOr, fNot, fAndV, fOrV, fNotV, fIf, fIfT, fStill, still, fnLst, gNm, gTp, gsCons, gsNil, fCall, fCallO, fCallN, fIxN, fLenN, fSl, fPart, fNoPart, fNeg, fIsi, fIsi2, fLen, fAbs, fInt, fMax2, fMin2, fTupOf, fListOf, fSorted, fLstR, fAll, fAny, fIx, fIn, fEq, fIsN, fAdd, fMul, f2I, unD, slots0, settable, ownAt, owned, lentEnd, fiLst, fiTup, fiR1, fiR2, fiZip, fiZip3, fiKeysZ, fiItemsZ, fYes, wipeS]
      unfold g_ways_by_9
      simp [hk0, sizeLine_eq, sSeq, sRet, sRetN, sRetW, sIf, sNext, sNever, sExpr, sAsg, sNew, sNewS, sPar, sPar3, sApp, sSetIx, sDPut, sPar3W, fnD0, fnD1, fnOwn, fIxDN, fInDN, fIxZ, fInZ, fLenZ, fListZ, fGetZ, fMaxL, fMinL, fVar, fC, fRaw, fNil, fCons, fTup, fLst, fOp, fTest, fChain, fAnd, fOr, fNot, fAndV, fOrV, fNotV, fIf, fIfT, fStill, still, fnLst, gNm, gTp, gsCons, gsNil, fCall, fCallO, fCallN, fIxN, fLenN, fSl, fPart, fNoPart, fNeg, fIsi, fIsi2, fLen, fAbs, fInt, fMax2, fMin2, fTupOf, fListOf, fSorted, fLstR, fAll, fAny, fIx, fIn, fEq, fIsN, fAdd, fMul, f2I, unD, slots0, settable, ownAt, owned, lentEnd, fiLst, fiTup, fiR1, fiR2, fiZip, fiZip3, fiKeysZ, fiItemsZ, fYes, wipeS]
      unfold g_ways_by_8 sSeq
      refine ⟨fun m ρ => ∃ (f : Fd) (i : Nat) (s1 s5 s6 s7 : S), ρ = stW p f i s1 s5 s6 s7 ∧ GoodF p f ∧ m = WB - i ∧ waysGo p m i f = waysOf p ∧ np s1 ∧ np s5 ∧ np s6 ∧ np s7, ⟨WB, [(firstStand p, [])], 0, _, .no, .no, .no, rfl, good0 ok, rfl, rfl, trivial, trivial, trivial, trivial⟩, ?_⟩
      rintro m ρ ⟨f, i, s1, s5, s6, s7, rfl, g, rfl, hw, p1, p5, p6, p7⟩
      have hlen := g.len ok
      have ql : (queueF f).length = f.length := by simp [queueF]
      by_cases hi : i < f.length
      · obtain ⟨⟨s, run⟩, hk⟩ : ∃ e, f[i]? = some e := ⟨f[i], List.getElem?_eq_getElem hi⟩
        have hs := g.fits _ (List.mem_of_getElem? hk)
        have hm : WB - i = (WB - (i + 1)) + 1 := by omega
        rw [hm] at hw
        unfold waysGo at hw
        rw [hk] at hw
        unfold stW
        simp [ql, hi, sSeq, sRet, sRetN, sRetW, sIf, sNext, sNever, sExpr, sAsg, sNew, sNewS, sPar, sPar3, sApp, sSetIx, sDPut, sPar3W, fnD0, fnD1, fnOwn, fIxDN, fInDN, fIxZ, fInZ, fLenZ, fListZ, fGetZ, fMaxL, fMinL, fVar, fC, fRaw, fNil, fCons, fTup, fLst, fOp, fTest, fChain, fAnd, fOr, fNot, fAndV, fOrV, fNotV, fIf, fIfT, fStill, still, fnLst, gNm, gTp, gsCons, gsNil, fCall, fCallO, fCallN, fIxN, fLenN, fSl, fPart, fNoPart, fNeg, fIsi, fIsi2, fLen, fAbs, fInt, fMax2, fMin2, fTupOf, fListOf, fSorted, fLstR, fAll, fAny, fIx, fIn, fEq, fIsN, fAdd, fMul, f2I, unD, slots0, settable_iff, npd, npn, npo, npf, npr, ownAt, owned, lentEnd, fiLst, fiTup, fiR1, fiR2, fiZip, fiZip3, fiKeysZ, fiItemsZ, fYes, wipeS]
        refine ⟨fun ρ' => ∃ (f : Fd) (s1 s5 s6 s7 : S), ρ' = stW p f (i + 1) s1 s5 s6 s7 ∧ GoodF p f ∧ waysGo p (WB - (i + 1)) (i + 1) f = waysOf p ∧ np s1 ∧ np s5 ∧ np s6 ∧ np s7, ?_, ?_⟩
        · rintro ρ' ⟨f, s1, s5, s6, s7, rfl, g, hw, p1, p5, p6, p7⟩
          exact ⟨WB - (i + 1), by omega, f, i + 1, s1, s5, s6, s7, rfl, g, rfl, hw, p1, p5, p6, p7⟩
        · unfold g_ways_by_7
          have hq : atI (queueF f) (i : Int) = some s.d := atI_nat (by unfold queueF; rw [List.getElem?_map, hk]; rfl)
          simp [p5, hq, sSeq, sRet, sRetN, sRetW, sIf, sNext, sNever, sExpr, sAsg, sNew, sNewS, sPar, sPar3, sApp, sSetIx, sDPut, sPar3W, fnD0, fnD1, fnOwn, fIxDN, fInDN, fIxZ, fInZ, fLenZ, fListZ, fGetZ, fMaxL, fMinL, fVar, fC, fRaw, fNil, fCons, fTup, fLst, fOp, fTest, fChain, fAnd, fOr, fNot, fAndV, fOrV, fNotV, fIf, fIfT, fStill, still, fnLst, gNm, gTp, gsCons, gsNil, fCall, fCallO, fCallN, fIxN, fLenN, fSl, fPart, fNoPart, fNeg, fIsi, fIsi2, fLen, fAbs, fInt, fMax2, fMin2, fTupOf, fListOf, fSorted, fLstR, fAll, fAny, fIx, fIn, fEq, fIsN, fAdd, fMul, f2I, unD, slots0, settable_iff, npd, npn, npo, npf, npr, ownAt, owned, lentEnd, fiLst, fiTup, fiR1, fiR2, fiZip, fiZip3, fiKeysZ, fiItemsZ, fYes, wipeS]
          unfold g_ways_by_6
          simp [npd, sSeq, sRet, sRetN, sRetW, sIf, sNext, sNever, sExpr, sAsg, sNew, sNewS, sPar, sPar3, sApp, sSetIx, sDPut, sPar3W, fnD0, fnD1, fnOwn, fIxDN, fInDN, fIxZ, fInZ, fLenZ, fListZ, fGetZ, fMaxL, fMinL, fVar, fC, fRaw, fNil, fCons, fTup, fLst, fOp, fTest, fChain, fAnd, fOr, fNot, fAndV, fOrV, fNotV, fIf, fIfT, fStill, still, fnLst, gNm, gTp, gsCons, gsNil, fCall, fCallO, fCallN, fIxN, fLenN, fSl, fPart, fNoPart, fNeg, fIsi, fIsi2, fLen, fAbs, fInt, fMax2, fMin2, fTupOf, fListOf, fSorted, fLstR, fAll, fAny, fIx, fIn, fEq, fIsN, fAdd, fMul, f2I, unD, slots0, settable_iff, npd, npn, npo, npf, npr, ownAt, owned, lentEnd, fiLst, fiTup, fiR1, fiR2, fiZip, fiZip3, fiKeysZ, fiItemsZ, fYes, wipeS]
          unfold g_ways_by_5
          rw [sFor_eq]
          simp [fn_changes_of, fn__law_changes, planOf_d, ok, sSeq, sRet, sRetN, sRetW, sIf, sNext, sNever, sExpr, sAsg, sNew, sNewS, sPar, sPar3, sApp, sSetIx, sDPut, sPar3W, fnD0, fnD1, fnOwn, fIxDN, fInDN, fIxZ, fInZ, fLenZ, fListZ, fGetZ, fMaxL, fMinL, fVar, fC, fRaw, fNil, fCons, fTup, fLst, fOp, fTest, fChain, fAnd, fOr, fNot, fAndV, fOrV, fNotV, fIf, fIfT, fStill, still, fnLst, gNm, gTp, gsCons, gsNil, fCall, fCallO, fCallN, fIxN, fLenN, fSl, fPart, fNoPart, fNeg, fIsi, fIsi2, fLen, fAbs, fInt, fMax2, fMin2, fTupOf, fListOf, fSorted, fLstR, fAll, fAny, fIx, fIn, fEq, fIsN, fAdd, fMul, f2I, unD, slots0, settable_iff, npd, npn, npo, npf, npr, ownAt, owned, lentEnd, fiLst, fiTup, fiR1, fiR2, fiZip, fiZip3, fiKeysZ, fiItemsZ, fYes, wipeS]
          refine sForB_cnt (fun n ρ' => ∃ s6 s7, ρ' = stW p (((changesI p).take n).foldl (addC p s run) f) (i + 1) s1 (.d s.d) s6 s7 ∧ np s6 ∧ np s7) ⟨s6, s7, ?_, p6, p7⟩ ?_ ?_
          · simp [stW]
          · rintro ρ' ⟨s6, s7, rfl, p6, p7⟩
            have ht : (changesI p).take (changes p).length = changesI p := by rw [changes_eq, List.length_map, List.take_length]
            rw [ht]
            exact ⟨expand p f s run, s1, .d s.d, s6, s7, rfl, expand_good ok g hk, hw, p1, npD _, p6, p7⟩
          · rintro n x hx ρ' ⟨s6, s7, rfl, p6, p7⟩
            obtain ⟨c, rfl, hc⟩ := changesI_get hx
            have hr : run.length ≤ i := g.run i _ hk
            have g' : GoodF p (((changesI p).take n).foldl (addC p s run) f) := foldC_good ok hs _ _ (by omega) g
            obtain ⟨gg, egg⟩ := foldC_pre (p := p) (s := s) (run := run) ((changesI p).take n) f
            have hk' : (((changesI p).take n).foldl (addC p s run) f)[i]? = some (s, run) := by
              rw [egg, List.getElem?_append_left hi]
              exact hk
            have et : (changesI p).take (n + 1) = (changesI p).take n ++ [c] := by rw [List.take_succ, hc]; rfl
            have ef : ((changesI p).take (n + 1)).foldl (addC p s run) f = addC p s run (((changesI p).take n).foldl (addC p s run) f) c := by rw [et, List.foldl_append]; rfl
            refine d_way_step ok g' hk' hs p1 p6 p7 fun s6 s7 q6 q7 => ?_
            rw [← ef]
            exact ⟨s6, s7, rfl, q6, q7⟩
      · have hw2 : f = waysOf p := by rw [← hw, waysGo_end (by omega)]
        unfold stW
        simp [ql, hi, sSeq, sRet, sRetN, sRetW, sIf, sNext, sNever, sExpr, sAsg, sNew, sNewS, sPar, sPar3, sApp, sSetIx, sDPut, sPar3W, fnD0, fnD1, fnOwn, fIxDN, fInDN, fIxZ, fInZ, fLenZ, fListZ, fGetZ, fMaxL, fMinL, fVar, fC, fRaw, fNil, fCons, fTup, fLst, fOp, fTest, fChain, fAnd, fOr, fNot, fAndV, fOrV, fNotV, fIf, fIfT, fStill, still, fnLst, gNm, gTp, gsCons, gsNil, fCall, fCallO, fCallN, fIxN, fLenN, fSl, fPart, fNoPart, fNeg, fIsi, fIsi2, fLen, fAbs, fInt, fMax2, fMin2, fTupOf, fListOf, fSorted, fLstR, fAll, fAny, fIx, fIn, fEq, fIsN, fAdd, fMul, f2I, unD, slots0, settable_iff, npd, npn, npo, npf, npr, ownAt, owned, lentEnd, fiLst, fiTup, fiR1, fiR2, fiZip, fiZip3, fiKeysZ, fiItemsZ, fYes, wipeS]
        unfold g_ways_by_1
        simp [sSeq, sRet, sRetN, sRetW, sIf, sNext, sNever, sExpr, sAsg, sNew, sNewS, sPar, sPar3, sApp, sSetIx, sDPut, sPar3W, fnD0, fnD1, fnOwn, fIxDN, fInDN, fIxZ, fInZ, fLenZ, fListZ, fGetZ, fMaxL, fMinL, fVar, fC, fRaw, fNil, fCons, fTup, fLst, fOp, fTest, fChain, fAnd, fOr, fNot, fAndV, fOrV, fNotV, fIf, fIfT, fStill, still, fnLst, gNm, gTp, gsCons, gsNil, fCall, fCallO, fCallN, fIxN, fLenN, fSl, fPart, fNoPart, fNeg, fIsi, fIsi2, fLen, fAbs, fInt, fMax2, fMin2, fTupOf, fListOf, fSorted, fLstR, fAll, fAny, fIx, fIn, fEq, fIsN, fAdd, fMul, f2I, unD, slots0, settable_iff, npd, npn, npo, npf, npr, ownAt, owned, lentEnd, fiLst, fiTup, fiR1, fiR2, fiZip, fiZip3, fiKeysZ, fiItemsZ, fYes, wipeS]
        rw [hw2]
        exact h
    · exact h.elim
  · exact h.elim
theorem d__law_ways (ss : List S) (Q' : Ow → Prop) (h : fn__law_ways ss Q') : g__law_ways (EN Q') (slots0 8 ss) := d_ways_by ss Q' h
end Aq
/-! B11: count, extremes, run_to, first_warmth. -/
namespace Aq
open PySem PySem.Spec PyProof.Rows L2
def warmths (p : Pl) : List Int := (waysOf p).map fun e => e.1.w
def IsMin (ns : List Int) (m : Int) : Prop := m ∈ ns ∧ ∀ n ∈ ns, m ≤ n
def IsMax (ns : List Int) (m : Int) : Prop := m ∈ ns ∧ ∀ n ∈ ns, n ≤ m
theorem IsMin.eq {ns : List Int} {a b : Int} (h : IsMin ns a) (k : IsMin ns b) : a = b := by
  have := h.2 b k.1
  have := k.2 a h.1
  omega
theorem IsMax.eq {ns : List Int} {a b : Int} (h : IsMax ns a) (k : IsMax ns b) : a = b := by
  have := h.2 b k.1
  have := k.2 a h.1
  omega
def runD (r : List Int) : D := .tuple (r.map PyData.int)
def firstW (f : Fd) (t : Int) : D := match f.find? fun e => decide (e.1.w = t) with
  | some e => runD e.2
  | none => .none
def fn_extremes_by : Fn := fun ss Q => match ss with
  | [.d x] => (match planOf x with | some p => p.ok ∧ ∀ lo hi, IsMin (warmths p) lo → IsMax (warmths p) hi → Q (.d (.tuple [.int lo, .int hi])) | none => False)
  | _ => False
def fn_extremes : Fn := fn_extremes_by
def fn__law_extremes : Fn := fn_extremes_by
def fn_count_stands : Fn := fun ss Q => match ss with
  | [.d x] => (match planOf x with | some p => p.ok ∧ Q (.d (.int (waysOf p).length)) | none => False)
  | _ => False
def fn_run_to : Fn := fnPSc fun p s => (dGet (kvsF (waysOf p)) (skey s)).getD .none
def fn_look_at_warmth : Fn := fun ss Q => match ss with
  | [.d v] => isWithin v 0 15 = true ∧ Q (.d .none)
  | _ => False
def fn_first_warmth : Fn := fun ss Q => match ss with
  | [.d x, .d (.int t)] => (match planOf x with | some p => (p.ok ∧ 0 ≤ t ∧ t ≤ 15) ∧ Q (.d (firstW (waysOf p) t)) | none => False)
  | _ => False
theorem n_extremes_by : ∀ ss Q, fn_extremes_by ss Q → ss.length = 1 := by
  intro ss Q h
  unfold fn_extremes_by at h
  split at h
  · rfl
  · exact h.elim
theorem n_extremes : ∀ ss Q, fn_extremes ss Q → ss.length = 1 := n_extremes_by
theorem n__law_extremes : ∀ ss Q, fn__law_extremes ss Q → ss.length = 1 := n_extremes_by
theorem n_count_stands : ∀ ss Q, fn_count_stands ss Q → ss.length = 1 := by
  intro ss Q h
  unfold fn_count_stands at h
  split at h
  · rfl
  · exact h.elim
theorem n_run_to : ∀ ss Q, fn_run_to ss Q → ss.length = 2 := n_PSc
theorem n_look_at_warmth : ∀ ss Q, fn_look_at_warmth ss Q → ss.length = 1 := by
  intro ss Q h
  unfold fn_look_at_warmth at h
  split at h
  · rfl
  · exact h.elim
theorem n_first_warmth : ∀ ss Q, fn_first_warmth ss Q → ss.length = 2 := by
  intro ss Q h
  unfold fn_first_warmth at h
  split at h
  · rfl
  · exact h.elim
def g_extremes_by : FS := (sSeq (sNewS (fnLc (fiKeysZ (fStill (fCallN fn_ways_by (fCons (fVar 0) fNil)))) (gNm 2) fYes (fOp fIx (fVar 2) (fC (.int 0))) [2]) 1)
    (sRet (fTup (fCons (fCall fMinL (fCons (fVar 1) fNil)) (fCons (fCall fMaxL (fCons (fVar 1) fNil)) fNil)))))
def g_extremes : FS := (sSeq (sExpr (fCall fn_look_at_plan (fCons (fVar 0) fNil)))
    (sRet (fCall fn_extremes_by (fCons (fVar 0) fNil))))
def g_count_stands : FS := (sSeq (sExpr (fCall fn_look_at_plan (fCons (fVar 0) fNil)))
    (sRet (fCall fLenZ (fCons (fStill (fCallN fn_ways_by (fCons (fVar 0) fNil))) fNil))))
def g_run_to : FS := (sSeq (sExpr (fCall fn_look_at_plan (fCons (fVar 0) fNil)))
    (sSeq (sExpr (fCall fn_look_at_stand (fCons (fVar 0) (fCons (fVar 1) fNil))))
    (sRet (fGetZ (fStill (fCallN fn_ways_by (fCons (fVar 0) fNil))) (fVar 1)))))
def g_look_at_warmth : FS := (sIf (fNot (fTest (fCall fn_is_within (fCons (fVar 0) (fCons (fC (.int 0)) (fCons (fRaw (.d (.int 15))) fNil)))))) sNever sNext)
def g_first_warmth_1 : FS := (sIf (fTest (fOp (fEq false) (fOp fIx (fVar 2) (fC (.int 0))) (fVar 1))) (sRet (fVar 3)) sNext)
def g_first_warmth : FS := (sSeq (sExpr (fCall fn_look_at_plan (fCons (fVar 0) fNil)))
    (sSeq (sExpr (fCall fn_look_at_warmth (fCons (fVar 1) fNil)))
    (sSeq (sFor (fiItemsZ (fStill (fCallN fn_ways_by (fCons (fVar 0) fNil)))) (gTp 2 (gsCons (gNm 2) (gsCons (gNm 3) gsNil))) g_first_warmth_1)
    (sRet (fC .none)))))
def g__law_extremes : FS := (sSeq (sAsg (fStill (fCallN fSorted (fCons (fStill (fnLc (fiKeysZ (fStill (fCallN fn__law_ways (fCons (fVar 0) fNil)))) (gNm 2) fYes (fOp fIx (fVar 2) (fC (.int 0))) [2])) fNil))) (gNm 1))
    (sRet (fTup (fCons (fOp fIx (fVar 1) (fC (.int 0))) (fCons (fOp fIx (fVar 1) (fNeg (fC (.int 1)))) fNil)))))
theorem waysGo_good {p : Pl} (ok : p.ok) : ∀ (m i : Nat) (f : Fd), GoodF p f → GoodF p (waysGo p m i f)
  | 0, _, _, g => g
  | m + 1, i, f, g => by
    unfold waysGo
    split
    · rename_i s run h
      exact waysGo_good ok m (i + 1) _ (expand_good ok g h)
    · exact g
theorem ways_good {p : Pl} (ok : p.ok) : GoodF p (waysOf p) := waysGo_good ok _ _ _ (good0 ok)
theorem waysGo_pos {p : Pl} : ∀ (m i : Nat) (f : Fd), 0 < f.length → 0 < (waysGo p m i f).length
  | 0, _, _, h => h
  | m + 1, i, f, h => by
    unfold waysGo
    split
    · rename_i s run e
      refine waysGo_pos m (i + 1) _ ?_
      obtain ⟨g, eg⟩ := foldC_pre (p := p) (s := s) (run := run) (changesI p) f
      unfold expand
      rw [eg, List.length_append]
      omega
    · exact h
theorem ways_pos (p : Pl) : 0 < (waysOf p).length := waysGo_pos _ _ _ (by simp)
theorem ways_len {p : Pl} (ok : p.ok) : (waysOf p).length ≤ 262144 := (ways_good ok).len ok
theorem d_count_stands (ss : List S) (Q' : S → Prop) (h : fn_count_stands ss Q') : g_count_stands (EF Q') (slots0 1 ss) := by
  unfold fn_count_stands at h
  split at h
  · split at h
    · rename_i p e
      rw [planOf_some e]
      have kl : (kvsF (waysOf p)).length = (waysOf p).length := by simp [kvsF]
      simp [g_count_stands, fn_look_at_plan, fn_ways_by, planOf_d, isPlan_d.mpr h.1, h.1, kl, sSeq, sRet, sRetN, sRetW, sIf, sNext, sNever, sExpr, sAsg, sNew, sNewS, sPar, sPar3, sApp, sSetIx, sDPut, sPar3W, fnD0, fnD1, fnOwn, fIxDN, fInDN, fIxZ, fInZ, fLenZ, fListZ, fGetZ, fMaxL, fMinL, fVar, fC, fRaw, fNil, fCons, fTup, fLst, fOp, fTest, fChain, fAnd, fOr, fNot, fAndV, fOrV, fNotV, fIf, fIfT, fStill, still, fnLst, gNm, gTp, gsCons, gsNil, fCall, fCallO, fCallN, fIxN, fLenN, fSl, fPart, fNoPart, fNeg, fIsi, fIsi2, fLen, fAbs, fInt, fMax2, fMin2, fTupOf, fListOf, fSorted, fLstR, fAll, fAny, fIx, fIn, fEq, fIsN, fAdd, fMul, f2I, unD, slots0, settable, ownAt, owned, lentEnd, fiLst, fiTup, fiR1, fiR2, fiZip, fiZip3, fiKeysZ, fiItemsZ, fYes, wipeS]
      exact h.2
    · exact h.elim
  · exact h.elim
theorem d_run_to (ss : List S) (Q' : S → Prop) (h : fn_run_to ss Q') : g_run_to (EF Q') (slots0 2 ss) := by
  obtain ⟨p, s, rfl, ok, hf, h⟩ := fnPSc_some h
  simp [g_run_to, fn_look_at_plan, fn_look_at_stand, fn_ways_by, planOf_d, isPlan_d.mpr ok, ok, fits_ok hf, keyD_stn, sSeq, sRet, sRetN, sRetW, sIf, sNext, sNever, sExpr, sAsg, sNew, sNewS, sPar, sPar3, sApp, sSetIx, sDPut, sPar3W, fnD0, fnD1, fnOwn, fIxDN, fInDN, fIxZ, fInZ, fLenZ, fListZ, fGetZ, fMaxL, fMinL, fVar, fC, fRaw, fNil, fCons, fTup, fLst, fOp, fTest, fChain, fAnd, fOr, fNot, fAndV, fOrV, fNotV, fIf, fIfT, fStill, still, fnLst, gNm, gTp, gsCons, gsNil, fCall, fCallO, fCallN, fIxN, fLenN, fSl, fPart, fNoPart, fNeg, fIsi, fIsi2, fLen, fAbs, fInt, fMax2, fMin2, fTupOf, fListOf, fSorted, fLstR, fAll, fAny, fIx, fIn, fEq, fIsN, fAdd, fMul, f2I, unD, slots0, settable, ownAt, owned, lentEnd, fiLst, fiTup, fiR1, fiR2, fiZip, fiZip3, fiKeysZ, fiItemsZ, fYes, wipeS]
  exact h
theorem d_look_at_warmth (ss : List S) (Q' : S → Prop) (h : fn_look_at_warmth ss Q') : g_look_at_warmth (EF Q') (slots0 1 ss) := by
  unfold fn_look_at_warmth at h
  split at h
  · simp [g_look_at_warmth, fn_is_within, h.1, sSeq, sRet, sRetN, sRetW, sIf, sNext, sNever, sExpr, sAsg, sNew, sNewS, sPar, sPar3, sApp, sSetIx, sDPut, sPar3W, fnD0, fnD1, fnOwn, fIxDN, fInDN, fIxZ, fInZ, fLenZ, fListZ, fGetZ, fMaxL, fMinL, fVar, fC, fRaw, fNil, fCons, fTup, fLst, fOp, fTest, fChain, fAnd, fOr, fNot, fAndV, fOrV, fNotV, fIf, fIfT, fStill, still, fnLst, gNm, gTp, gsCons, gsNil, fCall, fCallO, fCallN, fIxN, fLenN, fSl, fPart, fNoPart, fNeg, fIsi, fIsi2, fLen, fAbs, fInt, fMax2, fMin2, fTupOf, fListOf, fSorted, fLstR, fAll, fAny, fIx, fIn, fEq, fIsN, fAdd, fMul, f2I, unD, slots0, settable, ownAt, owned, lentEnd, fiLst, fiTup, fiR1, fiR2, fiZip, fiZip3, fiKeysZ, fiItemsZ, fYes, wipeS]
    exact h.2
  · exact h.elim
theorem d_extremes (ss : List S) (Q' : S → Prop) (h : fn_extremes ss Q') : g_extremes (EF Q') (slots0 1 ss) := by
  unfold fn_extremes fn_extremes_by at h
  split at h
  · split at h
    · rename_i p e
      rw [planOf_some e]
      simp [g_extremes, fn_look_at_plan, fn_extremes_by, planOf_d, isPlan_d.mpr h.1, h.1, sSeq, sRet, sRetN, sRetW, sIf, sNext, sNever, sExpr, sAsg, sNew, sNewS, sPar, sPar3, sApp, sSetIx, sDPut, sPar3W, fnD0, fnD1, fnOwn, fIxDN, fInDN, fIxZ, fInZ, fLenZ, fListZ, fGetZ, fMaxL, fMinL, fVar, fC, fRaw, fNil, fCons, fTup, fLst, fOp, fTest, fChain, fAnd, fOr, fNot, fAndV, fOrV, fNotV, fIf, fIfT, fStill, still, fnLst, gNm, gTp, gsCons, gsNil, fCall, fCallO, fCallN, fIxN, fLenN, fSl, fPart, fNoPart, fNeg, fIsi, fIsi2, fLen, fAbs, fInt, fMax2, fMin2, fTupOf, fListOf, fSorted, fLstR, fAll, fAny, fIx, fIn, fEq, fIsN, fAdd, fMul, f2I, unD, slots0, settable, ownAt, owned, lentEnd, fiLst, fiTup, fiR1, fiR2, fiZip, fiZip3, fiKeysZ, fiItemsZ, fYes, wipeS]
      exact h.2
    · exact h.elim
  · exact h.elim
/-- the first place of a tuple -/
def fst0 : D → D
  | .tuple (w :: _) => w
  | _ => .none
theorem fst_keys (f : Fd) : ((kvsF f).map (·.1)).map fst0 = (f.map fun e => e.1.w).map PyData.int := by
  unfold kvsF
  rw [List.map_map, List.map_map, List.map_map]
  rfl
theorem key_mem {f : Fd} {x : D} (h : x ∈ (kvsF f).map (·.1)) : ∃ s : Stn, x = s.d := by
  unfold kvsF at h
  rw [List.map_map] at h
  obtain ⟨e, _, rfl⟩ := List.mem_map.mp h
  exact ⟨e.1, rfl⟩
theorem d_extremes_by (ss : List S) (Q' : S → Prop) (h : fn_extremes_by ss Q') : g_extremes_by (EF Q') (slots0 3 ss) := by
  unfold fn_extremes_by at h
  split at h
  · split at h
    · rename_i p e
      rw [planOf_some e]
      obtain ⟨ok, h⟩ := h
      have hl := ways_len ok
      have hp := ways_pos p
      simp [g_extremes_by, fn_ways_by, planOf_d, ok, fnLc, sSeq, sRet, sRetN, sRetW, sIf, sNext, sNever, sExpr, sAsg, sNew, sNewS, sPar, sPar3, sApp, sSetIx, sDPut, sPar3W, fnD0, fnD1, fnOwn, fIxDN, fInDN, fIxZ, fInZ, fLenZ, fListZ, fGetZ, fMaxL, fMinL, fVar, fC, fRaw, fNil, fCons, fTup, fLst, fOp, fTest, fChain, fAnd, fOr, fNot, fAndV, fOrV, fNotV, fIf, fIfT, fStill, still, fnLst, gNm, gTp, gsCons, gsNil, fCall, fCallO, fCallN, fIxN, fLenN, fSl, fPart, fNoPart, fNeg, fIsi, fIsi2, fLen, fAbs, fInt, fMax2, fMin2, fTupOf, fListOf, fSorted, fLstR, fAll, fAny, fIx, fIn, fEq, fIsN, fAdd, fMul, f2I, unD, slots0, settable, ownAt, owned, lentEnd, fiLst, fiTup, fiR1, fiR2, fiZip, fiZip3, fiKeysZ, fiItemsZ, fYes, wipeS]
      refine lc_map (i := 2) (ρ := [.d p.d, .no, .no]) (p := fst0) rfl ((kvsF (waysOf p)).map (·.1)) [] (by rw [sizeLine_eq]; simp [kvsF]; omega) (fun x hx Q2 h2 => ?_) ?_
      · obtain ⟨s, rfl⟩ := key_mem hx
        simp [Stn.d, at0, sSeq, sRet, sRetN, sRetW, sIf, sNext, sNever, sExpr, sAsg, sNew, sNewS, sPar, sPar3, sApp, sSetIx, sDPut, sPar3W, fnD0, fnD1, fnOwn, fIxDN, fInDN, fIxZ, fInZ, fLenZ, fListZ, fGetZ, fMaxL, fMinL, fVar, fC, fRaw, fNil, fCons, fTup, fLst, fOp, fTest, fChain, fAnd, fOr, fNot, fAndV, fOrV, fNotV, fIf, fIfT, fStill, still, fnLst, gNm, gTp, gsCons, gsNil, fCall, fCallO, fCallN, fIxN, fLenN, fSl, fPart, fNoPart, fNeg, fIsi, fIsi2, fLen, fAbs, fInt, fMax2, fMin2, fTupOf, fListOf, fSorted, fLstR, fAll, fAny, fIx, fIn, fEq, fIsN, fAdd, fMul, f2I, unD, slots0, settable, ownAt, owned, lentEnd, fiLst, fiTup, fiR1, fiR2, fiZip, fiZip3, fiKeysZ, fiItemsZ, fYes, wipeS]
        exact h2
      · have e0 : ((waysOf p).map fun e => e.1.w) = warmths p := rfl
        have wl : 0 < (warmths p).length := by simp [warmths]; exact hp
        rw [List.nil_append, fst_keys, e0]
        simp [intsD_map, sizeLine_eq, sSeq, sRet, sRetN, sRetW, sIf, sNext, sNever, sExpr, sAsg, sNew, sNewS, sPar, sPar3, sApp, sSetIx, sDPut, sPar3W, fnD0, fnD1, fnOwn, fIxDN, fInDN, fIxZ, fInZ, fLenZ, fListZ, fGetZ, fMaxL, fMinL, fVar, fC, fRaw, fNil, fCons, fTup, fLst, fOp, fTest, fChain, fAnd, fOr, fNot, fAndV, fOrV, fNotV, fIf, fIfT, fStill, still, fnLst, gNm, gTp, gsCons, gsNil, fCall, fCallO, fCallN, fIxN, fLenN, fSl, fPart, fNoPart, fNeg, fIsi, fIsi2, fLen, fAbs, fInt, fMax2, fMin2, fTupOf, fListOf, fSorted, fLstR, fAll, fAny, fIx, fIn, fEq, fIsN, fAdd, fMul, f2I, unD, slots0, settable, ownAt, owned, lentEnd, fiLst, fiTup, fiR1, fiR2, fiZip, fiZip3, fiKeysZ, fiItemsZ, fYes, wipeS]
        exact ⟨wl, fun lo l1 l2 => ⟨wl, fun hi h1 h2 => h lo hi ⟨l1, l2⟩ ⟨h1, h2⟩⟩⟩
    · exact h.elim
  · exact h.elim
theorem isort_min {ns : List Int} (h : 0 < ns.length) : ∃ m, atI ((isort ns).map PyData.int) 0 = some (.int m) ∧ IsMin ns m := by
  have hp := isort_perm ns
  have hs := isort_sorted ns
  cases e : isort ns with
  | nil => rw [e] at hp; have := hp.length_eq; simp at this; omega
  | cons m r =>
    rw [e] at hp hs
    refine ⟨m, by rw [List.map_cons]; exact at0, hp.mem_iff.mp List.mem_cons_self, fun n hn => ?_⟩
    rcases List.mem_cons.mp (hp.mem_iff.mpr hn) with rfl | q
    · omega
    · exact (List.pairwise_cons.mp hs).1 n q
theorem isort_max {ns : List Int} (h : 0 < ns.length) : ∃ m, atI ((isort ns).map PyData.int) (-1) = some (.int m) ∧ IsMax ns m := by
  have hp := isort_perm ns
  have hs := isort_sorted ns
  rcases List.eq_nil_or_concat (isort ns) with e | ⟨r, m, e⟩
  · rw [e] at hp; have := hp.length_eq; simp at this; omega
  · rw [List.concat_eq_append] at e
    rw [e] at hp hs ⊢
    have e1 : (r ++ [m]).map PyData.int = r.map PyData.int ++ [PyData.int m] := by simp
    refine ⟨m, by rw [e1]; exact atI_last _ _, hp.mem_iff.mp (by simp), fun n hn => ?_⟩
    rcases List.mem_append.mp (hp.mem_iff.mpr hn) with q | q
    · exact (List.pairwise_append.mp hs).2.2 n q m (by simp)
    · rw [List.mem_singleton.mp q]; omega
theorem d__law_extremes (ss : List S) (Q' : S → Prop) (h : fn__law_extremes ss Q') : g__law_extremes (EF Q') (slots0 3 ss) := by
  unfold fn__law_extremes fn_extremes_by at h
  split at h
  · split at h
    · rename_i p e
      rw [planOf_some e]
      obtain ⟨ok, h⟩ := h
      have hl := ways_len ok
      have hp := ways_pos p
      simp [g__law_extremes, fn__law_ways, fn_ways_by, planOf_d, ok, fnLc, sSeq, sRet, sRetN, sRetW, sIf, sNext, sNever, sExpr, sAsg, sNew, sNewS, sPar, sPar3, sApp, sSetIx, sDPut, sPar3W, fnD0, fnD1, fnOwn, fIxDN, fInDN, fIxZ, fInZ, fLenZ, fListZ, fGetZ, fMaxL, fMinL, fVar, fC, fRaw, fNil, fCons, fTup, fLst, fOp, fTest, fChain, fAnd, fOr, fNot, fAndV, fOrV, fNotV, fIf, fIfT, fStill, still, fnLst, gNm, gTp, gsCons, gsNil, fCall, fCallO, fCallN, fIxN, fLenN, fSl, fPart, fNoPart, fNeg, fIsi, fIsi2, fLen, fAbs, fInt, fMax2, fMin2, fTupOf, fListOf, fSorted, fLstR, fAll, fAny, fIx, fIn, fEq, fIsN, fAdd, fMul, f2I, unD, slots0, settable, ownAt, owned, lentEnd, fiLst, fiTup, fiR1, fiR2, fiZip, fiZip3, fiKeysZ, fiItemsZ, fYes, wipeS]
      refine lc_map (i := 2) (ρ := [.d p.d, .no, .no]) (p := fst0) rfl ((kvsF (waysOf p)).map (·.1)) [] (by rw [sizeLine_eq]; simp [kvsF]; omega) (fun x hx Q2 h2 => ?_) ?_
      · obtain ⟨s, rfl⟩ := key_mem hx
        simp [Stn.d, at0, sSeq, sRet, sRetN, sRetW, sIf, sNext, sNever, sExpr, sAsg, sNew, sNewS, sPar, sPar3, sApp, sSetIx, sDPut, sPar3W, fnD0, fnD1, fnOwn, fIxDN, fInDN, fIxZ, fInZ, fLenZ, fListZ, fGetZ, fMaxL, fMinL, fVar, fC, fRaw, fNil, fCons, fTup, fLst, fOp, fTest, fChain, fAnd, fOr, fNot, fAndV, fOrV, fNotV, fIf, fIfT, fStill, still, fnLst, gNm, gTp, gsCons, gsNil, fCall, fCallO, fCallN, fIxN, fLenN, fSl, fPart, fNoPart, fNeg, fIsi, fIsi2, fLen, fAbs, fInt, fMax2, fMin2, fTupOf, fListOf, fSorted, fLstR, fAll, fAny, fIx, fIn, fEq, fIsN, fAdd, fMul, f2I, unD, slots0, settable, ownAt, owned, lentEnd, fiLst, fiTup, fiR1, fiR2, fiZip, fiZip3, fiKeysZ, fiItemsZ, fYes, wipeS]
        exact h2
      · have e0 : ((waysOf p).map fun e => e.1.w) = warmths p := rfl
        have wl : 0 < (warmths p).length := by simp [warmths]; exact hp
        obtain ⟨lo, a1, a2⟩ := isort_min wl
        obtain ⟨hi, b1, b2⟩ := isort_max wl
        rw [List.nil_append, fst_keys, e0]
        simp [intsD_map, a1, b1, sizeLine_eq, sSeq, sRet, sRetN, sRetW, sIf, sNext, sNever, sExpr, sAsg, sNew, sNewS, sPar, sPar3, sApp, sSetIx, sDPut, sPar3W, fnD0, fnD1, fnOwn, fIxDN, fInDN, fIxZ, fInZ, fLenZ, fListZ, fGetZ, fMaxL, fMinL, fVar, fC, fRaw, fNil, fCons, fTup, fLst, fOp, fTest, fChain, fAnd, fOr, fNot, fAndV, fOrV, fNotV, fIf, fIfT, fStill, still, fnLst, gNm, gTp, gsCons, gsNil, fCall, fCallO, fCallN, fIxN, fLenN, fSl, fPart, fNoPart, fNeg, fIsi, fIsi2, fLen, fAbs, fInt, fMax2, fMin2, fTupOf, fListOf, fSorted, fLstR, fAll, fAny, fIx, fIn, fEq, fIsN, fAdd, fMul, f2I, unD, slots0, settable, ownAt, owned, lentEnd, fiLst, fiTup, fiR1, fiR2, fiZip, fiZip3, fiKeysZ, fiItemsZ, fYes, wipeS]
        exact h lo hi a2 b2
    · exact h.elim
  · exact h.elim
theorem fw_step {E : DEnds} {v0 s2 s3 : S} {t : Int} (s : Stn) (r : D) (n2 : np s2) (n3 : np s3) (h : if s.w = t then E.rt (.d r) [v0, .d (.int t), .d s.d, .d r] else E.nx [v0, .d (.int t), .d s.d, .d r]) :
    gTp 2 (gsCons (gNm 2) (gsCons (gNm 3) gsNil)) (.d (.tuple [s.d, r])) [v0, .d (.int t), s2, s3] fun ρ2 => g_first_warmth_1 E ρ2 := by
  obtain ⟨a, b, c, e⟩ : ∃ a b c, s.d = .tuple [.int s.w, a, b, c] := ⟨_, _, _, rfl⟩
  unfold g_first_warmth_1
  rw [e] at h ⊢
  by_cases q : s.w = t
  · simp [q] at h
    simp [n2, n3, at0, shaped_int, PyData.eqv, q, sSeq, sRet, sRetN, sRetW, sIf, sNext, sNever, sExpr, sAsg, sNew, sNewS, sPar, sPar3, sApp, sSetIx, sDPut, sPar3W, fnD0, fnD1, fnOwn, fIxDN, fInDN, fIxZ, fInZ, fLenZ, fListZ, fGetZ, fMaxL, fMinL, fVar, fC, fRaw, fNil, fCons, fTup, fLst, fOp, fTest, fChain, fAnd, fOr, fNot, fAndV, fOrV, fNotV, fIf, fIfT, fStill, still, fnLst, gNm, gTp, gsCons, gsNil, fCall, fCallO, fCallN, fIxN, fLenN, fSl, fPart, fNoPart, fNeg, fIsi, fIsi2, fLen, fAbs, fInt, fMax2, fMin2, fTupOf, fListOf, fSorted, fLstR, fAll, fAny, fIx, fIn, fEq, fIsN, fAdd, fMul, f2I, unD, slots0, settable_iff, npd, npn, npo, npf, npr, ownAt, owned, lentEnd, fiLst, fiTup, fiR1, fiR2, fiZip, fiZip3, fiKeysZ, fiItemsZ, fYes, wipeS]
    exact h
  · simp [q] at h
    simp [n2, n3, at0, shaped_int, PyData.eqv, q, sSeq, sRet, sRetN, sRetW, sIf, sNext, sNever, sExpr, sAsg, sNew, sNewS, sPar, sPar3, sApp, sSetIx, sDPut, sPar3W, fnD0, fnD1, fnOwn, fIxDN, fInDN, fIxZ, fInZ, fLenZ, fListZ, fGetZ, fMaxL, fMinL, fVar, fC, fRaw, fNil, fCons, fTup, fLst, fOp, fTest, fChain, fAnd, fOr, fNot, fAndV, fOrV, fNotV, fIf, fIfT, fStill, still, fnLst, gNm, gTp, gsCons, gsNil, fCall, fCallO, fCallN, fIxN, fLenN, fSl, fPart, fNoPart, fNeg, fIsi, fIsi2, fLen, fAbs, fInt, fMax2, fMin2, fTupOf, fListOf, fSorted, fLstR, fAll, fAny, fIx, fIn, fEq, fIsN, fAdd, fMul, f2I, unD, slots0, settable_iff, npd, npn, npo, npf, npr, ownAt, owned, lentEnd, fiLst, fiTup, fiR1, fiR2, fiZip, fiZip3, fiKeysZ, fiItemsZ, fYes, wipeS]
    exact h
theorem d_first_warmth (ss : List S) (Q' : S → Prop) (h : fn_first_warmth ss Q') : g_first_warmth (EF Q') (slots0 4 ss) := by
  unfold fn_first_warmth at h
  split at h
  · rename_i x t
    split at h
    · rename_i p e
      rw [planOf_some e]
      obtain ⟨⟨ok, t0, t1⟩, h⟩ := h
      have ht : isWithin (.int t) 0 15 = true := by simp [isWithin, t0, t1]
      unfold firstW at h
      simp [g_first_warmth, fn_look_at_plan, fn_look_at_warmth, planOf_d, isPlan_d.mpr ok, ht, sSeq, sRet, sRetN, sRetW, sIf, sNext, sNever, sExpr, sAsg, sNew, sNewS, sPar, sPar3, sApp, sSetIx, sDPut, sPar3W, fnD0, fnD1, fnOwn, fIxDN, fInDN, fIxZ, fInZ, fLenZ, fListZ, fGetZ, fMaxL, fMinL, fVar, fC, fRaw, fNil, fCons, fTup, fLst, fOp, fTest, fChain, fAnd, fOr, fNot, fAndV, fOrV, fNotV, fIf, fIfT, fStill, still, fnLst, gNm, gTp, gsCons, gsNil, fCall, fCallO, fCallN, fIxN, fLenN, fSl, fPart, fNoPart, fNeg, fIsi, fIsi2, fLen, fAbs, fInt, fMax2, fMin2, fTupOf, fListOf, fSorted, fLstR, fAll, fAny, fIx, fIn, fEq, fIsN, fAdd, fMul, f2I, unD, slots0, settable, ownAt, owned, lentEnd, fiLst, fiTup, fiR1, fiR2, fiZip, fiZip3, fiKeysZ, fiItemsZ, fYes, wipeS]
      rw [sFor_eq]
      simp [fn_ways_by, planOf_d, ok, sSeq, sRet, sRetN, sRetW, sIf, sNext, sNever, sExpr, sAsg, sNew, sNewS, sPar, sPar3, sApp, sSetIx, sDPut, sPar3W, fnD0, fnD1, fnOwn, fIxDN, fInDN, fIxZ, fInZ, fLenZ, fListZ, fGetZ, fMaxL, fMinL, fVar, fC, fRaw, fNil, fCons, fTup, fLst, fOp, fTest, fChain, fAnd, fOr, fNot, fAndV, fOrV, fNotV, fIf, fIfT, fStill, still, fnLst, gNm, gTp, gsCons, gsNil, fCall, fCallO, fCallN, fIxN, fLenN, fSl, fPart, fNoPart, fNeg, fIsi, fIsi2, fLen, fAbs, fInt, fMax2, fMin2, fTupOf, fListOf, fSorted, fLstR, fAll, fAny, fIx, fIn, fEq, fIsN, fAdd, fMul, f2I, unD, slots0, settable, ownAt, owned, lentEnd, fiLst, fiTup, fiR1, fiR2, fiZip, fiZip3, fiKeysZ, fiItemsZ, fYes, wipeS]
      refine sForB_go ?_
      have go : ∀ (f : Fd) (s2 s3 : S), np s2 → np s3 → Q' (.d (match f.find? fun e => decide (e.1.w = t) with
          | some e => runD e.2
          | none => .none)) → forGo (gTp 2 (gsCons (gNm 2) (gsCons (gNm 3) gsNil))) g_first_warmth_1 { nx := sRet (fC .none) (EF Q'), rt := (EF Q').rt } ((kvsF f).map fun p => PyData.tuple [p.1, p.2]) [.d p.d, .d (.int t), s2, s3] := fun f => by
        induction f with
        | nil =>
          intro s2 s3 n2 n3 h
          unfold kvsF List.map forGo
          simp [sSeq, sRet, sRetN, sRetW, sIf, sNext, sNever, sExpr, sAsg, sNew, sNewS, sPar, sPar3, sApp, sSetIx, sDPut, sPar3W, fnD0, fnD1, fnOwn, fIxDN, fInDN, fIxZ, fInZ, fLenZ, fListZ, fGetZ, fMaxL, fMinL, fVar, fC, fRaw, fNil, fCons, fTup, fLst, fOp, fTest, fChain, fAnd, fOr, fNot, fAndV, fOrV, fNotV, fIf, fIfT, fStill, still, fnLst, gNm, gTp, gsCons, gsNil, fCall, fCallO, fCallN, fIxN, fLenN, fSl, fPart, fNoPart, fNeg, fIsi, fIsi2, fLen, fAbs, fInt, fMax2, fMin2, fTupOf, fListOf, fSorted, fLstR, fAll, fAny, fIx, fIn, fEq, fIsN, fAdd, fMul, f2I, unD, slots0, settable, ownAt, owned, lentEnd, fiLst, fiTup, fiR1, fiR2, fiZip, fiZip3, fiKeysZ, fiItemsZ, fYes, wipeS]
          exact h
        | cons e f ih =>
          intro s2 s3 n2 n3 h
          unfold kvsF at ih ⊢
          rw [List.map_cons, List.map_cons]
          unfold forGo
          rw [List.find?_cons] at h
          refine fw_step e.1 _ n2 n3 ?_
          by_cases q : e.1.w = t
          · rw [if_pos q]
            simp only [q, decide_true] at h
            exact h
          · rw [if_neg q]
            simp only [q, decide_false] at h
            exact ih _ _ (npD _) (npD _) h
      exact go (waysOf p) .no .no trivial trivial h
    · exact h.elim
  · exact h.elim
end Aq
/-! A15: dict comprehensions with nested tuple keys. -/
namespace Aq
open PySem PySem.Spec PyProof.Rows L2
/-- a store by a comprehension -/
theorem dset_dct {X : Cx} [Tb X.mg] {pins : List (Addr × Obj)} {σ : L2.St} {H : Hp} {s : Shared} {E : Value → Shared → Prop} {D : Addr} {y z : V} {u r : Value} {N : Hp → Prop} {Q : Unit → Shared → Prop} (hu : X.A.units + 64 < cLine) (I : Inv X pins σ H s) (ry : RelV y u) (rz : RelV z r)
    (h : rSetDc (wd X) (.ref D) y z H N) (k : ∀ H' s', Inv X pins σ H' s' → N H' → Q () s') : wpAny (model X.prog X.w) X.A (dictSet D u r) Q E s := by
  obtain ⟨F, a, b, ob, xs, kvs, kd, kk, dv, ea, rfl, sF, hH, hd, hD, hp, hl, hk, ek, hv, q⟩ := h
  cases ea
  cases ry
  have hdep : ∀ x ∈ xs, x.1.depth ≤ 8 := let ⟨_, _, _, _, _, _, h7⟩ := hD
    h7
  have hm : s.heap.DictOfH (nestedKind X.prog X.w) D xs := by
    obtain ⟨es, ep, h3, h4, h5, h6, h7⟩ := id hD
    exact ⟨ob, es, ep, DAt.obj I hH, h3, h4, h5, ens_is I (EnOk.up sF hp) h7, h6⟩
  have el := Paired.length hp
  refine wpAny_dictSet_heap (hsz := by rw [← el]; omega) (show X.A.units + 8 < cLine by omega) (key_is I (Dp.mono sF _ _ hk) ek) hm fun h' dd' hs => ?_
  obtain ⟨o', es', ep', ho, hx, hdt, htl, _, hn⟩ := dd'
  have D' : DOb (wd X) o' (storedH xs kk b r) := ⟨es', ep', hx, hdt, htl, hn, stored_depth hdep (keyD_some ek).2.2⟩
  have hsz := dPut_length kvs kd dv
  exact k _ _ (d_write I (by rw [hH]; exact True.intro) hs ⟨_, ho⟩ (exO_ok ho)) (q o' ⟨o', _, rfl, hd, D', put_ok (keyD_of ek) hk hv rz hp, by omega⟩)
abbrev RS := V → V → V → Hp → (Hp → Prop) → Prop
/-- a store that rs tells of -/
def RsOk (X : Cx) (rs : RS) : Prop := ∀ {pins : List (Addr × Obj)} {σ : L2.St} {H : Hp} {s : Shared} {E : Value → Shared → Prop} {D : Addr} {y z : V} {u r : Value} {N : Hp → Prop} {Q : Unit → Shared → Prop}, Inv X pins σ H s → RelV y u → RelV z r →
  rs (.ref D) y z H N → (∀ H' s', Inv X pins σ H' s' → N H' → Q () s') → wpAny (model X.prog X.w) X.A (dictSet D u r) Q E s
theorem rsOk_dct {X : Cx} [Tb X.mg] (hu : X.A.units + 64 < cLine) : RsOk X (rSetDc (wd X)) := fun I ry rz h k => dset_dct hu I ry rz h k
/-- what the walk and its turns ask: B says how far it is -/
def tDcD (rs : RS) (wi : TI) (g : TG) (tt : TT) (tk tv : TE) (vs : List Nat) : TE := fun σ H Q => wi σ H fun J H1 => ∀ D, H1 D = none → (D == sysModules) = false → ∃ B : Nat → Nat → Hp → Prop, (∃ m, B 0 m (upd H1 D (exO D ob0))) ∧ ∀ i m H, B i m H →
  (J.stop i H ∧ Q (.ref D) H) ∨ (J.go i H ∧ ∃ N : Hp → Prop, (∀ H', N H' → ∃ m', m' < m ∧ B (i + 1) m' H') ∧ ∀ x H', J.yld i H x H' → g x (wipe σ vs) H' fun σ2 H2 => wipe σ2 vs = wipe σ vs ∧ tt σ2 H2 fun b H3 =>
    if b = true then tk σ2 H3 fun y H4 => tv σ2 H4 fun z H5 => rs (.ref D) y z H5 N else N H3)
section
variable {X : Cx} [Tb X.mg]
variable {pins : List (Addr × Obj)} {s : Shared} {σ : L2.St} {H : Hp} {Q : VK} {kx vx tg iter : Expr} {ifs : List Expr} {scope : Scope} {own : List (Str × Nat)} {pos : Pos} {wi : TI} {g : TG} {tt : TT} {tk tv : TE}
/-- in the block's context: the turns up to the end -/
theorem dc_loop {rs : RS} {ce : Env} {fp : List Addr} {s3 s4 : Shared} {H3 : Hp} (hrs : RsOk (X.blk s3 H3 scope ce fp) rs) {it D : Addr} {tn : Nat → Heap → Prop} {J : It} {B : Nat → Nat → Hp → Prop} {QD : Hp → Prop} {R : Result → Shared → Prop} {τ : L2.St} {m0 : Nat} (hc : X.calm = true) (T : Turn X.prog X.w X.K tg J fp it tn)
    (pg : PG (X.blk s3 H3 scope ce fp) tg g) (pt : PTs (X.blk s3 H3 scope ce fp) ifs tt) (pk : PE (X.blk s3 H3 scope ce fp) kx tk) (pe : PE (X.blk s3 H3 scope ce fp) vx tv)
    (hτ : τ = wipe τ (own.map (·.2)))
    (I4 : Inv (X.blk s3 H3 scope ce fp) [] τ H3 s4) (st4 : tn 0 s4.heap) (nfp : ∀ b ∈ fp, H3 b = none) (w0 : B 0 m0 H3)
    (turn : ∀ i m H, B i m H → (J.stop i H ∧ QD H) ∨ (J.go i H ∧ ∃ N : Hp → Prop, (∀ H', N H' → ∃ m', m' < m ∧ B (i + 1) m' H') ∧ ∀ x H', J.yld i H x H' → g x τ H' fun σ2 H2 => wipe σ2 (own.map (·.2)) = τ ∧ tt σ2 H2 fun b H3 =>
      if b = true then tk σ2 H3 fun y H4 => tv σ2 H4 fun z H5 => rs (.ref D) y z H5 N else N H3))
    (fin : ∀ (H' : Hp) (s' : Shared), Inv (X.blk s3 H3 scope ce fp) [] τ H' s' → QD H' → R (.ok .next) s') :
    codeAny (model X.prog X.w) X.A (.compLoop (.DictComp kx vx [⟨tg, iter, ifs, 0⟩] scope pos) 0 (.ref it) (.ref D) ce) R s4 := by
  have still_ : ∀ {H' : Hp} {s' : Shared}, Inv (X.blk s3 H3 scope ce fp) [] τ H' s' → (∀ b ∈ fp, H' b = none) → ∀ b ∈ fp, FpOk (X.blk s3 H3 scope ce fp) [] H' b := fun I' hn b hb =>
    ⟨hn b hb, (I'.ok.exf b hb).1, I'.ok.exfs b hb, .inl hb, fun x c e => (I'.ok.exf b hb).2 x c e, fun p hp => by simp [Cx.blk] at hp⟩
  refine compLoop_anyD (fun n s' => ∃ i H', Inv (X.blk s3 H3 scope ce fp) [] τ H' s' ∧ tn i s'.heap ∧ (∀ b ∈ fp, H' b = none) ∧ B i n H') ?_ m0 ⟨0, H3, I4, st4, nfp, w0⟩
  rintro n s5 ⟨i, H5, I5, st5, n5, b5⟩
  rcases turn i n H5 b5 with ⟨hstop, hQ⟩ | ⟨hgo, N, hN, step⟩
  · refine thnF (T.done (X.blk s3 H3 scope ce fp) rfl rfl rfl hc i [] s5 _ H5 (fun _ _ => False) I5 (still_ I5 n5) st5 hstop) fun r s6 hr => ?_
    obtain ⟨rfl, I6⟩ := hr
    exact fin H5 s6 I6 hQ
  · refine thnF (T.item (X.blk s3 H3 scope ce fp) rfl rfl rfl hc i [] s5 _ H5 (fun _ _ => False) I5 (still_ I5 n5) st5 hgo) fun r s6 hr => ?_
    obtain ⟨u, rfl, h6⟩ := hr
    refine thnF h6 fun _ s7 h7 => ?_
    obtain ⟨x, H7, I7, r7, y7, st7, n7⟩ := h7
    refine thnF (pg.run _ s7 _ H7 x u _ (I7.pinned (still_ I7 n7) (T.obj _ _ st7)) r7 (step x H7 y7)) fun _ s8 h8 => ?_
    obtain ⟨σ8, H8, I8, hw, q8⟩ := h8
    refine thnF (pt.run _ s8 σ8 H8 _ I8 q8) fun b s9 h9 => ?_
    obtain ⟨H9, I9, q9⟩ := h9
    have next : ∀ {s' : Shared} {H' : Hp}, Inv (X.blk s3 H3 scope ce fp) ([] ++ pinsAt fp s7.heap) σ8 H' s' → N H' → ∃ m, m < n ∧ ∃ i H', Inv (X.blk s3 H3 scope ce fp) [] τ H' s' ∧ tn i s'.heap ∧ (∀ b ∈ fp, H' b = none) ∧ B i m H' := fun {s' H'} I' hn => by
      obtain ⟨m', hm, b'⟩ := hN H' hn
      have there : ∀ c ∈ fp, ∀ o, s7.heap.get? c = some o → s'.heap.get? c = some o ∧ H' c = none := fun c hb o e => by
        have z := I'.pin (c, o) (List.mem_append_right _ (List.mem_append_right _ (mem_pinsAt hb e)))
        exact ⟨z.1, z.2.1⟩
      refine ⟨m', hm, i + 1, H', (I'.unpinned (pins := [])).weak (by rw [← hw, wipe_length]) (fun j v e => ?_), T.keep _ _ _ st7 fun c hb o e => (there c hb o e).1, fun c hb => ?_, b'⟩
      · rw [← hw] at e
        exact (wipe_some e).1
      · obtain ⟨o, e, _⟩ := T.obj _ _ st7 c hb
        exact (there c hb o e).2
    cases b with
    | false => exact next I9 q9
    | true =>
      refine thnF (pk.run _ s9 σ8 H9 _ I9 q9) fun v1 s10 h10 => ?_
      obtain ⟨yk, H10, I10, r10, q10⟩ := h10
      refine thnF (pe.run _ s10 σ8 H10 _ I10 q10) fun v2 s11 h11 => ?_
      obtain ⟨yv, H11, I11, r11, q11⟩ := h11
      exact hrs I11 r10 r11 q11 fun H' s' I' hn => next I' hn
end
section
variable {X : Cx} [Tb X.mg] {kx vx tg iter : Expr} {ifs : List Expr} {scope : Scope} {own : List (Str × Nat)} {pos : Pos} {wi : TI} {g : TG} {tt : TT} {tk tv : TE}
/-- the block's part: the target, the tests, the key, the value, wherever it stands -/
structure BlkD (X : Cx) [Tb X.mg] (scope : Scope) (tg kx vx : Expr) (ifs : List Expr) (g : TG) (tt : TT) (tk tv : TE) : Prop where
  g : ∀ (s : Shared) (H : Hp) (C : Addr) (cl : List (Str × Addr)) (fp : List Addr), PG (X.blk s H scope (compEnvC scope cl C X.env) fp) tg g
  t : ∀ (s : Shared) (H : Hp) (C : Addr) (cl : List (Str × Addr)) (fp : List Addr), PTs (X.blk s H scope (compEnvC scope cl C X.env) fp) ifs tt
  k : ∀ (s : Shared) (H : Hp) (C : Addr) (cl : List (Str × Addr)) (fp : List Addr), PE (X.blk s H scope (compEnvC scope cl C X.env) fp) kx tk
  v : ∀ (s : Shared) (H : Hp) (C : Addr) (cl : List (Str × Addr)) (fp : List Addr), PE (X.blk s H scope (compEnvC scope cl C X.env) fp) vx tv
theorem dcd_core {pins : List (Addr × Obj)} {s : Shared} {σ : L2.St} {H : Hp} {Q : VK} {pos' : Pos} {use : Option (Value → Sem Unit)} {Qf : Value → Shared → Prop} {rs : RS} (hrs : ∀ (s : Shared) (H : Hp) (ce : Env) (fp : List Addr), RsOk (X.blk s H scope ce fp) rs) (hc : X.calm = true) (hN : X.N.Nodup) (I : Inv X pins σ H s) (hi : PI X tg iter wi) (ok : BlkOk X.N X.env.scope scope own)
    (B : BlkD X scope tg kx vx ifs g tt tk tv) (hs : ∀ x, foldedSetIterable iter X.env x = pure x) (h : tDcD rs wi g tt tk tv (own.map (·.2)) σ H Q)
    (after : ∀ D C s' m H', Inv X pins σ H' s' → Q (.ref D) H' → s'.heap.Ns C m → FpOk X pins H' C → compPost (model X.prog X.w) X.A X.xe use Qf (.ref D) C (.ok .next) s') :
    wpAny (model X.prog X.w) X.A (comprehension (.DictComp kx vx [⟨tg, iter, ifs, 0⟩] scope pos) scope X.env pos' newDict false (eval iter X.env) use) Qf X.xe s := by
  have free : ∀ y ∈ scope.names, y.2 = .free → ∃ c, X.env.cells.lookup y.1 = some c := fun y hy e => (ok.free y hy e).elim (fun k => I.ok.has _ (.inl k)) fun k => I.ok.has _ (.inr k)
  refine wpAny_comprehension_free (use := use) rfl hs (closure_ok free) ok.kind (fun y hy e => by rw [ok.uniq y hy, e]) (thn (hi.run pins s σ H _ I h) fun xv s1 hx => thn hx fun itv s2 h2 => ?_)
  obtain ⟨it, fp, tn, J, H2, rfl, I2, T, st2, f2, q⟩ := h2
  refine wpAny_newObj_type (newEnv_comp ?_)
  generalize eD : s2.heap.objs.size = D
  obtain ⟨W, ⟨m0, w0⟩, turn⟩ := q D (I2.hok.fresh (Nat.le_of_eq eD)) (by rw [← eD]; exact new_sys I2)
  -- the new dict
  have e3 : ∃ s3 : Shared, s3 = { s2 with heap := s2.heap.push { cls := .type "dict", data := .dict #[] } } := ⟨_, rfl⟩
  obtain ⟨s3, e3⟩ := e3
  rw [← e3]
  have k3 : ∀ b o, s2.heap.get? b = some o → s3.heap.get? b = some o := fun b o e => by rw [e3]; exact Heap.get?_push_of_some _ e
  have I3 : Inv X pins σ (upd H2 D (exO D ob0)) s3 := by
    rw [e3]
    refine I2.laid (t' := s2.toks) (fun _ _ z => Heap.get?_push_of_some _ z) (Nat.le_of_eq eD) (exO_ok ?_)
    rw [← eD]
    exact Heap.get?_push_size _ rfl
  have f3 : ∀ b ∈ fp, FpOk X pins (upd H2 D (exO D ob0)) b ∧ b < s3.heap.objs.size := fun b hb => by
    obtain ⟨o, e, _⟩ := T.obj _ _ st2 b hb
    have lt := Heap.lt_size e
    refine ⟨⟨(upd_ne (by rw [← eD]; exact Nat.ne_of_lt lt)).trans (f2 b hb).1, (f2 b hb).2⟩, ?_⟩
    exact Heap.lt_size (k3 _ _ e)
  have I4 := block_start I3 ok hN f3
  have cl0 : ∃ cl, cl = cellsFrom (s3.heap.objs.size + 1) scope.names (cloFrom X.env.cells scope.names []) := ⟨_, rfl⟩
  obtain ⟨cl, ecl⟩ := cl0
  rw [← ecl] at I4 ⊢
  have st4 : tn 0 (pushCells (s3.heap.push { cls := .type "dict", data := .dict #[] }) scope.names) := T.keep _ _ _ st2 fun b _ o e => pushCells_keeps _ _ _ _ (Heap.get?_push_of_some _ (k3 _ _ e))
  have go := dc_loop (iter := iter) (scope := scope) (own := own) (D := D) (pos := pos) (QD := fun H' => Q (.ref D) H') (R := compPost (model X.prog X.w) X.A X.xe use Qf (.ref D) s3.heap.objs.size) (m0 := m0) (hrs _ _ _ _) hc T (B.g s3 (upd H2 D (exO D ob0)) s3.heap.objs.size cl fp) (B.t s3 (upd H2 D (exO D ob0)) s3.heap.objs.size cl fp) (B.k s3 (upd H2 D (exO D ob0)) s3.heap.objs.size cl fp) (B.v s3 (upd H2 D (exO D ob0)) s3.heap.objs.size cl fp)
    (wipe_wipe).symm I4 st4 (fun b hb => (f3 b hb).1.1) w0 turn fun H' s' I' hq => ?_
  · exact codeAny_compStart_dict go (T.self X.A 0 _ _ _ st4 go)
  · have I5 : Inv X pins σ H' s' := I3.call' (ch := fp) I'.os I'.base I'.hok I'.bare fun b hb => ⟨(f3 b hb).1.2.2.2.1, (f3 b hb).1.2.1, (f3 b hb).1.2.2.2.2.1, (f3 b hb).1.2.2.2.2.2⟩
    obtain ⟨m, hn, _⟩ := I'.loc
    exact after D s3.heap.objs.size s' m H' I5 hq hn (I3.fpOk (Nat.le_refl _) I'.free)
theorem pe_dcd {rs : RS} (hrs : ∀ (s : Shared) (H : Hp) (ce : Env) (fp : List Addr), RsOk (X.blk s H scope ce fp) rs) (hc : X.calm = true) (hN : X.N.Nodup) (hi : PI X tg iter wi) (ok : BlkOk X.N X.env.scope scope own) (B : BlkD X scope tg kx vx ifs g tt tk tv) (hs : ∀ x, foldedSetIterable iter X.env x = pure x) :
    PE X (.DictComp kx vx [⟨tg, iter, ifs, 0⟩] scope pos) (tDcD rs wi g tt tk tv (own.map (·.2))) := by
  refine ⟨fun pins s σ H Q I h => ?_⟩
  rw [arm_eval_DictComp]
  refine dcd_core hrs hc hN I hi ok B hs h fun D C s' m H' I' q hn f => ⟨m, hn, fun h'' sb => ?_⟩
  obtain ⟨f0, f1, f2, f3, f4, f5⟩ := f
  exact ⟨.ref D, H', I'.turned (t' := s'.toks) (fun b o hb e => (sb.2 b hb).trans e) f0 f1 f3 f4 f5, rfl, q⟩
end
/-! ### by data -/
def dcGo (g : FG) (c : FT) (fk fv : FE) (vs : List Nat) : List D → List (D × D) → List S → (List (D × D) → List S → Prop) → Prop
  | [], acc, ρ, Q => Q acc ρ
  | x :: xs, acc, ρ, Q => g (.d x) ρ fun ρ1 => c ρ1 fun b ρ2 => if b = true then fk ρ2 fun y ρ3 => fv ρ3 fun z ρ4 => (match y, z with
    | .d kd, .d d => (keyD kd).isSome = true ∧ acc.length < sizeLine ∧ dcGo g c fk fv vs xs (dPut acc kd d) (wipeS ρ4 vs) Q
    | _, _ => False) else dcGo g c fk fv vs xs acc (wipeS ρ2 vs) Q
def fnDc (fi : FI) (g : FG) (c : FT) (fk fv : FE) (vs : List Nat) : FN := fun ρ Q => fi ρ fun items ρ1 => (∀ i ∈ vs, settable ρ1 i) ∧ dcGo g c fk fv vs items [] (wipeS ρ1 vs) fun kvs ρ2 => Q (.dct kvs) ρ2
theorem snd_dc {W : Wd} {wi : TI} {fi : FI} {us : List Nat} {g : FG} {c : FT} {fk fv : FE} {vs : List Nat} (si : ISound W wi fi) (hus : ∀ i ∈ us, i ∈ vs) : NSound W (tDcD (rSetDc W) wi (tG W us g) (tT W c) (tE W fk) (tE W fv) vs) (fnDc fi g c fk fv vs) := by
  intro G F ρ σ H Q Q' R hf hq
  refine si G F ρ σ H _ _ R hf fun items ρ1 F1 H1 J q1 k1 R1 ito => ?_
  intro D hD hsys
  have hset : ∀ i ∈ vs, G.ow[i]? = none := fun i hi => R1.noow (q1.1 i hi)
  have R2 : Rep W (G.push D (.dct [])) F1 ρ1 σ (upd H1 D (exO D ob0)) := R1.push hD (rep0 hsys)
  have R3 : Rep W (G.push D (.dct [])) F1 (wipeS ρ1 vs) (wipe σ vs) (upd H1 D (exO D ob0)) := R2.wiped q1.1 (wipe_length σ vs) fun i hi => wipe_out hi
  refine ⟨fun i m H' => ∃ F' ρ' pre post acc, Same F1 F' ∧ Rep W (G.push D (.dct acc)) F' ρ' (wipe σ vs) H' ∧ (∀ i ∈ vs, ρ'[i]? = some S.no) ∧ dcGo g c fk fv vs post acc ρ' (fun ds ρ2 => Q' (.dct ds) ρ2) ∧ pre ++ post = items ∧ pre.length = i ∧ m = post.length,
    ⟨items.length, F1, wipeS ρ1 vs, [], items, [], Same.refl _, R3, fun i hi => wipeS_in hi (q1.1 i hi).lt, q1.2, rfl, rfl, rfl⟩, ?_⟩
  rintro i m H' ⟨F', ρ', pre, post, acc, k2, R4, hno, hgo, e1, e2, rfl⟩
  obtain ⟨ig, is⟩ := ito i F' H' k2 R4.sub
  cases post with
  | nil =>
    refine .inl ⟨is (by rw [← e1, List.append_nil]; exact e2), ?_⟩
    refine hq (.dct acc) ρ' F' H' D hgo (k1.trans k2) ?_
    have hst : ∀ i ∈ vs, settable ρ' i := fun i hi => by unfold settable; rw [hno i hi]; trivial
    have e : wipeS ρ' vs = ρ' := by
      refine List.ext_getElem? fun j => ?_
      by_cases hj : j ∈ vs
      · rw [wipeS_in hj (hst j hj).lt, hno j hj]
      · rw [wipeS_out hj]
    have R5 := R4.wiped (σ' := σ) hst (wipe_length σ vs).symm fun i hi => (wipe_out hi).symm
    rw [e] at R5
    exact R5
  | cons x post =>
    obtain ⟨go, yl⟩ := ig x (by rw [← e1, ← e2]; simp)
    refine .inr ⟨go, fun H'' => ∃ F'' ρ'' acc', Same F1 F'' ∧ Rep W (G.push D (.dct acc')) F'' ρ'' (wipe σ vs) H'' ∧ (∀ i ∈ vs, ρ''[i]? = some S.no) ∧ dcGo g c fk fv vs post acc' ρ'' (fun ds ρ2 => Q' (.dct ds) ρ2), ?_, ?_⟩
    · rintro H'' ⟨F'', ρ'', acc', a1, a2, a3, a4⟩
      exact ⟨post.length, by simp, F'', ρ'', pre ++ [x], post, acc', a1, a2, a3, a4, by rw [List.append_assoc]; exact e1, by simp [e2], rfl⟩
    · intro v H2 y
      obtain ⟨F2, ex, dv⟩ := yl v H2 y
      obtain ⟨R5, k5⟩ := R4.ext ex
      refine ⟨_, F2, ρ', .d x, _, R5, dv, hgo, fun ρ3 F3 σ3 H3 q3 k3 R6 off => ?_⟩
      have hw : wipe σ3 vs = wipe σ vs := (wipe_eq off hus).trans wipe_wipe
      refine ⟨hw, _, F3, ρ3, _, R6, q3, fun b ρ4 F4 H4 q4 k4 R7 => ?_⟩
      have clean : ∀ {o : Ow} {F5 H5 : Hp} {ρ5 : List S}, Rep W (G.push D o) F5 ρ5 σ3 H5 → Rep W (G.push D o) F5 (wipeS ρ5 vs) (wipe σ vs) H5 ∧ ∀ i ∈ vs, (wipeS ρ5 vs)[i]? = some S.no := fun {o F5 H5 ρ5} R' => by
        have hlen : ∀ i ∈ vs, i < σ3.length := fun i hi => by
          rw [off.1, wipe_length]
          exact (q1.1 i hi).lts R1
        refine ⟨R'.wiped (fun i hi => R'.canset (hlen i hi) (hset i hi)) (by rw [← hw, wipe_length]) fun i hi => ?_, fun i hi => wipeS_in hi (Nat.lt_of_lt_of_le (hlen i hi) R'.len)⟩
        rw [← hw, wipe_out hi]
      cases b with
      | false =>
        rw [if_neg Bool.false_ne_true] at q4
        obtain ⟨a1, a2⟩ := clean R7
        refine iteF ?_
        exact ⟨F4, wipeS ρ4 vs, acc, ((k2.trans k5).trans k3).trans k4, a1, a2, q4⟩
      | true =>
        rw [if_pos rfl] at q4
        refine iteT ?_
        refine ⟨_, F4, ρ4, _, R7, q4, fun y ρ5 F5 H5 w q5 k6 R8 w5 => ?_⟩
        refine ⟨_, F5, ρ5, _, R8, q5, fun z ρ6 F6 H6 u q6 k7 R9 w6 => ?_⟩
        split at q6
        · rename_i kd d
          obtain ⟨hk, hl, q6⟩ := q6
          obtain ⟨k, ek⟩ := Option.isSome_iff_exists.mp hk
          have w5' := VOk.mono k7 w5
          obtain ⟨b, rfl⟩ := dp_ref w5' ek
          obtain ⟨_, _, _, ⟨ho, h1, ob, xs, h2, h3, h4, h5, h6⟩, _⟩ := R9.pop
          subst h2
          refine ⟨F6, D, b, ob, xs, acc, kd, k, d, rfl, rfl, R9.sub, h1, h3, h4, h5, hl, w5', ek, w6, fun ob' hr => ?_⟩
          have R10 := R9.restock hr
          obtain ⟨a1, a2⟩ := clean R10
          exact ⟨F6, wipeS ρ6 vs, dPut acc kd d, ((((k2.trans k5).trans k3).trans k4).trans k6).trans k7, a1, a2, q6⟩
        · exact q6.elim
section
variable {X : Cx} [Tb X.mg] {kx vx tg iter : Expr} {ifs : List Expr} {scope : Scope} {pos : Pos} {us : List Nat} {fi : FI} {g : FG} {c : FT} {fk fv : FE}
theorem dn_dc (own : List (Str × Nat)) (hu : X.A.units + 64 < cLine) (hc : X.calm = true) (hN : X.N.Nodup) (hi : DI X tg iter fi)
    (hg : ∀ (s : Shared) (H : Hp) (C : Addr) (cl : List (Str × Addr)) (fp : List Addr), DG (X.blk s H scope (compEnvC scope cl C X.env) fp) tg us g) (ht : ∀ (s : Shared) (H : Hp) (C : Addr) (cl : List (Str × Addr)) (fp : List Addr), DTs (X.blk s H scope (compEnvC scope cl C X.env) fp) ifs c)
    (hk : ∀ (s : Shared) (H : Hp) (C : Addr) (cl : List (Str × Addr)) (fp : List Addr), DE (X.blk s H scope (compEnvC scope cl C X.env) fp) kx fk) (he : ∀ (s : Shared) (H : Hp) (C : Addr) (cl : List (Str × Addr)) (fp : List Addr), DE (X.blk s H scope (compEnvC scope cl C X.env) fp) vx fv)
    (ok : blkC X.N X.env.scope scope own = true := by kernel_rfl) (hus : ∀ i ∈ us, i ∈ own.map (·.2) := by decide)
    (hs : ∀ x, foldedSetIterable iter X.env x = pure x := by intro _; rfl) : DN X (.DictComp kx vx [⟨tg, iter, ifs, 0⟩] scope pos) (fnDc fi g c fk fv (own.map (·.2))) := by
  obtain ⟨wi, pi, si⟩ := hi.ex
  exact .of (pe_dcd (g := tG (wd X) us g) (tt := tT (wd X) c) (tk := tE (wd X) fk) (tv := tE (wd X) fv) (fun s H ce fp => rsOk_dct (X := X.blk s H scope ce fp) hu) hc hN pi (blkOk_by ok) ⟨fun s H C cl fp => (hg s H C cl fp).run, fun s H C cl fp => (ht s H C cl fp).run, fun s H C cl fp => (hk s H C cl fp).run, fun s H C cl fp => (he s H C cl fp).run⟩ hs) (snd_dc si hus)
end
end Aq
/-! A16: several names stored at once, still things and new things mixed; a thing of one's own that stands still from here on; values of dicts; dict(pairs); sum; pop. -/
namespace Aq
open PySem PySem.Spec PyProof.Rows L2
/-! ### loose things, in any order -/
theorem Rep.perm {W : Wd} {G G' : Fx} {F H : Hp} {ρ : List S} {σ : L2.St} (R : Rep W G F ρ σ H) (h0 : G'.H0 = G.H0) (h1 : G'.F0 = G.F0) (h2 : G'.ow = G.ow) (h3 : G'.lt = G.lt) (hp : G'.st.Perm G.st) : Rep W G' F ρ σ H := by
  obtain ⟨H0, F0, ow, st, lt⟩ := G
  obtain ⟨H0', F0', ow', st', lt'⟩ := G'
  simp only at h0 h1 h2 h3 hp
  subst h0 h1 h2 h3
  exact ⟨R.sub, R.up, R.keep, R.new, R.len, R.slot, R.top, R.sep, R.par, fun a o hm => R.stk a o (hp.mem_iff.mp hm), R.shr, ((hp.append_left _).map (·.1)).nodup_iff.mpr R.std, R.lnt, R.tabs⟩
/-- what is stored: something still, or a new thing of one's own -/
inductive Mx where
  | s (r : S)
  | n (o : Ow)
def news : List Mx → List V → List (Addr × Ow)
  | .n o :: ms, .ref a :: vs => (a, o) :: news ms vs
  | _ :: ms, _ :: vs => news ms vs
  | _, _ => []
def Fx.pushes (G : Fx) (l : List (Addr × Ow)) : Fx := { G with st := l ++ G.st }
def MOk (W : Wd) (F : Hp) : List Mx → List V → Prop
  | [], [] => True
  | .s r :: ms, v :: vs => VOk W F r v ∧ MOk W F ms vs
  | .n _ :: ms, v :: vs => (∃ a, v = .ref a) ∧ MOk W F ms vs
  | _, _ => False
theorem MOk.mono {W : Wd} {F F' : Hp} (e : Same F F') : ∀ {ms : List Mx} {vs : List V}, MOk W F ms vs → MOk W F' ms vs
  | [], [], _ => trivial
  | .s _ :: _, _ :: _, h => ⟨VOk.mono e h.1, MOk.mono e h.2⟩
  | .n _ :: _, _ :: _, h => ⟨h.1, MOk.mono e h.2⟩
  | [], _ :: _, h => h.elim
  | .s _ :: _, [], h => h.elim
  | .n _ :: _, [], h => h.elim
theorem MOk.length {W : Wd} {F : Hp} : ∀ {ms : List Mx} {vs : List V}, MOk W F ms vs → ms.length = vs.length
  | [], [], _ => rfl
  | .s _ :: ms, _ :: vs, h => by simp [MOk.length h.2]
  | .n _ :: ms, _ :: vs, h => by simp [MOk.length h.2]
  | [], _ :: _, h => h.elim
  | .s _ :: _, [], h => h.elim
  | .n _ :: _, [], h => h.elim
abbrev FM := List S → (List Mx → List S → Prop) → Prop
def MSound (W : Wd) (t : TA) (f : FM) : Prop :=
  ∀ (G : Fx) (F : Hp) (ρ : List S) (σ : L2.St) (H : Hp) (Q : List V → Hp → Prop) (Q' : List Mx → List S → Prop), Rep W G F ρ σ H → f ρ Q' →
    (∀ ms ρ' F' H' vs, Q' ms ρ' → Same F F' → Rep W (G.pushes (news ms vs)) F' ρ' σ H' → MOk W F' ms vs → Q vs H') → t σ H Q
def tM (W : Wd) (f : FM) : TA := fun σ H Q => ∃ G F ρ Q', Rep W G F ρ σ H ∧ f ρ Q' ∧ ∀ ms ρ' F' H' vs, Q' ms ρ' → Same F F' → Rep W (G.pushes (news ms vs)) F' ρ' σ H' → MOk W F' ms vs → Q vs H'
structure DM (X : Cx) [Tb X.mg] (es : List Expr) (f : FM) : Prop where
  run : PA X es (tM (wd X) f)
theorem DM.ex {X : Cx} [Tb X.mg] {es : List Expr} {f : FM} (h : DM X es f) : ∃ t, PA X es t ∧ MSound (wd X) t f := ⟨_, h.run, fun _ _ _ _ _ _ _ R hf hq => ⟨_, _, _, _, R, hf, hq⟩⟩
theorem DM.of {X : Cx} [Tb X.mg] {es : List Expr} {f : FM} {t : TA} (p : PA X es t) (s : MSound (wd X) t f) : DM X es f :=
  ⟨⟨fun pos pins st σ H Q I ⟨_, _, _, _, R, hf, hq⟩ => p.run pos pins st σ H Q I (s _ _ _ _ _ _ _ R hf hq)⟩⟩
def fmNil : FM := fun ρ Q => Q [] ρ
def fmS (f : FE) (g : FM) : FM := fun ρ Q => f ρ fun r ρ1 => g ρ1 fun ms ρ2 => Q (.s r :: ms) ρ2
def fmN (f : FN) (g : FM) : FM := fun ρ Q => f ρ fun o ρ1 => g ρ1 fun ms ρ2 => Q (.n o :: ms) ρ2
section
variable {X : Cx} [Tb X.mg] {e : Expr} {es : List Expr} {f : FE} {fn : FN} {g : FM}
theorem dm_nil : DM X [] fmNil := .of pa_nil fun G F ρ σ H Q Q' R hf hq => hq _ _ F H [] hf (Same.refl _) (by exact R) trivial
theorem dm_s (h : DE X e f) (h2 : DM X es g) (hs : starEach (e :: es) X.env = (false, eval e X.env) :: starEach es X.env := by rfl) : DM X (e :: es) (fmS f g) := by
  obtain ⟨t, p, s⟩ := h.ex
  obtain ⟨t2, p2, s2⟩ := h2.ex
  refine .of (pa_cons p p2 hs) fun G F ρ σ H Q Q' R hf hq => ?_
  refine s G F ρ σ H _ _ R hf fun r ρ1 F1 H1 v q1 k1 R1 w1 => ?_
  refine s2 G F1 ρ1 σ H1 _ _ R1 q1 fun ms ρ2 F2 H2 vs q2 k2 R2 w2 => ?_
  exact hq _ _ F2 H2 _ q2 (k1.trans k2) R2 ⟨VOk.mono k2 w1, w2⟩
theorem dm_n (h : DN X e fn) (h2 : DM X es g) (hs : starEach (e :: es) X.env = (false, eval e X.env) :: starEach es X.env := by rfl) : DM X (e :: es) (fmN fn g) := by
  obtain ⟨t, p, s⟩ := h.ex
  obtain ⟨t2, p2, s2⟩ := h2.ex
  refine .of (pa_cons p p2 hs) fun G F ρ σ H Q Q' R hf hq => ?_
  refine s G F ρ σ H _ _ R hf fun o ρ1 F1 H1 a q1 k1 R1 => ?_
  refine s2 (G.push a o) F1 ρ1 σ H1 _ _ R1 q1 fun ms ρ2 F2 H2 vs q2 k2 R2 w2 => ?_
  refine hq _ _ F2 H2 _ q2 (k1.trans k2) ?_ ⟨⟨a, rfl⟩, w2⟩
  refine R2.perm rfl rfl rfl rfl ?_
  show ((a, o) :: (news ms vs ++ G.st)).Perm (news ms vs ++ (a, o) :: G.st)
  exact List.perm_middle.symm
end
/-- names take what is stored, one after another -/
def Mx.slot : Mx → S
  | .s r => r
  | .n o => .ow o
def setM : List Nat → List Mx → List S → (List S → Prop) → Prop
  | [], [], ρ, Q => Q ρ
  | i :: is, m :: ms, ρ, Q => settable ρ i ∧ setM is ms (ρ.set i m.slot) Q
  | _, _, _, _ => False
def setVs : List Nat → List V → L2.St → L2.St
  | i :: is, v :: vs, σ => setVs is vs (σ.set i (some v))
  | _, _, σ => σ
theorem Rep.setM {W : Wd} {G : Fx} {F H : Hp} : ∀ {is : List Nat} {ms : List Mx} {vs : List V} {ρ : List S} {σ : L2.St} {Q : List S → Prop}, Rep W (G.pushes (news ms vs)) F ρ σ H → MOk W F ms vs → Aq.setM is ms ρ Q → ∃ ρ', Q ρ' ∧ Rep W G F ρ' (setVs is vs σ) H
  | [], [], [], ρ, σ, Q, R, _, h => ⟨ρ, h, R⟩
  | i :: is, .s r :: ms, v :: vs, ρ, σ, Q, R, w, h => by
    have R1 : Rep W (G.pushes (news ms vs)) F (ρ.set i r) (σ.set i (some v)) H := by
      have e : news (.s r :: ms) (v :: vs) = news ms vs := by cases v <;> rfl
      rw [e] at R
      exact R.setV h.1 w.1
    exact Rep.setM (is := is) R1 w.2 h.2
  | i :: is, .n o :: ms, v :: vs, ρ, σ, Q, R, w, h => by
    obtain ⟨⟨a, rfl⟩, w2⟩ := w
    have R1 : Rep W (G.pushes (news ms vs)) F (ρ.set i (.ow o)) (σ.set i (some (.ref a))) H := Rep.setO (G := G.pushes (news ms vs)) R h.1
    exact Rep.setM (is := is) R1 w2 h.2
  | [], [], _ :: _, _, _, _, _, w, _ => w.elim
  | [], .s _ :: _, _, _, _, _, _, _, h => h.elim
  | [], .n _ :: _, _, _, _, _, _, _, h => h.elim
  | _ :: _, [], _, _, _, _, _, _, h => h.elim
  | _ :: _, .s _ :: _, [], _, _, _, _, w, _ => w.elim
  | _ :: _, .n _ :: _, [], _, _, _, _, w, _ => w.elim
def sMix (is : List Nat) (g : FM) : FS := fun E ρ => g ρ fun ms ρ1 => setM is ms ρ1 E.nx
theorem setM_length : ∀ {is : List Nat} {ms : List Mx} {ρ : List S} {Q : List S → Prop}, setM is ms ρ Q → is.length = ms.length
  | [], [], _, _, _ => rfl
  | _ :: is, _ :: ms, _, _, h => by simp [setM_length h.2]
  | [], _ :: _, _, _, h => h.elim
  | _ :: _, [], _, _, h => h.elim
section
variable {X : Cx} [Tb X.mg] {pos : Pos}
theorem ds_mix2 (i j : Nat) {x y : Str} {a b : Expr} {g : FM} {px py pt : Pos} {kt k2 pt2} (hc : X.calm = true) (hN : X.N.Nodup) (ha : DM X [a, b] g) (hij : i ≠ j := by decide) (hi : X.N[i]? = some x := by rfl) (hj : X.N[j]? = some y := by rfl)
    (hx : X.env.scope.names.lookup x = some .local := by rfl) (hy : X.env.scope.names.lookup y = some .local := by rfl)
    (hw : swappedStores [.Tuple [.Name x px, .Name y py] kt pt] (.Tuple [a, b] k2 pt2) X.env = pure (some [x, y]) := by rfl)
    (hs : swapsWithSole [.Tuple [.Name x px, .Name y py] kt pt] (.Tuple [a, b] k2 pt2) pos.line X.env = pure false := by rfl) :
    DS X (.Assign [.Tuple [.Name x px, .Name y py] kt pt] (.Tuple [a, b] k2 pt2) pos) (sMix [i, j] g) := by
  obtain ⟨t, p, s⟩ := ha.ex
  refine .of (ps_par hc hN hi hj hij hx hy p hw hs) fun G F ρ σ H E E' R hf ok => ?_
  refine s G F ρ σ H _ _ R hf fun ms ρ' F' H' vs q k R' w => ?_
  have l1 := setM_length q
  have l2 := w.length
  obtain ⟨v1, v2, rfl⟩ : ∃ v1 v2, vs = [v1, v2] := by
    rw [← l1] at l2
    match vs, l2 with
    | [v1, v2], _ => exact ⟨v1, v2, rfl⟩
  obtain ⟨ρ2, q2, R2⟩ := R'.setM w q
  exact ⟨v1, v2, rfl, ok.nx _ F' _ H' q2 k R2⟩
theorem ds_mix3 (i j l : Nat) {x y z : Str} {a b c : Expr} {g : FM} {px py pz pt pos : Pos} {kt k2 pt2} (hc : X.calm = true) (hN : X.N.Nodup) (ha : DM X [a, b, c] g) (hij : i ≠ j := by decide) (hil : i ≠ l := by decide) (hjl : j ≠ l := by decide) (hi : X.N[i]? = some x := by rfl) (hj : X.N[j]? = some y := by rfl) (hl : X.N[l]? = some z := by rfl)
    (hx : X.env.scope.names.lookup x = some .local := by rfl) (hy : X.env.scope.names.lookup y = some .local := by rfl) (hz : X.env.scope.names.lookup z = some .local := by rfl)
    (hw : swappedStores [.Tuple [.Name x px, .Name y py, .Name z pz] kt pt] (.Tuple [a, b, c] k2 pt2) X.env = pure (some [x, y, z]) := by rfl)
    (hs : swapsWithSole [.Tuple [.Name x px, .Name y py, .Name z pz] kt pt] (.Tuple [a, b, c] k2 pt2) pos.line X.env = pure false := by rfl) :
    DS X (.Assign [.Tuple [.Name x px, .Name y py, .Name z pz] kt pt] (.Tuple [a, b, c] k2 pt2) pos) (sMix [i, j, l] g) := by
  obtain ⟨t, p, s⟩ := ha.ex
  refine .of (ps_par3 hc hN hi hj hl hij hil hjl hx hy hz p hw hs) fun G F ρ σ H E E' R hf ok => ?_
  refine s G F ρ σ H _ _ R hf fun ms ρ' F' H' vs q k R' w => ?_
  have l1 := setM_length q
  have l2 := w.length
  obtain ⟨v1, v2, v3, rfl⟩ : ∃ v1 v2 v3, vs = [v1, v2, v3] := by
    rw [← l1] at l2
    match vs, l2 with
    | [v1, v2, v3], _ => exact ⟨v1, v2, v3, rfl⟩
  obtain ⟨ρ2, q2, R2⟩ := R'.setM w q
  exact ⟨v1, v2, v3, rfl, ok.nx _ F' _ H' q2 k R2⟩
/-- the names that a tuple goes to -/
structure PNs (X : Cx) [Tb X.mg] (es : List Expr) (is : List Nat) : Prop where
  run : PGs X es (fun vs σ H Q => vs.length = is.length ∧ Q (setVs is vs σ) H)
theorem pns_nil : PNs X [] [] := ⟨⟨fun pins s σ H vs us Q I r ⟨h1, h2⟩ => by
  have e := List.eq_nil_of_length_eq_zero h1
  subst e
  exact pgs_nil.run pins s σ H [] us Q I r ⟨rfl, h2⟩⟩⟩
theorem pns_cons (i : Nat) {x : Str} {es : List Expr} {is : List Nat} (hN : X.N.Nodup) (h : PNs X es is) (hi : X.N[i]? = some x := by rfl) (hx : Loc X.env.scope x := by first | exact Or.inl rfl | exact Or.inr rfl) (hf : X.fn x = true ∨ X.env.scope.names.lookup x = some .local := by first | exact .inl rfl | exact .inr rfl)
    (hs : (assignEach (.Name x pos :: es) X.env).map (·.2) = assign (.Name x pos) X.env :: (assignEach es X.env).map (·.2) := by rfl) : PNs X (.Name x pos :: es) (i :: is) := ⟨⟨fun pins s σ H vs us Q I r ⟨h1, h2⟩ => by
  cases vs with
  | nil => simp at h1
  | cons v vs => exact (pgs_cons (pg_name (pos := pos) hN hi hx hf) h.run hs).run pins s σ H (v :: vs) us Q I r ⟨v, vs, rfl, by simpa using h1, h2⟩⟩⟩
/-- names, some of them read by blocks within, from a tuple that is made -/
theorem ds_mixT (is : List Nat) {ns es : List Expr} {g : FM} {pt : Pos} {kt k2 pt2} (hc : X.calm = true) (ha : DM X es g) (hn : PNs X ns is) (hlen : is.length ≤ sizeLine := by decide)
    (hs : swapsWithSole [.Tuple ns kt pt] (.Tuple es k2 pt2) pos.line X.env = pure false := by rfl) (hw : swappedStores [.Tuple ns kt pt] (.Tuple es k2 pt2) X.env = pure none := by rfl)
    (h1 : (assignEach [.Tuple ns kt pt] X.env).map (·.2) = [assign (.Tuple ns kt pt) X.env] := by rfl) (hl : (assignEach ns X.env).length = is.length := by rfl) (hst : (assignEach ns X.env).findIdx? (·.1) = none := by rfl) :
    DS X (.Assign [.Tuple ns kt pt] (.Tuple es k2 pt2) pos) (sMix is g) := by
  obtain ⟨t, p, s⟩ := ha.ex
  refine .of (ps_asg (pe_tup p) (pg_tup hc hn.run hl hst) hs hw h1) fun G F ρ σ H E E' R hf ok => ?_
  refine s G F ρ σ H _ _ R hf fun ms ρ' F' H' vs q k R' w => ?_
  have l1 := setM_length q
  have l2 := w.length
  refine ⟨by rw [← l2, ← l1]; exact hlen, fun a ha' => ?_⟩
  refine ⟨a, vs, rfl, SqT.of upd_same, by rw [← l2, ← l1], by rw [← l2, ← l1], ?_⟩
  have eF : Same F' (upd F' a (.tup vs)) := same_upd (R'.nofree ha').1
  obtain ⟨ρ2, q2, R2⟩ := (R'.alloc ha' (.tup vs)).setM (w.mono eF) q
  exact ok.nx _ _ _ _ q2 (k.trans eF) R2
end
/-! ### a thing of one's own stands still from here on -/
section
variable {X : Cx} [Tb X.mg] {pos : Pos} {fb fc : FE}
theorem Rep.freeze {W : Wd} {G : Fx} {F H : Hp} {ρ : List S} {σ : L2.St} {i : Nat} {o : Ow} {a : Addr} (R : Rep W G F ρ σ H) (hi : ρ[i]? = some (S.ow o)) (ha : σ[i]? = some (some (.ref a))) : ∃ F', Same F F' ∧ Rep W G F' (ρ.set i (still o)) σ H ∧ VOk W F' (still o) (.ref a) := by
  obtain ⟨F', k, R', w⟩ := (R.give hi ha).stand
  refine ⟨F', k, ?_, w⟩
  have hlt : i < ρ.length := (List.getElem?_eq_some_iff.mp hi).1
  have e : settable (ρ.set i .no) i := by unfold settable; rw [List.getElem?_set_self hlt]; trivial
  have R2 := R'.setV e w
  rw [List.set_set] at R2
  have e2 : σ.set i (some (.ref a)) = σ := by
    obtain ⟨h, e⟩ := List.getElem?_eq_some_iff.mp ha
    rw [← e]
    exact List.set_getElem_self h
  rw [e2] at R2
  exact R2
def fFz (i : Nat) : FE := fun ρ Q => match ρ[i]? with
  | some (.ow o) => Q (still o) (ρ.set i (still o))
  | _ => False
theorem de_fz (i : Nat) {x : Str} (hN : X.N[i]? = some x := by rfl) (hv : Vis X.env.scope x := by first | exact Or.inl rfl | exact Or.inr (Or.inl rfl) | exact Or.inr (Or.inr rfl)) (hd : (x == ("__debug__" : Str)) = false := by decide)
    (hcd : (x == ("__classdict__" : Str)) = false := by decide) : DE X (.Name x pos) (fFz i) := by
  refine .of (pv i hN hv hd hcd) fun G F ρ σ H Q Q' R hf hq => ?_
  unfold fFz at hf
  split at hf
  · rename_i o e
    obtain ⟨a, _, ha, _⟩ := R.slot i _ (R.lt e (by intro _ z; cases z)) e
    obtain ⟨F', k, R', w⟩ := R.freeze e ha
    exact ⟨.ref a, ha, hq _ _ F' H _ hf k R' w⟩
  · exact hf.elim
/-- a list of one's own, cut -/
def fSlN (i : Nat) (fl fh : FO) : FE := fun ρ Q => (ownAt ρ i).isSome = true ∧ fl ρ fun lo ρ2 => fh ρ2 fun hi ρ3 => match ownAt ρ3 i with
  | some (.lst ds) => Q (.d (.list (cut ds lo hi))) ρ3
  | _ => False
theorem de_sliceN (i : Nat) {x : Str} {p p2 : Pos} {lo hi : Option Expr} {fl fh : FO} (hl : DO X lo fl) (hh : DO X hi fh) (hN : X.N[i]? = some x := by rfl) (hv : Vis X.env.scope x := by first | exact Or.inl rfl | exact Or.inr (Or.inl rfl) | exact Or.inr (Or.inr rfl)) (hd : (x == ("__debug__" : Str)) = false := by decide)
    (hcd : (x == ("__classdict__" : Str)) = false := by decide) : DE X (.Subscript (.Name x p) (.Slice lo hi none p2) pos) (fSlN i fl fh) := by
  refine .of (pe_slice sl_list (pv i hN hv hd hcd) hl.run hh.run) fun G F ρ σ H Q Q' R hf hq => ?_
  obtain ⟨o, ho⟩ := Option.isSome_iff_exists.mp hf.1
  obtain ⟨ad, _, ha, _⟩ := R.ownAt ho
  refine ⟨.ref ad, ha, ?_⟩
  refine ⟨G, F, ρ, _, R, hf.2, fun lo' ρ2 F2 H2 q2 k2 R2 => ?_⟩
  refine ⟨G, F2, ρ2, _, R2, q2, fun hi' ρ3 F3 H3 q3 k3 R3 => ?_⟩
  split at q3
  · rename_i ds e
    obtain ⟨a2, h2, e2, e3, e4, vs, rfl, e6⟩ := R3.ownAt e
    rw [ha] at e2; cases e2
    refine ⟨_, _, rfl, SqL.of e4, fun p hp => ?_⟩
    have hF := (R3.nofree hp).1
    exact hq _ _ (upd F3 p _) _ _ q3 ((k2.trans k3).trans (same_upd hF)) (R3.alloc hp _) (Dp.lst (SqL.of upd_same) (DpAll.mono (same_upd hF) _ _ (cut_ok e6 _ _)))
  · exact q3.elim
/-- len of a dict of one's own -/
def fLenDN (i : Nat) : FE := fun ρ Q => match ownAt ρ i with
  | some (.dct kvs) => Q (.d (.int kvs.length)) ρ
  | _ => False
theorem de_lenDN (i : Nat) {y : Str} {q p : Pos} {x : Str} (hm : X.mg x = none) (hx : x = "len" := by rfl) (hN : X.N[i]? = some y := by rfl) (hvi : Vis X.env.scope y := by first | exact Or.inl rfl | exact Or.inr (Or.inl rfl) | exact Or.inr (Or.inr rfl)) (hd : (y == ("__debug__" : Str)) = false := by decide)
    (hcd : (y == ("__classdict__" : Str)) = false := by decide) (hg : Gl X x := by rfl) (he : starEach (.Name y q :: []) X.env = (false, eval (.Name y q) X.env) :: starEach [] X.env := by rfl) (hpl : (backTo pos (starEach [] X.env)).any (·.1) = false := by rfl) : DE X (.Call (.Name x p) [.Name y q] [] pos) (fLenDN i) := by
  subst hx
  refine .of (pe_callB call_lenDc hg hm boot_len (pa_cons (pv i hN hvi hd hcd) pa_nil he) (by decide) (by decide) he hpl) fun G F ρ σ H Q Q' R hf hq => ?_
  unfold fLenDN at hf
  split at hf
  · rename_i kvs ho
    obtain ⟨ad, h2, ha, e3, e4, e5⟩ := R.ownAt ho
    exact ⟨.ref ad, ha, F, ad, kvs, rfl, DAt.ofRep R.sub e4 e5, hq _ _ F H _ hf (Same.refl _) R (Dp.int _)⟩
  · exact hf.elim
/-- x.pop(), x a list of one's own -/
def fPopN (i : Nat) : FE := fun ρ Q => match ownAt ρ i with
  | some (.lst ds) => (match ds[ds.length - 1]? with
    | some d => Q (.d d) (ρ.set i (owned ρ i (.lst ds.dropLast)))
    | none => False)
  | _ => False
theorem de_popN (i : Nat) {x : Str} {p ap cp : Pos} (hN : X.N[i]? = some x := by rfl) (hv : Vis X.env.scope x := by first | exact Or.inl rfl | exact Or.inr (Or.inl rfl) | exact Or.inr (Or.inr rfl)) (hd : (x == ("__debug__" : Str)) = false := by decide)
    (hcd : (x == ("__classdict__" : Str)) = false := by decide)
    (hp : ∀ {t : TE}, PE X (.Name x p) t → PE X (.Call (.Attribute (.Name x p) "pop" ap) [] [] cp) (tBM0 X.K "list" rPop t)) : DE X (.Call (.Attribute (.Name x p) "pop" ap) [] [] cp) (fPopN i) := by
  refine .of (hp (pv i hN hv hd hcd)) fun G F ρ σ H Q Q' R hf hq => ?_
  unfold fPopN at hf
  split at hf
  · rename_i ds ho
    split at hf
    · rename_i d ed
      obtain ⟨ad, h2, ha, e3, e4, vs, rfl, e6⟩ := R.ownAt ho
      obtain ⟨v, hv', dv⟩ := DpAll.get e6 ed
      refine ⟨.ref ad, ha, .inl ⟨rfl, _, SqL.of e4⟩, ad, vs, v, rfl, rfl, e4, by rw [DpAll.length e6]; exact hv', ?_⟩
      have R3 := R.put (o' := .lst ds.dropLast) (ho := .lst vs.dropLast) (ownAt_or ho) ha ⟨_, rfl, DpAll.dropLast e6⟩
      exact hq _ _ F _ v hf (Same.refl _) R3 dv
    · exact hf.elim
  · exact hf.elim
/-! ### sum of a list of ints -/
def fSum : Fn := fun ss Q => match ss with
  | [.d (.list ds)] => (match intsD ds with
    | some ns => Q (.d (.int ns.sum))
    | none => False)
  | _ => False
theorem b_sum (hc : X.calm = true) : BFn X (.builtin "sum") fSum := ⟨_, cr_sum hc, csnd_val fun F H ss vs Q Q' s w hf hq => by
  unfold fSum at hf
  split at hf
  · obtain ⟨v, rfl, w1⟩ := one_of w
    split at hf
    · rename_i ns e
      cases w1 with
      | lst s1 d1 =>
        have e1 := intsD_ok d1 e
        subst e1
        exact ⟨_, _, rfl, s.seq s1, hq _ _ hf (Dp.int _)⟩
    · exact hf.elim
  · exact hf.elim⟩
end
/-! ### values of a dict -/
def viewO (d : Addr) : Obj := { cls := .type "dict_values", data := .fields #[.ref d] }
/-- at d stands a dict of such entries -/
def EntAt (H : Hp) (d : Addr) (es : Array DictEntry) (ep : Nat) (ents : List (Addr × V)) : Prop := ∃ o, H d = some (exO d o) ∧ (d == sysModules) = false ∧ o.ExactDict ∧ o.data = .dict es ep ∧ Ents es ents
def tVals (td : TE) : TE := fun σ H Q => td σ H fun x H1 => ∃ d es ep ents, x = .ref d ∧ EntAt H1 d es ep ents ∧ ∀ v, H1 v = none → Q (.ref v) (upd H1 v (exO v (viewO d)))
section
variable {X : Cx} [Tb X.mg] {e : Expr} {td : TE} {apos cpos : Pos}
theorem pe_vals (he : PE X e td) (hbase : attributeBase e "values" X.env (eval e X.env) = eval e X.env := by rfl) (hline : (apos.endLine == cpos.line) = true := by rfl) : PE X (.Call (.Attribute e "values" apos) [] [] cpos) (tVals td) := by
  refine ⟨fun pins s σ H Q I h => ?_⟩
  refine wpAny_Call_method (T := "dict") (id := "dict.values") hbase rfl hline PySem.F.plainAttrs_dict PySem.F.slot_dict_values PySem.F.type_dict_values (thn (he.run pins s σ H _ I h) fun u s1 ⟨x, H1, I1, rx, d, es, ep, ents, ex, ⟨o, hd, hs, hx, hdt, hen⟩, q⟩ => ?_)
  subst ex
  cases (show u = Value.ref d from rx)
  have hgd := DAt.obj I1 hd
  have hraw : s1.heap.DictRaw d es ep := ⟨o, hgd, hx, hdt⟩
  refine ⟨hraw.typeIs, fun b q => by cases q; exact ⟨o, hgd, hx.2.1⟩, ?_⟩
  have hn := I1.hok.fresh (Nat.le_refl s1.heap.objs.size)
  have I2 := I1.laid (a := s1.heap.objs.size) (o := exO s1.heap.objs.size (viewO d)) (h' := s1.heap.push (viewO d)) (t' := s1.toks) (fun _ _ q => Heap.get?_push_of_some _ q) (Nat.le_refl _) (exO_ok (Heap.get?_push_size _ rfl))
  show wpAny _ _ (callWith cpos (.builtin "dict.values") [.ref d] [] []) _ X.xe s1
  exact method_meetsIn PySem.F.slot_dict_values PySem.F.entry_dict_values rfl (PySem.evalArgs_none ⟨rfl, hraw.typeIs, PySem.F.args_dict_values_1 _, _, meets_dict_values_raw d hs, ⟨es, ep, hraw⟩, ⟨.ref s1.heap.objs.size, _, I2, rfl, q _ hn⟩⟩)
/-- what max and list ask of such a view -/
def ViewAt (H : Hp) (v d : Addr) (es : Array DictEntry) (ep : Nat) (ents : List (Addr × V)) : Prop := H v = some (exO v (viewO d)) ∧ EntAt H d es ep ents
def rMaxVw : List V → Hp → VK → Prop := fun xs H Q => ∃ (v d : Addr) (es : Array DictEntry) (ep : Nat) (ents : List (Addr × V)) (ns : List Int), xs = [.ref v] ∧ ViewAt H v d es ep ents ∧ ents.map (·.2) = ns.map V.int ∧ 0 < ns.length ∧ ∀ m, m ∈ ns → (∀ n ∈ ns, n ≤ m) → Q (.int m) H
theorem ent_int {es : Array DictEntry} {ents : List (Addr × V)} {ns : List Int} (hen : Ents es ents) (hns : ents.map (·.2) = ns.map V.int) {i : Nat} {v : Value} (h : ∃ hi : i < es.size, v = es[i].val) : ∃ t, v = .int (ns.getD i 0) t ∧ i < ns.length := by
  obtain ⟨hi, rfl⟩ := h
  have hl : ents.length = ns.length := by have := congrArg List.length hns; simpa using this
  have hi' : i < ents.length := by rw [← hen.size]; exact hi
  obtain ⟨en, e1, e2, e3⟩ := hen.at_ (List.getElem?_eq_getElem hi')
  have e4 : es[i] = en := by
    have := Array.getElem?_eq_getElem hi
    rw [e1] at this
    exact (Option.some.inj this).symm
  have e5 : (ents.map (·.2))[i]? = some ents[i].2 := by rw [List.getElem?_map, List.getElem?_eq_getElem hi']; rfl
  rw [hns, List.getElem?_map, List.getElem?_eq_getElem (by omega : i < ns.length)] at e5
  have e6 : V.int ns[i] = ents[i].2 := Option.some.inj e5
  rw [← e6] at e3
  obtain ⟨t, e3⟩ := e3
  refine ⟨t, ?_, by omega⟩
  rw [e4, e3, List.getD_eq_getElem?_getD, List.getElem?_eq_getElem (by omega : i < ns.length)]
  rfl
theorem call_maxVw (hc : X.calm = true) : CallR X (.builtin "max") rMaxVw := by
  intro pins s σ H xs us Q I r h
  obtain ⟨v, d, es, ep, ents, ns, rfl, ⟨hv, o, hd, hs, hx, hdt, hen⟩, hns, hpos, q⟩ := h
  rw [Vals.ref1 r]
  have K : PySem.W.KdlSrc X.prog X.w "dict_values" v d es.size _ _ := PySem.KdlSrc.rawValues (r := v) (d := d) (es := es) (ep := ep)
  have okk : s.heap.IsValuesView v d ∧ s.heap.DictRaw d es ep := ⟨⟨_, DAt.obj I hv, rfl, rfl⟩, o, DAt.obj I hd, hx, hdt⟩
  have hl : ents.length = ns.length := by have := congrArg List.length hns; simpa using this
  have hsz : es.size = ns.length := by rw [hen.size, hl]
  obtain ⟨oI, St, hit, Wk, st0⟩ := K.iter X.A.in1 s (by exact I.ok.hd hc) okk
  refine call_max_walk (hit _ _ ?_)
  refine ⟨_, _, _, _, _, _, _, rfl, Wk, st0, fun b hb => ?_, by rw [hsz]; exact hpos, CmpOf.ints_gt (fun i => ns.getD i 0) (fun i u hu => ?_), fun u h' tk hP hk => ?_⟩
  · simp only [Heap.size_push]
    rcases List.mem_cons.mp hb with rfl | hb
    · exact Nat.lt_succ_self _
    · rw [List.mem_singleton.mp hb]
      exact Nat.lt_succ_of_lt (Heap.lt_size (DAt.obj I hd))
  · obtain ⟨t, e, _⟩ := ent_int hen hns hu
    exact ⟨t, e⟩
  · obtain ⟨t, rfl, hlt⟩ := ent_int hen hns hP
    obtain ⟨h1, h2⟩ := argBest_gt (fun i => ns.getD i 0) (es.size - 1)
    have I' : Inv X pins σ H { s with heap := h', toks := tk } := I.kept (t' := tk) fun b ob e => hk b ob (by simp; exact Nat.ne_of_lt (Heap.lt_size e)) (Heap.get?_push_of_some _ e)
    refine ⟨.int _, H, I', ⟨t, rfl⟩, q _ ?_ fun n hn => ?_⟩
    · rw [List.getD_eq_getElem?_getD, List.getElem?_eq_getElem hlt]
      exact List.getElem_mem hlt
    · obtain ⟨j, hj, e⟩ := List.mem_iff_getElem.mp hn
      have := h2 j (by omega)
      simp only [List.getD_eq_getElem?_getD, List.getElem?_eq_getElem hj, Option.getD_some] at this
      rw [e] at this
      simpa [List.getD_eq_getElem?_getD] using this
def rListVw : List V → Hp → VK → Prop := fun xs H Q => ∃ (v d : Addr) (es : Array DictEntry) (ep : Nat) (ents : List (Addr × V)), xs = [.ref v] ∧ ViewAt H v d es ep ents ∧ ents.length ≤ sizeLine ∧ ∀ l, H l = none → Q (.ref l) (upd H l (.lst (ents.map (·.2))))
theorem call_listVw (hc : X.calm = true) : CallR X (.type "list") rListVw := by
  intro pins s σ H xs us Q I r h
  obtain ⟨v, d, es, ep, ents, rfl, ⟨hv, o, hd, hs, hx, hdt, hen⟩, hz, q⟩ := h
  rw [Vals.ref1 r]
  have K : PySem.W.KdlSrc X.prog X.w "dict_values" v d es.size _ _ := PySem.KdlSrc.rawValues (r := v) (d := d) (es := es) (ep := ep)
  have okk : s.heap.IsValuesView v d ∧ s.heap.DictRaw d es ep := ⟨⟨_, DAt.obj I hv, rfl, rfl⟩, o, DAt.obj I hd, hx, hdt⟩
  refine PySem.W.kdl_call K (I.ok.hd hc) okk (by rw [hen.size]; exact hz) fun h' tk acc c' kp e hitm => ?_
  have hv' : Vals (ents.map (·.2)) acc.toList := by
    have h1 : acc.toList.length = ents.length := by rw [Array.length_toList, hitm.1, hen.size]
    have go : ∀ (ents : List (Addr × V)) (l : List Value), l.length = ents.length → (∀ (j : Nat) (v : Value) (p : Addr × V), l[j]? = some v → ents[j]? = some p → RelV p.2 v) → Vals (ents.map (·.2)) l := by
      intro ents
      induction ents with
      | nil => intro l hl _; cases l with | nil => exact .nil | cons _ _ => simp at hl
      | cons p ps ih =>
        intro l hl hj
        cases l with
        | nil => simp at hl
        | cons v vs => exact .cons (hj 0 v p rfl rfl) (ih vs (by simpa using hl) fun j v' p' g1 g2 => hj (j + 1) v' p' (by simpa using g1) (by simpa using g2))
    refine go ents acc.toList h1 fun j u p g1 g2 => ?_
    obtain ⟨hj, rfl⟩ := hitm.2 j u (by rw [← Array.getElem?_toList]; exact g1)
    obtain ⟨en', e2, _, e4⟩ := hen.at_ g2
    have : es[j] = en' := by
      have z := Array.getElem?_eq_getElem hj
      rw [e2] at z
      exact (Option.some.inj z).symm
    rw [this]
    exact e4
  exact ⟨.ref s.heap.objs.size, _, I.laid (t' := tk) kp (Nat.le_refl _) (show ObjOk X.prog X.w _ h' _ (.lst (ents.map (·.2))) from ⟨by rw [List.length_map]; exact hz, acc.toList, c', hv', by simpa using e⟩), rfl, q _ (I.hok.fresh (Nat.le_refl _))⟩
/-! .. by data -/
theorem vals_dp {K : PySem.W.Frag} {F : Hp} : ∀ {kvs : List (D × D)} {ents : List (Addr × V)}, Paired (fun (p : D × D) (q : Addr × V) => Dp K F (.ref q.1) p.1 ∧ Dp K F q.2 p.2) kvs ents → DpAll K F (ents.map (·.2)) (kvs.map (·.2))
  | _, _, .nil => .nil
  | _, _, .cons h t => .cons h.2 (vals_dp t)
theorem ent_of {W : Wd} {F H : Hp} {d : Addr} {kvs : List (D × D)} {ho : HO} (h1 : H d = some ho) (r : RepO W F d (.dct kvs) ho) : ∃ es ep ents, EntAt H d es ep ents ∧ Paired (fun (p : D × D) (q : Addr × V) => Dp W.K F (.ref q.1) p.1 ∧ Dp W.K F q.2 p.2) kvs ents ∧ kvs.length ≤ sizeLine := by
  obtain ⟨ob, xs, rfl, h2, ⟨es, ep, h3, h4, h5, h6, h7⟩, h8, h9⟩ := r
  obtain ⟨ents, e1, e2⟩ := ents_of h8
  refine ⟨es, ep, ents, ⟨ob, h1, h2, h3, h4, ?_⟩, e2, h9⟩
  unfold Ents
  rw [h5]
  exact e1
theorem EntAt.upd {H : Hp} {d v : Addr} {es : Array DictEntry} {ep : Nat} {ents : List (Addr × V)} {u : HO} (h : EntAt H d es ep ents) (hv : H v = none) : EntAt (upd H v u) d es ep ents := by
  obtain ⟨o, h1, r⟩ := h
  exact ⟨o, by rw [upd_ne (ne_of_none h1 hv)]; exact h1, r⟩
variable {p cp pos : Pos} {fe : FE}
def fMaxVals (f : FE) : FE := fun ρ Q => f ρ fun r ρ1 => match r with
  | .fz (.dct kvs) => (match intsD (kvs.map (·.2)) with
    | some ns => 0 < ns.length ∧ ∀ m, m ∈ ns → (∀ n ∈ ns, n ≤ m) → Q (.d (.int m)) ρ1
    | none => False)
  | _ => False
theorem de_maxVals {x : Str} (hc : X.calm = true) (hm : X.mg x = none) (he : DE X e fe) (hx : x = "max" := by rfl) (hg : Gl X x := by rfl) (hbase : attributeBase e "values" X.env (eval e X.env) = eval e X.env := by rfl) (hline : (apos.endLine == cpos.line) = true := by rfl)
    (hs : starEach [.Call (.Attribute e "values" apos) [] [] cpos] X.env = (false, eval (.Call (.Attribute e "values" apos) [] [] cpos) X.env) :: starEach [] X.env := by rfl) (hpl : (backTo pos (starEach [] X.env)).any (·.1) = false := by rfl) : DE X (.Call (.Name x p) [.Call (.Attribute e "values" apos) [] [] cpos] [] pos) (fMaxVals fe) := by
  subst hx
  obtain ⟨t, q, s⟩ := he.ex
  refine .of (pe_callB (call_maxVw hc) hg hm (by decide +kernel) (pa_cons (pe_vals q hbase hline) pa_nil hs) (by decide) (by decide) hs hpl) fun G F ρ σ H Q Q' R hf hq => ?_
  refine s G F ρ σ H _ _ R hf fun r ρ1 F1 H1 v q1 k1 R1 w1 => ?_
  split at q1
  · rename_i kvs
    split at q1
    · rename_i ns e
      obtain ⟨d, ho, rfl, h1, h2⟩ := w1
      obtain ⟨es, ep, ents, hE, hP, _⟩ := ent_of (R1.sub _ _ h1) h2
      refine ⟨d, es, ep, ents, rfl, hE, fun v hv => ?_⟩
      refine ⟨v, d, es, ep, ents, ns, rfl, ⟨upd_same, hE.upd hv⟩, intsD_ok (vals_dp hP) e, q1.1, fun m m1 m2 => ?_⟩
      exact hq _ _ (upd F1 v (exO v (viewO d))) _ _ (q1.2 m m1 m2) (k1.trans (same_upd (R1.nofree hv).1)) (R1.alloc hv _) (Dp.int m)
    · exact q1.elim
  · exact q1.elim
def fListVals (f : FE) : FN := fun ρ Q => f ρ fun r ρ1 => match r with
  | .fz (.dct kvs) => Q (.lst (kvs.map (·.2))) ρ1
  | _ => False
theorem dn_listVals {x : Str} (hc : X.calm = true) (hm : X.mg x = none) (he : DE X e fe) (hx : x = "list" := by rfl) (hg : Gl X x := by rfl) (hbase : attributeBase e "values" X.env (eval e X.env) = eval e X.env := by rfl) (hline : (apos.endLine == cpos.line) = true := by rfl)
    (hs : starEach [.Call (.Attribute e "values" apos) [] [] cpos] X.env = (false, eval (.Call (.Attribute e "values" apos) [] [] cpos) X.env) :: starEach [] X.env := by rfl) (hpl : (backTo pos (starEach [] X.env)).any (·.1) = false := by rfl) : DN X (.Call (.Name x p) [.Call (.Attribute e "values" apos) [] [] cpos] [] pos) (fListVals fe) := by
  subst hx
  obtain ⟨t, q, s⟩ := he.ex
  refine .of (pe_callTy (call_listVw hc) hg hm (by decide +kernel) (pa_cons (pe_vals q hbase hline) pa_nil hs) (by decide) (by decide) hs hpl) fun G F ρ σ H Q Q' R hf hq => ?_
  refine s G F ρ σ H _ _ R hf fun r ρ1 F1 H1 v q1 k1 R1 w1 => ?_
  split at q1
  · rename_i kvs
    obtain ⟨d, ho, rfl, h1, h2⟩ := w1
    obtain ⟨es, ep, ents, hE, hP, hl⟩ := ent_of (R1.sub _ _ h1) h2
    have hl2 := Paired.length hP
    refine ⟨d, es, ep, ents, rfl, hE, fun v hv => ?_⟩
    refine ⟨v, d, es, ep, ents, rfl, ⟨upd_same, hE.upd hv⟩, by omega, fun l hl => ?_⟩
    have k2 : Same F1 (upd F1 v (exO v (viewO d))) := same_upd (R1.nofree hv).1
    exact hq _ _ _ _ l q1 (k1.trans k2) ((R1.alloc hv _).push hl ⟨_, rfl, DpAll.mono k2 _ _ (vals_dp hP)⟩)
  · exact q1.elim
end
end Aq
/-! A17: dict(pairs); d.get(k, e), d.pop(k) of a dict of one's own. -/
namespace Aq
open PySem PySem.Spec PyProof.Rows L2
def pairsD : List D → Option (List (D × D))
  | [] => some []
  | .tuple [k, v] :: r => (pairsD r).map ((k, v) :: ·)
  | _ :: _ => none
theorem pairsD_some : ∀ {ds : List D} {kvs : List (D × D)}, pairsD ds = some kvs → ds = kvs.map fun p => .tuple [p.1, p.2]
  | [], kvs, h => by cases h; rfl
  | d :: r, kvs, h => by
    unfold pairsD at h
    split at h
    · rename_i e; cases e
    · rename_i k v r' e
      cases e
      obtain ⟨kvs', e, rfl⟩ := Option.map_eq_some_iff.mp h
      rw [List.map_cons, pairsD_some e]
    · cases h
theorem pairsD_map : ∀ kvs : List (D × D), pairsD (kvs.map fun p => .tuple [p.1, p.2]) = some kvs
  | [] => rfl
  | (k, v) :: r => by rw [List.map_cons]; simp only [pairsD, pairsD_map r]; rfl
section
variable {X : Cx} [Tb X.mg] {pins : List (Addr × Obj)} {σ : L2.St} {F H : Hp} {s : Shared}
theorem pairs_at (I : Inv X pins σ H s) (sF : Same F H) : ∀ {kvs : List (D × D)} {vs : List V}, DpAll X.K F vs (kvs.map fun p => .tuple [p.1, p.2]) → (∀ p ∈ kvs, (keyD p.1).isSome = true) →
    ∃ (ts : List Addr) (xs : List (NestedKey × Addr × Value)), vs = ts.map V.ref ∧ xs.length = ts.length ∧ (∀ (j : Nat) (t : Addr) (x : NestedKey × Addr × Value), ts[j]? = some t → xs[j]? = some x → s.heap.IsTuple t #[.ref x.2.1, x.2.2]) ∧ Paired (EnOk (wd X) F) kvs xs ∧ ∀ x ∈ xs, x.1.depth ≤ 8
  | [], vs, h, _ => by
    cases h
    exact ⟨[], [], rfl, rfl, fun j t x e => by simp at e, .nil, fun x hx => nomatch hx⟩
  | (kd, d) :: kvs, vs, h, hk => by
    cases h with
    | cons h1 h2 =>
      obtain ⟨ts, xs, rfl, hl, ht, hp, hd⟩ := pairs_at I sF h2 fun p hp => hk p (List.mem_cons_of_mem _ hp)
      obtain ⟨k, ek⟩ := Option.isSome_iff_exists.mp (hk _ List.mem_cons_self)
      cases h1 with
      | tup hs hd2 =>
        rename_i t us
        cases hd2 with
        | cons a1 a2 => cases a2 with
          | cons a3 a4 =>
            cases a4
            obtain ⟨b, rfl⟩ := dp_ref (F := F) a1 ek
            obtain ⟨its, rv, htup, _⟩ := I.tuple (SqT.mono sF hs)
            cases rv with
            | cons r1 r2 => cases r2 with
              | cons r3 r4 =>
                cases r4
                cases r1
                rename_i v _ u
                refine ⟨t :: ts, (k, b, u) :: xs, rfl, by simp [hl], fun j t' x e1 e2 => ?_, .cons ⟨keyD_of ek, a1, v, r3, a3⟩ hp, fun x hx => ?_⟩
                · cases j with
                  | zero =>
                    simp at e1 e2
                    subst e1 e2
                    exact htup
                  | succ j => exact ht j t' x (by simpa using e1) (by simpa using e2)
                · rcases List.mem_cons.mp hx with rfl | hx
                  · exact (keyD_some ek).2.2
                  · exact hd x hx
end
def rDictOf (W : Wd) : List V → Hp → VK → Prop := fun xs H Q => ∃ (F : Hp) (a : Addr) (vs : List V) (kvs : List (D × D)), xs = [.ref a] ∧ Same F H ∧ SqL W.K H a vs ∧ DpAll W.K F vs (kvs.map fun p => .tuple [p.1, p.2]) ∧ (∀ p ∈ kvs, (keyD p.1).isSome = true) ∧ (kvs.map fun p => keyOf p.1).Nodup ∧ kvs.length ≤ sizeLine ∧
  ∀ p ob, H p = none → RepO W F p (.dct kvs) (exO p ob) → Q (.ref p) (upd H p (exO p ob))
theorem refs_val : ∀ {ts : List Addr} {us : List Value}, Vals (ts.map V.ref) us → us = ts.map Value.ref
  | [], _, h => by cases h; rfl
  | t :: ts, us, h => by
    rw [List.map_cons] at h
    cases h with
    | cons a b =>
      cases a
      rw [List.map_cons, ← refs_val b]
section
variable {X : Cx} [Tb X.mg]
theorem call_dictOf (hu : X.A.units + 64 < cLine) (hc : X.calm = true) : CallR X (.type "dict") (rDictOf (wd X)) := by
  intro pins s σ H xs us Q I r h
  obtain ⟨F, a, vs, kvs, rfl, sF, hs, hd, hk, hnd, hz, q⟩ := h
  rw [Vals.ref1 r]
  obtain ⟨its, rv, ⟨o, n, ho, hcl, hdi, hdt⟩, _⟩ := I.list hs
  obtain ⟨ts, ys, rfl, hl, ht, hp, hdep⟩ := pairs_at I sF hd hk
  have ei := refs_val rv
  subst ei
  have hlk := Paired.length hp
  have kn : (ys.map (·.1)).Nodup := by
    have : ∀ {kvs : List (D × D)} {ys : List (NestedKey × Addr × Value)}, Paired (EnOk (wd X) F) kvs ys → (ys.map (·.1)).map some = kvs.map fun p => keyOf p.1 := fun {kvs ys} h => by
      induction h with
      | nil => rfl
      | @cons p q _ _ hp _ ih => rw [List.map_cons, List.map_cons, List.map_cons, ih, hp.1]
    rw [← this hp] at hnd
    exact List.Pairwise.of_map some (fun a b h e => h (congrArg some e)) hnd
  have his := ens_is I (EnOk.up sF hp) hdep
  have P := PairArg.list (prog := X.prog) (w := X.w) a (ts.map Value.ref).toArray (fun j => ts.getD j 0) (ys.map fun y => (Value.ref y.2.1, y.2.2))
  refine call_dict_pairsH (knd := nestedKind X.prog X.w) (ps := ys) P (I.ok.hd hc) ?_ ⟨⟨o, n, ho, hcl, hdi, hdt⟩, by simp [hl], fun j k v e => ?_⟩ ⟨by simp, fun i key v e => ?_⟩ (fun h' hk' x hx => nestedKind_stays.stays (fun b o' _ _ e _ => hk' b o' (Nat.ne_of_lt (Heap.lt_size e)) (fun z => nomatch z) e) (his x hx)) ?_ fun h' tk hd' hk' => ?_
  · show X.A.in1.in1.units + 8 < cLine
    have : X.A.in1.in1.units ≤ X.A.units + 2 := by show X.A.units + 1 + 1 ≤ X.A.units + 2; omega
    omega
  · rw [List.getElem?_map] at e
    obtain ⟨y, ey, ee⟩ := Option.map_eq_some_iff.mp e
    cases ee
    have hj : j < ts.length := by rw [← hl]; exact (List.getElem?_eq_some_iff.mp ey).1
    have et : ts[j]? = some ts[j] := List.getElem?_eq_getElem hj
    refine ⟨by simp [et], .inl ?_⟩
    have : ts.getD j 0 = ts[j] := by rw [List.getD_eq_getElem?_getD, et]; rfl
    show s.heap.IsTuple (ts.getD j 0) _
    rw [this]
    exact ht j _ y et ey
  · have e : (ys.map fun y => (Value.ref y.2.1, y.2.2))[i]? = some (key, v) := e
    rw [List.getElem?_map] at e
    obtain ⟨y, ey, ee⟩ := Option.map_eq_some_iff.mp e
    cases ee
    exact ⟨y.1, y.2.1, ey, rfl⟩
  · simp only [List.length_map]
    omega
  · rw [storedAllH_nil_of_nodup ys kn] at hd'
    obtain ⟨ob, es, ep, h1, h2, h3, h4, h5, h6⟩ := hd'
    exact ⟨.ref s.heap.objs.size, _, I.laid (t' := tk) (fun b ob e => hk' b ob (fun z => nomatch z) e) (Nat.le_refl _) (exO_ok h1), rfl, q _ ob (I.hok.fresh (Nat.le_refl _)) ⟨ob, ys, rfl, new_sys I, ⟨es, ep, h2, h3, h4, h6, hdep⟩, hp, hz⟩⟩
def fDictOf : FnN := fun ss Q => match ss with
  | [.d (.list ds)] => (match pairsD ds with
    | some kvs => (∀ p ∈ kvs, (keyD p.1).isSome = true) ∧ (kvs.map fun p => keyOf p.1).Nodup ∧ kvs.length ≤ sizeLine ∧ Q (.dct kvs)
    | none => False)
  | _ => False
theorem b_dictOf (hu : X.A.units + 64 < cLine) (hc : X.calm = true) : BFnN X (.type "dict") fDictOf := ⟨_, call_dictOf hu hc, fun G F ρ σ H ss vs Q Q' R w hf hq => by
  unfold fDictOf at hf
  split at hf
  · obtain ⟨v, rfl, w1⟩ := one_of w
    split at hf
    · rename_i kvs e
      have e2 := pairsD_some e
      subst e2
      cases w1 with
      | lst s1 d1 => exact ⟨F, _, _, kvs, rfl, R.sub, R.sub.seq s1, d1, hf.1, hf.2.1, hf.2.2.1, fun p ob hp hr => hq _ p _ hf.2.2.2 (R.push hp hr)⟩
    · exact hf.elim
  · exact hf.elim⟩
/-! ### d.get(k, e), d a dict of one's own; e an int, a bool, None -/
def rGetD2 (W : Wd) : V → List V → Hp → VK → Prop := fun x xs H Q => ∃ F a b kvs kd k y yd, x = .ref a ∧ xs = [.ref b, y] ∧ DAt W F H a kvs ∧ Dp W.K H (.ref b) kd ∧ keyD kd = some k ∧ Dp W.K F y yd ∧ ∀ w, Dp W.K F w ((dGet kvs k).getD yd) → Q w H
theorem mt_getD2 (hu : X.A.units + 64 < cLine) : MtR X "dict.get" (rGetD2 (wd X)) := by
  intro pins s σ H x xs v us Q I rx rs h
  obtain ⟨F, a, b, kvs, kd, k, y, yd, rfl, rfl, hD, hk, ek, hy, q⟩ := h
  cases rx
  cases rs with
  | cons r1 r2 => cases r2 with
    | cons r3 r4 =>
      cases r4
      cases r1
      obtain ⟨hd, xs, hp, hl, hm⟩ := hD.of I
      refine getOr_keyed (hroom (X := X) hu) (key_is I hk ek) hd ⟨xs, hm, rfl⟩ ?_
      rw [valueAt_pairsH]
      have hg := at_get (k := k) hp
      cases eg : dGet kvs k with
      | none =>
        rw [eg] at hg q
        rw [hg]
        exact ⟨y, H, I.tok _, r3, q _ hy⟩
      | some d =>
        rw [eg] at hg q
        obtain ⟨p, w, e1, rw', dw⟩ := hg
        rw [e1]
        exact ⟨w, H, I.tok _, rw', q w dw⟩
def fGetDN (i : Nat) (fb fc : FE) : FE := fun ρ Q => (match ownAt ρ i with | some (.dct _) => True | _ => False) ∧ fb ρ fun y ρ1 => fc ρ1 fun z ρ2 => match ownAt ρ2 i, y, z with
  | some (.dct kvs), .d kd, .d e => (match keyD kd with
    | some k => Q (.d ((dGet kvs k).getD e)) ρ2
    | none => False)
  | _, _, _ => False
theorem de_getDN (i : Nat) {x : Str} {b c : Expr} {fb fc : FE} {p apos cpos : Pos} (hu : X.A.units + 64 < cLine) (hb : DE X b fb) (hc : DE X c fc) (hN : X.N[i]? = some x := by rfl) (hv : Vis X.env.scope x := by first | exact Or.inl rfl | exact Or.inr (Or.inl rfl) | exact Or.inr (Or.inr rfl)) (hd : (x == ("__debug__" : Str)) = false := by decide)
    (hcd : (x == ("__classdict__" : Str)) = false := by decide)
    (hbase : attributeBase (.Name x p) "get" X.env (eval (.Name x p) X.env) = eval (.Name x p) X.env := by rfl)
    (hfew : ((backTo cpos (starEach [b, c] X.env)).all (fun x => !x.1) && (backToKw cpos (keywordEach [] X.env)).all (fun x => x.1.isSome)
      && decide (([b, c] : List Expr).length + ([] : List Keyword).length + (if ([] : List Keyword).isEmpty then 0 else 1) < 30)) = true := by rfl)
    (hline : (apos.endLine == cpos.line) = true := by rfl) (hs : starEach [b, c] X.env = (false, eval b X.env) :: starEach [c] X.env := by rfl) (hs2 : starEach [c] X.env = (false, eval c X.env) :: starEach [] X.env := by rfl) (hplain : (backTo cpos (starEach [c] X.env)).any (·.1) = false := by rfl) :
    DE X (.Call (.Attribute (.Name x p) "get" apos) [b, c] [] cpos) (fGetDN i fb fc) := by
  obtain ⟨tb, pb, sb⟩ := hb.ex
  obtain ⟨tc, pc, sc⟩ := hc.ex
  refine .of (pe_bmD PySem.F.slot_dict_get PySem.F.type_dict_get (mt_getD2 hu) (pv i hN hv hd hcd) (pa_cons pb (pa_cons pc pa_nil hs2) hs) hbase hfew hline hs hplain) fun G F ρ σ H Q Q' R hf hq => ?_
  obtain ⟨h0, hf⟩ := hf
  split at h0
  · rename_i kvs0 e0
    obtain ⟨ad, h2, ha, e3, e4, e5⟩ := R.ownAt e0
    refine ⟨.ref ad, ha, ⟨F, ad, kvs0, rfl, DAt.ofRep R.sub e4 e5⟩, ?_⟩
    refine sb G F ρ σ H _ _ R hf fun y ρ1 F1 H1 v1 q1 k1 R1 w1 => ?_
    refine sc G F1 ρ1 σ H1 _ _ R1 q1 fun z ρ2 F2 H2 v2 q2 k2 R2 w2 => ?_
    split at q2
    · rename_i kvs kd e eo
      split at q2
      · rename_i k ek
        obtain ⟨a2, h3, f2, f3, f4, f5⟩ := R2.ownAt eo
        rw [ha] at f2; cases f2
        have w1' := VOk.mono k2 w1
        obtain ⟨bd, rfl⟩ := dp_ref w1' ek
        exact ⟨F2, ad, bd, kvs, kd, k, v2, e, rfl, rfl, DAt.ofRep R2.sub f4 f5, Dp.mono R2.sub _ _ w1', ek, w2, fun w dw => hq _ ρ2 F2 H2 w q2 (k1.trans k2) R2 dw⟩
      · exact q2.elim
    · exact q2.elim
  · exact h0.elim
/-! ### d.pop(k), d a dict of one's own -/
def dDel (kvs : List (D × D)) (k : NestedKey) : List (D × D) := kvs.filter fun p => decide (keyOf p.1 ≠ some k)
theorem del_ok {W : Wd} {F : Hp} {k : NestedKey} {kvs : List (D × D)} {xs : List (NestedKey × Addr × Value)} (h : Paired (EnOk W F) kvs xs) : Paired (EnOk W F) (dDel kvs k) (withoutH xs k) := by
  unfold dDel withoutH
  induction h with
  | nil => exact .nil
  | @cons p q ps qs hp t ih =>
    have h1 : keyOf p.1 = some q.1 := hp.1
    by_cases e : q.1 = k
    · have e2 : keyOf p.1 = some k := by rw [h1, e]
      rw [List.filter_cons, List.filter_cons, if_neg (by simp [e2]), if_neg (by simp [e])]
      exact ih
    · have e2 : ¬ keyOf p.1 = some k := fun z => e (by rw [h1] at z; exact Option.some.inj z)
      rw [List.filter_cons, List.filter_cons, if_pos (by simp [e2]), if_pos (by simp [e])]
      exact .cons hp ih
def rPopD (W : Wd) : V → List V → Hp → VK → Prop := fun x xs H Q => ∃ F a b ob ys kvs kd k d, x = .ref a ∧ xs = [.ref b] ∧ Same F H ∧ H a = some (exO a ob) ∧ (a == sysModules) = false ∧ DOb W ob ys ∧ Paired (EnOk W F) kvs ys ∧ kvs.length ≤ sizeLine ∧ Dp W.K F (.ref b) kd ∧ keyD kd = some k ∧ dGet kvs k = some d ∧
  ∀ w ob', Dp W.K F w d → RepO W F a (.dct (dDel kvs k)) (exO a ob') → Q w (upd H a (exO a ob'))
theorem mt_popD (hu : X.A.units + 64 < cLine) : MtR X "dict.pop" (rPopD (wd X)) := by
  intro pins s σ H x xs v us Q I rx rs h
  obtain ⟨F, a, b, ob, ys, kvs, kd, k, d, rfl, rfl, sF, hH, hd, hD, hp, hl, hk, ek, eg, q⟩ := h
  cases rx
  cases rs with
  | cons r1 r2 =>
    cases r2
    cases r1
    have hdep : ∀ x ∈ ys, x.1.depth ≤ 8 := let ⟨_, _, _, _, _, _, h7⟩ := hD
      h7
    have hm : s.heap.DictOfH (nestedKind X.prog X.w) a ys := by
      obtain ⟨es, ep, h3, h4, h5, h6, h7⟩ := id hD
      exact ⟨ob, es, ep, DAt.obj I hH, h3, h4, h5, ens_is I (EnOk.up sF hp) h7, h6⟩
    have el := Paired.length hp
    have hg := at_get (k := k) hp
    rw [eg] at hg
    obtain ⟨p, w, e1, rw', dw⟩ := hg
    refine call_pop_heap (hsz := by rw [← el]; exact hl) (.inl rfl) (PySem.F.args_dict_pop_2 _ _) (hroom (X := X) hu) (key_is I (Dp.mono sF _ _ hk) ek) hd hm e1 fun h' hm' hs => ?_
    obtain ⟨o', es', ep', ho, hx, hdt, htl, _, hn⟩ := hm'
    have D' : DOb (wd X) o' (withoutH ys k) := ⟨es', ep', hx, hdt, htl, hn, fun x hx => hdep x (List.mem_filter.mp hx).1⟩
    refine ⟨w, _, d_write I (by rw [hH]; exact True.intro) hs ⟨_, ho⟩ (exO_ok ho), rw', q w o' dw ⟨o', _, rfl, hd, D', del_ok hp, Nat.le_trans (List.length_filter_le _ _) hl⟩⟩
def fPopDN (i : Nat) (fb : FE) : FE := fun ρ Q => (match ownAt ρ i with | some (.dct _) => True | _ => False) ∧ fb ρ fun y ρ1 => match ownAt ρ1 i, y with
  | some (.dct kvs), .d kd => (match keyD kd with
    | some k => (match dGet kvs k with
      | some d => Q (.d d) (ρ1.set i (owned ρ1 i (.dct (dDel kvs k))))
      | none => False)
    | none => False)
  | _, _ => False
theorem de_popDN (i : Nat) {x : Str} {b : Expr} {fb : FE} {p apos cpos : Pos} (hu : X.A.units + 64 < cLine) (hb : DE X b fb) (hN : X.N[i]? = some x := by rfl) (hv : Vis X.env.scope x := by first | exact Or.inl rfl | exact Or.inr (Or.inl rfl) | exact Or.inr (Or.inr rfl)) (hd : (x == ("__debug__" : Str)) = false := by decide)
    (hcd : (x == ("__classdict__" : Str)) = false := by decide)
    (hbase : attributeBase (.Name x p) "pop" X.env (eval (.Name x p) X.env) = eval (.Name x p) X.env := by rfl)
    (hfew : ((backTo cpos (starEach [b] X.env)).all (fun x => !x.1) && (backToKw cpos (keywordEach [] X.env)).all (fun x => x.1.isSome)
      && decide (([b] : List Expr).length + ([] : List Keyword).length + (if ([] : List Keyword).isEmpty then 0 else 1) < 30)) = true := by rfl)
    (hline : (apos.endLine == cpos.line) = true := by rfl) (hs : starEach [b] X.env = (false, eval b X.env) :: starEach [] X.env := by rfl) (hplain : (backTo cpos (starEach [] X.env)).any (·.1) = false := by rfl) :
    DE X (.Call (.Attribute (.Name x p) "pop" apos) [b] [] cpos) (fPopDN i fb) := by
  obtain ⟨tb, pb, sb⟩ := hb.ex
  refine .of (pe_bmD PySem.F.slot_dict_pop PySem.F.type_dict_pop (mt_popD hu) (pv i hN hv hd hcd) (pa_cons pb pa_nil hs) hbase hfew hline hs hplain) fun G F ρ σ H Q Q' R hf hq => ?_
  obtain ⟨h0, hf⟩ := hf
  split at h0
  · rename_i kvs0 e0
    obtain ⟨ad, h2, ha, e3, e4, e5⟩ := R.ownAt e0
    refine ⟨.ref ad, ha, ⟨F, ad, kvs0, rfl, DAt.ofRep R.sub e4 e5⟩, ?_⟩
    refine sb G F ρ σ H _ _ R hf fun y ρ1 F1 H1 v1 q1 k1 R1 w1 => ?_
    split at q1
    · rename_i kvs kd eo
      split at q1
      · rename_i k ek
        split at q1
        · rename_i d ed
          obtain ⟨a2, h3, f2, f3, f4, ob, ys, rfl, g2, g3, g4, g5⟩ := R1.ownAt eo
          rw [ha] at f2; cases f2
          obtain ⟨bd, rfl⟩ := dp_ref w1 ek
          exact ⟨F1, ad, bd, ob, ys, kvs, kd, k, d, rfl, rfl, R1.sub, f4, g2, g3, g4, g5, w1, ek, ed, fun w ob' dw hr => hq _ _ F1 _ w q1 k1 (R1.put (ownAt_or eo) ha hr) dw⟩
        · exact q1.elim
      · exact q1.elim
    · exact q1.elim
  · exact h0.elim
end
end Aq
/-! B12: the walk through all stands is whole, goes by the lengths of runs, and its runs lead there. -/
namespace Aq
open PySem PySem.Spec PyProof.Rows L2
def RunOk (p : Pl) (e : Stn × List Int) : Prop := e.1 = ledTo p (firstStand p) e.2 ∧ ∀ c ∈ e.2, c ∈ changesI p
/-- no run is shorter than one ahead of it -/
def Srt (f : Fd) : Prop := f.Pairwise fun a b => a.2.length ≤ b.2.length
def Has (p : Pl) (f : Fd) (e : Stn × List Int) (c : Int) : Prop := ∃ e' ∈ f, e'.1 = behind p e.1 c ∧ e'.2.length ≤ e.2.length + 1
structure Ex (p : Pl) (n : Nat) (f : Fd) : Prop where
  top : ∀ e ∈ f, e.2.length ≤ n + 1
  srt : Srt f
  run : ∀ e ∈ f, RunOk p e
theorem addC_ex {p : Pl} {s : Stn} {run : List Int} {f : Fd} {c : Int} (hr : RunOk p (s, run)) (hc : c ∈ changesI p) (x : Ex p run.length f) : Ex p run.length (addC p s run f c) ∧ Has p (addC p s run f c) (s, run) c := by
  unfold addC
  split
  · rename_i h
    obtain ⟨e, he, e1⟩ := List.any_eq_true.mp h
    exact ⟨x, e, he, of_decide_eq_true e1, x.top e he⟩
  · refine ⟨⟨fun e he => ?_, ?_, fun e he => ?_⟩, (behind p s c, run ++ [c]), by simp, rfl, by simp⟩
    · rcases List.mem_append.mp he with h | h
      · exact x.top e h
      · rw [List.mem_singleton.mp h]; simp
    · unfold Srt
      rw [List.pairwise_append]
      refine ⟨x.srt, List.pairwise_singleton _ _, fun a ha b hb => ?_⟩
      rw [List.mem_singleton.mp hb]
      simpa using x.top a ha
    · rcases List.mem_append.mp he with h | h
      · exact x.run e h
      · rw [List.mem_singleton.mp h]
        refine ⟨?_, fun d hd => ?_⟩
        · show behind p s c = ledTo p (firstStand p) (run ++ [c])
          rw [ledTo_snoc, ← hr.1]
        · rcases List.mem_append.mp hd with q | q
          · exact hr.2 d q
          · rw [List.mem_singleton.mp q]; exact hc
theorem Has.pre {p : Pl} {f g : Fd} {e : Stn × List Int} {c : Int} (h : Has p f e c) : Has p (f ++ g) e c :=
  let ⟨e', h1, h2⟩ := h
  ⟨e', List.mem_append_left _ h1, h2⟩
theorem foldC_ex {p : Pl} {s : Stn} {run : List Int} (hr : RunOk p (s, run)) : ∀ (cs : List Int) (f : Fd), (∀ c ∈ cs, c ∈ changesI p) → Ex p run.length f → Ex p run.length (cs.foldl (addC p s run) f) ∧ ∀ c ∈ cs, Has p (cs.foldl (addC p s run) f) (s, run) c
  | [], f, _, x => ⟨x, fun _ h => nomatch h⟩
  | c :: cs, f, hc, x => by
    obtain ⟨x1, h1⟩ := addC_ex hr (hc c List.mem_cons_self) x
    obtain ⟨x2, h2⟩ := foldC_ex hr cs (addC p s run f c) (fun d hd => hc d (List.mem_cons_of_mem _ hd)) x1
    rw [List.foldl_cons]
    refine ⟨x2, fun d hd => ?_⟩
    rcases List.mem_cons.mp hd with rfl | hd
    · obtain ⟨g, e⟩ := foldC_pre (p := p) (s := s) (run := run) cs (addC p s run f d)
      rw [e]
      exact h1.pre
    · exact h2 d hd
structure Bf (p : Pl) (i : Nat) (f : Fd) : Prop where
  good : GoodF p f
  pre : ∀ (j : Nat) (e : Stn × List Int), j < i → f[j]? = some e → ∀ c ∈ changesI p, Has p f e c
  srt : Srt f
  run : ∀ e ∈ f, RunOk p e
  top : ∀ e, f[i]? = some e → ∀ e' ∈ f, e'.2.length ≤ e.2.length + 1
theorem bf0 {p : Pl} (ok : p.ok) : Bf p 0 [(firstStand p, [])] := by
  refine ⟨good0 ok, fun j e hj => absurd hj (Nat.not_lt_zero _), List.pairwise_singleton _ _, fun e he => ?_, fun e _ e' he' => ?_⟩
  · rw [List.mem_singleton.mp he]
    exact ⟨rfl, fun c hc => nomatch hc⟩
  · rw [List.mem_singleton.mp he']
    simp
theorem Srt.at {f : Fd} (h : Srt f) {i j : Nat} {a b : Stn × List Int} (hij : i < j) (ha : f[i]? = some a) (hb : f[j]? = some b) : a.2.length ≤ b.2.length := by
  obtain ⟨h1, e1⟩ := List.getElem?_eq_some_iff.mp ha
  obtain ⟨h2, e2⟩ := List.getElem?_eq_some_iff.mp hb
  subst e1 e2
  exact List.pairwise_iff_getElem.mp h i j h1 h2 hij
theorem Bf.step {p : Pl} (ok : p.ok) {i : Nat} {f : Fd} {s : Stn} {run : List Int} (x : Bf p i f) (h : f[i]? = some (s, run)) : Bf p (i + 1) (expand p f s run) := by
  have hm := List.mem_of_getElem? h
  have hr := x.run _ hm
  obtain ⟨y, hy⟩ := foldC_ex hr (changesI p) f (fun _ hc => hc) ⟨x.top _ h, x.srt, x.run⟩
  have hg : GoodF p (expand p f s run) := by
    have hlt := (List.getElem?_eq_some_iff.mp h).1
    have := x.good.run i _ h
    exact foldC_good ok (x.good.fits _ hm) (changesI p) f (by simp at this; omega) x.good
  obtain ⟨g, eg⟩ := foldC_pre (p := p) (s := s) (run := run) (changesI p) f
  have eg : expand p f s run = f ++ g := eg
  have y : Ex p run.length (expand p f s run) := y
  have hy : ∀ c ∈ changesI p, Has p (expand p f s run) (s, run) c := hy
  refine ⟨hg, fun j e hj he c hc => ?_, y.srt, y.run, fun e he e' he' => ?_⟩
  · have hlt := (List.getElem?_eq_some_iff.mp h).1
    by_cases q : j = i
    · subst q
      rw [eg, List.getElem?_append_left hlt, h] at he
      cases he
      exact hy c hc
    · rw [eg, List.getElem?_append_left (by omega)] at he
      have := x.pre j e (by omega) he c hc
      rw [eg]
      exact this.pre
  · have hlt := (List.getElem?_eq_some_iff.mp h).1
    have h' : (expand p f s run)[i]? = some (s, run) := by rw [eg, List.getElem?_append_left hlt]; exact h
    have h1 := Srt.at y.srt (Nat.lt_succ_self i) h' he
    have h2 := y.top e' he'
    simp at h1
    omega
/-- all is gone through -/
structure Whole (p : Pl) (f : Fd) : Prop where
  good : GoodF p f
  all : ∀ e ∈ f, ∀ c ∈ changesI p, Has p f e c
  srt : Srt f
  run : ∀ e ∈ f, RunOk p e
theorem waysGo_whole {p : Pl} (ok : p.ok) : ∀ (m i : Nat) (f : Fd), Bf p i f → WB ≤ i + m → Whole p (waysGo p m i f)
  | 0, i, f, x, hm => ⟨x.good, fun e he c hc => by
      have he : e ∈ f := he
      obtain ⟨j, hj, rfl⟩ := List.mem_iff_getElem.mp he
      have := x.good.len ok
      exact x.pre j _ (by omega) (List.getElem?_eq_getElem hj) c hc, x.srt, x.run⟩
  | m + 1, i, f, x, hm => by
    unfold waysGo
    split
    · rename_i s run h
      exact waysGo_whole ok m (i + 1) _ (x.step ok h) (by omega)
    · rename_i h
      refine ⟨x.good, fun e he c hc => ?_, x.srt, x.run⟩
      obtain ⟨j, hj, rfl⟩ := List.mem_iff_getElem.mp he
      rw [List.getElem?_eq_none_iff] at h
      exact x.pre j _ (by omega) (List.getElem?_eq_getElem hj) c hc
theorem ways_whole {p : Pl} (ok : p.ok) : Whole p (waysOf p) := waysGo_whole ok _ _ _ (bf0 ok) (by omega)
theorem waysGo_first {p : Pl} : ∀ (m i : Nat) (f : Fd) (e : Stn × List Int), f[0]? = some e → (waysGo p m i f)[0]? = some e
  | 0, _, _, _, h => h
  | m + 1, i, f, e, h => by
    unfold waysGo
    split
    · rename_i s run _
      refine waysGo_first m (i + 1) _ e ?_
      obtain ⟨g, eg⟩ := foldC_pre (p := p) (s := s) (run := run) (changesI p) f
      have eg : expand p f s run = f ++ g := eg
      rw [eg, List.getElem?_append_left (List.getElem?_eq_some_iff.mp h).1]
      exact h
    · exact h
theorem ways_first (p : Pl) : (firstStand p, []) ∈ waysOf p := List.mem_of_getElem? (waysGo_first _ _ _ _ rfl)
/-- what a run leads to is found, by a run that is no longer -/
theorem ways_led {p : Pl} (ok : p.ok) (cs : List Int) (h : ∀ c ∈ cs, c ∈ changesI p) : ∃ e ∈ waysOf p, e.1 = ledTo p (firstStand p) cs ∧ e.2.length ≤ cs.length := by
  have go : ∀ (ds cs : List Int), (∀ c ∈ ds, c ∈ changesI p) → (∃ e ∈ waysOf p, e.1 = ledTo p (firstStand p) cs ∧ e.2.length ≤ cs.length) → ∃ e ∈ waysOf p, e.1 = ledTo p (firstStand p) (cs ++ ds) ∧ e.2.length ≤ (cs ++ ds).length := by
    intro ds
    induction ds with
    | nil => intro cs _ h; simpa using h
    | cons d ds ih =>
      intro cs hd ⟨e, he, e1, e2⟩
      obtain ⟨e', he', e3, e4⟩ := (ways_whole ok).all e he d (hd d List.mem_cons_self)
      have := ih (cs ++ [d]) (fun c hc => hd c (List.mem_cons_of_mem _ hc)) ⟨e', he', by rw [e3, e1, ledTo_snoc], by simp; omega⟩
      simpa using this
  simpa using go cs [] h ⟨_, ways_first p, rfl, Nat.le_refl _⟩
theorem changes_pos {p : Pl} (ok : p.ok) : 0 < (changesI p).length := by
  unfold changesI
  have := ok.w1
  simp
  omega
theorem changes_len {p : Pl} (ok : p.ok) : (changesI p).length ≤ 7 := by
  unfold changesI
  have := ok.w0
  have := ok.w2
  simp
  omega
theorem mem_changes {p : Pl} {c : Int} : c ∈ changesI p ↔ p.wl ≤ c ∧ c ≤ p.wh := by
  unfold changesI
  simp only [List.mem_map, List.mem_range]
  constructor
  · rintro ⟨i, hi, rfl⟩
    omega
  · rintro ⟨h1, h2⟩
    exact ⟨(c - p.wl).toNat, by omega, by omega⟩
/-! ### stands as a list -/
def standsOf (p : Pl) : List Stn := (waysOf p).map (·.1)
theorem stands_nodup {p : Pl} (ok : p.ok) : (standsOf p).Nodup := (ways_good ok).nd
theorem stands_closed {p : Pl} (ok : p.ok) {s : Stn} (h : s ∈ standsOf p) {c : Int} (hc : c ∈ changesI p) : behind p s c ∈ standsOf p := by
  obtain ⟨e, he, rfl⟩ := List.mem_map.mp h
  obtain ⟨e', he', e1, _⟩ := (ways_whole ok).all e he c hc
  exact List.mem_map.mpr ⟨e', he', e1⟩
theorem stands_fits {p : Pl} (ok : p.ok) {s : Stn} (h : s ∈ standsOf p) : s.fits p := by
  obtain ⟨e, he, rfl⟩ := List.mem_map.mp h
  exact (ways_good ok).fits e he
theorem stands_first (p : Pl) : firstStand p ∈ standsOf p := List.mem_map.mpr ⟨_, ways_first p, rfl⟩
theorem stands_len {p : Pl} (ok : p.ok) : (standsOf p).length ≤ 262144 := by
  unfold standsOf
  rw [List.length_map]
  exact ways_len ok
theorem stands_pos (p : Pl) : 0 < (standsOf p).length := by
  unfold standsOf
  rw [List.length_map]
  exact ways_pos p
theorem stands_keys (p : Pl) : (kvsF (waysOf p)).map (·.1) = (standsOf p).map Stn.d := by
  unfold kvsF standsOf
  rw [List.map_map, List.map_map]
  rfl
/-! ### tables over stands -/
def tabD (l : List Stn) (g : Stn → D) : List (D × D) := l.map fun s => (s.d, g s)
theorem dGet_tab {l : List Stn} {g : Stn → D} {s : Stn} : dGet (tabD l g) (skey s) = if s ∈ l then some (g s) else none := by
  unfold dGet tabD
  rw [List.find?_map, Option.map_map]
  have e : ((fun p : D × D => decide (keyOf p.1 = some (skey s))) ∘ fun t : Stn => (t.d, g t)) = fun t => decide (t = s) := by
    funext t
    exact key_dec t s
  rw [e]
  induction l with
  | nil => rfl
  | cons t l ih =>
    rw [List.find?_cons]
    by_cases q : t = s
    · subst q; simp
    · simp only [q, decide_false, ih, List.mem_cons]
      have : (s = t ∨ s ∈ l) ↔ s ∈ l := ⟨fun h => h.resolve_left (fun z => q z.symm), .inr⟩
      simp only [this]
theorem dPut_tab {l : List Stn} {g : Stn → D} {s : Stn} (h : s ∉ l) (d : D) : dPut (tabD l g) s.d d = tabD l g ++ [(s.d, d)] := by
  have : ((tabD l g).find? fun p => decide (keyOf p.1 = keyOf s.d)) = none := by
    have h0 := dGet_tab (l := l) (g := g) (s := s)
    rw [if_neg h] at h0
    unfold dGet at h0
    rw [Option.map_eq_none_iff] at h0
    rw [keyOf_stn]
    exact h0
  unfold dPut
  rw [this]
  rfl
theorem dPut_tab_old {l : List Stn} {g : Stn → D} {s : Stn} (h : s ∈ l) (d : D) : dPut (tabD l g) s.d d = tabD l (fun t => if t = s then d else g t) := by
  have : ((tabD l g).find? fun p => decide (keyOf p.1 = keyOf s.d)).isSome = true := by
    have h0 := dGet_tab (l := l) (g := g) (s := s)
    rw [if_pos h] at h0
    unfold dGet at h0
    obtain ⟨p, hp, _⟩ := Option.map_eq_some_iff.mp h0
    rw [keyOf_stn, hp]
    rfl
  unfold dPut
  rw [if_pos this]
  unfold tabD
  rw [List.map_map]
  refine List.map_congr_left fun t _ => ?_
  simp only [Function.comp, keyOf_stn, Option.some.injEq]
  by_cases q : t = s
  · subst q; simp
  · have : ¬ skey t = skey s := fun z => q (skey_inj z)
    simp [q, this]
theorem tab_len (l : List Stn) (g : Stn → D) : (tabD l g).length = l.length := by simp [tabD]
theorem tab_snoc (l : List Stn) (g : Stn → D) (s : Stn) : tabD (l ++ [s]) g = tabD l g ++ [(s.d, g s)] := by simp [tabD]
theorem tab_keys (l : List Stn) (g : Stn → D) : (tabD l g).map (·.1) = l.map Stn.d := by
  unfold tabD
  rw [List.map_map]
  rfl
theorem tab_vals (l : List Stn) (g : Stn → D) : (tabD l g).map (·.2) = l.map g := by
  unfold tabD
  rw [List.map_map]
  rfl
/-- {s: e for s in stands} -/
theorem dc_tab {i : Nat} {fv : FE} {ρ : List S} {g : Stn → D} {Q : List (D × D) → List S → Prop} (hi : ρ[i]? = some S.no) : ∀ (l pre : List Stn), (pre ++ l).Nodup → pre.length + l.length ≤ sizeLine →
    (∀ s ∈ l, ∀ Q2 : S → List S → Prop, Q2 (.d (g s)) (ρ.set i (.d s.d)) → fv (ρ.set i (.d s.d)) Q2) → Q (tabD (pre ++ l) g) ρ → dcGo (gNm i) fYes (fVar i) fv [i] (l.map Stn.d) (tabD pre g) ρ Q
  | [], pre, _, _, _, h => by simpa [dcGo] using h
  | s :: l, pre, hn, hz, hs, h => by
    have hlt : i < ρ.length := (List.getElem?_eq_some_iff.mp hi).1
    rw [List.map_cons]
    unfold dcGo
    refine ⟨by unfold settable; rw [hi]; trivial, ?_⟩
    have e1 : fVar i (ρ.set i (.d s.d)) = fun Q => Q (.d s.d) (ρ.set i (.d s.d)) := by
      unfold fVar
      simp [List.getElem?_set_self hlt]
    simp only [fYes, if_true, e1]
    refine hs s List.mem_cons_self _ ?_
    have hns : s ∉ pre := fun z => by
      rw [List.nodup_append] at hn
      exact hn.2.2 s z s List.mem_cons_self rfl
    refine ⟨by rw [keyD_stn]; rfl, by rw [tab_len]; simp at hz; omega, ?_⟩
    have e : wipeS (ρ.set i (.d s.d)) [i] = ρ := set_no hi
    rw [e, dPut_tab hns, ← tab_snoc]
    exact dc_tab hi l (pre ++ [s]) (by simpa using hn) (by simp at hz ⊢; omega) (fun t ht => hs t (List.mem_cons_of_mem _ ht)) (by simpa using h)
end Aq
/-! B13: both at once; switchings. -/
namespace Aq
open PySem PySem.Spec PyProof.Rows L2
def bothB (p : Pl) (s : Stn) : Bool := (partH p s).runs && (partC p s).runs
def bothR (p : Pl) : D := match (waysOf p).find? fun e => bothB p e.1 with
  | some e => runD (e.2 ++ [p.wl])
  | none => .none
def turnsOf (p : Pl) (s : Stn) : Int := bN ((partH p s).runs != s.h.runs) + bN ((partC p s).runs != s.c.runs)
def maxL : List Int → Int
  | [] => 0
  | x :: xs => xs.foldl (fun a b => if a < b then b else a) x
theorem foldl_max : ∀ (xs : List Int) (x : Int), IsMax (x :: xs) (xs.foldl (fun a b => if a < b then b else a) x)
  | [], x => ⟨List.mem_cons_self, fun n hn => by rw [List.mem_singleton.mp hn]; exact Int.le_refl _⟩
  | y :: ys, x => by
    rw [List.foldl_cons]
    obtain ⟨h1, h2⟩ := foldl_max ys (if x < y then y else x)
    have h3 := h2 _ List.mem_cons_self
    refine ⟨?_, fun n hn => ?_⟩
    · rcases List.mem_cons.mp h1 with e | h
      · rw [e]
        split
        · simp
        · simp
      · exact List.mem_cons_of_mem _ (List.mem_cons_of_mem _ h)
    · have h4 : x ≤ if x < y then y else x := by split <;> omega
      have h5 : y ≤ if x < y then y else x := by split <;> omega
      rcases List.mem_cons.mp hn with e | hn
      · rw [e]; exact Int.le_trans h4 h3
      · rcases List.mem_cons.mp hn with e | hn
        · rw [e]; exact Int.le_trans h5 h3
        · exact h2 n (List.mem_cons_of_mem _ hn)
theorem maxL_max {ns : List Int} (h : 0 < ns.length) : IsMax ns (maxL ns) := by
  cases ns with
  | nil => simp at h
  | cons x xs => exact foldl_max xs x
theorem max_eq {ns : List Int} {m : Int} (h1 : m ∈ ns) (h2 : ∀ n ∈ ns, n ≤ m) : m = maxL ns := IsMax.eq ⟨h1, h2⟩ (maxL_max (List.length_pos_of_mem h1))
/-- the most switchings in so many ticks from a stand on -/
def mostAt (p : Pl) : Nat → Stn → Int
  | 0, _ => 0
  | k + 1, s => turnsOf p s + maxL ((changesI p).map fun c => mostAt p k (behind p s c))
def mostOf (p : Pl) (n : Nat) : Int := maxL ((standsOf p).map (mostAt p n))
def fn_both_run : Fn := fnPS fun p s => .bool (bothB p s)
def fn_both_by : Fn := fun ss Q => match ss with
  | [.d x] => (match planOf x with | some p => p.ok ∧ Q (.d (bothR p)) | none => False)
  | _ => False
def fn_first_both : Fn := fn_both_by
def fn_switched : Fn := fnPS fun p s => .int (turnsOf p s)
def fn__law_turns : Fn := fn_switched
def fn_look_at_ticks : Fn := fun ss Q => match ss with
  | [.d v] => isWithin v 1 20 = true ∧ Q (.d .none)
  | _ => False
def fn_most_switchings : Fn := fun ss Q => match ss with
  | [.d x, .d (.int t)] => (match planOf x with | some p => (p.ok ∧ 1 ≤ t ∧ t ≤ 20) ∧ Q (.d (.int (mostOf p t.toNat))) | none => False)
  | _ => False
def fn__law_most : Fn := fun ss Q => match ss with
  | [.d x, .fz o, .d (.int t)] => (match planOf x with | some p => (p.ok ∧ o = .dct (kvsF (waysOf p)) ∧ 1 ≤ t ∧ t ≤ 20) ∧ Q (.d (.int (mostOf p t.toNat))) | none => False)
  | _ => False
theorem n_both_run : ∀ ss Q, fn_both_run ss Q → ss.length = 2 := n_PS
theorem n_switched : ∀ ss Q, fn_switched ss Q → ss.length = 2 := n_PS
theorem n__law_turns : ∀ ss Q, fn__law_turns ss Q → ss.length = 2 := n_PS
theorem n_both_by : ∀ ss Q, fn_both_by ss Q → ss.length = 1 := by
  intro ss Q h
  unfold fn_both_by at h
  split at h
  · rfl
  · exact h.elim
theorem n_first_both : ∀ ss Q, fn_first_both ss Q → ss.length = 1 := n_both_by
theorem n_look_at_ticks : ∀ ss Q, fn_look_at_ticks ss Q → ss.length = 1 := by
  intro ss Q h
  unfold fn_look_at_ticks at h
  split at h
  · rfl
  · exact h.elim
theorem n_most_switchings : ∀ ss Q, fn_most_switchings ss Q → ss.length = 2 := by
  intro ss Q h
  unfold fn_most_switchings at h
  split at h
  · rfl
  · exact h.elim
theorem n__law_most : ∀ ss Q, fn__law_most ss Q → ss.length = 3 := by
  intro ss Q h
  unfold fn__law_most at h
  split at h
  · rfl
  · exact h.elim
def g_both_run : FS := (sSeq (sAsg (fCall fn_parts_by (fCons (fVar 0) (fCons (fVar 1) fNil))) (gTp 2 (gsCons (gNm 2) (gsCons (gNm 3) gsNil))))
    (sRet (fAndV (fOp fIx (fVar 2) (fC (.int 0))) (fOp fIx (fVar 3) (fC (.int 0))))))
def g_both_by_1 : FS := (sIf (fTest (fCall fn_both_run (fCons (fVar 0) (fCons (fVar 1) fNil)))) (sRet (fOp fAdd (fVar 2) (fTup (fCons (fOp fIx (fOp fIx (fVar 0) (fC (.int 3))) (fC (.int 0))) fNil)))) sNext)
def g_both_by : FS := (sSeq (sFor (fiItemsZ (fStill (fCallN fn_ways_by (fCons (fVar 0) fNil)))) (gTp 2 (gsCons (gNm 1) (gsCons (gNm 2) gsNil))) g_both_by_1)
    (sRet (fC .none)))
def g_first_both : FS := (sSeq (sExpr (fCall fn_look_at_plan (fCons (fVar 0) fNil)))
    (sRet (fCall fn_both_by (fCons (fVar 0) fNil))))
def g_switched : FS := (sSeq (sAsg (fCall fn_parts_by (fCons (fVar 0) (fCons (fVar 1) fNil))) (gTp 2 (gsCons (gNm 2) (gsCons (gNm 3) gsNil))))
    (sRet (fOp fAdd (fCall fInt (fCons (fOp (fEq true) (fOp fIx (fVar 2) (fC (.int 0))) (fOp fIx (fOp fIx (fVar 1) (fC (.int 2))) (fC (.int 0)))) fNil)) (fCall fInt (fCons (fOp (fEq true) (fOp fIx (fVar 3) (fC (.int 0))) (fOp fIx (fOp fIx (fVar 1) (fC (.int 3))) (fC (.int 0)))) fNil)))))
def g_look_at_ticks : FS := (sIf (fNot (fTest (fCall fn_is_within (fCons (fVar 0) (fCons (fC (.int 1)) (fCons (fC (.int 20)) fNil)))))) sNever sNext)
def g_most_switchings_1 : FS := (sRet (fMaxVals (fVar 7)))
def g_most_switchings_2 : FS := (sAsg (fStill (fnDc (fiKeysZ (fVar 2)) (gNm 4) fYes (fVar 4) (fOp fAdd (fOp fIxZ (fVar 6) (fVar 4)) (fCall fMaxL (fCons (fStill (fnLc (fiLst (fOp fIxZ (fVar 3) (fVar 4))) (gNm 9) fYes (fOp fIxZ (fVar 7) (fVar 9)) [9])) fNil))) [4])) (gNm 7))
def g_most_switchings_3 : FS := (sSeq (sFor (fiR1 (fCons (fVar 1) fNil)) (gNm 8) g_most_switchings_2)
    g_most_switchings_1)
def g_most_switchings_4 : FS := (sSeq (sMix [6, 7] (fmS (fStill (fnDc (fiKeysZ (fVar 2)) (gNm 4) fYes (fVar 4) (fCall fn_switched (fCons (fVar 0) (fCons (fVar 4) fNil))) [4])) (fmS (fStill (fnDc (fiKeysZ (fVar 2)) (gNm 4) fYes (fVar 4) (fC (.int 0)) [4])) fmNil)))
    g_most_switchings_3)
def g_most_switchings_5 : FS := (sSeq (sAsg (fStill (fnDc (fiKeysZ (fVar 2)) (gNm 4) fYes (fVar 4) (fStill (fnLc (fiLst (fCall fn_changes_of (fCons (fVar 0) fNil))) (gNm 5) fYes (fCall fn_behind (fCons (fVar 0) (fCons (fVar 4) (fCons (fVar 5) fNil)))) [5])) [4])) (gNm 3))
    g_most_switchings_4)
def g_most_switchings_6 : FS := (sSeq (sAsg (fStill (fCallN fn_ways_by (fCons (fVar 0) fNil))) (gNm 2))
    g_most_switchings_5)
def g_most_switchings_7 : FS := (sSeq (sExpr (fCall fn_look_at_ticks (fCons (fVar 1) fNil)))
    g_most_switchings_6)
def g_most_switchings : FS := (sSeq (sExpr (fCall fn_look_at_plan (fCons (fVar 0) fNil)))
    g_most_switchings_7)
def g__law_turns : FS := (sSeq (sAsg (fCall fn__law_on (fCons (fVar 0) (fCons (fVar 1) fNil))) (gTp 2 (gsCons (gNm 2) (gsCons (gNm 3) gsNil))))
    (sRet (fOp fAdd (fCall fInt (fCons (fOp (fEq true) (fVar 2) (fOp fIx (fOp fIx (fVar 1) (fC (.int 2))) (fC (.int 0)))) fNil)) (fCall fInt (fCons (fOp (fEq true) (fVar 3) (fOp fIx (fOp fIx (fVar 1) (fC (.int 3))) (fC (.int 0)))) fNil)))))
def g__law_most_1 : FS := (sRet (fMaxVals (fVar 3)))
def g__law_most_2 : FS := (sAsg (fFz 6) (gNm 3))
def g__law_most_3 : FS := (sDPut 6 (fOp fAdd (fCall fn__law_turns (fCons (fVar 0) (fCons (fVar 4) fNil))) (fCall fMaxL (fCons (fVar 7) fNil))) (fVar 4))
def g__law_most_4 : FS := (sSeq (sNewS (fnLc (fiLst (fCall fn__law_changes (fCons (fVar 0) fNil))) (gNm 8) fYes (fOp fIxZ (fVar 3) (fCall fn__law_after (fCons (fVar 0) (fCons (fVar 4) (fCons (fVar 8) fNil))))) [8]) 7)
    g__law_most_3)
def g__law_most_5 : FS := (sSeq (sFor (fiKeysZ (fVar 1)) (gNm 4) g__law_most_4)
    g__law_most_2)
def g__law_most_6 : FS := (sSeq (sNew fnD0 6)
    g__law_most_5)
def g__law_most_7 : FS := (sSeq (sFor (fiR1 (fCons (fVar 2) fNil)) (gNm 5) g__law_most_6)
    g__law_most_1)
def g__law_most : FS := (sSeq (sAsg (fStill (fCallN fDictOf (fCons (fStill (fnLc (fiKeysZ (fVar 1)) (gNm 4) fYes (fTup (fCons (fVar 4) (fCons (fC (.int 0)) fNil))) [4])) fNil))) (gNm 3))
    g__law_most_7)
theorem standOf_t (s : Stn) : standOf (.tuple [.int s.w, .tuple (s.past.map PyData.int), .tuple [.bool s.h.runs, .int s.h.n], .tuple [.bool s.c.runs, .int s.c.n]]) = some s := standOf_d s
theorem d_both_run (ss : List S) (Q' : S → Prop) (h : fn_both_run ss Q') : g_both_run (EF Q') (slots0 4 ss) := by
  obtain ⟨p, s, rfl, ok, hl, h⟩ := fnPS_some h
  simp [g_both_run, fn_parts_by, fnPS, planOf_d, standOf_d, ok, hl, Pt.d, at0, sSeq, sRet, sRetN, sRetW, sIf, sNext, sNever, sExpr, sAsg, sNew, sNewS, sPar, sPar3, sApp, sSetIx, sDPut, sPar3W, fnD0, fnD1, fnOwn, fIxDN, fInDN, fIxZ, fInZ, fLenZ, fListZ, fGetZ, fMaxL, fMinL, fVar, fC, fRaw, fNil, fCons, fTup, fLst, fOp, fTest, fChain, fAnd, fOr, fNot, fAndV, fOrV, fNotV, fIf, fIfT, fStill, still, fnLst, gNm, gTp, gsCons, gsNil, fCall, fCallO, fCallN, fIxN, fLenN, fSl, fPart, fNoPart, fNeg, fIsi, fIsi2, fLen, fAbs, fInt, fMax2, fMin2, fTupOf, fListOf, fSorted, fLstR, fAll, fAny, fIx, fIn, fEq, fIsN, fAdd, fMul, f2I, unD, slots0, settable, ownAt, owned, lentEnd, fiLst, fiTup, fiR1, fiR2, fiZip, fiZip3, fiKeysZ, fiItemsZ, fYes, wipeS, sMix, fmNil, fmS, fmN, setM, Mx.slot, fnDc, fFz, fSlN, fLenDN, fPopN, fSum, fMaxVals, fListVals, fDictOf, fGetDN, fPopDN]
  unfold bothB at h
  cases e : (partH p s).runs <;> simp [e, at0] at h ⊢ <;> exact h
theorem d_look_at_ticks (ss : List S) (Q' : S → Prop) (h : fn_look_at_ticks ss Q') : g_look_at_ticks (EF Q') (slots0 1 ss) := by
  unfold fn_look_at_ticks at h
  split at h
  · simp [g_look_at_ticks, fn_is_within, h.1, sSeq, sRet, sRetN, sRetW, sIf, sNext, sNever, sExpr, sAsg, sNew, sNewS, sPar, sPar3, sApp, sSetIx, sDPut, sPar3W, fnD0, fnD1, fnOwn, fIxDN, fInDN, fIxZ, fInZ, fLenZ, fListZ, fGetZ, fMaxL, fMinL, fVar, fC, fRaw, fNil, fCons, fTup, fLst, fOp, fTest, fChain, fAnd, fOr, fNot, fAndV, fOrV, fNotV, fIf, fIfT, fStill, still, fnLst, gNm, gTp, gsCons, gsNil, fCall, fCallO, fCallN, fIxN, fLenN, fSl, fPart, fNoPart, fNeg, fIsi, fIsi2, fLen, fAbs, fInt, fMax2, fMin2, fTupOf, fListOf, fSorted, fLstR, fAll, fAny, fIx, fIn, fEq, fIsN, fAdd, fMul, f2I, unD, slots0, settable, ownAt, owned, lentEnd, fiLst, fiTup, fiR1, fiR2, fiZip, fiZip3, fiKeysZ, fiItemsZ, fYes, wipeS, sMix, fmNil, fmS, fmN, setM, Mx.slot, fnDc, fFz, fSlN, fLenDN, fPopN, fSum, fMaxVals, fListVals, fDictOf, fGetDN, fPopDN]
    exact h.2
  · exact h.elim
theorem d_switched (ss : List S) (Q' : S → Prop) (h : fn_switched ss Q') : g_switched (EF Q') (slots0 4 ss) := by
  obtain ⟨p, s, rfl, ok, hl, h⟩ := fnPS_some h
  simp [g_switched, fn_parts_by, fnPS, planOf_d, standOf_d, standOf_t, ok, hl, Pt.d, Stn.d, at0, at2, at3, shaped_bool, PyData.eqv, sSeq, sRet, sRetN, sRetW, sIf, sNext, sNever, sExpr, sAsg, sNew, sNewS, sPar, sPar3, sApp, sSetIx, sDPut, sPar3W, fnD0, fnD1, fnOwn, fIxDN, fInDN, fIxZ, fInZ, fLenZ, fListZ, fGetZ, fMaxL, fMinL, fVar, fC, fRaw, fNil, fCons, fTup, fLst, fOp, fTest, fChain, fAnd, fOr, fNot, fAndV, fOrV, fNotV, fIf, fIfT, fStill, still, fnLst, gNm, gTp, gsCons, gsNil, fCall, fCallO, fCallN, fIxN, fLenN, fSl, fPart, fNoPart, fNeg, fIsi, fIsi2, fLen, fAbs, fInt, fMax2, fMin2, fTupOf, fListOf, fSorted, fLstR, fAll, fAny, fIx, fIn, fEq, fIsN, fAdd, fMul, f2I, unD, slots0, settable, ownAt, owned, lentEnd, fiLst, fiTup, fiR1, fiR2, fiZip, fiZip3, fiKeysZ, fiItemsZ, fYes, wipeS, sMix, fmNil, fmS, fmN, setM, Mx.slot, fnDc, fFz, fSlN, fLenDN, fPopN, fSum, fMaxVals, fListVals, fDictOf, fGetDN, fPopDN]
  have e1 : ∀ a b : Bool, (if a = b then (0 : Int) else 1) = bN (a != b) := fun a b => by cases a <;> cases b <;> rfl
  rw [e1, e1]
  exact h
theorem d__law_turns (ss : List S) (Q' : S → Prop) (h : fn__law_turns ss Q') : g__law_turns (EF Q') (slots0 4 ss) := by
  obtain ⟨p, s, rfl, ok, hl, h⟩ := fnPS_some h
  simp [g__law_turns, fn__law_on, fnPS, planOf_d, standOf_d, standOf_t, ok, hl, Pt.d, Stn.d, at0, at2, at3, shaped_bool, PyData.eqv, sSeq, sRet, sRetN, sRetW, sIf, sNext, sNever, sExpr, sAsg, sNew, sNewS, sPar, sPar3, sApp, sSetIx, sDPut, sPar3W, fnD0, fnD1, fnOwn, fIxDN, fInDN, fIxZ, fInZ, fLenZ, fListZ, fGetZ, fMaxL, fMinL, fVar, fC, fRaw, fNil, fCons, fTup, fLst, fOp, fTest, fChain, fAnd, fOr, fNot, fAndV, fOrV, fNotV, fIf, fIfT, fStill, still, fnLst, gNm, gTp, gsCons, gsNil, fCall, fCallO, fCallN, fIxN, fLenN, fSl, fPart, fNoPart, fNeg, fIsi, fIsi2, fLen, fAbs, fInt, fMax2, fMin2, fTupOf, fListOf, fSorted, fLstR, fAll, fAny, fIx, fIn, fEq, fIsN, fAdd, fMul, f2I, unD, slots0, settable, ownAt, owned, lentEnd, fiLst, fiTup, fiR1, fiR2, fiZip, fiZip3, fiKeysZ, fiItemsZ, fYes, wipeS, sMix, fmNil, fmS, fmN, setM, Mx.slot, fnDc, fFz, fSlN, fLenDN, fPopN, fSum, fMaxVals, fListVals, fDictOf, fGetDN, fPopDN]
  have e1 : ∀ a b : Bool, (if a = b then (0 : Int) else 1) = bN (a != b) := fun a b => by cases a <;> cases b <;> rfl
  rw [e1, e1]
  exact h
theorem both_step {E : DEnds} {p : Pl} (ok : p.ok) {s1 s2 : S} {s : Stn} {run : List Int} (hl : (s.past.length : Int) = p.late) (hr : run.length < 1000000) (n1 : np s1) (n2 : np s2) (h : if bothB p s = true then E.rt (.d (runD (run ++ [p.wl]))) [.d p.d, .d s.d, .d (runD run)] else E.nx [.d p.d, .d s.d, .d (runD run)]) :
    gTp 2 (gsCons (gNm 1) (gsCons (gNm 2) gsNil)) (.d (.tuple [s.d, runD run])) [.d p.d, s1, s2] fun ρ2 => g_both_by_1 E ρ2 := by
  have ep : ∃ a b c d e, p.d = .tuple [a, b, c, .tuple [.int p.wl, .int p.wh], d, e] := ⟨_, _, _, _, _, rfl⟩
  unfold g_both_by_1
  by_cases q : bothB p s = true
  · rw [if_pos q] at h
    simp [n1, n2, fn_both_run, fnPS, planOf_d, standOf_d, ok, hl, q, sSeq, sRet, sRetN, sRetW, sIf, sNext, sNever, sExpr, sAsg, sNew, sNewS, sPar, sPar3, sApp, sSetIx, sDPut, sPar3W, fnD0, fnD1, fnOwn, fIxDN, fInDN, fIxZ, fInZ, fLenZ, fListZ, fGetZ, fMaxL, fMinL, fVar, fC, fRaw, fNil, fCons, fTup, fLst, fOp, fTest, fChain, fAnd, fOr, fNot, fAndV, fOrV, fNotV, fIf, fIfT, fStill, still, fnLst, gNm, gTp, gsCons, gsNil, fCall, fCallO, fCallN, fIxN, fLenN, fSl, fPart, fNoPart, fNeg, fIsi, fIsi2, fLen, fAbs, fInt, fMax2, fMin2, fTupOf, fListOf, fSorted, fLstR, fAll, fAny, fIx, fIn, fEq, fIsN, fAdd, fMul, f2I, unD, slots0, settable_iff, npd, npn, npo, npf, npr, ownAt, owned, lentEnd, fiLst, fiTup, fiR1, fiR2, fiZip, fiZip3, fiKeysZ, fiItemsZ, fYes, wipeS, sMix, fmNil, fmS, fmN, setM, Mx.slot, fnDc, fFz, fSlN, fLenDN, fPopN, fSum, fMaxVals, fListVals, fDictOf, fGetDN, fPopDN]
    obtain ⟨a, b, c, d, e, ep⟩ := ep
    rw [ep] at h ⊢
    simp [runD, at0, at3, sizeLine_eq, sSeq, sRet, sRetN, sRetW, sIf, sNext, sNever, sExpr, sAsg, sNew, sNewS, sPar, sPar3, sApp, sSetIx, sDPut, sPar3W, fnD0, fnD1, fnOwn, fIxDN, fInDN, fIxZ, fInZ, fLenZ, fListZ, fGetZ, fMaxL, fMinL, fVar, fC, fRaw, fNil, fCons, fTup, fLst, fOp, fTest, fChain, fAnd, fOr, fNot, fAndV, fOrV, fNotV, fIf, fIfT, fStill, still, fnLst, gNm, gTp, gsCons, gsNil, fCall, fCallO, fCallN, fIxN, fLenN, fSl, fPart, fNoPart, fNeg, fIsi, fIsi2, fLen, fAbs, fInt, fMax2, fMin2, fTupOf, fListOf, fSorted, fLstR, fAll, fAny, fIx, fIn, fEq, fIsN, fAdd, fMul, f2I, unD, slots0, settable, ownAt, owned, lentEnd, fiLst, fiTup, fiR1, fiR2, fiZip, fiZip3, fiKeysZ, fiItemsZ, fYes, wipeS, sMix, fmNil, fmS, fmN, setM, Mx.slot, fnDc, fFz, fSlN, fLenDN, fPopN, fSum, fMaxVals, fListVals, fDictOf, fGetDN, fPopDN] at h ⊢
    exact ⟨by omega, h⟩
  · rw [if_neg q] at h
    simp [n1, n2, fn_both_run, fnPS, planOf_d, standOf_d, ok, hl, q, sSeq, sRet, sRetN, sRetW, sIf, sNext, sNever, sExpr, sAsg, sNew, sNewS, sPar, sPar3, sApp, sSetIx, sDPut, sPar3W, fnD0, fnD1, fnOwn, fIxDN, fInDN, fIxZ, fInZ, fLenZ, fListZ, fGetZ, fMaxL, fMinL, fVar, fC, fRaw, fNil, fCons, fTup, fLst, fOp, fTest, fChain, fAnd, fOr, fNot, fAndV, fOrV, fNotV, fIf, fIfT, fStill, still, fnLst, gNm, gTp, gsCons, gsNil, fCall, fCallO, fCallN, fIxN, fLenN, fSl, fPart, fNoPart, fNeg, fIsi, fIsi2, fLen, fAbs, fInt, fMax2, fMin2, fTupOf, fListOf, fSorted, fLstR, fAll, fAny, fIx, fIn, fEq, fIsN, fAdd, fMul, f2I, unD, slots0, settable_iff, npd, npn, npo, npf, npr, ownAt, owned, lentEnd, fiLst, fiTup, fiR1, fiR2, fiZip, fiZip3, fiKeysZ, fiItemsZ, fYes, wipeS, sMix, fmNil, fmS, fmN, setM, Mx.slot, fnDc, fFz, fSlN, fLenDN, fPopN, fSum, fMaxVals, fListVals, fDictOf, fGetDN, fPopDN]
    exact h
theorem d_both_by (ss : List S) (Q' : S → Prop) (h : fn_both_by ss Q') : g_both_by (EF Q') (slots0 3 ss) := by
  unfold fn_both_by at h
  split at h
  · split at h
    · rename_i p e
      rw [planOf_some e]
      obtain ⟨ok, h⟩ := h
      unfold bothR at h
      unfold g_both_by sSeq
      rw [sFor_eq]
      simp [fn_ways_by, planOf_d, ok, sSeq, sRet, sRetN, sRetW, sIf, sNext, sNever, sExpr, sAsg, sNew, sNewS, sPar, sPar3, sApp, sSetIx, sDPut, sPar3W, fnD0, fnD1, fnOwn, fIxDN, fInDN, fIxZ, fInZ, fLenZ, fListZ, fGetZ, fMaxL, fMinL, fVar, fC, fRaw, fNil, fCons, fTup, fLst, fOp, fTest, fChain, fAnd, fOr, fNot, fAndV, fOrV, fNotV, fIf, fIfT, fStill, still, fnLst, gNm, gTp, gsCons, gsNil, fCall, fCallO, fCallN, fIxN, fLenN, fSl, fPart, fNoPart, fNeg, fIsi, fIsi2, fLen, fAbs, fInt, fMax2, fMin2, fTupOf, fListOf, fSorted, fLstR, fAll, fAny, fIx, fIn, fEq, fIsN, fAdd, fMul, f2I, unD, slots0, settable, ownAt, owned, lentEnd, fiLst, fiTup, fiR1, fiR2, fiZip, fiZip3, fiKeysZ, fiItemsZ, fYes, wipeS, sMix, fmNil, fmS, fmN, setM, Mx.slot, fnDc, fFz, fSlN, fLenDN, fPopN, fSum, fMaxVals, fListVals, fDictOf, fGetDN, fPopDN]
      refine sForB_go ?_
      have go : ∀ (f : Fd) (s1 s2 : S), (∀ e ∈ f, (e.1.past.length : Int) = p.late ∧ e.2.length < 1000000) → np s1 → np s2 → Q' (.d (match f.find? fun e => bothB p e.1 with
          | some e => runD (e.2 ++ [p.wl])
          | none => .none)) → forGo (gTp 2 (gsCons (gNm 1) (gsCons (gNm 2) gsNil))) g_both_by_1 { nx := sRet (fC .none) (EF Q'), rt := (EF Q').rt } ((kvsF f).map fun p => PyData.tuple [p.1, p.2]) [.d p.d, s1, s2] := fun f => by
        induction f with
        | nil =>
          intro s1 s2 _ n1 n2 h
          unfold kvsF List.map forGo
          simp [sSeq, sRet, sRetN, sRetW, sIf, sNext, sNever, sExpr, sAsg, sNew, sNewS, sPar, sPar3, sApp, sSetIx, sDPut, sPar3W, fnD0, fnD1, fnOwn, fIxDN, fInDN, fIxZ, fInZ, fLenZ, fListZ, fGetZ, fMaxL, fMinL, fVar, fC, fRaw, fNil, fCons, fTup, fLst, fOp, fTest, fChain, fAnd, fOr, fNot, fAndV, fOrV, fNotV, fIf, fIfT, fStill, still, fnLst, gNm, gTp, gsCons, gsNil, fCall, fCallO, fCallN, fIxN, fLenN, fSl, fPart, fNoPart, fNeg, fIsi, fIsi2, fLen, fAbs, fInt, fMax2, fMin2, fTupOf, fListOf, fSorted, fLstR, fAll, fAny, fIx, fIn, fEq, fIsN, fAdd, fMul, f2I, unD, slots0, settable, ownAt, owned, lentEnd, fiLst, fiTup, fiR1, fiR2, fiZip, fiZip3, fiKeysZ, fiItemsZ, fYes, wipeS, sMix, fmNil, fmS, fmN, setM, Mx.slot, fnDc, fFz, fSlN, fLenDN, fPopN, fSum, fMaxVals, fListVals, fDictOf, fGetDN, fPopDN]
          exact h
        | cons e f ih =>
          intro s1 s2 hf n1 n2 h
          unfold kvsF at ih ⊢
          rw [List.map_cons, List.map_cons]
          unfold forGo
          rw [List.find?_cons] at h
          have he := hf e List.mem_cons_self
          refine both_step ok he.1 he.2 n1 n2 ?_
          by_cases q : bothB p e.1 = true
          · rw [if_pos q]
            simp only [q] at h
            exact h
          · rw [if_neg q]
            simp only [q] at h
            exact ih _ _ (fun e he => hf e (List.mem_cons_of_mem _ he)) (npD _) (npD _) h
      refine go (waysOf p) .no .no (fun e he => ⟨((ways_good ok).fits e he).len, ?_⟩) trivial trivial h
      obtain ⟨i, hi, e1⟩ := List.mem_iff_getElem.mp he
      have h1 := (ways_good ok).run i e (by rw [List.getElem?_eq_getElem hi, e1])
      have h2 := ways_len ok
      omega
    · exact h.elim
  · exact h.elim
theorem d_first_both (ss : List S) (Q' : S → Prop) (h : fn_first_both ss Q') : g_first_both (EF Q') (slots0 1 ss) := by
  unfold fn_first_both fn_both_by at h
  split at h
  · split at h
    · rename_i p e
      rw [planOf_some e]
      simp [g_first_both, fn_look_at_plan, fn_both_by, planOf_d, isPlan_d.mpr h.1, h.1, sSeq, sRet, sRetN, sRetW, sIf, sNext, sNever, sExpr, sAsg, sNew, sNewS, sPar, sPar3, sApp, sSetIx, sDPut, sPar3W, fnD0, fnD1, fnOwn, fIxDN, fInDN, fIxZ, fInZ, fLenZ, fListZ, fGetZ, fMaxL, fMinL, fVar, fC, fRaw, fNil, fCons, fTup, fLst, fOp, fTest, fChain, fAnd, fOr, fNot, fAndV, fOrV, fNotV, fIf, fIfT, fStill, still, fnLst, gNm, gTp, gsCons, gsNil, fCall, fCallO, fCallN, fIxN, fLenN, fSl, fPart, fNoPart, fNeg, fIsi, fIsi2, fLen, fAbs, fInt, fMax2, fMin2, fTupOf, fListOf, fSorted, fLstR, fAll, fAny, fIx, fIn, fEq, fIsN, fAdd, fMul, f2I, unD, slots0, settable, ownAt, owned, lentEnd, fiLst, fiTup, fiR1, fiR2, fiZip, fiZip3, fiKeysZ, fiItemsZ, fYes, wipeS, sMix, fmNil, fmS, fmN, setM, Mx.slot, fnDc, fFz, fSlN, fLenDN, fPopN, fSum, fMaxVals, fListVals, fDictOf, fGetDN, fPopDN]
      exact h.2
    · exact h.elim
  · exact h.elim
end Aq
/-! B14: the most switchings. -/
namespace Aq
open PySem PySem.Spec PyProof.Rows L2
def nextsD (p : Pl) (s : Stn) : D := .list ((changesI p).map fun c => (behind p s c).d)
def mostD (p : Pl) (n : Nat) (s : Stn) : D := .int (mostAt p n s)
theorem tab_get {l : List Stn} {g : Stn → D} {s : Stn} (h : s ∈ l) : dGet (tabD l g) (skey s) = some (g s) := by rw [dGet_tab, if_pos h]
theorem small_stands {p : Pl} (ok : p.ok) : ([] : List Stn).length + (standsOf p).length ≤ sizeLine := by
  have := stands_len ok
  rw [sizeLine_eq]
  simp
  omega
def behD (p : Pl) (s : Stn) : D → D
  | .int c => (behind p s c).d
  | _ => .none
def mosD (p : Pl) (n : Nat) (x : D) : D := match standOf x with
  | some s => mostD p n s
  | none => .none
theorem nexts_most {p : Pl} (n : Nat) (s : Stn) : ((changesI p).map fun c => (behind p s c).d).map (mosD p n) = ((changesI p).map fun c => mostAt p n (behind p s c)).map PyData.int := by
  rw [List.map_map, List.map_map]
  refine List.map_congr_left fun c _ => ?_
  simp only [Function.comp, mosD, standOf_d]
  rfl
theorem nexts_behind {p : Pl} (s : Stn) : ((changesI p).map PyData.int).map (behD p s) = (changesI p).map fun c => (behind p s c).d := by
  rw [List.map_map]
  rfl
def tabZ (l : List Stn) (g : Stn → D) : S := .fz (.dct (tabD l g))
def IM (p : Pl) (t : Int) (n : Nat) (ρ : List S) : Prop := ∃ s8, np s8 ∧ ρ = [.d p.d, .d (.int t), .fz (.dct (kvsF (waysOf p))), .fz (.dct (tabD (standsOf p) (nextsD p))), .no, .no, .fz (.dct (tabD (standsOf p) fun s => .int (turnsOf p s))), .fz (.dct (tabD (standsOf p) (mostD p n))), s8, .no]
theorem d_most_2 {p : Pl} (ok : p.ok) {t : Int} {n : Nat} {E : DEnds} {ρ : List S} {x : D} (hE : ∀ ρ, IM p t (n + 1) ρ → E.nx ρ) (h : IM p t n ρ) : gNm 8 (.d x) ρ fun ρ2 => g_most_switchings_2 E ρ2 := by
  obtain ⟨s8, n8, rfl⟩ := h
  have cl := changes_len ok
  have cp := changes_pos ok
  unfold g_most_switchings_2
  simp [n8, sSeq, sRet, sRetN, sRetW, sIf, sNext, sNever, sExpr, sAsg, sNew, sNewS, sPar, sPar3, sApp, sSetIx, sDPut, sPar3W, fnD0, fnD1, fnOwn, fIxDN, fInDN, fIxZ, fInZ, fLenZ, fListZ, fGetZ, fMaxL, fMinL, fVar, fC, fRaw, fNil, fCons, fTup, fLst, fOp, fTest, fChain, fAnd, fOr, fNot, fAndV, fOrV, fNotV, fIf, fIfT, fStill, still, fnLst, gNm, gTp, gsCons, gsNil, fCall, fCallO, fCallN, fIxN, fLenN, fSl, fPart, fNoPart, fNeg, fIsi, fIsi2, fLen, fAbs, fInt, fMax2, fMin2, fTupOf, fListOf, fSorted, fLstR, fAll, fAny, fIx, fIn, fEq, fIsN, fAdd, fMul, f2I, unD, slots0, settable_iff, npd, npn, npo, npf, npr, ownAt, owned, lentEnd, fiLst, fiTup, fiR1, fiR2, fiZip, fiZip3, fiKeysZ, fiItemsZ, fYes, wipeS, sMix, fmNil, fmS, fmN, setM, Mx.slot, fnDc, fFz, fSlN, fLenDN, fPopN, fSum, fMaxVals, fListVals, fDictOf, fGetDN, fPopDN]
  rw [stands_keys]
  refine dc_tab (i := 4) (ρ := [.d p.d, .d (.int t), .fz (.dct (kvsF (waysOf p))), .fz (.dct (tabD (standsOf p) (nextsD p))), .no, .no, .fz (.dct (tabD (standsOf p) fun s => .int (turnsOf p s))), .fz (.dct (tabD (standsOf p) (mostD p n))), .d x, .no]) (g := mostD p (n + 1)) rfl (standsOf p) [] (stands_nodup ok) (small_stands ok) (fun s hs Q2 h2 => ?_) ?_
  · simp [keyD_stn, tab_get hs, nextsD, fnLc, sSeq, sRet, sRetN, sRetW, sIf, sNext, sNever, sExpr, sAsg, sNew, sNewS, sPar, sPar3, sApp, sSetIx, sDPut, sPar3W, fnD0, fnD1, fnOwn, fIxDN, fInDN, fIxZ, fInZ, fLenZ, fListZ, fGetZ, fMaxL, fMinL, fVar, fC, fRaw, fNil, fCons, fTup, fLst, fOp, fTest, fChain, fAnd, fOr, fNot, fAndV, fOrV, fNotV, fIf, fIfT, fStill, still, fnLst, gNm, gTp, gsCons, gsNil, fCall, fCallO, fCallN, fIxN, fLenN, fSl, fPart, fNoPart, fNeg, fIsi, fIsi2, fLen, fAbs, fInt, fMax2, fMin2, fTupOf, fListOf, fSorted, fLstR, fAll, fAny, fIx, fIn, fEq, fIsN, fAdd, fMul, f2I, unD, slots0, settable, ownAt, owned, lentEnd, fiLst, fiTup, fiR1, fiR2, fiZip, fiZip3, fiKeysZ, fiItemsZ, fYes, wipeS, sMix, fmNil, fmS, fmN, setM, Mx.slot, fnDc, fFz, fSlN, fLenDN, fPopN, fSum, fMaxVals, fListVals, fDictOf, fGetDN, fPopDN]
    refine lc_map (i := 9) (ρ := [.d p.d, .d (.int t), .fz (.dct (kvsF (waysOf p))), .fz (.dct (tabD (standsOf p) (nextsD p))), .d s.d, .no, .fz (.dct (tabD (standsOf p) fun s => .int (turnsOf p s))), .fz (.dct (tabD (standsOf p) (mostD p n))), .d x, .no]) (p := mosD p n) rfl ((changesI p).map fun c => (behind p s c).d) [] (by rw [sizeLine_eq]; simp; omega) (fun x hx Q3 h3 => ?_) ?_
    · obtain ⟨c, hc, rfl⟩ := List.mem_map.mp hx
      unfold mosD at h3
      simp only [standOf_d] at h3
      simp [keyD_stn, tab_get (stands_closed ok hs hc), sSeq, sRet, sRetN, sRetW, sIf, sNext, sNever, sExpr, sAsg, sNew, sNewS, sPar, sPar3, sApp, sSetIx, sDPut, sPar3W, fnD0, fnD1, fnOwn, fIxDN, fInDN, fIxZ, fInZ, fLenZ, fListZ, fGetZ, fMaxL, fMinL, fVar, fC, fRaw, fNil, fCons, fTup, fLst, fOp, fTest, fChain, fAnd, fOr, fNot, fAndV, fOrV, fNotV, fIf, fIfT, fStill, still, fnLst, gNm, gTp, gsCons, gsNil, fCall, fCallO, fCallN, fIxN, fLenN, fSl, fPart, fNoPart, fNeg, fIsi, fIsi2, fLen, fAbs, fInt, fMax2, fMin2, fTupOf, fListOf, fSorted, fLstR, fAll, fAny, fIx, fIn, fEq, fIsN, fAdd, fMul, f2I, unD, slots0, settable, ownAt, owned, lentEnd, fiLst, fiTup, fiR1, fiR2, fiZip, fiZip3, fiKeysZ, fiItemsZ, fYes, wipeS, sMix, fmNil, fmS, fmN, setM, Mx.slot, fnDc, fFz, fSlN, fLenDN, fPopN, fSum, fMaxVals, fListVals, fDictOf, fGetDN, fPopDN]
      exact h3
    · rw [List.nil_append, nexts_most]
      have h2' : Q2 (.d (.int (turnsOf p s + maxL ((changesI p).map fun c => mostAt p n (behind p s c))))) [.d p.d, .d (.int t), .fz (.dct (kvsF (waysOf p))), .fz (.dct (tabD (standsOf p) (nextsD p))), .d s.d, .no, .fz (.dct (tabD (standsOf p) fun s => .int (turnsOf p s))), .fz (.dct (tabD (standsOf p) (mostD p n))), .d x, .no] := h2
      have cp' : 0 < ((changesI p).map fun c => mostAt p n (behind p s c)).length := by rw [List.length_map]; exact cp
      generalize (changesI p).map (fun c => mostAt p n (behind p s c)) = ns at h2' cp' ⊢
      simp [intsD_map, sSeq, sRet, sRetN, sRetW, sIf, sNext, sNever, sExpr, sAsg, sNew, sNewS, sPar, sPar3, sApp, sSetIx, sDPut, sPar3W, fnD0, fnD1, fnOwn, fIxDN, fInDN, fIxZ, fInZ, fLenZ, fListZ, fGetZ, fMaxL, fMinL, fVar, fC, fRaw, fNil, fCons, fTup, fLst, fOp, fTest, fChain, fAnd, fOr, fNot, fAndV, fOrV, fNotV, fIf, fIfT, fStill, still, fnLst, gNm, gTp, gsCons, gsNil, fCall, fCallO, fCallN, fIxN, fLenN, fSl, fPart, fNoPart, fNeg, fIsi, fIsi2, fLen, fAbs, fInt, fMax2, fMin2, fTupOf, fListOf, fSorted, fLstR, fAll, fAny, fIx, fIn, fEq, fIsN, fAdd, fMul, f2I, unD, slots0, settable, ownAt, owned, lentEnd, fiLst, fiTup, fiR1, fiR2, fiZip, fiZip3, fiKeysZ, fiItemsZ, fYes, wipeS, sMix, fmNil, fmS, fmN, setM, Mx.slot, fnDc, fFz, fSlN, fLenDN, fPopN, fSum, fMaxVals, fListVals, fDictOf, fGetDN, fPopDN]
      refine ⟨cp', fun m hm hle => ?_⟩
      rw [max_eq hm hle]
      exact h2'
  · simp [sSeq, sRet, sRetN, sRetW, sIf, sNext, sNever, sExpr, sAsg, sNew, sNewS, sPar, sPar3, sApp, sSetIx, sDPut, sPar3W, fnD0, fnD1, fnOwn, fIxDN, fInDN, fIxZ, fInZ, fLenZ, fListZ, fGetZ, fMaxL, fMinL, fVar, fC, fRaw, fNil, fCons, fTup, fLst, fOp, fTest, fChain, fAnd, fOr, fNot, fAndV, fOrV, fNotV, fIf, fIfT, fStill, still, fnLst, gNm, gTp, gsCons, gsNil, fCall, fCallO, fCallN, fIxN, fLenN, fSl, fPart, fNoPart, fNeg, fIsi, fIsi2, fLen, fAbs, fInt, fMax2, fMin2, fTupOf, fListOf, fSorted, fLstR, fAll, fAny, fIx, fIn, fEq, fIsN, fAdd, fMul, f2I, unD, slots0, settable, ownAt, owned, lentEnd, fiLst, fiTup, fiR1, fiR2, fiZip, fiZip3, fiKeysZ, fiItemsZ, fYes, wipeS, sMix, fmNil, fmS, fmN, setM, Mx.slot, fnDc, fFz, fSlN, fLenDN, fPopN, fSum, fMaxVals, fListVals, fDictOf, fGetDN, fPopDN]
    exact ⟨trivial, hE _ ⟨_, npD _, rfl⟩⟩
theorem d_most_switchings (ss : List S) (Q' : S → Prop) (h : fn_most_switchings ss Q') : g_most_switchings (EF Q') (slots0 10 ss) := by
  unfold fn_most_switchings at h
  split at h
  · rename_i x t
    split at h
    · rename_i p e
      rw [planOf_some e]
      obtain ⟨⟨ok, t0, t1⟩, h⟩ := h
      have ht : isWithin (.int t) 1 20 = true := by simp [isWithin, t0, t1]
      have cl := changes_len ok
      unfold g_most_switchings
      simp [fn_look_at_plan, isPlan_d.mpr ok, sSeq, sRet, sRetN, sRetW, sIf, sNext, sNever, sExpr, sAsg, sNew, sNewS, sPar, sPar3, sApp, sSetIx, sDPut, sPar3W, fnD0, fnD1, fnOwn, fIxDN, fInDN, fIxZ, fInZ, fLenZ, fListZ, fGetZ, fMaxL, fMinL, fVar, fC, fRaw, fNil, fCons, fTup, fLst, fOp, fTest, fChain, fAnd, fOr, fNot, fAndV, fOrV, fNotV, fIf, fIfT, fStill, still, fnLst, gNm, gTp, gsCons, gsNil, fCall, fCallO, fCallN, fIxN, fLenN, fSl, fPart, fNoPart, fNeg, fIsi, fIsi2, fLen, fAbs, fInt, fMax2, fMin2, fTupOf, fListOf, fSorted, fLstR, fAll, fAny, fIx, fIn, fEq, fIsN, fAdd, fMul, f2I, unD, slots0, settable, ownAt, owned, lentEnd, fiLst, fiTup, fiR1, fiR2, fiZip, fiZip3, fiKeysZ, fiItemsZ, fYes, wipeS, sMix, fmNil, fmS, fmN, setM, Mx.slot, fnDc, fFz, fSlN, fLenDN, fPopN, fSum, fMaxVals, fListVals, fDictOf, fGetDN, fPopDN]
      unfold g_most_switchings_7
      simp [fn_look_at_ticks, ht, sSeq, sRet, sRetN, sRetW, sIf, sNext, sNever, sExpr, sAsg, sNew, sNewS, sPar, sPar3, sApp, sSetIx, sDPut, sPar3W, fnD0, fnD1, fnOwn, fIxDN, fInDN, fIxZ, fInZ, fLenZ, fListZ, fGetZ, fMaxL, fMinL, fVar, fC, fRaw, fNil, fCons, fTup, fLst, fOp, fTest, fChain, fAnd, fOr, fNot, fAndV, fOrV, fNotV, fIf, fIfT, fStill, still, fnLst, gNm, gTp, gsCons, gsNil, fCall, fCallO, fCallN, fIxN, fLenN, fSl, fPart, fNoPart, fNeg, fIsi, fIsi2, fLen, fAbs, fInt, fMax2, fMin2, fTupOf, fListOf, fSorted, fLstR, fAll, fAny, fIx, fIn, fEq, fIsN, fAdd, fMul, f2I, unD, slots0, settable, ownAt, owned, lentEnd, fiLst, fiTup, fiR1, fiR2, fiZip, fiZip3, fiKeysZ, fiItemsZ, fYes, wipeS, sMix, fmNil, fmS, fmN, setM, Mx.slot, fnDc, fFz, fSlN, fLenDN, fPopN, fSum, fMaxVals, fListVals, fDictOf, fGetDN, fPopDN]
      unfold g_most_switchings_6
      simp [fn_ways_by, planOf_d, ok, sSeq, sRet, sRetN, sRetW, sIf, sNext, sNever, sExpr, sAsg, sNew, sNewS, sPar, sPar3, sApp, sSetIx, sDPut, sPar3W, fnD0, fnD1, fnOwn, fIxDN, fInDN, fIxZ, fInZ, fLenZ, fListZ, fGetZ, fMaxL, fMinL, fVar, fC, fRaw, fNil, fCons, fTup, fLst, fOp, fTest, fChain, fAnd, fOr, fNot, fAndV, fOrV, fNotV, fIf, fIfT, fStill, still, fnLst, gNm, gTp, gsCons, gsNil, fCall, fCallO, fCallN, fIxN, fLenN, fSl, fPart, fNoPart, fNeg, fIsi, fIsi2, fLen, fAbs, fInt, fMax2, fMin2, fTupOf, fListOf, fSorted, fLstR, fAll, fAny, fIx, fIn, fEq, fIsN, fAdd, fMul, f2I, unD, slots0, settable, ownAt, owned, lentEnd, fiLst, fiTup, fiR1, fiR2, fiZip, fiZip3, fiKeysZ, fiItemsZ, fYes, wipeS, sMix, fmNil, fmS, fmN, setM, Mx.slot, fnDc, fFz, fSlN, fLenDN, fPopN, fSum, fMaxVals, fListVals, fDictOf, fGetDN, fPopDN]
      unfold g_most_switchings_5
      simp [sSeq, sRet, sRetN, sRetW, sIf, sNext, sNever, sExpr, sAsg, sNew, sNewS, sPar, sPar3, sApp, sSetIx, sDPut, sPar3W, fnD0, fnD1, fnOwn, fIxDN, fInDN, fIxZ, fInZ, fLenZ, fListZ, fGetZ, fMaxL, fMinL, fVar, fC, fRaw, fNil, fCons, fTup, fLst, fOp, fTest, fChain, fAnd, fOr, fNot, fAndV, fOrV, fNotV, fIf, fIfT, fStill, still, fnLst, gNm, gTp, gsCons, gsNil, fCall, fCallO, fCallN, fIxN, fLenN, fSl, fPart, fNoPart, fNeg, fIsi, fIsi2, fLen, fAbs, fInt, fMax2, fMin2, fTupOf, fListOf, fSorted, fLstR, fAll, fAny, fIx, fIn, fEq, fIsN, fAdd, fMul, f2I, unD, slots0, settable, ownAt, owned, lentEnd, fiLst, fiTup, fiR1, fiR2, fiZip, fiZip3, fiKeysZ, fiItemsZ, fYes, wipeS, sMix, fmNil, fmS, fmN, setM, Mx.slot, fnDc, fFz, fSlN, fLenDN, fPopN, fSum, fMaxVals, fListVals, fDictOf, fGetDN, fPopDN]
      rw [stands_keys]
      refine dc_tab (i := 4) (ρ := [.d p.d, .d (.int t), .fz (.dct (kvsF (waysOf p))), .no, .no, .no, .no, .no, .no, .no]) (g := nextsD p) rfl (standsOf p) [] (stands_nodup ok) (small_stands ok) (fun s hs Q2 h2 => ?_) ?_
      · have hf := stands_fits ok hs
        simp [fn_changes_of, fn__law_changes, planOf_d, ok, fnLc, changes_eq, sSeq, sRet, sRetN, sRetW, sIf, sNext, sNever, sExpr, sAsg, sNew, sNewS, sPar, sPar3, sApp, sSetIx, sDPut, sPar3W, fnD0, fnD1, fnOwn, fIxDN, fInDN, fIxZ, fInZ, fLenZ, fListZ, fGetZ, fMaxL, fMinL, fVar, fC, fRaw, fNil, fCons, fTup, fLst, fOp, fTest, fChain, fAnd, fOr, fNot, fAndV, fOrV, fNotV, fIf, fIfT, fStill, still, fnLst, gNm, gTp, gsCons, gsNil, fCall, fCallO, fCallN, fIxN, fLenN, fSl, fPart, fNoPart, fNeg, fIsi, fIsi2, fLen, fAbs, fInt, fMax2, fMin2, fTupOf, fListOf, fSorted, fLstR, fAll, fAny, fIx, fIn, fEq, fIsN, fAdd, fMul, f2I, unD, slots0, settable, ownAt, owned, lentEnd, fiLst, fiTup, fiR1, fiR2, fiZip, fiZip3, fiKeysZ, fiItemsZ, fYes, wipeS, sMix, fmNil, fmS, fmN, setM, Mx.slot, fnDc, fFz, fSlN, fLenDN, fPopN, fSum, fMaxVals, fListVals, fDictOf, fGetDN, fPopDN]
        refine lc_map (i := 5) (ρ := [.d p.d, .d (.int t), .fz (.dct (kvsF (waysOf p))), .no, .d s.d, .no, .no, .no, .no, .no]) (p := behD p s) rfl ((changesI p).map PyData.int) [] (by rw [sizeLine_eq]; simp; omega) (fun x hx Q3 h3 => ?_) ?_
        · obtain ⟨c, hc, rfl⟩ := List.mem_map.mp hx
          simp [fn_behind, planOf_d, standOf_d, ok, hf.len, sSeq, sRet, sRetN, sRetW, sIf, sNext, sNever, sExpr, sAsg, sNew, sNewS, sPar, sPar3, sApp, sSetIx, sDPut, sPar3W, fnD0, fnD1, fnOwn, fIxDN, fInDN, fIxZ, fInZ, fLenZ, fListZ, fGetZ, fMaxL, fMinL, fVar, fC, fRaw, fNil, fCons, fTup, fLst, fOp, fTest, fChain, fAnd, fOr, fNot, fAndV, fOrV, fNotV, fIf, fIfT, fStill, still, fnLst, gNm, gTp, gsCons, gsNil, fCall, fCallO, fCallN, fIxN, fLenN, fSl, fPart, fNoPart, fNeg, fIsi, fIsi2, fLen, fAbs, fInt, fMax2, fMin2, fTupOf, fListOf, fSorted, fLstR, fAll, fAny, fIx, fIn, fEq, fIsN, fAdd, fMul, f2I, unD, slots0, settable, ownAt, owned, lentEnd, fiLst, fiTup, fiR1, fiR2, fiZip, fiZip3, fiKeysZ, fiItemsZ, fYes, wipeS, sMix, fmNil, fmS, fmN, setM, Mx.slot, fnDc, fFz, fSlN, fLenDN, fPopN, fSum, fMaxVals, fListVals, fDictOf, fGetDN, fPopDN]
          exact h3
        · rw [List.nil_append, nexts_behind]
          exact h2
      · simp [sSeq, sRet, sRetN, sRetW, sIf, sNext, sNever, sExpr, sAsg, sNew, sNewS, sPar, sPar3, sApp, sSetIx, sDPut, sPar3W, fnD0, fnD1, fnOwn, fIxDN, fInDN, fIxZ, fInZ, fLenZ, fListZ, fGetZ, fMaxL, fMinL, fVar, fC, fRaw, fNil, fCons, fTup, fLst, fOp, fTest, fChain, fAnd, fOr, fNot, fAndV, fOrV, fNotV, fIf, fIfT, fStill, still, fnLst, gNm, gTp, gsCons, gsNil, fCall, fCallO, fCallN, fIxN, fLenN, fSl, fPart, fNoPart, fNeg, fIsi, fIsi2, fLen, fAbs, fInt, fMax2, fMin2, fTupOf, fListOf, fSorted, fLstR, fAll, fAny, fIx, fIn, fEq, fIsN, fAdd, fMul, f2I, unD, slots0, settable, ownAt, owned, lentEnd, fiLst, fiTup, fiR1, fiR2, fiZip, fiZip3, fiKeysZ, fiItemsZ, fYes, wipeS, sMix, fmNil, fmS, fmN, setM, Mx.slot, fnDc, fFz, fSlN, fLenDN, fPopN, fSum, fMaxVals, fListVals, fDictOf, fGetDN, fPopDN]
        unfold g_most_switchings_4
        simp [sSeq, sRet, sRetN, sRetW, sIf, sNext, sNever, sExpr, sAsg, sNew, sNewS, sPar, sPar3, sApp, sSetIx, sDPut, sPar3W, fnD0, fnD1, fnOwn, fIxDN, fInDN, fIxZ, fInZ, fLenZ, fListZ, fGetZ, fMaxL, fMinL, fVar, fC, fRaw, fNil, fCons, fTup, fLst, fOp, fTest, fChain, fAnd, fOr, fNot, fAndV, fOrV, fNotV, fIf, fIfT, fStill, still, fnLst, gNm, gTp, gsCons, gsNil, fCall, fCallO, fCallN, fIxN, fLenN, fSl, fPart, fNoPart, fNeg, fIsi, fIsi2, fLen, fAbs, fInt, fMax2, fMin2, fTupOf, fListOf, fSorted, fLstR, fAll, fAny, fIx, fIn, fEq, fIsN, fAdd, fMul, f2I, unD, slots0, settable, ownAt, owned, lentEnd, fiLst, fiTup, fiR1, fiR2, fiZip, fiZip3, fiKeysZ, fiItemsZ, fYes, wipeS, sMix, fmNil, fmS, fmN, setM, Mx.slot, fnDc, fFz, fSlN, fLenDN, fPopN, fSum, fMaxVals, fListVals, fDictOf, fGetDN, fPopDN]
        rw [stands_keys]
        refine dc_tab (i := 4) (ρ := [.d p.d, .d (.int t), .fz (.dct (kvsF (waysOf p))), .fz (.dct (tabD (standsOf p) (nextsD p))), .no, .no, .no, .no, .no, .no]) (g := fun s => .int (turnsOf p s)) rfl (standsOf p) [] (stands_nodup ok) (small_stands ok) (fun s hs Q2 h2 => ?_) ?_
        · have hf := stands_fits ok hs
          simp [fn_switched, fnPS, planOf_d, standOf_d, ok, hf.len, sSeq, sRet, sRetN, sRetW, sIf, sNext, sNever, sExpr, sAsg, sNew, sNewS, sPar, sPar3, sApp, sSetIx, sDPut, sPar3W, fnD0, fnD1, fnOwn, fIxDN, fInDN, fIxZ, fInZ, fLenZ, fListZ, fGetZ, fMaxL, fMinL, fVar, fC, fRaw, fNil, fCons, fTup, fLst, fOp, fTest, fChain, fAnd, fOr, fNot, fAndV, fOrV, fNotV, fIf, fIfT, fStill, still, fnLst, gNm, gTp, gsCons, gsNil, fCall, fCallO, fCallN, fIxN, fLenN, fSl, fPart, fNoPart, fNeg, fIsi, fIsi2, fLen, fAbs, fInt, fMax2, fMin2, fTupOf, fListOf, fSorted, fLstR, fAll, fAny, fIx, fIn, fEq, fIsN, fAdd, fMul, f2I, unD, slots0, settable, ownAt, owned, lentEnd, fiLst, fiTup, fiR1, fiR2, fiZip, fiZip3, fiKeysZ, fiItemsZ, fYes, wipeS, sMix, fmNil, fmS, fmN, setM, Mx.slot, fnDc, fFz, fSlN, fLenDN, fPopN, fSum, fMaxVals, fListVals, fDictOf, fGetDN, fPopDN]
          exact h2
        · simp [sSeq, sRet, sRetN, sRetW, sIf, sNext, sNever, sExpr, sAsg, sNew, sNewS, sPar, sPar3, sApp, sSetIx, sDPut, sPar3W, fnD0, fnD1, fnOwn, fIxDN, fInDN, fIxZ, fInZ, fLenZ, fListZ, fGetZ, fMaxL, fMinL, fVar, fC, fRaw, fNil, fCons, fTup, fLst, fOp, fTest, fChain, fAnd, fOr, fNot, fAndV, fOrV, fNotV, fIf, fIfT, fStill, still, fnLst, gNm, gTp, gsCons, gsNil, fCall, fCallO, fCallN, fIxN, fLenN, fSl, fPart, fNoPart, fNeg, fIsi, fIsi2, fLen, fAbs, fInt, fMax2, fMin2, fTupOf, fListOf, fSorted, fLstR, fAll, fAny, fIx, fIn, fEq, fIsN, fAdd, fMul, f2I, unD, slots0, settable, ownAt, owned, lentEnd, fiLst, fiTup, fiR1, fiR2, fiZip, fiZip3, fiKeysZ, fiItemsZ, fYes, wipeS, sMix, fmNil, fmS, fmN, setM, Mx.slot, fnDc, fFz, fSlN, fLenDN, fPopN, fSum, fMaxVals, fListVals, fDictOf, fGetDN, fPopDN]
          rw [stands_keys]
          refine dc_tab (i := 4) (ρ := [.d p.d, .d (.int t), .fz (.dct (kvsF (waysOf p))), .fz (.dct (tabD (standsOf p) (nextsD p))), .no, .no, .no, .no, .no, .no]) (g := mostD p 0) rfl (standsOf p) [] (stands_nodup ok) (small_stands ok) (fun s hs Q2 h2 => ?_) ?_
          · simp [sSeq, sRet, sRetN, sRetW, sIf, sNext, sNever, sExpr, sAsg, sNew, sNewS, sPar, sPar3, sApp, sSetIx, sDPut, sPar3W, fnD0, fnD1, fnOwn, fIxDN, fInDN, fIxZ, fInZ, fLenZ, fListZ, fGetZ, fMaxL, fMinL, fVar, fC, fRaw, fNil, fCons, fTup, fLst, fOp, fTest, fChain, fAnd, fOr, fNot, fAndV, fOrV, fNotV, fIf, fIfT, fStill, still, fnLst, gNm, gTp, gsCons, gsNil, fCall, fCallO, fCallN, fIxN, fLenN, fSl, fPart, fNoPart, fNeg, fIsi, fIsi2, fLen, fAbs, fInt, fMax2, fMin2, fTupOf, fListOf, fSorted, fLstR, fAll, fAny, fIx, fIn, fEq, fIsN, fAdd, fMul, f2I, unD, slots0, settable, ownAt, owned, lentEnd, fiLst, fiTup, fiR1, fiR2, fiZip, fiZip3, fiKeysZ, fiItemsZ, fYes, wipeS, sMix, fmNil, fmS, fmN, setM, Mx.slot, fnDc, fFz, fSlN, fLenDN, fPopN, fSum, fMaxVals, fListVals, fDictOf, fGetDN, fPopDN]
            exact h2
          · simp [sSeq, sRet, sRetN, sRetW, sIf, sNext, sNever, sExpr, sAsg, sNew, sNewS, sPar, sPar3, sApp, sSetIx, sDPut, sPar3W, fnD0, fnD1, fnOwn, fIxDN, fInDN, fIxZ, fInZ, fLenZ, fListZ, fGetZ, fMaxL, fMinL, fVar, fC, fRaw, fNil, fCons, fTup, fLst, fOp, fTest, fChain, fAnd, fOr, fNot, fAndV, fOrV, fNotV, fIf, fIfT, fStill, still, fnLst, gNm, gTp, gsCons, gsNil, fCall, fCallO, fCallN, fIxN, fLenN, fSl, fPart, fNoPart, fNeg, fIsi, fIsi2, fLen, fAbs, fInt, fMax2, fMin2, fTupOf, fListOf, fSorted, fLstR, fAll, fAny, fIx, fIn, fEq, fIsN, fAdd, fMul, f2I, unD, slots0, settable, ownAt, owned, lentEnd, fiLst, fiTup, fiR1, fiR2, fiZip, fiZip3, fiKeysZ, fiItemsZ, fYes, wipeS, sMix, fmNil, fmS, fmN, setM, Mx.slot, fnDc, fFz, fSlN, fLenDN, fPopN, fSum, fMaxVals, fListVals, fDictOf, fGetDN, fPopDN]
            unfold g_most_switchings_3 sSeq
            rw [sFor_eq]
            simp [sSeq, sRet, sRetN, sRetW, sIf, sNext, sNever, sExpr, sAsg, sNew, sNewS, sPar, sPar3, sApp, sSetIx, sDPut, sPar3W, fnD0, fnD1, fnOwn, fIxDN, fInDN, fIxZ, fInZ, fLenZ, fListZ, fGetZ, fMaxL, fMinL, fVar, fC, fRaw, fNil, fCons, fTup, fLst, fOp, fTest, fChain, fAnd, fOr, fNot, fAndV, fOrV, fNotV, fIf, fIfT, fStill, still, fnLst, gNm, gTp, gsCons, gsNil, fCall, fCallO, fCallN, fIxN, fLenN, fSl, fPart, fNoPart, fNeg, fIsi, fIsi2, fLen, fAbs, fInt, fMax2, fMin2, fTupOf, fListOf, fSorted, fLstR, fAll, fAny, fIx, fIn, fEq, fIsN, fAdd, fMul, f2I, unD, slots0, settable, ownAt, owned, lentEnd, fiLst, fiTup, fiR1, fiR2, fiZip, fiZip3, fiKeysZ, fiItemsZ, fYes, wipeS, sMix, fmNil, fmS, fmN, setM, Mx.slot, fnDc, fFz, fSlN, fLenDN, fPopN, fSum, fMaxVals, fListVals, fDictOf, fGetDN, fPopDN]
            refine ⟨by omega, by omega, ?_⟩
            refine sForB_cnt (IM p t) ⟨.no, trivial, rfl⟩ ?_ ?_
            · rintro ρ ⟨s8, n8, rfl⟩
              have hl : (upto 0 t.toNat).length = t.toNat := by simp [upto]
              rw [hl]
              unfold g_most_switchings_1
              simp [tab_vals, sSeq, sRet, sRetN, sRetW, sIf, sNext, sNever, sExpr, sAsg, sNew, sNewS, sPar, sPar3, sApp, sSetIx, sDPut, sPar3W, fnD0, fnD1, fnOwn, fIxDN, fInDN, fIxZ, fInZ, fLenZ, fListZ, fGetZ, fMaxL, fMinL, fVar, fC, fRaw, fNil, fCons, fTup, fLst, fOp, fTest, fChain, fAnd, fOr, fNot, fAndV, fOrV, fNotV, fIf, fIfT, fStill, still, fnLst, gNm, gTp, gsCons, gsNil, fCall, fCallO, fCallN, fIxN, fLenN, fSl, fPart, fNoPart, fNeg, fIsi, fIsi2, fLen, fAbs, fInt, fMax2, fMin2, fTupOf, fListOf, fSorted, fLstR, fAll, fAny, fIx, fIn, fEq, fIsN, fAdd, fMul, f2I, unD, slots0, settable, ownAt, owned, lentEnd, fiLst, fiTup, fiR1, fiR2, fiZip, fiZip3, fiKeysZ, fiItemsZ, fYes, wipeS, sMix, fmNil, fmS, fmN, setM, Mx.slot, fnDc, fFz, fSlN, fLenDN, fPopN, fSum, fMaxVals, fListVals, fDictOf, fGetDN, fPopDN]
              have e1 : (standsOf p).map (mostD p t.toNat) = ((standsOf p).map (mostAt p t.toNat)).map PyData.int := by rw [List.map_map]; rfl
              rw [e1, intsD_map]
              dsimp only
              refine ⟨by rw [List.length_map]; exact stands_pos p, fun m hm hle => ?_⟩
              rw [max_eq hm hle]
              exact h
            · intro n x hx ρ hρ
              exact d_most_2 ok (fun ρ z => z) hρ
    · exact h.elim
  · exact h.elim
end Aq
/-! B15: the most switchings, as the law reckons. -/
namespace Aq
open PySem PySem.Spec PyProof.Rows L2
theorem keys_nodup : ∀ {l : List Stn}, l.Nodup → ((tabD l g).map fun p => keyOf p.1).Nodup := fun {l} h => by
  unfold tabD
  rw [List.map_map]
  have : ((fun p : D × D => keyOf p.1) ∘ fun s : Stn => (s.d, g s)) = fun s => some (skey s) := by
    funext s
    exact keyOf_stn s
  rw [this]
  exact List.Pairwise.map _ (fun a b hab e => hab (skey_inj (Option.some.inj e))) h
theorem keys_some {l : List Stn} {g : Stn → D} : ∀ p ∈ tabD l g, (keyD p.1).isSome = true := fun p hp => by
  unfold tabD at hp
  obtain ⟨s, _, rfl⟩ := List.mem_map.mp hp
  rw [keyD_stn]
  rfl
def zeroP (x : D) : D := .tuple [x, .int 0]
theorem zero_pairs (p : Pl) (l : List Stn) : pairsD ((l.map Stn.d).map zeroP) = some (tabD l (mostD p 0)) := by
  have e : (l.map Stn.d).map zeroP = (tabD l (mostD p 0)).map fun q => .tuple [q.1, q.2] := by
    unfold tabD
    rw [List.map_map, List.map_map]
    rfl
  rw [e]
  exact pairsD_map _
def IL (p : Pl) (t : Int) (n : Nat) (ρ : List S) : Prop := ∃ s4 s5 s6 s7, np s4 ∧ np s5 ∧ np s6 ∧ np s7 ∧ ρ = [.d p.d, .fz (.dct (kvsF (waysOf p))), .d (.int t), .fz (.dct (tabD (standsOf p) (mostD p n))), s4, s5, s6, s7, .no]
def JL (p : Pl) (t : Int) (n k : Nat) (ρ : List S) : Prop := ∃ s4 s5 s7, np s4 ∧ np s5 ∧ np s7 ∧ ρ = [.d p.d, .fz (.dct (kvsF (waysOf p))), .d (.int t), .fz (.dct (tabD (standsOf p) (mostD p n))), s4, s5, .ow (.dct (tabD ((standsOf p).take k) (mostD p (n + 1)))), s7, .no]
def afterD (p : Pl) (n : Nat) (s : Stn) : D → D
  | .int c => mostD p n (behind p s c)
  | _ => .none
theorem d__law_most_4 {p : Pl} (ok : p.ok) {t : Int} {n k : Nat} {E : DEnds} {ρ : List S} {s : Stn} (hk : (standsOf p)[k]? = some s) (hE : ∀ ρ, JL p t n (k + 1) ρ → E.nx ρ) (h : JL p t n k ρ) : gNm 4 (.d s.d) ρ fun ρ2 => g__law_most_4 E ρ2 := by
  obtain ⟨s4, s5, s7, n4, n5, n7, rfl⟩ := h
  have cl := changes_len ok
  have cp := changes_pos ok
  have hs : s ∈ standsOf p := List.mem_of_getElem? hk
  have hf := stands_fits ok hs
  have hlt := (List.getElem?_eq_some_iff.mp hk).1
  have hns : s ∉ (standsOf p).take k := fun z => by
    obtain ⟨j, hj, e⟩ := List.mem_take_iff_getElem.mp z
    have hj2 : j < (standsOf p).length := by omega
    have e1 : (standsOf p)[k] = s := (List.getElem?_eq_some_iff.mp hk).2
    have := (List.getElem_inj (h₀ := hj2) (h₁ := hlt) (stands_nodup ok)).mp (e.trans e1.symm)
    omega
  have etk : (standsOf p).take (k + 1) = (standsOf p).take k ++ [s] := by
    rw [List.take_succ, hk]
    rfl
  unfold g__law_most_4
  simp [n4, n7, fn__law_changes, planOf_d, ok, fnLc, changes_eq, sSeq, sRet, sRetN, sRetW, sIf, sNext, sNever, sExpr, sAsg, sNew, sNewS, sPar, sPar3, sApp, sSetIx, sDPut, sPar3W, fnD0, fnD1, fnOwn, fIxDN, fInDN, fIxZ, fInZ, fLenZ, fListZ, fGetZ, fMaxL, fMinL, fVar, fC, fRaw, fNil, fCons, fTup, fLst, fOp, fTest, fChain, fAnd, fOr, fNot, fAndV, fOrV, fNotV, fIf, fIfT, fStill, still, fnLst, gNm, gTp, gsCons, gsNil, fCall, fCallO, fCallN, fIxN, fLenN, fSl, fPart, fNoPart, fNeg, fIsi, fIsi2, fLen, fAbs, fInt, fMax2, fMin2, fTupOf, fListOf, fSorted, fLstR, fAll, fAny, fIx, fIn, fEq, fIsN, fAdd, fMul, f2I, unD, slots0, settable_iff, npd, npn, npo, npf, npr, ownAt, owned, lentEnd, fiLst, fiTup, fiR1, fiR2, fiZip, fiZip3, fiKeysZ, fiItemsZ, fYes, wipeS, sMix, fmNil, fmS, fmN, setM, Mx.slot, fnDc, fFz, fSlN, fLenDN, fPopN, fSum, fMaxVals, fListVals, fDictOf, fGetDN, fPopDN]
  refine lc_map (i := 8) (ρ := [.d p.d, .fz (.dct (kvsF (waysOf p))), .d (.int t), .fz (.dct (tabD (standsOf p) (mostD p n))), .d s.d, s5, .ow (.dct (tabD ((standsOf p).take k) (mostD p (n + 1)))), s7, .no]) (p := afterD p n s) rfl ((changesI p).map PyData.int) [] (by rw [sizeLine_eq]; simp; omega) (fun x hx Q3 h3 => ?_) ?_
  · obtain ⟨c, hc, rfl⟩ := List.mem_map.mp hx
    simp [fn__law_after, fn_behind, planOf_d, standOf_d, ok, hf.len, keyD_stn, tab_get (stands_closed ok hs hc), sSeq, sRet, sRetN, sRetW, sIf, sNext, sNever, sExpr, sAsg, sNew, sNewS, sPar, sPar3, sApp, sSetIx, sDPut, sPar3W, fnD0, fnD1, fnOwn, fIxDN, fInDN, fIxZ, fInZ, fLenZ, fListZ, fGetZ, fMaxL, fMinL, fVar, fC, fRaw, fNil, fCons, fTup, fLst, fOp, fTest, fChain, fAnd, fOr, fNot, fAndV, fOrV, fNotV, fIf, fIfT, fStill, still, fnLst, gNm, gTp, gsCons, gsNil, fCall, fCallO, fCallN, fIxN, fLenN, fSl, fPart, fNoPart, fNeg, fIsi, fIsi2, fLen, fAbs, fInt, fMax2, fMin2, fTupOf, fListOf, fSorted, fLstR, fAll, fAny, fIx, fIn, fEq, fIsN, fAdd, fMul, f2I, unD, slots0, settable, ownAt, owned, lentEnd, fiLst, fiTup, fiR1, fiR2, fiZip, fiZip3, fiKeysZ, fiItemsZ, fYes, wipeS, sMix, fmNil, fmS, fmN, setM, Mx.slot, fnDc, fFz, fSlN, fLenDN, fPopN, fSum, fMaxVals, fListVals, fDictOf, fGetDN, fPopDN]
    exact h3
  · have e : ((changesI p).map PyData.int).map (afterD p n s) = ((changesI p).map fun c => mostAt p n (behind p s c)).map PyData.int := by
      rw [List.map_map, List.map_map]
      rfl
    rw [List.nil_append, e]
    have e3 : mostD p (n + 1) s = .int (turnsOf p s + maxL ((changesI p).map fun c => mostAt p n (behind p s c))) := rfl
    have cp' : 0 < ((changesI p).map fun c => mostAt p n (behind p s c)).length := by rw [List.length_map]; exact cp
    generalize (changesI p).map (fun c => mostAt p n (behind p s c)) = ns at e3 cp' ⊢
    simp [n7, sSeq, sRet, sRetN, sRetW, sIf, sNext, sNever, sExpr, sAsg, sNew, sNewS, sPar, sPar3, sApp, sSetIx, sDPut, sPar3W, fnD0, fnD1, fnOwn, fIxDN, fInDN, fIxZ, fInZ, fLenZ, fListZ, fGetZ, fMaxL, fMinL, fVar, fC, fRaw, fNil, fCons, fTup, fLst, fOp, fTest, fChain, fAnd, fOr, fNot, fAndV, fOrV, fNotV, fIf, fIfT, fStill, still, fnLst, gNm, gTp, gsCons, gsNil, fCall, fCallO, fCallN, fIxN, fLenN, fSl, fPart, fNoPart, fNeg, fIsi, fIsi2, fLen, fAbs, fInt, fMax2, fMin2, fTupOf, fListOf, fSorted, fLstR, fAll, fAny, fIx, fIn, fEq, fIsN, fAdd, fMul, f2I, unD, slots0, settable_iff, npd, npn, npo, npf, npr, ownAt, owned, lentEnd, fiLst, fiTup, fiR1, fiR2, fiZip, fiZip3, fiKeysZ, fiItemsZ, fYes, wipeS, sMix, fmNil, fmS, fmN, setM, Mx.slot, fnDc, fFz, fSlN, fLenDN, fPopN, fSum, fMaxVals, fListVals, fDictOf, fGetDN, fPopDN]
    unfold g__law_most_3
    simp [fn__law_turns, fn_switched, fnPS, planOf_d, standOf_d, ok, hf.len, intsD_map, keyD_stn, sSeq, sRet, sRetN, sRetW, sIf, sNext, sNever, sExpr, sAsg, sNew, sNewS, sPar, sPar3, sApp, sSetIx, sDPut, sPar3W, fnD0, fnD1, fnOwn, fIxDN, fInDN, fIxZ, fInZ, fLenZ, fListZ, fGetZ, fMaxL, fMinL, fVar, fC, fRaw, fNil, fCons, fTup, fLst, fOp, fTest, fChain, fAnd, fOr, fNot, fAndV, fOrV, fNotV, fIf, fIfT, fStill, still, fnLst, gNm, gTp, gsCons, gsNil, fCall, fCallO, fCallN, fIxN, fLenN, fSl, fPart, fNoPart, fNeg, fIsi, fIsi2, fLen, fAbs, fInt, fMax2, fMin2, fTupOf, fListOf, fSorted, fLstR, fAll, fAny, fIx, fIn, fEq, fIsN, fAdd, fMul, f2I, unD, slots0, settable, ownAt, owned, lentEnd, fiLst, fiTup, fiR1, fiR2, fiZip, fiZip3, fiKeysZ, fiItemsZ, fYes, wipeS, sMix, fmNil, fmS, fmN, setM, Mx.slot, fnDc, fFz, fSlN, fLenDN, fPopN, fSum, fMaxVals, fListVals, fDictOf, fGetDN, fPopDN]
    refine ⟨cp', fun m hm hle => ?_⟩
    rw [max_eq hm hle]
    refine ⟨by rw [tab_len, sizeLine_eq]; have := stands_len ok; simp; omega, ?_⟩
    rw [dPut_tab hns, ← e3, ← tab_snoc, ← etk]
    exact hE _ ⟨_, _, _, npD _, n5, npD _, rfl⟩
theorem d__law_most_6 {p : Pl} (ok : p.ok) {t : Int} {n : Nat} {E : DEnds} {ρ : List S} {x : D} (hE : ∀ ρ, IL p t (n + 1) ρ → E.nx ρ) (h : IL p t n ρ) : gNm 5 (.d x) ρ fun ρ2 => g__law_most_6 E ρ2 := by
  obtain ⟨s4, s5, s6, s7, n4, n5, n6, n7, rfl⟩ := h
  unfold g__law_most_6
  simp [n5, n6, sSeq, sRet, sRetN, sRetW, sIf, sNext, sNever, sExpr, sAsg, sNew, sNewS, sPar, sPar3, sApp, sSetIx, sDPut, sPar3W, fnD0, fnD1, fnOwn, fIxDN, fInDN, fIxZ, fInZ, fLenZ, fListZ, fGetZ, fMaxL, fMinL, fVar, fC, fRaw, fNil, fCons, fTup, fLst, fOp, fTest, fChain, fAnd, fOr, fNot, fAndV, fOrV, fNotV, fIf, fIfT, fStill, still, fnLst, gNm, gTp, gsCons, gsNil, fCall, fCallO, fCallN, fIxN, fLenN, fSl, fPart, fNoPart, fNeg, fIsi, fIsi2, fLen, fAbs, fInt, fMax2, fMin2, fTupOf, fListOf, fSorted, fLstR, fAll, fAny, fIx, fIn, fEq, fIsN, fAdd, fMul, f2I, unD, slots0, settable_iff, npd, npn, npo, npf, npr, ownAt, owned, lentEnd, fiLst, fiTup, fiR1, fiR2, fiZip, fiZip3, fiKeysZ, fiItemsZ, fYes, wipeS, sMix, fmNil, fmS, fmN, setM, Mx.slot, fnDc, fFz, fSlN, fLenDN, fPopN, fSum, fMaxVals, fListVals, fDictOf, fGetDN, fPopDN]
  unfold g__law_most_5 sSeq
  rw [sFor_eq]
  simp [sSeq, sRet, sRetN, sRetW, sIf, sNext, sNever, sExpr, sAsg, sNew, sNewS, sPar, sPar3, sApp, sSetIx, sDPut, sPar3W, fnD0, fnD1, fnOwn, fIxDN, fInDN, fIxZ, fInZ, fLenZ, fListZ, fGetZ, fMaxL, fMinL, fVar, fC, fRaw, fNil, fCons, fTup, fLst, fOp, fTest, fChain, fAnd, fOr, fNot, fAndV, fOrV, fNotV, fIf, fIfT, fStill, still, fnLst, gNm, gTp, gsCons, gsNil, fCall, fCallO, fCallN, fIxN, fLenN, fSl, fPart, fNoPart, fNeg, fIsi, fIsi2, fLen, fAbs, fInt, fMax2, fMin2, fTupOf, fListOf, fSorted, fLstR, fAll, fAny, fIx, fIn, fEq, fIsN, fAdd, fMul, f2I, unD, slots0, settable, ownAt, owned, lentEnd, fiLst, fiTup, fiR1, fiR2, fiZip, fiZip3, fiKeysZ, fiItemsZ, fYes, wipeS, sMix, fmNil, fmS, fmN, setM, Mx.slot, fnDc, fFz, fSlN, fLenDN, fPopN, fSum, fMaxVals, fListVals, fDictOf, fGetDN, fPopDN]
  rw [stands_keys]
  refine sForB_cnt (JL p t n) ⟨s4, _, s7, n4, npD _, n7, rfl⟩ ?_ ?_
  · rintro ρ ⟨s4, s5, s7, n4, n5, n7, rfl⟩
    have e : (standsOf p).take ((standsOf p).map Stn.d).length = standsOf p := by rw [List.length_map]; exact List.take_length
    rw [e]
    unfold g__law_most_2
    simp [sSeq, sRet, sRetN, sRetW, sIf, sNext, sNever, sExpr, sAsg, sNew, sNewS, sPar, sPar3, sApp, sSetIx, sDPut, sPar3W, fnD0, fnD1, fnOwn, fIxDN, fInDN, fIxZ, fInZ, fLenZ, fListZ, fGetZ, fMaxL, fMinL, fVar, fC, fRaw, fNil, fCons, fTup, fLst, fOp, fTest, fChain, fAnd, fOr, fNot, fAndV, fOrV, fNotV, fIf, fIfT, fStill, still, fnLst, gNm, gTp, gsCons, gsNil, fCall, fCallO, fCallN, fIxN, fLenN, fSl, fPart, fNoPart, fNeg, fIsi, fIsi2, fLen, fAbs, fInt, fMax2, fMin2, fTupOf, fListOf, fSorted, fLstR, fAll, fAny, fIx, fIn, fEq, fIsN, fAdd, fMul, f2I, unD, slots0, settable, ownAt, owned, lentEnd, fiLst, fiTup, fiR1, fiR2, fiZip, fiZip3, fiKeysZ, fiItemsZ, fYes, wipeS, sMix, fmNil, fmS, fmN, setM, Mx.slot, fnDc, fFz, fSlN, fLenDN, fPopN, fSum, fMaxVals, fListVals, fDictOf, fGetDN, fPopDN]
    exact hE _ ⟨_, _, _, _, n4, n5, (show np (.fz _) from trivial), n7, rfl⟩
  · intro k x hx ρ hρ
    rw [List.getElem?_map] at hx
    obtain ⟨s, hs, rfl⟩ := Option.map_eq_some_iff.mp hx
    exact d__law_most_4 ok hs (fun ρ z => z) hρ
theorem d__law_most (ss : List S) (Q' : S → Prop) (h : fn__law_most ss Q') : g__law_most (EF Q') (slots0 9 ss) := by
  unfold fn__law_most at h
  split at h
  · rename_i x o t
    split at h
    · rename_i p e
      rw [planOf_some e]
      obtain ⟨⟨ok, rfl, t0, t1⟩, h⟩ := h
      unfold g__law_most
      simp [fnLc, sSeq, sRet, sRetN, sRetW, sIf, sNext, sNever, sExpr, sAsg, sNew, sNewS, sPar, sPar3, sApp, sSetIx, sDPut, sPar3W, fnD0, fnD1, fnOwn, fIxDN, fInDN, fIxZ, fInZ, fLenZ, fListZ, fGetZ, fMaxL, fMinL, fVar, fC, fRaw, fNil, fCons, fTup, fLst, fOp, fTest, fChain, fAnd, fOr, fNot, fAndV, fOrV, fNotV, fIf, fIfT, fStill, still, fnLst, gNm, gTp, gsCons, gsNil, fCall, fCallO, fCallN, fIxN, fLenN, fSl, fPart, fNoPart, fNeg, fIsi, fIsi2, fLen, fAbs, fInt, fMax2, fMin2, fTupOf, fListOf, fSorted, fLstR, fAll, fAny, fIx, fIn, fEq, fIsN, fAdd, fMul, f2I, unD, slots0, settable, ownAt, owned, lentEnd, fiLst, fiTup, fiR1, fiR2, fiZip, fiZip3, fiKeysZ, fiItemsZ, fYes, wipeS, sMix, fmNil, fmS, fmN, setM, Mx.slot, fnDc, fFz, fSlN, fLenDN, fPopN, fSum, fMaxVals, fListVals, fDictOf, fGetDN, fPopDN]
      rw [stands_keys]
      refine lc_map (i := 4) (ρ := [.d p.d, .fz (.dct (kvsF (waysOf p))), .d (.int t), .no, .no, .no, .no, .no, .no]) (p := zeroP) rfl ((standsOf p).map Stn.d) [] (by have := small_stands ok; simpa using this) (fun x hx Q3 h3 => ?_) ?_
      · simp [sizeLine_eq, sSeq, sRet, sRetN, sRetW, sIf, sNext, sNever, sExpr, sAsg, sNew, sNewS, sPar, sPar3, sApp, sSetIx, sDPut, sPar3W, fnD0, fnD1, fnOwn, fIxDN, fInDN, fIxZ, fInZ, fLenZ, fListZ, fGetZ, fMaxL, fMinL, fVar, fC, fRaw, fNil, fCons, fTup, fLst, fOp, fTest, fChain, fAnd, fOr, fNot, fAndV, fOrV, fNotV, fIf, fIfT, fStill, still, fnLst, gNm, gTp, gsCons, gsNil, fCall, fCallO, fCallN, fIxN, fLenN, fSl, fPart, fNoPart, fNeg, fIsi, fIsi2, fLen, fAbs, fInt, fMax2, fMin2, fTupOf, fListOf, fSorted, fLstR, fAll, fAny, fIx, fIn, fEq, fIsN, fAdd, fMul, f2I, unD, slots0, settable, ownAt, owned, lentEnd, fiLst, fiTup, fiR1, fiR2, fiZip, fiZip3, fiKeysZ, fiItemsZ, fYes, wipeS, sMix, fmNil, fmS, fmN, setM, Mx.slot, fnDc, fFz, fSlN, fLenDN, fPopN, fSum, fMaxVals, fListVals, fDictOf, fGetDN, fPopDN]
        exact h3
      · have kn := keys_nodup (g := mostD p 0) (stands_nodup ok)
        have ks := keys_some (l := standsOf p) (g := mostD p 0)
        have kl := tab_len (standsOf p) (mostD p 0)
        have sl := stands_len ok
        rw [List.nil_append]
        simp only [zero_pairs p]
        refine ⟨fun a b hab => ks (a, b) hab, kn, by rw [kl, sizeLine_eq]; omega, ?_⟩
        simp [sSeq, sRet, sRetN, sRetW, sIf, sNext, sNever, sExpr, sAsg, sNew, sNewS, sPar, sPar3, sApp, sSetIx, sDPut, sPar3W, fnD0, fnD1, fnOwn, fIxDN, fInDN, fIxZ, fInZ, fLenZ, fListZ, fGetZ, fMaxL, fMinL, fVar, fC, fRaw, fNil, fCons, fTup, fLst, fOp, fTest, fChain, fAnd, fOr, fNot, fAndV, fOrV, fNotV, fIf, fIfT, fStill, still, fnLst, gNm, gTp, gsCons, gsNil, fCall, fCallO, fCallN, fIxN, fLenN, fSl, fPart, fNoPart, fNeg, fIsi, fIsi2, fLen, fAbs, fInt, fMax2, fMin2, fTupOf, fListOf, fSorted, fLstR, fAll, fAny, fIx, fIn, fEq, fIsN, fAdd, fMul, f2I, unD, slots0, settable, ownAt, owned, lentEnd, fiLst, fiTup, fiR1, fiR2, fiZip, fiZip3, fiKeysZ, fiItemsZ, fYes, wipeS, sMix, fmNil, fmS, fmN, setM, Mx.slot, fnDc, fFz, fSlN, fLenDN, fPopN, fSum, fMaxVals, fListVals, fDictOf, fGetDN, fPopDN]
        unfold g__law_most_7 sSeq
        rw [sFor_eq]
        simp [sSeq, sRet, sRetN, sRetW, sIf, sNext, sNever, sExpr, sAsg, sNew, sNewS, sPar, sPar3, sApp, sSetIx, sDPut, sPar3W, fnD0, fnD1, fnOwn, fIxDN, fInDN, fIxZ, fInZ, fLenZ, fListZ, fGetZ, fMaxL, fMinL, fVar, fC, fRaw, fNil, fCons, fTup, fLst, fOp, fTest, fChain, fAnd, fOr, fNot, fAndV, fOrV, fNotV, fIf, fIfT, fStill, still, fnLst, gNm, gTp, gsCons, gsNil, fCall, fCallO, fCallN, fIxN, fLenN, fSl, fPart, fNoPart, fNeg, fIsi, fIsi2, fLen, fAbs, fInt, fMax2, fMin2, fTupOf, fListOf, fSorted, fLstR, fAll, fAny, fIx, fIn, fEq, fIsN, fAdd, fMul, f2I, unD, slots0, settable, ownAt, owned, lentEnd, fiLst, fiTup, fiR1, fiR2, fiZip, fiZip3, fiKeysZ, fiItemsZ, fYes, wipeS, sMix, fmNil, fmS, fmN, setM, Mx.slot, fnDc, fFz, fSlN, fLenDN, fPopN, fSum, fMaxVals, fListVals, fDictOf, fGetDN, fPopDN]
        refine ⟨by omega, by omega, ?_⟩
        refine sForB_cnt (IL p t) ⟨.no, .no, .no, .no, trivial, trivial, trivial, trivial, rfl⟩ ?_ ?_
        · rintro ρ ⟨s4, s5, s6, s7, n4, n5, n6, n7, rfl⟩
          have hl : (upto 0 t.toNat).length = t.toNat := by simp [upto]
          rw [hl]
          unfold g__law_most_1
          simp [tab_vals, sSeq, sRet, sRetN, sRetW, sIf, sNext, sNever, sExpr, sAsg, sNew, sNewS, sPar, sPar3, sApp, sSetIx, sDPut, sPar3W, fnD0, fnD1, fnOwn, fIxDN, fInDN, fIxZ, fInZ, fLenZ, fListZ, fGetZ, fMaxL, fMinL, fVar, fC, fRaw, fNil, fCons, fTup, fLst, fOp, fTest, fChain, fAnd, fOr, fNot, fAndV, fOrV, fNotV, fIf, fIfT, fStill, still, fnLst, gNm, gTp, gsCons, gsNil, fCall, fCallO, fCallN, fIxN, fLenN, fSl, fPart, fNoPart, fNeg, fIsi, fIsi2, fLen, fAbs, fInt, fMax2, fMin2, fTupOf, fListOf, fSorted, fLstR, fAll, fAny, fIx, fIn, fEq, fIsN, fAdd, fMul, f2I, unD, slots0, settable, ownAt, owned, lentEnd, fiLst, fiTup, fiR1, fiR2, fiZip, fiZip3, fiKeysZ, fiItemsZ, fYes, wipeS, sMix, fmNil, fmS, fmN, setM, Mx.slot, fnDc, fFz, fSlN, fLenDN, fPopN, fSum, fMaxVals, fListVals, fDictOf, fGetDN, fPopDN]
          have e1 : (standsOf p).map (mostD p t.toNat) = ((standsOf p).map (mostAt p t.toNat)).map PyData.int := by rw [List.map_map]; rfl
          rw [e1, intsD_map]
          dsimp only
          refine ⟨by rw [List.length_map]; exact stands_pos p, fun m hm hle => ?_⟩
          rw [max_eq hm hle]
          exact h
        · intro n x hx ρ hρ
          exact d__law_most_6 ok (fun ρ z => z) hρ
    · exact h.elim
  · exact h.elim
end Aq
/-! B16: windows of switchings, plainly; the first of both. -/
namespace Aq
open PySem PySem.Spec PyProof.Rows L2
def turnsL (p : Pl) : Stn → List Int → List Int
  | _, [] => []
  | s, c :: cs => turnsOf p s :: turnsL p (behind p s c) cs
theorem turnsL_len (p : Pl) : ∀ (cs : List Int) (s : Stn), (turnsL p s cs).length = cs.length
  | [], _ => rfl
  | c :: cs, s => by simp [turnsL, turnsL_len p cs]
theorem turnsL_snoc (p : Pl) : ∀ (cs : List Int) (s : Stn) (c : Int), turnsL p s (cs ++ [c]) = turnsL p s cs ++ [turnsOf p (ledTo p s cs)]
  | [], _, _ => rfl
  | d :: cs, s, c => by
    show turnsOf p s :: turnsL p (behind p s d) (cs ++ [c]) = _
    rw [turnsL_snoc p cs]
    rfl
theorem turnsL_drop (p : Pl) : ∀ (k : Nat) (cs : List Int) (s : Stn), (turnsL p s cs).drop k = turnsL p (ledTo p s (cs.take k)) (cs.drop k)
  | 0, _, _ => rfl
  | k + 1, [], _ => rfl
  | k + 1, c :: cs, s => by
    show (turnsL p (behind p s c) cs).drop k = _
    rw [turnsL_drop p k cs]
    rfl
theorem bN_nonneg (b : Bool) : 0 ≤ bN b := by cases b <;> decide
theorem turnsOf_nonneg (p : Pl) (s : Stn) : 0 ≤ turnsOf p s := by
  have := bN_nonneg ((partH p s).runs != s.h.runs)
  have := bN_nonneg ((partC p s).runs != s.c.runs)
  unfold turnsOf
  omega
theorem le_maxL {ns : List Int} {n : Int} (h : n ∈ ns) : n ≤ maxL ns := (maxL_max (List.length_pos_of_mem h)).2 n h
theorem maxL_le {ns : List Int} {m : Int} (h : 0 < ns.length) (hm : ∀ n ∈ ns, n ≤ m) : maxL ns ≤ m := hm _ (maxL_max h).1
theorem most_step {p : Pl} (ok : p.ok) : ∀ (k : Nat) (s : Stn), mostAt p k s ≤ mostAt p (k + 1) s
  | 0, s => by
    have h1 := turnsOf_nonneg p s
    have cp := changes_pos ok
    have h2 : (0 : Int) ≤ maxL ((changesI p).map fun c => mostAt p 0 (behind p s c)) := by
      obtain ⟨c, hc⟩ : ∃ c, c ∈ changesI p := ⟨_, List.getElem_mem cp⟩
      exact le_maxL (n := 0) (List.mem_map.mpr ⟨c, hc, rfl⟩)
    exact Int.add_nonneg h1 h2
  | k + 1, s => by
    have cp := changes_pos ok
    show turnsOf p s + maxL ((changesI p).map fun c => mostAt p k (behind p s c)) ≤ turnsOf p s + maxL ((changesI p).map fun c => mostAt p (k + 1) (behind p s c))
    have : maxL ((changesI p).map fun c => mostAt p k (behind p s c)) ≤ maxL ((changesI p).map fun c => mostAt p (k + 1) (behind p s c)) := by
      refine maxL_le (by rw [List.length_map]; exact cp) fun n hn => ?_
      obtain ⟨c, hc, rfl⟩ := List.mem_map.mp hn
      exact Int.le_trans (most_step ok k _) (le_maxL (List.mem_map.mpr ⟨c, hc, rfl⟩))
    omega
theorem most_mono {p : Pl} (ok : p.ok) {k m : Nat} (h : k ≤ m) (s : Stn) : mostAt p k s ≤ mostAt p m s := by
  induction h with
  | refl => exact Int.le_refl _
  | step _ ih => exact Int.le_trans ih (most_step ok _ s)
theorem turns_sum {p : Pl} : ∀ (cs : List Int) (s : Stn), (∀ c ∈ cs, c ∈ changesI p) → (turnsL p s cs).sum ≤ mostAt p cs.length s
  | [], _, _ => Int.le_refl _
  | c :: cs, s, h => by
    have h1 := turns_sum cs (behind p s c) fun d hd => h d (List.mem_cons_of_mem _ hd)
    have h2 : mostAt p cs.length (behind p s c) ≤ maxL ((changesI p).map fun c => mostAt p cs.length (behind p s c)) := le_maxL (List.mem_map.mpr ⟨c, h c List.mem_cons_self, rfl⟩)
    show turnsOf p s + (turnsL p (behind p s c) cs).sum ≤ turnsOf p s + _
    omega
theorem led_stands {p : Pl} (ok : p.ok) (cs : List Int) (h : ∀ c ∈ cs, c ∈ changesI p) : ledTo p (firstStand p) cs ∈ standsOf p := by
  obtain ⟨e, he, e1, _⟩ := ways_led ok cs h
  exact List.mem_map.mpr ⟨e, he, e1⟩
/-- no window has more -/
theorem window {p : Pl} (ok : p.ok) {t k : Nat} {cs : List Int} (h : ∀ c ∈ cs, c ∈ changesI p) (hk : cs.length - k ≤ t) : ((turnsL p (firstStand p) cs).drop k).sum ≤ mostOf p t := by
  rw [turnsL_drop]
  have h1 := turns_sum (cs.drop k) (ledTo p (firstStand p) (cs.take k)) fun c hc => h c (List.mem_of_mem_drop hc)
  have h2 : mostAt p (cs.drop k).length (ledTo p (firstStand p) (cs.take k)) ≤ mostAt p t (ledTo p (firstStand p) (cs.take k)) := most_mono ok (by rw [List.length_drop]; exact hk) _
  have h3 : mostAt p t (ledTo p (firstStand p) (cs.take k)) ≤ mostOf p t := le_maxL (List.mem_map.mpr ⟨_, led_stands ok (cs.take k) fun c hc => h c (List.mem_of_mem_take hc), rfl⟩)
  omega
theorem cut_map {α β : Type} (f : α → β) (xs : List α) (lo hi : Option Int) : cut (xs.map f) lo hi = (cut xs lo hi).map f := by
  unfold cut
  simp [List.map_take, List.map_drop]
theorem cut_last (xs : List Int) (t : Int) (h : 0 < t) : ∃ k, cut xs (some (-t)) none = xs.drop k ∧ xs.length - k ≤ t.toNat := by
  refine ⟨HT.sIx xs.length 0 (some (-t)), ?_, ?_⟩
  · unfold cut
    rw [HT.sIx_none]
    exact List.take_of_length_le (by simp)
  · show xs.length - (if -t < 0 then (-t + (xs.length : Int)).toNat else min (-t).toNat xs.length) ≤ t.toNat
    rw [if_pos (by omega)]
    omega
/-- both at once are foretold -/
theorem foretold {p : Pl} (ok : p.ok) {cs : List Int} (h : ∀ c ∈ cs, c ∈ changesI p) (hb : bothB p (ledTo p (firstStand p) cs) = true) : ∃ r : List Int, bothR p = runD r ∧ r.length ≤ cs.length + 1 := by
  obtain ⟨e, he, e1, e2⟩ := ways_led ok cs h
  obtain ⟨i, hi, e3⟩ := List.mem_iff_getElem.mp he
  unfold bothR
  cases hf : (waysOf p).find? fun e => bothB p e.1 with
  | none =>
    have := List.find?_eq_none.mp hf e he
    rw [e1, hb] at this
    exact absurd rfl this
  | some e0 =>
    refine ⟨_, rfl, ?_⟩
    have hle : e0.2.length ≤ e.2.length := by
      obtain ⟨_, as, bs, h1, h2⟩ := List.find?_eq_some_iff_append.mp hf
      have he2 : e ∈ e0 :: bs := by
        rw [h1] at he
        rcases List.mem_append.mp he with q | q
        · have := h2 e q
          rw [e1, hb] at this
          cases this
        · exact q
      have hs := (ways_whole ok).srt
      unfold Srt at hs
      rw [h1, List.pairwise_append] at hs
      rcases List.mem_cons.mp he2 with rfl | q
      · exact Nat.le_refl _
      · exact (List.pairwise_cons.mp hs.2.1).1 e q
    simp
    omega
end Aq
/-! A18: lambdas that are handed to a def, with parameters or without; the call of what was handed. -/
namespace Aq
open PySem PySem.Spec PyProof.Rows L2
/-- the lambda's names: its parameters, captured ones, globals -/
structure LamA (sc scope : Scope) (ps N : List Str) : Prop where
  kind : scope.kind = .function
  co : scope.isCoroutine = false
  gen : scope.isGenerator = false
  cell : ∀ y ∈ scope.names, y.2 ≠ .cell
  loc : ∀ y ∈ scope.names, y.2 = .local → y.1 ∈ ps
  par : ∀ x ∈ ps, scope.names.lookup x = some .local
  free : ∀ y ∈ scope.names, y.2 = .free → sc.names.lookup y.1 = some .cell ∨ sc.names.lookup y.1 = some .free
  nd : ps.Nodup
  out : ∀ x ∈ N, x ∉ ps
def lamAB (sc scope : Scope) (ps N : List Str) : Bool :=
  decide (scope.kind = .function) && (!scope.isCoroutine && (!scope.isGenerator && ((scope.names.all fun y => !decide (y.2 = .cell) && ((!decide (y.2 = .local) || decide (y.1 ∈ ps)) && (!decide (y.2 = .free) || (decide (sc.names.lookup y.1 = some .cell) || decide (sc.names.lookup y.1 = some .free))))) &&
    ((ps.all fun x => decide (scope.names.lookup x = some .local)) && (decide ps.Nodup && N.all fun x => !decide (x ∈ ps))))))
theorem lamA_by {sc scope : Scope} {ps N : List Str} (h : lamAB sc scope ps N = true) : LamA sc scope ps N := by
  unfold lamAB at h
  simp only [Bool.and_eq_true, Bool.or_eq_true, Bool.not_eq_true', decide_eq_true_eq, decide_eq_false_iff_not, List.all_eq_true] at h
  obtain ⟨h1, h2, h3, h4, h5, h6, h7⟩ := h
  refine ⟨h1, h2, h3, fun y hy => (h4 y hy).1, fun y hy e => ?_, h5, fun y hy e => ?_, h6, h7⟩
  · exact (h4 y hy).2.1.resolve_left (fun z => z e)
  · exact (h4 y hy).2.2.resolve_left (fun z => z e)
/-- the context of its body -/
def lamAx (X : Cx) (ps : List Str) (A : Around) (outer : List Env) (s : Shared) (H : Hp) (E : XK) (scope : Scope) (f c' : Addr) : Cx := { LamX.lamCx X A outer s H E scope f c' with N := ps ++ X.N }
instance tbLam {X : Cx} [h : Tb X.mg] {ps : List Str} {A : Around} {outer : List Env} {s : Shared} {H : Hp} {E : XK} {scope : Scope} {f c' : Addr} : Tb (lamAx X ps A outer s H E scope f c').mg := h
theorem zip_look : ∀ {ps : List Str} {us : List Value} {i : Nat} {x : Str} {u : Value}, ps.Nodup → ps[i]? = some x → us[i]? = some u → ps.length = us.length → (ps.zip us).reverse.lookup x = some u := by
  intro ps us i x u hn hx hu hl
  have hm : (x, u) ∈ (ps.zip us).reverse := by
    rw [List.mem_reverse]
    exact List.mem_of_getElem? (List.getElem?_zip_eq_some.mpr ⟨hx, hu⟩)
  have uniq : ∀ {u'}, (x, u') ∈ ps.zip us → u' = u := fun {u'} h' => by
    obtain ⟨j, hj⟩ := List.mem_iff_getElem?.mp h'
    obtain ⟨j1, j2⟩ := List.getElem?_zip_eq_some.mp hj
    obtain ⟨a1, a2⟩ := List.getElem?_eq_some_iff.mp j1
    obtain ⟨b1, b2⟩ := List.getElem?_eq_some_iff.mp hx
    have : j = i := (List.getElem_inj (h₀ := a1) (h₁ := b1) hn).mp (a2.trans b2.symm)
    subst this
    rw [hu] at j2
    exact (Option.some.inj j2).symm
  obtain ⟨u', hu'⟩ := mem_lookup hm
  have := PySem.mem_of_lookup hu'
  rw [List.mem_reverse] at this
  rw [hu', uniq this]
section
variable {X : Cx} {pins : List (Addr × Obj)} {σ : L2.St} {H HZ : Hp} {s s1 : Shared}
theorem lam_enter {A : Around} {outer : List Env} {E : XK} {scope : Scope} {f c' : Addr} {h₁ : Heap} {tk : Nat} {ps : List Str} {us : List Value} {vs : List V} (I : Inv X pins σ H s) (L : LamA X.env.scope scope ps X.N) (e0 : Env0 X.prog X.w X.K X.mg X.base A outer s1 HZ) (hd : A.handled = none)
    (un : Un (frs X.stack) [] H HZ s.heap s1.heap) (hns : h₁.Ns s1.heap.objs.size fun y => (ps.zip us).reverse.lookup y) (kp : ∀ b o, s1.heap.get? b = some o → h₁.get? b = some o) (rv : Vals vs us) (hl : vs.length = ps.length) :
    Inv (lamAx X ps A outer s1 HZ E scope f c') [] (vs.map some ++ σ) HZ { s1 with heap := h₁, toks := tk } := by
  have has : ∀ y ∈ scope.names, y.2 = .free → ∃ c, X.env.cells.lookup y.1 = some c := fun y hy e => (L.free y hy e).elim (fun k => I.ok.has _ (.inl k)) fun k => I.ok.has _ (.inr k)
  have back : ∀ {y c}, (cloFrom X.env.cells scope.names []).lookup y = some c → X.env.cells.lookup y = some c := fun {y c} e => by
    rcases cloFrom_mem (PySem.mem_of_lookup e) with hm | ⟨h1, h2⟩
    · cases hm
    · obtain ⟨c1, hc⟩ := has _ h1 rfl
      have hc : X.env.cells.lookup y = some c1 := hc
      have e2 : c = c1 := by rw [h2, hc]; rfl
      rw [e2]
      exact hc
  have there : ∀ {y}, scope.names.lookup y = some .free → ∃ c, (cloFrom X.env.cells scope.names []).lookup y = some c := fun {y} hy => mem_lookup (cloFrom_has (cells := X.env.cells) (acc := []) (PySem.mem_of_lookup hy))
  have stay : ∀ {c : Addr} {v : Option Value}, H c = none → s.heap.IsCell c v → h₁.IsCell c v := fun {c v} n ⟨o, ho, hd⟩ => by
    obtain ⟨sl, q⟩ := un.any ho n (by simp)
    exact ⟨_, kp _ _ q, hd⟩
  have noA : ∀ b : Addr, b ∉ (lamAx X ps A outer s1 HZ E scope f c').ex := fun b z => absurd (show b ∈ ([] : List Addr) from z) (by simp)
  have nocell : ∀ {y}, scope.names.lookup y ≠ some .cell := fun {y} z => L.cell _ (PySem.mem_of_lookup z) rfl
  refine ⟨⟨e0.mod, L.kind, rfl, rfl, Nat.le_refl _, fun y z c e1 e2 => I.ok.inj y z c (back e1) (back e2), fun y hy => ?_, (fun y c z _ => nomatch (show false = true from z)), fun _ => hd, Around.frames_deeper e0.frames, .inr ⟨rfl, rfl⟩, fun b z => absurd z (noA b), e0.bs, e0.bsz, fun b _ _ => noA b,
      fun b z => absurd z (noA b), e0.funs, e0.frf⟩,
    rfl, e0.bare, Un.kept kp, ⟨_, hns, fun i y v e1 e2 e3 => ?_⟩, fun y c e => ?_, e0.hok.fresh (Nat.le_refl _), fun y c e => ?_, fun q hq => absurd (show q ∈ ([] : List (Addr × Obj)) ++ [] from hq) (by simp), e0.hok.kept kp, ?_⟩
  · have hy : scope.names.lookup y = some .cell ∨ scope.names.lookup y = some .free := hy
    exact hy.elim (fun z => absurd z nocell) there
  · have e3 : Vis scope y := e3
    have e1 : (ps ++ X.N)[i]? = some y := e1
    by_cases hi : i < ps.length
    · rw [List.getElem?_append_left hi] at e1
      rw [List.getElem?_append_left (by rw [List.length_map, hl]; exact hi), List.getElem?_map] at e2
      obtain ⟨v', hv', ev⟩ := Option.map_eq_some_iff.mp e2
      cases ev
      obtain ⟨u, hu, ru⟩ := rv.get hv'
      exact ⟨u, ru, .inl ⟨L.par y (List.mem_of_getElem? e1), zip_look L.nd e1 hu (by rw [← rv.length, hl])⟩⟩
    · rw [List.getElem?_append_right (by omega)] at e1
      rw [List.getElem?_append_right (by rw [List.length_map, hl]; omega), List.length_map, hl] at e2
      have nps := L.out y (List.mem_of_getElem? e1)
      rcases e3 with k | k | k
      · exact absurd (L.loc _ (PySem.mem_of_lookup k) rfl) nps
      · exact absurd k nocell
      · obtain ⟨m, hn, hlk⟩ := I.loc
        have vis : Vis X.env.scope y := (L.free _ (PySem.mem_of_lookup k) rfl).elim (fun k => .inr (.inl k)) fun k => .inr (.inr k)
        obtain ⟨w', r, q⟩ := hlk _ y v e1 e2 vis
        obtain ⟨c2, h2⟩ := there k
        refine ⟨w', r, .inr ⟨.inr k, c2, h2, ?_⟩⟩
        have c1 := back h2
        rcases q with ⟨k', _⟩ | ⟨_, c3, e', z⟩
        · have k' : X.env.scope.names.lookup y = some .local := k'
          rcases L.free _ (PySem.mem_of_lookup k) rfl with k2 | k2 <;> rw [show X.env.scope.names.lookup y = _ from k2] at k' <;> cases k'
        · rw [c1] at e'
          cases e'
          exact stay (I.freeC y _ c1) z
  · obtain ⟨w', z⟩ := I.cell y c (back e)
    exact ⟨w', stay (I.freeC y c (back e)) z⟩
  · obtain ⟨v, o, ho, hd⟩ := I.cell y c (back e)
    exact un.free c o ho (I.freeC y c (back e)) (by simp)
  · show (vs.map some ++ σ).length = (ps ++ X.N).length
    rw [List.length_append, List.length_append, List.length_map, hl, I.len]
/-- what is handed, called from the def that got it: Z is that def's context, entered at s -/
def tAct (i : Nat) (f c' : Addr) (q : Str) (n : Nat) (σ : L2.St) (ta : TA) (tb : TE) : TE := fun σZ HZ Q => σZ[i]? = some (some (.ref f)) ∧ ta σZ HZ fun vs H1 => vs.length = n ∧ H1 c' = some (LamX.CodeO c' q) ∧ tb (vs.map some ++ σ) H1 Q
abbrev lamO (X : Cx) (params : Arguments) (body : Expr) (scope : Scope) (pm : Value) (c' : Addr) (ctv : Value) : Obj := PySem.W.kla_obj "<lambda>" (X.env.qual ++ "<lambda>") params body scope (cloFrom X.env.cells scope.names []) pm c' ctv
theorem pe_actA {CXg : CXT} {Eg : XK} {Ng : List Str} {qg : Str} {sg : Scope} {g f c' : Addr} {cdg pm ctv : Value} {params : Arguments} {body : Expr} {scope : Scope} {k i : Nat} {a : Str} {pn : List (Addr × Obj)} {xe : Value → Shared → Prop} {W : WX} {E : XK} {ta : TA} {tb : TE} {p1 p2 : Pos} {ps : List Str} {es : List Expr}
    (I : Inv X pins σ H s) (L : LamA X.env.scope scope ps X.N) (hf : s.heap.get? f = some (lamO X params body scope pm c' ctv)) (hfn : H f = none) (hfr : f ∉ frs X.stack)
    (hbind : ∀ us : List Value, us.length = ps.length → bindArgs (PySem.W.kla_fn "<lambda>" (X.env.qual ++ "<lambda>") params body scope (cloFrom X.env.cells scope.names []) pm (.ref c') ctv) ⟨us, []⟩ = pure (ps.zip us))
    (tk : Takes ((cxOf CXg X.prog X.w X.K X.mg X.base Ng qg sg g cdg X.A X.stack s H Eg).tr pn xe) W) (hW : ∀ cls d σ' H', E cls d H' → W cls d σ' H') (hr : Room (k + 1) (X.A.deeper (envOfC qg sg s.heap.objs.size g cdg)))
    (hbody : ∀ (A : Around) (outer : List Env) (s : Shared) (H : Hp), Room k (A.deeper (LamX.lamEnv X scope s.heap.objs.size f c')) → PE (lamAx X ps A outer s H E scope f c') body tb)
    (ha : PA ((cxOf CXg X.prog X.w X.K X.mg X.base Ng qg sg g cdg X.A X.stack s H Eg).tr pn xe) es ta) (hN : Ng[i]? = some a) (hv : Vis sg a) (hd : (a == ("__debug__" : Str)) = false) (hcd : (a == ("__classdict__" : Str)) = false)
    (he : ∀ e rest, es = e :: rest → starEach (e :: rest) (cxOf CXg X.prog X.w X.K X.mg X.base Ng qg sg g cdg X.A X.stack s H Eg).env = (false, eval e (cxOf CXg X.prog X.w X.K X.mg X.base Ng qg sg g cdg X.A X.stack s H Eg).env) :: starEach rest (cxOf CXg X.prog X.w X.K X.mg X.base Ng qg sg g cdg X.A X.stack s H Eg).env)
    (hnil : es = [] → ∀ σ H Q, ta σ H Q → Q [] H) (hpl : ∀ e rest, es = e :: rest → (backTo p2 (starEach rest (cxOf CXg X.prog X.w X.K X.mg X.base Ng qg sg g cdg X.A X.stack s H Eg).env)).any (·.1) = false) :
    PE ((cxOf CXg X.prog X.w X.K X.mg X.base Ng qg sg g cdg X.A X.stack s H Eg).tr pn xe) (.Call (.Name a p1) es [] p2) (tAct i f c' (X.env.qual ++ "<lambda>") ps.length σ ta tb) := by
  refine ⟨fun pinsZ sZ σZ HZ Q IZ ⟨hs, ht⟩ => ?_⟩
  refine wpAny_Call_Name_kw (thn ((pe_var (pos := p1) (i := i) hN hv hd hcd).run pinsZ sZ σZ HZ (fun v H1 => v = .ref f ∧ H1 = HZ) IZ ⟨.ref f, hs, rfl, rfl⟩) fun u s1 ⟨v, H1, I1, r1, ev, eH⟩ => ?_)
  subst ev eH
  cases r1
  have at_ : ∀ {σ2 : L2.St} {H2 : Hp} {s2 : Shared} {pins2 : List (Addr × Obj)}, Inv ((cxOf CXg X.prog X.w X.K X.mg X.base Ng qg sg g cdg X.A X.stack s H Eg).tr pn xe) pins2 σ2 H2 s2 → s2.heap.get? f = some (lamO X params body scope pm c' ctv) := fun {σ2 H2 s2 pins2} I2 =>
    I2.base.keep f _ hf hfn hfr (fun z => nomatch (show f ∈ ([] : List Addr) from z))
  -- behind the arguments
  have core : ∀ {us : List Value} {vs : List V} {H2 : Hp} {s2 : Shared}, Inv ((cxOf CXg X.prog X.w X.K X.mg X.base Ng qg sg g cdg X.A X.stack s H Eg).tr pn xe) pinsZ σZ H2 s2 → Vals vs us → vs.length = ps.length → H2 c' = some (LamX.CodeO c' (X.env.qual ++ "<lambda>")) → tb (vs.map some ++ σ) H2 Q →
      wpAny (model X.prog X.w) (X.A.deeper (envOfC qg sg s.heap.objs.size g cdg)) (call (.ref f) us) (EP ((cxOf CXg X.prog X.w X.K X.mg X.base Ng qg sg g cdg X.A X.stack s H Eg).tr pn xe) pinsZ σZ Q) xe s2 := fun {us vs H2 s2} I2 rv hl hc htb => by
    have un : Un (frs X.stack) [] H H2 s.heap s2.heap := I2.base
    obtain ⟨⟨oc, vs', t, hoc, hdc, hvc⟩, _, _⟩ := I2.hok c' _ hc
    have hul : us.length = ps.length := by rw [← rv.length, hl]
    have rc : codeAny (model X.prog X.w) (X.A.deeper (envOfC qg sg s.heap.objs.size g cdg)) (.call (.ref f) ⟨us, []⟩) (CR (L2.CX X.prog X.w) (envOfC qg sg s.heap.objs.size g cdg :: X.stack) X.prog X.w H2 s2 Q E) s2 := by
      refine PySem.W.kla_callFunE hr.depth (at_ I2) rfl L.co L.gen rfl ⟨c', oc, vs', t, rfl, hoc, hdc, hvc⟩ ?_
      rw [hbind us hul]
      refine wpAny_pure (wpAny_newFunctionEnv (fun y hy => L.cell y hy) (fun y hy => L.par y.1 (List.of_mem_zip hy).1) (fun h₁ hns hsb => ⟨I2.nolimit.fresh _ hsb, ?_⟩) L.kind)
      show codeAny _ _ (.expr body (LamX.lamEnv X scope s2.heap.objs.size f c')) _ _
      have kp : ∀ b o, s2.heap.get? b = some o → h₁.get? b = some o := fun b o e => hsb.extBut b o (Nat.ne_of_lt (Heap.lt_size e)) (Heap.get?_push_of_some _ e)
      have J : Inv (lamAx X ps (X.A.deeper (envOfC qg sg s.heap.objs.size g cdg)) (envOfC qg sg s.heap.objs.size g cdg :: X.stack) s2 H2 E scope f c') [] (vs.map some ++ σ) H2 { s2 with heap := h₁, toks := s2.toks + (ps.zip us).length } :=
        lam_enter I L I2.env0 hr.hd un hns kp rv hl
      refine PySem.W.kla_codeExpr (wpAny_mono ((hbody _ _ s2 H2 (hr.deeper _)).run [] _ _ H2 Q J htb) (fun v s' ⟨w', H', J', rv', q⟩ => ?_) fun e s' hq => hq)
      exact ⟨w', H', J'.os, J'.bare, J'.base, J'.hok, rv', q⟩
    have hx : Passes (L2.CX X.prog X.w) ((cxOf CXg X.prog X.w X.K X.mg X.base Ng qg sg g cdg X.A X.stack s H Eg).tr pn xe) E := passes_call tk hW
    refine wpAny_call (codeAny_mono rc fun r s' hq => ?_)
    cases r with
    | error e => exact hx pinsZ σZ H2 s2 e s' I2 hq
    | ok fl =>
      cases fl with
      | ret u => exact I2.after hq
      | next => exact False.elim hq
      | brk => exact False.elim hq
      | cont => exact False.elim hq
  cases es with
  | nil =>
    refine PySem.W.callWith_F0 ⟨_, _, _, _, at_ I1⟩ ?_
    obtain ⟨h1, h2, h3⟩ := hnil rfl _ _ _ ht
    exact core I1 .nil h1 h2 h3
  | cons e rest =>
    refine PySem.W.callWith_F ⟨_, _, _, _, at_ I1⟩ (thn (ha.run p2 pinsZ s1 σZ _ _ I1 ht) fun us s2 ⟨vs, H2, I2, rv, h1, h2, h3⟩ => ⟨⟨_, _, _, _, at_ I2⟩, core I2 rv h1 h2 h3⟩) (he e rest rfl) (hpl e rest rfl)
end
end Aq
/-! A19: lambdas handed to a def, told by data. -/
namespace Aq
open PySem PySem.Spec PyProof.Rows L2
/-! ### the making -/
section
variable {X : Cx} {pins : List (Addr × Obj)} {σ : L2.St} {H : Hp} {s : Shared}
theorem lam_makeF {F : Hp} {c P : Addr} {ps : Array Value} {params : Arguments} {body : Expr} {scope : Scope} {pos : Pos} {E : Value → Shared → Prop} {Q : Value → Shared → Prop} (I : Inv X pins σ H s) (TB : LamX.TabB X.base X.mg c P) (hcode : X.env.code = .ref c)
    (hP : H P = some (.tbl ps)) (ht : TriplesOk ps.toList) (ha : ∀ (pos : Pos) (cv : Value), codeAmong pos ps.toList = some cv → ∃ c, cv = .ref c ∧ F c = some (LamX.CodeO c (X.env.qual ++ "<lambda>"))) (sF : Same F H) (hdef : defaultsOf params X.env = ([], [])) (hfree : ∀ y ∈ scope.names, y.2 = .free → ∃ c, X.env.cells.lookup y.1 = some c)
    (h : ∀ (f c' : Addr) (pm ctv : Value) (H1 : Hp) (s' : Shared), Inv X pins σ H1 s' → ((H1 = H ∧ F c' = some (LamX.CodeO c' (X.env.qual ++ "<lambda>"))) ∨ ∃ ps' : Array Value, H c' = none ∧ H1 = upd (upd H P (.tbl ps')) c' (LamX.CodeO c' (X.env.qual ++ "<lambda>")) ∧ TriplesOk ps'.toList ∧ ∀ (pos : Pos) (cv : Value), codeAmong pos ps'.toList = some cv → codeAmong pos ps.toList = some cv ∨ cv = .ref c') →
      s'.heap.get? f = some (lamO X params body scope pm c' ctv) → H1 f = none → f ∉ frs X.stack → H1 c' = some (LamX.CodeO c' (X.env.qual ++ "<lambda>")) → Q (.ref f) s') :
    wpAny (model X.prog X.w) X.A (eval (.Lambda params body scope pos) X.env) Q E s := by
  refine PySem.W.kla_eval hdef ?_
  have bP : s.heap.BuiltinsAt X.mg P := TB.bm.keeps I.bk
  have hP' : s.heap.get? P = some { cls := .none, data := .fields ps } := I.hok P _ hP
  have nofr : ∀ f, s.heap.objs.size ≤ f → f ∉ frs X.stack := fun f hf z => by
    rcases List.mem_cons.mp (I.stkSub _ z) with e | e
    · have h1 := I.lt
      rw [← e] at h1
      exact Nat.lt_irrefl _ (Nat.lt_of_lt_of_le h1 hf)
    · exact I.nofs hf e
  cases hc : codeAmong pos ps.toList with
  | none =>
    refine PySem.W.kla_makeFunction (mg := X.mg) (c := c) (P := P) (ps := ps) (closure_ok hfree) I.ok.glob (I.mod.glob.keeps I.bk) hcode (TB.code.keeps I.bk) hP' ht hc TB.gP bP fun c' ctv h' tk hx hge hlt hrec htb => ?_
    obtain ⟨c2, oc, vs, t, e2, hoc, hd, hv⟩ := hrec
    cases e2
    have hsz : s.heap.objs.size ≤ h'.objs.size := Nat.le_trans hge (Nat.le_of_lt hlt)
    have nC : H c' = none := I.hok.fresh hge
    have I1 := LamX.inv_table (t' := tk) (more := #[rawInt pos.line, rawInt pos.col, .ref c']) (h' := h'.push (lamO X params body scope ((X.mg "__name__").getD .none) c' ctv)) I hP
      (fun b o hb e => Heap.get?_push_of_some _ (hx b o hb e)) (Heap.get?_push_of_some _ htb) hge ⟨oc, vs, t, Heap.get?_push_of_some _ hoc, hd, hv⟩
    have eL : (ps ++ #[rawInt pos.line, rawInt pos.col, .ref c']).toList = ps.toList ++ [rawInt pos.line, rawInt pos.col, .ref c'] := by simp
    have n1 : h'.objs.size ≠ c' := Nat.ne_of_gt hlt
    have n2 : h'.objs.size ≠ P := by
      exact Nat.ne_of_gt (Nat.lt_of_lt_of_le (Heap.lt_size hP') hsz)
    refine h h'.objs.size c' ((X.mg "__name__").getD .none) ctv _ _ I1 (.inr ⟨_, nC, rfl, ?_, fun p' cv hcv => ?_⟩) (Heap.get?_push_size _ rfl) ?_ (nofr _ hsz) upd_same
    · rw [eL]
      exact PySem.TriplesOk_snoc _ _ _ _ ht
    · rw [eL] at hcv
      exact LamX.among_app _ ht hcv
    · rw [upd_ne n1, upd_ne n2]
      exact I.hok.fresh hsz
  | some cv =>
    obtain ⟨c', e, hco⟩ := ha pos cv hc
    subst e
    refine PySem.W.kla_makeFunctionHit (mg := X.mg) (c := c) (P := P) (ps := ps) (closure_ok hfree) I.ok.glob (I.mod.glob.keeps I.bk) hcode (TB.code.keeps I.bk) hP' ht hc bP fun ctv h' tk hx hsz => ?_
    have I1 : Inv X pins σ H { s with heap := h'.push (lamO X params body scope ((X.mg "__name__").getD .none) c' ctv), toks := tk } := I.kept fun b o e => Heap.get?_push_of_some _ (hx b o e)
    exact h h'.objs.size c' ((X.mg "__name__").getD .none) ctv H _ I1 (.inl ⟨rfl, hco⟩) (Heap.get?_push_size _ rfl) (I.hok.fresh hsz) (nofr _ hsz) (sF _ _ hco)
end
/-- behind the making -/
theorem Rep.made {W : Wd} {G : Fx} {F H H1 : Hp} {ρ : List S} {σ : L2.St} {P c' : Addr} {q : Str} {ps : Array Value} (R : Rep W G F ρ σ H) (hm : (P, q) ∈ W.T) (hu : ∀ p ∈ W.T, p.1 = P → p.2 = q) (hP : H P = some (.tbl ps))
    (h : (H1 = H ∧ F c' = some (LamX.CodeO c' q)) ∨ ∃ ps' : Array Value, H c' = none ∧ H1 = upd (upd H P (.tbl ps')) c' (LamX.CodeO c' q) ∧ TriplesOk ps'.toList ∧ ∀ (pos : Pos) (cv : Value), codeAmong pos ps'.toList = some cv → codeAmong pos ps.toList = some cv ∨ cv = .ref c') :
    ∃ F1, Same F F1 ∧ F1 c' = some (LamX.CodeO c' q) ∧ Rep W G F1 ρ σ H1 := by
  rcases h with ⟨rfl, hc⟩ | ⟨ps', nC, rfl, ht, ha⟩
  · exact ⟨F, Same.refl _, hc, R⟩
  · obtain ⟨FP, ps0, hP0, _, ha0⟩ := R.tabs _ hm
    rw [hP] at hP0
    cases hP0
    obtain ⟨FC, h0⟩ := R.nofree nC
    have nPc : P ≠ c' := ne_of_none hP nC
    have k : Same F (upd F c' (LamX.CodeO c' q)) := same_upd FC
    refine ⟨upd F c' (LamX.CodeO c' q), k, upd_same, R.core k (fun b u e => ?_) (fun b u e _ => ?_) (fun b w => ?_) (fun b u e => ?_) fun t ht' => ?_⟩
    · by_cases hb : b = c'
      · subst hb; rw [upd_same] at e ⊢; exact e
      · rw [upd_ne hb] at e ⊢
        rw [upd_ne (fun z => by rw [z] at e; rw [FP] at e; cases e)]
        exact R.sub _ _ e
    · rw [upd_ne (ne_of_none e nC)]
      by_cases hb : b = P
      · subst hb
        rw [hP] at e
        cases e
        exact .inr ⟨_, _, rfl, upd_same⟩
      · rw [upd_ne hb]
        exact .inl e
    · rw [upd_ne (R.ownH w nC)]
      exact (R.owd w).1
    · by_cases hb : b = c'
      · subst hb; exact .inr h0
      · rw [upd_ne hb] at e; exact .inl e
    · have hT := R.tabs t ht'
      by_cases hb : t.1 = P
      · have hq := hu t ht' hb
        refine ⟨by rw [hb, upd_ne nPc]; exact FP, ps', by rw [hb, upd_ne nPc, upd_same], ht, fun pos cv hcv => ?_⟩
        rcases ha pos cv hcv with z | z
        · obtain ⟨c, e1, e2⟩ := ha0 pos cv z
          refine ⟨c, e1, ?_⟩
          rw [hq]
          exact k _ _ e2
        · exact ⟨c', z, by rw [hq, upd_same]⟩
      · obtain ⟨n, ps2, e2, _⟩ := id hT
        have nc : t.1 ≠ c' := ne_of_none e2 nC
        exact hT.mono k (by rw [upd_ne nc]; exact n) fun ps e => by rw [upd_ne nc, upd_ne hb]; exact e
/-! ### the state of a lambda's body -/
/-- what is captured of a slot -/
def shut : S → S
  | .d x => .d x
  | .fz o => .fz o
  | .raw v => .raw v
  | .fn f B => .fn f B
  | _ => .no
theorem shut_own (s : S) : (shut s).own = false := by cases s <;> rfl
theorem rep_lam {W : Wd} {G : Fx} {F0 H0 F H : Hp} {ρ ss : List S} {σ : L2.St} {vs : List V} {tl : List (Addr × Ow)} {hs : List S} (R : Rep W G F0 ρ σ H0) (k : Same F0 F) (w : VsOk W F ss vs) (sub : Same F H) (ht : Tbs W F H) (hh : (hs = [] ∧ tl = []) ∨ hs = [.hp tl])
    (hp : ∀ (a : Addr) (o : Ow), (a, o) ∈ tl → F a = none ∧ ∃ ho, H a = some ho ∧ RepO W F a o ho) (nd : (tl.map (·.1)).Nodup) : Rep W ⟨H, F, [], [], tl.map (·.1)⟩ F (ss ++ ((ρ.take σ.length).map shut ++ hs)) (vs.map some ++ σ) H := by
  have lw := VsOk.length w
  have lρ : ((ρ.take σ.length).map shut).length = σ.length := by
    rw [List.length_map, List.length_take]
    have := R.len
    omega
  have lσ : (vs.map some ++ σ).length = ss.length + σ.length := by rw [List.length_append, List.length_map, lw]
  have eh : hpOf (ss ++ ((ρ.take σ.length).map shut ++ hs)) (vs.map some ++ σ).length = tl := by
    unfold hpOf
    rw [lσ, List.getElem?_append_right (by omega), List.getElem?_append_right (by omega), lρ]
    have : ss.length + σ.length - ss.length - σ.length = 0 := by omega
    rw [this]
    rcases hh with ⟨h1, h2⟩ | h1
    · rw [h1, h2]; rfl
    · rw [h1]; rfl
  have slot : ∀ (i : Nat) (s : S), i < ss.length + σ.length → (ss ++ ((ρ.take σ.length).map shut ++ hs))[i]? = some s → (∃ v, (vs.map some ++ σ)[i]? = some (some v) ∧ VOk W F s v) ∨ s = .no := fun i s hi e => by
    by_cases h1 : i < ss.length
    · rw [List.getElem?_append_left h1] at e
      obtain ⟨v, e1, e2⟩ := VsOk.get w e
      refine .inl ⟨v, ?_, e2⟩
      rw [List.getElem?_append_left (by rw [List.length_map, ← lw]; exact h1), List.getElem?_map, e1]
      rfl
    · rw [List.getElem?_append_right (by omega), List.getElem?_append_left (by omega), List.getElem?_map] at e
      obtain ⟨s', e1, e2⟩ := Option.map_eq_some_iff.mp e
      subst e2
      have hi' : i - ss.length < σ.length := by omega
      rw [List.getElem?_take_of_lt hi'] at e1
      have z := R.slot _ s' hi' e1
      have e3 : (vs.map some ++ σ)[i]? = σ[i - ss.length]? := by rw [List.getElem?_append_right (by rw [List.length_map]; omega), List.length_map, lw]
      cases s' with
      | d x => obtain ⟨v, a1, a2⟩ := z; exact .inl ⟨v, by rw [e3]; exact a1, a2.mono k⟩
      | fz x => obtain ⟨v, a1, a2⟩ := z; exact .inl ⟨v, by rw [e3]; exact a1, a2.mono k⟩
      | raw x => obtain ⟨v, a1, a2⟩ := z; exact .inl ⟨v, by rw [e3]; exact a1, a2.mono k⟩
      | fn f B => obtain ⟨v, a1, a2⟩ := z; exact .inl ⟨v, by rw [e3]; exact a1, a2.mono k⟩
      | _ => exact .inr rfl
  have noown : ∀ (i : Nat) (s : S), (ss ++ ((ρ.take σ.length).map shut ++ hs))[i]? = some s → s.own = true → False := fun i s e ho => by
    by_cases hi : i < ss.length + σ.length
    · rcases slot i s hi e with ⟨v, _, e2⟩ | rfl
      · rw [VOk.noown e2] at ho; cases ho
      · cases ho
    · rw [List.getElem?_append_right (by omega), List.getElem?_append_right (by omega)] at e
      rcases hh with ⟨h1, _⟩ | h1
      · rw [h1] at e; simp at e
      · rw [h1, lρ] at e
        have := (List.getElem?_eq_some_iff.mp e).1
        have i0 : i - ss.length - σ.length = 0 := by simpa using this
        rw [i0] at e
        cases e
        cases ho
  refine ⟨sub, Same.refl _, fun b o q _ _ => .inl q, fun b o q => .inl q, by rw [lσ, List.length_append, List.length_append, lρ]; omega, fun i s hi e => ?_, fun i s hi e => ?_, fun i j s t a _ hi _ hs' => (noown i s hi hs').elim, (fun i a q => by simp at q), (fun a o hm => nomatch hm), fun a o hm => ?_, ?_, ?_, ht⟩
  · rw [lσ] at hi
    rcases slot i s hi e with ⟨v, e1, e2⟩ | rfl
    · rw [e1]
      exact (VOk.slot e2).1
    · trivial
  · rw [lσ] at hi ⊢
    rw [List.getElem?_append_right (by omega), List.getElem?_append_right (by omega), lρ] at e
    rcases hh with ⟨h1, _⟩ | h1
    · rw [h1] at e; simp at e
    · rw [h1] at e
      have := (List.getElem?_eq_some_iff.mp e).1
      have i0 : i - ss.length - σ.length = 0 := by simpa using this
      rw [i0] at e
      cases e
      exact ⟨by omega, tl, rfl⟩
  · rw [eh] at hm
    obtain ⟨h1, h2⟩ := hp a o hm
    exact ⟨h1, .inr (List.mem_map.mpr ⟨_, hm, rfl⟩), h2, fun i s e ho => (noown i s e ho).elim⟩
  · rw [eh, List.append_nil]
    exact nd
  · intro a ha
    rw [eh]
    exact ha
/-! ### pure lambdas: from arguments to a value -/
/-- the lambda's body, from its arguments, over what it captured -/
def lamFn (n : Nat) (f : FE) (ρ : List S) : Fn := fun ss Q => ss.length = n ∧ f (ss ++ ρ) fun r _ => Q r
/-- what was handed: where it stands, what stood still then, what it gives -/
structure Lm where
  f : Addr
  B : Hp
  run : Fn
/-- a(..): what slot i was handed -/
def fAct (i : Nat) (L : Lm) (g : FA) : FE := fun ρ Q => ρ[i]? = some (.fn L.f L.B) ∧ g ρ fun ss ρ1 => L.run ss fun r => Q r ρ1
theorem snd_act {W : Wd} {G0 : Fx} {F0 H0 : Hp} {ρ0 : List S} {σ0 : L2.St} {i n : Nat} {f c' : Addr} {q : Str} {fb : FE} {ta : TA} {g : FA} (R0 : Rep W G0 F0 ρ0 σ0 H0) (hc : F0 c' = some (LamX.CodeO c' q)) (sa : ASound W ta g) :
    ESound W (tAct i f c' q n σ0 ta (tE W fb)) (fAct i ⟨f, F0, lamFn n fb ((ρ0.take σ0.length).map shut)⟩ g) := by
  intro G F ρ σ H Q Q' R hf hq
  obtain ⟨hi, hf⟩ := hf
  obtain ⟨v, e1, e2, k0⟩ := R.slot i _ (R.lt hi (by intro _ z; cases z)) hi
  subst e2
  refine ⟨e1, sa G F ρ σ H _ _ R hf fun ss ρ1 F1 H1 vs q1 k1 R1 w1 => ?_⟩
  obtain ⟨hn, q1⟩ := q1
  have k01 := k0.trans k1
  refine ⟨by rw [← VsOk.length w1]; exact hn, R1.sub _ _ (k01 _ _ hc), ?_⟩
  have RL := rep_lam (tl := []) (hs := []) R0 k01 w1 R1.sub R1.tabs (.inl ⟨rfl, rfl⟩) (fun a o hm => nomatch hm) List.nodup_nil
  rw [List.append_nil] at RL
  refine ⟨_, F1, _, _, RL, q1, fun r ρ' F' H' v q k2 R2 w2 => ?_⟩
  have kp : Kept H1 H' := fun b o e => R2.keep b o e (by simp) (by simp)
  exact hq r ρ1 F' H' v q (k1.trans k2) (R1.called k2 R2.sub kp (fun b o e => R2.new b o e) R2.tabs) w2
/-! ### a def that is handed a lambda -/
section
variable {P : Program} {w : World} {K : PySem.W.Frag} {mg : Str → Option Value} [Tb mg] {base : Heap}
abbrev hcx (P : Program) (w : World) (K : PySem.W.Frag) (mg : Str → Option Value) (base : Heap) (N : List Str) (x : Str) (st : Stmt) (g : Addr) (cdv : Value) (A : Around) (outer : List Env) (s : Shared) (H : Hp) : Cx := (cxOf CX0 P w K mg base N x (defScope st) g cdv A outer s H E0).nox
/-- the body, where calls of slot i are what was handed -/
def HandBody (P : Program) (w : World) (K : PySem.W.Frag) (mg : Str → Option Value) [Tb mg] (base : Heap) (k : Nat) (x : Str) (st : Stmt) (g : Addr) (N : List Str) (i : Nat) (a : Str) (gg : Lm → FS) : Prop :=
  ∀ (L : Lm) (cdv : Value) (A : Around) (outer : List Env) (s : Shared) (H : Hp), Room k (A.deeper (envOfC x (defScope st) s.heap.objs.size g cdv)) →
    (∀ (e : Expr) (es : List Expr) (ga : FA) (p1 p2 : Pos), DA (hcx P w K mg base N x st g cdv A outer s H) (e :: es) ga → starEach (e :: es) (hcx P w K mg base N x st g cdv A outer s H).env = (false, eval e (hcx P w K mg base N x st g cdv A outer s H).env) :: starEach es (hcx P w K mg base N x st g cdv A outer s H).env →
      (backTo p2 (starEach es (hcx P w K mg base N x st g cdv A outer s H).env)).any (·.1) = false → DE (hcx P w K mg base N x st g cdv A outer s H) (.Call (.Name a p1) (e :: es) [] p2) (fAct i L ga)) →
    (∀ (p1 p2 : Pos), DE (hcx P w K mg base N x st g cdv A outer s H) (.Call (.Name a p1) [] [] p2) (fAct i L fNil)) →
    DSs (hcx P w K mg base N x st g cdv A outer s H) (defBody st) (gg L)
end
section
variable {X : Cx} [Tb X.mg]
/-- what is known of a def that is handed a lambda, and of the maker -/
structure HandAt (X : Cx) [Tb X.mg] (k i n m : Nat) (x a : Str) (c Pt g : Addr) (fd : FuncData) (st : Stmt) (Ng ps lps : List Str) (gg : Lm → FS) (gf : Lm → Fn) (params : Arguments) (body : Expr) (scope : Scope) (fb : FE) : Prop where
  F : Fun X.K x x st g fd
  S : FnScope Ng ps (defScope st)
  b : Binds X.K fd ps []
  gl : X.mg x = some (.ref g)
  B : HandBody X.prog X.w X.K X.mg X.base (k + 1) x st g Ng i a gg
  d : ∀ L ss Q', ss.length + 1 = ps.length → gf L (ss ++ [.fn L.f L.B]) Q' → gg L { nx := fun _ => Q' (.d .none), rt := fun r _ => Q' r } (slots0 Ng.length (ss ++ [.fn L.f L.B]))
  T : LamX.TabB X.base X.mg c Pt
  code : X.env.code = .ref c
  mem : (Pt, X.env.qual ++ "<lambda>") ∈ Tb.l X.mg
  uniq : ∀ p ∈ Tb.l X.mg, p.1 = Pt → p.2 = X.env.qual ++ "<lambda>"
  r : Room (k + 2) X.A
  bod : ∀ (A : Around) (outer : List Env) (s : Shared) (H : Hp) (E : XK) (f c' : Addr), Room k (A.deeper (LamX.lamEnv X scope s.heap.objs.size f c')) → DE (lamAx X lps A outer s H E scope f c') body fb
  Ni : Ng[i]? = some a
  va : Vis (defScope st) a
  L : LamA X.env.scope scope lps X.N
  dflt : defaultsOf params X.env = ([], [])
  bind : ∀ (q : Str) (cl : List (Str × Addr)) (pm cv ctv : Value) (us : List Value), us.length = lps.length → bindArgs (PySem.W.kla_fn "<lambda>" q params body scope cl pm cv ctv) ⟨us, []⟩ = pure (lps.zip us)
  n : lps.length = n
  mm : m = X.N.length
  db : (a == ("__debug__" : Str)) = false
  cd : (a == ("__classdict__" : Str)) = false
theorem hand_core {k i n m : Nat} {x a : Str} {c Pt g : Addr} {fd : FuncData} {st : Stmt} {Ng ps lps : List Str} {gg : Lm → FS} {gf : Lm → Fn} {params : Arguments} {body : Expr} {scope : Scope} {fb : FE} {lpos : Pos} (h : HandAt X k i n m x a c Pt g fd st Ng ps lps gg gf params body scope fb)
    {pins : List (Addr × Obj)} {σ : L2.St} {H1 : Hp} {s1 : Shared} {Q : VK} {G : Fx} {F1 : Hp} {ρ1 : List S} {ss : List S} {vs1 : List V} {us1 : List Value} {Q' : S → List S → Prop} (hss : ss.length + 1 = ps.length) (I1 : Inv X pins σ H1 s1) (R1 : Rep (wd X) G F1 ρ1 σ H1) (w1 : VsOk (wd X) F1 ss vs1) (rv : Vals vs1 us1)
    (q : ∀ L : Lm, L.run = lamFn n fb ((ρ1.take m).map shut) → gf L (ss ++ [.fn L.f L.B]) fun r => Q' r ρ1) (hq : ∀ r ρ' F' H' v, Q' r ρ' → Same F1 F' → Rep (wd X) G F' ρ' σ H' → VOk (wd X) F' r v → Q v H') :
    wpAny (model X.prog X.w) X.A (eval (.Lambda params body scope lpos) X.env) (fun u s2 => X.K.In s2.heap ∧ wpAny (model X.prog X.w) X.A (call (.ref g) (us1 ++ [u])) (EP X pins σ Q) X.xe s2) X.xe s1 := by
  obtain ⟨FP, pa, hP, ht, ha⟩ := R1.tabs _ h.mem
  have free : ∀ y ∈ scope.names, y.2 = .free → ∃ c, X.env.cells.lookup y.1 = some c := fun y hy e => (h.L.free y hy e).elim (fun k => I1.ok.has _ (.inl k)) fun k => I1.ok.has _ (.inr k)
  refine lam_makeF I1 h.T h.code hP ht ha R1.sub h.dflt free fun f c' pm ctv H2 s2 I2 hH hf hfn hfr hco => ?_
  refine ⟨I2.kIn, ?_⟩
  obtain ⟨F2, k2, hc2, R2⟩ := R1.made (c' := c') h.mem h.uniq hP hH
  obtain ⟨oc, od, kV, doc, pm', an, cdv, ct, osl, efd, lk, hcd⟩ := h.F.ex
  let L : Lm := ⟨f, F2, lamFn n fb ((ρ1.take σ.length).map shut)⟩
  have eL : L.run = lamFn n fb ((ρ1.take m).map shut) := by
    show lamFn n fb ((ρ1.take σ.length).map shut) = _
    rw [h.mm, ← I1.len]
  have wL : VsOk (wd X) F2 (ss ++ [.fn L.f L.B]) (vs1 ++ [.ref f]) := Aq.Paired.app (w1.mono k2) (.cons ⟨rfl, Same.refl _⟩ .nil)
  have rvL : Vals (vs1 ++ [.ref f]) (us1 ++ [.ref f]) := Aq.Paired.app rv (.cons rfl .nil)
  have ls : ss.length = vs1.length := VsOk.length w1
  have hl : (vs1 ++ [V.ref f]).length = ps.length := by rw [List.length_append, ← ls]; exact hss
  have rc : codeAny (model X.prog X.w) X.A (.call (.ref g) ⟨us1 ++ [.ref f], []⟩) (CR CX0 X.stack X.prog X.w H2 s2 Q E0) s2 := by
    rw [efd] at lk
    have hb := h.b
    rw [efd] at hb
    have bt := hb s2 (us1 ++ [.ref f]) I2.kIn (by rw [List.append_nil, ← rvL.length]; exact hl)
    rw [List.append_nil] at bt
    refine LamX.run_ofS (k := k + 1) (N := Ng) (ps := ps) (us := us1 ++ [.ref f]) (vs := vs1 ++ [.ref f]) lk hcd h.S h.r I2.env0 bt rvL hl fun hr' => ?_
    have act : ∀ {es : List Expr} {ga : FA} {ta : TA} (p1 p2 : Pos), PA (hcx X.prog X.w X.K X.mg X.base Ng x st g cdv X.A X.stack s2 H2) es ta → ASound (wd X) ta ga →
        (∀ e rest, es = e :: rest → starEach (e :: rest) (hcx X.prog X.w X.K X.mg X.base Ng x st g cdv X.A X.stack s2 H2).env = (false, eval e (hcx X.prog X.w X.K X.mg X.base Ng x st g cdv X.A X.stack s2 H2).env) :: starEach rest (hcx X.prog X.w X.K X.mg X.base Ng x st g cdv X.A X.stack s2 H2).env) →
        (es = [] → ∀ σ H Q, ta σ H Q → Q [] H) → (∀ e rest, es = e :: rest → (backTo p2 (starEach rest (hcx X.prog X.w X.K X.mg X.base Ng x st g cdv X.A X.stack s2 H2).env)).any (·.1) = false) →
        DE (hcx X.prog X.w X.K X.mg X.base Ng x st g cdv X.A X.stack s2 H2) (.Call (.Name a p1) es [] p2) (fAct i L ga) := fun {es ga ta} p1 p2 pa sa he hnil hpl => by
      have P := pe_actA (p1 := p1) (p2 := p2) (i := i) (a := a) (k := k) (pn := []) (xe := fun _ _ => False) (CXg := CX0) (Eg := E0) (E := E0) (W := fun _ _ _ _ => False) (Ng := Ng) (qg := x) (sg := defScope st) (g := g) (cdg := cdv) (ps := lps) (tb := tE (wd X) fb) I2 h.L hf hfn hfr (h.bind _ _ _ _ _) LamX.takes0 (fun _ _ _ _ z => z) hr' (fun A outer s H hr2 => (h.bod A outer s H E0 f c' hr2).run) pa h.Ni h.va h.db h.cd he hnil hpl
      refine DE.of P ?_
      have := snd_act (W := wd X) (n := lps.length) (i := i) (f := f) (fb := fb) R2 hc2 sa
      rw [h.n] at this ⊢
      exact this
    have ds := h.B L cdv X.A X.stack s2 H2 hr' (fun e es ga p1 p2 da he hpl => by
      obtain ⟨ta, pa, sa⟩ := da.ex
      exact act p1 p2 pa sa (fun e' rest ee => by cases ee; exact he) (fun ee => by cases ee) (fun e' rest ee => by cases ee; exact hpl))
      (fun p1 p2 => act p1 p2 pa_nil (fun _ F _ _ H _ _ R hf hq => hq _ _ F H [] hf (Same.refl _) R .nil) (fun e' rest ee => by cases ee) (fun _ σ H Q z => z) (fun e' rest ee => by cases ee))
    have hfew := fn_few h.S
    have RS := rep_start (N := Ng) R2.sub R2.tabs (by rw [List.length_append]; exact Nat.le_trans (Nat.le_of_eq hss) hfew) wL
    refine ⟨_, ds.run.nox, _, F2, _, _, RS, h.d L ss _ hss (q L eL), ?_, ?_, fun _ _ _ _ z => z.elim, fun _ _ _ _ z => z.elim, fun _ _ _ _ _ _ z => z.elim⟩
    · exact fun ρ' F' σ' H' q' k' R' => hq _ ρ1 F' H' .non q' (k2.trans k') (R2.called k' R'.sub (fun b o e => R'.keep b o e (by simp) (by simp)) (fun b o e => R'.new b o e) R'.tabs) Dp.non
    · exact fun r ρ' F' σ' H' v q' k' R' w' => hq _ ρ1 F' H' v q' (k2.trans k') (R2.called k' R'.sub (fun b o e => R'.keep b o e (by simp) (by simp)) (fun b o e => R'.new b o e) R'.tabs) w'
  refine wpAny_call (codeAny_mono rc fun r s3 hr3 => ?_)
  cases r with
  | error e => exact (show False from hr3).elim
  | ok fl =>
    cases fl with
    | ret u => exact I2.after hr3
    | next => exact False.elim hr3
    | brk => exact False.elim hr3
    | cont => exact False.elim hr3
/-- f(lambda), f(e1, lambda) -/
def fHand (n m : Nat) (gf : Lm → Fn) (fb : FE) (g : FA) : FE := fun ρ Q => g ρ fun ss ρ1 => ∀ L : Lm, L.run = lamFn n fb ((ρ1.take m).map shut) → gf L (ss ++ [.fn L.f L.B]) fun r => Q r ρ1
section
variable {k i n m : Nat} {x a : Str} {c Pt g : Addr} {fd : FuncData} {st : Stmt} {Ng ps lps : List Str} {gg : Lm → FS} {gf : Lm → Fn} {params : Arguments} {body : Expr} {scope : Scope} {fb : FE} {p lpos pos : Pos}
theorem de_hand0 (h : HandAt X k i n m x a c Pt g fd st Ng ps lps gg gf params body scope fb) (hps : ps.length = 1) (hg : Gl X x := by rfl) (hdb : (x == ("__debug__" : Str)) = false := by decide)
    (hs : starEach [.Lambda params body scope lpos] X.env = (false, eval (.Lambda params body scope lpos) X.env) :: starEach [] X.env := by rfl) (hpl : (backTo pos (starEach [] X.env)).any (·.1) = false := by rfl) :
    DE X (.Call (.Name x p) [.Lambda params body scope lpos] [] pos) (fHand n m gf fb fNil) := by
  refine ⟨⟨fun pins s σ H Q I ⟨G, F, ρ, Q', R, hf, hq⟩ => ?_⟩⟩
  refine wpAny_Call_Name_kw (ld_glob I hg h.gl ?_ hdb)
  refine PySem.W.callWith_K (h₀ := X.base) I.ok.mod.kin h.F.kp ?_ hs hpl
  rw [hs]
  show wpAny _ _ (spliced ((false, eval (.Lambda params body scope lpos) X.env) :: backTo pos (starEach [] X.env))) _ _ s
  refine Calls.spliced_cons (thn (hand_core (lpos := lpos) h (ss := []) (vs1 := []) (us1 := []) (by rw [hps]; rfl) I R .nil .nil hf hq) fun u s2 ⟨hk, hc⟩ => ?_)
  exact Calls.spliced_nil ⟨hk, hc⟩
theorem de_hand1 {e1 : Expr} {f1 : FE} (h : HandAt X k i n m x a c Pt g fd st Ng ps lps gg gf params body scope fb) (hps : ps.length = 2) (h1 : DE X e1 f1) (hg : Gl X x := by rfl) (hdb : (x == ("__debug__" : Str)) = false := by decide)
    (hs1 : starEach [e1, .Lambda params body scope lpos] X.env = (false, eval e1 X.env) :: starEach [.Lambda params body scope lpos] X.env := by rfl) (hs : starEach [.Lambda params body scope lpos] X.env = (false, eval (.Lambda params body scope lpos) X.env) :: starEach [] X.env := by rfl)
    (hpl : (backTo pos (starEach [.Lambda params body scope lpos] X.env)).any (·.1) = false := by rfl) :
    DE X (.Call (.Name x p) [e1, .Lambda params body scope lpos] [] pos) (fHand n m gf fb (fCons f1 fNil)) := by
  obtain ⟨t1, p1, s1⟩ := h1.ex
  refine ⟨⟨fun pins s σ H Q I ⟨G, F, ρ, Q', R, hf, hq⟩ => ?_⟩⟩
  refine wpAny_Call_Name_kw (ld_glob I hg h.gl ?_ hdb)
  refine PySem.W.callWith_K (h₀ := X.base) I.ok.mod.kin h.F.kp ?_ hs1 hpl
  rw [hs1]
  show wpAny _ _ (spliced ((false, eval e1 X.env) :: backTo pos (starEach [.Lambda params body scope lpos] X.env))) _ _ s
  have hf : f1 ρ (fun r ρ1 => ∀ L : Lm, L.run = lamFn n fb ((ρ1.take m).map shut) → gf L ([r] ++ [.fn L.f L.B]) fun r => Q' r ρ1) := hf
  have st := s1 G F ρ σ H (fun v H1 => ∃ F1 ρ1 r, Same F F1 ∧ Rep (wd X) G F1 ρ1 σ H1 ∧ VOk (wd X) F1 r v ∧ ∀ L : Lm, L.run = lamFn n fb ((ρ1.take m).map shut) → gf L ([r] ++ [.fn L.f L.B]) fun r => Q' r ρ1) _ R hf fun r ρ1 F1 H1 v q1 k1 R1 w1 => ⟨F1, ρ1, r, k1, R1, w1, q1⟩
  refine Calls.spliced_cons (thn (p1.run pins s σ H _ I st) fun u1 s2 ⟨v, H1, I1, r1, F1, ρ1, r, k1, R1, w1, q1⟩ => ?_)
  rw [hs]
  show wpAny _ _ (spliced ((false, eval (.Lambda params body scope lpos) X.env) :: backTo pos (starEach [] X.env))) _ _ s2
  refine Calls.spliced_cons (thn (hand_core (lpos := lpos) h (ss := [r]) (vs1 := [v]) (us1 := [u1]) (by rw [hps]; rfl) I1 R1 (.cons w1 .nil) (.cons r1 .nil) q1 fun r ρ' F' H' v q k R' w => hq r ρ' F' H' v q (k1.trans k) R' w) fun u s3 ⟨hk, hc⟩ => ?_)
  exact Calls.spliced_nil ⟨hk, hc⟩
end
end
end Aq
/-! A20: iterables by a condition, deep in, defs whose code object is known. -/
namespace Aq
open PySem PySem.Spec PyProof.Rows L2
theorem hu65 {k : Nat} {A : Around} (hr : Room k A) : A.units + 65 < cLine := by have := hr.un; omega
section
variable {X : Cx} [Tb X.mg] {a b c tg : Expr} {pos : Pos}
theorem pi_ifExp {tA : TT} {ia ib : TI} (hc : PT X c tA) (ha : PI X tg a ia) (hb : PI X tg b ib) : PI X tg (.IfExp c a b pos) (fun σ H R => tA σ H fun d H1 => if d = true then ia σ H1 R else ib σ H1 R) := by
  refine ⟨fun pins s σ H R I h => ?_⟩
  refine wpAny_IfExp (thn (hc.run pins s σ H _ I h) fun d s1 ⟨H1, I1, q1⟩ => ?_)
  cases d with
  | true => exact ha.run pins s1 σ H1 R I1 q1
  | false => exact hb.run pins s1 σ H1 R I1 q1
def fiIf (ft : FT) (fa fb : FI) : FI := fun ρ Q => ft ρ fun d ρ1 => if d = true then fa ρ1 Q else fb ρ1 Q
theorem di_if {ft : FT} {fa fb : FI} (hc : DT X c ft) (ha : DI X tg a fa) (hb : DI X tg b fb) : DI X tg (.IfExp c a b pos) (fiIf ft fa fb) := by
  obtain ⟨tA, pc, sc⟩ := hc.ex
  obtain ⟨ia, pa, sa⟩ := ha.ex
  obtain ⟨ib, pb, sb⟩ := hb.ex
  refine .of (pi_ifExp pc pa pb) fun G F ρ σ H R' Q' R hf hq => ?_
  refine sc G F ρ σ H _ _ R hf fun d ρ1 F1 H1 q1 k1 R1 => ?_
  cases d with
  | true => exact sa G F1 ρ1 σ H1 _ _ R1 q1 fun items ρ' F' H' J q k R2 i => hq items ρ' F' H' J q (k1.trans k) R2 i
  | false => exact sb G F1 ρ1 σ H1 _ _ R1 q1 fun items ρ' F' H' J q k R2 i => hq items ρ' F' H' J q (k1.trans k) R2 i
/-- x in xs, of any depth -/
def fInD (neg : Bool) : F2 := fun a b Q => match a, b with
  | .d x, .d (.list ys) => SeqAt.shaped x = true ∧ SeqAt.shaped (.list ys) = true ∧ Q (.d (.bool (if neg then !(ys.any fun y => PyData.eqv y x) else ys.any fun y => PyData.eqv y x)))
  | _, _ => False
theorem c_inD (hu : X.A.units + 65 < cLine) : COp X .In (fInD false) := ⟨_, op_inD hu, osnd_val fun F H a b x y Q Q' s va vb hf hq => by
  unfold fInD at hf
  split at hf
  · exact ⟨_, _, Dp.mono s _ _ va, Dp.mono s _ _ vb, hf.1, hf.2.1, hq _ _ hf.2.2 (Dp.bl _)⟩
  · exact hf.elim⟩
theorem c_notinD (hu : X.A.units + 65 < cLine) : COp X .NotIn (fInD true) := ⟨_, op_notInD hu, osnd_val fun F H a b x y Q Q' s va vb hf hq => by
  unfold fInD at hf
  split at hf
  · exact ⟨_, _, Dp.mono s _ _ va, Dp.mono s _ _ vb, hf.1, hf.2.1, hq _ _ hf.2.2 (Dp.bl _)⟩
  · exact hf.elim⟩
end
section
variable {P : Program} {w : World} {K : PySem.W.Frag} {mg : Str → Option Value} [Tb mg] {base : Heap}
/-- a def whose code object is known -/
theorem fn_dataC {x qual : Str} {st : Stmt} {fa ca : Addr} {fd : FuncData} {N ps : List Str} {k : Nat} {g : FS} {f : Fn} (Fk : Fun K x qual st fa fd) (hcd : fd.code = .ref ca) (Sc : FnScope N ps (defScope st))
    (body : ∀ (A : Around) (outer : List Env) (s : Shared) (H : Hp) (E : XK), Room k (A.deeper (envOfC qual (defScope st) s.heap.objs.size fa (.ref ca))) → DSs (cxOf CX0 P w K mg base N qual (defScope st) fa (.ref ca) A outer s H E).nox (defBody st) g)
    (h : ∀ ss Q', ss.length = ps.length → f ss Q' → g { nx := fun _ => Q' (.d .none), rt := fun r _ => Q' r } (slots0 N.length ss)) : FnOk P w K mg base CX0 (k + 1) fa fd ps (spF ⟨P, w, K, Tb.l mg⟩ ps.length f) := by
  obtain ⟨oc, od, kV, doc, pm, an, cdv, ct, osl, rfl, lk, hcd2⟩ := Fk.ex
  obtain rfl : cdv = .ref ca := hcd
  refine fn_of lk hcd2 Sc (fun vs H Q E hs => ?_) (fun A outer s H vs Q E hr hs => ?_)
  · obtain ⟨F, ss, Q', hl, _, _, hw, _⟩ := hs
    rw [← hl]
    exact (VsOk.length hw).symm
  · obtain ⟨F, ss, Q', hl, hsame, htb, hw, hf, hq⟩ := hs
    refine ⟨_, (body A outer s H E hr).run.nox, ⟨H, F, [], [], []⟩, F, _, _, rep_start hsame htb (by rw [hl]; exact (fn_few Sc)) hw, h ss Q' hl hf, ?_, ?_, fun _ _ _ _ z => z.elim, fun _ _ _ _ z => z.elim, fun _ _ _ _ _ _ z => z.elim⟩
    · exact fun ρ' F' σ' H' q k R => hq _ F' H' .non q k R.sub (fun b o e => R.keep b o e (by simp) (by simp)) R.new R.tabs Dp.non
    · exact fun r ρ' F' σ' H' v q k R w => hq r F' H' v q k R.sub (fun b o e => R.keep b o e (by simp) (by simp)) R.new R.tabs w
/-- what is known of a maker of lambdas -/
structure MkT (mg : Str → Option Value) [Tb mg] (base : Heap) (fd : FuncData) (q : Str) where
  c : Addr
  Pt : Addr
  tb : LamX.TabB base mg c Pt
  code : fd.code = .ref c
  mem : (Pt, (q ++ ".<locals>.") ++ "<lambda>") ∈ Tb.l mg
  uniq : ∀ p ∈ Tb.l mg, p.1 = Pt → p.2 = (q ++ ".<locals>.") ++ "<lambda>"
end
end Aq
/-! B17: rings of still weather. -/
namespace Aq
open PySem PySem.Spec PyProof.Rows L2
/-! ### plainly -/
def it (p : Pl) : Nat → Stn → Stn
  | 0, s => s
  | n + 1, s => it p n (behind p s 0)
theorem it_next (p : Pl) : ∀ (n : Nat) (s : Stn), it p (n + 1) s = behind p (it p n s) 0
  | 0, _ => rfl
  | n + 1, s => it_next p n (behind p s 0)
theorem it_add (p : Pl) : ∀ (m n : Nat) (s : Stn), it p (m + n) s = it p n (it p m s)
  | 0, n, s => by rw [Nat.zero_add]; rfl
  | m + 1, n, s => by rw [Nat.add_right_comm]; exact it_add p m n (behind p s 0)
def its (p : Pl) (n : Nat) (s : Stn) : List Stn := (List.range n).map fun i => it p i s
theorem its_len (p : Pl) (n : Nat) (s : Stn) : (its p n s).length = n := by simp [its]
theorem its_snoc (p : Pl) (n : Nat) (s : Stn) : its p (n + 1) s = its p n s ++ [it p n s] := by simp [its, List.range_succ]
theorem its_drop (p : Pl) (n j : Nat) (s : Stn) : (its p (j + n) s).drop j = its p n (it p j s) := by
  refine List.ext_getElem? fun i => ?_
  simp only [its, List.getElem?_drop, List.getElem?_map, List.getElem?_range']
  by_cases h : i < n
  · rw [List.getElem?_range (by omega), List.getElem?_range h]
    simp [it_add]
  · rw [List.getElem?_eq_none (by simp; omega), List.getElem?_eq_none (by simp; omega)]
    rfl
theorem it_stands {p : Pl} (ok : p.ok) (h0 : 0 ∈ changesI p) : ∀ (n : Nat) {s : Stn}, s ∈ standsOf p → it p n s ∈ standsOf p
  | 0, _, h => h
  | n + 1, _, h => it_stands ok h0 n (stands_closed ok h h0)
theorem filter_ix : ∀ (l : List Stn) (j : Nat), l.Nodup → (l.filter fun s => decide (j ≤ l.idxOf s)) = l.drop j
  | [], _, _ => by simp
  | x :: xs, 0, _ => by simp
  | x :: xs, j + 1, h => by
    rw [List.nodup_cons] at h
    rw [List.filter_cons, List.drop_succ_cons]
    rw [if_neg (by simp)]
    rw [← filter_ix xs j h.2]
    refine List.filter_congr fun s hs => ?_
    have : x ≠ s := fun e => h.1 (e ▸ hs)
    have e0 : (x == s) = false := beq_eq_false_iff_ne.mpr this
    rw [List.idxOf_cons, e0]
    simp
theorem nodup_len : ∀ {l m : List Stn}, l.Nodup → (∀ s ∈ l, s ∈ m) → l.length ≤ m.length
  | [], _, _, _ => Nat.zero_le _
  | x :: xs, m, h, hs => by
    rw [List.nodup_cons] at h
    have hx := hs x List.mem_cons_self
    have := nodup_len (m := m.erase x) h.2 fun s hm => (List.mem_erase_of_ne (fun e => h.1 (by rw [← e]; exact hm))).mpr (hs s (List.mem_cons_of_mem _ hm))
    rw [List.length_erase_of_mem hx] at this
    have := List.length_pos_of_mem hx
    rw [List.length_cons]
    omega
/-- the walk on from a stand until one is met again -/
def roadGo (p : Pl) (seen : List Stn) : Nat → List Stn → Stn → List Stn × Stn
  | 0, road, s => (road, s)
  | m + 1, road, s => if s ∈ seen ∨ s ∈ road then (road, s) else roadGo p seen m (road ++ [s]) (behind p s 0)
structure RoadOk (p : Pl) (seen road : List Stn) (a s : Stn) : Prop where
  nd : road.Nodup
  st : ∀ t ∈ road, t ∈ standsOf p
  out : ∀ t ∈ road, t ∉ seen
  ch : road = its p road.length a
  at_ : s = it p road.length a
theorem road0 (p : Pl) (seen : List Stn) (a : Stn) : RoadOk p seen [] a a := ⟨List.nodup_nil, (fun _ h => nomatch h), (fun _ h => nomatch h), rfl, rfl⟩
theorem RoadOk.step {p : Pl} (ok : p.ok) (h0 : 0 ∈ changesI p) {seen road : List Stn} {a s : Stn} (x : RoadOk p seen road a s) (ha : a ∈ standsOf p) (h1 : s ∉ seen) (h2 : s ∉ road) : RoadOk p seen (road ++ [s]) a (behind p s 0) := by
  have hs : s ∈ standsOf p := by rw [x.at_]; exact it_stands ok h0 _ ha
  refine ⟨?_, fun t ht => ?_, fun t ht => ?_, ?_, ?_⟩
  · rw [List.nodup_append]
    exact ⟨x.nd, by simp, fun u hu v hv e => by rw [List.mem_singleton.mp hv] at e; exact h2 (e ▸ hu)⟩
  · rcases List.mem_append.mp ht with q | q
    · exact x.st t q
    · rw [List.mem_singleton.mp q]; exact hs
  · rcases List.mem_append.mp ht with q | q
    · exact x.out t q
    · rw [List.mem_singleton.mp q]; exact h1
  · rw [List.length_append, List.length_singleton, its_snoc, ← x.ch, ← x.at_]
  · rw [List.length_append, List.length_singleton, it_next, ← x.at_]
theorem RoadOk.len {p : Pl} (ok : p.ok) {seen road : List Stn} {a s : Stn} (x : RoadOk p seen road a s) : road.length ≤ 262144 := Nat.le_trans (nodup_len x.nd x.st) (stands_len ok)
theorem roadGo_ok {p : Pl} (ok : p.ok) (h0 : 0 ∈ changesI p) {seen : List Stn} {a : Stn} (ha : a ∈ standsOf p) : ∀ (m : Nat) (road : List Stn) (s : Stn), RoadOk p seen road a s → 262145 ≤ road.length + m → RoadOk p seen (roadGo p seen m road s).1 a (roadGo p seen m road s).2 ∧ ((roadGo p seen m road s).2 ∈ seen ∨ (roadGo p seen m road s).2 ∈ (roadGo p seen m road s).1)
  | 0, road, s, x, hm => by have := x.len ok; omega
  | m + 1, road, s, x, hm => by
    unfold roadGo
    split
    · rename_i h
      exact ⟨x, h⟩
    · rename_i h
      rw [not_or] at h
      exact roadGo_ok ok h0 ha m _ _ (x.step ok h0 ha h.1 h.2) (by simp; omega)
def roadOf (p : Pl) (seen : List Stn) (a : Stn) : List Stn × Stn := roadGo p seen 262145 [] a
def lineOf (r : List Stn × Stn) : List Stn := if r.2 ∈ r.1 then r.1.drop (r.1.idxOf r.2) else []
/-- a ring of still weather -/
def Ring (p : Pl) (line : List Stn) : Prop := ∃ (t : Stn) (k : Nat), line = its p (k + 1) t ∧ it p (k + 1) t = t ∧ t ∈ standsOf p ∧ (∀ s ∈ line, s ∈ standsOf p) ∧ line.Nodup
theorem roadOf_ok {p : Pl} (ok : p.ok) (h0 : 0 ∈ changesI p) {seen : List Stn} {a : Stn} (ha : a ∈ standsOf p) : RoadOk p seen (roadOf p seen a).1 a (roadOf p seen a).2 := (roadGo_ok ok h0 ha _ _ _ (road0 p seen a) (by simp)).1
theorem ring_of {p : Pl} {seen road : List Stn} {a t : Stn} (x : RoadOk p seen road a t) (h : t ∈ road) : Ring p (road.drop (road.idxOf t)) := by
  have hj := List.idxOf_lt_length_of_mem h
  obtain ⟨k, hk⟩ : ∃ k, road.length = road.idxOf t + (k + 1) := ⟨road.length - road.idxOf t - 1, by omega⟩
  have e1 : it p (road.idxOf t) a = t := by
    have h1 : road[road.idxOf t]? = some t := by rw [List.getElem?_eq_getElem hj, List.getElem_idxOf]
    have h2 : (its p road.length a)[road.idxOf t]? = some (it p (road.idxOf t) a) := by
      unfold its
      rw [List.getElem?_map, List.getElem?_range hj]
      rfl
    rw [← x.ch, h1] at h2
    exact (Option.some.inj h2).symm
  refine ⟨t, k, ?_, ?_, x.st t h, fun s hs => x.st s (List.mem_of_mem_drop hs), x.nd.sublist (List.drop_sublist _ _)⟩
  · have e2 := its_drop p (k + 1) (road.idxOf t) a
    rw [e1, ← hk, ← x.ch] at e2
    exact e2
  · have e3 := it_add p (road.idxOf t) (k + 1) a
    rw [e1, ← hk, ← x.at_] at e3
    exact e3.symm
def ringsGo (p : Pl) : List Stn → List Stn → List (List Stn)
  | [], _ => []
  | s :: l, seen => (if (roadOf p seen s).2 ∈ (roadOf p seen s).1 then [(roadOf p seen s).1.drop ((roadOf p seen s).1.idxOf (roadOf p seen s).2)] else []) ++ ringsGo p l (seen ++ (roadOf p seen s).1)
def ringsOf (p : Pl) : List (List Stn) := if 0 ∈ changesI p then ringsGo p (standsOf p) [] else []
theorem ringsGo_ok {p : Pl} (ok : p.ok) (h0 : 0 ∈ changesI p) : ∀ (l seen : List Stn), (∀ s ∈ l, s ∈ standsOf p) → ∀ r ∈ ringsGo p l seen, Ring p r
  | [], _, _, _, h => nomatch h
  | s :: l, seen, hl, r, h => by
    unfold ringsGo at h
    rcases List.mem_append.mp h with q | q
    · split at q
      · rename_i z
        rw [List.mem_singleton.mp q]
        exact ring_of (roadOf_ok ok h0 (hl s List.mem_cons_self)) z
      · cases q
    · exact ringsGo_ok ok h0 l _ (fun t ht => hl t (List.mem_cons_of_mem _ ht)) r q
theorem rings_ok {p : Pl} (ok : p.ok) {r : List Stn} (h : r ∈ ringsOf p) : 0 ∈ changesI p ∧ Ring p r := by
  unfold ringsOf at h
  split at h
  · rename_i h0
    exact ⟨h0, ringsGo_ok ok h0 _ _ (fun _ z => z) r h⟩
  · cases h
def anyH (p : Pl) (l : List Stn) : Bool := l.any fun s => (partH p s).runs
def anyC (p : Pl) (l : List Stn) : Bool := l.any fun s => (partC p s).runs
def pairD (p : Pl) (l : List Stn) : D := .tuple [.bool (anyH p l), .bool (anyC p l)]
def headS (p : Pl) (l : List Stn) : Stn := l.headD (firstStand p)
def runTo (p : Pl) (s : Stn) : D := (dGet (kvsF (waysOf p)) (skey s)).getD .none
def zeros (n : Nat) : D := .tuple (List.replicate n (.int 0))
def shownD (p : Pl) (l : List Stn) : D := .tuple [runTo p (headS p l), zeros l.length]
def stillR (p : Pl) (good : List Stn → Bool) : D := match (ringsOf p).find? good with
  | some l => shownD p l
  | none => .none
theorem run_found {p : Pl} (ok : p.ok) {s : Stn} (h : s ∈ standsOf p) : ∃ cs : List Int, dGet (kvsF (waysOf p)) (skey s) = some (runD cs) ∧ s = ledTo p (firstStand p) cs ∧ ∀ c ∈ cs, c ∈ changesI p := by
  obtain ⟨e, he, rfl⟩ := List.mem_map.mp h
  obtain ⟨i, hi, ei⟩ := List.mem_iff_getElem.mp he
  have h1 : (waysOf p)[i]? = some (e.1, e.2) := by rw [List.getElem?_eq_getElem hi, ei]
  have hr := (ways_whole ok).run e he
  exact ⟨e.2, dGet_at (ways_good ok).nd h1, hr.1, hr.2⟩
/-! ### by data -/
def roadT (road : List Stn) : List (D × D) := tabD road fun s => .int (road.idxOf s)
def seenT (seen : List Stn) : List (D × D) := tabD seen fun _ => .bool true
theorem roadT_put {road : List Stn} {s : Stn} (h : s ∉ road) : dPut (roadT road) s.d (.int road.length) = roadT (road ++ [s]) := by
  unfold roadT
  rw [dPut_tab h, tab_snoc]
  have e1 : (road ++ [s]).idxOf s = road.length := by rw [List.idxOf_append, if_neg h]; simp
  rw [e1]
  congr 1
  unfold tabD
  refine List.map_congr_left fun t ht => ?_
  show (t.d, PyData.int (road.idxOf t)) = (t.d, PyData.int ((road ++ [s]).idxOf t))
  rw [List.idxOf_append, if_pos ht]
theorem roadT_get {road : List Stn} {s : Stn} : dGet (roadT road) (skey s) = if s ∈ road then some (.int (road.idxOf s)) else none := dGet_tab
theorem seenT_get {seen : List Stn} {s : Stn} : dGet (seenT seen) (skey s) = if s ∈ seen then some (.bool true) else none := dGet_tab
theorem seenT_put {seen : List Stn} {s : Stn} (h : s ∉ seen) : dPut (seenT seen) s.d (.bool true) = seenT (seen ++ [s]) := by
  unfold seenT
  rw [dPut_tab h, tab_snoc]
theorem roadT_len (road : List Stn) : (roadT road).length = road.length := tab_len _ _
theorem seenT_len (road : List Stn) : (seenT road).length = road.length := tab_len _ _
/-- a comprehension over stands with a condition -/
theorem lc_stn {i : Nat} {f : FE} {c : FT} {b : Stn → Bool} {g : Stn → D} {ρ : List S} {Q : List D → List S → Prop} (hi : ρ[i]? = some S.no) : ∀ (l : List Stn) (acc : List D), acc.length + l.length ≤ sizeLine →
    (∀ s ∈ l, ∀ Q2 : Bool → List S → Prop, Q2 (b s) (ρ.set i (.d s.d)) → c (ρ.set i (.d s.d)) Q2) → (∀ s ∈ l, ∀ Q2 : S → List S → Prop, Q2 (.d (g s)) (ρ.set i (.d s.d)) → f (ρ.set i (.d s.d)) Q2) →
    Q (acc ++ (l.filter b).map g) ρ → lcGo (gNm i) c f [i] (l.map Stn.d) acc ρ Q
  | [], acc, _, _, _, h => by simpa [lcGo] using h
  | s :: l, acc, hz, hc, hs, h => by
    rw [List.map_cons]
    unfold lcGo
    refine ⟨by unfold settable; rw [hi]; trivial, ?_⟩
    refine hc s List.mem_cons_self _ ?_
    have e : wipeS (ρ.set i (.d s.d)) [i] = ρ := set_no hi
    rw [e]
    rw [List.filter_cons] at h
    cases q : b s with
    | true =>
      rw [if_pos q] at h
      simp only [if_true]
      refine hs s List.mem_cons_self _ ?_
      show acc.length < sizeLine ∧ _
      rw [e]
      refine ⟨by simp at hz; omega, lc_stn hi l _ (by simp at hz ⊢; omega) (fun t ht => hc t (List.mem_cons_of_mem _ ht)) (fun t ht => hs t (List.mem_cons_of_mem _ ht)) ?_⟩
      simpa using h
    | false =>
      rw [if_neg (by rw [q]; simp)] at h
      simp only [Bool.false_eq_true, if_false]
      exact lc_stn hi l _ (by simp at hz ⊢; omega) (fun t ht => hc t (List.mem_cons_of_mem _ ht)) (fun t ht => hs t (List.mem_cons_of_mem _ ht)) h
end Aq
/-! B18: rings of still weather, by data. -/
namespace Aq
open PySem PySem.Spec PyProof.Rows L2
/-- a comprehension over what is told by a list of one's own -/
theorem lc_gen {α : Type} {g : FG} {c : FT} {f : FE} {vs : List Nat} {ρ : List S} {Q : List D → List S → Prop} {enc : α → D} {ρa : α → List S} {b : α → Bool} {h : α → D} (hw : ∀ a, wipeS (ρa a) vs = ρ) : ∀ (l : List α) (acc : List D), acc.length + l.length ≤ sizeLine →
    (∀ a ∈ l, ∀ K : List S → Prop, K (ρa a) → g (.d (enc a)) ρ K) → (∀ a ∈ l, ∀ Q2 : Bool → List S → Prop, Q2 (b a) (ρa a) → c (ρa a) Q2) → (∀ a ∈ l, ∀ Q2 : S → List S → Prop, Q2 (.d (h a)) (ρa a) → f (ρa a) Q2) →
    Q (acc ++ (l.filter b).map h) ρ → lcGo g c f vs (l.map enc) acc ρ Q
  | [], acc, _, _, _, _, z => by simpa [lcGo] using z
  | a :: l, acc, hz, hg, hc, hs, z => by
    rw [List.map_cons]
    unfold lcGo
    refine hg a List.mem_cons_self _ ?_
    refine hc a List.mem_cons_self _ ?_
    rw [hw]
    rw [List.filter_cons] at z
    cases q : b a with
    | true =>
      rw [if_pos q] at z
      simp only [if_true]
      refine hs a List.mem_cons_self _ ?_
      show acc.length < sizeLine ∧ _
      rw [hw]
      exact ⟨by simp at hz; omega, lc_gen hw l _ (by simp at hz ⊢; omega) (fun t ht => hg t (List.mem_cons_of_mem _ ht)) (fun t ht => hc t (List.mem_cons_of_mem _ ht)) (fun t ht => hs t (List.mem_cons_of_mem _ ht)) (by simpa using z)⟩
    | false =>
      rw [if_neg (by rw [q]; simp)] at z
      simp only [Bool.false_eq_true, if_false]
      exact lc_gen hw l _ (by simp at hz ⊢; omega) (fun t ht => hg t (List.mem_cons_of_mem _ ht)) (fun t ht => hc t (List.mem_cons_of_mem _ ht)) (fun t ht => hs t (List.mem_cons_of_mem _ ht)) z
theorem filt_all {α : Type} : ∀ l : List α, (l.filter fun _ => true) = l
  | [] => rfl
  | x :: xs => by rw [List.filter_cons, if_pos rfl, filt_all xs]
def fn_ones_that_run : Fn := fun ss Q => ∃ (p : Pl) (l : List Stn), ss = [.d p.d, .d (.list (l.map Stn.d))] ∧ p.ok ∧ (∀ s ∈ l, s.fits p) ∧ l.length ≤ 262144 ∧ Q (.d (pairD p l))
def fn_still_ring (L : Lm) : Fn := fun ss Q => ∃ (p : Pl) (v : S) (good : List Stn → Bool), ss = [.d p.d, v] ∧ p.ok ∧
  (∀ l : List Stn, (∀ s ∈ l, s.fits p) → l.length ≤ 262144 → ∀ Q2 : S → Prop, Q2 (.d (.bool (good l))) → L.run [.d (.list (l.map Stn.d))] Q2) ∧ Q (.d (stillR p good))
def wishR (p : Pl) (h c : Bool) : D := stillR p fun l => (anyH p l == h) && (anyC p l == c)
def fn_fight_by : Fn := fun ss Q => ∃ p : Pl, ss = [.d p.d] ∧ p.ok ∧ Q (.d (wishR p true true))
def fn_fight_ring : Fn := fn_fight_by
def fn_calm_ring : Fn := fun ss Q => ∃ p : Pl, ss = [.d p.d] ∧ p.ok ∧ Q (.d (wishR p false false))
def fn__law_still : Fn := fun ss Q => ∃ p : Pl, ss = [.d p.d] ∧ p.ok ∧ Q (.d (.list ((ringsOf p).map (pairD p))))
def fn__law_shown : Fn := fun ss Q => ∃ (p : Pl) (l : List Stn), ss = [.d p.d, .d (shownD p l), .d (pairD p l)] ∧ p.ok ∧ l ∈ ringsOf p ∧ Q (.d (.bool true))
theorem n_ones_that_run : ∀ ss Q, fn_ones_that_run ss Q → ss.length = 2 := by
  rintro ss Q ⟨p, l, rfl, _⟩; rfl
theorem n_fight_by : ∀ ss Q, fn_fight_by ss Q → ss.length = 1 := by
  rintro ss Q ⟨p, rfl, _⟩; rfl
theorem n_fight_ring : ∀ ss Q, fn_fight_ring ss Q → ss.length = 1 := n_fight_by
theorem n_calm_ring : ∀ ss Q, fn_calm_ring ss Q → ss.length = 1 := by
  rintro ss Q ⟨p, rfl, _⟩; rfl
theorem n__law_still : ∀ ss Q, fn__law_still ss Q → ss.length = 1 := by
  rintro ss Q ⟨p, rfl, _⟩; rfl
theorem n__law_shown : ∀ ss Q, fn__law_shown ss Q → ss.length = 3 := by
  rintro ss Q ⟨p, l, rfl, _⟩; rfl
def g_still_ring_1 (L : Lm) : FS := (sRet (fC .none))
def g_still_ring_2 (L : Lm) : FS := (sDPut 3 (fC (.bool true)) (fVar 7))
def g_still_ring_3 (L : Lm) : FS := (sFor (fiKeysZ (fVar 5)) (gNm 7) (g_still_ring_2 L))
def g_still_ring_4 (L : Lm) : FS := (sSeq (sIf (fAnd (fTest (fOp (fEq true) (fVar 6) (fStill (fnLst fNil)))) (fTest (fAct 1 L (fCons (fVar 6) fNil)))) (sRet (fTup (fCons (fOp fIxZ (fVar 2) (fOp fIx (fVar 6) (fC (.int 0)))) (fCons (fOp fMul (fTup (fCons (fC (.int 0)) fNil)) (fCall fLen (fCons (fVar 6) fNil))) fNil)))) sNext)
    (g_still_ring_3 L))
def g_still_ring_5 (L : Lm) : FS := (sSeq (sNewS (fnLc (fiKeysZ (fFz 5)) (gNm 7) (fAnd (fTest (fOp (fInZ false) (fVar 4) (fVar 5))) (fTest (fOp (f2I TT2 fun i j => .bool (decide (j ≤ i))) (fOp fIxZ (fVar 5) (fVar 7)) (fOp fIxZ (fVar 5) (fVar 4))))) (fVar 7) [7]) 6)
    (g_still_ring_4 L))
def g_still_ring_6 (L : Lm) : FS := (sAsg (fCall fn_behind (fCons (fVar 0) (fCons (fVar 4) (fCons (fC (.int 0)) fNil)))) (gNm 4))
def g_still_ring_7 (L : Lm) : FS := (sSeq (sDPut 5 (fLenDN 5) (fVar 4))
    (g_still_ring_6 L))
def g_still_ring_8 (L : Lm) : FS := (sSeq (sWhile (fAnd (fTest (fInDN true 3 (fVar 4))) (fTest (fInDN true 5 (fVar 4)))) (g_still_ring_7 L))
    (g_still_ring_5 L))
def g_still_ring_9 (L : Lm) : FS := (sSeq (sNew fnD0 5)
    (g_still_ring_8 L))
def g_still_ring_10 (L : Lm) : FS := (sSeq (sFor (fiIf (fTest (fOp (fIn false) (fC (.int 0)) (fCall fn_changes_of (fCons (fVar 0) fNil)))) (fiKeysZ (fVar 2)) (fiTup (fTup fNil))) (gNm 4) (g_still_ring_9 L))
    (g_still_ring_1 L))
def g_still_ring (L : Lm) : FS := (sSeq (sMix [2, 3] (fmS (fStill (fCallN fn_ways_by (fCons (fVar 0) fNil))) (fmN fnD0 fmNil)))
    (g_still_ring_10 L))
def g_ones_that_run : FS := (sSeq (sNewS (fnLc (fiLst (fVar 1)) (gNm 3) fYes (fCall fn_parts_by (fCons (fVar 0) (fCons (fVar 3) fNil))) [3]) 2)
    (sRet (fTup (fCons (fCall fAny (fCons (fStill (fnLc (fiLst (fVar 2)) (gTp 2 (gsCons (gNm 4) (gsCons (gNm 5) gsNil))) fYes (fOp fIx (fVar 4) (fC (.int 0))) [4, 5])) fNil)) (fCons (fCall fAny (fCons (fStill (fnLc (fiLst (fVar 2)) (gTp 2 (gsCons (gNm 4) (gsCons (gNm 5) gsNil))) fYes (fOp fIx (fVar 5) (fC (.int 0))) [4, 5])) fNil)) fNil)))))
def g_fight_by : FS := (sRet (fHand 1 1 fn_still_ring (fOp (fEq false) (fCall fn_ones_that_run (fCons (fVar 1) (fCons (fVar 0) fNil))) (fTup (fCons (fC (.bool true)) (fCons (fC (.bool true)) fNil)))) (fCons (fVar 0) fNil)))
def g_fight_ring : FS := (sSeq (sExpr (fCall fn_look_at_plan (fCons (fVar 0) fNil)))
    (sRet (fCall fn_fight_by (fCons (fVar 0) fNil))))
def g_calm_ring : FS := (sSeq (sExpr (fCall fn_look_at_plan (fCons (fVar 0) fNil)))
    (sRet (fHand 1 1 fn_still_ring (fOp (fEq false) (fCall fn_ones_that_run (fCons (fVar 1) (fCons (fVar 0) fNil))) (fTup (fCons (fC (.bool false)) (fCons (fC (.bool false)) fNil)))) (fCons (fVar 0) fNil))))
def g__law_still_1 : FS := (sRet (fFz 1))
def g__law_still_2 : FS := (sDPut 2 (fC (.bool true)) (fVar 6))
def g__law_still_3 : FS := (sFor (fiKeysZ (fVar 4)) (gNm 6) g__law_still_2)
def g__law_still_4 : FS := (sApp 1 (fTup (fCons (fOp (fIn false) (fC (.bool true)) (fStill (fnLc (fiLst (fVar 5)) (gNm 7) fYes (fOp fIx (fVar 7) (fC (.int 0))) [7]))) (fCons (fOp (fIn false) (fC (.bool true)) (fStill (fnLc (fiLst (fVar 5)) (gNm 7) fYes (fOp fIx (fVar 7) (fC (.int 1))) [7]))) fNil))))
def g__law_still_5 : FS := (sSeq (sIf (fTest (fOp (fInZ false) (fVar 3) (fFz 4))) (sSeq (sNewS (fnLc (fiKeysZ (fVar 4)) (gNm 6) (fTest (fOp (f2I TT2 fun i j => .bool (decide (j ≤ i))) (fOp fIxZ (fVar 4) (fVar 6)) (fOp fIxZ (fVar 4) (fVar 3)))) (fCall fn__law_on (fCons (fVar 0) (fCons (fVar 6) fNil))) [6]) 5)
    g__law_still_4) sNext)
    g__law_still_3)
def g__law_still_6 : FS := (sAsg (fCall fn__law_after (fCons (fVar 0) (fCons (fVar 3) (fCons (fC (.int 0)) fNil)))) (gNm 3))
def g__law_still_7 : FS := (sSeq (sDPut 4 (fLenDN 4) (fVar 3))
    g__law_still_6)
def g__law_still_8 : FS := (sSeq (sWhile (fAnd (fTest (fInDN true 2 (fVar 3))) (fTest (fInDN true 4 (fVar 3)))) g__law_still_7)
    g__law_still_5)
def g__law_still_9 : FS := (sSeq (sNew fnD0 4)
    g__law_still_8)
def g__law_still_10 : FS := (sSeq (sFor (fiIf (fTest (fOp (fIn false) (fC (.int 0)) (fCall fn__law_changes (fCons (fVar 0) fNil)))) (fiKeysZ (fStill (fCallN fn__law_ways (fCons (fVar 0) fNil)))) (fiLst (fStill (fnLst fNil)))) (gNm 3) g__law_still_9)
    g__law_still_1)
def g__law_still : FS := (sSeq (sMix [1, 2] (fmN (fnLst fNil) (fmN fnD0 fmNil)))
    g__law_still_10)
def g__law_shown_1 : FS := (sRet (fAndV (fOp (fEq false) (fVar 3) (fVar 5)) (fOp (fEq false) (fVar 7) (fVar 2))))
def g__law_shown_2 : FS := (sSeq (sAsg (fTup (fCons (fOp (fIn false) (fC (.bool true)) (fStill (fnLc (fiLst (fFz 6)) (gNm 8) fYes (fOp fIx (fVar 8) (fC (.int 0))) [8]))) (fCons (fOp (fIn false) (fC (.bool true)) (fStill (fnLc (fiLst (fVar 6)) (gNm 8) fYes (fOp fIx (fVar 8) (fC (.int 1))) [8]))) fNil))) (gNm 7))
    g__law_shown_1)
def g__law_shown_3 : FS := (sAsg (fCall fn__law_after (fCons (fVar 0) (fCons (fVar 3) (fCons (fC (.int 0)) fNil)))) (gNm 3))
def g__law_shown_4 : FS := (sSeq (sApp 6 (fCall fn__law_on (fCons (fVar 0) (fCons (fVar 3) fNil))))
    g__law_shown_3)
def g__law_shown_5 : FS := (sSeq (sFor (fiTup (fOp fIx (fVar 1) (fC (.int 1)))) (gNm 4) g__law_shown_4)
    g__law_shown_2)
def g__law_shown_6 : FS := (sSeq (sMix [5, 6] (fmS (fVar 3) (fmN (fnLst fNil) fmNil)))
    g__law_shown_5)
def g__law_shown_7 : FS := (sAsg (fCall fn__law_after (fCons (fVar 0) (fCons (fVar 3) (fCons (fVar 4) fNil)))) (gNm 3))
def g__law_shown_8 : FS := (sSeq (sIf (fTest (fOp (fIn true) (fVar 4) (fCall fn__law_changes (fCons (fVar 0) fNil)))) (sRet (fC (.bool false))) sNext)
    g__law_shown_7)
def g__law_shown_9 : FS := (sSeq (sFor (fiTup (fOp fIx (fVar 1) (fC (.int 0)))) (gNm 4) g__law_shown_8)
    g__law_shown_6)
def g__law_shown_10 : FS := (sSeq (sAsg (fCall fn__law_first (fCons (fVar 0) fNil)) (gNm 3))
    g__law_shown_9)
def g__law_shown : FS := (sSeq (sIf (fOr (fNot (fTest (fCall fIsi (fCons (fVar 1) (fCons (fRaw (.raw (.ty "tuple"))) fNil))))) (fOr (fTest (fOp (fEq true) (fCall fLen (fCons (fVar 1) fNil)) (fC (.int 2)))) (fOr (fTest (fOp (fEq false) (fOp fIx (fVar 1) (fC (.int 1))) (fTup fNil))) (fTest (fOp (fEq true) (fOp fIx (fVar 1) (fC (.int 1))) (fOp fMul (fTup (fCons (fC (.int 0)) fNil)) (fCall fLen (fCons (fOp fIx (fVar 1) (fC (.int 1))) fNil)))))))) (sRet (fC (.bool false))) sNext)
    g__law_shown_10)
theorem d_ones_that_run (ss : List S) (Q' : S → Prop) (h : fn_ones_that_run ss Q') : g_ones_that_run (EF Q') (slots0 6 ss) := by
  obtain ⟨p, l, rfl, ok, hf, hl, h⟩ := h
  simp [g_ones_that_run, fnLc, sSeq, sRet, sRetN, sRetW, sIf, sNext, sNever, sExpr, sAsg, sNew, sNewS, sPar, sPar3, sApp, sSetIx, sDPut, sPar3W, fnD0, fnD1, fnOwn, fIxDN, fInDN, fIxZ, fInZ, fLenZ, fListZ, fGetZ, fMaxL, fMinL, fVar, fC, fRaw, fNil, fCons, fTup, fLst, fOp, fTest, fChain, fAnd, fOr, fNot, fAndV, fOrV, fNotV, fIf, fIfT, fStill, still, fnLst, gNm, gTp, gsCons, gsNil, fCall, fCallO, fCallN, fIxN, fLenN, fSl, fPart, fNoPart, fNeg, fIsi, fIsi2, fLen, fAbs, fInt, fMax2, fMin2, fTupOf, fListOf, fSorted, fLstR, fAll, fAny, fIx, fIn, fEq, fIsN, fAdd, fMul, f2I, unD, slots0, settable, ownAt, owned, lentEnd, fiLst, fiTup, fiR1, fiR2, fiZip, fiZip3, fiKeysZ, fiItemsZ, fYes, wipeS, sMix, fmNil, fmS, fmN, setM, Mx.slot, fnDc, fFz, fSlN, fLenDN, fPopN, fSum, fMaxVals, fListVals, fDictOf, fGetDN, fPopDN, fiIf, fInD, fAct, fHand]
  refine lc_stn (i := 3) (b := fun _ => true) (g := fun s => .tuple [(partH p s).d, (partC p s).d]) rfl l [] (by rw [sizeLine_eq]; simp; omega) (fun s hs Q2 h2 => h2) (fun s hs Q2 h2 => ?_) ?_
  · simp [fn_parts_by, fnPS, planOf_d, standOf_d, ok, (hf s hs).len, sSeq, sRet, sRetN, sRetW, sIf, sNext, sNever, sExpr, sAsg, sNew, sNewS, sPar, sPar3, sApp, sSetIx, sDPut, sPar3W, fnD0, fnD1, fnOwn, fIxDN, fInDN, fIxZ, fInZ, fLenZ, fListZ, fGetZ, fMaxL, fMinL, fVar, fC, fRaw, fNil, fCons, fTup, fLst, fOp, fTest, fChain, fAnd, fOr, fNot, fAndV, fOrV, fNotV, fIf, fIfT, fStill, still, fnLst, gNm, gTp, gsCons, gsNil, fCall, fCallO, fCallN, fIxN, fLenN, fSl, fPart, fNoPart, fNeg, fIsi, fIsi2, fLen, fAbs, fInt, fMax2, fMin2, fTupOf, fListOf, fSorted, fLstR, fAll, fAny, fIx, fIn, fEq, fIsN, fAdd, fMul, f2I, unD, slots0, settable, ownAt, owned, lentEnd, fiLst, fiTup, fiR1, fiR2, fiZip, fiZip3, fiKeysZ, fiItemsZ, fYes, wipeS, sMix, fmNil, fmS, fmN, setM, Mx.slot, fnDc, fFz, fSlN, fLenDN, fPopN, fSum, fMaxVals, fListVals, fDictOf, fGetDN, fPopDN, fiIf, fInD, fAct, fHand]
    exact h2
  · rw [filt_all, List.nil_append]
    simp [sSeq, sRet, sRetN, sRetW, sIf, sNext, sNever, sExpr, sAsg, sNew, sNewS, sPar, sPar3, sApp, sSetIx, sDPut, sPar3W, fnD0, fnD1, fnOwn, fIxDN, fInDN, fIxZ, fInZ, fLenZ, fListZ, fGetZ, fMaxL, fMinL, fVar, fC, fRaw, fNil, fCons, fTup, fLst, fOp, fTest, fChain, fAnd, fOr, fNot, fAndV, fOrV, fNotV, fIf, fIfT, fStill, still, fnLst, gNm, gTp, gsCons, gsNil, fCall, fCallO, fCallN, fIxN, fLenN, fSl, fPart, fNoPart, fNeg, fIsi, fIsi2, fLen, fAbs, fInt, fMax2, fMin2, fTupOf, fListOf, fSorted, fLstR, fAll, fAny, fIx, fIn, fEq, fIsN, fAdd, fMul, f2I, unD, slots0, settable, ownAt, owned, lentEnd, fiLst, fiTup, fiR1, fiR2, fiZip, fiZip3, fiKeysZ, fiItemsZ, fYes, wipeS, sMix, fmNil, fmS, fmN, setM, Mx.slot, fnDc, fFz, fSlN, fLenDN, fPopN, fSum, fMaxVals, fListVals, fDictOf, fGetDN, fPopDN, fiIf, fInD, fAct, fHand]
    refine lc_gen (α := Stn) (vs := [4, 5]) (ρ := [.d p.d, .d (.list (l.map Stn.d)), .d (.list (l.map fun s => .tuple [(partH p s).d, (partC p s).d])), .no, .no, .no]) (enc := fun s => .tuple [(partH p s).d, (partC p s).d]) (ρa := fun s => [.d p.d, .d (.list (l.map Stn.d)), .d (.list (l.map fun s => .tuple [(partH p s).d, (partC p s).d])), .no, .d (partH p s).d, .d (partC p s).d]) (b := fun _ => true) (h := fun s => .bool (partH p s).runs) (by intro _; rfl) l [] (by rw [sizeLine_eq]; simp; omega) (fun s hs K z => ?_) (fun s hs Q2 h2 => h2) (fun s hs Q2 h2 => ?_) ?_
    · simp [sSeq, sRet, sRetN, sRetW, sIf, sNext, sNever, sExpr, sAsg, sNew, sNewS, sPar, sPar3, sApp, sSetIx, sDPut, sPar3W, fnD0, fnD1, fnOwn, fIxDN, fInDN, fIxZ, fInZ, fLenZ, fListZ, fGetZ, fMaxL, fMinL, fVar, fC, fRaw, fNil, fCons, fTup, fLst, fOp, fTest, fChain, fAnd, fOr, fNot, fAndV, fOrV, fNotV, fIf, fIfT, fStill, still, fnLst, gNm, gTp, gsCons, gsNil, fCall, fCallO, fCallN, fIxN, fLenN, fSl, fPart, fNoPart, fNeg, fIsi, fIsi2, fLen, fAbs, fInt, fMax2, fMin2, fTupOf, fListOf, fSorted, fLstR, fAll, fAny, fIx, fIn, fEq, fIsN, fAdd, fMul, f2I, unD, slots0, settable, ownAt, owned, lentEnd, fiLst, fiTup, fiR1, fiR2, fiZip, fiZip3, fiKeysZ, fiItemsZ, fYes, wipeS, sMix, fmNil, fmS, fmN, setM, Mx.slot, fnDc, fFz, fSlN, fLenDN, fPopN, fSum, fMaxVals, fListVals, fDictOf, fGetDN, fPopDN, fiIf, fInD, fAct, fHand]
      exact z
    · simp [Pt.d, at0, sSeq, sRet, sRetN, sRetW, sIf, sNext, sNever, sExpr, sAsg, sNew, sNewS, sPar, sPar3, sApp, sSetIx, sDPut, sPar3W, fnD0, fnD1, fnOwn, fIxDN, fInDN, fIxZ, fInZ, fLenZ, fListZ, fGetZ, fMaxL, fMinL, fVar, fC, fRaw, fNil, fCons, fTup, fLst, fOp, fTest, fChain, fAnd, fOr, fNot, fAndV, fOrV, fNotV, fIf, fIfT, fStill, still, fnLst, gNm, gTp, gsCons, gsNil, fCall, fCallO, fCallN, fIxN, fLenN, fSl, fPart, fNoPart, fNeg, fIsi, fIsi2, fLen, fAbs, fInt, fMax2, fMin2, fTupOf, fListOf, fSorted, fLstR, fAll, fAny, fIx, fIn, fEq, fIsN, fAdd, fMul, f2I, unD, slots0, settable, ownAt, owned, lentEnd, fiLst, fiTup, fiR1, fiR2, fiZip, fiZip3, fiKeysZ, fiItemsZ, fYes, wipeS, sMix, fmNil, fmS, fmN, setM, Mx.slot, fnDc, fFz, fSlN, fLenDN, fPopN, fSum, fMaxVals, fListVals, fDictOf, fGetDN, fPopDN, fiIf, fInD, fAct, fHand]
      exact h2
    · rw [filt_all, List.nil_append]
      have e1 : (l.map fun s => PyData.bool (partH p s).runs) = (l.map fun s => (partH p s).runs).map PyData.bool := by simp
      rw [e1]
      simp only [boolsD_map]
      simp [sSeq, sRet, sRetN, sRetW, sIf, sNext, sNever, sExpr, sAsg, sNew, sNewS, sPar, sPar3, sApp, sSetIx, sDPut, sPar3W, fnD0, fnD1, fnOwn, fIxDN, fInDN, fIxZ, fInZ, fLenZ, fListZ, fGetZ, fMaxL, fMinL, fVar, fC, fRaw, fNil, fCons, fTup, fLst, fOp, fTest, fChain, fAnd, fOr, fNot, fAndV, fOrV, fNotV, fIf, fIfT, fStill, still, fnLst, gNm, gTp, gsCons, gsNil, fCall, fCallO, fCallN, fIxN, fLenN, fSl, fPart, fNoPart, fNeg, fIsi, fIsi2, fLen, fAbs, fInt, fMax2, fMin2, fTupOf, fListOf, fSorted, fLstR, fAll, fAny, fIx, fIn, fEq, fIsN, fAdd, fMul, f2I, unD, slots0, settable, ownAt, owned, lentEnd, fiLst, fiTup, fiR1, fiR2, fiZip, fiZip3, fiKeysZ, fiItemsZ, fYes, wipeS, sMix, fmNil, fmS, fmN, setM, Mx.slot, fnDc, fFz, fSlN, fLenDN, fPopN, fSum, fMaxVals, fListVals, fDictOf, fGetDN, fPopDN, fiIf, fInD, fAct, fHand]
      refine lc_gen (α := Stn) (vs := [4, 5]) (ρ := [.d p.d, .d (.list (l.map Stn.d)), .d (.list (l.map fun s => .tuple [(partH p s).d, (partC p s).d])), .no, .no, .no]) (enc := fun s => .tuple [(partH p s).d, (partC p s).d]) (ρa := fun s => [.d p.d, .d (.list (l.map Stn.d)), .d (.list (l.map fun s => .tuple [(partH p s).d, (partC p s).d])), .no, .d (partH p s).d, .d (partC p s).d]) (c := fYes) (b := fun _ => true) (h := fun s => .bool (partC p s).runs) (by intro _; rfl) l [] (by rw [sizeLine_eq]; simp; omega) (fun s hs K z => ?_) (fun s hs Q2 h2 => h2) (fun s hs Q2 h2 => ?_) ?_
      · simp [sSeq, sRet, sRetN, sRetW, sIf, sNext, sNever, sExpr, sAsg, sNew, sNewS, sPar, sPar3, sApp, sSetIx, sDPut, sPar3W, fnD0, fnD1, fnOwn, fIxDN, fInDN, fIxZ, fInZ, fLenZ, fListZ, fGetZ, fMaxL, fMinL, fVar, fC, fRaw, fNil, fCons, fTup, fLst, fOp, fTest, fChain, fAnd, fOr, fNot, fAndV, fOrV, fNotV, fIf, fIfT, fStill, still, fnLst, gNm, gTp, gsCons, gsNil, fCall, fCallO, fCallN, fIxN, fLenN, fSl, fPart, fNoPart, fNeg, fIsi, fIsi2, fLen, fAbs, fInt, fMax2, fMin2, fTupOf, fListOf, fSorted, fLstR, fAll, fAny, fIx, fIn, fEq, fIsN, fAdd, fMul, f2I, unD, slots0, settable, ownAt, owned, lentEnd, fiLst, fiTup, fiR1, fiR2, fiZip, fiZip3, fiKeysZ, fiItemsZ, fYes, wipeS, sMix, fmNil, fmS, fmN, setM, Mx.slot, fnDc, fFz, fSlN, fLenDN, fPopN, fSum, fMaxVals, fListVals, fDictOf, fGetDN, fPopDN, fiIf, fInD, fAct, fHand]
        exact z
      · simp [Pt.d, at0, sSeq, sRet, sRetN, sRetW, sIf, sNext, sNever, sExpr, sAsg, sNew, sNewS, sPar, sPar3, sApp, sSetIx, sDPut, sPar3W, fnD0, fnD1, fnOwn, fIxDN, fInDN, fIxZ, fInZ, fLenZ, fListZ, fGetZ, fMaxL, fMinL, fVar, fC, fRaw, fNil, fCons, fTup, fLst, fOp, fTest, fChain, fAnd, fOr, fNot, fAndV, fOrV, fNotV, fIf, fIfT, fStill, still, fnLst, gNm, gTp, gsCons, gsNil, fCall, fCallO, fCallN, fIxN, fLenN, fSl, fPart, fNoPart, fNeg, fIsi, fIsi2, fLen, fAbs, fInt, fMax2, fMin2, fTupOf, fListOf, fSorted, fLstR, fAll, fAny, fIx, fIn, fEq, fIsN, fAdd, fMul, f2I, unD, slots0, settable, ownAt, owned, lentEnd, fiLst, fiTup, fiR1, fiR2, fiZip, fiZip3, fiKeysZ, fiItemsZ, fYes, wipeS, sMix, fmNil, fmS, fmN, setM, Mx.slot, fnDc, fFz, fSlN, fLenDN, fPopN, fSum, fMaxVals, fListVals, fDictOf, fGetDN, fPopDN, fiIf, fInD, fAct, fHand]
        exact h2
      · rw [filt_all, List.nil_append]
        have e2 : (l.map fun s => PyData.bool (partC p s).runs) = (l.map fun s => (partC p s).runs).map PyData.bool := by simp
        rw [e2]
        simp only [boolsD_map]
        refine ⟨by rw [sizeLine_eq]; omega, ?_⟩
        have e3 : ∀ f : Stn → Bool, (l.map f).any id = l.any f := fun f => by simp [Function.comp_def]
        simp only [e3] at *
        exact h
end Aq
/-! B19: still_ring. -/
namespace Aq
open PySem PySem.Spec PyProof.Rows L2
theorem low_ints (n : Nat) : ∀ l : List Int, lowL n (l.map PyData.int) = true
  | [] => rfl
  | x :: xs => by rw [List.map_cons]; simp [lowL, low, low_ints n xs]
theorem low_stn {p : Pl} (ok : p.ok) {s : Stn} (h : s.fits p) : low 2 s.d = true := by
  have h1 := h.len
  have h2 := ok.la2
  unfold Stn.d Pt.d
  simp [low, lowL, low_ints]
  omega
theorem shaped_stn {p : Pl} (ok : p.ok) {s : Stn} (h : s.fits p) : SeqAt.shaped s.d = true := shaped_low (low_stn ok h) (by decide)
theorem shaped_stns {p : Pl} (ok : p.ok) {l : List Stn} (h : ∀ s ∈ l, s.fits p) (hl : l.length ≤ 262144) : SeqAt.shaped (.list (l.map Stn.d)) = true := by
  refine shaped_low (n := 3) ?_ (by decide)
  simp only [low, Bool.and_eq_true, decide_eq_true_eq, List.length_map]
  refine ⟨by omega, lowL_iff.mpr fun x hx => ?_⟩
  obtain ⟨s, hs, rfl⟩ := List.mem_map.mp hx
  exact low_stn ok (h s hs)
def stR (p : Pl) (v1 : S) (seen : List Stn) (s4 s5 s6 s7 : S) : List S := [.d p.d, v1, .fz (.dct (kvsF (waysOf p))), .ow (.dct (seenT seen)), s4, s5, s6, s7]
/-- the marking of what is gone through -/
theorem d_still_3 {p : Pl} {L : Lm} {v1 s4 s6 s7 : S} {seen road : List Stn} (hr : ∀ t ∈ road, t ∉ seen) (nd : road.Nodup) (hl : seen.length + road.length ≤ 262144) (n7 : np s7) {E : DEnds} (hE : ∀ s7, np s7 → E.nx (stR p v1 (seen ++ road) s4 (.fz (.dct (roadT road))) s6 s7)) :
    g_still_ring_3 L E (stR p v1 seen s4 (.fz (.dct (roadT road))) s6 s7) := by
  unfold g_still_ring_3 stR
  rw [sFor_eq]
  have e0 : (roadT road).map (·.1) = road.map Stn.d := tab_keys _ _
  simp [e0, sSeq, sRet, sRetN, sRetW, sIf, sNext, sNever, sExpr, sAsg, sNew, sNewS, sPar, sPar3, sApp, sSetIx, sDPut, sPar3W, fnD0, fnD1, fnOwn, fIxDN, fInDN, fIxZ, fInZ, fLenZ, fListZ, fGetZ, fMaxL, fMinL, fVar, fC, fRaw, fNil, fCons, fTup, fLst, fOp, fTest, fChain, fAnd, fOr, fNot, fAndV, fOrV, fNotV, fIf, fIfT, fStill, still, fnLst, gNm, gTp, gsCons, gsNil, fCall, fCallO, fCallN, fIxN, fLenN, fSl, fPart, fNoPart, fNeg, fIsi, fIsi2, fLen, fAbs, fInt, fMax2, fMin2, fTupOf, fListOf, fSorted, fLstR, fAll, fAny, fIx, fIn, fEq, fIsN, fAdd, fMul, f2I, unD, slots0, settable_iff, npd, npn, npo, npf, npr, ownAt, owned, lentEnd, fiLst, fiTup, fiR1, fiR2, fiZip, fiZip3, fiKeysZ, fiItemsZ, fYes, wipeS, sMix, fmNil, fmS, fmN, setM, Mx.slot, fnDc, fFz, fSlN, fLenDN, fPopN, fSum, fMaxVals, fListVals, fDictOf, fGetDN, fPopDN, fiIf, fInD, fAct, fHand]
  refine sForB_cnt (fun n ρ => ∃ s7, np s7 ∧ ρ = stR p v1 (seen ++ road.take n) s4 (.fz (.dct (roadT road))) s6 s7) ⟨s7, n7, by simp [stR]⟩ ?_ ?_
  · rintro ρ ⟨s7, n7, rfl⟩
    rw [List.length_map, List.take_length]
    exact hE s7 n7
  · rintro n x hx ρ ⟨s7, n7, rfl⟩
    rw [List.getElem?_map] at hx
    obtain ⟨t, ht, rfl⟩ := Option.map_eq_some_iff.mp hx
    obtain ⟨hn, et⟩ := List.getElem?_eq_some_iff.mp ht
    have e1 : road.take (n + 1) = road.take n ++ [t] := by rw [List.take_succ, ht]; rfl
    have hm : t ∈ road := List.mem_of_getElem? ht
    have hout : t ∉ seen ++ road.take n := by
      rw [List.mem_append]
      rintro (q | q)
      · exact hr t hm q
      · obtain ⟨j, hj, ej⟩ := List.mem_iff_getElem.mp q
        rw [List.length_take] at hj
        rw [List.getElem_take, ← et] at ej
        have := (List.getElem_inj nd).mp ej
        omega
    have hlen : (seenT (seen ++ road.take n)).length < sizeLine := by
      rw [seenT_len, sizeLine_eq, List.length_append, List.length_take]
      omega
    unfold g_still_ring_2 stR
    simp [n7, keyD_stn, sSeq, sRet, sRetN, sRetW, sIf, sNext, sNever, sExpr, sAsg, sNew, sNewS, sPar, sPar3, sApp, sSetIx, sDPut, sPar3W, fnD0, fnD1, fnOwn, fIxDN, fInDN, fIxZ, fInZ, fLenZ, fListZ, fGetZ, fMaxL, fMinL, fVar, fC, fRaw, fNil, fCons, fTup, fLst, fOp, fTest, fChain, fAnd, fOr, fNot, fAndV, fOrV, fNotV, fIf, fIfT, fStill, still, fnLst, gNm, gTp, gsCons, gsNil, fCall, fCallO, fCallN, fIxN, fLenN, fSl, fPart, fNoPart, fNeg, fIsi, fIsi2, fLen, fAbs, fInt, fMax2, fMin2, fTupOf, fListOf, fSorted, fLstR, fAll, fAny, fIx, fIn, fEq, fIsN, fAdd, fMul, f2I, unD, slots0, settable_iff, npd, npn, npo, npf, npr, ownAt, owned, lentEnd, fiLst, fiTup, fiR1, fiR2, fiZip, fiZip3, fiKeysZ, fiItemsZ, fYes, wipeS, sMix, fmNil, fmS, fmN, setM, Mx.slot, fnDc, fFz, fSlN, fLenDN, fPopN, fSum, fMaxVals, fListVals, fDictOf, fGetDN, fPopDN, fiIf, fInD, fAct, fHand]
    refine ⟨hlen, ?_⟩
    rw [seenT_put hout, e1, List.append_assoc]
/-- a walk on from a stand -/
theorem d_still_8 {p : Pl} (ok : p.ok) (h0 : 0 ∈ changesI p) {L : Lm} {v1 : S} {seen : List Stn} {a : Stn} (ha : a ∈ standsOf p) {s6 s7 : S} {E : DEnds}
    (hE : ∀ road u, roadOf p seen a = (road, u) → g_still_ring_5 L E (stR p v1 seen (.d u.d) (.ow (.dct (roadT road))) s6 s7)) :
    g_still_ring_8 L E (stR p v1 seen (.d a.d) (.ow (.dct (roadT []))) s6 s7) := by
  unfold g_still_ring_8 sSeq
  refine ⟨fun m ρ => ∃ (road : List Stn) (u : Stn), ρ = stR p v1 seen (.d u.d) (.ow (.dct (roadT road))) s6 s7 ∧ RoadOk p seen road a u ∧ m + road.length = 262145 ∧ roadGo p seen m road u = roadOf p seen a, ⟨262145, [], a, rfl, road0 p seen a, rfl, rfl⟩, ?_⟩
  rintro m ρ ⟨road, u, rfl, x, hm, hw⟩
  have hl := x.len ok
  obtain ⟨m, rfl⟩ : ∃ k, m = k + 1 := ⟨m - 1, by omega⟩
  have hu : u ∈ standsOf p := by rw [x.at_]; exact it_stands ok h0 _ ha
  have hf := stands_fits ok hu
  unfold roadGo at hw
  by_cases h : u ∈ seen ∨ u ∈ road
  · rw [if_pos h] at hw
    have := hE road u hw.symm
    unfold stR at this ⊢
    by_cases h1 : u ∈ seen
    · simp [keyD_stn, seenT_get, h1, sSeq, sRet, sRetN, sRetW, sIf, sNext, sNever, sExpr, sAsg, sNew, sNewS, sPar, sPar3, sApp, sSetIx, sDPut, sPar3W, fnD0, fnD1, fnOwn, fIxDN, fInDN, fIxZ, fInZ, fLenZ, fListZ, fGetZ, fMaxL, fMinL, fVar, fC, fRaw, fNil, fCons, fTup, fLst, fOp, fTest, fChain, fAnd, fOr, fNot, fAndV, fOrV, fNotV, fIf, fIfT, fStill, still, fnLst, gNm, gTp, gsCons, gsNil, fCall, fCallO, fCallN, fIxN, fLenN, fSl, fPart, fNoPart, fNeg, fIsi, fIsi2, fLen, fAbs, fInt, fMax2, fMin2, fTupOf, fListOf, fSorted, fLstR, fAll, fAny, fIx, fIn, fEq, fIsN, fAdd, fMul, f2I, unD, slots0, settable_iff, npd, npn, npo, npf, npr, ownAt, owned, lentEnd, fiLst, fiTup, fiR1, fiR2, fiZip, fiZip3, fiKeysZ, fiItemsZ, fYes, wipeS, sMix, fmNil, fmS, fmN, setM, Mx.slot, fnDc, fFz, fSlN, fLenDN, fPopN, fSum, fMaxVals, fListVals, fDictOf, fGetDN, fPopDN, fiIf, fInD, fAct, fHand]
      exact this
    · have h2 := h.resolve_left h1
      simp [keyD_stn, seenT_get, roadT_get, h1, h2, sSeq, sRet, sRetN, sRetW, sIf, sNext, sNever, sExpr, sAsg, sNew, sNewS, sPar, sPar3, sApp, sSetIx, sDPut, sPar3W, fnD0, fnD1, fnOwn, fIxDN, fInDN, fIxZ, fInZ, fLenZ, fListZ, fGetZ, fMaxL, fMinL, fVar, fC, fRaw, fNil, fCons, fTup, fLst, fOp, fTest, fChain, fAnd, fOr, fNot, fAndV, fOrV, fNotV, fIf, fIfT, fStill, still, fnLst, gNm, gTp, gsCons, gsNil, fCall, fCallO, fCallN, fIxN, fLenN, fSl, fPart, fNoPart, fNeg, fIsi, fIsi2, fLen, fAbs, fInt, fMax2, fMin2, fTupOf, fListOf, fSorted, fLstR, fAll, fAny, fIx, fIn, fEq, fIsN, fAdd, fMul, f2I, unD, slots0, settable_iff, npd, npn, npo, npf, npr, ownAt, owned, lentEnd, fiLst, fiTup, fiR1, fiR2, fiZip, fiZip3, fiKeysZ, fiItemsZ, fYes, wipeS, sMix, fmNil, fmS, fmN, setM, Mx.slot, fnDc, fFz, fSlN, fLenDN, fPopN, fSum, fMaxVals, fListVals, fDictOf, fGetDN, fPopDN, fiIf, fInD, fAct, fHand]
      exact this
  · rw [if_neg h] at hw
    rw [not_or] at h
    unfold stR
    simp [keyD_stn, seenT_get, roadT_get, h.1, h.2, sSeq, sRet, sRetN, sRetW, sIf, sNext, sNever, sExpr, sAsg, sNew, sNewS, sPar, sPar3, sApp, sSetIx, sDPut, sPar3W, fnD0, fnD1, fnOwn, fIxDN, fInDN, fIxZ, fInZ, fLenZ, fListZ, fGetZ, fMaxL, fMinL, fVar, fC, fRaw, fNil, fCons, fTup, fLst, fOp, fTest, fChain, fAnd, fOr, fNot, fAndV, fOrV, fNotV, fIf, fIfT, fStill, still, fnLst, gNm, gTp, gsCons, gsNil, fCall, fCallO, fCallN, fIxN, fLenN, fSl, fPart, fNoPart, fNeg, fIsi, fIsi2, fLen, fAbs, fInt, fMax2, fMin2, fTupOf, fListOf, fSorted, fLstR, fAll, fAny, fIx, fIn, fEq, fIsN, fAdd, fMul, f2I, unD, slots0, settable_iff, npd, npn, npo, npf, npr, ownAt, owned, lentEnd, fiLst, fiTup, fiR1, fiR2, fiZip, fiZip3, fiKeysZ, fiItemsZ, fYes, wipeS, sMix, fmNil, fmS, fmN, setM, Mx.slot, fnDc, fFz, fSlN, fLenDN, fPopN, fSum, fMaxVals, fListVals, fDictOf, fGetDN, fPopDN, fiIf, fInD, fAct, fHand]
    refine ⟨fun ρ => ρ = stR p v1 seen (.d (behind p u 0).d) (.ow (.dct (roadT (road ++ [u])))) s6 s7, fun ρ e => ⟨m, Nat.lt_succ_self _, road ++ [u], behind p u 0, e, x.step ok h0 ha h.1 h.2, by simp; omega, hw⟩, ?_⟩
    unfold g_still_ring_7
    have hlen : (roadT road).length < sizeLine := by rw [roadT_len, sizeLine_eq]; omega
    simp [keyD_stn, sSeq, sRet, sRetN, sRetW, sIf, sNext, sNever, sExpr, sAsg, sNew, sNewS, sPar, sPar3, sApp, sSetIx, sDPut, sPar3W, fnD0, fnD1, fnOwn, fIxDN, fInDN, fIxZ, fInZ, fLenZ, fListZ, fGetZ, fMaxL, fMinL, fVar, fC, fRaw, fNil, fCons, fTup, fLst, fOp, fTest, fChain, fAnd, fOr, fNot, fAndV, fOrV, fNotV, fIf, fIfT, fStill, still, fnLst, gNm, gTp, gsCons, gsNil, fCall, fCallO, fCallN, fIxN, fLenN, fSl, fPart, fNoPart, fNeg, fIsi, fIsi2, fLen, fAbs, fInt, fMax2, fMin2, fTupOf, fListOf, fSorted, fLstR, fAll, fAny, fIx, fIn, fEq, fIsN, fAdd, fMul, f2I, unD, slots0, settable_iff, npd, npn, npo, npf, npr, ownAt, owned, lentEnd, fiLst, fiTup, fiR1, fiR2, fiZip, fiZip3, fiKeysZ, fiItemsZ, fYes, wipeS, sMix, fmNil, fmS, fmN, setM, Mx.slot, fnDc, fFz, fSlN, fLenDN, fPopN, fSum, fMaxVals, fListVals, fDictOf, fGetDN, fPopDN, fiIf, fInD, fAct, fHand]
    refine ⟨hlen, ?_⟩
    unfold g_still_ring_6
    rw [roadT_len, roadT_put h.2]
    simp [fn_behind, planOf_d, standOf_d, ok, hf.len, sSeq, sRet, sRetN, sRetW, sIf, sNext, sNever, sExpr, sAsg, sNew, sNewS, sPar, sPar3, sApp, sSetIx, sDPut, sPar3W, fnD0, fnD1, fnOwn, fIxDN, fInDN, fIxZ, fInZ, fLenZ, fListZ, fGetZ, fMaxL, fMinL, fVar, fC, fRaw, fNil, fCons, fTup, fLst, fOp, fTest, fChain, fAnd, fOr, fNot, fAndV, fOrV, fNotV, fIf, fIfT, fStill, still, fnLst, gNm, gTp, gsCons, gsNil, fCall, fCallO, fCallN, fIxN, fLenN, fSl, fPart, fNoPart, fNeg, fIsi, fIsi2, fLen, fAbs, fInt, fMax2, fMin2, fTupOf, fListOf, fSorted, fLstR, fAll, fAny, fIx, fIn, fEq, fIsN, fAdd, fMul, f2I, unD, slots0, settable_iff, npd, npn, npo, npf, npr, ownAt, owned, lentEnd, fiLst, fiTup, fiR1, fiR2, fiZip, fiZip3, fiKeysZ, fiItemsZ, fYes, wipeS, sMix, fmNil, fmS, fmN, setM, Mx.slot, fnDc, fFz, fSlN, fLenDN, fPopN, fSum, fMaxVals, fListVals, fDictOf, fGetDN, fPopDN, fiIf, fInD, fAct, fHand]
    rfl
/-- what is shown of a walk -/
theorem d_still_5 {p : Pl} (ok : p.ok) {L : Lm} {good : List Stn → Bool} (hL : ∀ l : List Stn, (∀ s ∈ l, s.fits p) → l.length ≤ 262144 → ∀ Q2 : S → Prop, Q2 (.d (.bool (good l))) → L.run [.d (.list (l.map Stn.d))] Q2)
    {seen road : List Stn} {a u : Stn} (x : RoadOk p seen road a u) (hl : seen.length + road.length ≤ 262144) {s6 s7 : S} (n6 : np s6) (n7 : np s7) {E : DEnds}
    (hN : (u ∈ road → good (road.drop (road.idxOf u)) = false) → ∀ s5 s6 s7, np s5 → np s6 → np s7 → E.nx (stR p (.fn L.f L.B) (seen ++ road) (.d u.d) s5 s6 s7))
    (hR : u ∈ road → good (road.drop (road.idxOf u)) = true → ∀ ρ, E.rt (.d (shownD p (road.drop (road.idxOf u)))) ρ) :
    g_still_ring_5 L E (stR p (.fn L.f L.B) seen (.d u.d) (.ow (.dct (roadT road))) s6 s7) := by
  have hrl := x.len ok
  have e0 : (roadT road).map (·.1) = road.map Stn.d := tab_keys _ _
  unfold g_still_ring_5 stR
  simp [n7, e0, fnLc, sSeq, sRet, sRetN, sRetW, sIf, sNext, sNever, sExpr, sAsg, sNew, sNewS, sPar, sPar3, sApp, sSetIx, sDPut, sPar3W, fnD0, fnD1, fnOwn, fIxDN, fInDN, fIxZ, fInZ, fLenZ, fListZ, fGetZ, fMaxL, fMinL, fVar, fC, fRaw, fNil, fCons, fTup, fLst, fOp, fTest, fChain, fAnd, fOr, fNot, fAndV, fOrV, fNotV, fIf, fIfT, fStill, still, fnLst, gNm, gTp, gsCons, gsNil, fCall, fCallO, fCallN, fIxN, fLenN, fSl, fPart, fNoPart, fNeg, fIsi, fIsi2, fLen, fAbs, fInt, fMax2, fMin2, fTupOf, fListOf, fSorted, fLstR, fAll, fAny, fIx, fIn, fEq, fIsN, fAdd, fMul, f2I, unD, slots0, settable_iff, npd, npn, npo, npf, npr, ownAt, owned, lentEnd, fiLst, fiTup, fiR1, fiR2, fiZip, fiZip3, fiKeysZ, fiItemsZ, fYes, wipeS, sMix, fmNil, fmS, fmN, setM, Mx.slot, fnDc, fFz, fSlN, fLenDN, fPopN, fSum, fMaxVals, fListVals, fDictOf, fGetDN, fPopDN, fiIf, fInD, fAct, fHand]
  refine lc_stn (i := 7) (b := fun s => decide (u ∈ road) && decide (road.idxOf u ≤ road.idxOf s)) (g := Stn.d) rfl road [] (by rw [sizeLine_eq]; simp; omega) (fun s hs Q2 h2 => ?_) (fun s hs Q2 h2 => ?_) ?_
  · by_cases hu : u ∈ road
    · simp [keyD_stn, roadT_get, hu, hs, sSeq, sRet, sRetN, sRetW, sIf, sNext, sNever, sExpr, sAsg, sNew, sNewS, sPar, sPar3, sApp, sSetIx, sDPut, sPar3W, fnD0, fnD1, fnOwn, fIxDN, fInDN, fIxZ, fInZ, fLenZ, fListZ, fGetZ, fMaxL, fMinL, fVar, fC, fRaw, fNil, fCons, fTup, fLst, fOp, fTest, fChain, fAnd, fOr, fNot, fAndV, fOrV, fNotV, fIf, fIfT, fStill, still, fnLst, gNm, gTp, gsCons, gsNil, fCall, fCallO, fCallN, fIxN, fLenN, fSl, fPart, fNoPart, fNeg, fIsi, fIsi2, fLen, fAbs, fInt, fMax2, fMin2, fTupOf, fListOf, fSorted, fLstR, fAll, fAny, fIx, fIn, fEq, fIsN, fAdd, fMul, f2I, unD, slots0, settable_iff, npd, npn, npo, npf, npr, ownAt, owned, lentEnd, fiLst, fiTup, fiR1, fiR2, fiZip, fiZip3, fiKeysZ, fiItemsZ, fYes, wipeS, sMix, fmNil, fmS, fmN, setM, Mx.slot, fnDc, fFz, fSlN, fLenDN, fPopN, fSum, fMaxVals, fListVals, fDictOf, fGetDN, fPopDN, fiIf, fInD, fAct, fHand]
      simpa [hu] using h2
    · simp [keyD_stn, roadT_get, hu, sSeq, sRet, sRetN, sRetW, sIf, sNext, sNever, sExpr, sAsg, sNew, sNewS, sPar, sPar3, sApp, sSetIx, sDPut, sPar3W, fnD0, fnD1, fnOwn, fIxDN, fInDN, fIxZ, fInZ, fLenZ, fListZ, fGetZ, fMaxL, fMinL, fVar, fC, fRaw, fNil, fCons, fTup, fLst, fOp, fTest, fChain, fAnd, fOr, fNot, fAndV, fOrV, fNotV, fIf, fIfT, fStill, still, fnLst, gNm, gTp, gsCons, gsNil, fCall, fCallO, fCallN, fIxN, fLenN, fSl, fPart, fNoPart, fNeg, fIsi, fIsi2, fLen, fAbs, fInt, fMax2, fMin2, fTupOf, fListOf, fSorted, fLstR, fAll, fAny, fIx, fIn, fEq, fIsN, fAdd, fMul, f2I, unD, slots0, settable_iff, npd, npn, npo, npf, npr, ownAt, owned, lentEnd, fiLst, fiTup, fiR1, fiR2, fiZip, fiZip3, fiKeysZ, fiItemsZ, fYes, wipeS, sMix, fmNil, fmS, fmN, setM, Mx.slot, fnDc, fFz, fSlN, fLenDN, fPopN, fSum, fMaxVals, fListVals, fDictOf, fGetDN, fPopDN, fiIf, fInD, fAct, fHand]
      simpa [hu] using h2
  · simp [sSeq, sRet, sRetN, sRetW, sIf, sNext, sNever, sExpr, sAsg, sNew, sNewS, sPar, sPar3, sApp, sSetIx, sDPut, sPar3W, fnD0, fnD1, fnOwn, fIxDN, fInDN, fIxZ, fInZ, fLenZ, fListZ, fGetZ, fMaxL, fMinL, fVar, fC, fRaw, fNil, fCons, fTup, fLst, fOp, fTest, fChain, fAnd, fOr, fNot, fAndV, fOrV, fNotV, fIf, fIfT, fStill, still, fnLst, gNm, gTp, gsCons, gsNil, fCall, fCallO, fCallN, fIxN, fLenN, fSl, fPart, fNoPart, fNeg, fIsi, fIsi2, fLen, fAbs, fInt, fMax2, fMin2, fTupOf, fListOf, fSorted, fLstR, fAll, fAny, fIx, fIn, fEq, fIsN, fAdd, fMul, f2I, unD, slots0, settable_iff, npd, npn, npo, npf, npr, ownAt, owned, lentEnd, fiLst, fiTup, fiR1, fiR2, fiZip, fiZip3, fiKeysZ, fiItemsZ, fYes, wipeS, sMix, fmNil, fmS, fmN, setM, Mx.slot, fnDc, fFz, fSlN, fLenDN, fPopN, fSum, fMaxVals, fListVals, fDictOf, fGetDN, fPopDN, fiIf, fInD, fAct, fHand]
    exact h2
  · rw [List.nil_append]
    by_cases hu : u ∈ road
    · have ef : (road.filter fun s => decide (u ∈ road) && decide (road.idxOf u ≤ road.idxOf s)) = road.drop (road.idxOf u) := by
        rw [← filter_ix road _ x.nd]
        refine List.filter_congr fun s _ => ?_
        simp [hu]
      rw [ef]
      obtain ⟨t, k, e1, e2, e3, e4, _⟩ := ring_of x hu
      have hk : (road.drop (road.idxOf u)).length ≤ 262144 := by rw [List.length_drop]; omega
      have hR' := hR hu
      have hN' := fun z => hN fun _ => z
      clear hR hN ef
      generalize road.drop (road.idxOf u) = line at *
      have hll : line.length = k + 1 := by rw [e1, its_len]
      have hfit : ∀ s ∈ line, s.fits p := fun s hs => stands_fits ok (e4 s hs)
      obtain ⟨rest, er⟩ : ∃ rest, line = t :: rest := by
        rw [e1]
        unfold its
        rw [List.range_succ_eq_map]
        exact ⟨_, rfl⟩
      obtain ⟨cs, g1, _, _⟩ := run_found ok e3
      have es : shownD p line = .tuple [runD cs, zeros line.length] := by
        unfold shownD runTo headS
        rw [er, List.headD_cons, g1]
        rfl
      simp [n6, sSeq, sRet, sRetN, sRetW, sIf, sNext, sNever, sExpr, sAsg, sNew, sNewS, sPar, sPar3, sApp, sSetIx, sDPut, sPar3W, fnD0, fnD1, fnOwn, fIxDN, fInDN, fIxZ, fInZ, fLenZ, fListZ, fGetZ, fMaxL, fMinL, fVar, fC, fRaw, fNil, fCons, fTup, fLst, fOp, fTest, fChain, fAnd, fOr, fNot, fAndV, fOrV, fNotV, fIf, fIfT, fStill, still, fnLst, gNm, gTp, gsCons, gsNil, fCall, fCallO, fCallN, fIxN, fLenN, fSl, fPart, fNoPart, fNeg, fIsi, fIsi2, fLen, fAbs, fInt, fMax2, fMin2, fTupOf, fListOf, fSorted, fLstR, fAll, fAny, fIx, fIn, fEq, fIsN, fAdd, fMul, f2I, unD, slots0, settable_iff, npd, npn, npo, npf, npr, ownAt, owned, lentEnd, fiLst, fiTup, fiR1, fiR2, fiZip, fiZip3, fiKeysZ, fiItemsZ, fYes, wipeS, sMix, fmNil, fmS, fmN, setM, Mx.slot, fnDc, fFz, fSlN, fLenDN, fPopN, fSum, fMaxVals, fListVals, fDictOf, fGetDN, fPopDN, fiIf, fInD, fAct, fHand]
      unfold g_still_ring_4
      have sh := shaped_stns ok hfit hk
      have ev : (PyData.list (line.map Stn.d)).eqv (.list []) = false := by rw [er]; simp [PyData.eqv, PyData.eqvAll]
      simp [sh, sh_nil, ev, sSeq, sRet, sRetN, sRetW, sIf, sNext, sNever, sExpr, sAsg, sNew, sNewS, sPar, sPar3, sApp, sSetIx, sDPut, sPar3W, fnD0, fnD1, fnOwn, fIxDN, fInDN, fIxZ, fInZ, fLenZ, fListZ, fGetZ, fMaxL, fMinL, fVar, fC, fRaw, fNil, fCons, fTup, fLst, fOp, fTest, fChain, fAnd, fOr, fNot, fAndV, fOrV, fNotV, fIf, fIfT, fStill, still, fnLst, gNm, gTp, gsCons, gsNil, fCall, fCallO, fCallN, fIxN, fLenN, fSl, fPart, fNoPart, fNeg, fIsi, fIsi2, fLen, fAbs, fInt, fMax2, fMin2, fTupOf, fListOf, fSorted, fLstR, fAll, fAny, fIx, fIn, fEq, fIsN, fAdd, fMul, f2I, unD, slots0, settable_iff, npd, npn, npo, npf, npr, ownAt, owned, lentEnd, fiLst, fiTup, fiR1, fiR2, fiZip, fiZip3, fiKeysZ, fiItemsZ, fYes, wipeS, sMix, fmNil, fmS, fmN, setM, Mx.slot, fnDc, fFz, fSlN, fLenDN, fPopN, fSum, fMaxVals, fListVals, fDictOf, fGetDN, fPopDN, fiIf, fInD, fAct, fHand]
      refine hL line hfit hk _ ?_
      cases hg : good line with
      | true =>
        have a0 : atI (line.map Stn.d) 0 = some t.d := by rw [er, List.map_cons]; exact at0
        have := hR' hg
        rw [es] at this
        simp [a0, keyD_stn, g1, sizeLine_eq, hll, sSeq, sRet, sRetN, sRetW, sIf, sNext, sNever, sExpr, sAsg, sNew, sNewS, sPar, sPar3, sApp, sSetIx, sDPut, sPar3W, fnD0, fnD1, fnOwn, fIxDN, fInDN, fIxZ, fInZ, fLenZ, fListZ, fGetZ, fMaxL, fMinL, fVar, fC, fRaw, fNil, fCons, fTup, fLst, fOp, fTest, fChain, fAnd, fOr, fNot, fAndV, fOrV, fNotV, fIf, fIfT, fStill, still, fnLst, gNm, gTp, gsCons, gsNil, fCall, fCallO, fCallN, fIxN, fLenN, fSl, fPart, fNoPart, fNeg, fIsi, fIsi2, fLen, fAbs, fInt, fMax2, fMin2, fTupOf, fListOf, fSorted, fLstR, fAll, fAny, fIx, fIn, fEq, fIsN, fAdd, fMul, f2I, unD, slots0, settable_iff, npd, npn, npo, npf, npr, ownAt, owned, lentEnd, fiLst, fiTup, fiR1, fiR2, fiZip, fiZip3, fiKeysZ, fiItemsZ, fYes, wipeS, sMix, fmNil, fmS, fmN, setM, Mx.slot, fnDc, fFz, fSlN, fLenDN, fPopN, fSum, fMaxVals, fListVals, fDictOf, fGetDN, fPopDN, fiIf, fInD, fAct, fHand]
        unfold zeros at this
        rw [hll] at this hk
        exact ⟨⟨by omega, by omega⟩, this _⟩
      | false =>
        simp [sSeq, sRet, sRetN, sRetW, sIf, sNext, sNever, sExpr, sAsg, sNew, sNewS, sPar, sPar3, sApp, sSetIx, sDPut, sPar3W, fnD0, fnD1, fnOwn, fIxDN, fInDN, fIxZ, fInZ, fLenZ, fListZ, fGetZ, fMaxL, fMinL, fVar, fC, fRaw, fNil, fCons, fTup, fLst, fOp, fTest, fChain, fAnd, fOr, fNot, fAndV, fOrV, fNotV, fIf, fIfT, fStill, still, fnLst, gNm, gTp, gsCons, gsNil, fCall, fCallO, fCallN, fIxN, fLenN, fSl, fPart, fNoPart, fNeg, fIsi, fIsi2, fLen, fAbs, fInt, fMax2, fMin2, fTupOf, fListOf, fSorted, fLstR, fAll, fAny, fIx, fIn, fEq, fIsN, fAdd, fMul, f2I, unD, slots0, settable_iff, npd, npn, npo, npf, npr, ownAt, owned, lentEnd, fiLst, fiTup, fiR1, fiR2, fiZip, fiZip3, fiKeysZ, fiItemsZ, fYes, wipeS, sMix, fmNil, fmS, fmN, setM, Mx.slot, fnDc, fFz, fSlN, fLenDN, fPopN, fSum, fMaxVals, fListVals, fDictOf, fGetDN, fPopDN, fiIf, fInD, fAct, fHand]
        exact d_still_3 (s7 := .no) x.out x.nd hl trivial fun s7 n7 => hN' hg _ _ _ trivial trivial n7
    · have ef : (road.filter fun s => decide (u ∈ road) && decide (road.idxOf u ≤ road.idxOf s)) = [] := by simp [hu]
      rw [ef]
      simp [n6, sSeq, sRet, sRetN, sRetW, sIf, sNext, sNever, sExpr, sAsg, sNew, sNewS, sPar, sPar3, sApp, sSetIx, sDPut, sPar3W, fnD0, fnD1, fnOwn, fIxDN, fInDN, fIxZ, fInZ, fLenZ, fListZ, fGetZ, fMaxL, fMinL, fVar, fC, fRaw, fNil, fCons, fTup, fLst, fOp, fTest, fChain, fAnd, fOr, fNot, fAndV, fOrV, fNotV, fIf, fIfT, fStill, still, fnLst, gNm, gTp, gsCons, gsNil, fCall, fCallO, fCallN, fIxN, fLenN, fSl, fPart, fNoPart, fNeg, fIsi, fIsi2, fLen, fAbs, fInt, fMax2, fMin2, fTupOf, fListOf, fSorted, fLstR, fAll, fAny, fIx, fIn, fEq, fIsN, fAdd, fMul, f2I, unD, slots0, settable_iff, npd, npn, npo, npf, npr, ownAt, owned, lentEnd, fiLst, fiTup, fiR1, fiR2, fiZip, fiZip3, fiKeysZ, fiItemsZ, fYes, wipeS, sMix, fmNil, fmS, fmN, setM, Mx.slot, fnDc, fFz, fSlN, fLenDN, fPopN, fSum, fMaxVals, fListVals, fDictOf, fGetDN, fPopDN, fiIf, fInD, fAct, fHand]
      unfold g_still_ring_4
      have ev : (PyData.list []).eqv (.list []) = true := rfl
      simp [sh_nil, ev, sSeq, sRet, sRetN, sRetW, sIf, sNext, sNever, sExpr, sAsg, sNew, sNewS, sPar, sPar3, sApp, sSetIx, sDPut, sPar3W, fnD0, fnD1, fnOwn, fIxDN, fInDN, fIxZ, fInZ, fLenZ, fListZ, fGetZ, fMaxL, fMinL, fVar, fC, fRaw, fNil, fCons, fTup, fLst, fOp, fTest, fChain, fAnd, fOr, fNot, fAndV, fOrV, fNotV, fIf, fIfT, fStill, still, fnLst, gNm, gTp, gsCons, gsNil, fCall, fCallO, fCallN, fIxN, fLenN, fSl, fPart, fNoPart, fNeg, fIsi, fIsi2, fLen, fAbs, fInt, fMax2, fMin2, fTupOf, fListOf, fSorted, fLstR, fAll, fAny, fIx, fIn, fEq, fIsN, fAdd, fMul, f2I, unD, slots0, settable_iff, npd, npn, npo, npf, npr, ownAt, owned, lentEnd, fiLst, fiTup, fiR1, fiR2, fiZip, fiZip3, fiKeysZ, fiItemsZ, fYes, wipeS, sMix, fmNil, fmS, fmN, setM, Mx.slot, fnDc, fFz, fSlN, fLenDN, fPopN, fSum, fMaxVals, fListVals, fDictOf, fGetDN, fPopDN, fiIf, fInD, fAct, fHand]
      exact d_still_3 (s7 := .no) x.out x.nd hl trivial fun s7 n7 => hN (fun z => absurd z hu) _ _ _ trivial trivial n7
theorem any_changes (p : Pl) : ((changes p).any fun y => y.eqv (.int 0)) = decide (0 ∈ changesI p) := by
  rw [changes_eq, List.any_map]
  rw [Bool.eq_iff_iff]
  simp [PyData.eqv]
theorem flat_changes (p : Pl) : (changes p).all flatD = true := by
  rw [changes_eq, List.all_map]
  simp [flatD]
theorem app_nodup {p : Pl} {seen road : List Stn} {a u : Stn} (x : RoadOk p seen road a u) (h : seen.Nodup) : (seen ++ road).Nodup := by
  rw [List.nodup_append]
  exact ⟨h, x.nd, fun s hs t ht e => x.out t ht (e ▸ hs)⟩
theorem d_still_ring (L : Lm) (ss : List S) (Q' : S → Prop) (hn : ss.length + 1 = 2) (h : fn_still_ring L (ss ++ [.fn L.f L.B]) Q') : g_still_ring L (EF Q') (slots0 8 (ss ++ [.fn L.f L.B])) := by
  obtain ⟨p, v, good, hss, ok, hL, h⟩ := h
  match ss, hn, hss with
  | [v0], _, hss =>
    obtain ⟨rfl, rfl⟩ : v0 = .d p.d ∧ v = .fn L.f L.B := by
      simp at hss
      exact ⟨hss.1, hss.2.symm⟩
    unfold g_still_ring
    simp [fn_ways_by, planOf_d, ok, sSeq, sRet, sRetN, sRetW, sIf, sNext, sNever, sExpr, sAsg, sNew, sNewS, sPar, sPar3, sApp, sSetIx, sDPut, sPar3W, fnD0, fnD1, fnOwn, fIxDN, fInDN, fIxZ, fInZ, fLenZ, fListZ, fGetZ, fMaxL, fMinL, fVar, fC, fRaw, fNil, fCons, fTup, fLst, fOp, fTest, fChain, fAnd, fOr, fNot, fAndV, fOrV, fNotV, fIf, fIfT, fStill, still, fnLst, gNm, gTp, gsCons, gsNil, fCall, fCallO, fCallN, fIxN, fLenN, fSl, fPart, fNoPart, fNeg, fIsi, fIsi2, fLen, fAbs, fInt, fMax2, fMin2, fTupOf, fListOf, fSorted, fLstR, fAll, fAny, fIx, fIn, fEq, fIsN, fAdd, fMul, f2I, unD, slots0, settable, ownAt, owned, lentEnd, fiLst, fiTup, fiR1, fiR2, fiZip, fiZip3, fiKeysZ, fiItemsZ, fYes, wipeS, sMix, fmNil, fmS, fmN, setM, Mx.slot, fnDc, fFz, fSlN, fLenDN, fPopN, fSum, fMaxVals, fListVals, fDictOf, fGetDN, fPopDN, fiIf, fInD, fAct, fHand]
    unfold g_still_ring_10 sSeq
    rw [sFor_eq]
    have e0 : (kvsF (waysOf p)).map (·.1) = (standsOf p).map Stn.d := stands_keys p
    have c0 : isNone (.int 0) = false := rfl
    simp [fn_changes_of, fn__law_changes, planOf_d, ok, any_changes, flat_changes, e0, flatD, sSeq, sRet, sRetN, sRetW, sIf, sNext, sNever, sExpr, sAsg, sNew, sNewS, sPar, sPar3, sApp, sSetIx, sDPut, sPar3W, fnD0, fnD1, fnOwn, fIxDN, fInDN, fIxZ, fInZ, fLenZ, fListZ, fGetZ, fMaxL, fMinL, fVar, fC, fRaw, fNil, fCons, fTup, fLst, fOp, fTest, fChain, fAnd, fOr, fNot, fAndV, fOrV, fNotV, fIf, fIfT, fStill, still, fnLst, gNm, gTp, gsCons, gsNil, fCall, fCallO, fCallN, fIxN, fLenN, fSl, fPart, fNoPart, fNeg, fIsi, fIsi2, fLen, fAbs, fInt, fMax2, fMin2, fTupOf, fListOf, fSorted, fLstR, fAll, fAny, fIx, fIn, fEq, fIsN, fAdd, fMul, f2I, unD, slots0, settable, ownAt, owned, lentEnd, fiLst, fiTup, fiR1, fiR2, fiZip, fiZip3, fiKeysZ, fiItemsZ, fYes, wipeS, sMix, fmNil, fmS, fmN, setM, Mx.slot, fnDc, fFz, fSlN, fLenDN, fPopN, fSum, fMaxVals, fListVals, fDictOf, fGetDN, fPopDN, fiIf, fInD, fAct, fHand]
    unfold stillR ringsOf at h
    have fin : ∀ ρ, Q' (.d .none) → g_still_ring_1 L (EF Q') ρ := fun ρ z => z
    by_cases h0 : 0 ∈ changesI p
    · rw [if_pos h0] at h ⊢
      refine sForB_go ?_
      have go : ∀ (l seen : List Stn) (s4 s5 s6 s7 : S), (∀ s ∈ l, s ∈ standsOf p) → (∀ s ∈ seen, s ∈ standsOf p) → seen.Nodup → np s4 → np s5 → np s6 → np s7 → Q' (.d (match (ringsGo p l seen).find? good with
          | some l => shownD p l
          | none => .none)) → forGo (gNm 4) (g_still_ring_9 L) { nx := g_still_ring_1 L (EF Q'), rt := (EF Q').rt } (l.map Stn.d) (stR p (.fn L.f L.B) seen s4 s5 s6 s7) := by
        intro l
        induction l with
        | nil => intro seen s4 s5 s6 s7 _ _ _ _ _ _ _ h; exact fin (stR p (.fn L.f L.B) seen s4 s5 s6 s7) h
        | cons a l ih =>
          intro seen s4 s5 s6 s7 hl hs nd n4 n5 n6 n7 h
          have ha := hl a List.mem_cons_self
          rw [List.map_cons]
          unfold forGo stR
          simp [n4, n5, sSeq, sRet, sRetN, sRetW, sIf, sNext, sNever, sExpr, sAsg, sNew, sNewS, sPar, sPar3, sApp, sSetIx, sDPut, sPar3W, fnD0, fnD1, fnOwn, fIxDN, fInDN, fIxZ, fInZ, fLenZ, fListZ, fGetZ, fMaxL, fMinL, fVar, fC, fRaw, fNil, fCons, fTup, fLst, fOp, fTest, fChain, fAnd, fOr, fNot, fAndV, fOrV, fNotV, fIf, fIfT, fStill, still, fnLst, gNm, gTp, gsCons, gsNil, fCall, fCallO, fCallN, fIxN, fLenN, fSl, fPart, fNoPart, fNeg, fIsi, fIsi2, fLen, fAbs, fInt, fMax2, fMin2, fTupOf, fListOf, fSorted, fLstR, fAll, fAny, fIx, fIn, fEq, fIsN, fAdd, fMul, f2I, unD, slots0, settable_iff, npd, npn, npo, npf, npr, ownAt, owned, lentEnd, fiLst, fiTup, fiR1, fiR2, fiZip, fiZip3, fiKeysZ, fiItemsZ, fYes, wipeS, sMix, fmNil, fmS, fmN, setM, Mx.slot, fnDc, fFz, fSlN, fLenDN, fPopN, fSum, fMaxVals, fListVals, fDictOf, fGetDN, fPopDN, fiIf, fInD, fAct, fHand]
          unfold g_still_ring_9
          simp [n5, sSeq, sRet, sRetN, sRetW, sIf, sNext, sNever, sExpr, sAsg, sNew, sNewS, sPar, sPar3, sApp, sSetIx, sDPut, sPar3W, fnD0, fnD1, fnOwn, fIxDN, fInDN, fIxZ, fInZ, fLenZ, fListZ, fGetZ, fMaxL, fMinL, fVar, fC, fRaw, fNil, fCons, fTup, fLst, fOp, fTest, fChain, fAnd, fOr, fNot, fAndV, fOrV, fNotV, fIf, fIfT, fStill, still, fnLst, gNm, gTp, gsCons, gsNil, fCall, fCallO, fCallN, fIxN, fLenN, fSl, fPart, fNoPart, fNeg, fIsi, fIsi2, fLen, fAbs, fInt, fMax2, fMin2, fTupOf, fListOf, fSorted, fLstR, fAll, fAny, fIx, fIn, fEq, fIsN, fAdd, fMul, f2I, unD, slots0, settable_iff, npd, npn, npo, npf, npr, ownAt, owned, lentEnd, fiLst, fiTup, fiR1, fiR2, fiZip, fiZip3, fiKeysZ, fiItemsZ, fYes, wipeS, sMix, fmNil, fmS, fmN, setM, Mx.slot, fnDc, fFz, fSlN, fLenDN, fPopN, fSum, fMaxVals, fListVals, fDictOf, fGetDN, fPopDN, fiIf, fInD, fAct, fHand]
          refine d_still_8 (s6 := s6) (s7 := s7) ok h0 ha fun road u er => ?_
          have x := roadOf_ok ok h0 ha (seen := seen)
          unfold ringsGo at h
          rw [er] at x h
          have hnd := app_nodup x nd
          have hst : ∀ s ∈ seen ++ road, s ∈ standsOf p := fun s z => (List.mem_append.mp z).elim (hs s) (x.st s)
          have hlen := Nat.le_trans (nodup_len hnd hst) (stands_len ok)
          rw [List.length_append] at hlen
          refine d_still_5 ok hL x hlen n6 n7 (fun hng s5 s6 s7 m5 m6 m7 => ?_) fun hu hg ρ => ?_
          · refine ih _ _ _ _ _ (fun s z => hl s (List.mem_cons_of_mem _ z)) hst hnd trivial m5 m6 m7 ?_
            by_cases hu : u ∈ road
            · rw [if_pos hu, List.singleton_append, List.find?_cons, hng hu] at h
              exact h
            · rw [if_neg hu, List.nil_append] at h
              exact h
          · rw [if_pos hu, List.singleton_append, List.find?_cons, hg] at h
            exact h
      exact go (standsOf p) [] .no .no .no .no (fun _ z => z) (fun _ z => nomatch z) List.nodup_nil trivial trivial trivial trivial h
    · rw [if_neg h0] at h ⊢
      refine sForB_go ?_; exact fin [.d p.d, .fn L.f L.B, .fz (.dct (kvsF (waysOf p))), .ow (.dct []), .no, .no, .no, .no] h
end Aq
/-! B20: fight and calm. -/
namespace Aq
open PySem PySem.Spec PyProof.Rows L2
theorem eqv_self {d : D} (h : SeqAt.shaped d = true) : PyData.eqv d d = true := SeqAt.eqv_refl d (SeqAt.canLay_of_shaped h)
theorem pair_eqv (p : Pl) (l : List Stn) (h c : Bool) : (pairD p l).eqv (.tuple [.bool h, .bool c]) = ((anyH p l == h) && (anyC p l == c)) := by
  unfold pairD
  cases anyH p l <;> cases anyC p l <;> cases h <;> cases c <;> rfl
theorem pair_shaped (p : Pl) (l : List Stn) : SeqAt.shaped (pairD p l) = true := by
  unfold pairD
  cases anyH p l <;> cases anyC p l <;> rfl
theorem two_shaped (h c : Bool) : SeqAt.shaped (.tuple [.bool h, .bool c]) = true := by
  cases h <;> cases c <;> rfl
theorem d_fight_by (ss : List S) (Q' : S → Prop) (h : fn_fight_by ss Q') : g_fight_by (EF Q') (slots0 1 ss) := by
  obtain ⟨p, rfl, ok, h⟩ := h
  simp [g_fight_by, fHand, sSeq, sRet, sRetN, sRetW, sIf, sNext, sNever, sExpr, sAsg, sNew, sNewS, sPar, sPar3, sApp, sSetIx, sDPut, sPar3W, fnD0, fnD1, fnOwn, fIxDN, fInDN, fIxZ, fInZ, fLenZ, fListZ, fGetZ, fMaxL, fMinL, fVar, fC, fRaw, fNil, fCons, fTup, fLst, fOp, fTest, fChain, fAnd, fOr, fNot, fAndV, fOrV, fNotV, fIf, fIfT, fStill, still, fnLst, gNm, gTp, gsCons, gsNil, fCall, fCallO, fCallN, fIxN, fLenN, fSl, fPart, fNoPart, fNeg, fIsi, fIsi2, fLen, fAbs, fInt, fMax2, fMin2, fTupOf, fListOf, fSorted, fLstR, fAll, fAny, fIx, fIn, fEq, fIsN, fAdd, fMul, f2I, unD, slots0, settable, ownAt, owned, lentEnd, fiLst, fiTup, fiR1, fiR2, fiZip, fiZip3, fiKeysZ, fiItemsZ, fYes, wipeS, sMix, fmNil, fmS, fmN, setM, Mx.slot, fnDc, fFz, fSlN, fLenDN, fPopN, fSum, fMaxVals, fListVals, fDictOf, fGetDN, fPopDN, fiIf, fInD, fAct, fHand]
  intro L hrun
  refine ⟨p, _, _, rfl, ok, fun l hf hl Q2 h2 => ?_, h⟩
  rw [hrun]
  refine ⟨rfl, ?_⟩
  simp [shut, sSeq, sRet, sRetN, sRetW, sIf, sNext, sNever, sExpr, sAsg, sNew, sNewS, sPar, sPar3, sApp, sSetIx, sDPut, sPar3W, fnD0, fnD1, fnOwn, fIxDN, fInDN, fIxZ, fInZ, fLenZ, fListZ, fGetZ, fMaxL, fMinL, fVar, fC, fRaw, fNil, fCons, fTup, fLst, fOp, fTest, fChain, fAnd, fOr, fNot, fAndV, fOrV, fNotV, fIf, fIfT, fStill, still, fnLst, gNm, gTp, gsCons, gsNil, fCall, fCallO, fCallN, fIxN, fLenN, fSl, fPart, fNoPart, fNeg, fIsi, fIsi2, fLen, fAbs, fInt, fMax2, fMin2, fTupOf, fListOf, fSorted, fLstR, fAll, fAny, fIx, fIn, fEq, fIsN, fAdd, fMul, f2I, unD, slots0, settable, ownAt, owned, lentEnd, fiLst, fiTup, fiR1, fiR2, fiZip, fiZip3, fiKeysZ, fiItemsZ, fYes, wipeS, sMix, fmNil, fmS, fmN, setM, Mx.slot, fnDc, fFz, fSlN, fLenDN, fPopN, fSum, fMaxVals, fListVals, fDictOf, fGetDN, fPopDN, fiIf, fInD, fAct, fHand]
  refine ⟨p, l, rfl, ok, hf, hl, ?_⟩
  simp [pair_shaped, pair_eqv, two_shaped, sizeLine_eq, sSeq, sRet, sRetN, sRetW, sIf, sNext, sNever, sExpr, sAsg, sNew, sNewS, sPar, sPar3, sApp, sSetIx, sDPut, sPar3W, fnD0, fnD1, fnOwn, fIxDN, fInDN, fIxZ, fInZ, fLenZ, fListZ, fGetZ, fMaxL, fMinL, fVar, fC, fRaw, fNil, fCons, fTup, fLst, fOp, fTest, fChain, fAnd, fOr, fNot, fAndV, fOrV, fNotV, fIf, fIfT, fStill, still, fnLst, gNm, gTp, gsCons, gsNil, fCall, fCallO, fCallN, fIxN, fLenN, fSl, fPart, fNoPart, fNeg, fIsi, fIsi2, fLen, fAbs, fInt, fMax2, fMin2, fTupOf, fListOf, fSorted, fLstR, fAll, fAny, fIx, fIn, fEq, fIsN, fAdd, fMul, f2I, unD, slots0, settable, ownAt, owned, lentEnd, fiLst, fiTup, fiR1, fiR2, fiZip, fiZip3, fiKeysZ, fiItemsZ, fYes, wipeS, sMix, fmNil, fmS, fmN, setM, Mx.slot, fnDc, fFz, fSlN, fLenDN, fPopN, fSum, fMaxVals, fListVals, fDictOf, fGetDN, fPopDN, fiIf, fInD, fAct, fHand]
  simpa using h2
theorem d_calm_ring (ss : List S) (Q' : S → Prop) (h : fn_calm_ring ss Q') : g_calm_ring (EF Q') (slots0 1 ss) := by
  obtain ⟨p, rfl, ok, h⟩ := h
  simp [g_calm_ring, fn_look_at_plan, planOf_d, isPlan_d.mpr ok, fHand, sSeq, sRet, sRetN, sRetW, sIf, sNext, sNever, sExpr, sAsg, sNew, sNewS, sPar, sPar3, sApp, sSetIx, sDPut, sPar3W, fnD0, fnD1, fnOwn, fIxDN, fInDN, fIxZ, fInZ, fLenZ, fListZ, fGetZ, fMaxL, fMinL, fVar, fC, fRaw, fNil, fCons, fTup, fLst, fOp, fTest, fChain, fAnd, fOr, fNot, fAndV, fOrV, fNotV, fIf, fIfT, fStill, still, fnLst, gNm, gTp, gsCons, gsNil, fCall, fCallO, fCallN, fIxN, fLenN, fSl, fPart, fNoPart, fNeg, fIsi, fIsi2, fLen, fAbs, fInt, fMax2, fMin2, fTupOf, fListOf, fSorted, fLstR, fAll, fAny, fIx, fIn, fEq, fIsN, fAdd, fMul, f2I, unD, slots0, settable, ownAt, owned, lentEnd, fiLst, fiTup, fiR1, fiR2, fiZip, fiZip3, fiKeysZ, fiItemsZ, fYes, wipeS, sMix, fmNil, fmS, fmN, setM, Mx.slot, fnDc, fFz, fSlN, fLenDN, fPopN, fSum, fMaxVals, fListVals, fDictOf, fGetDN, fPopDN, fiIf, fInD, fAct, fHand]
  intro L hrun
  refine ⟨p, _, _, rfl, ok, fun l hf hl Q2 h2 => ?_, h⟩
  rw [hrun]
  refine ⟨rfl, ?_⟩
  simp [shut, sSeq, sRet, sRetN, sRetW, sIf, sNext, sNever, sExpr, sAsg, sNew, sNewS, sPar, sPar3, sApp, sSetIx, sDPut, sPar3W, fnD0, fnD1, fnOwn, fIxDN, fInDN, fIxZ, fInZ, fLenZ, fListZ, fGetZ, fMaxL, fMinL, fVar, fC, fRaw, fNil, fCons, fTup, fLst, fOp, fTest, fChain, fAnd, fOr, fNot, fAndV, fOrV, fNotV, fIf, fIfT, fStill, still, fnLst, gNm, gTp, gsCons, gsNil, fCall, fCallO, fCallN, fIxN, fLenN, fSl, fPart, fNoPart, fNeg, fIsi, fIsi2, fLen, fAbs, fInt, fMax2, fMin2, fTupOf, fListOf, fSorted, fLstR, fAll, fAny, fIx, fIn, fEq, fIsN, fAdd, fMul, f2I, unD, slots0, settable, ownAt, owned, lentEnd, fiLst, fiTup, fiR1, fiR2, fiZip, fiZip3, fiKeysZ, fiItemsZ, fYes, wipeS, sMix, fmNil, fmS, fmN, setM, Mx.slot, fnDc, fFz, fSlN, fLenDN, fPopN, fSum, fMaxVals, fListVals, fDictOf, fGetDN, fPopDN, fiIf, fInD, fAct, fHand]
  refine ⟨p, l, rfl, ok, hf, hl, ?_⟩
  simp [pair_shaped, pair_eqv, two_shaped, sizeLine_eq, sSeq, sRet, sRetN, sRetW, sIf, sNext, sNever, sExpr, sAsg, sNew, sNewS, sPar, sPar3, sApp, sSetIx, sDPut, sPar3W, fnD0, fnD1, fnOwn, fIxDN, fInDN, fIxZ, fInZ, fLenZ, fListZ, fGetZ, fMaxL, fMinL, fVar, fC, fRaw, fNil, fCons, fTup, fLst, fOp, fTest, fChain, fAnd, fOr, fNot, fAndV, fOrV, fNotV, fIf, fIfT, fStill, still, fnLst, gNm, gTp, gsCons, gsNil, fCall, fCallO, fCallN, fIxN, fLenN, fSl, fPart, fNoPart, fNeg, fIsi, fIsi2, fLen, fAbs, fInt, fMax2, fMin2, fTupOf, fListOf, fSorted, fLstR, fAll, fAny, fIx, fIn, fEq, fIsN, fAdd, fMul, f2I, unD, slots0, settable, ownAt, owned, lentEnd, fiLst, fiTup, fiR1, fiR2, fiZip, fiZip3, fiKeysZ, fiItemsZ, fYes, wipeS, sMix, fmNil, fmS, fmN, setM, Mx.slot, fnDc, fFz, fSlN, fLenDN, fPopN, fSum, fMaxVals, fListVals, fDictOf, fGetDN, fPopDN, fiIf, fInD, fAct, fHand]
  simpa using h2
theorem d_fight_ring (ss : List S) (Q' : S → Prop) (h : fn_fight_ring ss Q') : g_fight_ring (EF Q') (slots0 1 ss) := by
  obtain ⟨p, rfl, ok, h⟩ := h
  simp [g_fight_ring, fn_look_at_plan, planOf_d, isPlan_d.mpr ok, sSeq, sRet, sRetN, sRetW, sIf, sNext, sNever, sExpr, sAsg, sNew, sNewS, sPar, sPar3, sApp, sSetIx, sDPut, sPar3W, fnD0, fnD1, fnOwn, fIxDN, fInDN, fIxZ, fInZ, fLenZ, fListZ, fGetZ, fMaxL, fMinL, fVar, fC, fRaw, fNil, fCons, fTup, fLst, fOp, fTest, fChain, fAnd, fOr, fNot, fAndV, fOrV, fNotV, fIf, fIfT, fStill, still, fnLst, gNm, gTp, gsCons, gsNil, fCall, fCallO, fCallN, fIxN, fLenN, fSl, fPart, fNoPart, fNeg, fIsi, fIsi2, fLen, fAbs, fInt, fMax2, fMin2, fTupOf, fListOf, fSorted, fLstR, fAll, fAny, fIx, fIn, fEq, fIsN, fAdd, fMul, f2I, unD, slots0, settable, ownAt, owned, lentEnd, fiLst, fiTup, fiR1, fiR2, fiZip, fiZip3, fiKeysZ, fiItemsZ, fYes, wipeS, sMix, fmNil, fmS, fmN, setM, Mx.slot, fnDc, fFz, fSlN, fLenDN, fPopN, fSum, fMaxVals, fListVals, fDictOf, fGetDN, fPopDN, fiIf, fInD, fAct, fHand]
  exact ⟨p, rfl, ok, h⟩
def onD (p : Pl) (s : Stn) : D := .tuple [.bool (partH p s).runs, .bool (partC p s).runs]
theorem any_true : ∀ bs : List Bool, ((bs.map PyData.bool).any fun y => y.eqv (.bool true)) = bs.any id
  | [] => rfl
  | b :: bs => by rw [List.map_cons, List.any_cons, List.any_cons, any_true bs]; cases b <;> rfl
theorem any_map_id (l : List Stn) (f : Stn → Bool) : (l.map f).any id = l.any f := by simp [Function.comp_def]
/-- True in [row[0] for row in some], True in [row[1] for row in some] -/
theorem lc_on {p : Pl} {i : Nat} {ρ : List S} {k : Int} {b : Stn → Bool} {Q : List D → List S → Prop} (hi : ρ[i]? = some S.no) (l : List Stn) (hl : l.length ≤ 262144)
    (hk : ∀ s, atI [PyData.bool (partH p s).runs, PyData.bool (partC p s).runs] k = some (.bool (b s))) (h : Q ((l.map b).map PyData.bool) ρ) :
    lcGo (gNm i) fYes (fOp fIx (fVar i) (fC (.int k))) [i] (l.map (onD p)) [] ρ Q := by
  have hlt : i < ρ.length := (List.getElem?_eq_some_iff.mp hi).1
  refine lc_gen (α := Stn) (vs := [i]) (ρ := ρ) (enc := onD p) (ρa := fun s => ρ.set i (.d (onD p s))) (b := fun _ => true) (h := fun s => .bool (b s)) (fun s => ?_) l [] (by rw [sizeLine_eq]; simp; omega) (fun s hs K z => ?_) (fun s hs Q2 h2 => h2) (fun s hs Q2 h2 => ?_) ?_
  · exact set_no hi
  · exact ⟨by unfold settable; rw [hi]; trivial, z⟩
  · unfold onD at h2 ⊢
    simp [hlt, hk, sSeq, sRet, sRetN, sRetW, sIf, sNext, sNever, sExpr, sAsg, sNew, sNewS, sPar, sPar3, sApp, sSetIx, sDPut, sPar3W, fnD0, fnD1, fnOwn, fIxDN, fInDN, fIxZ, fInZ, fLenZ, fListZ, fGetZ, fMaxL, fMinL, fVar, fC, fRaw, fNil, fCons, fTup, fLst, fOp, fTest, fChain, fAnd, fOr, fNot, fAndV, fOrV, fNotV, fIf, fIfT, fStill, still, fnLst, gNm, gTp, gsCons, gsNil, fCall, fCallO, fCallN, fIxN, fLenN, fSl, fPart, fNoPart, fNeg, fIsi, fIsi2, fLen, fAbs, fInt, fMax2, fMin2, fTupOf, fListOf, fSorted, fLstR, fAll, fAny, fIx, fIn, fEq, fIsN, fAdd, fMul, f2I, unD, slots0, settable, ownAt, owned, lentEnd, fiLst, fiTup, fiR1, fiR2, fiZip, fiZip3, fiKeysZ, fiItemsZ, fYes, wipeS, sMix, fmNil, fmS, fmN, setM, Mx.slot, fnDc, fFz, fSlN, fLenDN, fPopN, fSum, fMaxVals, fListVals, fDictOf, fGetDN, fPopDN, fiIf, fInD, fAct, fHand]
    exact h2
  · rw [filt_all, List.nil_append]
    simpa [Function.comp_def] using h
def stL (p : Pl) (found : List (List Stn)) (known : List Stn) (s3 s4 s5 s6 s7 : S) : List S := [.d p.d, .ow (.lst (found.map (pairD p))), .ow (.dct (seenT known)), s3, s4, s5, s6, s7]
theorem d_known_3 {p : Pl} {found : List (List Stn)} {s3 s5 s6 s7 : S} {seen road : List Stn} (hr : ∀ t ∈ road, t ∉ seen) (nd : road.Nodup) (hl : seen.length + road.length ≤ 262144) (n6 : np s6) {E : DEnds} (hE : ∀ s6, np s6 → E.nx (stL p found (seen ++ road) s3 (.fz (.dct (roadT road))) s5 s6 s7)) :
    g__law_still_3 E (stL p found seen s3 (.fz (.dct (roadT road))) s5 s6 s7) := by
  unfold g__law_still_3 stL
  rw [sFor_eq]
  have e0 : (roadT road).map (·.1) = road.map Stn.d := tab_keys _ _
  simp [e0, sSeq, sRet, sRetN, sRetW, sIf, sNext, sNever, sExpr, sAsg, sNew, sNewS, sPar, sPar3, sApp, sSetIx, sDPut, sPar3W, fnD0, fnD1, fnOwn, fIxDN, fInDN, fIxZ, fInZ, fLenZ, fListZ, fGetZ, fMaxL, fMinL, fVar, fC, fRaw, fNil, fCons, fTup, fLst, fOp, fTest, fChain, fAnd, fOr, fNot, fAndV, fOrV, fNotV, fIf, fIfT, fStill, still, fnLst, gNm, gTp, gsCons, gsNil, fCall, fCallO, fCallN, fIxN, fLenN, fSl, fPart, fNoPart, fNeg, fIsi, fIsi2, fLen, fAbs, fInt, fMax2, fMin2, fTupOf, fListOf, fSorted, fLstR, fAll, fAny, fIx, fIn, fEq, fIsN, fAdd, fMul, f2I, unD, slots0, settable_iff, npd, npn, npo, npf, npr, ownAt, owned, lentEnd, fiLst, fiTup, fiR1, fiR2, fiZip, fiZip3, fiKeysZ, fiItemsZ, fYes, wipeS, sMix, fmNil, fmS, fmN, setM, Mx.slot, fnDc, fFz, fSlN, fLenDN, fPopN, fSum, fMaxVals, fListVals, fDictOf, fGetDN, fPopDN, fiIf, fInD, fAct, fHand]
  refine sForB_cnt (fun n ρ => ∃ s6, np s6 ∧ ρ = stL p found (seen ++ road.take n) s3 (.fz (.dct (roadT road))) s5 s6 s7) ⟨s6, n6, by simp [stL]⟩ ?_ ?_
  · rintro ρ ⟨s6, n6, rfl⟩
    rw [List.length_map, List.take_length]
    exact hE s6 n6
  · rintro n x hx ρ ⟨s6, n6, rfl⟩
    rw [List.getElem?_map] at hx
    obtain ⟨t, ht, rfl⟩ := Option.map_eq_some_iff.mp hx
    obtain ⟨hn, et⟩ := List.getElem?_eq_some_iff.mp ht
    have e1 : road.take (n + 1) = road.take n ++ [t] := by rw [List.take_succ, ht]; rfl
    have hm : t ∈ road := List.mem_of_getElem? ht
    have hout : t ∉ seen ++ road.take n := by
      rw [List.mem_append]
      rintro (q | q)
      · exact hr t hm q
      · obtain ⟨j, hj, ej⟩ := List.mem_iff_getElem.mp q
        rw [List.length_take] at hj
        rw [List.getElem_take, ← et] at ej
        have := (List.getElem_inj nd).mp ej
        omega
    have hlen : (seenT (seen ++ road.take n)).length < sizeLine := by
      rw [seenT_len, sizeLine_eq, List.length_append, List.length_take]
      omega
    unfold g__law_still_2 stL
    simp [n6, keyD_stn, sSeq, sRet, sRetN, sRetW, sIf, sNext, sNever, sExpr, sAsg, sNew, sNewS, sPar, sPar3, sApp, sSetIx, sDPut, sPar3W, fnD0, fnD1, fnOwn, fIxDN, fInDN, fIxZ, fInZ, fLenZ, fListZ, fGetZ, fMaxL, fMinL, fVar, fC, fRaw, fNil, fCons, fTup, fLst, fOp, fTest, fChain, fAnd, fOr, fNot, fAndV, fOrV, fNotV, fIf, fIfT, fStill, still, fnLst, gNm, gTp, gsCons, gsNil, fCall, fCallO, fCallN, fIxN, fLenN, fSl, fPart, fNoPart, fNeg, fIsi, fIsi2, fLen, fAbs, fInt, fMax2, fMin2, fTupOf, fListOf, fSorted, fLstR, fAll, fAny, fIx, fIn, fEq, fIsN, fAdd, fMul, f2I, unD, slots0, settable_iff, npd, npn, npo, npf, npr, ownAt, owned, lentEnd, fiLst, fiTup, fiR1, fiR2, fiZip, fiZip3, fiKeysZ, fiItemsZ, fYes, wipeS, sMix, fmNil, fmS, fmN, setM, Mx.slot, fnDc, fFz, fSlN, fLenDN, fPopN, fSum, fMaxVals, fListVals, fDictOf, fGetDN, fPopDN, fiIf, fInD, fAct, fHand]
    refine ⟨hlen, ?_⟩
    rw [seenT_put hout, e1, List.append_assoc]
theorem d_known_8 {p : Pl} (ok : p.ok) (h0 : 0 ∈ changesI p) {found : List (List Stn)} {seen : List Stn} {a : Stn} (ha : a ∈ standsOf p) {s5 s6 s7 : S} {E : DEnds}
    (hE : ∀ road u, roadOf p seen a = (road, u) → g__law_still_5 E (stL p found seen (.d u.d) (.ow (.dct (roadT road))) s5 s6 s7)) :
    g__law_still_8 E (stL p found seen (.d a.d) (.ow (.dct (roadT []))) s5 s6 s7) := by
  unfold g__law_still_8 sSeq
  refine ⟨fun m ρ => ∃ (road : List Stn) (u : Stn), ρ = stL p found seen (.d u.d) (.ow (.dct (roadT road))) s5 s6 s7 ∧ RoadOk p seen road a u ∧ m + road.length = 262145 ∧ roadGo p seen m road u = roadOf p seen a, ⟨262145, [], a, rfl, road0 p seen a, rfl, rfl⟩, ?_⟩
  rintro m ρ ⟨road, u, rfl, x, hm, hw⟩
  have hl := x.len ok
  obtain ⟨m, rfl⟩ : ∃ k, m = k + 1 := ⟨m - 1, by omega⟩
  have hu : u ∈ standsOf p := by rw [x.at_]; exact it_stands ok h0 _ ha
  have hf := stands_fits ok hu
  unfold roadGo at hw
  by_cases h : u ∈ seen ∨ u ∈ road
  · rw [if_pos h] at hw
    have := hE road u hw.symm
    unfold stL at this ⊢
    by_cases h1 : u ∈ seen
    · simp [keyD_stn, seenT_get, h1, sSeq, sRet, sRetN, sRetW, sIf, sNext, sNever, sExpr, sAsg, sNew, sNewS, sPar, sPar3, sApp, sSetIx, sDPut, sPar3W, fnD0, fnD1, fnOwn, fIxDN, fInDN, fIxZ, fInZ, fLenZ, fListZ, fGetZ, fMaxL, fMinL, fVar, fC, fRaw, fNil, fCons, fTup, fLst, fOp, fTest, fChain, fAnd, fOr, fNot, fAndV, fOrV, fNotV, fIf, fIfT, fStill, still, fnLst, gNm, gTp, gsCons, gsNil, fCall, fCallO, fCallN, fIxN, fLenN, fSl, fPart, fNoPart, fNeg, fIsi, fIsi2, fLen, fAbs, fInt, fMax2, fMin2, fTupOf, fListOf, fSorted, fLstR, fAll, fAny, fIx, fIn, fEq, fIsN, fAdd, fMul, f2I, unD, slots0, settable_iff, npd, npn, npo, npf, npr, ownAt, owned, lentEnd, fiLst, fiTup, fiR1, fiR2, fiZip, fiZip3, fiKeysZ, fiItemsZ, fYes, wipeS, sMix, fmNil, fmS, fmN, setM, Mx.slot, fnDc, fFz, fSlN, fLenDN, fPopN, fSum, fMaxVals, fListVals, fDictOf, fGetDN, fPopDN, fiIf, fInD, fAct, fHand]
      exact this
    · have h2 := h.resolve_left h1
      simp [keyD_stn, seenT_get, roadT_get, h1, h2, sSeq, sRet, sRetN, sRetW, sIf, sNext, sNever, sExpr, sAsg, sNew, sNewS, sPar, sPar3, sApp, sSetIx, sDPut, sPar3W, fnD0, fnD1, fnOwn, fIxDN, fInDN, fIxZ, fInZ, fLenZ, fListZ, fGetZ, fMaxL, fMinL, fVar, fC, fRaw, fNil, fCons, fTup, fLst, fOp, fTest, fChain, fAnd, fOr, fNot, fAndV, fOrV, fNotV, fIf, fIfT, fStill, still, fnLst, gNm, gTp, gsCons, gsNil, fCall, fCallO, fCallN, fIxN, fLenN, fSl, fPart, fNoPart, fNeg, fIsi, fIsi2, fLen, fAbs, fInt, fMax2, fMin2, fTupOf, fListOf, fSorted, fLstR, fAll, fAny, fIx, fIn, fEq, fIsN, fAdd, fMul, f2I, unD, slots0, settable_iff, npd, npn, npo, npf, npr, ownAt, owned, lentEnd, fiLst, fiTup, fiR1, fiR2, fiZip, fiZip3, fiKeysZ, fiItemsZ, fYes, wipeS, sMix, fmNil, fmS, fmN, setM, Mx.slot, fnDc, fFz, fSlN, fLenDN, fPopN, fSum, fMaxVals, fListVals, fDictOf, fGetDN, fPopDN, fiIf, fInD, fAct, fHand]
      exact this
  · rw [if_neg h] at hw
    rw [not_or] at h
    unfold stL
    simp [keyD_stn, seenT_get, roadT_get, h.1, h.2, sSeq, sRet, sRetN, sRetW, sIf, sNext, sNever, sExpr, sAsg, sNew, sNewS, sPar, sPar3, sApp, sSetIx, sDPut, sPar3W, fnD0, fnD1, fnOwn, fIxDN, fInDN, fIxZ, fInZ, fLenZ, fListZ, fGetZ, fMaxL, fMinL, fVar, fC, fRaw, fNil, fCons, fTup, fLst, fOp, fTest, fChain, fAnd, fOr, fNot, fAndV, fOrV, fNotV, fIf, fIfT, fStill, still, fnLst, gNm, gTp, gsCons, gsNil, fCall, fCallO, fCallN, fIxN, fLenN, fSl, fPart, fNoPart, fNeg, fIsi, fIsi2, fLen, fAbs, fInt, fMax2, fMin2, fTupOf, fListOf, fSorted, fLstR, fAll, fAny, fIx, fIn, fEq, fIsN, fAdd, fMul, f2I, unD, slots0, settable_iff, npd, npn, npo, npf, npr, ownAt, owned, lentEnd, fiLst, fiTup, fiR1, fiR2, fiZip, fiZip3, fiKeysZ, fiItemsZ, fYes, wipeS, sMix, fmNil, fmS, fmN, setM, Mx.slot, fnDc, fFz, fSlN, fLenDN, fPopN, fSum, fMaxVals, fListVals, fDictOf, fGetDN, fPopDN, fiIf, fInD, fAct, fHand]
    refine ⟨fun ρ => ρ = stL p found seen (.d (behind p u 0).d) (.ow (.dct (roadT (road ++ [u])))) s5 s6 s7, fun ρ e => ⟨m, Nat.lt_succ_self _, road ++ [u], behind p u 0, e, x.step ok h0 ha h.1 h.2, by simp; omega, hw⟩, ?_⟩
    unfold g__law_still_7
    have hlen : (roadT road).length < sizeLine := by rw [roadT_len, sizeLine_eq]; omega
    simp [keyD_stn, sSeq, sRet, sRetN, sRetW, sIf, sNext, sNever, sExpr, sAsg, sNew, sNewS, sPar, sPar3, sApp, sSetIx, sDPut, sPar3W, fnD0, fnD1, fnOwn, fIxDN, fInDN, fIxZ, fInZ, fLenZ, fListZ, fGetZ, fMaxL, fMinL, fVar, fC, fRaw, fNil, fCons, fTup, fLst, fOp, fTest, fChain, fAnd, fOr, fNot, fAndV, fOrV, fNotV, fIf, fIfT, fStill, still, fnLst, gNm, gTp, gsCons, gsNil, fCall, fCallO, fCallN, fIxN, fLenN, fSl, fPart, fNoPart, fNeg, fIsi, fIsi2, fLen, fAbs, fInt, fMax2, fMin2, fTupOf, fListOf, fSorted, fLstR, fAll, fAny, fIx, fIn, fEq, fIsN, fAdd, fMul, f2I, unD, slots0, settable_iff, npd, npn, npo, npf, npr, ownAt, owned, lentEnd, fiLst, fiTup, fiR1, fiR2, fiZip, fiZip3, fiKeysZ, fiItemsZ, fYes, wipeS, sMix, fmNil, fmS, fmN, setM, Mx.slot, fnDc, fFz, fSlN, fLenDN, fPopN, fSum, fMaxVals, fListVals, fDictOf, fGetDN, fPopDN, fiIf, fInD, fAct, fHand]
    refine ⟨hlen, ?_⟩
    unfold g__law_still_6
    rw [roadT_len, roadT_put h.2]
    simp [fn__law_after, fn_behind, planOf_d, standOf_d, ok, hf.len, sSeq, sRet, sRetN, sRetW, sIf, sNext, sNever, sExpr, sAsg, sNew, sNewS, sPar, sPar3, sApp, sSetIx, sDPut, sPar3W, fnD0, fnD1, fnOwn, fIxDN, fInDN, fIxZ, fInZ, fLenZ, fListZ, fGetZ, fMaxL, fMinL, fVar, fC, fRaw, fNil, fCons, fTup, fLst, fOp, fTest, fChain, fAnd, fOr, fNot, fAndV, fOrV, fNotV, fIf, fIfT, fStill, still, fnLst, gNm, gTp, gsCons, gsNil, fCall, fCallO, fCallN, fIxN, fLenN, fSl, fPart, fNoPart, fNeg, fIsi, fIsi2, fLen, fAbs, fInt, fMax2, fMin2, fTupOf, fListOf, fSorted, fLstR, fAll, fAny, fIx, fIn, fEq, fIsN, fAdd, fMul, f2I, unD, slots0, settable_iff, npd, npn, npo, npf, npr, ownAt, owned, lentEnd, fiLst, fiTup, fiR1, fiR2, fiZip, fiZip3, fiKeysZ, fiItemsZ, fYes, wipeS, sMix, fmNil, fmS, fmN, setM, Mx.slot, fnDc, fFz, fSlN, fLenDN, fPopN, fSum, fMaxVals, fListVals, fDictOf, fGetDN, fPopDN, fiIf, fInD, fAct, fHand]
    rfl
theorem d_known_5 {p : Pl} (ok : p.ok) {found : List (List Stn)} {seen road : List Stn} {a u : Stn} (x : RoadOk p seen road a u) (hl : seen.length + road.length ≤ 262144) (hfl : found.length < 262144) {s5 s6 s7 : S} (n5 : np s5) (n6 : np s6) (n7 : np s7) {E : DEnds}
    (hN : ∀ s4 s5 s6 s7, np s4 → np s5 → np s6 → np s7 → E.nx (stL p (found ++ if u ∈ road then [road.drop (road.idxOf u)] else []) (seen ++ road) (.d u.d) s4 s5 s6 s7)) :
    g__law_still_5 E (stL p found seen (.d u.d) (.ow (.dct (roadT road))) s5 s6 s7) := by
  have hrl := x.len ok
  have e0 : (roadT road).map (·.1) = road.map Stn.d := tab_keys _ _
  unfold g__law_still_5 stL
  by_cases hu : u ∈ road
  · rw [if_pos hu] at hN
    simp [n5, n6, e0, fnLc, keyD_stn, roadT_get, hu, sSeq, sRet, sRetN, sRetW, sIf, sNext, sNever, sExpr, sAsg, sNew, sNewS, sPar, sPar3, sApp, sSetIx, sDPut, sPar3W, fnD0, fnD1, fnOwn, fIxDN, fInDN, fIxZ, fInZ, fLenZ, fListZ, fGetZ, fMaxL, fMinL, fVar, fC, fRaw, fNil, fCons, fTup, fLst, fOp, fTest, fChain, fAnd, fOr, fNot, fAndV, fOrV, fNotV, fIf, fIfT, fStill, still, fnLst, gNm, gTp, gsCons, gsNil, fCall, fCallO, fCallN, fIxN, fLenN, fSl, fPart, fNoPart, fNeg, fIsi, fIsi2, fLen, fAbs, fInt, fMax2, fMin2, fTupOf, fListOf, fSorted, fLstR, fAll, fAny, fIx, fIn, fEq, fIsN, fAdd, fMul, f2I, unD, slots0, settable_iff, npd, npn, npo, npf, npr, ownAt, owned, lentEnd, fiLst, fiTup, fiR1, fiR2, fiZip, fiZip3, fiKeysZ, fiItemsZ, fYes, wipeS, sMix, fmNil, fmS, fmN, setM, Mx.slot, fnDc, fFz, fSlN, fLenDN, fPopN, fSum, fMaxVals, fListVals, fDictOf, fGetDN, fPopDN, fiIf, fInD, fAct, fHand]
    refine lc_stn (i := 6) (b := fun s => decide (road.idxOf u ≤ road.idxOf s)) (g := onD p) rfl road [] (by rw [sizeLine_eq]; simp; omega) (fun s hs Q2 h2 => ?_) (fun s hs Q2 h2 => ?_) ?_
    · simp [keyD_stn, roadT_get, hu, hs, sSeq, sRet, sRetN, sRetW, sIf, sNext, sNever, sExpr, sAsg, sNew, sNewS, sPar, sPar3, sApp, sSetIx, sDPut, sPar3W, fnD0, fnD1, fnOwn, fIxDN, fInDN, fIxZ, fInZ, fLenZ, fListZ, fGetZ, fMaxL, fMinL, fVar, fC, fRaw, fNil, fCons, fTup, fLst, fOp, fTest, fChain, fAnd, fOr, fNot, fAndV, fOrV, fNotV, fIf, fIfT, fStill, still, fnLst, gNm, gTp, gsCons, gsNil, fCall, fCallO, fCallN, fIxN, fLenN, fSl, fPart, fNoPart, fNeg, fIsi, fIsi2, fLen, fAbs, fInt, fMax2, fMin2, fTupOf, fListOf, fSorted, fLstR, fAll, fAny, fIx, fIn, fEq, fIsN, fAdd, fMul, f2I, unD, slots0, settable_iff, npd, npn, npo, npf, npr, ownAt, owned, lentEnd, fiLst, fiTup, fiR1, fiR2, fiZip, fiZip3, fiKeysZ, fiItemsZ, fYes, wipeS, sMix, fmNil, fmS, fmN, setM, Mx.slot, fnDc, fFz, fSlN, fLenDN, fPopN, fSum, fMaxVals, fListVals, fDictOf, fGetDN, fPopDN, fiIf, fInD, fAct, fHand]
      simpa using h2
    · simp [fn__law_on, fnPS, planOf_d, standOf_d, ok, (stands_fits ok (x.st s hs)).len, sSeq, sRet, sRetN, sRetW, sIf, sNext, sNever, sExpr, sAsg, sNew, sNewS, sPar, sPar3, sApp, sSetIx, sDPut, sPar3W, fnD0, fnD1, fnOwn, fIxDN, fInDN, fIxZ, fInZ, fLenZ, fListZ, fGetZ, fMaxL, fMinL, fVar, fC, fRaw, fNil, fCons, fTup, fLst, fOp, fTest, fChain, fAnd, fOr, fNot, fAndV, fOrV, fNotV, fIf, fIfT, fStill, still, fnLst, gNm, gTp, gsCons, gsNil, fCall, fCallO, fCallN, fIxN, fLenN, fSl, fPart, fNoPart, fNeg, fIsi, fIsi2, fLen, fAbs, fInt, fMax2, fMin2, fTupOf, fListOf, fSorted, fLstR, fAll, fAny, fIx, fIn, fEq, fIsN, fAdd, fMul, f2I, unD, slots0, settable_iff, npd, npn, npo, npf, npr, ownAt, owned, lentEnd, fiLst, fiTup, fiR1, fiR2, fiZip, fiZip3, fiKeysZ, fiItemsZ, fYes, wipeS, sMix, fmNil, fmS, fmN, setM, Mx.slot, fnDc, fFz, fSlN, fLenDN, fPopN, fSum, fMaxVals, fListVals, fDictOf, fGetDN, fPopDN, fiIf, fInD, fAct, fHand]
      exact h2
    · rw [List.nil_append, filter_ix road _ x.nd]
      have hk : (road.drop (road.idxOf u)).length ≤ 262144 := by rw [List.length_drop]; omega
      generalize road.drop (road.idxOf u) = line at *
      simp [n5, sSeq, sRet, sRetN, sRetW, sIf, sNext, sNever, sExpr, sAsg, sNew, sNewS, sPar, sPar3, sApp, sSetIx, sDPut, sPar3W, fnD0, fnD1, fnOwn, fIxDN, fInDN, fIxZ, fInZ, fLenZ, fListZ, fGetZ, fMaxL, fMinL, fVar, fC, fRaw, fNil, fCons, fTup, fLst, fOp, fTest, fChain, fAnd, fOr, fNot, fAndV, fOrV, fNotV, fIf, fIfT, fStill, still, fnLst, gNm, gTp, gsCons, gsNil, fCall, fCallO, fCallN, fIxN, fLenN, fSl, fPart, fNoPart, fNeg, fIsi, fIsi2, fLen, fAbs, fInt, fMax2, fMin2, fTupOf, fListOf, fSorted, fLstR, fAll, fAny, fIx, fIn, fEq, fIsN, fAdd, fMul, f2I, unD, slots0, settable_iff, npd, npn, npo, npf, npr, ownAt, owned, lentEnd, fiLst, fiTup, fiR1, fiR2, fiZip, fiZip3, fiKeysZ, fiItemsZ, fYes, wipeS, sMix, fmNil, fmS, fmN, setM, Mx.slot, fnDc, fFz, fSlN, fLenDN, fPopN, fSum, fMaxVals, fListVals, fDictOf, fGetDN, fPopDN, fiIf, fInD, fAct, fHand]
      unfold g__law_still_4
      simp [n7, fnLc, sSeq, sRet, sRetN, sRetW, sIf, sNext, sNever, sExpr, sAsg, sNew, sNewS, sPar, sPar3, sApp, sSetIx, sDPut, sPar3W, fnD0, fnD1, fnOwn, fIxDN, fInDN, fIxZ, fInZ, fLenZ, fListZ, fGetZ, fMaxL, fMinL, fVar, fC, fRaw, fNil, fCons, fTup, fLst, fOp, fTest, fChain, fAnd, fOr, fNot, fAndV, fOrV, fNotV, fIf, fIfT, fStill, still, fnLst, gNm, gTp, gsCons, gsNil, fCall, fCallO, fCallN, fIxN, fLenN, fSl, fPart, fNoPart, fNeg, fIsi, fIsi2, fLen, fAbs, fInt, fMax2, fMin2, fTupOf, fListOf, fSorted, fLstR, fAll, fAny, fIx, fIn, fEq, fIsN, fAdd, fMul, f2I, unD, slots0, settable_iff, npd, npn, npo, npf, npr, ownAt, owned, lentEnd, fiLst, fiTup, fiR1, fiR2, fiZip, fiZip3, fiKeysZ, fiItemsZ, fYes, wipeS, sMix, fmNil, fmS, fmN, setM, Mx.slot, fnDc, fFz, fSlN, fLenDN, fPopN, fSum, fMaxVals, fListVals, fDictOf, fGetDN, fPopDN, fiIf, fInD, fAct, fHand]
      refine lc_on (i := 7) (k := 0) (b := fun s => (partH p s).runs) rfl line hk (fun s => at0) ?_
      rw [any_true]
      have f1 : ∀ bs : List Bool, (bs.map PyData.bool).all flatD = true := fun bs => by simp [flatD]
      simp [f1, flatD, n7, fnLc, sSeq, sRet, sRetN, sRetW, sIf, sNext, sNever, sExpr, sAsg, sNew, sNewS, sPar, sPar3, sApp, sSetIx, sDPut, sPar3W, fnD0, fnD1, fnOwn, fIxDN, fInDN, fIxZ, fInZ, fLenZ, fListZ, fGetZ, fMaxL, fMinL, fVar, fC, fRaw, fNil, fCons, fTup, fLst, fOp, fTest, fChain, fAnd, fOr, fNot, fAndV, fOrV, fNotV, fIf, fIfT, fStill, still, fnLst, gNm, gTp, gsCons, gsNil, fCall, fCallO, fCallN, fIxN, fLenN, fSl, fPart, fNoPart, fNeg, fIsi, fIsi2, fLen, fAbs, fInt, fMax2, fMin2, fTupOf, fListOf, fSorted, fLstR, fAll, fAny, fIx, fIn, fEq, fIsN, fAdd, fMul, f2I, unD, slots0, settable_iff, npd, npn, npo, npf, npr, ownAt, owned, lentEnd, fiLst, fiTup, fiR1, fiR2, fiZip, fiZip3, fiKeysZ, fiItemsZ, fYes, wipeS, sMix, fmNil, fmS, fmN, setM, Mx.slot, fnDc, fFz, fSlN, fLenDN, fPopN, fSum, fMaxVals, fListVals, fDictOf, fGetDN, fPopDN, fiIf, fInD, fAct, fHand]
      refine lc_on (i := 7) (k := 1) (b := fun s => (partC p s).runs) rfl line hk (fun s => rfl) ?_
      rw [any_true]
      simp only [f1, any_map_id, true_and]
      simp [sizeLine_eq, sSeq, sRet, sRetN, sRetW, sIf, sNext, sNever, sExpr, sAsg, sNew, sNewS, sPar, sPar3, sApp, sSetIx, sDPut, sPar3W, fnD0, fnD1, fnOwn, fIxDN, fInDN, fIxZ, fInZ, fLenZ, fListZ, fGetZ, fMaxL, fMinL, fVar, fC, fRaw, fNil, fCons, fTup, fLst, fOp, fTest, fChain, fAnd, fOr, fNot, fAndV, fOrV, fNotV, fIf, fIfT, fStill, still, fnLst, gNm, gTp, gsCons, gsNil, fCall, fCallO, fCallN, fIxN, fLenN, fSl, fPart, fNoPart, fNeg, fIsi, fIsi2, fLen, fAbs, fInt, fMax2, fMin2, fTupOf, fListOf, fSorted, fLstR, fAll, fAny, fIx, fIn, fEq, fIsN, fAdd, fMul, f2I, unD, slots0, settable_iff, npd, npn, npo, npf, npr, ownAt, owned, lentEnd, fiLst, fiTup, fiR1, fiR2, fiZip, fiZip3, fiKeysZ, fiItemsZ, fYes, wipeS, sMix, fmNil, fmS, fmN, setM, Mx.slot, fnDc, fFz, fSlN, fLenDN, fPopN, fSum, fMaxVals, fListVals, fDictOf, fGetDN, fPopDN, fiIf, fInD, fAct, fHand]
      refine ⟨by omega, ?_⟩
      have ef : found.map (pairD p) ++ [PyData.tuple [PyData.bool (line.any fun s => (partH p s).runs), PyData.bool (line.any fun s => (partC p s).runs)]] = (found ++ [line]).map (pairD p) := by
        rw [List.map_append]
        rfl
      rw [ef]
      exact d_known_3 (s6 := .no) x.out x.nd hl trivial fun s6 n6 => hN _ _ _ _ trivial trivial n6 trivial
  · rw [if_neg hu, List.append_nil] at hN
    simp [n5, n6, e0, fnLc, keyD_stn, roadT_get, hu, sSeq, sRet, sRetN, sRetW, sIf, sNext, sNever, sExpr, sAsg, sNew, sNewS, sPar, sPar3, sApp, sSetIx, sDPut, sPar3W, fnD0, fnD1, fnOwn, fIxDN, fInDN, fIxZ, fInZ, fLenZ, fListZ, fGetZ, fMaxL, fMinL, fVar, fC, fRaw, fNil, fCons, fTup, fLst, fOp, fTest, fChain, fAnd, fOr, fNot, fAndV, fOrV, fNotV, fIf, fIfT, fStill, still, fnLst, gNm, gTp, gsCons, gsNil, fCall, fCallO, fCallN, fIxN, fLenN, fSl, fPart, fNoPart, fNeg, fIsi, fIsi2, fLen, fAbs, fInt, fMax2, fMin2, fTupOf, fListOf, fSorted, fLstR, fAll, fAny, fIx, fIn, fEq, fIsN, fAdd, fMul, f2I, unD, slots0, settable_iff, npd, npn, npo, npf, npr, ownAt, owned, lentEnd, fiLst, fiTup, fiR1, fiR2, fiZip, fiZip3, fiKeysZ, fiItemsZ, fYes, wipeS, sMix, fmNil, fmS, fmN, setM, Mx.slot, fnDc, fFz, fSlN, fLenDN, fPopN, fSum, fMaxVals, fListVals, fDictOf, fGetDN, fPopDN, fiIf, fInD, fAct, fHand]
    exact d_known_3 x.out x.nd hl n6 fun s6 n6 => hN _ _ _ _ trivial n5 n6 n7
theorem d__law_still (ss : List S) (Q' : S → Prop) (h : fn__law_still ss Q') : g__law_still (EF Q') (slots0 8 ss) := by
  obtain ⟨p, rfl, ok, h⟩ := h
  unfold g__law_still
  simp [sSeq, sRet, sRetN, sRetW, sIf, sNext, sNever, sExpr, sAsg, sNew, sNewS, sPar, sPar3, sApp, sSetIx, sDPut, sPar3W, fnD0, fnD1, fnOwn, fIxDN, fInDN, fIxZ, fInZ, fLenZ, fListZ, fGetZ, fMaxL, fMinL, fVar, fC, fRaw, fNil, fCons, fTup, fLst, fOp, fTest, fChain, fAnd, fOr, fNot, fAndV, fOrV, fNotV, fIf, fIfT, fStill, still, fnLst, gNm, gTp, gsCons, gsNil, fCall, fCallO, fCallN, fIxN, fLenN, fSl, fPart, fNoPart, fNeg, fIsi, fIsi2, fLen, fAbs, fInt, fMax2, fMin2, fTupOf, fListOf, fSorted, fLstR, fAll, fAny, fIx, fIn, fEq, fIsN, fAdd, fMul, f2I, unD, slots0, settable, ownAt, owned, lentEnd, fiLst, fiTup, fiR1, fiR2, fiZip, fiZip3, fiKeysZ, fiItemsZ, fYes, wipeS, sMix, fmNil, fmS, fmN, setM, Mx.slot, fnDc, fFz, fSlN, fLenDN, fPopN, fSum, fMaxVals, fListVals, fDictOf, fGetDN, fPopDN, fiIf, fInD, fAct, fHand]
  unfold g__law_still_10 sSeq
  rw [sFor_eq]
  have e0 : (kvsF (waysOf p)).map (·.1) = (standsOf p).map Stn.d := stands_keys p
  have fin : ∀ (found : List (List Stn)) (known : List Stn) (s3 s4 s5 s6 s7 : S), Q' (.d (.list (found.map (pairD p)))) → g__law_still_1 (EF Q') (stL p found known s3 s4 s5 s6 s7) := fun found known s3 s4 s5 s6 s7 z => by
    unfold g__law_still_1 stL
    simp [sSeq, sRet, sRetN, sRetW, sIf, sNext, sNever, sExpr, sAsg, sNew, sNewS, sPar, sPar3, sApp, sSetIx, sDPut, sPar3W, fnD0, fnD1, fnOwn, fIxDN, fInDN, fIxZ, fInZ, fLenZ, fListZ, fGetZ, fMaxL, fMinL, fVar, fC, fRaw, fNil, fCons, fTup, fLst, fOp, fTest, fChain, fAnd, fOr, fNot, fAndV, fOrV, fNotV, fIf, fIfT, fStill, still, fnLst, gNm, gTp, gsCons, gsNil, fCall, fCallO, fCallN, fIxN, fLenN, fSl, fPart, fNoPart, fNeg, fIsi, fIsi2, fLen, fAbs, fInt, fMax2, fMin2, fTupOf, fListOf, fSorted, fLstR, fAll, fAny, fIx, fIn, fEq, fIsN, fAdd, fMul, f2I, unD, slots0, settable_iff, npd, npn, npo, npf, npr, ownAt, owned, lentEnd, fiLst, fiTup, fiR1, fiR2, fiZip, fiZip3, fiKeysZ, fiItemsZ, fYes, wipeS, sMix, fmNil, fmS, fmN, setM, Mx.slot, fnDc, fFz, fSlN, fLenDN, fPopN, fSum, fMaxVals, fListVals, fDictOf, fGetDN, fPopDN, fiIf, fInD, fAct, fHand]
    exact z
  simp [fn__law_changes, fn__law_ways, fn_ways_by, planOf_d, ok, any_changes, flat_changes, e0, flatD, sSeq, sRet, sRetN, sRetW, sIf, sNext, sNever, sExpr, sAsg, sNew, sNewS, sPar, sPar3, sApp, sSetIx, sDPut, sPar3W, fnD0, fnD1, fnOwn, fIxDN, fInDN, fIxZ, fInZ, fLenZ, fListZ, fGetZ, fMaxL, fMinL, fVar, fC, fRaw, fNil, fCons, fTup, fLst, fOp, fTest, fChain, fAnd, fOr, fNot, fAndV, fOrV, fNotV, fIf, fIfT, fStill, still, fnLst, gNm, gTp, gsCons, gsNil, fCall, fCallO, fCallN, fIxN, fLenN, fSl, fPart, fNoPart, fNeg, fIsi, fIsi2, fLen, fAbs, fInt, fMax2, fMin2, fTupOf, fListOf, fSorted, fLstR, fAll, fAny, fIx, fIn, fEq, fIsN, fAdd, fMul, f2I, unD, slots0, settable, ownAt, owned, lentEnd, fiLst, fiTup, fiR1, fiR2, fiZip, fiZip3, fiKeysZ, fiItemsZ, fYes, wipeS, sMix, fmNil, fmS, fmN, setM, Mx.slot, fnDc, fFz, fSlN, fLenDN, fPopN, fSum, fMaxVals, fListVals, fDictOf, fGetDN, fPopDN, fiIf, fInD, fAct, fHand]
  unfold ringsOf at h
  by_cases h0 : 0 ∈ changesI p
  · rw [if_pos h0] at h ⊢
    refine sForB_go ?_
    have go : ∀ (l : List Stn) (found : List (List Stn)) (seen : List Stn) (s3 s4 s5 s6 s7 : S), (∀ s ∈ l, s ∈ standsOf p) → (∀ s ∈ seen, s ∈ standsOf p) → seen.Nodup → found.length + l.length ≤ 262144 → np s3 → np s4 → np s5 → np s6 → np s7 → Q' (.d (.list ((found ++ ringsGo p l seen).map (pairD p)))) →
        forGo (gNm 3) g__law_still_9 { nx := g__law_still_1 (EF Q'), rt := (EF Q').rt } (l.map Stn.d) (stL p found seen s3 s4 s5 s6 s7) := by
      intro l
      induction l with
      | nil =>
        intro found seen s3 s4 s5 s6 s7 _ _ _ _ _ _ _ _ _ h
        exact fin found seen s3 s4 s5 s6 s7 (by simpa [ringsGo] using h)
      | cons a l ih =>
        intro found seen s3 s4 s5 s6 s7 hl hs nd hfl n3 n4 n5 n6 n7 h
        have ha := hl a List.mem_cons_self
        rw [List.length_cons] at hfl
        rw [List.map_cons]
        unfold forGo stL
        simp [n3, n4, sSeq, sRet, sRetN, sRetW, sIf, sNext, sNever, sExpr, sAsg, sNew, sNewS, sPar, sPar3, sApp, sSetIx, sDPut, sPar3W, fnD0, fnD1, fnOwn, fIxDN, fInDN, fIxZ, fInZ, fLenZ, fListZ, fGetZ, fMaxL, fMinL, fVar, fC, fRaw, fNil, fCons, fTup, fLst, fOp, fTest, fChain, fAnd, fOr, fNot, fAndV, fOrV, fNotV, fIf, fIfT, fStill, still, fnLst, gNm, gTp, gsCons, gsNil, fCall, fCallO, fCallN, fIxN, fLenN, fSl, fPart, fNoPart, fNeg, fIsi, fIsi2, fLen, fAbs, fInt, fMax2, fMin2, fTupOf, fListOf, fSorted, fLstR, fAll, fAny, fIx, fIn, fEq, fIsN, fAdd, fMul, f2I, unD, slots0, settable_iff, npd, npn, npo, npf, npr, ownAt, owned, lentEnd, fiLst, fiTup, fiR1, fiR2, fiZip, fiZip3, fiKeysZ, fiItemsZ, fYes, wipeS, sMix, fmNil, fmS, fmN, setM, Mx.slot, fnDc, fFz, fSlN, fLenDN, fPopN, fSum, fMaxVals, fListVals, fDictOf, fGetDN, fPopDN, fiIf, fInD, fAct, fHand]
        unfold g__law_still_9
        simp [n4, sSeq, sRet, sRetN, sRetW, sIf, sNext, sNever, sExpr, sAsg, sNew, sNewS, sPar, sPar3, sApp, sSetIx, sDPut, sPar3W, fnD0, fnD1, fnOwn, fIxDN, fInDN, fIxZ, fInZ, fLenZ, fListZ, fGetZ, fMaxL, fMinL, fVar, fC, fRaw, fNil, fCons, fTup, fLst, fOp, fTest, fChain, fAnd, fOr, fNot, fAndV, fOrV, fNotV, fIf, fIfT, fStill, still, fnLst, gNm, gTp, gsCons, gsNil, fCall, fCallO, fCallN, fIxN, fLenN, fSl, fPart, fNoPart, fNeg, fIsi, fIsi2, fLen, fAbs, fInt, fMax2, fMin2, fTupOf, fListOf, fSorted, fLstR, fAll, fAny, fIx, fIn, fEq, fIsN, fAdd, fMul, f2I, unD, slots0, settable_iff, npd, npn, npo, npf, npr, ownAt, owned, lentEnd, fiLst, fiTup, fiR1, fiR2, fiZip, fiZip3, fiKeysZ, fiItemsZ, fYes, wipeS, sMix, fmNil, fmS, fmN, setM, Mx.slot, fnDc, fFz, fSlN, fLenDN, fPopN, fSum, fMaxVals, fListVals, fDictOf, fGetDN, fPopDN, fiIf, fInD, fAct, fHand]
        refine d_known_8 (s5 := s5) (s6 := s6) (s7 := s7) ok h0 ha fun road u er => ?_
        have x := roadOf_ok ok h0 ha (seen := seen)
        unfold ringsGo at h
        rw [er] at x h
        have hnd := app_nodup x nd
        have hst : ∀ s ∈ seen ++ road, s ∈ standsOf p := fun s z => (List.mem_append.mp z).elim (hs s) (x.st s)
        have hlen := Nat.le_trans (nodup_len hnd hst) (stands_len ok)
        rw [List.length_append] at hlen
        refine d_known_5 ok x hlen (by omega) n5 n6 n7 fun s4 s5 s6 s7 m4 m5 m6 m7 => ?_
        refine ih _ _ _ _ _ _ _ (fun s z => hl s (List.mem_cons_of_mem _ z)) hst hnd ?_ trivial m4 m5 m6 m7 ?_
        · show (found ++ if u ∈ road then [road.drop (road.idxOf u)] else []).length + l.length ≤ 262144
          rw [List.length_append]
          have : (if u ∈ road then [road.drop (road.idxOf u)] else []).length ≤ 1 := by split <;> simp
          omega
        · rw [List.append_assoc]
          exact h
    exact go (standsOf p) [] [] .no .no .no .no .no (fun _ z => z) (fun _ z => nomatch z) List.nodup_nil (by have := stands_len ok; simpa using this) trivial trivial trivial trivial trivial h
  · rw [if_neg h0] at h ⊢
    refine sForB_go ?_
    exact fin [] [] .no .no .no .no .no h
theorem d__law_shown (ss : List S) (Q' : S → Prop) (h : fn__law_shown ss Q') : g__law_shown (EF Q') (slots0 9 ss) := by
  obtain ⟨p, l, rfl, ok, hm, h⟩ := h
  obtain ⟨h0, t, k, rfl, ht, hs, hall, hnd⟩ := rings_ok ok hm
  obtain ⟨cs, g1, g2, g3⟩ := run_found ok hs
  have hks : k + 1 ≤ 262144 := by
    have := Nat.le_trans (nodup_len hnd hall) (stands_len ok)
    rwa [its_len] at this
  have eh : headS p (its p (k + 1) t) = t := by
    unfold headS its
    rw [List.range_succ_eq_map]
    rfl
  have es : shownD p (its p (k + 1) t) = .tuple [runD cs, zeros (k + 1)] := by
    unfold shownD runTo
    rw [eh, g1, its_len]
    rfl
  rw [es]
  have sz : SeqAt.shaped (zeros (k + 1)) = true := by
    unfold zeros
    refine shaped_low (n := 1) ?_ (by decide)
    simp [low]
    refine ⟨by omega, lowL_iff.mpr fun x hx => ?_⟩
    rw [List.eq_of_mem_replicate hx]
    rfl
  have s0 : SeqAt.shaped (.tuple []) = true := rfl
  have ez := eqv_self sz
  have en : PyData.eqv (zeros (k + 1)) (.tuple []) = false := by
    unfold zeros
    rw [List.replicate_succ]
    simp [PyData.eqv, PyData.eqvAll]
  have a1 : atI [runD cs, zeros (k + 1)] 1 = some (zeros (k + 1)) := rfl
  have e22 : (PyData.int 2).eqv (.int 2) = true := rfl
  have zl : (List.replicate (k + 1) (PyData.int 0)).length = k + 1 := by simp
  have zz : (List.replicate (List.replicate (k + 1) (PyData.int 0)).length (PyData.int 0)) = List.replicate (k + 1) (PyData.int 0) := by rw [zl]
  unfold zeros at sz ez en a1 ⊢
  generalize hz : List.replicate (k + 1) (PyData.int 0) = zs at *
  unfold g__law_shown
  simp [a1, sz, s0, ez, en, e22, zl, zz, shaped_int, isTy, okTy, sizeLine_eq, sSeq, sRet, sRetN, sRetW, sIf, sNext, sNever, sExpr, sAsg, sNew, sNewS, sPar, sPar3, sApp, sSetIx, sDPut, sPar3W, fnD0, fnD1, fnOwn, fIxDN, fInDN, fIxZ, fInZ, fLenZ, fListZ, fGetZ, fMaxL, fMinL, fVar, fC, fRaw, fNil, fCons, fTup, fLst, fOp, fTest, fChain, fAnd, fOr, fNot, fAndV, fOrV, fNotV, fIf, fIfT, fStill, still, fnLst, gNm, gTp, gsCons, gsNil, fCall, fCallO, fCallN, fIxN, fLenN, fSl, fPart, fNoPart, fNeg, fIsi, fIsi2, fLen, fAbs, fInt, fMax2, fMin2, fTupOf, fListOf, fSorted, fLstR, fAll, fAny, fIx, fIn, fEq, fIsN, fAdd, fMul, f2I, unD, slots0, settable, ownAt, owned, lentEnd, fiLst, fiTup, fiR1, fiR2, fiZip, fiZip3, fiKeysZ, fiItemsZ, fYes, wipeS, sMix, fmNil, fmS, fmN, setM, Mx.slot, fnDc, fFz, fSlN, fLenDN, fPopN, fSum, fMaxVals, fListVals, fDictOf, fGetDN, fPopDN, fiIf, fInD, fAct, fHand]
  refine ⟨by omega, ?_⟩
  have wsh := pair_shaped p (its p (k + 1) t)
  have wdef : pairD p (its p (k + 1) t) = pairD p (its p (k + 1) t) := rfl
  generalize hw : pairD p (its p (k + 1) t) = wish at *
  unfold g__law_shown_10
  simp [fn__law_first, planOf_d, ok, sSeq, sRet, sRetN, sRetW, sIf, sNext, sNever, sExpr, sAsg, sNew, sNewS, sPar, sPar3, sApp, sSetIx, sDPut, sPar3W, fnD0, fnD1, fnOwn, fIxDN, fInDN, fIxZ, fInZ, fLenZ, fListZ, fGetZ, fMaxL, fMinL, fVar, fC, fRaw, fNil, fCons, fTup, fLst, fOp, fTest, fChain, fAnd, fOr, fNot, fAndV, fOrV, fNotV, fIf, fIfT, fStill, still, fnLst, gNm, gTp, gsCons, gsNil, fCall, fCallO, fCallN, fIxN, fLenN, fSl, fPart, fNoPart, fNeg, fIsi, fIsi2, fLen, fAbs, fInt, fMax2, fMin2, fTupOf, fListOf, fSorted, fLstR, fAll, fAny, fIx, fIn, fEq, fIsN, fAdd, fMul, f2I, unD, slots0, settable, ownAt, owned, lentEnd, fiLst, fiTup, fiR1, fiR2, fiZip, fiZip3, fiKeysZ, fiItemsZ, fYes, wipeS, sMix, fmNil, fmS, fmN, setM, Mx.slot, fnDc, fFz, fSlN, fLenDN, fPopN, fSum, fMaxVals, fListVals, fDictOf, fGetDN, fPopDN, fiIf, fInD, fAct, fHand]
  unfold g__law_shown_9 sSeq
  rw [sFor_eq]
  have a0 : ∀ z : D, atI [runD cs, z] 0 = some (runD cs) := fun z => at0
  simp [a0, sSeq, sRet, sRetN, sRetW, sIf, sNext, sNever, sExpr, sAsg, sNew, sNewS, sPar, sPar3, sApp, sSetIx, sDPut, sPar3W, fnD0, fnD1, fnOwn, fIxDN, fInDN, fIxZ, fInZ, fLenZ, fListZ, fGetZ, fMaxL, fMinL, fVar, fC, fRaw, fNil, fCons, fTup, fLst, fOp, fTest, fChain, fAnd, fOr, fNot, fAndV, fOrV, fNotV, fIf, fIfT, fStill, still, fnLst, gNm, gTp, gsCons, gsNil, fCall, fCallO, fCallN, fIxN, fLenN, fSl, fPart, fNoPart, fNeg, fIsi, fIsi2, fLen, fAbs, fInt, fMax2, fMin2, fTupOf, fListOf, fSorted, fLstR, fAll, fAny, fIx, fIn, fEq, fIsN, fAdd, fMul, f2I, unD, slots0, settable, ownAt, owned, lentEnd, fiLst, fiTup, fiR1, fiR2, fiZip, fiZip3, fiKeysZ, fiItemsZ, fYes, wipeS, sMix, fmNil, fmS, fmN, setM, Mx.slot, fnDc, fFz, fSlN, fLenDN, fPopN, fSum, fMaxVals, fListVals, fDictOf, fGetDN, fPopDN, fiIf, fInD, fAct, fHand]
  rw [hz]
  refine ⟨sz, ?_⟩
  rw [if_pos ez]
  have zc : ∀ x ∈ zs, x = .int 0 := fun x hx => by rw [← hz] at hx; exact List.eq_of_mem_replicate hx
  have st : ∀ {s4 : S}, np s4 → g__law_shown_6 (EF Q') [.d p.d, .d (.tuple [runD cs, .tuple zs]), .d wish, .d t.d, s4, .no, .no, .no, .no] := fun {s4} n4 => by
    unfold g__law_shown_6
    simp [sSeq, sRet, sRetN, sRetW, sIf, sNext, sNever, sExpr, sAsg, sNew, sNewS, sPar, sPar3, sApp, sSetIx, sDPut, sPar3W, fnD0, fnD1, fnOwn, fIxDN, fInDN, fIxZ, fInZ, fLenZ, fListZ, fGetZ, fMaxL, fMinL, fVar, fC, fRaw, fNil, fCons, fTup, fLst, fOp, fTest, fChain, fAnd, fOr, fNot, fAndV, fOrV, fNotV, fIf, fIfT, fStill, still, fnLst, gNm, gTp, gsCons, gsNil, fCall, fCallO, fCallN, fIxN, fLenN, fSl, fPart, fNoPart, fNeg, fIsi, fIsi2, fLen, fAbs, fInt, fMax2, fMin2, fTupOf, fListOf, fSorted, fLstR, fAll, fAny, fIx, fIn, fEq, fIsN, fAdd, fMul, f2I, unD, slots0, settable, ownAt, owned, lentEnd, fiLst, fiTup, fiR1, fiR2, fiZip, fiZip3, fiKeysZ, fiItemsZ, fYes, wipeS, sMix, fmNil, fmS, fmN, setM, Mx.slot, fnDc, fFz, fSlN, fLenDN, fPopN, fSum, fMaxVals, fListVals, fDictOf, fGetDN, fPopDN, fiIf, fInD, fAct, fHand]
    unfold g__law_shown_5 sSeq
    rw [sFor_eq]
    simp [a1, sSeq, sRet, sRetN, sRetW, sIf, sNext, sNever, sExpr, sAsg, sNew, sNewS, sPar, sPar3, sApp, sSetIx, sDPut, sPar3W, fnD0, fnD1, fnOwn, fIxDN, fInDN, fIxZ, fInZ, fLenZ, fListZ, fGetZ, fMaxL, fMinL, fVar, fC, fRaw, fNil, fCons, fTup, fLst, fOp, fTest, fChain, fAnd, fOr, fNot, fAndV, fOrV, fNotV, fIf, fIfT, fStill, still, fnLst, gNm, gTp, gsCons, gsNil, fCall, fCallO, fCallN, fIxN, fLenN, fSl, fPart, fNoPart, fNeg, fIsi, fIsi2, fLen, fAbs, fInt, fMax2, fMin2, fTupOf, fListOf, fSorted, fLstR, fAll, fAny, fIx, fIn, fEq, fIsN, fAdd, fMul, f2I, unD, slots0, settable, ownAt, owned, lentEnd, fiLst, fiTup, fiR1, fiR2, fiZip, fiZip3, fiKeysZ, fiItemsZ, fYes, wipeS, sMix, fmNil, fmS, fmN, setM, Mx.slot, fnDc, fFz, fSlN, fLenDN, fPopN, fSum, fMaxVals, fListVals, fDictOf, fGetDN, fPopDN, fiIf, fInD, fAct, fHand]
    have fin : ∀ {s4 : S}, g__law_shown_2 (EF Q') [.d p.d, .d (.tuple [runD cs, .tuple zs]), .d wish, .d t.d, s4, .d t.d, .ow (.lst ((its p (k + 1) t).map (onD p))), .no, .no] := fun {s4} => by
      have hk : (its p (k + 1) t).length ≤ 262144 := by rw [its_len]; exact hks
      have f1 : ∀ bs : List Bool, (bs.map PyData.bool).all flatD = true := fun bs => by simp [flatD]
      have hst := shaped_stn ok (stands_fits ok hs)
      have hee := eqv_self hst
      unfold g__law_shown_2
      simp [fnLc, sSeq, sRet, sRetN, sRetW, sIf, sNext, sNever, sExpr, sAsg, sNew, sNewS, sPar, sPar3, sApp, sSetIx, sDPut, sPar3W, fnD0, fnD1, fnOwn, fIxDN, fInDN, fIxZ, fInZ, fLenZ, fListZ, fGetZ, fMaxL, fMinL, fVar, fC, fRaw, fNil, fCons, fTup, fLst, fOp, fTest, fChain, fAnd, fOr, fNot, fAndV, fOrV, fNotV, fIf, fIfT, fStill, still, fnLst, gNm, gTp, gsCons, gsNil, fCall, fCallO, fCallN, fIxN, fLenN, fSl, fPart, fNoPart, fNeg, fIsi, fIsi2, fLen, fAbs, fInt, fMax2, fMin2, fTupOf, fListOf, fSorted, fLstR, fAll, fAny, fIx, fIn, fEq, fIsN, fAdd, fMul, f2I, unD, slots0, settable_iff, npd, npn, npo, npf, npr, ownAt, owned, lentEnd, fiLst, fiTup, fiR1, fiR2, fiZip, fiZip3, fiKeysZ, fiItemsZ, fYes, wipeS, sMix, fmNil, fmS, fmN, setM, Mx.slot, fnDc, fFz, fSlN, fLenDN, fPopN, fSum, fMaxVals, fListVals, fDictOf, fGetDN, fPopDN, fiIf, fInD, fAct, fHand]
      refine lc_on (i := 8) (k := 0) (b := fun s => (partH p s).runs) rfl _ hk (fun s => at0) ?_
      rw [any_true]
      simp [f1, flatD, fnLc, sSeq, sRet, sRetN, sRetW, sIf, sNext, sNever, sExpr, sAsg, sNew, sNewS, sPar, sPar3, sApp, sSetIx, sDPut, sPar3W, fnD0, fnD1, fnOwn, fIxDN, fInDN, fIxZ, fInZ, fLenZ, fListZ, fGetZ, fMaxL, fMinL, fVar, fC, fRaw, fNil, fCons, fTup, fLst, fOp, fTest, fChain, fAnd, fOr, fNot, fAndV, fOrV, fNotV, fIf, fIfT, fStill, still, fnLst, gNm, gTp, gsCons, gsNil, fCall, fCallO, fCallN, fIxN, fLenN, fSl, fPart, fNoPart, fNeg, fIsi, fIsi2, fLen, fAbs, fInt, fMax2, fMin2, fTupOf, fListOf, fSorted, fLstR, fAll, fAny, fIx, fIn, fEq, fIsN, fAdd, fMul, f2I, unD, slots0, settable_iff, npd, npn, npo, npf, npr, ownAt, owned, lentEnd, fiLst, fiTup, fiR1, fiR2, fiZip, fiZip3, fiKeysZ, fiItemsZ, fYes, wipeS, sMix, fmNil, fmS, fmN, setM, Mx.slot, fnDc, fFz, fSlN, fLenDN, fPopN, fSum, fMaxVals, fListVals, fDictOf, fGetDN, fPopDN, fiIf, fInD, fAct, fHand]
      refine lc_on (i := 8) (k := 1) (b := fun s => (partC p s).runs) rfl _ hk (fun s => rfl) ?_
      rw [any_true]
      simp only [f1, any_map_id, true_and]
      unfold g__law_shown_1
      unfold pairD anyH anyC at hw
      have wee := eqv_self wsh
      simp [sizeLine_eq, hst, hee, hw, wsh, wee, sSeq, sRet, sRetN, sRetW, sIf, sNext, sNever, sExpr, sAsg, sNew, sNewS, sPar, sPar3, sApp, sSetIx, sDPut, sPar3W, fnD0, fnD1, fnOwn, fIxDN, fInDN, fIxZ, fInZ, fLenZ, fListZ, fGetZ, fMaxL, fMinL, fVar, fC, fRaw, fNil, fCons, fTup, fLst, fOp, fTest, fChain, fAnd, fOr, fNot, fAndV, fOrV, fNotV, fIf, fIfT, fStill, still, fnLst, gNm, gTp, gsCons, gsNil, fCall, fCallO, fCallN, fIxN, fLenN, fSl, fPart, fNoPart, fNeg, fIsi, fIsi2, fLen, fAbs, fInt, fMax2, fMin2, fTupOf, fListOf, fSorted, fLstR, fAll, fAny, fIx, fIn, fEq, fIsN, fAdd, fMul, f2I, unD, slots0, settable_iff, npd, npn, npo, npf, npr, ownAt, owned, lentEnd, fiLst, fiTup, fiR1, fiR2, fiZip, fiZip3, fiKeysZ, fiItemsZ, fYes, wipeS, sMix, fmNil, fmS, fmN, setM, Mx.slot, fnDc, fFz, fSlN, fLenDN, fPopN, fSum, fMaxVals, fListVals, fDictOf, fGetDN, fPopDN, fiIf, fInD, fAct, fHand]
      exact h
    refine sForB_cnt (fun n ρ => ∃ s4, np s4 ∧ ρ = [.d p.d, .d (.tuple [runD cs, .tuple zs]), .d wish, .d (it p n t).d, s4, .d t.d, .ow (.lst ((its p n t).map (onD p))), .no, .no]) ⟨s4, n4, rfl⟩ ?_ ?_
    · rintro ρ ⟨s4, n4, rfl⟩
      rw [zl, ht]
      exact fin
    · rintro n x hx ρ ⟨s4, n4, rfl⟩
      obtain rfl := zc x (List.mem_of_getElem? hx)
      have hn : n < k + 1 := by rw [← zl]; exact (List.getElem?_eq_some_iff.mp hx).1
      have hf : (it p n t).fits p := stands_fits ok (it_stands ok h0 n hs)
      have hl := its_len p n t
      unfold g__law_shown_4
      simp [n4, hl, fn__law_on, fnPS, planOf_d, standOf_d, ok, hf.len, sizeLine_eq, sSeq, sRet, sRetN, sRetW, sIf, sNext, sNever, sExpr, sAsg, sNew, sNewS, sPar, sPar3, sApp, sSetIx, sDPut, sPar3W, fnD0, fnD1, fnOwn, fIxDN, fInDN, fIxZ, fInZ, fLenZ, fListZ, fGetZ, fMaxL, fMinL, fVar, fC, fRaw, fNil, fCons, fTup, fLst, fOp, fTest, fChain, fAnd, fOr, fNot, fAndV, fOrV, fNotV, fIf, fIfT, fStill, still, fnLst, gNm, gTp, gsCons, gsNil, fCall, fCallO, fCallN, fIxN, fLenN, fSl, fPart, fNoPart, fNeg, fIsi, fIsi2, fLen, fAbs, fInt, fMax2, fMin2, fTupOf, fListOf, fSorted, fLstR, fAll, fAny, fIx, fIn, fEq, fIsN, fAdd, fMul, f2I, unD, slots0, settable_iff, npd, npn, npo, npf, npr, ownAt, owned, lentEnd, fiLst, fiTup, fiR1, fiR2, fiZip, fiZip3, fiKeysZ, fiItemsZ, fYes, wipeS, sMix, fmNil, fmS, fmN, setM, Mx.slot, fnDc, fFz, fSlN, fLenDN, fPopN, fSum, fMaxVals, fListVals, fDictOf, fGetDN, fPopDN, fiIf, fInD, fAct, fHand]
      refine ⟨by omega, ?_⟩
      unfold g__law_shown_3
      simp [fn__law_after, fn_behind, planOf_d, standOf_d, ok, hf.len, sSeq, sRet, sRetN, sRetW, sIf, sNext, sNever, sExpr, sAsg, sNew, sNewS, sPar, sPar3, sApp, sSetIx, sDPut, sPar3W, fnD0, fnD1, fnOwn, fIxDN, fInDN, fIxZ, fInZ, fLenZ, fListZ, fGetZ, fMaxL, fMinL, fVar, fC, fRaw, fNil, fCons, fTup, fLst, fOp, fTest, fChain, fAnd, fOr, fNot, fAndV, fOrV, fNotV, fIf, fIfT, fStill, still, fnLst, gNm, gTp, gsCons, gsNil, fCall, fCallO, fCallN, fIxN, fLenN, fSl, fPart, fNoPart, fNeg, fIsi, fIsi2, fLen, fAbs, fInt, fMax2, fMin2, fTupOf, fListOf, fSorted, fLstR, fAll, fAny, fIx, fIn, fEq, fIsN, fAdd, fMul, f2I, unD, slots0, settable_iff, npd, npn, npo, npf, npr, ownAt, owned, lentEnd, fiLst, fiTup, fiR1, fiR2, fiZip, fiZip3, fiKeysZ, fiItemsZ, fYes, wipeS, sMix, fmNil, fmS, fmN, setM, Mx.slot, fnDc, fFz, fSlN, fLenDN, fPopN, fSum, fMaxVals, fListVals, fDictOf, fGetDN, fPopDN, fiIf, fInD, fAct, fHand]
      rw [it_next, its_snoc, List.map_append]
      exact ⟨.d (.int 0), trivial, rfl, rfl, rfl⟩
  refine sForB_cnt (fun n ρ => ∃ s4, np s4 ∧ ρ = [.d p.d, .d (.tuple [runD cs, .tuple zs]), .d wish, .d (ledTo p (firstStand p) (cs.take n)).d, s4, .no, .no, .no, .no]) ⟨.no, trivial, rfl⟩ ?_ ?_
  · rintro ρ ⟨s4, n4, rfl⟩
    rw [List.length_map, List.take_length, ← g2]
    exact st n4
  · rintro n x hx ρ ⟨s4, n4, rfl⟩
    rw [List.getElem?_map] at hx
    obtain ⟨c, hc, rfl⟩ := Option.map_eq_some_iff.mp hx
    have hmc : c ∈ changesI p := g3 c (List.mem_of_getElem? hc)
    have hf : (ledTo p (firstStand p) (cs.take n)).fits p := stands_fits ok (led_stands ok _ fun d hd => g3 d (List.mem_of_mem_take hd))
    have e1 : cs.take (n + 1) = cs.take n ++ [c] := by rw [List.take_succ, hc]; rfl
    have any_c : ((changes p).any fun y => y.eqv (.int c)) = true := by
      rw [changes_eq, List.any_map, List.any_eq_true]
      exact ⟨c, hmc, by simp [PyData.eqv]⟩
    unfold g__law_shown_8
    simp [n4, fn__law_changes, planOf_d, ok, any_c, flat_changes, flatD, sSeq, sRet, sRetN, sRetW, sIf, sNext, sNever, sExpr, sAsg, sNew, sNewS, sPar, sPar3, sApp, sSetIx, sDPut, sPar3W, fnD0, fnD1, fnOwn, fIxDN, fInDN, fIxZ, fInZ, fLenZ, fListZ, fGetZ, fMaxL, fMinL, fVar, fC, fRaw, fNil, fCons, fTup, fLst, fOp, fTest, fChain, fAnd, fOr, fNot, fAndV, fOrV, fNotV, fIf, fIfT, fStill, still, fnLst, gNm, gTp, gsCons, gsNil, fCall, fCallO, fCallN, fIxN, fLenN, fSl, fPart, fNoPart, fNeg, fIsi, fIsi2, fLen, fAbs, fInt, fMax2, fMin2, fTupOf, fListOf, fSorted, fLstR, fAll, fAny, fIx, fIn, fEq, fIsN, fAdd, fMul, f2I, unD, slots0, settable_iff, npd, npn, npo, npf, npr, ownAt, owned, lentEnd, fiLst, fiTup, fiR1, fiR2, fiZip, fiZip3, fiKeysZ, fiItemsZ, fYes, wipeS, sMix, fmNil, fmS, fmN, setM, Mx.slot, fnDc, fFz, fSlN, fLenDN, fPopN, fSum, fMaxVals, fListVals, fDictOf, fGetDN, fPopDN, fiIf, fInD, fAct, fHand]
    unfold g__law_shown_7
    simp [fn__law_after, fn_behind, planOf_d, standOf_d, ok, hf.len, sSeq, sRet, sRetN, sRetW, sIf, sNext, sNever, sExpr, sAsg, sNew, sNewS, sPar, sPar3, sApp, sSetIx, sDPut, sPar3W, fnD0, fnD1, fnOwn, fIxDN, fInDN, fIxZ, fInZ, fLenZ, fListZ, fGetZ, fMaxL, fMinL, fVar, fC, fRaw, fNil, fCons, fTup, fLst, fOp, fTest, fChain, fAnd, fOr, fNot, fAndV, fOrV, fNotV, fIf, fIfT, fStill, still, fnLst, gNm, gTp, gsCons, gsNil, fCall, fCallO, fCallN, fIxN, fLenN, fSl, fPart, fNoPart, fNeg, fIsi, fIsi2, fLen, fAbs, fInt, fMax2, fMin2, fTupOf, fListOf, fSorted, fLstR, fAll, fAny, fIx, fIn, fEq, fIsN, fAdd, fMul, f2I, unD, slots0, settable_iff, npd, npn, npo, npf, npr, ownAt, owned, lentEnd, fiLst, fiTup, fiR1, fiR2, fiZip, fiZip3, fiKeysZ, fiItemsZ, fYes, wipeS, sMix, fmNil, fmS, fmN, setM, Mx.slot, fnDc, fFz, fSlN, fLenDN, fPopN, fSum, fMaxVals, fListVals, fDictOf, fGetDN, fPopDN, fiIf, fInD, fAct, fHand]
    rw [e1, ledTo_snoc]

end Aq
/-! A21: the makers of lambdas, from the head. -/
namespace Aq
open PySem PySem.Spec PyProof.Rows L2
theorem code_known {K : PySem.W.Frag} {p : He.Defn} {x q : Str} {st : Stmt} {fd : FuncData} (F : Fun K x q st (He.fAd K p) fd) : fd.code = .ref (He.codeOf K p) := by
  obtain ⟨oc, od, kV, doc, pm, an, cdv, ct, osl, rfl, lk, hcd⟩ := F.ex
  obtain ⟨c, rfl⟩ := He.codeIn_ref hcd
  exact congrArg Value.ref (He.codeOf_eq lk rfl).symm
section
variable {P : Program} {w : World} {K : PySem.W.Frag} {mg : Str → Option Value} [Tb mg] {base : Heap} {N : List Str} {q : Str} {sc : Scope} {fa : Addr} {A : Around} {outer : List Env} {s : Shared} {H : Hp} {E : XK}
/-- a maker's body: all that is known of it stands in M -/
theorem handAt {k i n m : Nat} {x a : Str} {g : Addr} {fd fd0 : FuncData} {st : Stmt} {Ng ps lps : List Str} {gg : Lm → FS} {gf : Lm → Fn} {params : Arguments} {body : Expr} {scope : Scope} {fb : FE} (M : MkT mg base fd0 q)
    (F : Fun K x x st g fd) (S : FnScope Ng ps (defScope st)) (b : Binds K fd ps []) (gl : mg x = some (.ref g)) (B : HandBody P w K mg base (k + 1) x st g Ng i a gg)
    (d : ∀ L ss Q', ss.length + 1 = ps.length → gf L (ss ++ [.fn L.f L.B]) Q' → gg L { nx := fun _ => Q' (.d .none), rt := fun r _ => Q' r } (slots0 Ng.length (ss ++ [.fn L.f L.B])))
    (r : Room (k + 2) ((cxOf CX0 P w K mg base N q sc fa (.ref M.c) A outer s H E).nox).A)
    (bod : ∀ (A' : Around) (outer' : List Env) (s' : Shared) (H' : Hp) (E' : XK) (f c' : Addr), Room k (A'.deeper (LamX.lamEnv ((cxOf CX0 P w K mg base N q sc fa (.ref M.c) A outer s H E).nox) scope s'.heap.objs.size f c')) → DE (lamAx ((cxOf CX0 P w K mg base N q sc fa (.ref M.c) A outer s H E).nox) lps A' outer' s' H' E' scope f c') body fb)
    (Ni : Ng[i]? = some a) (va : Vis (defScope st) a) (L : LamA sc scope lps N) (dflt : defaultsOf params ((cxOf CX0 P w K mg base N q sc fa (.ref M.c) A outer s H E).nox).env = ([], []))
    (bind : ∀ (q : Str) (cl : List (Str × Addr)) (pm cv ctv : Value) (us : List Value), us.length = lps.length → bindArgs (PySem.W.kla_fn "<lambda>" q params body scope cl pm cv ctv) ⟨us, []⟩ = pure (lps.zip us))
    (n_ : lps.length = n) (mm : m = N.length) (db : (a == ("__debug__" : Str)) = false) (cd : (a == ("__classdict__" : Str)) = false) :
    HandAt ((cxOf CX0 P w K mg base N q sc fa (.ref M.c) A outer s H E).nox) k i n m x a M.c M.Pt g fd st Ng ps lps gg gf params body scope fb :=
  ⟨F, S, b, gl, B, d, M.tb, rfl, M.mem, M.uniq, r, bod, Ni, va, L, dflt, bind, n_, mm, db, cd⟩
end
def qn (p : He.Defn) : Str := (p.1 ++ ".<locals>.") ++ "<lambda>"
def tl (K : PySem.W.Frag) (tf : List He.Defn) : List (Addr × Str) := tf.map fun p => ((He.cT K p).2, qn p)
def exT (tf : List He.Defn) (K : PySem.W.Frag) : Bool := decide ((tf.map fun p => (He.cT K p).2).Nodup)
theorem nodup_map_inj {α β : Type} {f : α → β} : ∀ {l : List α} {a b : α}, (l.map f).Nodup → a ∈ l → b ∈ l → f a = f b → a = b
  | [], _, _, _, h, _, _ => nomatch h
  | x :: xs, a, b, hn, ha, hb, e => by
    rw [List.map_cons, List.nodup_cons] at hn
    rcases List.mem_cons.mp ha with rfl | ha' <;> rcases List.mem_cons.mp hb with rfl | hb'
    · rfl
    · exact absurd (List.mem_map.mpr ⟨b, hb', e.symm⟩) hn.1
    · exact absurd (List.mem_map.mpr ⟨a, ha', e⟩) hn.1
    · exact nodup_map_inj hn.2 ha' hb' e
def mkT_of {K : PySem.W.Frag} {mg : Str → Option Value} [Tb mg] {base : Heap} {p : He.Defn} {x q : Str} {st : Stmt} {fd : FuncData} {tf : List He.Defn} (F : Fun K x q st (He.fAd K p) fd) (hq : q = p.1) (hp : p ∈ tf) (hT : Tb.l mg = tl K tf) (hx : exT tf K = true)
    (tb : ∀ z ∈ tf.map (He.cT K), LamX.TabB base mg z.1 z.2) : MkT mg base fd q where
  c := He.codeOf K p
  Pt := (He.cT K p).2
  tb := tb _ (List.mem_map.mpr ⟨p, hp, rfl⟩)
  code := code_known F
  mem := by
    rw [hT, hq]
    exact List.mem_map.mpr ⟨p, hp, rfl⟩
  uniq := by
    intro t ht e
    rw [hT] at ht
    obtain ⟨p', hp', rfl⟩ := List.mem_map.mp ht
    have hn : (tf.map fun p => (He.cT K p).2).Nodup := of_decide_eq_true hx
    have := nodup_map_inj hn hp' hp e
    rw [this, hq]
    rfl
end Aq
/-! A22: a dict of one's own, borrowed by an expression as one that stands still. -/
namespace Aq
open PySem PySem.Spec PyProof.Rows L2
def cutF (F : Hp) (d : Addr) : Hp := fun b => if b = d then none else F b
theorem cutF_ne {F : Hp} {d b : Addr} (h : b ≠ d) : cutF F d b = F b := if_neg h
theorem cutF_at {F : Hp} {d : Addr} : cutF F d d = none := if_pos rfl
theorem cutF_sub {F H : Hp} {d : Addr} (h : Same F H) : Same (cutF F d) H := fun b o e => by
  unfold cutF at e
  split at e
  · cases e
  · exact h b o e
theorem cutF_up {F F' : Hp} {d : Addr} (h : Same F F') (n : F d = none) : Same F (cutF F' d) := fun b o e => by
  rw [cutF_ne (ne_of_none e n)]
  exact h b o e
theorem cutF_some {F : Hp} {d b : Addr} {o : HO} (h : cutF F d b = some o) : b ≠ d ∧ F b = some o := by
  unfold cutF at h
  split at h
  · cases h
  · rename_i n
    exact ⟨n, h⟩
theorem exO_lst {F : Hp} {d : Addr} {ob : Obj} (h : F d = some (exO d ob)) {a : Addr} {xs : List V} (r : Rd F a (.lst xs)) : Rd (cutF F d) a (.lst xs) := by
  rcases r with r | ⟨o, r⟩
  · refine .inl ?_
    rw [cutF_ne fun e => by rw [e, h] at r; unfold exO at r; cases r]
    exact r
  · refine .inr ⟨o, ?_⟩
    rw [cutF_ne fun e => by rw [e, h] at r; unfold exO at r; cases r]
    exact r
theorem exO_tup {F : Hp} {d : Addr} {ob : Obj} (h : F d = some (exO d ob)) {a : Addr} {xs : List V} (r : Rd F a (.tup xs)) : Rd (cutF F d) a (.tup xs) := by
  rcases r with r | ⟨o, r⟩
  · refine .inl ?_
    rw [cutF_ne fun e => by rw [e, h] at r; unfold exO at r; cases r]
    exact r
  · refine .inr ⟨o, ?_⟩
    rw [cutF_ne fun e => by rw [e, h] at r; unfold exO at r; cases r]
    exact r
mutual
theorem Dp.cut {K : PySem.W.Frag} {F : Hp} {d : Addr} {ob : Obj} (h : F d = some (exO d ob)) : ∀ (x : D) (v : V), Dp K F v x → Dp K (cutF F d) v x
  | .none, _, z => by cases z; exact .non
  | .bool _, _, z => by cases z; exact .bl _
  | .int _, _, z => by cases z; exact .int _
  | .str _, _, z => by cases z; exact .str _
  | .list ds, _, z => by
    cases z with
    | lst hs ha => exact .lst (hs.elim (fun q => .inl (exO_lst h q)) .inr) (DpAll.cut h ds _ ha)
  | .tuple ds, _, z => by
    cases z with
    | tup hs ha => exact .tup (hs.elim (fun q => .inl (exO_tup h q)) .inr) (DpAll.cut h ds _ ha)
  | .dict _, _, z => by cases z
theorem DpAll.cut {K : PySem.W.Frag} {F : Hp} {d : Addr} {ob : Obj} (h : F d = some (exO d ob)) : ∀ (xs : List D) (vs : List V), DpAll K F vs xs → DpAll K (cutF F d) vs xs
  | [], _, z => by cases z; exact .nil
  | x :: xs, _, z => by
    cases z with
    | cons z1 z2 => exact .cons (Dp.cut h x _ z1) (DpAll.cut h xs _ z2)
end
theorem RepO.cut {W : Wd} {F : Hp} {d : Addr} {ob : Obj} (h : F d = some (exO d ob)) {a : Addr} {o : Ow} {ho : HO} (r : RepO W F a o ho) : RepO W (cutF F d) a o ho := by
  cases o with
  | lst ds => obtain ⟨vs, h1, h2⟩ := r; exact ⟨vs, h1, DpAll.cut h _ _ h2⟩
  | dct kvs => obtain ⟨ob, xs, h1, h2, h3, h4, h5⟩ := r; exact ⟨ob, xs, h1, h2, h3, Paired.mapP h4 fun _ _ z => let ⟨z1, z2, v, z3, z4⟩ := z; ⟨z1, Dp.cut h _ _ z2, v, z3, Dp.cut h _ _ z4⟩, h5⟩
  | dcr kvs => obtain ⟨ob, xs, h1, h2, h3, h4, h5⟩ := r; exact ⟨ob, xs, h1, h2, h3, Paired.mapP h4 fun _ _ z => let ⟨z1, z2, z3⟩ := z; ⟨z1, Dp.cut h _ _ z2, z3⟩, h5⟩
  | ins C dx fs =>
    obtain ⟨fvs, h1, h2⟩ := r
    refine ⟨fvs, h1, Paired.mapP h2 fun p q z => ?_⟩
    obtain ⟨n, f⟩ := p
    cases f with
    | d x => exact ⟨z.1, Dp.cut h _ _ z.2⟩
    | r a => exact z
theorem codeO_exO {d : Addr} {ob : Obj} {q : Str} {es : Array DictEntry} {ep : Nat} (hd : ob.data = .dict es ep) : exO d ob ≠ LamX.CodeO d q := fun e => by
  unfold exO LamX.CodeO at e
  have e1 := HO.ext.inj e
  have h : ({ objs := Array.replicate (d + 1) ob } : Heap).get? d = some ob := by
    obtain ⟨oc, od, dt, osl⟩ := ob
    have hd' : dt = .dict es ep := hd
    subst hd'
    unfold Heap.get?
    simp
  have h2 := congrFun e1 { objs := Array.replicate (d + 1) ob }
  have h3 : ∃ (oc : Obj) (vs : Array Value) (t : Tok), ({ objs := Array.replicate (d + 1) ob } : Heap).get? d = some oc ∧ oc.data = .fields vs ∧ vs[1]? = some (.str q t) := by rw [← h2]; exact h
  obtain ⟨oc, vs, t, z1, z2, _⟩ := h3
  rw [h] at z1
  cases z1
  rw [hd] at z2
  cases z2
/-- it is one's own again -/
theorem Rep.thaw {W : Wd} {G G' : Fx} {F F' H H' : Hp} {ρ : List S} {σ : L2.St} {i : Nat} {kvs : List (D × D)} (R : Rep W G F ρ σ H) (hi : ρ[i]? = some (S.ow (.dct kvs))) (k : Same F F') (R' : Rep W G' F' (ρ.set i (.fz (.dct kvs))) σ H')
    (e0 : G'.H0 = G.H0) (e1 : G'.F0 = G.F0) (e2 : G'.ow = G.ow) (e3 : G'.lt = G.lt) : ∃ d ob, σ[i]? = some (some (.ref d)) ∧ F' d = some (exO d ob) ∧ Same F (cutF F' d) ∧ Rep W G' (cutF F' d) ρ σ H' := by
  have hil := R.lt hi (by intro _ z; cases z)
  obtain ⟨d, hd, s1, s2, s3, s4, s5⟩ := R.slot i _ hil hi
  obtain ⟨v, t1, d', ho', t2, t3, t4⟩ := R'.slot i (.fz (.dct kvs)) hil (List.getElem?_set_self (List.getElem?_eq_some_iff.mp hi).1)
  rw [s1] at t1
  cases t1
  cases t2
  obtain ⟨ob, xs, rfl, t5, t6, t7, t8⟩ := t4
  have hdF : F d = none := s2
  have up : Same F (cutF F' d) := cutF_up k hdF
  have nown : ∀ {j : Nat} {s : S} {a : Addr}, j ≠ i → ρ[j]? = some s → (ρ.set i (.fz (.dct kvs)))[j]? = some s := fun {j s a} n e => by rw [List.getElem?_set_ne (Ne.symm n)]; exact e
  have hHp : hpOf (ρ.set i (.fz (.dct kvs))) σ.length = hpOf ρ σ.length := hpOf_set (by omega)
  have ap : ∀ {a : Addr} {j : Nat} {s : S}, F' a = none → (∀ (i' : Nat) (s : S), (ρ.set i (.fz (.dct kvs)))[i']? = some s → s.own = true → σ[i']? ≠ some (some (.ref a))) → ρ[j]? = some s → s.own = true → σ[j]? ≠ some (some (.ref a)) := fun {a j s} n h e o => by
    by_cases q : j = i
    · rw [q, s1]
      intro z
      cases z
      rw [t3] at n
      cases n
    · exact h j s (by rw [List.getElem?_set_ne (Ne.symm q)]; exact e) o
  refine ⟨d, ob, s1, t3, up, cutF_sub R'.sub, ?_, ?_, ?_, R.len, fun j s hl e => ?_, R.top, R.sep, ?_, fun a o hm => ?_, fun a o hm => ?_, ?_, ?_, fun t ht => ?_⟩
  · rw [e1]
    exact R.up.trans up
  · exact R'.keep
  · exact fun b o e => R'.new b o (cutF_some e).2
  · by_cases q : j = i
    · subst q
      rw [hi] at e
      cases e
      refine ⟨d, exO d ob, s1, cutF_at, by rw [e0]; exact s3, R'.sub _ _ t3, ob, xs, rfl, t5, t6, ?_, t8⟩
      exact Paired.mapP t7 fun _ _ z => let ⟨z1, z2, v, z3, z4⟩ := z; ⟨z1, Dp.cut t3 _ _ z2, v, z3, Dp.cut t3 _ _ z4⟩
    · have e' : (ρ.set i (.fz (.dct kvs)))[j]? = some s := by rw [List.getElem?_set_ne (Ne.symm q)]; exact e
      have z := R.slot j s hl e
      have z' := R'.slot j s hl e'
      cases s with
      | no => trivial
      | d x => obtain ⟨v, a1, a2⟩ := z; exact ⟨v, a1, a2.mono up⟩
      | fz x => obtain ⟨v, a1, a2⟩ := z; exact ⟨v, a1, a2.mono up⟩
      | raw x => obtain ⟨v, a1, a2⟩ := z; exact ⟨v, a1, a2.mono up⟩
      | fn f B => obtain ⟨v, a1, a2⟩ := z; exact ⟨v, a1, a2.mono up⟩
      | hp _ => exact z
      | ow o =>
        obtain ⟨a, ho, a1, a2, a3, a4, a5⟩ := z'
        have ne : a ≠ d := fun e => by rw [e, t3] at a2; cases a2
        exact ⟨a, ho, a1, by rw [cutF_ne ne]; exact a2, a3, a4, a5.cut t3⟩
      | pa o =>
        obtain ⟨a, ho, a1, a2, a3, a4, a5⟩ := z'
        have ne : a ≠ d := fun e => by rw [e, t3] at a3; cases a3
        exact ⟨a, ho, a1, a2, by rw [cutF_ne ne]; exact a3, a4, a5.cut t3⟩
  · rw [e2]
    exact R.par
  · obtain ⟨a1, a2, ⟨ho, a3, a4⟩, a5⟩ := R'.stk a o hm
    have ne : a ≠ d := fun e => by rw [e, t3] at a1; cases a1
    exact ⟨by rw [cutF_ne ne]; exact a1, a2, ⟨ho, a3, a4.cut t3⟩, fun j s e o => ap a1 a5 e o⟩
  · rw [← hHp] at hm
    obtain ⟨a1, a2, ⟨ho, a3, a4⟩, a5⟩ := R'.shr a o hm
    have ne : a ≠ d := fun e => by rw [e, t3] at a1; cases a1
    exact ⟨by rw [cutF_ne ne]; exact a1, a2, ⟨ho, a3, a4.cut t3⟩, fun j s e o => ap a1 a5 e o⟩
  · rw [← hHp]
    exact R'.std
  · rw [← hHp]
    exact R'.lnt
  · obtain ⟨a1, ps, a2, a3, a4⟩ := R'.tabs t ht
    have ne : t.1 ≠ d := fun e => by rw [e, t3] at a1; cases a1
    refine ⟨by rw [cutF_ne ne]; exact a1, ps, a2, a3, fun pos cv hc => ?_⟩
    obtain ⟨c, b1, b2⟩ := a4 pos cv hc
    refine ⟨c, b1, ?_⟩
    obtain ⟨es, ep, c1, c2, _⟩ := t6
    rw [cutF_ne fun e => by
      rw [e, t3] at b2
      exact codeO_exO c2 (Option.some.inj b2)]
    exact b2
/-! ### by data -/
def fBor (i : Nat) (f : FE) : FE := fun ρ Q => match ρ[i]? with
  | some (.ow (.dct kvs)) => f (ρ.set i (.fz (.dct kvs))) fun r ρ1 => ρ1 = ρ.set i (.fz (.dct kvs)) ∧ match r with
    | .d _ => Q r ρ
    | _ => False
  | _ => False
def fBorT (i : Nat) (f : FT) : FT := fun ρ Q => match ρ[i]? with
  | some (.ow (.dct kvs)) => f (ρ.set i (.fz (.dct kvs))) fun r ρ1 => ρ1 = ρ.set i (.fz (.dct kvs)) ∧ Q r ρ
  | _ => False
def fBorN (i : Nat) (f : FN) : FN := fun ρ Q => match ρ[i]? with
  | some (.ow (.dct kvs)) => f (ρ.set i (.fz (.dct kvs))) fun r ρ1 => ρ1 = ρ.set i (.fz (.dct kvs)) ∧ Q r ρ
  | _ => False
theorem Rep.frz {W : Wd} {G : Fx} {F H : Hp} {ρ : List S} {σ : L2.St} {i : Nat} {kvs : List (D × D)} (R : Rep W G F ρ σ H) (hi : ρ[i]? = some (S.ow (.dct kvs))) : ∃ F', Same F F' ∧ Rep W G F' (ρ.set i (.fz (.dct kvs))) σ H := by
  obtain ⟨a, _, ha, _⟩ := R.slot i _ (R.lt hi (by intro _ z; cases z)) hi
  obtain ⟨F', k, R', _⟩ := R.freeze hi ha
  exact ⟨F', k, R'⟩
section
variable {X : Cx} [Tb X.mg] {e : Expr}
theorem de_bor (i : Nat) {f : FE} (h : DE X e f) : DE X e (fBor i f) := by
  obtain ⟨t, p, s⟩ := h.ex
  refine .of p fun G F ρ σ H Q Q' R hf hq => ?_
  unfold fBor at hf
  split at hf
  · rename_i kvs hi
    obtain ⟨F1, k1, R1⟩ := R.frz hi
    refine s G F1 _ σ H _ _ R1 hf fun r ρ2 F2 H2 v q2 k2 R2 w2 => ?_
    obtain ⟨rfl, q2⟩ := q2
    obtain ⟨d, ob, _, h1, h2, R3⟩ := R.thaw hi (k1.trans k2) R2 rfl rfl rfl rfl
    split at q2
    · exact hq _ ρ _ H2 v q2 h2 R3 (Dp.cut h1 _ _ w2)
    · exact q2.elim
  · exact hf.elim
theorem dt_bor (i : Nat) {f : FT} (h : DT X e f) : DT X e (fBorT i f) := by
  obtain ⟨t, p, s⟩ := h.ex
  refine .of p fun G F ρ σ H Q Q' R hf hq => ?_
  unfold fBorT at hf
  split at hf
  · rename_i kvs hi
    obtain ⟨F1, k1, R1⟩ := R.frz hi
    refine s G F1 _ σ H _ _ R1 hf fun r ρ2 F2 H2 q2 k2 R2 => ?_
    obtain ⟨rfl, q2⟩ := q2
    obtain ⟨d, ob, _, h1, h2, R3⟩ := R.thaw hi (k1.trans k2) R2 rfl rfl rfl rfl
    exact hq _ ρ _ H2 q2 h2 R3
  · exact hf.elim
theorem dn_bor (i : Nat) {f : FN} (h : DN X e f) : DN X e (fBorN i f) := by
  obtain ⟨t, p, s⟩ := h.ex
  refine .of p fun G F ρ σ H Q Q' R hf hq => ?_
  unfold fBorN at hf
  split at hf
  · rename_i kvs hi
    obtain ⟨F1, k1, R1⟩ := R.frz hi
    refine s G F1 _ σ H _ _ R1 hf fun o ρ2 F2 H2 a q2 k2 R2 => ?_
    obtain ⟨rfl, q2⟩ := q2
    obtain ⟨d, ob, _, h1, h2, R3⟩ := R.thaw (G' := G.push a o) hi (k1.trans k2) R2 rfl rfl rfl rfl
    exact hq _ ρ _ H2 a q2 h2 R3
  · exact hf.elim
end
end Aq
/-! A23: shared things: a dict of lists of one's own. -/
namespace Aq
open PySem PySem.Spec PyProof.Rows L2
def hpGet (tl : List (Addr × Ow)) (a : Addr) : Option Ow := (tl.find? fun p => decide (p.1 = a)).map (·.2)
def hpPut (tl : List (Addr × Ow)) (a : Addr) (o : Ow) : List (Addr × Ow) := tl.map fun p => if p.1 = a then (a, o) else p
theorem hpGet_mem {tl : List (Addr × Ow)} {a : Addr} {o : Ow} (h : hpGet tl a = some o) : (a, o) ∈ tl := by
  unfold hpGet at h
  obtain ⟨⟨b, o'⟩, h1, h2⟩ := Option.map_eq_some_iff.mp h
  have e := List.find?_some h1
  simp at e h2
  subst e h2
  exact List.mem_of_find?_eq_some h1
theorem hpPut_keys (tl : List (Addr × Ow)) (a : Addr) (o : Ow) : (hpPut tl a o).map (·.1) = tl.map (·.1) := by
  unfold hpPut
  rw [List.map_map]
  refine List.map_congr_left fun p _ => ?_
  show (if p.1 = a then (a, o) else p).1 = p.1
  split
  · rename_i h; exact h.symm
  · rfl
section
variable {W : Wd} {G : Fx} {F H : Hp} {ρ : List S} {σ : L2.St} {tl : List (Addr × Ow)} {a : Addr} {o o' : Ow} {ho : HO} {n : Nat}
theorem Rep.hpIx (R : Rep W G F ρ σ H) (h : ρ[n]? = some (.hp tl)) : n = σ.length ∧ hpOf ρ σ.length = tl := by
  have e : n = σ.length := by
    by_cases hl : n < σ.length
    · exact (R.slot n _ hl h).elim
    · exact (R.top n _ (by omega) h).1
  refine ⟨e, ?_⟩
  unfold hpOf
  rw [← e, h]
theorem Rep.hpAt (R : Rep W G F ρ σ H) (hn : ρ[n]? = some (.hp tl)) (h : hpGet tl a = some o) : F a = none ∧ ∃ ho, H a = some ho ∧ RepO W F a o ho := by
  obtain ⟨_, e⟩ := R.hpIx hn
  have hm := hpGet_mem h
  rw [← e] at hm
  obtain ⟨h1, _, h3, _⟩ := R.shr a o hm
  exact ⟨h1, h3⟩
/-- a loose thing is put among the shared ones -/
theorem Rep.share (R : Rep W (G.push a o) F ρ σ H) (hn : ρ[n]? = some (.hp tl)) : Rep W G F (ρ.set n (.hp (tl ++ [(a, o)]))) σ H := by
  obtain ⟨en, et⟩ := R.hpIx hn
  have hlt := (List.getElem?_eq_some_iff.mp hn).1
  have e1 : hpOf (ρ.set n (.hp (tl ++ [(a, o)]))) σ.length = tl ++ [(a, o)] := by
    unfold hpOf
    rw [← en, List.getElem?_set_self hlt]
  have old : ∀ {i : Nat} {s : S}, (ρ.set n (.hp (tl ++ [(a, o)])))[i]? = some s → s.own = true → ρ[i]? = some s := fun {i s} h ho => by
    by_cases q : n = i
    · subst q
      rw [List.getElem?_set_self hlt] at h
      cases h
      cases ho
    · rw [List.getElem?_set_ne q] at h
      exact h
  refine ⟨R.sub, R.up, R.keep, R.new, by simpa using R.len, fun i s hi e => ?_, fun i s hi e => ?_, fun i j s t b hij h1 h2 o1 o2 z1 z2 => R.sep i j s t b hij (old h1 o1) (old h2 o2) o1 o2 z1 z2, fun i b q => ?_, fun b u hm => ?_, fun b u hm => ?_, ?_, fun b hb => ?_, R.tabs⟩
  · rw [List.getElem?_set_ne (by omega)] at e
    exact R.slot i s hi e
  · by_cases q : n = i
    · subst q
      rw [List.getElem?_set_self hlt] at e
      cases e
      exact ⟨en, _, rfl⟩
    · rw [List.getElem?_set_ne q] at e
      exact R.top i s hi e
  · obtain ⟨h1, o1, h2⟩ := R.par i b q
    exact ⟨h1, o1, by rw [List.getElem?_set_ne (by omega)]; exact h2⟩
  · obtain ⟨h1, h2, h3, h4⟩ := R.stk b u (List.mem_cons_of_mem _ hm)
    exact ⟨h1, h2, h3, fun i s e ow => h4 i s (old e ow) ow⟩
  · rw [e1] at hm
    rcases List.mem_append.mp hm with q | q
    · rw [← et] at q
      obtain ⟨h1, h2, h3, h4⟩ := R.shr b u q
      exact ⟨h1, h2, h3, fun i s e ow => h4 i s (old e ow) ow⟩
    · cases List.mem_singleton.mp q
      obtain ⟨h1, h2, h3, h4⟩ := R.stk a o List.mem_cons_self
      exact ⟨h1, .inl h2, h3, fun i s e ow => h4 i s (old e ow) ow⟩
  · rw [e1]
    have h := R.std
    rw [et] at h
    have hp : ((tl ++ (a, o) :: G.st).map (·.1)) = (((tl ++ [(a, o)]) ++ G.st).map (·.1)) := by simp
    rw [← hp]
    exact h
  · rw [e1]
    have := R.lnt b hb
    rw [et] at this
    rw [List.map_append]
    exact List.mem_append_left _ this
/-- a shared thing has changed in place -/
theorem Rep.hpPut (R : Rep W G F ρ σ H) (hn : ρ[n]? = some (.hp tl)) (hg : hpGet tl a = some o) (hr : RepO W F a o' ho) : Rep W G F (ρ.set n (.hp (hpPut tl a o'))) σ (upd H a ho) := by
  obtain ⟨en, et⟩ := R.hpIx hn
  have hlt := (List.getElem?_eq_some_iff.mp hn).1
  have hm := hpGet_mem hg
  have hm' : (a, o) ∈ hpOf ρ σ.length := by rw [et]; exact hm
  have w : Owned G ρ σ a := .inr (.inr ⟨o, hm'⟩)
  obtain ⟨s1, k1, t1⟩ := R.at_ (ho := ho) w
  obtain ⟨hF, h0, _, hno⟩ := R.shr a o hm'
  have e1 : hpOf (ρ.set n (.hp (Aq.hpPut tl a o'))) σ.length = Aq.hpPut tl a o' := by
    unfold hpOf
    rw [← en, List.getElem?_set_self hlt]
  have old : ∀ {i : Nat} {s : S}, (ρ.set n (.hp (Aq.hpPut tl a o')))[i]? = some s → s.own = true → ρ[i]? = some s := fun {i s} h ho => by
    by_cases q : n = i
    · subst q
      rw [List.getElem?_set_self hlt] at h
      cases h
      cases ho
    · rw [List.getElem?_set_ne q] at h
      exact h
  have nd := R.std
  have nda : ∀ u, (a, u) ∉ G.st := fun u hu => by
    rw [List.map_append, List.nodup_append] at nd
    exact nd.2.2 a (List.mem_map.mpr ⟨_, hm', rfl⟩) a (List.mem_map.mpr ⟨_, hu, rfl⟩) rfl
  have ndt : (tl.map (·.1)).Nodup := by
    rw [et, List.map_append, List.nodup_append] at nd
    exact nd.1
  refine ⟨s1, R.up, fun b u e h1 h2 => ?_, R.new, by simpa using R.len, fun i s hi e => ?_, fun i s hi e => ?_, fun i j s t b hij h1 h2 o1 o2 z1 z2 => R.sep i j s t b hij (old h1 o1) (old h2 o2) o1 o2 z1 z2, fun i b q => ?_, fun b u hm2 => ?_, fun b u hm2 => ?_, ?_, fun b hb => ?_, t1⟩
  · rcases k1 b u e h1 h2 with z | z
    · subst z
      rcases h0 with h0 | h0
      · rw [h0] at e; cases e
      · exact absurd h0 h2
    · exact z
  · rw [List.getElem?_set_ne (by omega)] at e
    have z := R.slot i s hi e
    cases s with
    | ow u =>
      obtain ⟨b, hb, z1, z2, z3, z4, z5⟩ := z
      have ne : b ≠ a := fun q => by rw [q] at z1; exact hno i _ e rfl z1
      exact ⟨b, hb, z1, z2, z3, by rw [upd_ne ne]; exact z4, z5⟩
    | pa u =>
      obtain ⟨b, hb, z1, z2, z3, z4, z5⟩ := z
      have ne : b ≠ a := fun q => by rw [q] at z1; exact hno i _ e rfl z1
      exact ⟨b, hb, z1, z2, z3, by rw [upd_ne ne]; exact z4, z5⟩
    | no => exact z
    | d x => exact z
    | fz x => exact z
    | raw x => exact z
    | fn f B => exact z
    | hp t => exact z
  · by_cases q : n = i
    · subst q
      rw [List.getElem?_set_self hlt] at e
      cases e
      exact ⟨en, _, rfl⟩
    · rw [List.getElem?_set_ne q] at e
      exact R.top i s hi e
  · obtain ⟨h1, o1, h2⟩ := R.par i b q
    exact ⟨h1, o1, by rw [List.getElem?_set_ne (by omega)]; exact h2⟩
  · obtain ⟨h1, h2, ⟨ho2, h3, h3'⟩, h4⟩ := R.stk b u hm2
    have ne : b ≠ a := fun q => nda u (q ▸ hm2)
    exact ⟨h1, h2, ⟨ho2, by rw [upd_ne ne]; exact h3, h3'⟩, fun i s e ow => h4 i s (old e ow) ow⟩
  · rw [e1] at hm2
    unfold Aq.hpPut at hm2
    obtain ⟨⟨c, u0⟩, hc, ec⟩ := List.mem_map.mp hm2
    by_cases q : c = a
    · have ec' : (if (c, u0).1 = a then (a, o') else (c, u0)) = (a, o') := if_pos q
      rw [ec'] at ec
      cases ec
      exact ⟨hF, h0, ⟨ho, upd_same, hr⟩, fun i s e ow => hno i s (old e ow) ow⟩
    · have ec' : (if (c, u0).1 = a then (a, o') else (c, u0)) = (c, u0) := if_neg q
      rw [ec'] at ec
      cases ec
      rw [← et] at hc
      obtain ⟨h1, h2, ⟨ho2, h3, h3'⟩, h4⟩ := R.shr b u hc
      exact ⟨h1, h2, ⟨ho2, by rw [upd_ne q]; exact h3, h3'⟩, fun i s e ow => h4 i s (old e ow) ow⟩
  · rw [e1, List.map_append, hpPut_keys, ← et, ← List.map_append]
    exact nd
  · rw [e1, hpPut_keys, ← et]
    exact R.lnt b hb
end
/-! ### a dict of things -/
def dGetR (kvs : List (D × Addr)) (k : NestedKey) : Option Addr := (kvs.find? fun p => decide (keyOf p.1 = some k)).map (·.2)
def dPutR (kvs : List (D × Addr)) (k : D) (a : Addr) : List (D × Addr) :=
  if (kvs.find? fun p => decide (keyOf p.1 = keyOf k)).isSome then kvs.map fun p => if keyOf p.1 = keyOf k then (p.1, a) else p else kvs ++ [(k, a)]
theorem EnOkR.up {W : Wd} {F H : Hp} (s : Same F H) {kvs : List (D × Addr)} {xs : List (NestedKey × Addr × Value)} (h : Paired (EnOkR W F) kvs xs) : Paired (EnOkR W H) kvs xs := Paired.mapP h fun _ _ z => z.mono s
theorem at_getR {W : Wd} {F : Hp} {k : NestedKey} : ∀ {kvs : List (D × Addr)} {xs : List (NestedKey × Addr × Value)}, Paired (EnOkR W F) kvs xs →
    (match dGetR kvs k with
      | some d => ∃ p, atKey xs k = some p ∧ p.2 = .ref d
      | none => atKey xs k = none)
  | _, _, .nil => rfl
  | (kd, d) :: kvs, (k', a, u) :: xs, .cons ⟨h1, h2, h3⟩ t => by
    have ih := at_getR (k := k) t
    have h1' : keyOf kd = some k' := h1
    by_cases e : k' = k
    · subst e
      have e1 : dGetR ((kd, d) :: kvs) k' = some d := by simp [dGetR, h1']
      rw [e1]
      exact ⟨(a, u), by simp [atKey], h3⟩
    · have e1 : dGetR ((kd, d) :: kvs) k = dGetR kvs k := by simp [dGetR, h1', e]
      have e2 : atKey ((k', a, u) :: xs) k = atKey xs k := by simp [atKey, e]
      rw [e1, e2]
      exact ih
theorem put_okR {W : Wd} {F : Hp} {k : NestedKey} {kd : D} {b c : Addr} (ek : keyOf kd = some k) (hk : Dp W.K F (.ref b) kd) {kvs : List (D × Addr)} {xs : List (NestedKey × Addr × Value)} (h : Paired (EnOkR W F) kvs xs) :
    Paired (EnOkR W F) (dPutR kvs kd c) (storedH xs k b (.ref c)) := by
  have e1 : (kvs.find? fun p => decide (keyOf p.1 = keyOf kd)).isSome = (atKey xs k).isSome := by
    have := at_getR (k := k) h
    have e0 : (kvs.find? fun p => decide (keyOf p.1 = keyOf kd)).isSome = (dGetR kvs k).isSome := by
      unfold dGetR
      rw [ek, Option.isSome_map]
    rw [e0]
    cases e : dGetR kvs k with
    | none => rw [e] at this; rw [this]; rfl
    | some d => rw [e] at this; obtain ⟨p, q, _⟩ := this; rw [q]; rfl
  unfold dPutR storedH
  rw [e1]
  split
  · have go : ∀ {kvs : List (D × Addr)} {xs : List (NestedKey × Addr × Value)}, Paired (EnOkR W F) kvs xs → Paired (EnOkR W F) (kvs.map fun p => if keyOf p.1 = keyOf kd then (p.1, c) else p) (xs.map (putAt k (.ref c))) := fun {kvs xs} h => by
      induction h with
      | nil => exact .nil
      | @cons p q ps qs hp t ih =>
        refine .cons ?_ ih
        obtain ⟨h1, h2, h3⟩ := hp
        have h1' : keyOf p.1 = some q.1 := h1
        by_cases e : q.1 = k
        · have z : keyOf p.1 = keyOf kd := by rw [h1', ek, e]
          have g1 : (fun p : D × Addr => if keyOf p.1 = keyOf kd then (p.1, c) else p) p = (p.1, c) := if_pos z
          have g2 : putAt k (.ref c) q = (q.1, q.2.1, .ref c) := if_pos e
          rw [g1, g2]
          exact ⟨h1, h2, rfl⟩
        · have z : ¬ keyOf p.1 = keyOf kd := fun z => e (by rw [h1', ek] at z; exact Option.some.inj z)
          have g1 : (fun p : D × Addr => if keyOf p.1 = keyOf kd then (p.1, c) else p) p = p := if_neg z
          have g2 : putAt k (.ref c) q = q := if_neg e
          rw [g1, g2]
          exact ⟨h1, h2, h3⟩
    exact go h
  · exact Aq.Paired.app h (.cons ⟨ek, hk, rfl⟩ .nil)
theorem dPutR_length (kvs : List (D × Addr)) (k : D) (a : Addr) : (dPutR kvs k a).length ≤ kvs.length + 1 := by
  unfold dPutR
  split
  · rw [List.length_map]; omega
  · rw [List.length_append]; exact Nat.le_refl _
section
variable {X : Cx} [Tb X.mg] {pins : List (Addr × Obj)} {σ : L2.St} {H : Hp} {s : Shared}
theorem ens_isR (I : Inv X pins σ H s) : ∀ {kvs : List (D × Addr)} {xs : List (NestedKey × Addr × Value)}, Paired (EnOkR (wd X) H) kvs xs → (∀ x ∈ xs, x.1.depth ≤ 8) → ∀ x ∈ xs, (nestedKind X.prog X.w).is s.heap x.1 x.2.1
  | _, _, .nil, _, x, hx => nomatch hx
  | _, _, .cons h t, hd, x, hx => by
    rcases List.mem_cons.mp hx with rfl | hx
    · exact ⟨nest_of I _ _ _ _ h.2.1 h.1 rfl, hd _ List.mem_cons_self⟩
    · exact ens_isR I t (fun y hy => hd y (List.mem_cons_of_mem _ hy)) x hx
theorem ofR (I : Inv X pins σ H s) {F : Hp} {a : Addr} {kvs : List (D × Addr)} {ho : HO} (sF : Same F H) (hH : H a = some ho) (h : RepO (wd X) F a (.dcr kvs) ho) : (a == sysModules) = false ∧ ∃ ob xs, ho = exO a ob ∧ DOb (wd X) ob xs ∧ Paired (EnOkR (wd X) F) kvs xs ∧ kvs.length ≤ sizeLine ∧ s.heap.DictOfH (nestedKind X.prog X.w) a xs := by
  obtain ⟨ob, xs, rfl, h2, ⟨es, ep, h3, h4, h5, h6, h7⟩, h8, h9⟩ := h
  exact ⟨h2, ob, xs, rfl, ⟨es, ep, h3, h4, h5, h6, h7⟩, h8, h9, ob, es, ep, DAt.obj I hH, h3, h4, h5, ens_isR I (EnOkR.up sF h8) h7, h6⟩
/-- d[k], a thing -/
def rIxR (W : Wd) : R2 := fun x y H Q => ∃ F a b kvs ho kd k c, x = .ref a ∧ y = .ref b ∧ Same F H ∧ H a = some ho ∧ RepO W F a (.dcr kvs) ho ∧ Dp W.K H y kd ∧ keyD kd = some k ∧ dGetR kvs k = some c ∧ Q (.ref c) H
theorem ix_dcr (hu : X.A.units + 64 < cLine) : IxR X (rIxR (wd X)) := by
  intro value slice pins s σ H x y v u Q I rx ry h hs
  obtain ⟨F, a, b, kvs, ho, kd, k, c, rfl, rfl, sF, hH, hr, hk, ek, eg, q⟩ := h
  cases rx
  cases ry
  obtain ⟨hd, ob, xs, _, _, hp, hl, hm⟩ := ofR I sF hH hr
  have hg := at_getR (k := k) hp
  rw [eg] at hg
  obtain ⟨p, e1, e2⟩ := hg
  exact subscriptTail_builtinR (x := p.2) hm.typeIs PySem.F.slot_dict_getitem.lookup
    (wpAny_getItem_heap (Q := fun r s' => r = p.2 ∧ EP X pins σ Q r s') (hroom (X := X) hu) (key_is I hk ek) hm e1 ⟨rfl, .ref c, H, I.tok _, e2, q⟩) hs
end
def fIxR (i : Nat) (fb : FE) : FE := fun ρ Q => (ownAt ρ i).isSome = true ∧ fb ρ fun y ρ1 => match ownAt ρ1 i, y with
  | some (.dcr kvs), .d kd => (match keyD kd with
    | some k => (match dGetR kvs k with
      | some a => Q (.raw (.ref a)) ρ1
      | none => False)
    | none => False)
  | _, _ => False
section
variable {X : Cx} [Tb X.mg] {b : Expr} {fb fe : FE} {pos p : Pos} {x : Str}
theorem de_ixR (i : Nat) (hu : X.A.units + 64 < cLine) (hb : DE X b fb) (hN : X.N[i]? = some x := by rfl) (hv : Vis X.env.scope x := by first | exact Or.inl rfl | exact Or.inr (Or.inl rfl) | exact Or.inr (Or.inr rfl)) (hd : (x == ("__debug__" : Str)) = false := by decide)
    (hcd : (x == ("__classdict__" : Str)) = false := by decide) (hs : PlainIx b := by exact fun _ _ => rfl) : DE X (.Subscript (.Name x p) b pos) (fIxR i fb) := by
  obtain ⟨tb, pb, sb⟩ := hb.ex
  refine .of (pe_ix (ix_dcr hu) (pv i hN hv hd hcd) pb hs) fun G F ρ σ H Q Q' R hf hq => ?_
  obtain ⟨o, ho⟩ := Option.isSome_iff_exists.mp hf.1
  obtain ⟨ad, _, ha, _⟩ := R.ownAt ho
  refine ⟨.ref ad, ha, ?_⟩
  refine sb G F ρ σ H _ _ R hf.2 fun y ρ1 F1 H1 w q1 k1 R1 w1 => ?_
  split at q1
  · rename_i kvs kd e
    obtain ⟨a2, h2, e2, e3, e4, e5⟩ := R1.ownAt e
    rw [ha] at e2; cases e2
    split at q1
    · rename_i k ek
      split at q1
      · rename_i c ed
        obtain ⟨bd, rfl⟩ := dp_ref w1 ek
        exact ⟨F1, ad, bd, kvs, h2, kd, k, c, rfl, rfl, R1.sub, e4, e5, Dp.mono R1.sub _ _ w1, ek, ed, hq _ ρ1 F1 H1 _ q1 k1 R1 rfl⟩
      · exact q1.elim
    · exact q1.elim
  · exact q1.elim
end
end Aq
/-! A24: lists in a dict of one's own; a dict against the empty one; stores at keys from a tuple. -/
namespace Aq
open PySem PySem.Spec PyProof.Rows L2
def hpL (ρ : List S) (n : Nat) (a : Addr) : Option (List D) := match ρ[n]? with
  | some (.hp tl) => (match hpGet tl a with
    | some (.lst ds) => some ds
    | _ => none)
  | _ => none
def hpSet (ρ : List S) (n : Nat) (a : Addr) (o : Ow) : List S := match ρ[n]? with
  | some (.hp tl) => ρ.set n (.hp (hpPut tl a o))
  | _ => ρ
theorem hpL_some {ρ : List S} {n : Nat} {a : Addr} {ds : List D} (h : hpL ρ n a = some ds) : ∃ tl, ρ[n]? = some (.hp tl) ∧ hpGet tl a = some (.lst ds) := by
  unfold hpL at h
  split at h
  · rename_i tl e
    refine ⟨tl, e, ?_⟩
    split at h
    · rename_i e2
      cases h
      exact e2
    · cases h
  · cases h
/-! ### x.append(e) of a shared list -/
def sAppR (n : Nat) (fo fe : FE) : FS := fun E ρ => fo ρ fun r ρ1 => match r with
  | .raw (.ref a) => (hpL ρ1 n a).isSome = true ∧ fe ρ1 fun v ρ2 => (match v, hpL ρ2 n a with
    | .d x, some ds => ds.length < sizeLine ∧ E.nx (hpSet ρ2 n a (.lst (ds ++ [x])))
    | _, _ => False)
  | _ => False
section
variable {X : Cx} [Tb X.mg] {e l : Expr} {fe fo : FE} {pos : Pos}
theorem ds_appR (n : Nat) {ap cp stp : Pos} (ho : DE X l fo) (he : DE X e fe)
    (hp : ∀ {to t : TE}, PE X l to → PE X e t → PE X (.Call (.Attribute l "append" ap) [e] [] cp) (tBM X.K "list" rAppend to (tCons t tNil))) (hs : swapsWith (.Call (.Attribute l "append" ap) [e] [] cp) none stp.line X.env = pure false := by rfl) :
    DS X (.Expr (.Call (.Attribute l "append" ap) [e] [] cp) stp) (sAppR n fo fe) := by
  obtain ⟨te, pe, se⟩ := he.ex
  obtain ⟨to, po, so⟩ := ho.ex
  refine .of (ps_expr (hp po pe) hs) fun G F ρ σ H E E' R hf ok => ?_
  refine so G F ρ σ H _ _ R hf fun r ρ1 F1 H1 v q1 k1 R1 w1 => ?_
  split at q1
  · rename_i a
    obtain ⟨q0, q1⟩ := q1
    obtain ⟨ds0, e0⟩ := Option.isSome_iff_exists.mp q0
    obtain ⟨tl0, n0, g0⟩ := hpL_some e0
    obtain ⟨_, ho0, h0, ⟨vs0, rfl, _⟩⟩ := R1.hpAt n0 g0
    have ev : v = .ref a := w1
    subst ev
    refine ⟨.inl ⟨rfl, _, SqL.of h0⟩, ?_⟩
    refine se G F1 ρ1 σ H1 _ _ R1 q1 fun r2 ρ2 F2 H2 v2 q2 k2 R2 w2 => ?_
    split at q2
    · rename_i x ds e2
      obtain ⟨tl, n1, g1⟩ := hpL_some e2
      obtain ⟨_, ho1, h1, ⟨vs, rfl, h3⟩⟩ := R2.hpAt n1 g1
      refine ⟨a, vs, v2, rfl, rfl, h1, by rw [DpAll.length h3]; exact q2.1, ?_⟩
      have R3 := R2.hpPut (o' := .lst (ds ++ [x])) (ho := .lst (vs ++ [v2])) n1 g1 ⟨_, rfl, DpAll.append h3 (.cons w2 .nil)⟩
      have eS : hpSet ρ2 n a (.lst (ds ++ [x])) = ρ2.set n (.hp (hpPut tl a (.lst (ds ++ [x])))) := by unfold hpSet; rw [n1]
      have q3 := q2.2
      rw [eS] at q3
      exact ok.nx _ F2 _ _ q3 (k1.trans k2) R3
    · exact q2.elim
  · exact q1.elim
end
/-! ### for x in a shared list -/
def sForR (n : Nat) (fo : FE) (g : FG) (b : FS) : FS := fun E ρ => fo ρ fun r ρ1 => match r with
  | .raw (.ref a) => ∃ (items : List D) (W : List D → List D → List S → Prop), W [] items ρ1 ∧ (∀ pre post ρ', pre ++ post = items → W pre post ρ' → hpL ρ' n a = some items) ∧ (∀ pre ρ', W pre [] ρ' → E.nx ρ') ∧
    ∀ pre x post ρ', pre ++ x :: post = items → W pre (x :: post) ρ' → g (.d x) ρ' fun ρ2 => b { E with nx := W (pre ++ [x]) post, ct := W (pre ++ [x]) post, bk := E.nx } ρ2
  | _ => False
section
variable {X : Cx} [Tb X.mg] {fo : FE} {pos : Pos}
theorem ds_forR (n : Nat) {tg iter : Expr} {us : List Nat} {body : List Stmt} {g : FG} {fb : FS} (hp : PassesOwn (model X.prog X.w) X.A X.env X.xe) (hc : X.calm = true) (ho : DE X iter fo) (hg : DG X tg us g) (hb : DSs X body fb)
    (hs : ∀ x, foldedSetIterable iter X.env x = pure x := by intro _; rfl) : DS X (.For tg iter body [] pos) (sForR n fo g fb) := by
  obtain ⟨to, po, so⟩ := ho.ex
  obtain ⟨tg', pg, sg⟩ := hg.ex
  obtain ⟨tb, pb, sb⟩ := hb.ex
  refine .of (ps_for hp hc (pi_list po) pg pb hs) fun G F ρ σ H E E' R hf ok => ?_
  refine so G F ρ σ H _ _ R hf fun r ρ0 F0 H0 v q0 k0 R0 w0 => ?_
  split at q0
  · rename_i a
    obtain ⟨items, W, w00, hgo, wend, turn⟩ := q0
    have ev : v = .ref a := w0
    subst ev
    have at_ : ∀ {pre post : List D} {ρ' : List S} {F' H' : Hp} {σ' : L2.St}, pre ++ post = items → W pre post ρ' → Rep (wd X) G F' ρ' σ' H' → ∃ vs, SqL X.K H' a vs ∧ DpAll X.K F' vs items := fun {pre post ρ' F' H' σ'} e w R' => by
      obtain ⟨tl, n1, g1⟩ := hpL_some (hgo pre post ρ' e w)
      obtain ⟨_, ho1, h1, ⟨vs, rfl, h3⟩⟩ := R'.hpAt n1 g1
      exact ⟨vs, SqL.of h1, h3⟩
    obtain ⟨vs0, s0, _⟩ := at_ (List.nil_append items) w00 R0
    refine ⟨a, rfl, ⟨vs0, s0⟩, ?_⟩
    refine ⟨fun i m σ' H' => ∃ F' ρ' pre post, Same F0 F' ∧ Rep (wd X) G F' ρ' σ' H' ∧ W pre post ρ' ∧ pre ++ post = items ∧ pre.length = i ∧ m = post.length, ⟨items.length, F0, ρ0, [], items, Same.refl _, R0, w00, rfl, rfl, rfl⟩, ?_⟩
    rintro i m σ1 H1 ⟨F1, ρ1, pre, post, k1, R1, w1, e1, e2, rfl⟩
    obtain ⟨vs, s1, d1⟩ := at_ e1 w1 R1
    cases post with
    | nil =>
      refine .inl ⟨⟨vs, s1, by rw [DpAll.length d1, ← e1, List.append_nil, e2]; exact Nat.le_refl _⟩, ?_⟩
      exact ok.nx _ F1 _ H1 (wend pre ρ1 w1) (k0.trans k1) R1
    | cons x post =>
      obtain ⟨v, hv, dv⟩ := DpAll.get d1 (i := i) (d := x) (by rw [← e1, ← e2]; simp)
      refine .inr ⟨⟨vs, v, s1, hv⟩, fun σ' H' => ∃ F' ρ', Same F0 F' ∧ Rep (wd X) G F' ρ' σ' H' ∧ W (pre ++ [x]) post ρ', ?_, ?_⟩
      · rintro σ' H' ⟨F', ρ', k', R', w'⟩
        exact ⟨post.length, by simp, F', ρ', pre ++ [x], post, k', R', w', by rw [List.append_assoc]; exact e1, by simp [e2], rfl⟩
      · intro u H2 y
        obtain ⟨e, y⟩ := y
        have e3 := y vs s1
        rw [hv] at e3
        cases e3
        subst e
        refine sg G F1 ρ1 σ1 _ (.d x) v _ _ R1 dv (turn pre x post ρ1 e1 w1) fun ρ3 F3 σ3 H3 q3 k3 R3 _ => ?_
        have kk : Same F0 F3 := k1.trans k3
        refine sb G F3 ρ3 σ3 H3 _ _ R3 q3 ⟨fun ρ' F' σ' H' n k R' => ⟨F', ρ', kk.trans k, R', n⟩, fun r ρ' F' σ' H' v q k R' w => ok.rt r ρ' F' σ' H' v q ((k0.trans kk).trans k) R' w, fun ρ' F' σ' H' q k R' => ok.nx ρ' F' σ' H' q ((k0.trans kk).trans k) R', fun ρ' F' σ' H' n k R' => ⟨F', ρ', kk.trans k, R', n⟩, fun o ρ' F' σ' H' a q k R' => ok.rn o ρ' F' σ' H' a q ((k0.trans kk).trans k) R'⟩
  · exact q0.elim
end
/-! ### a list of one's own against data -/
def fOwnEq (neg : Bool) (i : Nat) (f2 : FE) : FE := fun ρ Q => (ownAt ρ i).isSome = true ∧ f2 ρ fun r ρ1 => match ownAt ρ1 i, r with
  | some (.lst ds), .d y => SeqAt.shaped (.list ds) = true ∧ SeqAt.shaped y = true ∧ Q (.d (.bool (if neg then !PyData.eqv (.list ds) y else PyData.eqv (.list ds) y))) ρ1
  | _, _ => False
section
variable {X : Cx} [Tb X.mg] {e : Expr} {f2 : FE} {pos p : Pos} {x : Str}
theorem de_ownNe (i : Nat) (hu : X.A.units + 64 < cLine) (he : DE X e f2) (hN : X.N[i]? = some x := by rfl) (hv : Vis X.env.scope x := by first | exact Or.inl rfl | exact Or.inr (Or.inl rfl) | exact Or.inr (Or.inr rfl)) (hd : (x == ("__debug__" : Str)) = false := by decide)
    (hcd : (x == ("__classdict__" : Str)) = false := by decide) (hm : behindInMarks .NotEq e = false := by first | exact nobehind _ (by decide) (by decide) | rfl) : DE X (.Compare (.Name x p) [.NotEq] [e] pos) (fOwnEq true i f2) := by
  obtain ⟨t2, p2, s2⟩ := he.ex
  refine .of (pe_cmpR (op_neD hu) (pv i hN hv hd hcd) p2 hm) fun G F ρ σ H Q Q' R hf hq => ?_
  obtain ⟨o, ho⟩ := Option.isSome_iff_exists.mp hf.1
  obtain ⟨ad, _, ha, _⟩ := R.ownAt ho
  refine ⟨.ref ad, ha, ?_⟩
  refine s2 G F ρ σ H _ _ R hf.2 fun r ρ1 F1 H1 v q1 k1 R1 w1 => ?_
  split at q1
  · rename_i ds y e1
    obtain ⟨a2, h2, z1, z2, z3, vs, rfl, z4⟩ := R1.ownAt e1
    rw [ha] at z1; cases z1
    exact ⟨.list ds, y, Dp.lst (SqL.of z3) (DpAll.mono R1.sub _ _ z4), Dp.mono R1.sub _ _ w1, q1.1, q1.2.1, hq _ ρ1 F1 H1 _ q1.2.2 k1 R1 (Dp.bl _)⟩
  · exact q1.elim
theorem de_ownEq (i : Nat) (hu : X.A.units + 64 < cLine) (he : DE X e f2) (hN : X.N[i]? = some x := by rfl) (hv : Vis X.env.scope x := by first | exact Or.inl rfl | exact Or.inr (Or.inl rfl) | exact Or.inr (Or.inr rfl)) (hd : (x == ("__debug__" : Str)) = false := by decide)
    (hcd : (x == ("__classdict__" : Str)) = false := by decide) (hm : behindInMarks .Eq e = false := by first | exact nobehind _ (by decide) (by decide) | rfl) : DE X (.Compare (.Name x p) [.Eq] [e] pos) (fOwnEq false i f2) := by
  obtain ⟨t2, p2, s2⟩ := he.ex
  refine .of (pe_cmpR (op_eqD hu) (pv i hN hv hd hcd) p2 hm) fun G F ρ σ H Q Q' R hf hq => ?_
  obtain ⟨o, ho⟩ := Option.isSome_iff_exists.mp hf.1
  obtain ⟨ad, _, ha, _⟩ := R.ownAt ho
  refine ⟨.ref ad, ha, ?_⟩
  refine s2 G F ρ σ H _ _ R hf.2 fun r ρ1 F1 H1 v q1 k1 R1 w1 => ?_
  split at q1
  · rename_i ds y e1
    obtain ⟨a2, h2, z1, z2, z3, vs, rfl, z4⟩ := R1.ownAt e1
    rw [ha] at z1; cases z1
    exact ⟨.list ds, y, Dp.lst (SqL.of z3) (DpAll.mono R1.sub _ _ z4), Dp.mono R1.sub _ _ w1, q1.1, q1.2.1, hq _ ρ1 F1 H1 _ q1.2.2 k1 R1 (Dp.bl _)⟩
  · exact q1.elim
end
/-! ### a dict against the empty one -/
section
variable {prog : Program} {w : World} {A : Around} {E : Value → Shared → Prop} {s : Shared}
theorem samePairs_empty {nm : String} {a b : Addr} {es : Array DictEntry} {ep ep' : Nat} {Q : Bool → Shared → Prop} (ha : (a == sysModules) = false) (hb : (b == sysModules) = false)
    (da : s.heap.DictRaw a es ep) (db : s.heap.DictRaw b #[] ep') (h : Q (decide (es.size = 0)) s) : wpAny (model prog w) A (Builtin.Dict.samePairs nm a b) Q E s := by
  obtain ⟨oa, hoa, _, hda⟩ := da
  obtain ⟨ob, hob, _, hdb⟩ := db
  unfold Builtin.Dict.samePairs Builtin.Dict.showsAll
  rw [if_neg (show ¬ (a == sysModules) = true by rw [ha]; exact Bool.false_ne_true), if_neg (show ¬ (b == sysModules) = true by rw [hb]; exact Bool.false_ne_true)]
  refine wpAny_bind (wpAny_pure (wpAny_bind (wpAny_pure ?_)))
  refine wpAny_bind (wpAny_dictEntries hoa hda ?_)
  dsimp only
  refine wpAny_bind (wpAny_dictEntries hob hdb ?_)
  by_cases hsz : es.size = 0
  case neg =>
    rw [if_pos (by simpa using hsz)]
    rw [decide_eq_false hsz] at h
    exact wpAny_bind (wpAny_rule (wpAny_pure h))
  case pos =>
    rw [decide_eq_true hsz] at h
    rw [if_neg (by simp [hsz])]
    refine wpAny_bind (wpAny_dictEpoch hoa hda ?_)
    refine wpAny_bind ?_
    rw [Std.Legacy.Range.forIn_eq_forIn_range']
    simp only [Std.Legacy.Range.size, Nat.sub_zero, Nat.add_sub_cancel, Nat.div_one, hsz, List.range'_zero]
    refine wpAny_forIn_list _ (fun rest q s' => s' = s ∧ q = (none, ()) ∧ rest = []) _ ?_ ?_ _ _ ⟨rfl, rfl, rfl⟩
    · rintro x rest q s' ⟨_, _, hr⟩
      cases hr
    · rintro q s' ⟨rfl, rfl, _⟩
      exact wpAny_pure h
theorem eq_empty {a b : Addr} {es : Array DictEntry} {ep ep' : Nat} {Q : Value → Shared → Prop} (ha : (a == sysModules) = false) (hb : (b == sysModules) = false)
    (da : s.heap.DictRaw a es ep) (db : s.heap.DictRaw b #[] ep') (hu : A.units < cLine) (h : Q (.bool (decide (es.size = 0))) s) : wpAny (model prog w) A (compareOp .Eq (.ref a) (.ref b)) Q E s := by
  refine wpAny_richCompare_same_room (op := .Eq) da.typeIs db.typeIs PySem.F.slot_dict_eq (wpAny_call_entry PySem.F.slot_dict_eq da.typeIs PySem.F.entry_dict_eq ?_ (PySem.F.args_dict_eq_2 _ _)) hu
  show wpAny _ _ (Builtin.Dict.dictSlotArgs "__eq__" ⟨[.ref a, .ref b], []⟩ >>= _) _ _ s
  refine wpAny_bind ?_
  unfold Builtin.Dict.dictSlotArgs
  refine wpAny_bind (wpAny_notOrdered_dict da.typeIs ?_)
  show wpAny _ _ (pure (Value.ref a, Value.ref b)) _ _ s
  refine wpAny_pure ?_
  refine wpAny_bind (wpAny_isInstance (T := "dict") db.typeIs PySem.F.sub_dict_dict ?_)
  simp only [Bool.not_true, Bool.false_eq_true, if_false]
  refine wpAny_bind (wpAny_pure (wpAny_bind (wpAny_pure ?_)))
  refine wpAny_bind (samePairs_empty ha hb da db ?_)
  refine wpAny_pure ⟨_, rfl, ?_, ?_⟩
  · exact fun x => nomatch x
  · simpa using h
end
def rEq0 (W : Wd) : R2 := fun x y H Q => ∃ F a b ob kvs, x = .ref a ∧ y = .ref b ∧ DAt W F H a kvs ∧ H b = some (exO b ob) ∧ (b == sysModules) = false ∧ ob.ExactDict ∧ (∃ ep, ob.data = .dict #[] ep) ∧ Q (.bl kvs.isEmpty) H
/-- own == {} -/
def fOwnD0 (i : Nat) : FE := fun ρ Q => match ownAt ρ i with
  | some (.dct kvs) => Q (.d (.bool kvs.isEmpty)) ρ
  | _ => False
section
variable {X : Cx} [Tb X.mg] {pos p dp : Pos} {x : Str}
theorem op_eq0 (hu : X.A.units + 64 < cLine) : OpR X (compareOp .Eq) (rEq0 (wd X)) := by
  intro pins s σ H x y v u Q I rx ry h
  obtain ⟨F, a, b, ob, kvs, rfl, rfl, hD, hb, hs, hx, ⟨ep, hd⟩, q⟩ := h
  cases rx
  cases ry
  obtain ⟨ha, xs, hp, hl, hm⟩ := hD.of I
  obtain ⟨o, es, ep', h1, h2, h3, h4, _⟩ := hm
  have hob := DAt.obj I hb
  have sz : es.size = kvs.length := by
    have : es.toList.length = xs.length := by rw [h4, List.length_map]
    rw [← Array.length_toList, this, Paired.length hp]
  refine eq_empty ha hs ⟨o, h1, h2, h3⟩ ⟨ob, hob, hx, hd⟩ (by omega) ?_
  refine ⟨.bl kvs.isEmpty, H, I, ?_, q⟩
  have : decide (es.size = 0) = kvs.isEmpty := by
    rw [sz]
    cases kvs <;> simp
  rw [this]
  rfl
theorem de_ownD0 (i : Nat) (hu : X.A.units + 64 < cLine) (hN : X.N[i]? = some x := by rfl) (hv : Vis X.env.scope x := by first | exact Or.inl rfl | exact Or.inr (Or.inl rfl) | exact Or.inr (Or.inr rfl)) (hd : (x == ("__debug__" : Str)) = false := by decide)
    (hcd : (x == ("__classdict__" : Str)) = false := by decide) (hm : behindInMarks .Eq (.Dict [] [] dp) = false := by first | exact nobehind _ (by decide) (by decide) | rfl) : DE X (.Compare (.Name x p) [.Eq] [.Dict [] [] dp] pos) (fOwnD0 i) := by
  refine .of (pe_cmpR (op_eq0 hu) (pv i hN hv hd hcd) pe_d0 hm) fun G F ρ σ H Q Q' R hf hq => ?_
  unfold fOwnD0 at hf
  split at hf
  · rename_i kvs e
    obtain ⟨ad, h0, ha, _, _, _⟩ := R.ownAt e
    refine ⟨.ref ad, ha, fun b hb hsys => ?_⟩
    have R1 := R.alloc hb (exO b ob0)
    obtain ⟨ad', h1, ha', z2, z3, z4⟩ := R1.ownAt e
    rw [ha] at ha'; cases ha'
    exact ⟨_, ad, b, ob0, kvs, rfl, rfl, DAt.ofRep R1.sub z3 z4, upd_same, hsys, ⟨rfl, rfl, rfl⟩, ⟨_, rfl⟩, hq _ _ _ _ _ hf (same_upd (R.nofree hb).1) R1 (Dp.bl _)⟩
  · exact hf.elim
end
/-! ### a store at a key of a dict of one's own, from a tuple -/
def gDPut (i : Nat) (fk : FE) : FG := fun s ρ Q => (ownAt ρ i).isSome = true ∧ fk ρ fun k ρ1 => match s, k, ownAt ρ1 i with
  | .d v, .d kd, some (.dct kvs) => (keyD kd).isSome = true ∧ kvs.length < sizeLine ∧ Q (ρ1.set i (owned ρ1 i (.dct (dPut kvs kd v))))
  | _, _, _ => False
section
variable {X : Cx} [Tb X.mg] {b : Expr} {fk : FE} {pos p : Pos} {x : Str}
theorem dg_dput (i : Nat) (hu : X.A.units + 64 < cLine) (hk : DE X b fk) (hN : X.N[i]? = some x := by rfl) (hv : Vis X.env.scope x := by first | exact Or.inl rfl | exact Or.inr (Or.inl rfl) | exact Or.inr (Or.inr rfl)) (hd : (x == ("__debug__" : Str)) = false := by decide)
    (hcd : (x == ("__classdict__" : Str)) = false := by decide)
    (ha : ∀ v, assign (.Subscript (.Name x p) b pos) X.env v = (do
      let ov ← holding [v] (eval (.Name x p) X.env)
      let iv ← holding [v, ov] (eval b X.env)
      standAt pos
      holding [v, ov, iv] (setItem ov iv v)
      release [v, ov, iv] []) := by intro _; rfl) : DG X (.Subscript (.Name x p) b pos) [] (gDPut i fk) := by
  obtain ⟨tk, pk, sk⟩ := hk.ex
  refine .of (pg_sub (pv i hN hv hd hcd) pk (set_dct hu) ha) fun G F ρ σ H s v Q Q' R hv' hf hq => ?_
  obtain ⟨o, ho⟩ := Option.isSome_iff_exists.mp hf.1
  obtain ⟨ad, _, ha', _⟩ := R.ownAt ho
  refine ⟨.ref ad, ha', ?_⟩
  refine sk G F ρ σ H _ _ R hf.2 fun r ρ1 F1 H1 w q1 k1 R1 w1 => ?_
  split at q1
  · rename_i dv kd kvs e
    obtain ⟨hk1, hl, q1⟩ := q1
    obtain ⟨k, ek⟩ := Option.isSome_iff_exists.mp hk1
    obtain ⟨bb, rfl⟩ := dp_ref w1 ek
    obtain ⟨a2, h2, z1, z2, z3, z4⟩ := R1.ownAt e
    rw [ha'] at z1; cases z1
    obtain ⟨ob, xs, rfl, z5, z6, z7, z8⟩ := id z4
    refine ⟨F1, ad, bb, ob, xs, kvs, kd, k, dv, rfl, rfl, R1.sub, z3, z5, z6, z7, hl, w1, ek, VOk.mono k1 hv', fun ob' hr => ?_⟩
    have R3 := R1.put (ownAt_or e) ha' hr
    exact hq _ F1 _ _ q1 k1 R3 (Off.refl _ _)
  · exact q1.elim
end
end Aq
/-! A25: a dict comprehension whose values are new things; a def that has shared things of its own. -/
namespace Aq
open PySem PySem.Spec PyProof.Rows L2
def rSetDcR (W : Wd) : RS := fun o i v H N => ∃ F a b c ob xs kvs kd k, o = .ref a ∧ i = .ref b ∧ v = .ref c ∧ Same F H ∧ H a = some (exO a ob) ∧ (a == sysModules) = false ∧ DOb W ob xs ∧ Paired (EnOkR W F) kvs xs ∧ kvs.length < sizeLine ∧ Dp W.K F (.ref b) kd ∧ keyD kd = some k ∧
  ∀ ob', RepO W F a (.dcr (dPutR kvs kd c)) (exO a ob') → N (upd H a (exO a ob'))
theorem rsOk_dcr {X : Cx} [Tb X.mg] (hu : X.A.units + 64 < cLine) : RsOk X (rSetDcR (wd X)) := by
  intro pins σ H s E D y z u r N Q I ry rz h k
  obtain ⟨F, a, b, c, ob, xs, kvs, kd, kk, ea, rfl, rfl, sF, hH, hd, hD, hp, hl, hk, ek, q⟩ := h
  cases ea
  cases ry
  cases rz
  have hdep : ∀ x ∈ xs, x.1.depth ≤ 8 := let ⟨_, _, _, _, _, _, h7⟩ := hD
    h7
  have hm : s.heap.DictOfH (nestedKind X.prog X.w) D xs := by
    obtain ⟨es, ep, h3, h4, h5, h6, h7⟩ := id hD
    exact ⟨ob, es, ep, DAt.obj I hH, h3, h4, h5, ens_isR I (EnOkR.up sF hp) h7, h6⟩
  have el := Paired.length hp
  refine wpAny_dictSet_heap (hsz := by rw [← el]; omega) (show X.A.units + 8 < cLine by omega) (key_is I (Dp.mono sF _ _ hk) ek) hm fun h' dd' hs => ?_
  obtain ⟨o', es', ep', ho, hx, hdt, htl, _, hn⟩ := dd'
  have D' : DOb (wd X) o' (storedH xs kk b (.ref c)) := ⟨es', ep', hx, hdt, htl, hn, stored_depth hdep (keyD_some ek).2.2⟩
  have hsz := dPutR_length kvs kd c
  exact k _ _ (d_write I (by rw [hH]; exact True.intro) hs ⟨_, ho⟩ (exO_ok ho)) (q o' ⟨o', _, rfl, hd, D', put_okR (keyD_of ek) hk hp, by omega⟩)
/-- the value is put among the shared things of slot n -/
def hpAdd (ρ : List S) (n : Nat) (a : Addr) (o : Ow) : List S := match ρ[n]? with
  | some (.hp tl) => ρ.set n (.hp (tl ++ [(a, o)]))
  | _ => ρ
def hpNot (ρ : List S) (n : Nat) (a : Addr) : Prop := match ρ[n]? with
  | some (.hp tl) => a ∉ tl.map (·.1)
  | _ => False
def isHp (ρ : List S) (n : Nat) : Prop := match ρ[n]? with
  | some (.hp _) => True
  | _ => False
def dclGo (n : Nat) (g : FG) (c : FT) (fk : FE) (fv : FN) (vs : List Nat) : List D → List (D × Addr) → List S → (List (D × Addr) → List S → Prop) → Prop
  | [], acc, ρ, Q => Q acc ρ
  | x :: xs, acc, ρ, Q => g (.d x) ρ fun ρ1 => c ρ1 fun b ρ2 => if b = true then fk ρ2 fun y ρ3 => fv ρ3 fun o ρ4 => (match y with
    | .d kd => (keyD kd).isSome = true ∧ acc.length < sizeLine ∧ isHp ρ4 n ∧ ∀ a, hpNot ρ4 n a → dclGo n g c fk fv vs xs (dPutR acc kd a) (wipeS (hpAdd ρ4 n a o) vs) Q
    | _ => False) else dclGo n g c fk fv vs xs acc (wipeS ρ2 vs) Q
def fnDcL (n : Nat) (fi : FI) (g : FG) (c : FT) (fk : FE) (fv : FN) (vs : List Nat) : FN := fun ρ Q => fi ρ fun items ρ1 => (∀ i ∈ vs, settable ρ1 i) ∧ dclGo n g c fk fv vs items [] (wipeS ρ1 vs) fun kvs ρ2 => Q (.dcr kvs) ρ2
theorem rep0R {W : Wd} {F : Hp} {a : Addr} (hs : (a == sysModules) = false) : RepO W F a (.dcr []) (exO a ob0) := by
  obtain ⟨ob, xs, e, h1, h2, h3, h4⟩ := rep0 (W := W) (F := F) hs
  cases h3
  exact ⟨ob, [], e, h1, h2, .nil, h4⟩
theorem snd_dcL {W : Wd} {n : Nat} {wi : TI} {fi : FI} {us : List Nat} {g : FG} {c : FT} {fk : FE} {fv : FN} {vs : List Nat} (si : ISound W wi fi) (hus : ∀ i ∈ us, i ∈ vs) : NSound W (tDcD (rSetDcR W) wi (tG W us g) (tT W c) (tE W fk) (tN W fv) vs) (fnDcL n fi g c fk fv vs) := by
  intro G F ρ σ H Q Q' R hf hq
  refine si G F ρ σ H _ _ R hf fun items ρ1 F1 H1 J q1 k1 R1 ito => ?_
  intro D hD hsys
  have hset : ∀ i ∈ vs, G.ow[i]? = none := fun i hi => R1.noow (q1.1 i hi)
  have R2 : Rep W (G.push D (.dcr [])) F1 ρ1 σ (upd H1 D (exO D ob0)) := R1.push hD (rep0R hsys)
  have R3 : Rep W (G.push D (.dcr [])) F1 (wipeS ρ1 vs) (wipe σ vs) (upd H1 D (exO D ob0)) := R2.wiped q1.1 (wipe_length σ vs) fun i hi => wipe_out hi
  refine ⟨fun i m H' => ∃ F' ρ' pre post acc, Same F1 F' ∧ Rep W (G.push D (.dcr acc)) F' ρ' (wipe σ vs) H' ∧ (∀ i ∈ vs, ρ'[i]? = some S.no) ∧ dclGo n g c fk fv vs post acc ρ' (fun ds ρ2 => Q' (.dcr ds) ρ2) ∧ pre ++ post = items ∧ pre.length = i ∧ m = post.length,
    ⟨items.length, F1, wipeS ρ1 vs, [], items, [], Same.refl _, R3, fun i hi => wipeS_in hi (q1.1 i hi).lt, q1.2, rfl, rfl, rfl⟩, ?_⟩
  rintro i m H' ⟨F', ρ', pre, post, acc, k2, R4, hno, hgo, e1, e2, rfl⟩
  obtain ⟨ig, is⟩ := ito i F' H' k2 R4.sub
  cases post with
  | nil =>
    refine .inl ⟨is (by rw [← e1, List.append_nil]; exact e2), ?_⟩
    refine hq (.dcr acc) ρ' F' H' D hgo (k1.trans k2) ?_
    have hst : ∀ i ∈ vs, settable ρ' i := fun i hi => by unfold settable; rw [hno i hi]; trivial
    have e : wipeS ρ' vs = ρ' := by
      refine List.ext_getElem? fun j => ?_
      by_cases hj : j ∈ vs
      · rw [wipeS_in hj (hst j hj).lt, hno j hj]
      · rw [wipeS_out hj]
    have R5 := R4.wiped (σ' := σ) hst (wipe_length σ vs).symm fun i hi => (wipe_out hi).symm
    rw [e] at R5
    exact R5
  | cons x post =>
    obtain ⟨go, yl⟩ := ig x (by rw [← e1, ← e2]; simp)
    refine .inr ⟨go, fun H'' => ∃ F'' ρ'' acc', Same F1 F'' ∧ Rep W (G.push D (.dcr acc')) F'' ρ'' (wipe σ vs) H'' ∧ (∀ i ∈ vs, ρ''[i]? = some S.no) ∧ dclGo n g c fk fv vs post acc' ρ'' (fun ds ρ2 => Q' (.dcr ds) ρ2), ?_, ?_⟩
    · rintro H'' ⟨F'', ρ'', acc', a1, a2, a3, a4⟩
      exact ⟨post.length, by simp, F'', ρ'', pre ++ [x], post, acc', a1, a2, a3, a4, by rw [List.append_assoc]; exact e1, by simp [e2], rfl⟩
    · intro v H2 y
      obtain ⟨F2, ex, dv⟩ := yl v H2 y
      obtain ⟨R5, k5⟩ := R4.ext ex
      refine ⟨_, F2, ρ', .d x, _, R5, dv, hgo, fun ρ3 F3 σ3 H3 q3 k3 R6 off => ?_⟩
      have hw : wipe σ3 vs = wipe σ vs := (wipe_eq off hus).trans wipe_wipe
      refine ⟨hw, _, F3, ρ3, _, R6, q3, fun b ρ4 F4 H4 q4 k4 R7 => ?_⟩
      have clean : ∀ {o : Ow} {F5 H5 : Hp} {ρ5 : List S}, Rep W (G.push D o) F5 ρ5 σ3 H5 → Rep W (G.push D o) F5 (wipeS ρ5 vs) (wipe σ vs) H5 ∧ ∀ i ∈ vs, (wipeS ρ5 vs)[i]? = some S.no := fun {o F5 H5 ρ5} R' => by
        have hlen : ∀ i ∈ vs, i < σ3.length := fun i hi => by
          rw [off.1, wipe_length]
          exact (q1.1 i hi).lts R1
        refine ⟨R'.wiped (fun i hi => R'.canset (hlen i hi) (hset i hi)) (by rw [← hw, wipe_length]) fun i hi => ?_, fun i hi => wipeS_in hi (Nat.lt_of_lt_of_le (hlen i hi) R'.len)⟩
        rw [← hw, wipe_out hi]
      cases b with
      | false =>
        rw [if_neg Bool.false_ne_true] at q4
        obtain ⟨a1, a2⟩ := clean R7
        refine iteF ?_
        exact ⟨F4, wipeS ρ4 vs, acc, ((k2.trans k5).trans k3).trans k4, a1, a2, q4⟩
      | true =>
        rw [if_pos rfl] at q4
        refine iteT ?_
        refine ⟨_, F4, ρ4, _, R7, q4, fun y ρ5 F5 H5 w q5 k6 R8 w5 => ?_⟩
        refine ⟨_, F5, ρ5, _, R8, q5, fun o ρ6 F6 H6 u q6 k7 R9 => ?_⟩
        split at q6
        · rename_i kd
          obtain ⟨hk, hl, hhp, q6⟩ := q6
          obtain ⟨k, ek⟩ := Option.isSome_iff_exists.mp hk
          have w5' := VOk.mono k7 w5
          obtain ⟨b, rfl⟩ := dp_ref w5' ek
          obtain ⟨tl, hn⟩ : ∃ tl, ρ6[n]? = some (.hp tl) := by
            unfold isHp at hhp
            split at hhp
            · rename_i tl e; exact ⟨tl, e⟩
            · exact hhp.elim
          have hnot : hpNot ρ6 n u := by
            unfold hpNot
            rw [hn]
            obtain ⟨_, et⟩ := R9.hpIx hn
            obtain ⟨_, _, _, _, nw⟩ := R9.pop
            intro hm
            obtain ⟨⟨u', o'⟩, hm2, rfl⟩ := List.mem_map.mp hm
            exact nw (.inr (.inr ⟨o', by rw [et]; exact hm2⟩))
          have eadd : hpAdd ρ6 n u o = ρ6.set n (.hp (tl ++ [(u, o)])) := by unfold hpAdd; rw [hn]
          have R9' := R9.share hn
          rw [← eadd] at R9'
          obtain ⟨_, _, _, ⟨ho, h1, ob, xs, h2, h3, h4, h5, h6⟩, _⟩ := R9'.pop
          subst h2
          refine ⟨F6, D, b, u, ob, xs, acc, kd, k, rfl, rfl, rfl, R9'.sub, h1, h3, h4, h5, hl, w5', ek, fun ob' hr => ?_⟩
          have R10 := R9'.restock hr
          obtain ⟨a1, a2⟩ := clean R10
          exact ⟨F6, wipeS (hpAdd ρ6 n u o) vs, dPutR acc kd u, ((((k2.trans k5).trans k3).trans k4).trans k6).trans k7, a1, a2, q6 u hnot⟩
        · exact q6.elim
section
variable {X : Cx} [Tb X.mg] {kx vx tg iter : Expr} {ifs : List Expr} {scope : Scope} {pos : Pos} {us : List Nat} {fi : FI} {g : FG} {c : FT} {fk : FE} {fv : FN}
theorem dn_dcL (n : Nat) (own : List (Str × Nat)) (hu : X.A.units + 64 < cLine) (hc : X.calm = true) (hN : X.N.Nodup) (hi : DI X tg iter fi)
    (hg : ∀ (s : Shared) (H : Hp) (C : Addr) (cl : List (Str × Addr)) (fp : List Addr), DG (X.blk s H scope (compEnvC scope cl C X.env) fp) tg us g) (ht : ∀ (s : Shared) (H : Hp) (C : Addr) (cl : List (Str × Addr)) (fp : List Addr), DTs (X.blk s H scope (compEnvC scope cl C X.env) fp) ifs c)
    (hk : ∀ (s : Shared) (H : Hp) (C : Addr) (cl : List (Str × Addr)) (fp : List Addr), DE (X.blk s H scope (compEnvC scope cl C X.env) fp) kx fk) (he : ∀ (s : Shared) (H : Hp) (C : Addr) (cl : List (Str × Addr)) (fp : List Addr), DN (X.blk s H scope (compEnvC scope cl C X.env) fp) vx fv)
    (ok : blkC X.N X.env.scope scope own = true := by kernel_rfl) (hus : ∀ i ∈ us, i ∈ own.map (·.2) := by decide)
    (hs : ∀ x, foldedSetIterable iter X.env x = pure x := by intro _; rfl) : DN X (.DictComp kx vx [⟨tg, iter, ifs, 0⟩] scope pos) (fnDcL n fi g c fk fv (own.map (·.2))) := by
  obtain ⟨wi, pi, si⟩ := hi.ex
  exact .of (pe_dcd (g := tG (wd X) us g) (tt := tT (wd X) c) (tk := tE (wd X) fk) (tv := tN (wd X) fv) (fun s H ce fp => rsOk_dcr (X := X.blk s H scope ce fp) hu) hc hN pi (blkOk_by ok) ⟨fun s H C cl fp => (hg s H C cl fp).run, fun s H C cl fp => (ht s H C cl fp).run, fun s H C cl fp => (hk s H C cl fp).run, fun s H C cl fp => (he s H C cl fp).run⟩ hs) (snd_dcL si hus)
end
theorem rep_startH {W : Wd} {F H : Hp} {N : List Str} {ss : List S} {vs : List V} (s : Same F H) (ht : Tbs W F H) (hn : ss.length ≤ N.length) (w : VsOk W F ss vs) : Rep W ⟨H, F, [], [], []⟩ F (slots0 N.length ss ++ [.hp []]) (start N vs) H := by
  refine rep_entry (W := W) (G := ⟨H, F, [], [], []⟩) (F := F) (H := H) (N := N) (ss := ss) (vs := vs) (tl := []) (hs := [.hp []]) ⟨.inr rfl, rfl, rfl, rfl, rfl, s, ht, VsOk.length w, hn, fun i t v h1 h2 => ?_, fun i t h1 h2 => ?_, fun i a q => by simp at q, fun a o hm => by simp at hm, List.nodup_nil⟩
  · obtain ⟨v', e2, e3⟩ := VsOk.get w h1
    rw [h2] at e2
    cases e2
    exact (VOk.slot e3).1
  · obtain ⟨v', e2, e3⟩ := VsOk.get w h1
    rw [VOk.noown e3] at h2
    cases h2
section
variable {P : Program} {w : World} {K : PySem.W.Frag} {mg : Str → Option Value} [Tb mg] {base : Heap}
/-- a def that has shared things of its own: their slot stands behind all names -/
theorem fn_dataH {x qual : Str} {st : Stmt} {fa : Addr} {fd : FuncData} {N ps : List Str} {k : Nat} {g : FS} {f : Fn} (Fk : Fun K x qual st fa fd) (Sc : FnScope N ps (defScope st))
    (body : ∀ (cdv : Value) (A : Around) (outer : List Env) (s : Shared) (H : Hp) (E : XK), Room k (A.deeper (envOfC qual (defScope st) s.heap.objs.size fa cdv)) → DSs (cxOf CX0 P w K mg base N qual (defScope st) fa cdv A outer s H E).nox (defBody st) g)
    (h : ∀ ss Q', ss.length = ps.length → f ss Q' → g { nx := fun _ => Q' (.d .none), rt := fun r _ => Q' r } (slots0 N.length ss ++ [.hp []])) : FnOk P w K mg base CX0 (k + 1) fa fd ps (spF ⟨P, w, K, Tb.l mg⟩ ps.length f) := by
  refine Fk.ok Sc (fun vs H Q E hs => ?_) (fun cdv A outer s H vs Q E hr hs => ?_)
  · obtain ⟨F, ss, Q', hl, _, _, hw, _⟩ := hs
    rw [← hl]
    exact (VsOk.length hw).symm
  · obtain ⟨F, ss, Q', hl, hsame, htb, hw, hf, hq⟩ := hs
    refine ⟨_, (body cdv A outer s H E hr).run, ⟨H, F, [], [], []⟩, F, _, _, rep_startH hsame htb (by rw [hl]; exact (fn_few Sc)) hw, h ss Q' hl hf, ?_, ?_, fun _ _ _ _ z => z.elim, fun _ _ _ _ z => z.elim, fun _ _ _ _ _ _ z => z.elim⟩
    · exact fun ρ' F' σ' H' q k R => hq _ F' H' .non q k R.sub (fun b o e => R.keep b o e (by simp) (by simp)) R.new R.tabs Dp.non
    · exact fun r ρ' F' σ' H' v q k R w => hq r F' H' v q k R.sub (fun b o e => R.keep b o e (by simp) (by simp)) R.new R.tabs w
end
end Aq
/-! A26: own things in tests; a comprehension over a borrowed dict, stored. -/
namespace Aq
open PySem PySem.Spec PyProof.Rows L2
theorem snd_borN {W : Wd} {t : TE} {f : FN} (i : Nat) (s : NSound W t f) : NSound W t (fBorN i f) := by
  intro G F ρ σ H Q Q' R hf hq
  unfold fBorN at hf
  split at hf
  · rename_i kvs hi
    obtain ⟨F1, k1, R1⟩ := R.frz hi
    refine s G F1 _ σ H _ _ R1 hf fun o ρ2 F2 H2 a q2 k2 R2 => ?_
    obtain ⟨rfl, q2⟩ := q2
    obtain ⟨d, ob, _, h1, h2, R3⟩ := R.thaw (G' := G.push a o) hi (k1.trans k2) R2 rfl rfl rfl rfl
    exact hq _ ρ _ H2 a q2 h2 R3
  · exact hf.elim
/-- what slots vs held is forgotten -/
def fWp (vs : List Nat) (f : FN) : FN := fun ρ Q => (∀ j ∈ vs, settable ρ j) ∧ f (wipeS ρ vs) Q
theorem snd_wp {W : Wd} {t : TE} {f : FN} (vs : List Nat) (s : NSound W t f) : NSound W t (fWp vs f) := by
  intro G F ρ σ H Q Q' R hf hq
  exact s G F _ σ H _ _ (R.wiped (σ' := σ) hf.1 rfl fun _ _ => rfl) hf.2 hq
section
variable {X : Cx} [Tb X.mg] {elt tg iter e : Expr} {ifs : List Expr} {scope : Scope} {pos p dp : Pos} {us : List Nat} {fi : FI} {g : FG} {c : FT} {f f2 : FE} {x : Str}
theorem ds_newLcSB (j : Nat) (vs : List Nat) (own : List (Str × Nat)) (i : Nat) {y : Str} {py spos : Pos} (hc : X.calm = true) (hN : X.N.Nodup) (hi : DI X tg iter fi)
    (hg : ∀ (s : Shared) (H : Hp) (C : Addr) (cl : List (Str × Addr)) (fp : List Addr), DG (X.blk s H scope (compEnvC scope cl C X.env) fp) tg us g) (ht : ∀ (s : Shared) (H : Hp) (C : Addr) (cl : List (Str × Addr)) (fp : List Addr), DTs (X.blk s H scope (compEnvC scope cl C X.env) fp) ifs c)
    (he : ∀ (s : Shared) (H : Hp) (C : Addr) (cl : List (Str × Addr)) (fp : List Addr), DE (X.blk s H scope (compEnvC scope cl C X.env) fp) elt f) (hsw : swapsWith (.ListComp elt [⟨tg, iter, ifs, 0⟩] scope pos) (some (.Name y py)) spos.line X.env = pure true) (hy : X.N[i]? = some y := by rfl) (hyl : X.env.scope.names.lookup y = some .local := by rfl) (ok : blkC X.N X.env.scope scope own = true := by kernel_rfl) (hus : ∀ i ∈ us, i ∈ own.map (·.2) := by decide)
    (hs : ∀ x, foldedSetIterable iter X.env x = pure x := by intro _; rfl) : DS X (.Assign [.Name y py] (.ListComp elt [⟨tg, iter, ifs, 0⟩] scope pos) spos) (sNewS (fWp vs (fBorN j (fnLc fi g c f (own.map (·.2))))) i) := by
  obtain ⟨wi, pi, si⟩ := hi.ex
  refine .of (ps_setLc (g := tG (wd X) us g) (tt := tT (wd X) c) (te := tE (wd X) f) hc hN hy hyl hsw pi (blkOk_by ok) (fun s H C cl fp => (hg s H C cl fp).run) (fun s H C cl fp => (ht s H C cl fp).run) (fun s H C cl fp => (he s H C cl fp).run) hs) fun G F ρ σ H E E' R hf okE => ?_
  refine snd_wp vs (snd_borN j (snd_lc si hus)) G F ρ σ H _ _ R hf fun o ρ' F' H' a q k R' => ?_
  obtain ⟨F2, s2, R2, v2⟩ := R'.stand
  exact okE.nx _ F2 _ H' q.2 (k.trans s2) (R2.setV q.1 v2)
theorem dt_ownNe (i : Nat) (hu : X.A.units + 64 < cLine) (he : DE X e f2) (hN : X.N[i]? = some x := by rfl) (hv : Vis X.env.scope x := by first | exact Or.inl rfl | exact Or.inr (Or.inl rfl) | exact Or.inr (Or.inr rfl)) (hd : (x == ("__debug__" : Str)) = false := by decide)
    (hcd : (x == ("__classdict__" : Str)) = false := by decide) (hm : behindInMarks .NotEq e = false := by first | exact nobehind _ (by decide) (by decide) | rfl) : DT X (.Compare (.Name x p) [.NotEq] [e] pos) (fTest (fOwnEq true i f2)) := by
  obtain ⟨t2, p2, s2⟩ := he.ex
  refine .of (pt_cmpR (op_neD hu) (pv i hN hv hd hcd) p2 hm) (snd_test fun G F ρ σ H Q Q' R hf hq => ?_)
  obtain ⟨o, ho⟩ := Option.isSome_iff_exists.mp hf.1
  obtain ⟨ad, _, ha, _⟩ := R.ownAt ho
  refine ⟨.ref ad, ha, ?_⟩
  refine s2 G F ρ σ H _ _ R hf.2 fun r ρ1 F1 H1 v q1 k1 R1 w1 => ?_
  split at q1
  · rename_i ds y e1
    obtain ⟨a2, h2, z1, z2, z3, vs, rfl, z4⟩ := R1.ownAt e1
    rw [ha] at z1; cases z1
    exact ⟨.list ds, y, Dp.lst (SqL.of z3) (DpAll.mono R1.sub _ _ z4), Dp.mono R1.sub _ _ w1, q1.1, q1.2.1, hq _ ρ1 F1 H1 _ q1.2.2 k1 R1 (Dp.bl _)⟩
  · exact q1.elim
theorem dt_ownD0 (i : Nat) (hu : X.A.units + 64 < cLine) (hN : X.N[i]? = some x := by rfl) (hv : Vis X.env.scope x := by first | exact Or.inl rfl | exact Or.inr (Or.inl rfl) | exact Or.inr (Or.inr rfl)) (hd : (x == ("__debug__" : Str)) = false := by decide)
    (hcd : (x == ("__classdict__" : Str)) = false := by decide) (hm : behindInMarks .Eq (.Dict [] [] dp) = false := by first | exact nobehind _ (by decide) (by decide) | rfl) : DT X (.Compare (.Name x p) [.Eq] [.Dict [] [] dp] pos) (fTest (fOwnD0 i)) := by
  refine .of (pt_cmpR (op_eq0 hu) (pv i hN hv hd hcd) pe_d0 hm) (snd_test fun G F ρ σ H Q Q' R hf hq => ?_)
  unfold fOwnD0 at hf
  split at hf
  · rename_i kvs e
    obtain ⟨ad, h0, ha, _, _, _⟩ := R.ownAt e
    refine ⟨.ref ad, ha, fun b hb hsys => ?_⟩
    have R1 := R.alloc hb (exO b ob0)
    obtain ⟨ad', h1, ha', z2, z3, z4⟩ := R1.ownAt e
    rw [ha] at ha'; cases ha'
    exact ⟨_, ad, b, ob0, kvs, rfl, rfl, DAt.ofRep R1.sub z3 z4, upd_same, hsys, ⟨rfl, rfl, rfl⟩, ⟨_, rfl⟩, hq _ _ _ _ _ hf (same_upd (R.nofree hb).1) R1 (Dp.bl _)⟩
  · exact hf.elim
end
end Aq
/-! B25: good moves, late sensors. -/
namespace Aq
open PySem PySem.Spec PyProof.Rows L2
def movedP (p : Pl) (n : Int) : Pl := ⟨p.h, ⟨p.c.low + n, p.c.high + n, p.c.on, p.c.off, p.c.power⟩, p.late, p.step, p.wl, p.wh, p.bar, p.beg⟩
def lateP (p : Pl) (k : Int) : Pl := ⟨p.h, p.c, k, p.step, p.wl, p.wh, p.bar, p.beg⟩
theorem lateP_ok {p : Pl} (ok : p.ok) {k : Int} (h0 : 0 ≤ k) (h2 : k ≤ 2) : (lateP p k).ok := ⟨ok.h, ok.c, h0, h2, ok.st1, ok.st3, ok.w0, ok.w1, ok.w2, ok.bar, ok.b0, ok.b15⟩
theorem movedP_ok {p : Pl} (ok : p.ok) {n : Int} (h0 : 0 ≤ n) : (movedP p n).ok ↔ p.c.high + n ≤ 15 := by
  constructor
  · exact fun h => h.c.h15
  · intro h
    have l0 := ok.c.l0
    have lh := ok.c.lh
    exact ⟨ok.h, ⟨by show 0 ≤ p.c.low + n; omega, by show p.c.low + n < p.c.high + n; omega, h, ok.c.on1, ok.c.on3, ok.c.off1, ok.c.off3, ok.c.p1, ok.c.p4⟩, ok.la0, ok.la2, ok.st1, ok.st3, ok.w0, ok.w1, ok.w2, ok.bar, ok.b0, ok.b15⟩
theorem movedP_is {p : Pl} (ok : p.ok) {n : Int} (h0 : 0 ≤ n) : isPlan (movedP p n).d = decide (p.c.high + n < 16) := by
  rw [Bool.eq_iff_iff, isPlan_d, movedP_ok ok h0, decide_eq_true_eq]
  omega
def fightB (p : Pl) : Bool := ((ringsOf p).find? fun l => (anyH p l == true) && (anyC p l == true)).isSome
def wellB (p : Pl) (lo hi : Int) : Bool := ((standsOf p).all fun s => !bothB p s && (decide (lo ≤ s.w) && decide (s.w ≤ hi))) && !fightB p
theorem both_none (p : Pl) : isNone (bothR p) = (standsOf p).all fun s => !bothB p s := by
  unfold bothR standsOf
  rw [List.all_map]
  have h : (((waysOf p).find? fun e => bothB p e.1).isNone) = (waysOf p).all ((fun s => !bothB p s) ∘ fun e => e.1) := by
    rw [Bool.eq_iff_iff, Option.isNone_iff_eq_none, List.find?_eq_none, List.all_eq_true]
    simp
  rw [← h]
  cases (waysOf p).find? fun e => bothB p e.1 <;> rfl
theorem fight_none (p : Pl) : isNone (wishR p true true) = !fightB p := by
  unfold wishR stillR fightB
  cases (ringsOf p).find? fun l => (anyH p l == true) && (anyC p l == true) <;> rfl
theorem within {p : Pl} {a b lo hi : Int} (h1 : IsMin (warmths p) a) (h2 : IsMax (warmths p) b) : (decide (lo ≤ a) && decide (b ≤ hi)) = (standsOf p).all fun s => decide (lo ≤ s.w) && decide (s.w ≤ hi) := by
  have hw : warmths p = (standsOf p).map (·.w) := by unfold warmths standsOf; rw [List.map_map]; rfl
  rw [hw] at h1 h2
  rw [Bool.eq_iff_iff]
  simp only [Bool.and_eq_true, decide_eq_true_eq, List.all_eq_true]
  constructor
  · rintro ⟨z1, z2⟩ s hs
    have := h1.2 _ (List.mem_map.mpr ⟨s, hs, rfl⟩)
    have := h2.2 _ (List.mem_map.mpr ⟨s, hs, rfl⟩)
    omega
  · intro z
    obtain ⟨s, hs, e⟩ := List.mem_map.mp h1.1
    obtain ⟨t, ht, e2⟩ := List.mem_map.mp h2.1
    have q1 := z s hs
    have q2 := z t ht
    omega
theorem well_split (p : Pl) (lo hi : Int) : wellB p lo hi = (((standsOf p).all fun s => !bothB p s) && (!fightB p && (standsOf p).all fun s => decide (lo ≤ s.w) && decide (s.w ≤ hi))) := by
  unfold wellB
  have : ∀ l : List Stn, (l.all fun s => !bothB p s && (decide (lo ≤ s.w) && decide (s.w ≤ hi))) = ((l.all fun s => !bothB p s) && l.all fun s => decide (lo ≤ s.w) && decide (s.w ≤ hi)) := fun l => by
    induction l with
    | nil => rfl
    | cons x xs ih =>
      rw [List.all_cons, List.all_cons, List.all_cons, ih]
      cases bothB p x <;> cases (decide (lo ≤ x.w) && decide (x.w ≤ hi)) <;> simp
  rw [this]
  cases (standsOf p).all fun s => !bothB p s <;> cases fightB p <;> simp
def movesL (p : Pl) (lo hi : Int) : List Int := ((List.range 16).map fun i : Nat => (i : Int)).filter fun n => decide (p.c.high + n < 16) && wellB (movedP p n) lo hi
def fn_with_move : Fn := fun ss Q => ∃ (p : Pl) (n : Int), ss = [.d p.d, .d (.int n)] ∧ Q (.d (movedP p n).d)
def fn_is_good : Fn := fun ss Q => ∃ (p : Pl) (lo hi : Int), ss = [.d p.d, .d (.int lo), .d (.int hi)] ∧ Q (.d (.bool (isPlan p.d && wellB p lo hi)))
def fn_good_moves : Fn := fun ss Q => ∃ (p : Pl) (lo hi : Int), ss = [.d p.d, .d (.int lo), .d (.int hi)] ∧ p.ok ∧ (0 ≤ lo ∧ lo ≤ 15) ∧ (0 ≤ hi ∧ hi ≤ 15) ∧ Q (.d (.list ((movesL p lo hi).map PyData.int)))
def minW (p : Pl) : Int := -(maxL ((warmths p).map fun w => -w))
def extD (p : Pl) : D := .tuple [.int (minW p), .int (maxL (warmths p))]
def fn_late_costs : Fn := fun ss Q => ∃ p : Pl, ss = [.d p.d] ∧ p.ok ∧ Q (.d (.tuple [extD (lateP p 0), extD (lateP p 1), extD (lateP p 2)]))
def fn__law_well : Fn := fun ss Q => ∃ (p : Pl) (lo hi : Int), ss = [.d p.d, .d (.int lo), .d (.int hi)] ∧ p.ok ∧ Q (.d (.bool (wellB p lo hi)))
theorem n_with_move : ∀ ss Q, fn_with_move ss Q → ss.length = 2 := by
  rintro ss Q ⟨p, n, rfl, _⟩; rfl
theorem n_is_good : ∀ ss Q, fn_is_good ss Q → ss.length = 3 := by
  rintro ss Q ⟨p, n, m, rfl, _⟩; rfl
theorem n_good_moves : ∀ ss Q, fn_good_moves ss Q → ss.length = 3 := by
  rintro ss Q ⟨p, n, m, rfl, _⟩; rfl
theorem n__law_well : ∀ ss Q, fn__law_well ss Q → ss.length = 3 := by
  rintro ss Q ⟨p, n, m, rfl, _⟩; rfl
theorem n_late_costs : ∀ ss Q, fn_late_costs ss Q → ss.length = 1 := by
  rintro ss Q ⟨p, rfl, _⟩; rfl
def g_with_move : FS := (sSeq (sAsg (fOp fIx (fVar 0) (fC (.int 1))) (gTp 5 (gsCons (gNm 2) (gsCons (gNm 3) (gsCons (gNm 4) (gsCons (gNm 5) (gsCons (gNm 6) gsNil)))))))
    (sRet (fOp fAdd (fTup (fCons (fOp fIx (fVar 0) (fC (.int 0))) (fCons (fTup (fCons (fOp fAdd (fVar 2) (fVar 1)) (fCons (fOp fAdd (fVar 3) (fVar 1)) (fCons (fVar 4) (fCons (fVar 5) (fCons (fVar 6) fNil)))))) fNil))) (fSl (fVar 0) (fPart (fC (.int 2))) fNoPart))))
def g_is_good : FS := (sSeq (sIf (fOr (fNot (fTest (fCall fn_is_plan (fCons (fVar 0) fNil)))) (fOr (fTest (fOp (fIsN true) (fCall fn_both_by (fCons (fVar 0) fNil)) (fC .none))) (fTest (fOp (fIsN true) (fCall fn_fight_by (fCons (fVar 0) fNil)) (fC .none))))) (sRet (fC (.bool false))) sNext)
    (sSeq (sAsg (fCall fn_extremes_by (fCons (fVar 0) fNil)) (gTp 2 (gsCons (gNm 3) (gsCons (gNm 4) gsNil))))
    (sRet (fAndV (fOp (f2I TT2 fun i j => .bool (decide (i ≤ j))) (fVar 1) (fVar 3)) (fOp (f2I TT2 fun i j => .bool (decide (i ≤ j))) (fVar 4) (fVar 2))))))
def g_good_moves : FS := (sSeq (sExpr (fCall fn_look_at_plan (fCons (fVar 0) fNil)))
    (sSeq (sExpr (fCall fn_look_at_warmth (fCons (fVar 1) fNil)))
    (sSeq (sExpr (fCall fn_look_at_warmth (fCons (fVar 2) fNil)))
    (sRet (fStill (fnLc (fiR1 (fCons (fOp fAdd (fRaw (.d (.int 15))) (fC (.int 1))) fNil)) (gNm 3) (fTest (fCall fn_is_good (fCons (fCall fn_with_move (fCons (fVar 0) (fCons (fVar 3) fNil))) (fCons (fVar 1) (fCons (fVar 2) fNil))))) (fVar 3) [3]))))))
def g_late_costs : FS := (sSeq (sExpr (fCall fn_look_at_plan (fCons (fVar 0) fNil)))
    (sRet (fCall fTupOf (fCons (fStill (fnLc (fiR1 (fCons (fC (.int 3)) fNil)) (gNm 1) fYes (fCall fn_extremes_by (fCons (fOp fAdd (fOp fAdd (fSl (fVar 0) fNoPart (fPart (fC (.int 2)))) (fTup (fCons (fTup (fCons (fVar 1) (fCons (fOp fIx (fOp fIx (fVar 0) (fC (.int 2))) (fC (.int 1))) fNil))) fNil))) (fSl (fVar 0) (fPart (fC (.int 3))) fNoPart)) fNil)) [1])) fNil))))
def g__law_well_1 : FS := (sRet (fOp (fInD true) (fTup (fCons (fC (.bool true)) (fCons (fC (.bool true)) fNil))) (fCall fn__law_still (fCons (fVar 0) fNil))))
def g__law_well_2 : FS := (sIf (fOr (fNot (fTest (fChain (f2I TT2 fun i j => .bool (decide (i ≤ j))) (f2I TT2 fun i j => .bool (decide (i ≤ j))) (fVar 1) (fOp fIx (fVar 3) (fC (.int 0))) (fVar 2)))) (fTest (fOp (fEq false) (fCall fn__law_on (fCons (fVar 0) (fCons (fVar 3) fNil))) (fTup (fCons (fC (.bool true)) (fCons (fC (.bool true)) fNil)))))) (sRet (fC (.bool false))) sNext)
def g__law_well : FS := (sSeq (sFor (fiKeysZ (fStill (fCallN fn__law_ways (fCons (fVar 0) fNil)))) (gNm 3) g__law_well_2)
    g__law_well_1)
theorem warm_pos (p : Pl) : 0 < (warmths p).length := by
  unfold warmths
  rw [List.length_map]
  exact ways_pos p
theorem minW_is (p : Pl) : IsMin (warmths p) (minW p) := by
  have h := maxL_max (ns := (warmths p).map fun w => -w) (by rw [List.length_map]; exact warm_pos p)
  obtain ⟨w, hw, e⟩ := List.mem_map.mp h.1
  refine ⟨?_, fun n hn => ?_⟩
  · unfold minW
    rw [← e]
    simpa using hw
  · have := h.2 (-n) (List.mem_map.mpr ⟨n, hn, rfl⟩)
    unfold minW
    omega
theorem ext_is {p : Pl} (ok : p.ok) {Q : S → Prop} (h : Q (.d (extD p))) : fn_extremes_by [.d p.d] Q := by
  unfold fn_extremes_by
  simp only [planOf_d]
  refine ⟨ok, fun lo hi h1 h2 => ?_⟩
  rw [IsMin.eq h1 (minW_is p), IsMax.eq h2 (maxL_max (warm_pos p))]
  exact h
theorem d_with_move (ss : List S) (Q' : S → Prop) (h : fn_with_move ss Q') : g_with_move (EF Q') (slots0 7 ss) := by
  obtain ⟨p, n, rfl, h⟩ := h
  have c1 : atI [p.h.d, p.c.d, .tuple [.int p.late, .int p.step], .tuple [.int p.wl, .int p.wh], .str p.bar, .int p.beg] 1 = some p.c.d := rfl
  have c0 : atI [p.h.d, p.c.d, .tuple [.int p.late, .int p.step], .tuple [.int p.wl, .int p.wh], .str p.bar, .int p.beg] 0 = some p.h.d := rfl
  have c2 : cut [p.h.d, p.c.d, PyData.tuple [.int p.late, .int p.step], .tuple [.int p.wl, .int p.wh], .str p.bar, .int p.beg] (some 2) none = [.tuple [.int p.late, .int p.step], .tuple [.int p.wl, .int p.wh], .str p.bar, .int p.beg] := rfl
  have ed : p.d = .tuple [p.h.d, p.c.d, .tuple [.int p.late, .int p.step], .tuple [.int p.wl, .int p.wh], .str p.bar, .int p.beg] := rfl
  have ec : p.c.d = .tuple [.int p.c.low, .int p.c.high, .int p.c.on, .int p.c.off, .int p.c.power] := rfl
  rw [ed]
  simp [g_with_move, c1, sSeq, sRet, sRetN, sRetW, sIf, sNext, sNever, sExpr, sAsg, sNew, sNewS, sPar, sPar3, sApp, sSetIx, sDPut, sPar3W, fnD0, fnD1, fnOwn, fIxDN, fInDN, fIxZ, fInZ, fLenZ, fListZ, fGetZ, fMaxL, fMinL, fVar, fC, fRaw, fNil, fCons, fTup, fLst, fOp, fTest, fChain, fAnd, fOr, fNot, fAndV, fOrV, fNotV, fIf, fIfT, fStill, still, fnLst, gNm, gTp, gsCons, gsNil, fCall, fCallO, fCallN, fIxN, fLenN, fSl, fPart, fNoPart, fNeg, fIsi, fIsi2, fLen, fAbs, fInt, fMax2, fMin2, fTupOf, fListOf, fSorted, fLstR, fAll, fAny, fIx, fIn, fEq, fIsN, fAdd, fMul, f2I, unD, slots0, settable, ownAt, owned, lentEnd, fiLst, fiTup, fiR1, fiR2, fiZip, fiZip3, fiKeysZ, fiItemsZ, fYes, wipeS, sMix, fmNil, fmS, fmN, setM, Mx.slot, fnDc, fFz, fSlN, fLenDN, fPopN, fSum, fMaxVals, fListVals, fDictOf, fGetDN, fPopDN, fiIf, fInD, fAct, fHand, fBorN, fWp, fOwnEq, fOwnD0, gDPut, fIxR, fnDcL, sAppR, isHp, hpNot, hpAdd, hpSet, hpL]
  rw [ec]
  simp [c0, c1, sSeq, sRet, sRetN, sRetW, sIf, sNext, sNever, sExpr, sAsg, sNew, sNewS, sPar, sPar3, sApp, sSetIx, sDPut, sPar3W, fnD0, fnD1, fnOwn, fIxDN, fInDN, fIxZ, fInZ, fLenZ, fListZ, fGetZ, fMaxL, fMinL, fVar, fC, fRaw, fNil, fCons, fTup, fLst, fOp, fTest, fChain, fAnd, fOr, fNot, fAndV, fOrV, fNotV, fIf, fIfT, fStill, still, fnLst, gNm, gTp, gsCons, gsNil, fCall, fCallO, fCallN, fIxN, fLenN, fSl, fPart, fNoPart, fNeg, fIsi, fIsi2, fLen, fAbs, fInt, fMax2, fMin2, fTupOf, fListOf, fSorted, fLstR, fAll, fAny, fIx, fIn, fEq, fIsN, fAdd, fMul, f2I, unD, slots0, settable, ownAt, owned, lentEnd, fiLst, fiTup, fiR1, fiR2, fiZip, fiZip3, fiKeysZ, fiItemsZ, fYes, wipeS, sMix, fmNil, fmS, fmN, setM, Mx.slot, fnDc, fFz, fSlN, fLenDN, fPopN, fSum, fMaxVals, fListVals, fDictOf, fGetDN, fPopDN, fiIf, fInD, fAct, fHand, fBorN, fWp, fOwnEq, fOwnD0, gDPut, fIxR, fnDcL, sAppR, isHp, hpNot, hpAdd, hpSet, hpL]
  rw [← ec]
  simp [c0, c2, sizeLine_eq, sSeq, sRet, sRetN, sRetW, sIf, sNext, sNever, sExpr, sAsg, sNew, sNewS, sPar, sPar3, sApp, sSetIx, sDPut, sPar3W, fnD0, fnD1, fnOwn, fIxDN, fInDN, fIxZ, fInZ, fLenZ, fListZ, fGetZ, fMaxL, fMinL, fVar, fC, fRaw, fNil, fCons, fTup, fLst, fOp, fTest, fChain, fAnd, fOr, fNot, fAndV, fOrV, fNotV, fIf, fIfT, fStill, still, fnLst, gNm, gTp, gsCons, gsNil, fCall, fCallO, fCallN, fIxN, fLenN, fSl, fPart, fNoPart, fNeg, fIsi, fIsi2, fLen, fAbs, fInt, fMax2, fMin2, fTupOf, fListOf, fSorted, fLstR, fAll, fAny, fIx, fIn, fEq, fIsN, fAdd, fMul, f2I, unD, slots0, settable, ownAt, owned, lentEnd, fiLst, fiTup, fiR1, fiR2, fiZip, fiZip3, fiKeysZ, fiItemsZ, fYes, wipeS, sMix, fmNil, fmS, fmN, setM, Mx.slot, fnDc, fFz, fSlN, fLenDN, fPopN, fSum, fMaxVals, fListVals, fDictOf, fGetDN, fPopDN, fiIf, fInD, fAct, fHand, fBorN, fWp, fOwnEq, fOwnD0, gDPut, fIxR, fnDcL, sAppR, isHp, hpNot, hpAdd, hpSet, hpL]
  exact h
theorem d_is_good (ss : List S) (Q' : S → Prop) (h : fn_is_good ss Q') : g_is_good (EF Q') (slots0 5 ss) := by
  obtain ⟨p, lo, hi, rfl, h⟩ := h
  rw [well_split] at h
  cases hp : isPlan p.d with
  | false =>
    rw [hp] at h
    simp [g_is_good, fn_is_plan, hp, sSeq, sRet, sRetN, sRetW, sIf, sNext, sNever, sExpr, sAsg, sNew, sNewS, sPar, sPar3, sApp, sSetIx, sDPut, sPar3W, fnD0, fnD1, fnOwn, fIxDN, fInDN, fIxZ, fInZ, fLenZ, fListZ, fGetZ, fMaxL, fMinL, fVar, fC, fRaw, fNil, fCons, fTup, fLst, fOp, fTest, fChain, fAnd, fOr, fNot, fAndV, fOrV, fNotV, fIf, fIfT, fStill, still, fnLst, gNm, gTp, gsCons, gsNil, fCall, fCallO, fCallN, fIxN, fLenN, fSl, fPart, fNoPart, fNeg, fIsi, fIsi2, fLen, fAbs, fInt, fMax2, fMin2, fTupOf, fListOf, fSorted, fLstR, fAll, fAny, fIx, fIn, fEq, fIsN, fAdd, fMul, f2I, unD, slots0, settable, ownAt, owned, lentEnd, fiLst, fiTup, fiR1, fiR2, fiZip, fiZip3, fiKeysZ, fiItemsZ, fYes, wipeS, sMix, fmNil, fmS, fmN, setM, Mx.slot, fnDc, fFz, fSlN, fLenDN, fPopN, fSum, fMaxVals, fListVals, fDictOf, fGetDN, fPopDN, fiIf, fInD, fAct, fHand, fBorN, fWp, fOwnEq, fOwnD0, gDPut, fIxR, fnDcL, sAppR, isHp, hpNot, hpAdd, hpSet, hpL]
    exact h
  | true =>
    have ok := isPlan_d.mp hp
    rw [hp, Bool.true_and] at h
    have hb := both_none p
    have hf := fight_none p
    cases h1 : (standsOf p).all fun s => !bothB p s with
    | false =>
      rw [h1] at h hb
      simp [g_is_good, fn_is_plan, fn_both_by, planOf_d, ok, hp, hb, sSeq, sRet, sRetN, sRetW, sIf, sNext, sNever, sExpr, sAsg, sNew, sNewS, sPar, sPar3, sApp, sSetIx, sDPut, sPar3W, fnD0, fnD1, fnOwn, fIxDN, fInDN, fIxZ, fInZ, fLenZ, fListZ, fGetZ, fMaxL, fMinL, fVar, fC, fRaw, fNil, fCons, fTup, fLst, fOp, fTest, fChain, fAnd, fOr, fNot, fAndV, fOrV, fNotV, fIf, fIfT, fStill, still, fnLst, gNm, gTp, gsCons, gsNil, fCall, fCallO, fCallN, fIxN, fLenN, fSl, fPart, fNoPart, fNeg, fIsi, fIsi2, fLen, fAbs, fInt, fMax2, fMin2, fTupOf, fListOf, fSorted, fLstR, fAll, fAny, fIx, fIn, fEq, fIsN, fAdd, fMul, f2I, unD, slots0, settable, ownAt, owned, lentEnd, fiLst, fiTup, fiR1, fiR2, fiZip, fiZip3, fiKeysZ, fiItemsZ, fYes, wipeS, sMix, fmNil, fmS, fmN, setM, Mx.slot, fnDc, fFz, fSlN, fLenDN, fPopN, fSum, fMaxVals, fListVals, fDictOf, fGetDN, fPopDN, fiIf, fInD, fAct, fHand, fBorN, fWp, fOwnEq, fOwnD0, gDPut, fIxR, fnDcL, sAppR, isHp, hpNot, hpAdd, hpSet, hpL]
      exact h
    | true =>
      rw [h1] at h hb
      simp [g_is_good, fn_is_plan, fn_both_by, planOf_d, ok, hp, hb, sSeq, sRet, sRetN, sRetW, sIf, sNext, sNever, sExpr, sAsg, sNew, sNewS, sPar, sPar3, sApp, sSetIx, sDPut, sPar3W, fnD0, fnD1, fnOwn, fIxDN, fInDN, fIxZ, fInZ, fLenZ, fListZ, fGetZ, fMaxL, fMinL, fVar, fC, fRaw, fNil, fCons, fTup, fLst, fOp, fTest, fChain, fAnd, fOr, fNot, fAndV, fOrV, fNotV, fIf, fIfT, fStill, still, fnLst, gNm, gTp, gsCons, gsNil, fCall, fCallO, fCallN, fIxN, fLenN, fSl, fPart, fNoPart, fNeg, fIsi, fIsi2, fLen, fAbs, fInt, fMax2, fMin2, fTupOf, fListOf, fSorted, fLstR, fAll, fAny, fIx, fIn, fEq, fIsN, fAdd, fMul, f2I, unD, slots0, settable, ownAt, owned, lentEnd, fiLst, fiTup, fiR1, fiR2, fiZip, fiZip3, fiKeysZ, fiItemsZ, fYes, wipeS, sMix, fmNil, fmS, fmN, setM, Mx.slot, fnDc, fFz, fSlN, fLenDN, fPopN, fSum, fMaxVals, fListVals, fDictOf, fGetDN, fPopDN, fiIf, fInD, fAct, fHand, fBorN, fWp, fOwnEq, fOwnD0, gDPut, fIxR, fnDcL, sAppR, isHp, hpNot, hpAdd, hpSet, hpL]
      refine ⟨p, rfl, ok, ?_⟩
      cases h2 : fightB p with
      | true =>
        rw [h2] at h hf
        simp [hf, sSeq, sRet, sRetN, sRetW, sIf, sNext, sNever, sExpr, sAsg, sNew, sNewS, sPar, sPar3, sApp, sSetIx, sDPut, sPar3W, fnD0, fnD1, fnOwn, fIxDN, fInDN, fIxZ, fInZ, fLenZ, fListZ, fGetZ, fMaxL, fMinL, fVar, fC, fRaw, fNil, fCons, fTup, fLst, fOp, fTest, fChain, fAnd, fOr, fNot, fAndV, fOrV, fNotV, fIf, fIfT, fStill, still, fnLst, gNm, gTp, gsCons, gsNil, fCall, fCallO, fCallN, fIxN, fLenN, fSl, fPart, fNoPart, fNeg, fIsi, fIsi2, fLen, fAbs, fInt, fMax2, fMin2, fTupOf, fListOf, fSorted, fLstR, fAll, fAny, fIx, fIn, fEq, fIsN, fAdd, fMul, f2I, unD, slots0, settable, ownAt, owned, lentEnd, fiLst, fiTup, fiR1, fiR2, fiZip, fiZip3, fiKeysZ, fiItemsZ, fYes, wipeS, sMix, fmNil, fmS, fmN, setM, Mx.slot, fnDc, fFz, fSlN, fLenDN, fPopN, fSum, fMaxVals, fListVals, fDictOf, fGetDN, fPopDN, fiIf, fInD, fAct, fHand, fBorN, fWp, fOwnEq, fOwnD0, gDPut, fIxR, fnDcL, sAppR, isHp, hpNot, hpAdd, hpSet, hpL]
        simpa using h
      | false =>
        rw [h2] at h hf
        simp [hf, fn_extremes_by, planOf_d, ok, sSeq, sRet, sRetN, sRetW, sIf, sNext, sNever, sExpr, sAsg, sNew, sNewS, sPar, sPar3, sApp, sSetIx, sDPut, sPar3W, fnD0, fnD1, fnOwn, fIxDN, fInDN, fIxZ, fInZ, fLenZ, fListZ, fGetZ, fMaxL, fMinL, fVar, fC, fRaw, fNil, fCons, fTup, fLst, fOp, fTest, fChain, fAnd, fOr, fNot, fAndV, fOrV, fNotV, fIf, fIfT, fStill, still, fnLst, gNm, gTp, gsCons, gsNil, fCall, fCallO, fCallN, fIxN, fLenN, fSl, fPart, fNoPart, fNeg, fIsi, fIsi2, fLen, fAbs, fInt, fMax2, fMin2, fTupOf, fListOf, fSorted, fLstR, fAll, fAny, fIx, fIn, fEq, fIsN, fAdd, fMul, f2I, unD, slots0, settable, ownAt, owned, lentEnd, fiLst, fiTup, fiR1, fiR2, fiZip, fiZip3, fiKeysZ, fiItemsZ, fYes, wipeS, sMix, fmNil, fmS, fmN, setM, Mx.slot, fnDc, fFz, fSlN, fLenDN, fPopN, fSum, fMaxVals, fListVals, fDictOf, fGetDN, fPopDN, fiIf, fInD, fAct, fHand, fBorN, fWp, fOwnEq, fOwnD0, gDPut, fIxR, fnDcL, sAppR, isHp, hpNot, hpAdd, hpSet, hpL]
        intro a b ha hb'
        have hw := within (lo := lo) (hi := hi) ha hb'
        rw [← hw] at h
        by_cases q : lo ≤ a
        · simp [q] at h ⊢
          exact h
        · simp [q] at h ⊢
          exact h
theorem d_good_moves (ss : List S) (Q' : S → Prop) (h : fn_good_moves ss Q') : g_good_moves (EF Q') (slots0 4 ss) := by
  obtain ⟨p, lo, hi, rfl, ok, ⟨l0, l1⟩, ⟨h0, h1⟩, h⟩ := h
  have w1 : isWithin (.int lo) 0 15 = true := by simp [isWithin, l0, l1]
  have w2 : isWithin (.int hi) 0 15 = true := by simp [isWithin, h0, h1]
  simp [g_good_moves, fn_look_at_plan, fn_look_at_warmth, planOf_d, isPlan_d.mpr ok, w1, w2, fnLc, sSeq, sRet, sRetN, sRetW, sIf, sNext, sNever, sExpr, sAsg, sNew, sNewS, sPar, sPar3, sApp, sSetIx, sDPut, sPar3W, fnD0, fnD1, fnOwn, fIxDN, fInDN, fIxZ, fInZ, fLenZ, fListZ, fGetZ, fMaxL, fMinL, fVar, fC, fRaw, fNil, fCons, fTup, fLst, fOp, fTest, fChain, fAnd, fOr, fNot, fAndV, fOrV, fNotV, fIf, fIfT, fStill, still, fnLst, gNm, gTp, gsCons, gsNil, fCall, fCallO, fCallN, fIxN, fLenN, fSl, fPart, fNoPart, fNeg, fIsi, fIsi2, fLen, fAbs, fInt, fMax2, fMin2, fTupOf, fListOf, fSorted, fLstR, fAll, fAny, fIx, fIn, fEq, fIsN, fAdd, fMul, f2I, unD, slots0, settable, ownAt, owned, lentEnd, fiLst, fiTup, fiR1, fiR2, fiZip, fiZip3, fiKeysZ, fiItemsZ, fYes, wipeS, sMix, fmNil, fmS, fmN, setM, Mx.slot, fnDc, fFz, fSlN, fLenDN, fPopN, fSum, fMaxVals, fListVals, fDictOf, fGetDN, fPopDN, fiIf, fInD, fAct, fHand, fBorN, fWp, fOwnEq, fOwnD0, gDPut, fIxR, fnDcL, sAppR, isHp, hpNot, hpAdd, hpSet, hpL]
  unfold upto
  refine lc_gen (α := Nat) (vs := [3]) (ρ := [.d p.d, .d (.int lo), .d (.int hi), .no]) (enc := fun i => .int (0 + (i : Nat))) (ρa := fun i => [.d p.d, .d (.int lo), .d (.int hi), .d (.int (0 + (i : Nat)))]) (b := fun i => decide (p.c.high + (i : Nat) < 16) && wellB (movedP p (i : Nat)) lo hi) (h := fun i => .int (i : Nat)) (fun _ => rfl) (List.range 16) [] (by rw [sizeLine_eq]; simp) (fun a _ K z => ?_) (fun a _ Q2 h2 => ?_) (fun a _ Q2 h2 => ?_) ?_
  · simp [sSeq, sRet, sRetN, sRetW, sIf, sNext, sNever, sExpr, sAsg, sNew, sNewS, sPar, sPar3, sApp, sSetIx, sDPut, sPar3W, fnD0, fnD1, fnOwn, fIxDN, fInDN, fIxZ, fInZ, fLenZ, fListZ, fGetZ, fMaxL, fMinL, fVar, fC, fRaw, fNil, fCons, fTup, fLst, fOp, fTest, fChain, fAnd, fOr, fNot, fAndV, fOrV, fNotV, fIf, fIfT, fStill, still, fnLst, gNm, gTp, gsCons, gsNil, fCall, fCallO, fCallN, fIxN, fLenN, fSl, fPart, fNoPart, fNeg, fIsi, fIsi2, fLen, fAbs, fInt, fMax2, fMin2, fTupOf, fListOf, fSorted, fLstR, fAll, fAny, fIx, fIn, fEq, fIsN, fAdd, fMul, f2I, unD, slots0, settable, ownAt, owned, lentEnd, fiLst, fiTup, fiR1, fiR2, fiZip, fiZip3, fiKeysZ, fiItemsZ, fYes, wipeS, sMix, fmNil, fmS, fmN, setM, Mx.slot, fnDc, fFz, fSlN, fLenDN, fPopN, fSum, fMaxVals, fListVals, fDictOf, fGetDN, fPopDN, fiIf, fInD, fAct, fHand, fBorN, fWp, fOwnEq, fOwnD0, gDPut, fIxR, fnDcL, sAppR, isHp, hpNot, hpAdd, hpSet, hpL]
    simpa using z
  · simp [sSeq, sRet, sRetN, sRetW, sIf, sNext, sNever, sExpr, sAsg, sNew, sNewS, sPar, sPar3, sApp, sSetIx, sDPut, sPar3W, fnD0, fnD1, fnOwn, fIxDN, fInDN, fIxZ, fInZ, fLenZ, fListZ, fGetZ, fMaxL, fMinL, fVar, fC, fRaw, fNil, fCons, fTup, fLst, fOp, fTest, fChain, fAnd, fOr, fNot, fAndV, fOrV, fNotV, fIf, fIfT, fStill, still, fnLst, gNm, gTp, gsCons, gsNil, fCall, fCallO, fCallN, fIxN, fLenN, fSl, fPart, fNoPart, fNeg, fIsi, fIsi2, fLen, fAbs, fInt, fMax2, fMin2, fTupOf, fListOf, fSorted, fLstR, fAll, fAny, fIx, fIn, fEq, fIsN, fAdd, fMul, f2I, unD, slots0, settable, ownAt, owned, lentEnd, fiLst, fiTup, fiR1, fiR2, fiZip, fiZip3, fiKeysZ, fiItemsZ, fYes, wipeS, sMix, fmNil, fmS, fmN, setM, Mx.slot, fnDc, fFz, fSlN, fLenDN, fPopN, fSum, fMaxVals, fListVals, fDictOf, fGetDN, fPopDN, fiIf, fInD, fAct, fHand, fBorN, fWp, fOwnEq, fOwnD0, gDPut, fIxR, fnDcL, sAppR, isHp, hpNot, hpAdd, hpSet, hpL]
    refine ⟨p, a, rfl, movedP p a, lo, hi, rfl, ?_⟩
    rw [movedP_is ok (by omega)]
    simp
    simpa using h2
  · simp [sSeq, sRet, sRetN, sRetW, sIf, sNext, sNever, sExpr, sAsg, sNew, sNewS, sPar, sPar3, sApp, sSetIx, sDPut, sPar3W, fnD0, fnD1, fnOwn, fIxDN, fInDN, fIxZ, fInZ, fLenZ, fListZ, fGetZ, fMaxL, fMinL, fVar, fC, fRaw, fNil, fCons, fTup, fLst, fOp, fTest, fChain, fAnd, fOr, fNot, fAndV, fOrV, fNotV, fIf, fIfT, fStill, still, fnLst, gNm, gTp, gsCons, gsNil, fCall, fCallO, fCallN, fIxN, fLenN, fSl, fPart, fNoPart, fNeg, fIsi, fIsi2, fLen, fAbs, fInt, fMax2, fMin2, fTupOf, fListOf, fSorted, fLstR, fAll, fAny, fIx, fIn, fEq, fIsN, fAdd, fMul, f2I, unD, slots0, settable, ownAt, owned, lentEnd, fiLst, fiTup, fiR1, fiR2, fiZip, fiZip3, fiKeysZ, fiItemsZ, fYes, wipeS, sMix, fmNil, fmS, fmN, setM, Mx.slot, fnDc, fFz, fSlN, fLenDN, fPopN, fSum, fMaxVals, fListVals, fDictOf, fGetDN, fPopDN, fiIf, fInD, fAct, fHand, fBorN, fWp, fOwnEq, fOwnD0, gDPut, fIxR, fnDcL, sAppR, isHp, hpNot, hpAdd, hpSet, hpL]
    simpa using h2
  · rw [List.nil_append]
    unfold movesL at h
    rw [List.filter_map, List.map_map] at h
    exact h
theorem d_late_costs (ss : List S) (Q' : S → Prop) (h : fn_late_costs ss Q') : g_late_costs (EF Q') (slots0 2 ss) := by
  obtain ⟨p, rfl, ok, h⟩ := h
  have c2 : atI [p.h.d, p.c.d, .tuple [.int p.late, .int p.step], .tuple [.int p.wl, .int p.wh], .str p.bar, .int p.beg] 2 = some (.tuple [.int p.late, .int p.step]) := rfl
  have k1 : cut [p.h.d, p.c.d, PyData.tuple [.int p.late, .int p.step], .tuple [.int p.wl, .int p.wh], .str p.bar, .int p.beg] none (some 2) = [p.h.d, p.c.d] := rfl
  have k2 : cut [p.h.d, p.c.d, PyData.tuple [.int p.late, .int p.step], .tuple [.int p.wl, .int p.wh], .str p.bar, .int p.beg] (some 3) none = [.tuple [.int p.wl, .int p.wh], .str p.bar, .int p.beg] := rfl
  have ed : p.d = .tuple [p.h.d, p.c.d, .tuple [.int p.late, .int p.step], .tuple [.int p.wl, .int p.wh], .str p.bar, .int p.beg] := rfl
  simp [g_late_costs, fn_look_at_plan, planOf_d, isPlan_d.mpr ok, fnLc, sSeq, sRet, sRetN, sRetW, sIf, sNext, sNever, sExpr, sAsg, sNew, sNewS, sPar, sPar3, sApp, sSetIx, sDPut, sPar3W, fnD0, fnD1, fnOwn, fIxDN, fInDN, fIxZ, fInZ, fLenZ, fListZ, fGetZ, fMaxL, fMinL, fVar, fC, fRaw, fNil, fCons, fTup, fLst, fOp, fTest, fChain, fAnd, fOr, fNot, fAndV, fOrV, fNotV, fIf, fIfT, fStill, still, fnLst, gNm, gTp, gsCons, gsNil, fCall, fCallO, fCallN, fIxN, fLenN, fSl, fPart, fNoPart, fNeg, fIsi, fIsi2, fLen, fAbs, fInt, fMax2, fMin2, fTupOf, fListOf, fSorted, fLstR, fAll, fAny, fIx, fIn, fEq, fIsN, fAdd, fMul, f2I, unD, slots0, settable, ownAt, owned, lentEnd, fiLst, fiTup, fiR1, fiR2, fiZip, fiZip3, fiKeysZ, fiItemsZ, fYes, wipeS, sMix, fmNil, fmS, fmN, setM, Mx.slot, fnDc, fFz, fSlN, fLenDN, fPopN, fSum, fMaxVals, fListVals, fDictOf, fGetDN, fPopDN, fiIf, fInD, fAct, fHand, fBorN, fWp, fOwnEq, fOwnD0, gDPut, fIxR, fnDcL, sAppR, isHp, hpNot, hpAdd, hpSet, hpL]
  unfold upto
  refine lc_gen (α := Nat) (vs := [1]) (ρ := [.d p.d, .no]) (enc := fun i => .int (0 + (i : Nat))) (ρa := fun i => [.d p.d, .d (.int (0 + (i : Nat)))]) (b := fun _ => true) (h := fun i => extD (lateP p (i : Nat))) (fun _ => rfl) (List.range 3) [] (by rw [sizeLine_eq]; simp) (fun a _ K z => ?_) (fun a _ Q2 h2 => h2) (fun a ha Q2 h2 => ?_) ?_
  · simp [sSeq, sRet, sRetN, sRetW, sIf, sNext, sNever, sExpr, sAsg, sNew, sNewS, sPar, sPar3, sApp, sSetIx, sDPut, sPar3W, fnD0, fnD1, fnOwn, fIxDN, fInDN, fIxZ, fInZ, fLenZ, fListZ, fGetZ, fMaxL, fMinL, fVar, fC, fRaw, fNil, fCons, fTup, fLst, fOp, fTest, fChain, fAnd, fOr, fNot, fAndV, fOrV, fNotV, fIf, fIfT, fStill, still, fnLst, gNm, gTp, gsCons, gsNil, fCall, fCallO, fCallN, fIxN, fLenN, fSl, fPart, fNoPart, fNeg, fIsi, fIsi2, fLen, fAbs, fInt, fMax2, fMin2, fTupOf, fListOf, fSorted, fLstR, fAll, fAny, fIx, fIn, fEq, fIsN, fAdd, fMul, f2I, unD, slots0, settable, ownAt, owned, lentEnd, fiLst, fiTup, fiR1, fiR2, fiZip, fiZip3, fiKeysZ, fiItemsZ, fYes, wipeS, sMix, fmNil, fmS, fmN, setM, Mx.slot, fnDc, fFz, fSlN, fLenDN, fPopN, fSum, fMaxVals, fListVals, fDictOf, fGetDN, fPopDN, fiIf, fInD, fAct, fHand, fBorN, fWp, fOwnEq, fOwnD0, gDPut, fIxR, fnDcL, sAppR, isHp, hpNot, hpAdd, hpSet, hpL]
    simpa using z
  · have ha := List.mem_range.mp ha
    rw [ed]
    simp [c2, k1, k2, at1, sizeLine_eq, sSeq, sRet, sRetN, sRetW, sIf, sNext, sNever, sExpr, sAsg, sNew, sNewS, sPar, sPar3, sApp, sSetIx, sDPut, sPar3W, fnD0, fnD1, fnOwn, fIxDN, fInDN, fIxZ, fInZ, fLenZ, fListZ, fGetZ, fMaxL, fMinL, fVar, fC, fRaw, fNil, fCons, fTup, fLst, fOp, fTest, fChain, fAnd, fOr, fNot, fAndV, fOrV, fNotV, fIf, fIfT, fStill, still, fnLst, gNm, gTp, gsCons, gsNil, fCall, fCallO, fCallN, fIxN, fLenN, fSl, fPart, fNoPart, fNeg, fIsi, fIsi2, fLen, fAbs, fInt, fMax2, fMin2, fTupOf, fListOf, fSorted, fLstR, fAll, fAny, fIx, fIn, fEq, fIsN, fAdd, fMul, f2I, unD, slots0, settable, ownAt, owned, lentEnd, fiLst, fiTup, fiR1, fiR2, fiZip, fiZip3, fiKeysZ, fiItemsZ, fYes, wipeS, sMix, fmNil, fmS, fmN, setM, Mx.slot, fnDc, fFz, fSlN, fLenDN, fPopN, fSum, fMaxVals, fListVals, fDictOf, fGetDN, fPopDN, fiIf, fInD, fAct, fHand, fBorN, fWp, fOwnEq, fOwnD0, gDPut, fIxR, fnDcL, sAppR, isHp, hpNot, hpAdd, hpSet, hpL]
    refine ext_is (p := lateP p a) (lateP_ok ok (by omega) (by omega)) ?_
    rw [ed] at h2
    simpa using h2
  · rw [List.nil_append, filt_all]
    exact h
theorem any_pairs {p : Pl} (ok : p.ok) : ((ringsOf p).map (pairD p)).any (fun y => y.eqv (.tuple [.bool true, .bool true])) = fightB p := by
  rw [List.any_map]
  unfold fightB
  rw [find_any]
  congr 1
  funext l
  exact pair_eqv p l true true
theorem ringsGo_len (p : Pl) : ∀ l seen : List Stn, (ringsGo p l seen).length ≤ l.length
  | [], _ => Nat.le_refl _
  | s :: l, seen => by
    unfold ringsGo
    rw [List.length_append, List.length_cons]
    have h1 := ringsGo_len p l (seen ++ (roadOf p seen s).1)
    have h2 : (if (roadOf p seen s).2 ∈ (roadOf p seen s).1 then [(roadOf p seen s).1.drop ((roadOf p seen s).1.idxOf (roadOf p seen s).2)] else []).length ≤ 1 := by split <;> simp
    omega
theorem rings_shaped {p : Pl} (ok : p.ok) : SeqAt.shaped (.list ((ringsOf p).map (pairD p))) = true := by
  have : (ringsOf p).length ≤ 262144 := by
    unfold ringsOf
    split
    · exact Nat.le_trans (ringsGo_len p _ _) (stands_len ok)
    · simp
  refine shaped_low (n := 2) ?_ (by decide)
  simp only [low, Bool.and_eq_true, decide_eq_true_eq, List.length_map]
  refine ⟨by omega, lowL_iff.mpr fun x hx => ?_⟩
  obtain ⟨l, hl, rfl⟩ := List.mem_map.mp hx
  unfold pairD
  simp [low, lowL]
theorem d__law_well (ss : List S) (Q' : S → Prop) (h : fn__law_well ss Q') : g__law_well (EF Q') (slots0 4 ss) := by
  obtain ⟨p, lo, hi, rfl, ok, h⟩ := h
  unfold g__law_well sSeq
  rw [sFor_eq]
  simp [fn__law_ways, fn_ways_by, planOf_d, ok, stands_keys, sSeq, sRet, sRetN, sRetW, sIf, sNext, sNever, sExpr, sAsg, sNew, sNewS, sPar, sPar3, sApp, sSetIx, sDPut, sPar3W, fnD0, fnD1, fnOwn, fIxDN, fInDN, fIxZ, fInZ, fLenZ, fListZ, fGetZ, fMaxL, fMinL, fVar, fC, fRaw, fNil, fCons, fTup, fLst, fOp, fTest, fChain, fAnd, fOr, fNot, fAndV, fOrV, fNotV, fIf, fIfT, fStill, still, fnLst, gNm, gTp, gsCons, gsNil, fCall, fCallO, fCallN, fIxN, fLenN, fSl, fPart, fNoPart, fNeg, fIsi, fIsi2, fLen, fAbs, fInt, fMax2, fMin2, fTupOf, fListOf, fSorted, fLstR, fAll, fAny, fIx, fIn, fEq, fIsN, fAdd, fMul, f2I, unD, slots0, settable, ownAt, owned, lentEnd, fiLst, fiTup, fiR1, fiR2, fiZip, fiZip3, fiKeysZ, fiItemsZ, fYes, wipeS, sMix, fmNil, fmS, fmN, setM, Mx.slot, fnDc, fFz, fSlN, fLenDN, fPopN, fSum, fMaxVals, fListVals, fDictOf, fGetDN, fPopDN, fiIf, fInD, fAct, fHand, fBorN, fWp, fOwnEq, fOwnD0, gDPut, fIxR, fnDcL, sAppR, isHp, hpNot, hpAdd, hpSet, hpL]
  refine sForB_go ?_
  have fin : ∀ s3 : S, Q' (.d (.bool (!fightB p))) → g__law_well_1 (EF Q') [.d p.d, .d (.int lo), .d (.int hi), s3] := fun s3 z => by
    unfold g__law_well_1
    simp [sizeLine_eq, sSeq, sRet, sRetN, sRetW, sIf, sNext, sNever, sExpr, sAsg, sNew, sNewS, sPar, sPar3, sApp, sSetIx, sDPut, sPar3W, fnD0, fnD1, fnOwn, fIxDN, fInDN, fIxZ, fInZ, fLenZ, fListZ, fGetZ, fMaxL, fMinL, fVar, fC, fRaw, fNil, fCons, fTup, fLst, fOp, fTest, fChain, fAnd, fOr, fNot, fAndV, fOrV, fNotV, fIf, fIfT, fStill, still, fnLst, gNm, gTp, gsCons, gsNil, fCall, fCallO, fCallN, fIxN, fLenN, fSl, fPart, fNoPart, fNeg, fIsi, fIsi2, fLen, fAbs, fInt, fMax2, fMin2, fTupOf, fListOf, fSorted, fLstR, fAll, fAny, fIx, fIn, fEq, fIsN, fAdd, fMul, f2I, unD, slots0, settable, ownAt, owned, lentEnd, fiLst, fiTup, fiR1, fiR2, fiZip, fiZip3, fiKeysZ, fiItemsZ, fYes, wipeS, sMix, fmNil, fmS, fmN, setM, Mx.slot, fnDc, fFz, fSlN, fLenDN, fPopN, fSum, fMaxVals, fListVals, fDictOf, fGetDN, fPopDN, fiIf, fInD, fAct, fHand, fBorN, fWp, fOwnEq, fOwnD0, gDPut, fIxR, fnDcL, sAppR, isHp, hpNot, hpAdd, hpSet, hpL]
    refine ⟨p, rfl, ok, ?_⟩
    simp [two_shaped, rings_shaped ok, any_pairs ok, sSeq, sRet, sRetN, sRetW, sIf, sNext, sNever, sExpr, sAsg, sNew, sNewS, sPar, sPar3, sApp, sSetIx, sDPut, sPar3W, fnD0, fnD1, fnOwn, fIxDN, fInDN, fIxZ, fInZ, fLenZ, fListZ, fGetZ, fMaxL, fMinL, fVar, fC, fRaw, fNil, fCons, fTup, fLst, fOp, fTest, fChain, fAnd, fOr, fNot, fAndV, fOrV, fNotV, fIf, fIfT, fStill, still, fnLst, gNm, gTp, gsCons, gsNil, fCall, fCallO, fCallN, fIxN, fLenN, fSl, fPart, fNoPart, fNeg, fIsi, fIsi2, fLen, fAbs, fInt, fMax2, fMin2, fTupOf, fListOf, fSorted, fLstR, fAll, fAny, fIx, fIn, fEq, fIsN, fAdd, fMul, f2I, unD, slots0, settable, ownAt, owned, lentEnd, fiLst, fiTup, fiR1, fiR2, fiZip, fiZip3, fiKeysZ, fiItemsZ, fYes, wipeS, sMix, fmNil, fmS, fmN, setM, Mx.slot, fnDc, fFz, fSlN, fLenDN, fPopN, fSum, fMaxVals, fListVals, fDictOf, fGetDN, fPopDN, fiIf, fInD, fAct, fHand, fBorN, fWp, fOwnEq, fOwnD0, gDPut, fIxR, fnDcL, sAppR, isHp, hpNot, hpAdd, hpSet, hpL]
    exact z
  have go : ∀ (l : List Stn) (s3 : S), (∀ s ∈ l, s ∈ standsOf p) → np s3 → Q' (.d (.bool ((l.all fun s => !bothB p s && (decide (lo ≤ s.w) && decide (s.w ≤ hi))) && !fightB p))) →
      forGo (gNm 3) g__law_well_2 { nx := g__law_well_1 (EF Q'), rt := (EF Q').rt } (l.map Stn.d) [.d p.d, .d (.int lo), .d (.int hi), s3] := by
    intro l
    induction l with
    | nil =>
      intro s3 _ _ z
      exact fin s3 (by simpa using z)
    | cons s l ih =>
      intro s3 hl n3 z
      have hs := hl s List.mem_cons_self
      have hf := stands_fits ok hs
      have ev : ∀ a b : Bool, (PyData.tuple [.bool a, .bool b]).eqv (.tuple [.bool true, .bool true]) = (a && b) := by decide
      have hbe : bothB p s = ((partH p s).runs && (partC p s).runs) := rfl
      have e0 : ∃ a b c, s.d = .tuple [.int s.w, a, b, c] := ⟨_, _, _, rfl⟩
      obtain ⟨x1, x2, x3, e0⟩ := e0
      have so := standOf_d s
      rw [List.all_cons] at z
      rw [List.map_cons]
      unfold forGo g__law_well_2
      rw [e0] at so ⊢
      have step : (!bothB p s && (decide (lo ≤ s.w) && decide (s.w ≤ hi))) = true → forGo (gNm 3) g__law_well_2 { nx := g__law_well_1 (EF Q'), rt := (EF Q').rt } (l.map Stn.d) [.d p.d, .d (.int lo), .d (.int hi), .d (.tuple [.int s.w, x1, x2, x3])] := fun q => by
        rw [q, Bool.true_and] at z
        exact ih _ (fun t ht => hl t (List.mem_cons_of_mem _ ht)) trivial z
      by_cases q1 : lo ≤ s.w
      · by_cases q2 : s.w ≤ hi
        · cases q3 : bothB p s with
          | true =>
            rw [q3] at z hbe
            simp [n3, at0, q1, q2, fn__law_on, fnPS, planOf_d, so, ok, hf.len, two_shaped, ev, ← hbe, sizeLine_eq, sSeq, sRet, sRetN, sRetW, sIf, sNext, sNever, sExpr, sAsg, sNew, sNewS, sPar, sPar3, sApp, sSetIx, sDPut, sPar3W, fnD0, fnD1, fnOwn, fIxDN, fInDN, fIxZ, fInZ, fLenZ, fListZ, fGetZ, fMaxL, fMinL, fVar, fC, fRaw, fNil, fCons, fTup, fLst, fOp, fTest, fChain, fAnd, fOr, fNot, fAndV, fOrV, fNotV, fIf, fIfT, fStill, still, fnLst, gNm, gTp, gsCons, gsNil, fCall, fCallO, fCallN, fIxN, fLenN, fSl, fPart, fNoPart, fNeg, fIsi, fIsi2, fLen, fAbs, fInt, fMax2, fMin2, fTupOf, fListOf, fSorted, fLstR, fAll, fAny, fIx, fIn, fEq, fIsN, fAdd, fMul, f2I, unD, slots0, settable_iff, npd, npn, npo, npf, npr, ownAt, owned, lentEnd, fiLst, fiTup, fiR1, fiR2, fiZip, fiZip3, fiKeysZ, fiItemsZ, fYes, wipeS, sMix, fmNil, fmS, fmN, setM, Mx.slot, fnDc, fFz, fSlN, fLenDN, fPopN, fSum, fMaxVals, fListVals, fDictOf, fGetDN, fPopDN, fiIf, fInD, fAct, fHand, fBorN, fWp, fOwnEq, fOwnD0, gDPut, fIxR, fnDcL, sAppR, isHp, hpNot, hpAdd, hpSet, hpL]
            simpa using z
          | false =>
            have := step (by simp [q1, q2, q3])
            rw [q3] at hbe
            simp [n3, at0, q1, q2, fn__law_on, fnPS, planOf_d, so, ok, hf.len, two_shaped, ev, ← hbe, sizeLine_eq, sSeq, sRet, sRetN, sRetW, sIf, sNext, sNever, sExpr, sAsg, sNew, sNewS, sPar, sPar3, sApp, sSetIx, sDPut, sPar3W, fnD0, fnD1, fnOwn, fIxDN, fInDN, fIxZ, fInZ, fLenZ, fListZ, fGetZ, fMaxL, fMinL, fVar, fC, fRaw, fNil, fCons, fTup, fLst, fOp, fTest, fChain, fAnd, fOr, fNot, fAndV, fOrV, fNotV, fIf, fIfT, fStill, still, fnLst, gNm, gTp, gsCons, gsNil, fCall, fCallO, fCallN, fIxN, fLenN, fSl, fPart, fNoPart, fNeg, fIsi, fIsi2, fLen, fAbs, fInt, fMax2, fMin2, fTupOf, fListOf, fSorted, fLstR, fAll, fAny, fIx, fIn, fEq, fIsN, fAdd, fMul, f2I, unD, slots0, settable_iff, npd, npn, npo, npf, npr, ownAt, owned, lentEnd, fiLst, fiTup, fiR1, fiR2, fiZip, fiZip3, fiKeysZ, fiItemsZ, fYes, wipeS, sMix, fmNil, fmS, fmN, setM, Mx.slot, fnDc, fFz, fSlN, fLenDN, fPopN, fSum, fMaxVals, fListVals, fDictOf, fGetDN, fPopDN, fiIf, fInD, fAct, fHand, fBorN, fWp, fOwnEq, fOwnD0, gDPut, fIxR, fnDcL, sAppR, isHp, hpNot, hpAdd, hpSet, hpL]
            exact this
        · simp [q1, q2] at z
          simp [n3, at0, q1, q2, sSeq, sRet, sRetN, sRetW, sIf, sNext, sNever, sExpr, sAsg, sNew, sNewS, sPar, sPar3, sApp, sSetIx, sDPut, sPar3W, fnD0, fnD1, fnOwn, fIxDN, fInDN, fIxZ, fInZ, fLenZ, fListZ, fGetZ, fMaxL, fMinL, fVar, fC, fRaw, fNil, fCons, fTup, fLst, fOp, fTest, fChain, fAnd, fOr, fNot, fAndV, fOrV, fNotV, fIf, fIfT, fStill, still, fnLst, gNm, gTp, gsCons, gsNil, fCall, fCallO, fCallN, fIxN, fLenN, fSl, fPart, fNoPart, fNeg, fIsi, fIsi2, fLen, fAbs, fInt, fMax2, fMin2, fTupOf, fListOf, fSorted, fLstR, fAll, fAny, fIx, fIn, fEq, fIsN, fAdd, fMul, f2I, unD, slots0, settable_iff, npd, npn, npo, npf, npr, ownAt, owned, lentEnd, fiLst, fiTup, fiR1, fiR2, fiZip, fiZip3, fiKeysZ, fiItemsZ, fYes, wipeS, sMix, fmNil, fmS, fmN, setM, Mx.slot, fnDc, fFz, fSlN, fLenDN, fPopN, fSum, fMaxVals, fListVals, fDictOf, fGetDN, fPopDN, fiIf, fInD, fAct, fHand, fBorN, fWp, fOwnEq, fOwnD0, gDPut, fIxR, fnDcL, sAppR, isHp, hpNot, hpAdd, hpSet, hpL]
          exact z
      · simp [q1] at z
        simp [n3, at0, q1, sSeq, sRet, sRetN, sRetW, sIf, sNext, sNever, sExpr, sAsg, sNew, sNewS, sPar, sPar3, sApp, sSetIx, sDPut, sPar3W, fnD0, fnD1, fnOwn, fIxDN, fInDN, fIxZ, fInZ, fLenZ, fListZ, fGetZ, fMaxL, fMinL, fVar, fC, fRaw, fNil, fCons, fTup, fLst, fOp, fTest, fChain, fAnd, fOr, fNot, fAndV, fOrV, fNotV, fIf, fIfT, fStill, still, fnLst, gNm, gTp, gsCons, gsNil, fCall, fCallO, fCallN, fIxN, fLenN, fSl, fPart, fNoPart, fNeg, fIsi, fIsi2, fLen, fAbs, fInt, fMax2, fMin2, fTupOf, fListOf, fSorted, fLstR, fAll, fAny, fIx, fIn, fEq, fIsN, fAdd, fMul, f2I, unD, slots0, settable_iff, npd, npn, npo, npf, npr, ownAt, owned, lentEnd, fiLst, fiTup, fiR1, fiR2, fiZip, fiZip3, fiKeysZ, fiItemsZ, fYes, wipeS, sMix, fmNil, fmS, fmN, setM, Mx.slot, fnDc, fFz, fSlN, fLenDN, fPopN, fSum, fMaxVals, fListVals, fDictOf, fGetDN, fPopDN, fiIf, fInD, fAct, fHand, fBorN, fWp, fOwnEq, fOwnD0, gDPut, fIxR, fnDcL, sAppR, isHp, hpNot, hpAdd, hpSet, hpL]
        exact z
  exact go (standsOf p) .no (fun _ z => z) trivial h
end Aq
/-! C08: the law of k08, by data. -/
namespace Aq
open PySem PySem.Spec PyProof.Rows L2
def g_law_1 : FS := (sRet (fC (.bool true)))
def g_law_2 : FS := (sIf (fNot (fTest (fCall fn__law_twins (fCons (fCall fn_late_costs (fCons (fVar 3) fNil)) (fCons (fVar 12) fNil))))) (sRet (fC (.bool false))) sNext)
def g_law_3 : FS := (sSeq (sAsg (fCall fTupOf (fCons (fStill (fnLc (fiLst (fStill (fnLst (fCons (fC (.int 0)) (fCons (fC (.int 1)) (fCons (fC (.int 2)) fNil)))))) (gNm 13) fYes (fCall fn__law_extremes (fCons (fOp fAdd (fOp fAdd (fSl (fVar 3) fNoPart (fPart (fC (.int 2)))) (fTup (fCons (fTup (fCons (fVar 13) (fCons (fOp fIx (fOp fIx (fVar 3) (fC (.int 2))) (fC (.int 1))) fNil))) fNil))) (fSl (fVar 3) (fPart (fC (.int 3))) fNoPart)) fNil)) [13])) fNil)) (gNm 12))
    g_law_2)
def g_law_4 : FS := (sIf (fNot (fTest (fCall fn__law_twins (fCons (fCall fn_good_moves (fCons (fVar 3) (fCons (fVar 7) (fCons (fVar 8) fNil)))) (fCons (fFz 9) fNil))))) (sRet (fC (.bool false))) sNext)
def g_law_5 : FS := (sIf (fAnd (fTest (fOp (f2I TT2 fun i j => .bool (decide (i < j))) (fOp fIx (fVar 11) (fC (.int 1))) (fC (.int 16)))) (fTest (fCall fn__law_well (fCons (fOp fAdd (fTup (fCons (fOp fIx (fVar 3) (fC (.int 0))) (fCons (fVar 11) fNil))) (fSl (fVar 3) (fPart (fC (.int 2))) fNoPart)) (fCons (fVar 7) (fCons (fVar 8) fNil)))))) (sApp 9 (fVar 10)) sNext)
def g_law_6 : FS := (sSeq (sAsg (fOp fAdd (fTup (fCons (fOp fAdd (fOp fIx (fOp fIx (fVar 3) (fC (.int 1))) (fC (.int 0))) (fVar 10)) (fCons (fOp fAdd (fOp fIx (fOp fIx (fVar 3) (fC (.int 1))) (fC (.int 1))) (fVar 10)) fNil))) (fSl (fOp fIx (fVar 3) (fC (.int 1))) (fPart (fC (.int 2))) fNoPart)) (gNm 11))
    g_law_5)
def g_law_7 : FS := (sSeq (sFor (fiR1 (fCons (fC (.int 16)) fNil)) (gNm 10) g_law_6)
    g_law_4)
def g_law_8 : FS := (sSeq (sNew (fnLst fNil) 9)
    g_law_7)
def g_law_9 : FS := (sSeq (sFor (fiLst (fVar 6)) (gTp 2 (gsCons (gNm 7) (gsCons (gNm 8) gsNil))) g_law_8)
    g_law_3)
def g_law_10 : FS := (sSeq (sAsg (fStill (fnLst (fCons (fTup (fCons (fC (.int 0)) (fCons (fC (.int 15)) fNil))) (fCons (fTup (fCons (fCall fMax2 (fCons (fC (.int 0)) (fCons (fOp (f2I TT2 fun i j => .int (i - j)) (fVar 4) (fC (.int 1))) fNil))) (fCons (fCall fMin2 (fCons (fC (.int 15)) (fCons (fOp fAdd (fVar 5) (fCallO 2 fn__law_pick (fCons (fC (.int 4)) fNil))) fNil))) fNil))) fNil)))) (gNm 6))
    g_law_9)
def g_law_11 : FS := (sSeq (sAsg (fCall fn__law_extremes (fCons (fVar 3) fNil)) (gTp 2 (gsCons (gNm 4) (gsCons (gNm 5) gsNil))))
    g_law_10)
def g_law_12 : FS := (sSeq (sAsg (fCallO 2 fn__law_plan (fCons (fC (.int 0)) fNil)) (gNm 3))
    g_law_11)
def g_law_13 : FS := (sSeq (sNew (fCallN fn__law_spring (fCons (fVar 0) (fCons (fVar 1) fNil))) 2)
    g_law_12)
def g_law : FS := (sSeq (sFor (fiR1 (fCons (fOp fAdd (fCall fMin2 (fCons (fCall fLen (fCons (fVar 0) fNil)) (fCons (fC (.int 2)) fNil))) (fC (.int 1))) fNil)) (gNm 1) g_law_13)
    g_law_1)
def I8 (ds : List D) (ρ : List S) : Prop := ∃ s1 s2 s3 s4 s5 s6 s7 s8 s9 s10 s11 s12 s13 : S, ρ = [.d (.list ds), s1, s2, s3, s4, s5, s6, s7, s8, s9, s10, s11, s12, s13] ∧ np s1 ∧ np s2 ∧ np s3 ∧ np s4 ∧ np s5 ∧ np s6 ∧ np s7 ∧ np s8 ∧ np s9 ∧ np s10 ∧ np s11 ∧ np s12 ∧ np s13
def K8 (ds : List D) (p : Pl) (ρ : List S) : Prop := ∃ s1 s2 s4 s5 s6 s7 s8 s9 s10 s11 s12 s13 : S, ρ = [.d (.list ds), s1, s2, .d p.d, s4, s5, s6, s7, s8, s9, s10, s11, s12, s13] ∧ np s1 ∧ np s2 ∧ np s4 ∧ np s5 ∧ np s6 ∧ np s7 ∧ np s8 ∧ np s9 ∧ np s10 ∧ np s11 ∧ np s12 ∧ np s13
def dueN (p : Pl) (lo hi : Int) (n : Nat) : List D := ((List.range n).filter fun i => decide (p.c.high + (i : Nat) < 16) && wellB (movedP p (i : Nat)) lo hi).map fun i => .int (i : Nat)
theorem due_moves (p : Pl) (lo hi : Int) : (movesL p lo hi).map PyData.int = dueN p lo hi 16 := by
  unfold movesL dueN
  rw [List.filter_map, List.map_map]
  rfl
theorem due_next (p : Pl) (lo hi : Int) (n : Nat) : dueN p lo hi (n + 1) = dueN p lo hi n ++ if (decide (p.c.high + (n : Nat) < 16) && wellB (movedP p (n : Nat)) lo hi) = true then [.int (n : Nat)] else [] := by
  unfold dueN
  rw [List.range_succ, List.filter_append, List.map_append, List.filter_cons]
  split <;> simp
theorem ints_twins (r : List Int) : twins (.list (r.map PyData.int)) (.list (r.map PyData.int)) = true := by
  simp [twins, twinsL_refl_ints]
theorem d_law8_8 {ds : List D} {p : Pl} (ok : p.ok) {lo hi : Int} (l0 : 0 ≤ lo) (l1 : lo ≤ 15) (h0 : 0 ≤ hi) (h1 : hi ≤ 15) {E : DEnds} (hE : ∀ ρ, K8 ds p ρ → E.nx ρ) {ρ : List S} (h : K8 ds p ρ) :
    gTp 2 (gsCons (gNm 7) (gsCons (gNm 8) gsNil)) (.d (.tuple [.int lo, .int hi])) ρ fun ρ2 => g_law_8 E ρ2 := by
  obtain ⟨s1, s2, s4, s5, s6, s7, s8, s9, s10, s11, s12, s13, rfl, n1, n2, n4, n5, n6, n7, n8, n9, n10, n11, n12, n13⟩ := h
  have c0 : atI [p.h.d, p.c.d, .tuple [.int p.late, .int p.step], .tuple [.int p.wl, .int p.wh], .str p.bar, .int p.beg] 0 = some p.h.d := rfl
  have c1 : atI [p.h.d, p.c.d, .tuple [.int p.late, .int p.step], .tuple [.int p.wl, .int p.wh], .str p.bar, .int p.beg] 1 = some p.c.d := rfl
  have c2 : cut [p.h.d, p.c.d, PyData.tuple [.int p.late, .int p.step], .tuple [.int p.wl, .int p.wh], .str p.bar, .int p.beg] (some 2) none = [.tuple [.int p.late, .int p.step], .tuple [.int p.wl, .int p.wh], .str p.bar, .int p.beg] := rfl
  have c3 : cut [PyData.int p.c.low, .int p.c.high, .int p.c.on, .int p.c.off, .int p.c.power] (some 2) none = [.int p.c.on, .int p.c.off, .int p.c.power] := rfl
  have ed : p.d = .tuple [p.h.d, p.c.d, .tuple [.int p.late, .int p.step], .tuple [.int p.wl, .int p.wh], .str p.bar, .int p.beg] := rfl
  have ec : p.c.d = .tuple [.int p.c.low, .int p.c.high, .int p.c.on, .int p.c.off, .int p.c.power] := rfl
  unfold g_law_8
  simp [n7, n8, n9, sSeq, sRet, sRetN, sRetW, sIf, sNext, sNever, sExpr, sAsg, sNew, sNewS, sPar, sPar3, sApp, sSetIx, sDPut, sPar3W, fnD0, fnD1, fnOwn, fIxDN, fInDN, fIxZ, fInZ, fLenZ, fListZ, fGetZ, fMaxL, fMinL, fVar, fC, fRaw, fNil, fCons, fTup, fLst, fOp, fTest, fChain, fAnd, fOr, fNot, fAndV, fOrV, fNotV, fIf, fIfT, fStill, still, fnLst, gNm, gTp, gsCons, gsNil, fCall, fCallO, fCallN, fIxN, fLenN, fSl, fPart, fNoPart, fNeg, fIsi, fIsi2, fLen, fAbs, fInt, fMax2, fMin2, fTupOf, fListOf, fSorted, fLstR, fAll, fAny, fIx, fIn, fEq, fIsN, fAdd, fMul, f2I, unD, slots0, settable_iff, npd, npn, npo, npf, npr, ownAt, owned, lentEnd, fiLst, fiTup, fiR1, fiR2, fiZip, fiZip3, fiKeysZ, fiItemsZ, fYes, wipeS, sMix, fmNil, fmS, fmN, setM, Mx.slot, fnDc, fFz, fSlN, fLenDN, fPopN, fSum, fMaxVals, fListVals, fDictOf, fGetDN, fPopDN, fiIf, fInD, fAct, fHand, fBorN, fWp, fOwnEq, fOwnD0, gDPut, fIxR, fnDcL, sAppR, isHp, hpNot, hpAdd, hpSet, hpL]
  unfold g_law_7 sSeq
  rw [sFor_eq]
  simp [sSeq, sRet, sRetN, sRetW, sIf, sNext, sNever, sExpr, sAsg, sNew, sNewS, sPar, sPar3, sApp, sSetIx, sDPut, sPar3W, fnD0, fnD1, fnOwn, fIxDN, fInDN, fIxZ, fInZ, fLenZ, fListZ, fGetZ, fMaxL, fMinL, fVar, fC, fRaw, fNil, fCons, fTup, fLst, fOp, fTest, fChain, fAnd, fOr, fNot, fAndV, fOrV, fNotV, fIf, fIfT, fStill, still, fnLst, gNm, gTp, gsCons, gsNil, fCall, fCallO, fCallN, fIxN, fLenN, fSl, fPart, fNoPart, fNeg, fIsi, fIsi2, fLen, fAbs, fInt, fMax2, fMin2, fTupOf, fListOf, fSorted, fLstR, fAll, fAny, fIx, fIn, fEq, fIsN, fAdd, fMul, f2I, unD, slots0, settable_iff, npd, npn, npo, npf, npr, ownAt, owned, lentEnd, fiLst, fiTup, fiR1, fiR2, fiZip, fiZip3, fiKeysZ, fiItemsZ, fYes, wipeS, sMix, fmNil, fmS, fmN, setM, Mx.slot, fnDc, fFz, fSlN, fLenDN, fPopN, fSum, fMaxVals, fListVals, fDictOf, fGetDN, fPopDN, fiIf, fInD, fAct, fHand, fBorN, fWp, fOwnEq, fOwnD0, gDPut, fIxR, fnDcL, sAppR, isHp, hpNot, hpAdd, hpSet, hpL]
  refine sForB_cnt (fun n ρ => ∃ s10 s11, np s10 ∧ np s11 ∧ ρ = [.d (.list ds), s1, s2, .d p.d, s4, s5, s6, .d (.int lo), .d (.int hi), .ow (.lst (dueN p lo hi n)), s10, s11, s12, s13]) ⟨s10, s11, n10, n11, rfl⟩ ?_ ?_
  · rintro ρ ⟨s10, s11, n10, n11, rfl⟩
    have el : (upto 0 16).length = 16 := by simp [upto]
    rw [el, ← due_moves]
    have low12 : low 12 (.list ((movesL p lo hi).map PyData.int)) = true := by
      have : (movesL p lo hi).length ≤ 16 := by
        unfold movesL
        have := List.length_filter_le (fun n : Int => decide (p.c.high + n < 16) && wellB (movedP p n) lo hi) ((List.range 16).map fun i : Nat => (i : Int))
        simpa using this
      simp only [low, Bool.and_eq_true, decide_eq_true_eq, List.length_map]
      exact ⟨by omega, low_ints _ _⟩
    unfold g_law_4
    simp [sSeq, sRet, sRetN, sRetW, sIf, sNext, sNever, sExpr, sAsg, sNew, sNewS, sPar, sPar3, sApp, sSetIx, sDPut, sPar3W, fnD0, fnD1, fnOwn, fIxDN, fInDN, fIxZ, fInZ, fLenZ, fListZ, fGetZ, fMaxL, fMinL, fVar, fC, fRaw, fNil, fCons, fTup, fLst, fOp, fTest, fChain, fAnd, fOr, fNot, fAndV, fOrV, fNotV, fIf, fIfT, fStill, still, fnLst, gNm, gTp, gsCons, gsNil, fCall, fCallO, fCallN, fIxN, fLenN, fSl, fPart, fNoPart, fNeg, fIsi, fIsi2, fLen, fAbs, fInt, fMax2, fMin2, fTupOf, fListOf, fSorted, fLstR, fAll, fAny, fIx, fIn, fEq, fIsN, fAdd, fMul, f2I, unD, slots0, settable_iff, npd, npn, npo, npf, npr, ownAt, owned, lentEnd, fiLst, fiTup, fiR1, fiR2, fiZip, fiZip3, fiKeysZ, fiItemsZ, fYes, wipeS, sMix, fmNil, fmS, fmN, setM, Mx.slot, fnDc, fFz, fSlN, fLenDN, fPopN, fSum, fMaxVals, fListVals, fDictOf, fGetDN, fPopDN, fiIf, fInD, fAct, fHand, fBorN, fWp, fOwnEq, fOwnD0, gDPut, fIxR, fnDcL, sAppR, isHp, hpNot, hpAdd, hpSet, hpL]
    refine ⟨p, lo, hi, rfl, ok, ⟨l0, l1⟩, ⟨h0, h1⟩, ?_⟩
    simp [fn__law_twins, fn_twins, low12, ints_twins, sSeq, sRet, sRetN, sRetW, sIf, sNext, sNever, sExpr, sAsg, sNew, sNewS, sPar, sPar3, sApp, sSetIx, sDPut, sPar3W, fnD0, fnD1, fnOwn, fIxDN, fInDN, fIxZ, fInZ, fLenZ, fListZ, fGetZ, fMaxL, fMinL, fVar, fC, fRaw, fNil, fCons, fTup, fLst, fOp, fTest, fChain, fAnd, fOr, fNot, fAndV, fOrV, fNotV, fIf, fIfT, fStill, still, fnLst, gNm, gTp, gsCons, gsNil, fCall, fCallO, fCallN, fIxN, fLenN, fSl, fPart, fNoPart, fNeg, fIsi, fIsi2, fLen, fAbs, fInt, fMax2, fMin2, fTupOf, fListOf, fSorted, fLstR, fAll, fAny, fIx, fIn, fEq, fIsN, fAdd, fMul, f2I, unD, slots0, settable_iff, npd, npn, npo, npf, npr, ownAt, owned, lentEnd, fiLst, fiTup, fiR1, fiR2, fiZip, fiZip3, fiKeysZ, fiItemsZ, fYes, wipeS, sMix, fmNil, fmS, fmN, setM, Mx.slot, fnDc, fFz, fSlN, fLenDN, fPopN, fSum, fMaxVals, fListVals, fDictOf, fGetDN, fPopDN, fiIf, fInD, fAct, fHand, fBorN, fWp, fOwnEq, fOwnD0, gDPut, fIxR, fnDcL, sAppR, isHp, hpNot, hpAdd, hpSet, hpL]
    exact hE _ ⟨s1, s2, s4, s5, s6, _, _, _, s10, s11, s12, s13, rfl, n1, n2, n4, n5, n6, npD _, npD _, npD _, n10, n11, n12, n13⟩
  · rintro n x hx ρ ⟨s10, s11, n10, n11, rfl⟩
    have hn : n < 16 ∧ x = .int n := by
      unfold upto at hx
      rw [List.getElem?_map] at hx
      obtain ⟨j, hj, rfl⟩ := Option.map_eq_some_iff.mp hx
      obtain ⟨h1, h2⟩ := List.getElem?_eq_some_iff.mp hj
      rw [List.getElem_range] at h2
      subst h2
      exact ⟨by simpa using h1, by simp⟩
    obtain ⟨hn, rfl⟩ := hn
    have dn := due_next p lo hi n
    have dl : (dueN p lo hi n).length ≤ n := by
      unfold dueN
      rw [List.length_map]
      have := List.length_filter_le (fun i : Nat => decide (p.c.high + (i : Nat) < 16) && wellB (movedP p (i : Nat)) lo hi) (List.range n)
      simpa using this
    unfold g_law_6
    rw [ed]
    simp [n10, n11, c1, sSeq, sRet, sRetN, sRetW, sIf, sNext, sNever, sExpr, sAsg, sNew, sNewS, sPar, sPar3, sApp, sSetIx, sDPut, sPar3W, fnD0, fnD1, fnOwn, fIxDN, fInDN, fIxZ, fInZ, fLenZ, fListZ, fGetZ, fMaxL, fMinL, fVar, fC, fRaw, fNil, fCons, fTup, fLst, fOp, fTest, fChain, fAnd, fOr, fNot, fAndV, fOrV, fNotV, fIf, fIfT, fStill, still, fnLst, gNm, gTp, gsCons, gsNil, fCall, fCallO, fCallN, fIxN, fLenN, fSl, fPart, fNoPart, fNeg, fIsi, fIsi2, fLen, fAbs, fInt, fMax2, fMin2, fTupOf, fListOf, fSorted, fLstR, fAll, fAny, fIx, fIn, fEq, fIsN, fAdd, fMul, f2I, unD, slots0, settable_iff, npd, npn, npo, npf, npr, ownAt, owned, lentEnd, fiLst, fiTup, fiR1, fiR2, fiZip, fiZip3, fiKeysZ, fiItemsZ, fYes, wipeS, sMix, fmNil, fmS, fmN, setM, Mx.slot, fnDc, fFz, fSlN, fLenDN, fPopN, fSum, fMaxVals, fListVals, fDictOf, fGetDN, fPopDN, fiIf, fInD, fAct, fHand, fBorN, fWp, fOwnEq, fOwnD0, gDPut, fIxR, fnDcL, sAppR, isHp, hpNot, hpAdd, hpSet, hpL]
    rw [ec]
    simp [at0, at1, c3, sizeLine_eq, sSeq, sRet, sRetN, sRetW, sIf, sNext, sNever, sExpr, sAsg, sNew, sNewS, sPar, sPar3, sApp, sSetIx, sDPut, sPar3W, fnD0, fnD1, fnOwn, fIxDN, fInDN, fIxZ, fInZ, fLenZ, fListZ, fGetZ, fMaxL, fMinL, fVar, fC, fRaw, fNil, fCons, fTup, fLst, fOp, fTest, fChain, fAnd, fOr, fNot, fAndV, fOrV, fNotV, fIf, fIfT, fStill, still, fnLst, gNm, gTp, gsCons, gsNil, fCall, fCallO, fCallN, fIxN, fLenN, fSl, fPart, fNoPart, fNeg, fIsi, fIsi2, fLen, fAbs, fInt, fMax2, fMin2, fTupOf, fListOf, fSorted, fLstR, fAll, fAny, fIx, fIn, fEq, fIsN, fAdd, fMul, f2I, unD, slots0, settable_iff, npd, npn, npo, npf, npr, ownAt, owned, lentEnd, fiLst, fiTup, fiR1, fiR2, fiZip, fiZip3, fiKeysZ, fiItemsZ, fYes, wipeS, sMix, fmNil, fmS, fmN, setM, Mx.slot, fnDc, fFz, fSlN, fLenDN, fPopN, fSum, fMaxVals, fListVals, fDictOf, fGetDN, fPopDN, fiIf, fInD, fAct, fHand, fBorN, fWp, fOwnEq, fOwnD0, gDPut, fIxR, fnDcL, sAppR, isHp, hpNot, hpAdd, hpSet, hpL]
    unfold g_law_5
    rw [← ec]
    simp [at1, c0, c1, c2, sizeLine_eq, sSeq, sRet, sRetN, sRetW, sIf, sNext, sNever, sExpr, sAsg, sNew, sNewS, sPar, sPar3, sApp, sSetIx, sDPut, sPar3W, fnD0, fnD1, fnOwn, fIxDN, fInDN, fIxZ, fInZ, fLenZ, fListZ, fGetZ, fMaxL, fMinL, fVar, fC, fRaw, fNil, fCons, fTup, fLst, fOp, fTest, fChain, fAnd, fOr, fNot, fAndV, fOrV, fNotV, fIf, fIfT, fStill, still, fnLst, gNm, gTp, gsCons, gsNil, fCall, fCallO, fCallN, fIxN, fLenN, fSl, fPart, fNoPart, fNeg, fIsi, fIsi2, fLen, fAbs, fInt, fMax2, fMin2, fTupOf, fListOf, fSorted, fLstR, fAll, fAny, fIx, fIn, fEq, fIsN, fAdd, fMul, f2I, unD, slots0, settable_iff, npd, npn, npo, npf, npr, ownAt, owned, lentEnd, fiLst, fiTup, fiR1, fiR2, fiZip, fiZip3, fiKeysZ, fiItemsZ, fYes, wipeS, sMix, fmNil, fmS, fmN, setM, Mx.slot, fnDc, fFz, fSlN, fLenDN, fPopN, fSum, fMaxVals, fListVals, fDictOf, fGetDN, fPopDN, fiIf, fInD, fAct, fHand, fBorN, fWp, fOwnEq, fOwnD0, gDPut, fIxR, fnDcL, sAppR, isHp, hpNot, hpAdd, hpSet, hpL]
    by_cases q : p.c.high + (n : Nat) < 16
    · rw [if_pos q]
      refine ⟨movedP p n, lo, hi, rfl, (movedP_ok ok (by omega)).mpr (by omega), ?_⟩
      cases q2 : wellB (movedP p (n : Nat)) lo hi with
      | true =>
        rw [q2] at dn
        simp [q] at dn
        simp [sSeq, sRet, sRetN, sRetW, sIf, sNext, sNever, sExpr, sAsg, sNew, sNewS, sPar, sPar3, sApp, sSetIx, sDPut, sPar3W, fnD0, fnD1, fnOwn, fIxDN, fInDN, fIxZ, fInZ, fLenZ, fListZ, fGetZ, fMaxL, fMinL, fVar, fC, fRaw, fNil, fCons, fTup, fLst, fOp, fTest, fChain, fAnd, fOr, fNot, fAndV, fOrV, fNotV, fIf, fIfT, fStill, still, fnLst, gNm, gTp, gsCons, gsNil, fCall, fCallO, fCallN, fIxN, fLenN, fSl, fPart, fNoPart, fNeg, fIsi, fIsi2, fLen, fAbs, fInt, fMax2, fMin2, fTupOf, fListOf, fSorted, fLstR, fAll, fAny, fIx, fIn, fEq, fIsN, fAdd, fMul, f2I, unD, slots0, settable_iff, npd, npn, npo, npf, npr, ownAt, owned, lentEnd, fiLst, fiTup, fiR1, fiR2, fiZip, fiZip3, fiKeysZ, fiItemsZ, fYes, wipeS, sMix, fmNil, fmS, fmN, setM, Mx.slot, fnDc, fFz, fSlN, fLenDN, fPopN, fSum, fMaxVals, fListVals, fDictOf, fGetDN, fPopDN, fiIf, fInD, fAct, fHand, fBorN, fWp, fOwnEq, fOwnD0, gDPut, fIxR, fnDcL, sAppR, isHp, hpNot, hpAdd, hpSet, hpL]
        exact ⟨by omega, .d (.int n), trivial, _, npD _, dn.symm, rfl, rfl⟩
      | false =>
        rw [q2] at dn
        simp at dn
        simp [sSeq, sRet, sRetN, sRetW, sIf, sNext, sNever, sExpr, sAsg, sNew, sNewS, sPar, sPar3, sApp, sSetIx, sDPut, sPar3W, fnD0, fnD1, fnOwn, fIxDN, fInDN, fIxZ, fInZ, fLenZ, fListZ, fGetZ, fMaxL, fMinL, fVar, fC, fRaw, fNil, fCons, fTup, fLst, fOp, fTest, fChain, fAnd, fOr, fNot, fAndV, fOrV, fNotV, fIf, fIfT, fStill, still, fnLst, gNm, gTp, gsCons, gsNil, fCall, fCallO, fCallN, fIxN, fLenN, fSl, fPart, fNoPart, fNeg, fIsi, fIsi2, fLen, fAbs, fInt, fMax2, fMin2, fTupOf, fListOf, fSorted, fLstR, fAll, fAny, fIx, fIn, fEq, fIsN, fAdd, fMul, f2I, unD, slots0, settable_iff, npd, npn, npo, npf, npr, ownAt, owned, lentEnd, fiLst, fiTup, fiR1, fiR2, fiZip, fiZip3, fiKeysZ, fiItemsZ, fYes, wipeS, sMix, fmNil, fmS, fmN, setM, Mx.slot, fnDc, fFz, fSlN, fLenDN, fPopN, fSum, fMaxVals, fListVals, fDictOf, fGetDN, fPopDN, fiIf, fInD, fAct, fHand, fBorN, fWp, fOwnEq, fOwnD0, gDPut, fIxR, fnDcL, sAppR, isHp, hpNot, hpAdd, hpSet, hpL]
        exact ⟨.d (.int n), trivial, _, npD _, dn.symm, rfl, rfl⟩
    · rw [if_neg q]
      simp [q] at dn
      exact ⟨.d (.int n), trivial, _, npD _, dn.symm, rfl, rfl⟩
theorem warm_in {p : Pl} (ok : p.ok) {w : Int} (h : w ∈ warmths p) : 0 ≤ w ∧ w ≤ 15 := by
  obtain ⟨e, he, rfl⟩ := List.mem_map.mp h
  have := (ways_good ok).fits e he
  exact ⟨this.w0, this.w15⟩
theorem ext_low {p : Pl} : low 11 (extD p) = true := by simp [extD, low, lowL]
theorem ext_twins (p : Pl) : twins (extD p) (extD p) = true := by simp [extD, twins, twinsL]
theorem d_law8_3 {ds : List D} {p : Pl} (ok : p.ok) {E : DEnds} (hE : ∀ ρ, I8 ds ρ → E.nx ρ) {ρ : List S} (h : K8 ds p ρ) : g_law_3 E ρ := by
  obtain ⟨s1, s2, s4, s5, s6, s7, s8, s9, s10, s11, s12, s13, rfl, n1, n2, n4, n5, n6, n7, n8, n9, n10, n11, n12, n13⟩ := h
  have c2 : atI [p.h.d, p.c.d, .tuple [.int p.late, .int p.step], .tuple [.int p.wl, .int p.wh], .str p.bar, .int p.beg] 2 = some (.tuple [.int p.late, .int p.step]) := rfl
  have k1 : cut [p.h.d, p.c.d, PyData.tuple [.int p.late, .int p.step], .tuple [.int p.wl, .int p.wh], .str p.bar, .int p.beg] none (some 2) = [p.h.d, p.c.d] := rfl
  have k2 : cut [p.h.d, p.c.d, PyData.tuple [.int p.late, .int p.step], .tuple [.int p.wl, .int p.wh], .str p.bar, .int p.beg] (some 3) none = [.tuple [.int p.wl, .int p.wh], .str p.bar, .int p.beg] := rfl
  have ed : p.d = .tuple [p.h.d, p.c.d, .tuple [.int p.late, .int p.step], .tuple [.int p.wl, .int p.wh], .str p.bar, .int p.beg] := rfl
  unfold g_law_3
  simp [n12, n13, fnLc, sizeLine_eq, sSeq, sRet, sRetN, sRetW, sIf, sNext, sNever, sExpr, sAsg, sNew, sNewS, sPar, sPar3, sApp, sSetIx, sDPut, sPar3W, fnD0, fnD1, fnOwn, fIxDN, fInDN, fIxZ, fInZ, fLenZ, fListZ, fGetZ, fMaxL, fMinL, fVar, fC, fRaw, fNil, fCons, fTup, fLst, fOp, fTest, fChain, fAnd, fOr, fNot, fAndV, fOrV, fNotV, fIf, fIfT, fStill, still, fnLst, gNm, gTp, gsCons, gsNil, fCall, fCallO, fCallN, fIxN, fLenN, fSl, fPart, fNoPart, fNeg, fIsi, fIsi2, fLen, fAbs, fInt, fMax2, fMin2, fTupOf, fListOf, fSorted, fLstR, fAll, fAny, fIx, fIn, fEq, fIsN, fAdd, fMul, f2I, unD, slots0, settable_iff, npd, npn, npo, npf, npr, ownAt, owned, lentEnd, fiLst, fiTup, fiR1, fiR2, fiZip, fiZip3, fiKeysZ, fiItemsZ, fYes, wipeS, sMix, fmNil, fmS, fmN, setM, Mx.slot, fnDc, fFz, fSlN, fLenDN, fPopN, fSum, fMaxVals, fListVals, fDictOf, fGetDN, fPopDN, fiIf, fInD, fAct, fHand, fBorN, fWp, fOwnEq, fOwnD0, gDPut, fIxR, fnDcL, sAppR, isHp, hpNot, hpAdd, hpSet, hpL]
  refine lc_gen (α := Nat) (vs := [13]) (ρ := [.d (.list ds), s1, s2, .d p.d, s4, s5, s6, s7, s8, s9, s10, s11, s12, .no]) (enc := fun i => .int (i : Nat)) (ρa := fun i => [.d (.list ds), s1, s2, .d p.d, s4, s5, s6, s7, s8, s9, s10, s11, s12, .d (.int (i : Nat))]) (b := fun _ => true) (h := fun i => extD (lateP p (i : Nat))) (fun _ => rfl) [0, 1, 2] [] (by rw [sizeLine_eq]; simp) (fun a _ K z => ?_) (fun a _ Q2 h2 => h2) (fun a ha Q2 h2 => ?_) ?_
  · simp [sSeq, sRet, sRetN, sRetW, sIf, sNext, sNever, sExpr, sAsg, sNew, sNewS, sPar, sPar3, sApp, sSetIx, sDPut, sPar3W, fnD0, fnD1, fnOwn, fIxDN, fInDN, fIxZ, fInZ, fLenZ, fListZ, fGetZ, fMaxL, fMinL, fVar, fC, fRaw, fNil, fCons, fTup, fLst, fOp, fTest, fChain, fAnd, fOr, fNot, fAndV, fOrV, fNotV, fIf, fIfT, fStill, still, fnLst, gNm, gTp, gsCons, gsNil, fCall, fCallO, fCallN, fIxN, fLenN, fSl, fPart, fNoPart, fNeg, fIsi, fIsi2, fLen, fAbs, fInt, fMax2, fMin2, fTupOf, fListOf, fSorted, fLstR, fAll, fAny, fIx, fIn, fEq, fIsN, fAdd, fMul, f2I, unD, slots0, settable_iff, npd, npn, npo, npf, npr, ownAt, owned, lentEnd, fiLst, fiTup, fiR1, fiR2, fiZip, fiZip3, fiKeysZ, fiItemsZ, fYes, wipeS, sMix, fmNil, fmS, fmN, setM, Mx.slot, fnDc, fFz, fSlN, fLenDN, fPopN, fSum, fMaxVals, fListVals, fDictOf, fGetDN, fPopDN, fiIf, fInD, fAct, fHand, fBorN, fWp, fOwnEq, fOwnD0, gDPut, fIxR, fnDcL, sAppR, isHp, hpNot, hpAdd, hpSet, hpL]
    exact z
  · have ha : a ≤ 2 := by simp at ha; omega
    rw [ed] at h2 ⊢
    simp [c2, k1, k2, at1, sizeLine_eq, sSeq, sRet, sRetN, sRetW, sIf, sNext, sNever, sExpr, sAsg, sNew, sNewS, sPar, sPar3, sApp, sSetIx, sDPut, sPar3W, fnD0, fnD1, fnOwn, fIxDN, fInDN, fIxZ, fInZ, fLenZ, fListZ, fGetZ, fMaxL, fMinL, fVar, fC, fRaw, fNil, fCons, fTup, fLst, fOp, fTest, fChain, fAnd, fOr, fNot, fAndV, fOrV, fNotV, fIf, fIfT, fStill, still, fnLst, gNm, gTp, gsCons, gsNil, fCall, fCallO, fCallN, fIxN, fLenN, fSl, fPart, fNoPart, fNeg, fIsi, fIsi2, fLen, fAbs, fInt, fMax2, fMin2, fTupOf, fListOf, fSorted, fLstR, fAll, fAny, fIx, fIn, fEq, fIsN, fAdd, fMul, f2I, unD, slots0, settable_iff, npd, npn, npo, npf, npr, ownAt, owned, lentEnd, fiLst, fiTup, fiR1, fiR2, fiZip, fiZip3, fiKeysZ, fiItemsZ, fYes, wipeS, sMix, fmNil, fmS, fmN, setM, Mx.slot, fnDc, fFz, fSlN, fLenDN, fPopN, fSum, fMaxVals, fListVals, fDictOf, fGetDN, fPopDN, fiIf, fInD, fAct, fHand, fBorN, fWp, fOwnEq, fOwnD0, gDPut, fIxR, fnDcL, sAppR, isHp, hpNot, hpAdd, hpSet, hpL]
    exact ext_is (p := lateP p a) (lateP_ok ok (by omega) (by omega)) h2
  · rw [List.nil_append, filt_all]
    simp [n12, sSeq, sRet, sRetN, sRetW, sIf, sNext, sNever, sExpr, sAsg, sNew, sNewS, sPar, sPar3, sApp, sSetIx, sDPut, sPar3W, fnD0, fnD1, fnOwn, fIxDN, fInDN, fIxZ, fInZ, fLenZ, fListZ, fGetZ, fMaxL, fMinL, fVar, fC, fRaw, fNil, fCons, fTup, fLst, fOp, fTest, fChain, fAnd, fOr, fNot, fAndV, fOrV, fNotV, fIf, fIfT, fStill, still, fnLst, gNm, gTp, gsCons, gsNil, fCall, fCallO, fCallN, fIxN, fLenN, fSl, fPart, fNoPart, fNeg, fIsi, fIsi2, fLen, fAbs, fInt, fMax2, fMin2, fTupOf, fListOf, fSorted, fLstR, fAll, fAny, fIx, fIn, fEq, fIsN, fAdd, fMul, f2I, unD, slots0, settable_iff, npd, npn, npo, npf, npr, ownAt, owned, lentEnd, fiLst, fiTup, fiR1, fiR2, fiZip, fiZip3, fiKeysZ, fiItemsZ, fYes, wipeS, sMix, fmNil, fmS, fmN, setM, Mx.slot, fnDc, fFz, fSlN, fLenDN, fPopN, fSum, fMaxVals, fListVals, fDictOf, fGetDN, fPopDN, fiIf, fInD, fAct, fHand, fBorN, fWp, fOwnEq, fOwnD0, gDPut, fIxR, fnDcL, sAppR, isHp, hpNot, hpAdd, hpSet, hpL]
    unfold g_law_2
    simp [sSeq, sRet, sRetN, sRetW, sIf, sNext, sNever, sExpr, sAsg, sNew, sNewS, sPar, sPar3, sApp, sSetIx, sDPut, sPar3W, fnD0, fnD1, fnOwn, fIxDN, fInDN, fIxZ, fInZ, fLenZ, fListZ, fGetZ, fMaxL, fMinL, fVar, fC, fRaw, fNil, fCons, fTup, fLst, fOp, fTest, fChain, fAnd, fOr, fNot, fAndV, fOrV, fNotV, fIf, fIfT, fStill, still, fnLst, gNm, gTp, gsCons, gsNil, fCall, fCallO, fCallN, fIxN, fLenN, fSl, fPart, fNoPart, fNeg, fIsi, fIsi2, fLen, fAbs, fInt, fMax2, fMin2, fTupOf, fListOf, fSorted, fLstR, fAll, fAny, fIx, fIn, fEq, fIsN, fAdd, fMul, f2I, unD, slots0, settable_iff, npd, npn, npo, npf, npr, ownAt, owned, lentEnd, fiLst, fiTup, fiR1, fiR2, fiZip, fiZip3, fiKeysZ, fiItemsZ, fYes, wipeS, sMix, fmNil, fmS, fmN, setM, Mx.slot, fnDc, fFz, fSlN, fLenDN, fPopN, fSum, fMaxVals, fListVals, fDictOf, fGetDN, fPopDN, fiIf, fInD, fAct, fHand, fBorN, fWp, fOwnEq, fOwnD0, gDPut, fIxR, fnDcL, sAppR, isHp, hpNot, hpAdd, hpSet, hpL]
    refine ⟨p, rfl, ok, ?_⟩
    simp [fn__law_twins, fn_twins, low, lowL, twins, twinsL, ext_low, ext_twins, sSeq, sRet, sRetN, sRetW, sIf, sNext, sNever, sExpr, sAsg, sNew, sNewS, sPar, sPar3, sApp, sSetIx, sDPut, sPar3W, fnD0, fnD1, fnOwn, fIxDN, fInDN, fIxZ, fInZ, fLenZ, fListZ, fGetZ, fMaxL, fMinL, fVar, fC, fRaw, fNil, fCons, fTup, fLst, fOp, fTest, fChain, fAnd, fOr, fNot, fAndV, fOrV, fNotV, fIf, fIfT, fStill, still, fnLst, gNm, gTp, gsCons, gsNil, fCall, fCallO, fCallN, fIxN, fLenN, fSl, fPart, fNoPart, fNeg, fIsi, fIsi2, fLen, fAbs, fInt, fMax2, fMin2, fTupOf, fListOf, fSorted, fLstR, fAll, fAny, fIx, fIn, fEq, fIsN, fAdd, fMul, f2I, unD, slots0, settable_iff, npd, npn, npo, npf, npr, ownAt, owned, lentEnd, fiLst, fiTup, fiR1, fiR2, fiZip, fiZip3, fiKeysZ, fiItemsZ, fYes, wipeS, sMix, fmNil, fmS, fmN, setM, Mx.slot, fnDc, fFz, fSlN, fLenDN, fPopN, fSum, fMaxVals, fListVals, fDictOf, fGetDN, fPopDN, fiIf, fInD, fAct, fHand, fBorN, fWp, fOwnEq, fOwnD0, gDPut, fIxR, fnDcL, sAppR, isHp, hpNot, hpAdd, hpSet, hpL]
    exact hE _ ⟨s1, s2, _, s4, s5, s6, s7, s8, s9, s10, s11, _, .no, rfl, n1, n2, npD _, n4, n5, n6, n7, n8, n9, n10, n11, npD _, trivial⟩
theorem d_law8_9 {ds : List D} {p : Pl} (ok : p.ok) {l0 h0 l1 h1 : Int} (z1 : 0 ≤ l0 ∧ l0 ≤ 15) (z2 : 0 ≤ h0 ∧ h0 ≤ 15) (z3 : 0 ≤ l1 ∧ l1 ≤ 15) (z4 : 0 ≤ h1 ∧ h1 ≤ 15) {E : DEnds} (hE : ∀ ρ, I8 ds ρ → E.nx ρ) {s1 s2 s4 s5 s7 s8 s9 s10 s11 s12 s13 : S} (n1 : np s1) (n2 : np s2) (n4 : np s4) (n5 : np s5) (n7 : np s7) (n8 : np s8) (n9 : np s9) (n10 : np s10) (n11 : np s11) (n12 : np s12) (n13 : np s13) :
    g_law_9 E [.d (.list ds), s1, s2, .d p.d, s4, s5, .d (.list [.tuple [.int l0, .int h0], .tuple [.int l1, .int h1]]), s7, s8, s9, s10, s11, s12, s13] := by
  unfold g_law_9 sSeq
  rw [sFor_eq]
  simp [sSeq, sRet, sRetN, sRetW, sIf, sNext, sNever, sExpr, sAsg, sNew, sNewS, sPar, sPar3, sApp, sSetIx, sDPut, sPar3W, fnD0, fnD1, fnOwn, fIxDN, fInDN, fIxZ, fInZ, fLenZ, fListZ, fGetZ, fMaxL, fMinL, fVar, fC, fRaw, fNil, fCons, fTup, fLst, fOp, fTest, fChain, fAnd, fOr, fNot, fAndV, fOrV, fNotV, fIf, fIfT, fStill, still, fnLst, gNm, gTp, gsCons, gsNil, fCall, fCallO, fCallN, fIxN, fLenN, fSl, fPart, fNoPart, fNeg, fIsi, fIsi2, fLen, fAbs, fInt, fMax2, fMin2, fTupOf, fListOf, fSorted, fLstR, fAll, fAny, fIx, fIn, fEq, fIsN, fAdd, fMul, f2I, unD, slots0, settable_iff, npd, npn, npo, npf, npr, ownAt, owned, lentEnd, fiLst, fiTup, fiR1, fiR2, fiZip, fiZip3, fiKeysZ, fiItemsZ, fYes, wipeS, sMix, fmNil, fmS, fmN, setM, Mx.slot, fnDc, fFz, fSlN, fLenDN, fPopN, fSum, fMaxVals, fListVals, fDictOf, fGetDN, fPopDN, fiIf, fInD, fAct, fHand, fBorN, fWp, fOwnEq, fOwnD0, gDPut, fIxR, fnDcL, sAppR, isHp, hpNot, hpAdd, hpSet, hpL]
  refine sForB_inv (K8 ds p) ⟨s1, s2, s4, s5, _, s7, s8, s9, s10, s11, s12, s13, rfl, n1, n2, n4, n5, npD _, n7, n8, n9, n10, n11, n12, n13⟩ ?_ ?_
  · exact fun ρ hρ => d_law8_3 ok hE hρ
  · intro x hx ρ hρ
    rcases List.mem_cons.mp hx with rfl | hx
    · exact d_law8_8 ok z1.1 z1.2 z2.1 z2.2 (fun _ z => z) hρ
    · rw [List.mem_singleton.mp hx]
      exact d_law8_8 ok z3.1 z3.2 z4.1 z4.2 (fun _ z => z) hρ
theorem d_law8 (ss : List S) (Q' : S → Prop) (h : fn_law ss Q') : g_law (EF Q') (slots0 14 ss) := by
  unfold fn_law at h
  split at h
  · rename_i ds
    split at h
    · rename_i ns e
      obtain ⟨hn, h⟩ := h
      have e2 := intsD_some e
      unfold g_law sSeq
      refine sFor_inv (upto 0 (min ns.length 2 + 1)) (I8 ds) (fun Q q => ?_) ⟨.no, .no, .no, .no, .no, .no, .no, .no, .no, .no, .no, .no, .no, rfl, trivial, trivial, trivial, trivial, trivial, trivial, trivial, trivial, trivial, trivial, trivial, trivial, trivial⟩ (fun ρ' _ => h) ?_
      · subst e2
        simp [sSeq, sRet, sRetN, sRetW, sIf, sNext, sNever, sExpr, sAsg, sNew, sNewS, sPar, sPar3, sApp, sSetIx, sDPut, sPar3W, fnD0, fnD1, fnOwn, fIxDN, fInDN, fIxZ, fInZ, fLenZ, fListZ, fGetZ, fMaxL, fMinL, fVar, fC, fRaw, fNil, fCons, fTup, fLst, fOp, fTest, fChain, fAnd, fOr, fNot, fAndV, fOrV, fNotV, fIf, fIfT, fStill, still, fnLst, gNm, gTp, gsCons, gsNil, fCall, fCallO, fCallN, fIxN, fLenN, fSl, fPart, fNoPart, fNeg, fIsi, fIsi2, fLen, fAbs, fInt, fMax2, fMin2, fTupOf, fListOf, fSorted, fLstR, fAll, fAny, fIx, fIn, fEq, fIsN, fAdd, fMul, f2I, unD, slots0, settable, ownAt, owned, lentEnd, fiLst, fiTup, fiR1, fiR2, fiZip, fiZip3, fiKeysZ, fiItemsZ, fYes, wipeS, sMix, fmNil, fmS, fmN, setM, Mx.slot, fnDc, fFz, fSlN, fLenDN, fPopN, fSum, fMaxVals, fListVals, fDictOf, fGetDN, fPopDN, fiIf, fInD, fAct, fHand, fBorN, fWp, fOwnEq, fOwnD0, gDPut, fIxR, fnDcL, sAppR, isHp, hpNot, hpAdd, hpSet, hpL]
        have e3 : ((if 2 < (ns.length : Int) then 2 else (ns.length : Int)) + 1).toNat = min ns.length 2 + 1 := by split <;> omega
        refine ⟨by split <;> omega, by split <;> omega, ?_⟩
        rw [e3]
        exact q
      · rintro x hx ρ' ⟨s1, s2, s3, s4, s5, s6, s7, s8, s9, s10, s11, s12, s13, rfl, p1, p2, p3, p4, p5, p6, p7, p8, p9, p10, p11, p12, p13⟩
        obtain ⟨i, rfl, i0, i1⟩ := upto_mem hx
        unfold g_law_13
        simp [p1, p2, p3, fn__law_spring, e, sSeq, sRet, sRetN, sRetW, sIf, sNext, sNever, sExpr, sAsg, sNew, sNewS, sPar, sPar3, sApp, sSetIx, sDPut, sPar3W, fnD0, fnD1, fnOwn, fIxDN, fInDN, fIxZ, fInZ, fLenZ, fListZ, fGetZ, fMaxL, fMinL, fVar, fC, fRaw, fNil, fCons, fTup, fLst, fOp, fTest, fChain, fAnd, fOr, fNot, fAndV, fOrV, fNotV, fIf, fIfT, fStill, still, fnLst, gNm, gTp, gsCons, gsNil, fCall, fCallO, fCallN, fIxN, fLenN, fSl, fPart, fNoPart, fNeg, fIsi, fIsi2, fLen, fAbs, fInt, fMax2, fMin2, fTupOf, fListOf, fSorted, fLstR, fAll, fAny, fIx, fIn, fEq, fIsN, fAdd, fMul, f2I, unD, slots0, settable_iff, npd, npn, npo, npf, npr, ownAt, owned, lentEnd, fiLst, fiTup, fiR1, fiR2, fiZip, fiZip3, fiKeysZ, fiItemsZ, fYes, wipeS, sMix, fmNil, fmS, fmN, setM, Mx.slot, fnDc, fFz, fSlN, fLenDN, fPopN, fSum, fMaxVals, fListVals, fDictOf, fGetDN, fPopDN, fiIf, fInD, fAct, fHand, fBorN, fWp, fOwnEq, fOwnD0, gDPut, fIxR, fnDcL, sAppR, isHp, hpNot, hpAdd, hpSet, hpL]
        refine ⟨⟨by omega, by omega⟩, ?_⟩
        intro a b
        unfold g_law_12
        simp [p1, p2, p3, p4, fn__law_plan, spr, sizeLine_eq, sSeq, sRet, sRetN, sRetW, sIf, sNext, sNever, sExpr, sAsg, sNew, sNewS, sPar, sPar3, sApp, sSetIx, sDPut, sPar3W, fnD0, fnD1, fnOwn, fIxDN, fInDN, fIxZ, fInZ, fLenZ, fListZ, fGetZ, fMaxL, fMinL, fVar, fC, fRaw, fNil, fCons, fTup, fLst, fOp, fTest, fChain, fAnd, fOr, fNot, fAndV, fOrV, fNotV, fIf, fIfT, fStill, still, fnLst, gNm, gTp, gsCons, gsNil, fCall, fCallO, fCallN, fIxN, fLenN, fSl, fPart, fNoPart, fNeg, fIsi, fIsi2, fLen, fAbs, fInt, fMax2, fMin2, fTupOf, fListOf, fSorted, fLstR, fAll, fAny, fIx, fIn, fEq, fIsN, fAdd, fMul, f2I, unD, slots0, settable_iff, npd, npn, npo, npf, npr, ownAt, owned, lentEnd, fiLst, fiTup, fiR1, fiR2, fiZip, fiZip3, fiKeysZ, fiItemsZ, fYes, wipeS, sMix, fmNil, fmS, fmN, setM, Mx.slot, fnDc, fFz, fSlN, fLenDN, fPopN, fSum, fMaxVals, fListVals, fDictOf, fGetDN, fPopDN, fiIf, fInD, fAct, fHand, fBorN, fWp, fOwnEq, fOwnD0, gDPut, fIxR, fnDcL, sAppR, isHp, hpNot, hpAdd, hpSet, hpL]
        intro p a1 b1 hp
        have ok := hp.ok (by decide)
        unfold g_law_11
        simp [p4, p5, fn__law_extremes, fn_extremes_by, planOf_d, ok, sSeq, sRet, sRetN, sRetW, sIf, sNext, sNever, sExpr, sAsg, sNew, sNewS, sPar, sPar3, sApp, sSetIx, sDPut, sPar3W, fnD0, fnD1, fnOwn, fIxDN, fInDN, fIxZ, fInZ, fLenZ, fListZ, fGetZ, fMaxL, fMinL, fVar, fC, fRaw, fNil, fCons, fTup, fLst, fOp, fTest, fChain, fAnd, fOr, fNot, fAndV, fOrV, fNotV, fIf, fIfT, fStill, still, fnLst, gNm, gTp, gsCons, gsNil, fCall, fCallO, fCallN, fIxN, fLenN, fSl, fPart, fNoPart, fNeg, fIsi, fIsi2, fLen, fAbs, fInt, fMax2, fMin2, fTupOf, fListOf, fSorted, fLstR, fAll, fAny, fIx, fIn, fEq, fIsN, fAdd, fMul, f2I, unD, slots0, settable_iff, npd, npn, npo, npf, npr, ownAt, owned, lentEnd, fiLst, fiTup, fiR1, fiR2, fiZip, fiZip3, fiKeysZ, fiItemsZ, fYes, wipeS, sMix, fmNil, fmS, fmN, setM, Mx.slot, fnDc, fFz, fSlN, fLenDN, fPopN, fSum, fMaxVals, fListVals, fDictOf, fGetDN, fPopDN, fiIf, fInD, fAct, fHand, fBorN, fWp, fOwnEq, fOwnD0, gDPut, fIxR, fnDcL, sAppR, isHp, hpNot, hpAdd, hpSet, hpL]
        intro lo hi mlo mhi
        have w1 := warm_in ok mlo.1
        have w2 := warm_in ok mhi.1
        unfold g_law_10
        simp [p6, fn__law_pick, spr, sizeLine_eq, sSeq, sRet, sRetN, sRetW, sIf, sNext, sNever, sExpr, sAsg, sNew, sNewS, sPar, sPar3, sApp, sSetIx, sDPut, sPar3W, fnD0, fnD1, fnOwn, fIxDN, fInDN, fIxZ, fInZ, fLenZ, fListZ, fGetZ, fMaxL, fMinL, fVar, fC, fRaw, fNil, fCons, fTup, fLst, fOp, fTest, fChain, fAnd, fOr, fNot, fAndV, fOrV, fNotV, fIf, fIfT, fStill, still, fnLst, gNm, gTp, gsCons, gsNil, fCall, fCallO, fCallN, fIxN, fLenN, fSl, fPart, fNoPart, fNeg, fIsi, fIsi2, fLen, fAbs, fInt, fMax2, fMin2, fTupOf, fListOf, fSorted, fLstR, fAll, fAny, fIx, fIn, fEq, fIsN, fAdd, fMul, f2I, unD, slots0, settable_iff, npd, npn, npo, npf, npr, ownAt, owned, lentEnd, fiLst, fiTup, fiR1, fiR2, fiZip, fiZip3, fiKeysZ, fiItemsZ, fYes, wipeS, sMix, fmNil, fmS, fmN, setM, Mx.slot, fnDc, fFz, fSlN, fLenDN, fPopN, fSum, fMaxVals, fListVals, fDictOf, fGetDN, fPopDN, fiIf, fInD, fAct, fHand, fBorN, fWp, fOwnEq, fOwnD0, gDPut, fIxR, fnDcL, sAppR, isHp, hpNot, hpAdd, hpSet, hpL]
        intro r a2 b2 r0 r1
        refine d_law8_9 ok (by decide) (by decide) ?_ ?_ (fun _ z => z) (npD _) (show np (.ow _) from trivial) (npD _) (npD _) p7 p8 p9 p10 p11 p12 p13
        · constructor <;> split <;> omega
        · constructor <;> split <;> omega
    · exact h.elim
  · exact h.elim
end Aq
/-! W08: the walk of k08 over its defs, and the row's end (printed by walk.py). -/
namespace Aq
open PySem PySem.Spec PyProof.Rows L2
def top (i : Nat) : Stmt := PySem.Challenge.pw_atoneroom_k08_whole_moves_and_late_senso.main.body.getD i (.Pass ⟨0, 0, 0, 0⟩)
abbrev s_is_within : Stmt := top 6
theorem sc_is_within : FnScope ["value", "low", "high"] ["value", "low", "high"] (defScope s_is_within) := ⟨rfl, rfl, rfl, by decide +kernel, rfl, by decide +kernel, by decide +kernel⟩
abbrev s_is_row : Stmt := top 7
theorem sc_is_row : FnScope ["value", "size"] ["value", "size"] (defScope s_is_row) := ⟨rfl, rfl, rfl, by decide +kernel, rfl, by decide +kernel, by decide +kernel⟩
abbrev s_is_device : Stmt := top 8
theorem sc_is_device : FnScope ["value"] ["value"] (defScope s_is_device) := ⟨rfl, rfl, rfl, by decide +kernel, rfl, by decide +kernel, by decide +kernel⟩
abbrev s_is_plan : Stmt := top 9
theorem sc_is_plan : FnScope ["value"] ["value"] (defScope s_is_plan) := ⟨rfl, rfl, rfl, by decide +kernel, rfl, by decide +kernel, by decide +kernel⟩
abbrev s_look_at_plan : Stmt := top 10
theorem sc_look_at_plan : FnScope ["plan"] ["plan"] (defScope s_look_at_plan) := ⟨rfl, rfl, rfl, by decide +kernel, rfl, by decide +kernel, by decide +kernel⟩
abbrev s_look_at_warmth : Stmt := top 11
theorem sc_look_at_warmth : FnScope ["warmth"] ["warmth"] (defScope s_look_at_warmth) := ⟨rfl, rfl, rfl, by decide +kernel, rfl, by decide +kernel, by decide +kernel⟩
abbrev s_begin_of : Stmt := top 12
theorem sc_begin_of : FnScope ["plan", "heater", "cooler", "sensor", "weather", "barred", "begin"] ["plan"] (defScope s_begin_of) := ⟨rfl, rfl, rfl, by decide +kernel, rfl, by decide +kernel, by decide +kernel⟩
abbrev s_told_by : Stmt := top 14
theorem sc_told_by : FnScope ["plan", "stand", "late", "step", "warmth"] ["plan", "stand"] (defScope s_told_by) := ⟨rfl, rfl, rfl, by decide +kernel, rfl, by decide +kernel, by decide +kernel⟩
abbrev s_goes_on : Stmt := top 15
theorem sc_goes_on : FnScope ["device", "part", "begins", "ends", "free", "low", "high", "on", "off", "power", "runs", "count"] ["device", "part", "begins", "ends", "free"] (defScope s_goes_on) := ⟨rfl, rfl, rfl, by decide +kernel, rfl, by decide +kernel, by decide +kernel⟩
abbrev s_parts_by : Stmt := top 16
theorem sc_parts_by : FnScope ["plan", "stand", "number", "barred", "heater", "cooler", "one", "other"] ["plan", "stand"] (defScope s_parts_by) := ⟨rfl, rfl, rfl, by decide +kernel, rfl, by decide +kernel, by decide +kernel⟩
abbrev s_behind : Stmt := top 17
theorem sc_behind : FnScope ["plan", "stand", "choice", "heater", "cooler", "warmth", "past"] ["plan", "stand", "choice"] (defScope s_behind) := ⟨rfl, rfl, rfl, by decide +kernel, rfl, by decide +kernel, by decide +kernel⟩
abbrev s_both_run : Stmt := top 18
theorem sc_both_run : FnScope ["plan", "stand", "heater", "cooler"] ["plan", "stand"] (defScope s_both_run) := ⟨rfl, rfl, rfl, by decide +kernel, rfl, by decide +kernel, by decide +kernel⟩
abbrev s_changes_of : Stmt := top 19
theorem sc_changes_of : FnScope ["plan"] ["plan"] (defScope s_changes_of) := ⟨rfl, rfl, rfl, by decide +kernel, rfl, by decide +kernel, by decide +kernel⟩
abbrev s_ways_by : Stmt := top 21
theorem sc_ways_by : FnScope ["plan", "first", "found", "waiting", "at", "stand", "choice", "there"] ["plan"] (defScope s_ways_by) := ⟨rfl, rfl, rfl, by decide +kernel, rfl, by decide +kernel, by decide +kernel⟩
abbrev s_extremes_by : Stmt := top 22
theorem sc_extremes_by : FnScope ["plan", "some", "stand"] ["plan"] (defScope s_extremes_by) := ⟨rfl, rfl, rfl, by decide +kernel, rfl, by decide +kernel, by decide +kernel⟩
abbrev s_both_by : Stmt := top 23
theorem sc_both_by : FnScope ["plan", "stand", "run"] ["plan"] (defScope s_both_by) := ⟨rfl, rfl, rfl, by decide +kernel, rfl, by decide +kernel, by decide +kernel⟩
abbrev s_still_ring : Stmt := top 25
theorem sc_still_ring : FnScope ["plan", "is_good", "ways", "seen", "stand", "road", "line", "one"] ["plan", "is_good"] (defScope s_still_ring) := ⟨rfl, rfl, rfl, by decide +kernel, rfl, by decide +kernel, by decide +kernel⟩
abbrev s_ones_that_run : Stmt := top 26
theorem sc_ones_that_run : FnScope ["plan", "line", "rows", "stand", "heater", "cooler"] ["plan", "line"] (defScope s_ones_that_run) := ⟨rfl, rfl, rfl, by decide +kernel, rfl, by decide +kernel, by decide +kernel⟩
abbrev s_fight_by : Stmt := top 27
theorem sc_fight_by : FnScope ["plan"] ["plan"] (defScope s_fight_by) := ⟨rfl, rfl, rfl, by decide +kernel, rfl, by decide +kernel, by decide +kernel⟩
abbrev s_with_move : Stmt := top 29
theorem sc_with_move : FnScope ["plan", "number", "low", "high", "on", "off", "power"] ["plan", "number"] (defScope s_with_move) := ⟨rfl, rfl, rfl, by decide +kernel, rfl, by decide +kernel, by decide +kernel⟩
abbrev s_is_good : Stmt := top 30
theorem sc_is_good : FnScope ["plan", "low", "high", "least", "most"] ["plan", "low", "high"] (defScope s_is_good) := ⟨rfl, rfl, rfl, by decide +kernel, rfl, by decide +kernel, by decide +kernel⟩
abbrev s_good_moves : Stmt := top 31
theorem sc_good_moves : FnScope ["plan", "low", "high", "number"] ["plan", "low", "high"] (defScope s_good_moves) := ⟨rfl, rfl, rfl, by decide +kernel, rfl, by decide +kernel, by decide +kernel⟩
abbrev s_late_costs : Stmt := top 32
theorem sc_late_costs : FnScope ["plan", "late"] ["plan"] (defScope s_late_costs) := ⟨rfl, rfl, rfl, by decide +kernel, rfl, by decide +kernel, by decide +kernel⟩
abbrev s__law_spring : Stmt := top 34
theorem sc__law_spring : FnScope ["script", "at", "cell", "mixed"] ["script", "at"] (defScope s__law_spring) := ⟨rfl, rfl, rfl, by decide +kernel, rfl, by decide +kernel, by decide +kernel⟩
abbrev s__law_pick : Stmt := top 35
theorem sc__law_pick : FnScope ["spring", "many", "digit"] ["spring", "many"] (defScope s__law_pick) := ⟨rfl, rfl, rfl, by decide +kernel, rfl, by decide +kernel, by decide +kernel⟩
abbrev s__law_kind : Stmt := top 36
theorem sc__law_kind : FnScope ["value"] ["value"] (defScope s__law_kind) := ⟨rfl, rfl, rfl, by decide +kernel, rfl, by decide +kernel, by decide +kernel⟩
abbrev s__law_twins : Stmt := top 37
theorem sc__law_twins : FnScope ["one", "other", "a", "b"] ["one", "other"] (defScope s__law_twins) := ⟨rfl, rfl, rfl, by decide +kernel, rfl, by decide +kernel, by decide +kernel⟩
abbrev s__law_device : Stmt := top 38
theorem sc__law_device : FnScope ["spring", "low", "times"] ["spring", "low"] (defScope s__law_device) := ⟨rfl, rfl, rfl, by decide +kernel, rfl, by decide +kernel, by decide +kernel⟩
abbrev s__law_plan : Stmt := top 39
theorem sc__law_plan : FnScope ["spring", "late", "sensor", "low", "weather", "barred", "begin"] ["spring", "late"] (defScope s__law_plan) := ⟨rfl, rfl, rfl, by decide +kernel, rfl, by decide +kernel, by decide +kernel⟩
abbrev s__law_first : Stmt := top 40
theorem sc__law_first : FnScope ["plan"] ["plan"] (defScope s__law_first) := ⟨rfl, rfl, rfl, by decide +kernel, rfl, by decide +kernel, by decide +kernel⟩
abbrev s__law_told : Stmt := top 41
theorem sc__law_told : FnScope ["plan", "stand", "warmth"] ["plan", "stand"] (defScope s__law_told) := ⟨rfl, rfl, rfl, by decide +kernel, rfl, by decide +kernel, by decide +kernel⟩
abbrev s__law_part : Stmt := top 42
theorem sc__law_part : FnScope ["device", "part", "wants_on", "wants_off", "runs", "count", "need"] ["device", "part", "wants_on", "wants_off"] (defScope s__law_part) := ⟨rfl, rfl, rfl, by decide +kernel, rfl, by decide +kernel, by decide +kernel⟩
abbrev s__law_parts : Stmt := top 43
theorem sc__law_parts : FnScope ["plan", "stand", "number", "heater", "cooler", "sensor", "weather", "barred", "begin", "warm", "cool", "one", "other"] ["plan", "stand"] (defScope s__law_parts) := ⟨rfl, rfl, rfl, by decide +kernel, rfl, by decide +kernel, by decide +kernel⟩
abbrev s__law_after : Stmt := top 44
theorem sc__law_after : FnScope ["plan", "stand", "change", "one", "other", "warmth", "past"] ["plan", "stand", "change"] (defScope s__law_after) := ⟨rfl, rfl, rfl, by decide +kernel, rfl, by decide +kernel, by decide +kernel⟩
abbrev s__law_on : Stmt := top 45
theorem sc__law_on : FnScope ["plan", "stand", "one", "other"] ["plan", "stand"] (defScope s__law_on) := ⟨rfl, rfl, rfl, by decide +kernel, rfl, by decide +kernel, by decide +kernel⟩
abbrev s__law_changes : Stmt := top 47
theorem sc__law_changes : FnScope ["plan"] ["plan"] (defScope s__law_changes) := ⟨rfl, rfl, rfl, by decide +kernel, rfl, by decide +kernel, by decide +kernel⟩
abbrev s__law_ways : Stmt := top 48
theorem sc__law_ways : FnScope ["plan", "begin", "found", "queue", "at", "stand", "change", "there"] ["plan"] (defScope s__law_ways) := ⟨rfl, rfl, rfl, by decide +kernel, rfl, by decide +kernel, by decide +kernel⟩
abbrev s__law_extremes : Stmt := top 49
theorem sc__law_extremes : FnScope ["plan", "some", "stand"] ["plan"] (defScope s__law_extremes) := ⟨rfl, rfl, rfl, by decide +kernel, rfl, by decide +kernel, by decide +kernel⟩
abbrev s__law_still : Stmt := top 50
theorem sc__law_still : FnScope ["plan", "found", "known", "stand", "road", "some", "one", "row"] ["plan"] (defScope s__law_still) := ⟨rfl, rfl, rfl, by decide +kernel, rfl, by decide +kernel, by decide +kernel⟩
abbrev s__law_well : Stmt := top 51
theorem sc__law_well : FnScope ["plan", "low", "high", "stand"] ["plan", "low", "high"] (defScope s__law_well) := ⟨rfl, rfl, rfl, by decide +kernel, rfl, by decide +kernel, by decide +kernel⟩
abbrev s_law : Stmt := top 52
theorem sc_law : FnScope ["script", "at", "spring", "plan", "low", "high", "bounds", "least", "most", "due", "number", "cooler", "costs", "late"] ["script"] (defScope s_law) := ⟨rfl, rfl, rfl, by decide +kernel, rfl, by decide +kernel, by decide +kernel⟩
structure Tx (K : PySem.W.Frag) (mg : Str → Option Value) [Tb mg] (base : Heap) where
  f_is_within : FnT K mg "is_within" s_is_within
  f_is_row : FnT K mg "is_row" s_is_row
  f_is_device : FnT K mg "is_device" s_is_device
  f_is_plan : FnT K mg "is_plan" s_is_plan
  f_look_at_plan : FnT K mg "look_at_plan" s_look_at_plan
  f_look_at_warmth : FnT K mg "look_at_warmth" s_look_at_warmth
  f_begin_of : FnT K mg "begin_of" s_begin_of
  f_told_by : FnT K mg "told_by" s_told_by
  f_goes_on : FnT K mg "goes_on" s_goes_on
  f_parts_by : FnT K mg "parts_by" s_parts_by
  f_behind : FnT K mg "behind" s_behind
  f_both_run : FnT K mg "both_run" s_both_run
  f_changes_of : FnT K mg "changes_of" s_changes_of
  f_ways_by : FnT K mg "ways_by" s_ways_by
  f_extremes_by : FnT K mg "extremes_by" s_extremes_by
  f_both_by : FnT K mg "both_by" s_both_by
  f_still_ring : FnT K mg "still_ring" s_still_ring
  f_ones_that_run : FnT K mg "ones_that_run" s_ones_that_run
  f_fight_by : FnT K mg "fight_by" s_fight_by
  f_with_move : FnT K mg "with_move" s_with_move
  f_is_good : FnT K mg "is_good" s_is_good
  f_good_moves : FnT K mg "good_moves" s_good_moves
  f_late_costs : FnT K mg "late_costs" s_late_costs
  f__law_spring : FnT K mg "_law_spring" s__law_spring
  f__law_pick : FnT K mg "_law_pick" s__law_pick
  f__law_kind : FnT K mg "_law_kind" s__law_kind
  f__law_twins : FnT K mg "_law_twins" s__law_twins
  f__law_device : FnT K mg "_law_device" s__law_device
  f__law_plan : FnT K mg "_law_plan" s__law_plan
  f__law_first : FnT K mg "_law_first" s__law_first
  f__law_told : FnT K mg "_law_told" s__law_told
  f__law_part : FnT K mg "_law_part" s__law_part
  f__law_parts : FnT K mg "_law_parts" s__law_parts
  f__law_after : FnT K mg "_law_after" s__law_after
  f__law_on : FnT K mg "_law_on" s__law_on
  f__law_changes : FnT K mg "_law_changes" s__law_changes
  f__law_ways : FnT K mg "_law_ways" s__law_ways
  f__law_extremes : FnT K mg "_law_extremes" s__law_extremes
  f__law_still : FnT K mg "_law_still" s__law_still
  f__law_well : FnT K mg "_law_well" s__law_well
  f_law : FnT K mg "law" s_law
  MOST_WARMTH : ∃ t, mg "MOST_WARMTH" = some (.int 15 t)
  z_abs : mg "abs" = none
  z_any : mg "any" = none
  z_bool : mg "bool" = none
  z_int : mg "int" = none
  z_isinstance : mg "isinstance" = none
  z_len : mg "len" = none
  z_list : mg "list" = none
  z_max : mg "max" = none
  z_min : mg "min" = none
  z_range : mg "range" = none
  z_sorted : mg "sorted" = none
  z_str : mg "str" = none
  z_tuple : mg "tuple" = none
  z_zip : mg "zip" = none
  m_fight_by : MkT mg base f_fight_by.fd "fight_by"
section
variable {P : Program} {w : World} {K : PySem.W.Frag} {mg : Str → Option Value} [Tb mg] {base : Heap}
theorem b_is_within (T : Tx K mg base) : Binds K T.f_is_within.fd ["value", "low", "high"] [] := T.f_is_within.F.binds fun _ _ _ _ _ _ us hl => match us, hl with | [_, _, _], _ => rfl
theorem ok_is_within (T : Tx K mg base) : FnOk P w K mg base CX0 1 T.f_is_within.f T.f_is_within.fd ["value", "low", "high"] (spF ⟨P, w, K, Tb.l mg⟩ 3 fn_is_within) :=
  fn_data T.f_is_within.F sc_is_within (fun cdv A outer s H E hr => ((dss_one (ds_ret (de_and (de_bi b_isi T.z_isinstance (by decide +kernel) (da_cons (de_var 0) (da_cons (de_tyv T.z_int (by decide +kernel)) da_nil))) (de_and (de_not (de_bi b_isi T.z_isinstance (by decide +kernel) (da_cons (de_var 0) (da_cons (de_tyv T.z_bool (by decide +kernel)) da_nil)))) (de_one (de_chain c_le c_le (de_var 1) (de_var 0) (de_var 2))))))) : DSs _ _ g_is_within)) fun ss Q' _ h => d_is_within ss Q' h
theorem b_is_row (T : Tx K mg base) : Binds K T.f_is_row.fd ["value", "size"] [] := T.f_is_row.F.binds fun _ _ _ _ _ _ us hl => match us, hl with | [_, _], _ => rfl
theorem ok_is_row (T : Tx K mg base) : FnOk P w K mg base CX0 1 T.f_is_row.f T.f_is_row.fd ["value", "size"] (spF ⟨P, w, K, Tb.l mg⟩ 2 fn_is_row) :=
  fn_data T.f_is_row.F sc_is_row (fun cdv A outer s H E hr => ((dss_one (ds_ret (de_and (de_bi b_isi T.z_isinstance (by decide +kernel) (da_cons (de_var 0) (da_cons (de_tyv T.z_tuple (by decide +kernel)) da_nil))) (de_one (de_cmp (c_eq hr.units) (de_bi b_len T.z_len boot_len (da_cons (de_var 0) da_nil)) (de_var 1) (nomark _)))))) : DSs _ _ g_is_row)) fun ss Q' _ h => d_is_row ss Q' h
theorem b_is_device (T : Tx K mg base) : Binds K T.f_is_device.fd ["value"] [] := T.f_is_device.F.binds fun _ _ _ _ _ _ us hl => match us, hl with | [_], _ => rfl
theorem ok_is_device (T : Tx K mg base) : FnOk P w K mg base CX0 2 T.f_is_device.f T.f_is_device.fd ["value"] (spF ⟨P, w, K, Tb.l mg⟩ 1 fn_is_device) :=
  fn_data T.f_is_device.F sc_is_device (fun cdv A outer s H E hr => ((dss_cons (ds_if (dt_bool (dw_or (dt_not (dt_val (de_call (ok_is_row T) (hr.mono (by decide)) T.f_is_row.g T.f_is_row.F.kp (b_is_row T) pass0 (da_cons (de_var 0) (da_cons de_int da_nil)) n_is_row))) (dw_or (dt_not (dt_val (de_call (ok_is_within T) (hr.mono (by decide)) T.f_is_within.g T.f_is_within.F.kp (b_is_within T) pass0 (da_cons (de_ix (de_var 0) de_int) (da_cons de_int (da_cons (de_glob (v := .int 15) (s := .d (.int 15)) (by rfl) T.MOST_WARMTH.choose_spec ⟨_, rfl⟩ fun _ => Dp.int _) da_nil))) n_is_within))) (dw_or1 (dt_not (dt_val (de_call (ok_is_within T) (hr.mono (by decide)) T.f_is_within.g T.f_is_within.F.kp (b_is_within T) pass0 (da_cons (de_ix (de_var 0) de_int) (da_cons de_int (da_cons (de_op b_sub (de_ix (de_var 0) de_int) de_int) da_nil))) n_is_within))))))) (dss_one (ds_ret de_bl)) dss_nil)
      (dss_one (ds_ret (de_and (de_call (ok_is_within T) (hr.mono (by decide)) T.f_is_within.g T.f_is_within.F.kp (b_is_within T) pass0 (da_cons (de_ix (de_var 0) de_int) (da_cons de_int (da_cons de_int da_nil))) n_is_within) (de_and (de_call (ok_is_within T) (hr.mono (by decide)) T.f_is_within.g T.f_is_within.F.kp (b_is_within T) pass0 (da_cons (de_ix (de_var 0) de_int) (da_cons de_int (da_cons de_int da_nil))) n_is_within) (de_one (de_call (ok_is_within T) (hr.mono (by decide)) T.f_is_within.g T.f_is_within.F.kp (b_is_within T) pass0 (da_cons (de_ix (de_var 0) de_int) (da_cons de_int (da_cons de_int da_nil))) n_is_within))))))) : DSs _ _ g_is_device)) fun ss Q' _ h => d_is_device ss Q' h
theorem b_is_plan (T : Tx K mg base) : Binds K T.f_is_plan.fd ["value"] [] := T.f_is_plan.F.binds fun _ _ _ _ _ _ us hl => match us, hl with | [_], _ => rfl
theorem ok_is_plan (T : Tx K mg base) : FnOk P w K mg base CX0 3 T.f_is_plan.f T.f_is_plan.fd ["value"] (spF ⟨P, w, K, Tb.l mg⟩ 1 fn_is_plan) :=
  fn_data T.f_is_plan.F sc_is_plan (fun cdv A outer s H E hr => ((dss_cons (ds_if (dt_bool (dw_or (dt_not (dt_val (de_call (ok_is_row T) (hr.mono (by decide)) T.f_is_row.g T.f_is_row.F.kp (b_is_row T) pass0 (da_cons (de_var 0) (da_cons de_int da_nil)) n_is_row))) (dw_or (dt_not (dt_val (de_call (ok_is_device T) (hr.mono (by decide)) T.f_is_device.g T.f_is_device.F.kp (b_is_device T) pass0 (da_cons (de_ix (de_var 0) de_int) da_nil) n_is_device))) (dw_or1 (dt_not (dt_val (de_call (ok_is_device T) (hr.mono (by decide)) T.f_is_device.g T.f_is_device.F.kp (b_is_device T) pass0 (da_cons (de_ix (de_var 0) de_int) da_nil) n_is_device))))))) (dss_one (ds_ret de_bl)) dss_nil)
      (dss_cons (ds_if (dt_bool (dw_or (dt_not (dt_val (de_call (ok_is_row T) (hr.mono (by decide)) T.f_is_row.g T.f_is_row.F.kp (b_is_row T) pass0 (da_cons (de_ix (de_var 0) de_int) (da_cons de_int da_nil)) n_is_row))) (dw_or (dt_not (dt_val (de_call (ok_is_within T) (hr.mono (by decide)) T.f_is_within.g T.f_is_within.F.kp (b_is_within T) pass0 (da_cons (de_ix (de_ix (de_var 0) de_int) de_int) (da_cons de_int (da_cons de_int da_nil))) n_is_within))) (dw_or1 (dt_not (dt_val (de_call (ok_is_within T) (hr.mono (by decide)) T.f_is_within.g T.f_is_within.F.kp (b_is_within T) pass0 (da_cons (de_ix (de_ix (de_var 0) de_int) de_int) (da_cons de_int (da_cons de_int da_nil))) n_is_within))))))) (dss_one (ds_ret de_bl)) dss_nil)
      (dss_cons (ds_if (dt_bool (dw_or (dt_not (dt_val (de_call (ok_is_row T) (hr.mono (by decide)) T.f_is_row.g T.f_is_row.F.kp (b_is_row T) pass0 (da_cons (de_ix (de_var 0) de_int) (da_cons de_int da_nil)) n_is_row))) (dw_or (dt_not (dt_val (de_call (ok_is_within T) (hr.mono (by decide)) T.f_is_within.g T.f_is_within.F.kp (b_is_within T) pass0 (da_cons (de_ix (de_ix (de_var 0) de_int) de_int) (da_cons (de_neg de_int) (da_cons de_int da_nil))) n_is_within))) (dw_or1 (dt_not (dt_val (de_call (ok_is_within T) (hr.mono (by decide)) T.f_is_within.g T.f_is_within.F.kp (b_is_within T) pass0 (da_cons (de_ix (de_ix (de_var 0) de_int) de_int) (da_cons (de_ix (de_ix (de_var 0) de_int) de_int) (da_cons de_int da_nil))) n_is_within))))))) (dss_one (ds_ret de_bl)) dss_nil)
      (dss_cons (ds_if (dt_bool (dw_or (dt_not (dt_val (de_bi b_isi T.z_isinstance (by decide +kernel) (da_cons (de_ix (de_var 0) de_int) (da_cons (de_tyv T.z_str (by decide +kernel)) da_nil))))) (dw_or1 (dt_cmp c_notin (de_ix (de_var 0) de_int) (de_tup (da_cons de_str (da_cons de_str (da_cons de_str da_nil)))) (by rfl))))) (dss_one (ds_ret de_bl)) dss_nil)
      (dss_one (ds_ret (de_call (ok_is_within T) (hr.mono (by decide)) T.f_is_within.g T.f_is_within.F.kp (b_is_within T) pass0 (da_cons (de_ix (de_var 0) de_int) (da_cons de_int (da_cons (de_glob (v := .int 15) (s := .d (.int 15)) (by rfl) T.MOST_WARMTH.choose_spec ⟨_, rfl⟩ fun _ => Dp.int _) da_nil))) n_is_within))))))) : DSs _ _ g_is_plan)) fun ss Q' _ h => d_is_plan ss Q' h
theorem b_look_at_plan (T : Tx K mg base) : Binds K T.f_look_at_plan.fd ["plan"] [] := T.f_look_at_plan.F.binds fun _ _ _ _ _ _ us hl => match us, hl with | [_], _ => rfl
theorem ok_look_at_plan (T : Tx K mg base) : FnOk P w K mg base CX0 4 T.f_look_at_plan.f T.f_look_at_plan.fd ["plan"] (spF ⟨P, w, K, Tb.l mg⟩ 1 fn_look_at_plan) :=
  fn_data T.f_look_at_plan.F sc_look_at_plan (fun cdv A outer s H E hr => ((dss_one (ds_if (dt_not (dt_val (de_call (ok_is_plan T) (hr.mono (by decide)) T.f_is_plan.g T.f_is_plan.F.kp (b_is_plan T) pass0 (da_cons (de_var 0) da_nil) n_is_plan))) (dss_one ds_never) dss_nil)) : DSs _ _ g_look_at_plan)) fun ss Q' _ h => d_look_at_plan ss Q' h
theorem b_look_at_warmth (T : Tx K mg base) : Binds K T.f_look_at_warmth.fd ["warmth"] [] := T.f_look_at_warmth.F.binds fun _ _ _ _ _ _ us hl => match us, hl with | [_], _ => rfl
theorem ok_look_at_warmth (T : Tx K mg base) : FnOk P w K mg base CX0 2 T.f_look_at_warmth.f T.f_look_at_warmth.fd ["warmth"] (spF ⟨P, w, K, Tb.l mg⟩ 1 fn_look_at_warmth) :=
  fn_data T.f_look_at_warmth.F sc_look_at_warmth (fun cdv A outer s H E hr => ((dss_one (ds_if (dt_not (dt_val (de_call (ok_is_within T) (hr.mono (by decide)) T.f_is_within.g T.f_is_within.F.kp (b_is_within T) pass0 (da_cons (de_var 0) (da_cons de_int (da_cons (de_glob (v := .int 15) (s := .d (.int 15)) (by rfl) T.MOST_WARMTH.choose_spec ⟨_, rfl⟩ fun _ => Dp.int _) da_nil))) n_is_within))) (dss_one ds_never) dss_nil)) : DSs _ _ g_look_at_warmth)) fun ss Q' _ h => d_look_at_warmth ss Q' h
theorem b_begin_of (T : Tx K mg base) : Binds K T.f_begin_of.fd ["plan"] [] := T.f_begin_of.F.binds fun _ _ _ _ _ _ us hl => match us, hl with | [_], _ => rfl
theorem ok_begin_of (T : Tx K mg base) : FnOk P w K mg base CX0 1 T.f_begin_of.f T.f_begin_of.fd ["plan"] (spF ⟨P, w, K, Tb.l mg⟩ 1 fn_begin_of) :=
  fn_data T.f_begin_of.F sc_begin_of (fun cdv A outer s H E hr => ((dss_cons (ds_asg (de_var 0) (dg_tup rfl (dgs_cons (dg_name 1 sc_begin_of.nd) (dgs_cons (dg_name 2 sc_begin_of.nd) (dgs_cons (dg_name 3 sc_begin_of.nd) (dgs_cons (dg_name 4 sc_begin_of.nd) (dgs_cons (dg_name 5 sc_begin_of.nd) (dgs_cons (dg_name 6 sc_begin_of.nd) dgs_nil))))))))
      (dss_one (ds_ret (de_tup (da_cons (de_var 6) (da_cons (de_op b_mul (de_tup (da_cons (de_var 6) da_nil)) (de_ix (de_var 3) de_int)) (da_cons (de_tup (da_cons de_bl (da_cons (de_ix (de_var 1) de_int) da_nil))) (da_cons (de_tup (da_cons de_bl (da_cons (de_ix (de_var 2) de_int) da_nil))) da_nil)))))))) : DSs _ _ g_begin_of)) fun ss Q' _ h => d_begin_of ss Q' h
theorem b_told_by (T : Tx K mg base) : Binds K T.f_told_by.fd ["plan", "stand"] [] := T.f_told_by.F.binds fun _ _ _ _ _ _ us hl => match us, hl with | [_, _], _ => rfl
theorem ok_told_by (T : Tx K mg base) : FnOk P w K mg base CX0 1 T.f_told_by.f T.f_told_by.fd ["plan", "stand"] (spF ⟨P, w, K, Tb.l mg⟩ 2 fn_told_by) :=
  fn_data T.f_told_by.F sc_told_by (fun cdv A outer s H E hr => ((dss_cons (ds_asg (de_ix (de_var 0) de_int) (dg_tup rfl (dgs_cons (dg_name 2 sc_told_by.nd) (dgs_cons (dg_name 3 sc_told_by.nd) dgs_nil))))
      (dss_cons (ds_set 4 sc_told_by.nd (de_if (dt_cmp c_gt (de_var 2) de_int (nomark _)) (de_ix (de_ix (de_var 1) de_int) (de_neg de_int)) (de_ix (de_var 1) de_int)))
      (dss_one (ds_ret (de_op b_mul (de_var 3) (de_op b_fdiv (de_var 4) (de_var 3))))))) : DSs _ _ g_told_by)) fun ss Q' _ h => d_told_by ss Q' h
theorem b_goes_on (T : Tx K mg base) : Binds K T.f_goes_on.fd ["device", "part", "begins", "ends", "free"] [] := T.f_goes_on.F.binds fun _ _ _ _ _ _ us hl => match us, hl with | [_, _, _, _, _], _ => rfl
theorem ok_goes_on (T : Tx K mg base) : FnOk P w K mg base CX0 1 T.f_goes_on.f T.f_goes_on.fd ["device", "part", "begins", "ends", "free"] (spF ⟨P, w, K, Tb.l mg⟩ 5 fn_goes_on) :=
  fn_data T.f_goes_on.F sc_goes_on (fun cdv A outer s H E hr => ((dss_cons (ds_asg (de_var 0) (dg_tup rfl (dgs_cons (dg_name 5 sc_goes_on.nd) (dgs_cons (dg_name 6 sc_goes_on.nd) (dgs_cons (dg_name 7 sc_goes_on.nd) (dgs_cons (dg_name 8 sc_goes_on.nd) (dgs_cons (dg_name 9 sc_goes_on.nd) dgs_nil)))))))
      (dss_cons (ds_asg (de_var 1) (dg_tup rfl (dgs_cons (dg_name 10 sc_goes_on.nd) (dgs_cons (dg_name 11 sc_goes_on.nd) dgs_nil))))
      (dss_cons (ds_if (dt_bool (dw_or (dt_bool (dw_and (dt_val (de_var 10)) (dw_and (dt_val (de_var 3)) (dw_and1 (dt_cmp c_ge (de_var 11) (de_var 7) (nomark _)))))) (dw_or1 (dt_bool (dw_and (dt_not (dt_val (de_var 10))) (dw_and (dt_val (de_var 2)) (dw_and (dt_cmp c_ge (de_var 11) (de_var 8) (nomark _)) (dw_and1 (dt_val (de_var 4)))))))))) (dss_one (ds_ret (de_tup (da_cons (de_not (de_var 10)) (da_cons de_int da_nil))))) dss_nil)
      (dss_one (ds_ret (de_tup (da_cons (de_var 10) (da_cons (de_bi (b_min2 rfl) T.z_min (by decide +kernel) (da_cons (de_if (dt_val (de_var 10)) (de_var 7) (de_var 8)) (da_cons (de_op b_add (de_var 11) de_int) da_nil))) da_nil)))))))) : DSs _ _ g_goes_on)) fun ss Q' _ h => d_goes_on ss Q' h
theorem b_parts_by (T : Tx K mg base) : Binds K T.f_parts_by.fd ["plan", "stand"] [] := T.f_parts_by.F.binds fun _ _ _ _ _ _ us hl => match us, hl with | [_, _], _ => rfl
theorem ok_parts_by (T : Tx K mg base) : FnOk P w K mg base CX0 2 T.f_parts_by.f T.f_parts_by.fd ["plan", "stand"] (spF ⟨P, w, K, Tb.l mg⟩ 2 fn_parts_by) :=
  fn_data T.f_parts_by.F sc_parts_by (fun cdv A outer s H E hr => ((dss_cons (ds_par 2 3 rfl sc_parts_by.nd (da_cons (de_call (ok_told_by T) (hr.mono (by decide)) T.f_told_by.g T.f_told_by.F.kp (b_told_by T) pass0 (da_cons (de_var 0) (da_cons (de_var 1) da_nil)) n_told_by) (da_cons (de_ix (de_var 0) de_int) da_nil)))
      (dss_cons (ds_par 4 5 rfl sc_parts_by.nd (da_cons (de_ix (de_var 1) de_int) (da_cons (de_ix (de_var 1) de_int) da_nil)))
      (dss_cons (ds_set 6 sc_parts_by.nd (de_call (ok_goes_on T) (hr.mono (by decide)) T.f_goes_on.g T.f_goes_on.F.kp (b_goes_on T) pass0 (da_cons (de_ix (de_var 0) de_int) (da_cons (de_var 4) (da_cons (de_cmp c_le (de_var 2) (de_ix (de_ix (de_var 0) de_int) de_int) (nomark _)) (da_cons (de_cmp c_ge (de_var 2) (de_ix (de_ix (de_var 0) de_int) de_int) (nomark _)) (da_cons (de_or (de_cmp (c_ne hr.units) (de_var 3) de_str (nomark _)) (de_one (de_not (de_ix (de_var 5) de_int)))) da_nil))))) n_goes_on))
      (dss_cons (ds_set 7 sc_parts_by.nd (de_call (ok_goes_on T) (hr.mono (by decide)) T.f_goes_on.g T.f_goes_on.F.kp (b_goes_on T) pass0 (da_cons (de_ix (de_var 0) de_int) (da_cons (de_var 5) (da_cons (de_cmp c_ge (de_var 2) (de_ix (de_ix (de_var 0) de_int) de_int) (nomark _)) (da_cons (de_cmp c_le (de_var 2) (de_ix (de_ix (de_var 0) de_int) de_int) (nomark _)) (da_cons (de_or (de_cmp (c_ne hr.units) (de_var 3) de_str (nomark _)) (de_one (de_not (de_ix (de_var 4) de_int)))) da_nil))))) n_goes_on))
      (dss_one (ds_ret (de_tup (da_cons (de_var 6) (da_cons (de_var 7) da_nil))))))))) : DSs _ _ g_parts_by)) fun ss Q' _ h => d_parts_by ss Q' h
theorem b_behind (T : Tx K mg base) : Binds K T.f_behind.fd ["plan", "stand", "choice"] [] := T.f_behind.F.binds fun _ _ _ _ _ _ us hl => match us, hl with | [_, _, _], _ => rfl
theorem ok_behind (T : Tx K mg base) : FnOk P w K mg base CX0 3 T.f_behind.f T.f_behind.fd ["plan", "stand", "choice"] (spF ⟨P, w, K, Tb.l mg⟩ 3 fn_behind) :=
  fn_data T.f_behind.F sc_behind (fun cdv A outer s H E hr => ((dss_cons (ds_asg (de_call (ok_parts_by T) (hr.mono (by decide)) T.f_parts_by.g T.f_parts_by.F.kp (b_parts_by T) pass0 (da_cons (de_var 0) (da_cons (de_var 1) da_nil)) n_parts_by) (dg_tup rfl (dgs_cons (dg_name 3 sc_behind.nd) (dgs_cons (dg_name 4 sc_behind.nd) dgs_nil))))
      (dss_cons (ds_set 5 sc_behind.nd (de_op b_sub (de_op b_add (de_op b_add (de_ix (de_var 1) de_int) (de_var 2)) (de_op b_mul (de_ix (de_ix (de_var 0) de_int) de_int) (de_ty b_int T.z_int (by decide +kernel) (da_cons (de_ix (de_var 3) de_int) da_nil)))) (de_op b_mul (de_ix (de_ix (de_var 0) de_int) de_int) (de_ty b_int T.z_int (by decide +kernel) (da_cons (de_ix (de_var 4) de_int) da_nil)))))
      (dss_cons (ds_set 6 sc_behind.nd (de_slice (de_op b_add (de_tup (da_cons (de_ix (de_var 1) de_int) da_nil)) (de_ix (de_var 1) de_int)) do_none (do_some (de_ix (de_ix (de_var 0) de_int) de_int))))
      (dss_one (ds_ret (de_tup (da_cons (de_bi (b_min2 rfl) T.z_min (by decide +kernel) (da_cons (de_glob (v := .int 15) (s := .d (.int 15)) (by rfl) T.MOST_WARMTH.choose_spec ⟨_, rfl⟩ fun _ => Dp.int _) (da_cons (de_bi (b_max2 rfl) T.z_max (by decide +kernel) (da_cons de_int (da_cons (de_var 5) da_nil))) da_nil))) (da_cons (de_var 6) (da_cons (de_var 3) (da_cons (de_var 4) da_nil)))))))))) : DSs _ _ g_behind)) fun ss Q' _ h => d_behind ss Q' h
theorem b_both_run (T : Tx K mg base) : Binds K T.f_both_run.fd ["plan", "stand"] [] := T.f_both_run.F.binds fun _ _ _ _ _ _ us hl => match us, hl with | [_, _], _ => rfl
theorem ok_both_run (T : Tx K mg base) : FnOk P w K mg base CX0 3 T.f_both_run.f T.f_both_run.fd ["plan", "stand"] (spF ⟨P, w, K, Tb.l mg⟩ 2 fn_both_run) :=
  fn_data T.f_both_run.F sc_both_run (fun cdv A outer s H E hr => ((dss_cons (ds_asg (de_call (ok_parts_by T) (hr.mono (by decide)) T.f_parts_by.g T.f_parts_by.F.kp (b_parts_by T) pass0 (da_cons (de_var 0) (da_cons (de_var 1) da_nil)) n_parts_by) (dg_tup rfl (dgs_cons (dg_name 2 sc_both_run.nd) (dgs_cons (dg_name 3 sc_both_run.nd) dgs_nil))))
      (dss_one (ds_ret (de_and (de_ix (de_var 2) de_int) (de_one (de_ix (de_var 3) de_int)))))) : DSs _ _ g_both_run)) fun ss Q' _ h => d_both_run ss Q' h
theorem b_changes_of (T : Tx K mg base) : Binds K T.f_changes_of.fd ["plan"] [] := T.f_changes_of.F.binds fun _ _ _ _ _ _ us hl => match us, hl with | [_], _ => rfl
theorem ok_changes_of (T : Tx K mg base) : FnOk P w K mg base CX0 1 T.f_changes_of.f T.f_changes_of.fd ["plan"] (spF ⟨P, w, K, Tb.l mg⟩ 1 fn_changes_of) :=
  fn_data T.f_changes_of.F sc_changes_of (fun cdv A outer s H E hr => ((dss_one (ds_ret (de_still (dn_lstR rfl T.z_list T.z_range (de_ix (de_ix (de_var 0) de_int) de_int) (de_op b_add (de_ix (de_ix (de_var 0) de_int) de_int) de_int))))) : DSs _ _ g_changes_of)) fun ss Q' _ h => d_changes_of ss Q' h
theorem b_ways_by (T : Tx K mg base) : Binds K T.f_ways_by.fd ["plan"] [] := T.f_ways_by.F.binds fun _ _ _ _ _ _ us hl => match us, hl with | [_], _ => rfl
theorem ok_ways_by (T : Tx K mg base) : FnOk P w K mg base CX0 4 T.f_ways_by.f T.f_ways_by.fd ["plan"] (spN ⟨P, w, K, Tb.l mg⟩ 1 fn_ways_by) :=
  fn_dataN T.f_ways_by.F sc_ways_by (fun cdv A outer s H E hr => ((dss_cons (ds_set 1 sc_ways_by.nd (de_call (ok_begin_of T) (hr.mono (by decide)) T.f_begin_of.g T.f_begin_of.F.kp (b_begin_of T) pass0 (da_cons (de_var 0) da_nil) n_begin_of))
      (dss_cons (ds_par3W 2 3 4 rfl sc_ways_by.nd (dn_d1 hr.units (de_var 1) (de_tup da_nil)) (dn_lst (da_cons (de_var 1) da_nil)) de_int)
      (dss_cons (ds_while PassesOwn.never (dt_cmp c_lt (de_var 4) (de_lenN 3 T.z_len) (nomark _)) (dss_cons (ds_set 5 sc_ways_by.nd (de_ixN 3 (de_var 4)))
      (dss_cons (ds_set 4 sc_ways_by.nd (de_op b_add (de_var 4) de_int))
      (dss_one (ds_for PassesOwn.never rfl (di_list (de_call (ok_changes_of T) (hr.mono (by decide)) T.f_changes_of.g T.f_changes_of.F.kp (b_changes_of T) pass0 (da_cons (de_var 0) da_nil) n_changes_of)) (dg_name 6 sc_ways_by.nd) (dss_cons (ds_set 7 sc_ways_by.nd (de_call (ok_behind T) (hr.mono (by decide)) T.f_behind.g T.f_behind.F.kp (b_behind T) pass0 (da_cons (de_var 0) (da_cons (de_var 5) (da_cons (de_var 6) da_nil))) n_behind))
      (dss_one (ds_if (dt_notinDN 2 hr.units (de_var 7)) (dss_cons (ds_dput 2 hr.units (de_op b_add (de_ixDN 2 hr.units (de_var 5)) (de_tup (da_cons (de_var 6) da_nil))) (de_var 7))
      (dss_one (ds_append 3 (de_var 7) (hp := fun h => pe_bm PySem.F.plainAttrs_list PySem.F.slot_list_append PySem.F.type_list_append mt_append (pv 3) (pa_cons h pa_nil))))) dss_nil))))))))
      (dss_one (ds_retW (dn_own 2)))))) : DSs _ _ g_ways_by)) fun ss Q' _ h => d_ways_by ss Q' h
theorem b_extremes_by (T : Tx K mg base) : Binds K T.f_extremes_by.fd ["plan"] [] := T.f_extremes_by.F.binds fun _ _ _ _ _ _ us hl => match us, hl with | [_], _ => rfl
theorem ok_extremes_by (T : Tx K mg base) : FnOk P w K mg base CX0 5 T.f_extremes_by.f T.f_extremes_by.fd ["plan"] (spF ⟨P, w, K, Tb.l mg⟩ 1 fn_extremes_by) :=
  fn_data T.f_extremes_by.F sc_extremes_by (fun cdv A outer s H E hr => ((dss_cons (ds_newLcS [("stand", 2)] 1 rfl sc_extremes_by.nd (di_keysZ (de_still (dn_call (ok_ways_by T) (hr.mono (by decide)) T.f_ways_by.g T.f_ways_by.F.kp (b_ways_by T) pass0 (da_cons (de_var 0) da_nil) n_ways_by))) (fun _ _ _ _ _ => (dg_name 2 sc_extremes_by.nd)) (fun _ _ _ _ _ => dts_nil) (fun _ _ _ _ _ => (de_ix (de_var 2) de_int)) (sw_true rfl rfl rfl (by decide +kernel)))
      (dss_one (ds_ret (de_tup (da_cons (de_bi (b_minL rfl) T.z_min (by decide +kernel) (da_cons (de_var 1) da_nil)) (da_cons (de_bi (b_maxL rfl) T.z_max (by decide +kernel) (da_cons (de_var 1) da_nil)) da_nil)))))) : DSs _ _ g_extremes_by)) fun ss Q' _ h => d_extremes_by ss Q' h
theorem b_both_by (T : Tx K mg base) : Binds K T.f_both_by.fd ["plan"] [] := T.f_both_by.F.binds fun _ _ _ _ _ _ us hl => match us, hl with | [_], _ => rfl
theorem ok_both_by (T : Tx K mg base) : FnOk P w K mg base CX0 5 T.f_both_by.f T.f_both_by.fd ["plan"] (spF ⟨P, w, K, Tb.l mg⟩ 1 fn_both_by) :=
  fn_data T.f_both_by.F sc_both_by (fun cdv A outer s H E hr => ((dss_cons (ds_for PassesOwn.never rfl (di_itemsZ (de_still (dn_call (ok_ways_by T) (hr.mono (by decide)) T.f_ways_by.g T.f_ways_by.F.kp (b_ways_by T) pass0 (da_cons (de_var 0) da_nil) n_ways_by))) (dg_tup rfl (dgs_cons (dg_name 1 sc_both_by.nd) (dgs_cons (dg_name 2 sc_both_by.nd) dgs_nil))) (dss_one (ds_if (dt_val (de_call (ok_both_run T) (hr.mono (by decide)) T.f_both_run.g T.f_both_run.F.kp (b_both_run T) pass0 (da_cons (de_var 0) (da_cons (de_var 1) da_nil)) n_both_run)) (dss_one (ds_ret (de_op b_add (de_var 2) (de_tup (da_cons (de_ix (de_ix (de_var 0) de_int) de_int) da_nil))))) dss_nil)))
      (dss_one (ds_ret de_non))) : DSs _ _ g_both_by)) fun ss Q' _ h => d_both_by ss Q' h
theorem b_still_ring (T : Tx K mg base) : Binds K T.f_still_ring.fd ["plan", "is_good"] [] := T.f_still_ring.F.binds fun _ _ _ _ _ _ us hl => match us, hl with | [_, _], _ => rfl
theorem hb_still_ring (T : Tx K mg base) : HandBody P w K mg base 4 "still_ring" s_still_ring T.f_still_ring.f ["plan", "is_good", "ways", "seen", "stand", "road", "line", "one"] 1 "is_good" g_still_ring :=
  fun L cdv A outer s H hr hact hact0 => ((dss_cons (ds_mix2 2 3 rfl sc_still_ring.nd (dm_s (de_still (dn_call (ok_ways_by T) (hr.mono (by decide)) T.f_ways_by.g T.f_ways_by.F.kp (b_ways_by T) pass0 (da_cons (de_var 0) da_nil) n_ways_by)) (dm_n dn_d0 dm_nil)))
      (dss_cons (ds_for PassesOwn.never rfl (di_if (dt_cmp c_in de_int (de_call (ok_changes_of T) (hr.mono (by decide)) T.f_changes_of.g T.f_changes_of.F.kp (b_changes_of T) pass0 (da_cons (de_var 0) da_nil) n_changes_of) (by rfl)) (di_keysZ (de_var 2)) (di_tup (de_tup da_nil))) (dg_name 4 sc_still_ring.nd) (dss_cons (ds_new 5 sc_still_ring.nd dn_d0)
      (dss_cons (ds_while PassesOwn.never (dt_bool (dw_and (dt_notinDN 3 hr.units (de_var 4)) (dw_and1 (dt_notinDN 5 hr.units (de_var 4))))) (dss_cons (ds_dput 5 hr.units (de_lenDN 5 T.z_len) (de_var 4))
      (dss_one (ds_set 4 sc_still_ring.nd (de_call (ok_behind T) (hr.mono (by decide)) T.f_behind.g T.f_behind.F.kp (b_behind T) pass0 (da_cons (de_var 0) (da_cons (de_var 4) (da_cons de_int da_nil))) n_behind)))))
      (dss_cons (ds_newLcS [("one", 7)] 6 rfl sc_still_ring.nd (di_keysZ (de_fz 5)) (fun _ _ _ _ _ => (dg_name 7 sc_still_ring.nd)) (fun _ _ _ _ _ => (dts_one (dt_bool (dw_and (dt_cmp (c_inZ hr.units) (de_var 4) (de_var 5) (by rfl)) (dw_and1 (dt_cmp c_ge (de_ixZ hr.units (de_var 5) (de_var 7)) (de_ixZ hr.units (de_var 5) (de_var 4)) (nomark _))))))) (fun _ _ _ _ _ => (de_var 7)) (sw_true rfl rfl rfl (by decide +kernel)))
      (dss_cons (ds_if (dt_bool (dw_and (dt_cmp (c_ne hr.units) (de_var 6) (de_still (dn_lst da_nil)) (nomark _)) (dw_and1 (dt_val (hact _ _ _ _ _ (da_cons (de_var 6) da_nil) rfl rfl))))) (dss_one (ds_ret (de_tup (da_cons (de_ixZ hr.units (de_var 2) (de_ix (de_var 6) de_int)) (da_cons (de_op b_mul (de_tup (da_cons de_int da_nil)) (de_bi b_len T.z_len boot_len (da_cons (de_var 6) da_nil))) da_nil))))) dss_nil)
      (dss_one (ds_for PassesOwn.never rfl (di_keysZ (de_var 5)) (dg_name 7 sc_still_ring.nd) (dss_one (ds_dput 3 hr.units de_bl (de_var 7))))))))))
      (dss_one (ds_ret de_non)))) : DSs _ _ (g_still_ring L))
theorem b_ones_that_run (T : Tx K mg base) : Binds K T.f_ones_that_run.fd ["plan", "line"] [] := T.f_ones_that_run.F.binds fun _ _ _ _ _ _ us hl => match us, hl with | [_, _], _ => rfl
theorem ok_ones_that_run (T : Tx K mg base) : FnOk P w K mg base CX0 3 T.f_ones_that_run.f T.f_ones_that_run.fd ["plan", "line"] (spF ⟨P, w, K, Tb.l mg⟩ 2 fn_ones_that_run) :=
  fn_data T.f_ones_that_run.F sc_ones_that_run (fun cdv A outer s H E hr => ((dss_cons (ds_newLcS [("stand", 3)] 2 rfl sc_ones_that_run.nd (di_list (de_var 1)) (fun _ _ _ _ _ => (dg_name 3 sc_ones_that_run.nd)) (fun _ _ _ _ _ => dts_nil) (fun _ _ _ _ _ => (de_call (ok_parts_by T) (hr.mono (by decide)) T.f_parts_by.g T.f_parts_by.F.kp (b_parts_by T) pass0 (da_cons (de_var 0) (da_cons (de_var 3) da_nil)) n_parts_by)) (sw_true rfl rfl rfl (by decide +kernel)))
      (dss_one (ds_ret (de_tup (da_cons (de_bi (b_any rfl) T.z_any (by decide +kernel) (da_cons (de_still (dn_lc [("heater", 4), ("cooler", 5)] rfl sc_ones_that_run.nd (di_list (de_var 2)) (fun _ _ _ _ _ => (dg_tup rfl (dgs_cons (dg_name 4 sc_ones_that_run.nd) (dgs_cons (dg_name 5 sc_ones_that_run.nd) dgs_nil)))) (fun _ _ _ _ _ => dts_nil) (fun _ _ _ _ _ => (de_ix (de_var 4) de_int)))) da_nil)) (da_cons (de_bi (b_any rfl) T.z_any (by decide +kernel) (da_cons (de_still (dn_lc [("heater", 4), ("cooler", 5)] rfl sc_ones_that_run.nd (di_list (de_var 2)) (fun _ _ _ _ _ => (dg_tup rfl (dgs_cons (dg_name 4 sc_ones_that_run.nd) (dgs_cons (dg_name 5 sc_ones_that_run.nd) dgs_nil)))) (fun _ _ _ _ _ => dts_nil) (fun _ _ _ _ _ => (de_ix (de_var 5) de_int)))) da_nil)) da_nil)))))) : DSs _ _ g_ones_that_run)) fun ss Q' _ h => d_ones_that_run ss Q' h
theorem b_fight_by (T : Tx K mg base) : Binds K T.f_fight_by.fd ["plan"] [] := T.f_fight_by.F.binds fun _ _ _ _ _ _ us hl => match us, hl with | [_], _ => rfl
theorem ok_fight_by (T : Tx K mg base) : FnOk P w K mg base CX0 6 T.f_fight_by.f T.f_fight_by.fd ["plan"] (spF ⟨P, w, K, Tb.l mg⟩ 1 fn_fight_by) :=
  fn_dataC T.f_fight_by.F T.m_fight_by.code sc_fight_by (fun A outer s H E hr => ((dss_one (ds_ret (de_hand1 (k := 3) (handAt (lps := ["line"]) T.m_fight_by T.f_still_ring.F sc_still_ring (b_still_ring T) T.f_still_ring.g (hb_still_ring T) d_still_ring (hr.mono (by decide)) (fun A outer s H E f c' hr => (de_cmp (c_eq hr.units) (de_call (ok_ones_that_run T) (hr.mono (by decide)) T.f_ones_that_run.g T.f_ones_that_run.F.kp (b_ones_that_run T) pass0 (da_cons (de_var 1) (da_cons (de_var 0) da_nil)) n_ones_that_run) (de_tup (da_cons de_bl (da_cons de_bl da_nil))) (nomark _))) rfl (by first | exact Or.inl rfl | exact Or.inr (Or.inl rfl) | exact Or.inr (Or.inr rfl)) (lamA_by (by decide +kernel)) rfl (fun _ _ _ _ _ us hl => match us, hl with | [_], _ => rfl) rfl rfl (by decide) (by decide)) rfl (de_var 0)))) : DSs _ _ g_fight_by)) fun ss Q' _ h => d_fight_by ss Q' h
theorem b_with_move (T : Tx K mg base) : Binds K T.f_with_move.fd ["plan", "number"] [] := T.f_with_move.F.binds fun _ _ _ _ _ _ us hl => match us, hl with | [_, _], _ => rfl
theorem ok_with_move (T : Tx K mg base) : FnOk P w K mg base CX0 1 T.f_with_move.f T.f_with_move.fd ["plan", "number"] (spF ⟨P, w, K, Tb.l mg⟩ 2 fn_with_move) :=
  fn_data T.f_with_move.F sc_with_move (fun cdv A outer s H E hr => ((dss_cons (ds_asg (de_ix (de_var 0) de_int) (dg_tup rfl (dgs_cons (dg_name 2 sc_with_move.nd) (dgs_cons (dg_name 3 sc_with_move.nd) (dgs_cons (dg_name 4 sc_with_move.nd) (dgs_cons (dg_name 5 sc_with_move.nd) (dgs_cons (dg_name 6 sc_with_move.nd) dgs_nil)))))))
      (dss_one (ds_ret (de_op b_add (de_tup (da_cons (de_ix (de_var 0) de_int) (da_cons (de_tup (da_cons (de_op b_add (de_var 2) (de_var 1)) (da_cons (de_op b_add (de_var 3) (de_var 1)) (da_cons (de_var 4) (da_cons (de_var 5) (da_cons (de_var 6) da_nil)))))) da_nil))) (de_slice (de_var 0) (do_some de_int) do_none))))) : DSs _ _ g_with_move)) fun ss Q' _ h => d_with_move ss Q' h
theorem b_is_good (T : Tx K mg base) : Binds K T.f_is_good.fd ["plan", "low", "high"] [] := T.f_is_good.F.binds fun _ _ _ _ _ _ us hl => match us, hl with | [_, _, _], _ => rfl
theorem ok_is_good (T : Tx K mg base) : FnOk P w K mg base CX0 7 T.f_is_good.f T.f_is_good.fd ["plan", "low", "high"] (spF ⟨P, w, K, Tb.l mg⟩ 3 fn_is_good) :=
  fn_data T.f_is_good.F sc_is_good (fun cdv A outer s H E hr => ((dss_cons (ds_if (dt_bool (dw_or (dt_not (dt_val (de_call (ok_is_plan T) (hr.mono (by decide)) T.f_is_plan.g T.f_is_plan.F.kp (b_is_plan T) pass0 (da_cons (de_var 0) da_nil) n_is_plan))) (dw_or (dt_cmp c_isnot (de_call (ok_both_by T) (hr.mono (by decide)) T.f_both_by.g T.f_both_by.F.kp (b_both_by T) pass0 (da_cons (de_var 0) da_nil) n_both_by) de_non (nomark _)) (dw_or1 (dt_cmp c_isnot (de_call (ok_fight_by T) (hr.mono (by decide)) T.f_fight_by.g T.f_fight_by.F.kp (b_fight_by T) pass0 (da_cons (de_var 0) da_nil) n_fight_by) de_non (nomark _)))))) (dss_one (ds_ret de_bl)) dss_nil)
      (dss_cons (ds_asg (de_call (ok_extremes_by T) (hr.mono (by decide)) T.f_extremes_by.g T.f_extremes_by.F.kp (b_extremes_by T) pass0 (da_cons (de_var 0) da_nil) n_extremes_by) (dg_tup rfl (dgs_cons (dg_name 3 sc_is_good.nd) (dgs_cons (dg_name 4 sc_is_good.nd) dgs_nil))))
      (dss_one (ds_ret (de_and (de_cmp c_le (de_var 1) (de_var 3) (nomark _)) (de_one (de_cmp c_le (de_var 4) (de_var 2) (nomark _)))))))) : DSs _ _ g_is_good)) fun ss Q' _ h => d_is_good ss Q' h
theorem b_good_moves (T : Tx K mg base) : Binds K T.f_good_moves.fd ["plan", "low", "high"] [] := T.f_good_moves.F.binds fun _ _ _ _ _ _ us hl => match us, hl with | [_, _, _], _ => rfl
theorem ok_good_moves (T : Tx K mg base) : FnOk P w K mg base CX0 8 T.f_good_moves.f T.f_good_moves.fd ["plan", "low", "high"] (spF ⟨P, w, K, Tb.l mg⟩ 3 fn_good_moves) :=
  fn_data T.f_good_moves.F sc_good_moves (fun cdv A outer s H E hr => ((dss_cons (ds_expr (de_call (ok_look_at_plan T) (hr.mono (by decide)) T.f_look_at_plan.g T.f_look_at_plan.F.kp (b_look_at_plan T) pass0 (da_cons (de_var 0) da_nil) n_look_at_plan))
      (dss_cons (ds_expr (de_call (ok_look_at_warmth T) (hr.mono (by decide)) T.f_look_at_warmth.g T.f_look_at_warmth.F.kp (b_look_at_warmth T) pass0 (da_cons (de_var 1) da_nil) n_look_at_warmth))
      (dss_cons (ds_expr (de_call (ok_look_at_warmth T) (hr.mono (by decide)) T.f_look_at_warmth.g T.f_look_at_warmth.F.kp (b_look_at_warmth T) pass0 (da_cons (de_var 2) da_nil) n_look_at_warmth))
      (dss_one (ds_ret (de_still (dn_lc [("number", 3)] rfl sc_good_moves.nd (di_range1 (by rfl) T.z_range (da_cons (de_op b_add (de_glob (v := .int 15) (s := .d (.int 15)) (by rfl) T.MOST_WARMTH.choose_spec ⟨_, rfl⟩ fun _ => Dp.int _) de_int) da_nil)) (fun _ _ _ _ _ => (dg_name 3 sc_good_moves.nd)) (fun _ _ _ _ _ => (dts_one (dt_val (de_call (ok_is_good T) (hr.mono (by decide)) T.f_is_good.g T.f_is_good.F.kp (b_is_good T) pass0 (da_cons (de_call (ok_with_move T) (hr.mono (by decide)) T.f_with_move.g T.f_with_move.F.kp (b_with_move T) pass0 (da_cons (de_var 0) (da_cons (de_var 3) da_nil)) n_with_move) (da_cons (de_var 1) (da_cons (de_var 2) da_nil))) n_is_good)))) (fun _ _ _ _ _ => (de_var 3))))))))) : DSs _ _ g_good_moves)) fun ss Q' _ h => d_good_moves ss Q' h
theorem b_late_costs (T : Tx K mg base) : Binds K T.f_late_costs.fd ["plan"] [] := T.f_late_costs.F.binds fun _ _ _ _ _ _ us hl => match us, hl with | [_], _ => rfl
theorem ok_late_costs (T : Tx K mg base) : FnOk P w K mg base CX0 6 T.f_late_costs.f T.f_late_costs.fd ["plan"] (spF ⟨P, w, K, Tb.l mg⟩ 1 fn_late_costs) :=
  fn_data T.f_late_costs.F sc_late_costs (fun cdv A outer s H E hr => ((dss_cons (ds_expr (de_call (ok_look_at_plan T) (hr.mono (by decide)) T.f_look_at_plan.g T.f_look_at_plan.F.kp (b_look_at_plan T) pass0 (da_cons (de_var 0) da_nil) n_look_at_plan))
      (dss_one (ds_ret (de_ty b_tuple T.z_tuple (by decide +kernel) (da_cons (de_still (dn_lc [("late", 1)] rfl sc_late_costs.nd (di_range1 (by rfl) T.z_range (da_cons de_int da_nil)) (fun _ _ _ _ _ => (dg_name 1 sc_late_costs.nd)) (fun _ _ _ _ _ => dts_nil) (fun _ _ _ _ _ => (de_call (ok_extremes_by T) (hr.mono (by decide)) T.f_extremes_by.g T.f_extremes_by.F.kp (b_extremes_by T) pass0 (da_cons (de_op b_add (de_op b_add (de_slice (de_var 0) do_none (do_some de_int)) (de_tup (da_cons (de_tup (da_cons (de_var 1) (da_cons (de_ix (de_ix (de_var 0) de_int) de_int) da_nil))) da_nil))) (de_slice (de_var 0) (do_some de_int) do_none)) da_nil) n_extremes_by)))) da_nil))))) : DSs _ _ g_late_costs)) fun ss Q' _ h => d_late_costs ss Q' h
theorem b__law_spring (T : Tx K mg base) : Binds K T.f__law_spring.fd ["script", "at"] [] := T.f__law_spring.F.binds fun _ _ _ _ _ _ us hl => match us, hl with | [_, _], _ => rfl
theorem ok__law_spring (T : Tx K mg base) : FnOk P w K mg base CX0 1 T.f__law_spring.f T.f__law_spring.fd ["script", "at"] (spN ⟨P, w, K, Tb.l mg⟩ 2 fn__law_spring) :=
  fn_dataN T.f__law_spring.F sc__law_spring (fun cdv A outer s H E hr => ((dss_cons (ds_set 2 sc__law_spring.nd de_int)
      (dss_cons (ds_if (dt_cmp c_lt (de_var 1) (de_bi b_len T.z_len boot_len (da_cons (de_var 0) da_nil)) (nomark _)) (dss_one (ds_set 2 sc__law_spring.nd (de_bi b_abs T.z_abs (by decide +kernel) (da_cons (de_ix (de_var 0) (de_var 1)) da_nil)))) dss_nil)
      (dss_cons (ds_set 3 sc__law_spring.nd (de_op b_mod (de_ty b_int T.z_int (by decide +kernel) (da_cons (de_op b_add (de_op b_add (de_op b_mul (de_var 2) de_int) (de_op b_mul de_int (de_var 1))) de_int) da_nil)) de_int))
      (dss_one (ds_retW (dn_lst (da_cons (de_if (dt_cmp c_ge (de_var 2) (de_op b_pow de_int de_int) (nomark _)) (de_var 2) de_int) (da_cons (de_var 3) da_nil)))))))) : DSs _ _ g__law_spring)) fun ss Q' _ h => d__law_spring ss Q' h
theorem b__law_pick (T : Tx K mg base) : Binds K T.f__law_pick.fd ["spring", "many"] [] := T.f__law_pick.F.binds fun _ _ _ _ _ _ us hl => match us, hl with | [_, _], _ => rfl
theorem ok__law_pick (T : Tx K mg base) : FnOk P w K mg base CX0 1 T.f__law_pick.f T.f__law_pick.fd ["spring", "many"] (spO ⟨P, w, K, Tb.l mg⟩ 1 fn__law_pick) :=
  fn_dataO T.f__law_pick.F sc__law_pick rfl (fun cdv A outer s H E hr => ((dss_cons (ds_if (dt_cmp c_gt (de_ixN 0 de_int) de_int (nomark _)) (dss_cons (ds_set 2 sc__law_pick.nd (de_op b_mod (de_ty b_int T.z_int (by decide +kernel) (da_cons (de_ixN 0 de_int) da_nil)) (de_var 1)))
      (dss_cons (ds_setIx 0 (de_op b_fdiv (de_ixN 0 de_int) (de_var 1)) de_int)
      (dss_one (ds_ret (de_var 2))))) dss_nil)
      (dss_cons (ds_setIx 0 (de_op b_mod (de_ty b_int T.z_int (by decide +kernel) (da_cons (de_op b_add (de_op b_mul (de_ixN 0 de_int) de_int) de_int) da_nil)) de_int) de_int)
      (dss_one (ds_ret (de_op b_mod (de_ty b_int T.z_int (by decide +kernel) (da_cons (de_op b_fdiv (de_ixN 0 de_int) de_int) da_nil)) (de_var 1)))))) : DSs _ _ g__law_pick)) fun o ss Q' _ h => d__law_pick o ss Q' h
theorem b__law_kind (T : Tx K mg base) : Binds K T.f__law_kind.fd ["value"] [] := T.f__law_kind.F.binds fun _ _ _ _ _ _ us hl => match us, hl with | [_], _ => rfl
theorem ok__law_kind (T : Tx K mg base) : FnOk P w K mg base CX0 1 T.f__law_kind.f T.f__law_kind.fd ["value"] (spF ⟨P, w, K, Tb.l mg⟩ 1 fn__law_kind) :=
  fn_data T.f__law_kind.F sc__law_kind (fun cdv A outer s H E hr => ((dss_cons (ds_if (dt_bool (dw_or (dt_cmp c_is (de_var 0) de_non (nomark _)) (dw_or1 (dt_val (de_bi b_isi T.z_isinstance (by decide +kernel) (da_cons (de_var 0) (da_cons (de_tyv T.z_bool (by decide +kernel)) da_nil))))))) (dss_one (ds_ret (de_if (dt_cmp c_is (de_var 0) de_non (nomark _)) de_int de_int))) dss_nil)
      (dss_cons (ds_if (dt_val (de_isi2 (de_var 0) T.z_isinstance T.z_list T.z_tuple (by decide +kernel) (by decide +kernel) (by decide +kernel))) (dss_one (ds_ret (de_if (dt_val (de_bi b_isi T.z_isinstance (by decide +kernel) (da_cons (de_var 0) (da_cons (de_tyv T.z_list (by decide +kernel)) da_nil)))) de_int de_int))) dss_nil)
      (dss_one (ds_ret (de_if (dt_val (de_bi b_isi T.z_isinstance (by decide +kernel) (da_cons (de_var 0) (da_cons (de_tyv T.z_int (by decide +kernel)) da_nil)))) de_int (de_if (dt_val (de_bi b_isi T.z_isinstance (by decide +kernel) (da_cons (de_var 0) (da_cons (de_tyv T.z_str (by decide +kernel)) da_nil)))) de_int de_int)))))) : DSs _ _ g__law_kind)) fun ss Q' _ h => d__law_kind ss Q' h
theorem b__law_twins (T : Tx K mg base) : Binds K T.f__law_twins.fd ["one", "other"] [] := T.f__law_twins.F.binds fun _ _ _ _ _ _ us hl => match us, hl with | [_, _], _ => rfl
theorem ok_twins_step (T : Tx K mg base) (n : Nat) (rec_ : Fn) (hn : ∀ ss Q, rec_ ss Q → ss.length = 2) (ih : FnOk P w K mg base CX0 (1 + n) T.f__law_twins.f T.f__law_twins.fd ["one", "other"] (spF ⟨P, w, K, Tb.l mg⟩ 2 rec_)) (g : Fn) (hd : ∀ ss Q', g ss Q' → g_twins rec_ (EF Q') (slots0 4 ss)) : FnOk P w K mg base CX0 (1 + n + 1) T.f__law_twins.f T.f__law_twins.fd ["one", "other"] (spF ⟨P, w, K, Tb.l mg⟩ 2 g) :=
  fn_data (k := 1 + n) T.f__law_twins.F sc__law_twins (fun cdv A outer s H E hr => ((dss_cons (ds_if (dt_cmp (c_ne hr.units) (de_call (ok__law_kind T) (hr.mono (by omega)) T.f__law_kind.g T.f__law_kind.F.kp (b__law_kind T) pass0 (da_cons (de_var 0) da_nil) n__law_kind) (de_call (ok__law_kind T) (hr.mono (by omega)) T.f__law_kind.g T.f__law_kind.F.kp (b__law_kind T) pass0 (da_cons (de_var 1) da_nil) n__law_kind) (nomark _)) (dss_one (ds_ret de_bl)) dss_nil)
      (dss_cons (ds_if (dt_cmp c_in (de_call (ok__law_kind T) (hr.mono (by omega)) T.f__law_kind.g T.f__law_kind.F.kp (b__law_kind T) pass0 (da_cons (de_var 0) da_nil) n__law_kind) (de_still (dn_lst (da_cons de_int (da_cons de_int da_nil)))) (by rfl)) (dss_one (ds_ret (de_and (de_cmp (c_eq hr.units) (de_bi b_len T.z_len boot_len (da_cons (de_var 0) da_nil)) (de_bi b_len T.z_len boot_len (da_cons (de_var 1) da_nil)) (nomark _)) (de_one (de_cmp (c_eq hr.units) (de_still (dn_lc [("a", 2), ("b", 3)] rfl sc__law_twins.nd (di_zip T.z_zip (da_cons (de_var 0) (da_cons (de_var 1) da_nil))) (fun _ _ _ _ _ => (dg_tup rfl (dgs_cons (dg_name 2 sc__law_twins.nd) (dgs_cons (dg_name 3 sc__law_twins.nd) dgs_nil)))) (fun _ _ _ _ _ => (dts_one (dt_not (dt_val (de_call ih (hr.mono (by omega)) T.f__law_twins.g T.f__law_twins.F.kp (b__law_twins T) pass0 (da_cons (de_var 2) (da_cons (de_var 3) da_nil)) hn))))) (fun _ _ _ _ _ => de_int))) (de_still (dn_lst da_nil)) (nomark _)))))) dss_nil)
      (dss_one (ds_ret (de_cmp (c_eq hr.units) (de_var 0) (de_var 1) (nomark _)))))) : DSs _ _ (g_twins rec_))) fun ss Q' _ h => hd ss Q' h
theorem ok_twins (T : Tx K mg base) : ∀ n : Nat, FnOk P w K mg base CX0 (1 + n + 1) T.f__law_twins.f T.f__law_twins.fd ["one", "other"] (spF ⟨P, w, K, Tb.l mg⟩ 2 (fn_twins n))
  | 0 => ok_twins_step T 0 fnNone (fun _ _ h => h.elim) (ok_none T.f__law_twins.F sc__law_twins) _ (d_twins0 _)
  | n + 1 => ok_twins_step T (n + 1) (fn_twins n) (n_twins n) (ok_twins T n) _ (d_twins n)
theorem ok__law_twins (T : Tx K mg base) : FnOk P w K mg base CX0 14 T.f__law_twins.f T.f__law_twins.fd ["one", "other"] (spF ⟨P, w, K, Tb.l mg⟩ 2 fn__law_twins) := ok_twins T 12
theorem b__law_device (T : Tx K mg base) : Binds K T.f__law_device.fd ["spring", "low"] [] := T.f__law_device.F.binds fun _ _ _ _ _ _ us hl => match us, hl with | [_, _], _ => rfl
theorem ok__law_device (T : Tx K mg base) : FnOk P w K mg base CX0 2 T.f__law_device.f T.f__law_device.fd ["spring", "low"] (spO ⟨P, w, K, Tb.l mg⟩ 1 fn__law_device) :=
  fn_dataO T.f__law_device.F sc__law_device rfl (fun cdv A outer s H E hr => ((dss_cons (ds_set 1 sc__law_device.nd (de_op b_add (de_var 1) (de_callO 0 (ok__law_pick T) (hr.mono (by decide)) T.f__law_pick.g T.f__law_pick.F.kp (b__law_pick T) pass0 (da_cons de_int da_nil) n__law_pick)))
      (dss_cons (ds_set 2 sc__law_device.nd (de_tup (da_cons (de_op b_add de_int (de_ix (de_still (dn_lst (da_cons de_int (da_cons de_int (da_cons de_int (da_cons de_int da_nil)))))) (de_callO 0 (ok__law_pick T) (hr.mono (by decide)) T.f__law_pick.g T.f__law_pick.F.kp (b__law_pick T) pass0 (da_cons de_int da_nil) n__law_pick))) (da_cons (de_op b_add de_int (de_ix (de_still (dn_lst (da_cons de_int (da_cons de_int (da_cons de_int (da_cons de_int da_nil)))))) (de_callO 0 (ok__law_pick T) (hr.mono (by decide)) T.f__law_pick.g T.f__law_pick.F.kp (b__law_pick T) pass0 (da_cons de_int da_nil) n__law_pick))) da_nil))))
      (dss_one (ds_ret (de_op b_add (de_op b_add (de_tup (da_cons (de_var 1) (da_cons (de_op b_add (de_op b_add (de_var 1) de_int) (de_callO 0 (ok__law_pick T) (hr.mono (by decide)) T.f__law_pick.g T.f__law_pick.F.kp (b__law_pick T) pass0 (da_cons de_int da_nil) n__law_pick)) da_nil))) (de_var 2)) (de_tup (da_cons (de_op b_add de_int (de_callO 0 (ok__law_pick T) (hr.mono (by decide)) T.f__law_pick.g T.f__law_pick.F.kp (b__law_pick T) pass0 (da_cons de_int da_nil) n__law_pick)) da_nil))))))) : DSs _ _ g__law_device)) fun o ss Q' _ h => d__law_device o ss Q' h
theorem b__law_plan (T : Tx K mg base) : Binds K T.f__law_plan.fd ["spring", "late"] [] := T.f__law_plan.F.binds fun _ _ _ _ _ _ us hl => match us, hl with | [_, _], _ => rfl
theorem ok__law_plan (T : Tx K mg base) : FnOk P w K mg base CX0 3 T.f__law_plan.f T.f__law_plan.fd ["spring", "late"] (spO ⟨P, w, K, Tb.l mg⟩ 1 fn__law_plan) :=
  fn_dataO T.f__law_plan.F sc__law_plan rfl (fun cdv A outer s H E hr => ((dss_cons (ds_set 2 sc__law_plan.nd (de_tup (da_cons (de_callO 0 (ok__law_pick T) (hr.mono (by decide)) T.f__law_pick.g T.f__law_pick.F.kp (b__law_pick T) pass0 (da_cons (de_op b_add (de_var 1) de_int) da_nil) n__law_pick) (da_cons (de_op b_add de_int (de_ix (de_still (dn_lst (da_cons de_int (da_cons de_int (da_cons de_int (da_cons de_int da_nil)))))) (de_callO 0 (ok__law_pick T) (hr.mono (by decide)) T.f__law_pick.g T.f__law_pick.F.kp (b__law_pick T) pass0 (da_cons de_int da_nil) n__law_pick))) da_nil))))
      (dss_cons (ds_set 3 sc__law_plan.nd (de_ix (de_still (dn_lst (da_cons (de_neg de_int) (da_cons (de_neg de_int) (da_cons (de_neg de_int) (da_cons de_int (da_cons de_int (da_cons de_int da_nil)))))))) (de_callO 0 (ok__law_pick T) (hr.mono (by decide)) T.f__law_pick.g T.f__law_pick.F.kp (b__law_pick T) pass0 (da_cons de_int da_nil) n__law_pick)))
      (dss_cons (ds_set 4 sc__law_plan.nd (de_tup (da_cons (de_var 3) (da_cons (de_bi (b_min2 rfl) T.z_min (by decide +kernel) (da_cons de_int (da_cons (de_op b_add (de_var 3) (de_ix (de_still (dn_lst (da_cons de_int (da_cons de_int (da_cons de_int (da_cons de_int da_nil)))))) (de_callO 0 (ok__law_pick T) (hr.mono (by decide)) T.f__law_pick.g T.f__law_pick.F.kp (b__law_pick T) pass0 (da_cons de_int da_nil) n__law_pick))) da_nil))) da_nil))))
      (dss_cons (ds_set 5 sc__law_plan.nd (de_ix (de_still (dn_lst (da_cons de_str (da_cons de_str (da_cons de_str (da_cons de_str da_nil)))))) (de_callO 0 (ok__law_pick T) (hr.mono (by decide)) T.f__law_pick.g T.f__law_pick.F.kp (b__law_pick T) pass0 (da_cons de_int da_nil) n__law_pick)))
      (dss_cons (ds_set 6 sc__law_plan.nd (de_op b_add de_int (de_callO 0 (ok__law_pick T) (hr.mono (by decide)) T.f__law_pick.g T.f__law_pick.F.kp (b__law_pick T) pass0 (da_cons de_int da_nil) n__law_pick)))
      (dss_one (ds_ret (de_tup (da_cons (de_callO 0 (ok__law_device T) (hr.mono (by decide)) T.f__law_device.g T.f__law_device.F.kp (b__law_device T) pass0 (da_cons de_int da_nil) n__law_device) (da_cons (de_callO 0 (ok__law_device T) (hr.mono (by decide)) T.f__law_device.g T.f__law_device.F.kp (b__law_device T) pass0 (da_cons de_int da_nil) n__law_device) (da_cons (de_var 2) (da_cons (de_var 4) (da_cons (de_var 5) (da_cons (de_var 6) da_nil)))))))))))))) : DSs _ _ g__law_plan)) fun o ss Q' _ h => d__law_plan o ss Q' h
theorem b__law_first (T : Tx K mg base) : Binds K T.f__law_first.fd ["plan"] [] := T.f__law_first.F.binds fun _ _ _ _ _ _ us hl => match us, hl with | [_], _ => rfl
theorem ok__law_first (T : Tx K mg base) : FnOk P w K mg base CX0 1 T.f__law_first.f T.f__law_first.fd ["plan"] (spF ⟨P, w, K, Tb.l mg⟩ 1 fn__law_first) :=
  fn_data T.f__law_first.F sc__law_first (fun cdv A outer s H E hr => ((dss_one (ds_ret (de_tup (da_cons (de_ix (de_var 0) de_int) (da_cons (de_op b_mul (de_tup (da_cons (de_ix (de_var 0) de_int) da_nil)) (de_ix (de_ix (de_var 0) de_int) de_int)) (da_cons (de_tup (da_cons de_bl (da_cons (de_ix (de_ix (de_var 0) de_int) de_int) da_nil))) (da_cons (de_tup (da_cons de_bl (da_cons (de_ix (de_ix (de_var 0) de_int) de_int) da_nil))) da_nil))))))) : DSs _ _ g__law_first)) fun ss Q' _ h => d__law_first ss Q' h
theorem b__law_told (T : Tx K mg base) : Binds K T.f__law_told.fd ["plan", "stand"] [] := T.f__law_told.F.binds fun _ _ _ _ _ _ us hl => match us, hl with | [_, _], _ => rfl
theorem ok__law_told (T : Tx K mg base) : FnOk P w K mg base CX0 1 T.f__law_told.f T.f__law_told.fd ["plan", "stand"] (spF ⟨P, w, K, Tb.l mg⟩ 2 fn__law_told) :=
  fn_data T.f__law_told.F sc__law_told (fun cdv A outer s H E hr => ((dss_cons (ds_set 2 sc__law_told.nd (de_ix (de_op b_add (de_slice (de_var 1) do_none (do_some de_int)) (de_ix (de_var 1) de_int)) (de_neg de_int)))
      (dss_one (ds_ret (de_op b_sub (de_var 2) (de_op b_mod (de_var 2) (de_ix (de_ix (de_var 0) de_int) de_int)))))) : DSs _ _ g__law_told)) fun ss Q' _ h => d__law_told ss Q' h
theorem b__law_part (T : Tx K mg base) : Binds K T.f__law_part.fd ["device", "part", "wants_on", "wants_off"] [] := T.f__law_part.F.binds fun _ _ _ _ _ _ us hl => match us, hl with | [_, _, _, _], _ => rfl
theorem ok__law_part (T : Tx K mg base) : FnOk P w K mg base CX0 1 T.f__law_part.f T.f__law_part.fd ["device", "part", "wants_on", "wants_off"] (spF ⟨P, w, K, Tb.l mg⟩ 4 fn__law_part) :=
  fn_data T.f__law_part.F sc__law_part (fun cdv A outer s H E hr => ((dss_cons (ds_asg (de_var 1) (dg_tup rfl (dgs_cons (dg_name 4 sc__law_part.nd) (dgs_cons (dg_name 5 sc__law_part.nd) dgs_nil))))
      (dss_cons (ds_set 6 sc__law_part.nd (de_if (dt_val (de_var 4)) (de_ix (de_var 0) de_int) (de_ix (de_var 0) de_int)))
      (dss_cons (ds_if (dt_bool (dw_and (dt_cmp c_gt (de_var 5) (de_op b_sub (de_var 6) de_int) (nomark _)) (dw_and1 (dt_if (dt_val (de_var 4)) (dt_val (de_var 3)) (dt_val (de_var 2)))))) (dss_one (ds_ret (de_tup (da_cons (de_not (de_var 4)) (da_cons de_int da_nil))))) dss_nil)
      (dss_one (ds_ret (de_tup (da_cons (de_var 4) (da_cons (de_bi (b_min2 rfl) T.z_min (by decide +kernel) (da_cons (de_var 6) (da_cons (de_op b_add (de_var 5) de_int) da_nil))) da_nil)))))))) : DSs _ _ g__law_part)) fun ss Q' _ h => d__law_part ss Q' h
theorem b__law_parts (T : Tx K mg base) : Binds K T.f__law_parts.fd ["plan", "stand"] [] := T.f__law_parts.F.binds fun _ _ _ _ _ _ us hl => match us, hl with | [_, _], _ => rfl
theorem ok__law_parts (T : Tx K mg base) : FnOk P w K mg base CX0 2 T.f__law_parts.f T.f__law_parts.fd ["plan", "stand"] (spF ⟨P, w, K, Tb.l mg⟩ 2 fn__law_parts) :=
  fn_data T.f__law_parts.F sc__law_parts (fun cdv A outer s H E hr => ((dss_cons (ds_set 2 sc__law_parts.nd (de_call (ok__law_told T) (hr.mono (by decide)) T.f__law_told.g T.f__law_told.F.kp (b__law_told T) pass0 (da_cons (de_var 0) (da_cons (de_var 1) da_nil)) n__law_told))
      (dss_cons (ds_asg (de_var 0) (dg_tup rfl (dgs_cons (dg_name 3 sc__law_parts.nd) (dgs_cons (dg_name 4 sc__law_parts.nd) (dgs_cons (dg_name 5 sc__law_parts.nd) (dgs_cons (dg_name 6 sc__law_parts.nd) (dgs_cons (dg_name 7 sc__law_parts.nd) (dgs_cons (dg_name 8 sc__law_parts.nd) dgs_nil))))))))
      (dss_cons (ds_set 9 sc__law_parts.nd (de_or (de_cmp (c_ne hr.units) (de_var 7) de_str (nomark _)) (de_one (de_not (de_ix (de_ix (de_var 1) de_int) de_int)))))
      (dss_cons (ds_set 10 sc__law_parts.nd (de_or (de_cmp (c_ne hr.units) (de_var 7) de_str (nomark _)) (de_one (de_not (de_ix (de_ix (de_var 1) de_int) de_int)))))
      (dss_cons (ds_set 11 sc__law_parts.nd (de_call (ok__law_part T) (hr.mono (by decide)) T.f__law_part.g T.f__law_part.F.kp (b__law_part T) pass0 (da_cons (de_var 3) (da_cons (de_ix (de_var 1) de_int) (da_cons (de_and (de_cmp c_le (de_var 2) (de_ix (de_var 3) de_int) (nomark _)) (de_one (de_var 9))) (da_cons (de_cmp c_le (de_ix (de_var 3) de_int) (de_var 2) (nomark _)) da_nil)))) n__law_part))
      (dss_cons (ds_set 12 sc__law_parts.nd (de_call (ok__law_part T) (hr.mono (by decide)) T.f__law_part.g T.f__law_part.F.kp (b__law_part T) pass0 (da_cons (de_var 4) (da_cons (de_ix (de_var 1) de_int) (da_cons (de_and (de_cmp c_le (de_ix (de_var 4) de_int) (de_var 2) (nomark _)) (de_one (de_var 10))) (da_cons (de_cmp c_le (de_var 2) (de_ix (de_var 4) de_int) (nomark _)) da_nil)))) n__law_part))
      (dss_one (ds_ret (de_tup (da_cons (de_var 11) (da_cons (de_var 12) da_nil))))))))))) : DSs _ _ g__law_parts)) fun ss Q' _ h => d__law_parts ss Q' h
theorem b__law_after (T : Tx K mg base) : Binds K T.f__law_after.fd ["plan", "stand", "change"] [] := T.f__law_after.F.binds fun _ _ _ _ _ _ us hl => match us, hl with | [_, _, _], _ => rfl
theorem ok__law_after (T : Tx K mg base) : FnOk P w K mg base CX0 3 T.f__law_after.f T.f__law_after.fd ["plan", "stand", "change"] (spF ⟨P, w, K, Tb.l mg⟩ 3 fn__law_after) :=
  fn_data T.f__law_after.F sc__law_after (fun cdv A outer s H E hr => ((dss_cons (ds_asg (de_call (ok__law_parts T) (hr.mono (by decide)) T.f__law_parts.g T.f__law_parts.F.kp (b__law_parts T) pass0 (da_cons (de_var 0) (da_cons (de_var 1) da_nil)) n__law_parts) (dg_tup rfl (dgs_cons (dg_name 3 sc__law_after.nd) (dgs_cons (dg_name 4 sc__law_after.nd) dgs_nil))))
      (dss_cons (ds_set 5 sc__law_after.nd (de_op b_add (de_ix (de_var 1) de_int) (de_var 2)))
      (dss_cons (ds_if (dt_val (de_ix (de_var 3) de_int)) (dss_one (ds_set 5 sc__law_after.nd (de_op b_add (de_var 5) (de_ix (de_ix (de_var 0) de_int) de_int)))) dss_nil)
      (dss_cons (ds_if (dt_val (de_ix (de_var 4) de_int)) (dss_one (ds_set 5 sc__law_after.nd (de_op b_sub (de_var 5) (de_ix (de_ix (de_var 0) de_int) de_int)))) dss_nil)
      (dss_cons (ds_set 6 sc__law_after.nd (de_slice (de_op b_add (de_slice (de_var 1) do_none (do_some de_int)) (de_ix (de_var 1) de_int)) do_none (do_some (de_bi b_len T.z_len boot_len (da_cons (de_ix (de_var 1) de_int) da_nil)))))
      (dss_one (ds_ret (de_tup (da_cons (de_ix (de_still (dn_bi b_sorted T.z_sorted (by decide +kernel) (da_cons (de_still (dn_lst (da_cons de_int (da_cons (de_var 5) (da_cons de_int da_nil))))) da_nil))) de_int) (da_cons (de_var 6) (da_cons (de_var 3) (da_cons (de_var 4) da_nil)))))))))))) : DSs _ _ g__law_after)) fun ss Q' _ h => d__law_after ss Q' h
theorem b__law_on (T : Tx K mg base) : Binds K T.f__law_on.fd ["plan", "stand"] [] := T.f__law_on.F.binds fun _ _ _ _ _ _ us hl => match us, hl with | [_, _], _ => rfl
theorem ok__law_on (T : Tx K mg base) : FnOk P w K mg base CX0 3 T.f__law_on.f T.f__law_on.fd ["plan", "stand"] (spF ⟨P, w, K, Tb.l mg⟩ 2 fn__law_on) :=
  fn_data T.f__law_on.F sc__law_on (fun cdv A outer s H E hr => ((dss_cons (ds_asg (de_call (ok__law_parts T) (hr.mono (by decide)) T.f__law_parts.g T.f__law_parts.F.kp (b__law_parts T) pass0 (da_cons (de_var 0) (da_cons (de_var 1) da_nil)) n__law_parts) (dg_tup rfl (dgs_cons (dg_name 2 sc__law_on.nd) (dgs_cons (dg_name 3 sc__law_on.nd) dgs_nil))))
      (dss_one (ds_ret (de_tup (da_cons (de_ix (de_var 2) de_int) (da_cons (de_ix (de_var 3) de_int) da_nil)))))) : DSs _ _ g__law_on)) fun ss Q' _ h => d__law_on ss Q' h
theorem b__law_changes (T : Tx K mg base) : Binds K T.f__law_changes.fd ["plan"] [] := T.f__law_changes.F.binds fun _ _ _ _ _ _ us hl => match us, hl with | [_], _ => rfl
theorem ok__law_changes (T : Tx K mg base) : FnOk P w K mg base CX0 1 T.f__law_changes.f T.f__law_changes.fd ["plan"] (spF ⟨P, w, K, Tb.l mg⟩ 1 fn__law_changes) :=
  fn_data T.f__law_changes.F sc__law_changes (fun cdv A outer s H E hr => ((dss_one (ds_ret (de_still (dn_lstR rfl T.z_list T.z_range (de_ix (de_ix (de_var 0) de_int) de_int) (de_op b_add (de_ix (de_ix (de_var 0) de_int) de_int) de_int))))) : DSs _ _ g__law_changes)) fun ss Q' _ h => d__law_changes ss Q' h
theorem b__law_ways (T : Tx K mg base) : Binds K T.f__law_ways.fd ["plan"] [] := T.f__law_ways.F.binds fun _ _ _ _ _ _ us hl => match us, hl with | [_], _ => rfl
theorem ok__law_ways (T : Tx K mg base) : FnOk P w K mg base CX0 4 T.f__law_ways.f T.f__law_ways.fd ["plan"] (spN ⟨P, w, K, Tb.l mg⟩ 1 fn__law_ways) :=
  fn_dataN T.f__law_ways.F sc__law_ways (fun cdv A outer s H E hr => ((dss_cons (ds_set 1 sc__law_ways.nd (de_call (ok__law_first T) (hr.mono (by decide)) T.f__law_first.g T.f__law_first.F.kp (b__law_first T) pass0 (da_cons (de_var 0) da_nil) n__law_first))
      (dss_cons (ds_par3W 2 3 4 rfl sc__law_ways.nd (dn_d1 hr.units (de_var 1) (de_tup da_nil)) (dn_lst (da_cons (de_var 1) da_nil)) de_int)
      (dss_cons (ds_while PassesOwn.never (dt_cmp c_lt (de_var 4) (de_lenN 3 T.z_len) (nomark _)) (dss_cons (ds_set 5 sc__law_ways.nd (de_ixN 3 (de_var 4)))
      (dss_cons (ds_set 4 sc__law_ways.nd (de_op b_add (de_var 4) de_int))
      (dss_one (ds_for PassesOwn.never rfl (di_list (de_call (ok__law_changes T) (hr.mono (by decide)) T.f__law_changes.g T.f__law_changes.F.kp (b__law_changes T) pass0 (da_cons (de_var 0) da_nil) n__law_changes)) (dg_name 6 sc__law_ways.nd) (dss_cons (ds_set 7 sc__law_ways.nd (de_call (ok__law_after T) (hr.mono (by decide)) T.f__law_after.g T.f__law_after.F.kp (b__law_after T) pass0 (da_cons (de_var 0) (da_cons (de_var 5) (da_cons (de_var 6) da_nil))) n__law_after))
      (dss_one (ds_if (dt_notinDN 2 hr.units (de_var 7)) (dss_cons (ds_dput 2 hr.units (de_op b_add (de_ixDN 2 hr.units (de_var 5)) (de_tup (da_cons (de_var 6) da_nil))) (de_var 7))
      (dss_one (ds_append 3 (de_var 7) (hp := fun h => pe_bm PySem.F.plainAttrs_list PySem.F.slot_list_append PySem.F.type_list_append mt_append (pv 3) (pa_cons h pa_nil))))) dss_nil))))))))
      (dss_one (ds_retW (dn_own 2)))))) : DSs _ _ g__law_ways)) fun ss Q' _ h => d__law_ways ss Q' h
theorem b__law_extremes (T : Tx K mg base) : Binds K T.f__law_extremes.fd ["plan"] [] := T.f__law_extremes.F.binds fun _ _ _ _ _ _ us hl => match us, hl with | [_], _ => rfl
theorem ok__law_extremes (T : Tx K mg base) : FnOk P w K mg base CX0 5 T.f__law_extremes.f T.f__law_extremes.fd ["plan"] (spF ⟨P, w, K, Tb.l mg⟩ 1 fn__law_extremes) :=
  fn_data T.f__law_extremes.F sc__law_extremes (fun cdv A outer s H E hr => ((dss_cons (ds_set 1 sc__law_extremes.nd (de_still (dn_bi b_sorted T.z_sorted (by decide +kernel) (da_cons (de_still (dn_lc [("stand", 2)] rfl sc__law_extremes.nd (di_keysZ (de_still (dn_call (ok__law_ways T) (hr.mono (by decide)) T.f__law_ways.g T.f__law_ways.F.kp (b__law_ways T) pass0 (da_cons (de_var 0) da_nil) n__law_ways))) (fun _ _ _ _ _ => (dg_name 2 sc__law_extremes.nd)) (fun _ _ _ _ _ => dts_nil) (fun _ _ _ _ _ => (de_ix (de_var 2) de_int)))) da_nil))))
      (dss_one (ds_ret (de_tup (da_cons (de_ix (de_var 1) de_int) (da_cons (de_ix (de_var 1) (de_neg de_int)) da_nil)))))) : DSs _ _ g__law_extremes)) fun ss Q' _ h => d__law_extremes ss Q' h
theorem b__law_still (T : Tx K mg base) : Binds K T.f__law_still.fd ["plan"] [] := T.f__law_still.F.binds fun _ _ _ _ _ _ us hl => match us, hl with | [_], _ => rfl
theorem ok__law_still (T : Tx K mg base) : FnOk P w K mg base CX0 5 T.f__law_still.f T.f__law_still.fd ["plan"] (spF ⟨P, w, K, Tb.l mg⟩ 1 fn__law_still) :=
  fn_data T.f__law_still.F sc__law_still (fun cdv A outer s H E hr => ((dss_cons (ds_mix2 1 2 rfl sc__law_still.nd (dm_n (dn_lst da_nil) (dm_n dn_d0 dm_nil)))
      (dss_cons (ds_for PassesOwn.never rfl (di_if (dt_cmp c_in de_int (de_call (ok__law_changes T) (hr.mono (by decide)) T.f__law_changes.g T.f__law_changes.F.kp (b__law_changes T) pass0 (da_cons (de_var 0) da_nil) n__law_changes) (by rfl)) (di_keysZ (de_still (dn_call (ok__law_ways T) (hr.mono (by decide)) T.f__law_ways.g T.f__law_ways.F.kp (b__law_ways T) pass0 (da_cons (de_var 0) da_nil) n__law_ways))) (di_list (de_still (dn_lst da_nil)))) (dg_name 3 sc__law_still.nd) (dss_cons (ds_new 4 sc__law_still.nd dn_d0)
      (dss_cons (ds_while PassesOwn.never (dt_bool (dw_and (dt_notinDN 2 hr.units (de_var 3)) (dw_and1 (dt_notinDN 4 hr.units (de_var 3))))) (dss_cons (ds_dput 4 hr.units (de_lenDN 4 T.z_len) (de_var 3))
      (dss_one (ds_set 3 sc__law_still.nd (de_call (ok__law_after T) (hr.mono (by decide)) T.f__law_after.g T.f__law_after.F.kp (b__law_after T) pass0 (da_cons (de_var 0) (da_cons (de_var 3) (da_cons de_int da_nil))) n__law_after)))))
      (dss_cons (ds_if (dt_cmp (c_inZ hr.units) (de_var 3) (de_fz 4) (by rfl)) (dss_cons (ds_newLcS [("one", 6)] 5 rfl sc__law_still.nd (di_keysZ (de_var 4)) (fun _ _ _ _ _ => (dg_name 6 sc__law_still.nd)) (fun _ _ _ _ _ => (dts_one (dt_cmp c_ge (de_ixZ hr.units (de_var 4) (de_var 6)) (de_ixZ hr.units (de_var 4) (de_var 3)) (nomark _)))) (fun _ _ _ _ _ => (de_call (ok__law_on T) (hr.mono (by decide)) T.f__law_on.g T.f__law_on.F.kp (b__law_on T) pass0 (da_cons (de_var 0) (da_cons (de_var 6) da_nil)) n__law_on)) (sw_true rfl rfl rfl (by decide +kernel)))
      (dss_one (ds_append 1 (de_tup (da_cons (de_cmp c_in de_bl (de_still (dn_lc [("row", 7)] rfl sc__law_still.nd (di_list (de_var 5)) (fun _ _ _ _ _ => (dg_name 7 sc__law_still.nd)) (fun _ _ _ _ _ => dts_nil) (fun _ _ _ _ _ => (de_ix (de_var 7) de_int)))) (by rfl)) (da_cons (de_cmp c_in de_bl (de_still (dn_lc [("row", 7)] rfl sc__law_still.nd (di_list (de_var 5)) (fun _ _ _ _ _ => (dg_name 7 sc__law_still.nd)) (fun _ _ _ _ _ => dts_nil) (fun _ _ _ _ _ => (de_ix (de_var 7) de_int)))) (by rfl)) da_nil))) (hp := fun h => pe_bm PySem.F.plainAttrs_list PySem.F.slot_list_append PySem.F.type_list_append mt_append (pv 1) (pa_cons h pa_nil))))) dss_nil)
      (dss_one (ds_for PassesOwn.never rfl (di_keysZ (de_var 4)) (dg_name 6 sc__law_still.nd) (dss_one (ds_dput 2 hr.units de_bl (de_var 6)))))))))
      (dss_one (ds_ret (de_fz 1))))) : DSs _ _ g__law_still)) fun ss Q' _ h => d__law_still ss Q' h
theorem b__law_well (T : Tx K mg base) : Binds K T.f__law_well.fd ["plan", "low", "high"] [] := T.f__law_well.F.binds fun _ _ _ _ _ _ us hl => match us, hl with | [_, _, _], _ => rfl
theorem ok__law_well (T : Tx K mg base) : FnOk P w K mg base CX0 6 T.f__law_well.f T.f__law_well.fd ["plan", "low", "high"] (spF ⟨P, w, K, Tb.l mg⟩ 3 fn__law_well) :=
  fn_data T.f__law_well.F sc__law_well (fun cdv A outer s H E hr => ((dss_cons (ds_for PassesOwn.never rfl (di_keysZ (de_still (dn_call (ok__law_ways T) (hr.mono (by decide)) T.f__law_ways.g T.f__law_ways.F.kp (b__law_ways T) pass0 (da_cons (de_var 0) da_nil) n__law_ways))) (dg_name 3 sc__law_well.nd) (dss_one (ds_if (dt_bool (dw_or (dt_not (dt_chain c_le c_le (de_var 1) (de_ix (de_var 3) de_int) (de_var 2))) (dw_or1 (dt_cmp (c_eq hr.units) (de_call (ok__law_on T) (hr.mono (by decide)) T.f__law_on.g T.f__law_on.F.kp (b__law_on T) pass0 (da_cons (de_var 0) (da_cons (de_var 3) da_nil)) n__law_on) (de_tup (da_cons de_bl (da_cons de_bl da_nil))) (nomark _))))) (dss_one (ds_ret de_bl)) dss_nil)))
      (dss_one (ds_ret (de_cmp (c_notinD (hu65 hr)) (de_tup (da_cons de_bl (da_cons de_bl da_nil))) (de_call (ok__law_still T) (hr.mono (by decide)) T.f__law_still.g T.f__law_still.F.kp (b__law_still T) pass0 (da_cons (de_var 0) da_nil) n__law_still) (by rfl))))) : DSs _ _ g__law_well)) fun ss Q' _ h => d__law_well ss Q' h
theorem ok_law (T : Tx K mg base) : FnOk P w K mg base CX0 15 T.f_law.f T.f_law.fd ["script"] (spF ⟨P, w, K, Tb.l mg⟩ 1 fn_law) :=
  fn_data T.f_law.F sc_law (fun cdv A outer s H E hr => ((dss_cons (ds_for PassesOwn.never rfl (di_range1 (by rfl) T.z_range (da_cons (de_op b_add (de_bi (b_min2 rfl) T.z_min (by decide +kernel) (da_cons (de_bi b_len T.z_len boot_len (da_cons (de_var 0) da_nil)) (da_cons de_int da_nil))) de_int) da_nil)) (dg_name 1 sc_law.nd) (dss_cons (ds_new 2 sc_law.nd (dn_call (ok__law_spring T) (hr.mono (by decide)) T.f__law_spring.g T.f__law_spring.F.kp (b__law_spring T) pass0 (da_cons (de_var 0) (da_cons (de_var 1) da_nil)) n__law_spring))
      (dss_cons (ds_set 3 sc_law.nd (de_callO 2 (ok__law_plan T) (hr.mono (by decide)) T.f__law_plan.g T.f__law_plan.F.kp (b__law_plan T) pass0 (da_cons de_int da_nil) n__law_plan))
      (dss_cons (ds_asg (de_call (ok__law_extremes T) (hr.mono (by decide)) T.f__law_extremes.g T.f__law_extremes.F.kp (b__law_extremes T) pass0 (da_cons (de_var 3) da_nil) n__law_extremes) (dg_tup rfl (dgs_cons (dg_name 4 sc_law.nd) (dgs_cons (dg_name 5 sc_law.nd) dgs_nil))))
      (dss_cons (ds_set 6 sc_law.nd (de_still (dn_lst (da_cons (de_tup (da_cons de_int (da_cons de_int da_nil))) (da_cons (de_tup (da_cons (de_bi (b_max2 rfl) T.z_max (by decide +kernel) (da_cons de_int (da_cons (de_op b_sub (de_var 4) de_int) da_nil))) (da_cons (de_bi (b_min2 rfl) T.z_min (by decide +kernel) (da_cons de_int (da_cons (de_op b_add (de_var 5) (de_callO 2 (ok__law_pick T) (hr.mono (by decide)) T.f__law_pick.g T.f__law_pick.F.kp (b__law_pick T) pass0 (da_cons de_int da_nil) n__law_pick)) da_nil))) da_nil))) da_nil)))))
      (dss_cons (ds_for PassesOwn.never rfl (di_list (de_var 6)) (dg_tup rfl (dgs_cons (dg_name 7 sc_law.nd) (dgs_cons (dg_name 8 sc_law.nd) dgs_nil))) (dss_cons (ds_new 9 sc_law.nd (dn_lst da_nil))
      (dss_cons (ds_for PassesOwn.never rfl (di_range1 (by rfl) T.z_range (da_cons de_int da_nil)) (dg_name 10 sc_law.nd) (dss_cons (ds_set 11 sc_law.nd (de_op b_add (de_tup (da_cons (de_op b_add (de_ix (de_ix (de_var 3) de_int) de_int) (de_var 10)) (da_cons (de_op b_add (de_ix (de_ix (de_var 3) de_int) de_int) (de_var 10)) da_nil))) (de_slice (de_ix (de_var 3) de_int) (do_some de_int) do_none)))
      (dss_one (ds_if (dt_bool (dw_and (dt_cmp c_lt (de_ix (de_var 11) de_int) de_int (nomark _)) (dw_and1 (dt_val (de_call (ok__law_well T) (hr.mono (by decide)) T.f__law_well.g T.f__law_well.F.kp (b__law_well T) pass0 (da_cons (de_op b_add (de_tup (da_cons (de_ix (de_var 3) de_int) (da_cons (de_var 11) da_nil))) (de_slice (de_var 3) (do_some de_int) do_none)) (da_cons (de_var 7) (da_cons (de_var 8) da_nil))) n__law_well))))) (dss_one (ds_append 9 (de_var 10) (hp := fun h => pe_bm PySem.F.plainAttrs_list PySem.F.slot_list_append PySem.F.type_list_append mt_append (pv 9) (pa_cons h pa_nil)))) dss_nil))))
      (dss_one (ds_if (dt_not (dt_val (de_call (ok__law_twins T) (hr.mono (by decide)) T.f__law_twins.g T.f__law_twins.F.kp (b__law_twins T) pass0 (da_cons (de_call (ok_good_moves T) (hr.mono (by decide)) T.f_good_moves.g T.f_good_moves.F.kp (b_good_moves T) pass0 (da_cons (de_var 3) (da_cons (de_var 7) (da_cons (de_var 8) da_nil))) n_good_moves) (da_cons (de_fz 9) da_nil)) n__law_twins))) (dss_one (ds_ret de_bl)) dss_nil)))))
      (dss_cons (ds_set 12 sc_law.nd (de_ty b_tuple T.z_tuple (by decide +kernel) (da_cons (de_still (dn_lc [("late", 13)] rfl sc_law.nd (di_list (de_still (dn_lst (da_cons de_int (da_cons de_int (da_cons de_int da_nil)))))) (fun _ _ _ _ _ => (dg_name 13 sc_law.nd)) (fun _ _ _ _ _ => dts_nil) (fun _ _ _ _ _ => (de_call (ok__law_extremes T) (hr.mono (by decide)) T.f__law_extremes.g T.f__law_extremes.F.kp (b__law_extremes T) pass0 (da_cons (de_op b_add (de_op b_add (de_slice (de_var 3) do_none (do_some de_int)) (de_tup (da_cons (de_tup (da_cons (de_var 13) (da_cons (de_ix (de_ix (de_var 3) de_int) de_int) da_nil))) da_nil))) (de_slice (de_var 3) (do_some de_int) do_none)) da_nil) n__law_extremes)))) da_nil)))
      (dss_one (ds_if (dt_not (dt_val (de_call (ok__law_twins T) (hr.mono (by decide)) T.f__law_twins.g T.f__law_twins.F.kp (b__law_twins T) pass0 (da_cons (de_call (ok_late_costs T) (hr.mono (by decide)) T.f_late_costs.g T.f_late_costs.F.kp (b_late_costs T) pass0 (da_cons (de_var 3) da_nil) n_late_costs) (da_cons (de_var 12) da_nil)) n__law_twins))) (dss_one (ds_ret de_bl)) dss_nil)))))))))
      (dss_one (ds_ret de_bl))) : DSs _ _ g_law)) fun ss Q' _ h => d_law8 ss Q' h
end
def fns_0 : List He.DefD := [⟨("is_within", none), "is_within", "is_within", defArgs s_is_within, defBody s_is_within, defScope s_is_within, [], []⟩, ⟨("is_row", none), "is_row", "is_row", defArgs s_is_row, defBody s_is_row, defScope s_is_row, [], []⟩, ⟨("is_device", none), "is_device", "is_device", defArgs s_is_device, defBody s_is_device, defScope s_is_device, [], []⟩, ⟨("is_plan", none), "is_plan", "is_plan", defArgs s_is_plan, defBody s_is_plan, defScope s_is_plan, [], []⟩, ⟨("look_at_plan", none), "look_at_plan", "look_at_plan", defArgs s_look_at_plan, defBody s_look_at_plan, defScope s_look_at_plan, [], []⟩, ⟨("look_at_warmth", none), "look_at_warmth", "look_at_warmth", defArgs s_look_at_warmth, defBody s_look_at_warmth, defScope s_look_at_warmth, [], []⟩, ⟨("begin_of", none), "begin_of", "begin_of", defArgs s_begin_of, defBody s_begin_of, defScope s_begin_of, [], []⟩, ⟨("told_by", none), "told_by", "told_by", defArgs s_told_by, defBody s_told_by, defScope s_told_by, [], []⟩, ⟨("goes_on", none), "goes_on", "goes_on", defArgs s_goes_on, defBody s_goes_on, defScope s_goes_on, [], []⟩, ⟨("parts_by", none), "parts_by", "parts_by", defArgs s_parts_by, defBody s_parts_by, defScope s_parts_by, [], []⟩]
def fns_1 : List He.DefD := [⟨("behind", none), "behind", "behind", defArgs s_behind, defBody s_behind, defScope s_behind, [], []⟩, ⟨("both_run", none), "both_run", "both_run", defArgs s_both_run, defBody s_both_run, defScope s_both_run, [], []⟩, ⟨("changes_of", none), "changes_of", "changes_of", defArgs s_changes_of, defBody s_changes_of, defScope s_changes_of, [], []⟩, ⟨("ways_by", none), "ways_by", "ways_by", defArgs s_ways_by, defBody s_ways_by, defScope s_ways_by, [], []⟩, ⟨("extremes_by", none), "extremes_by", "extremes_by", defArgs s_extremes_by, defBody s_extremes_by, defScope s_extremes_by, [], []⟩, ⟨("both_by", none), "both_by", "both_by", defArgs s_both_by, defBody s_both_by, defScope s_both_by, [], []⟩, ⟨("still_ring", none), "still_ring", "still_ring", defArgs s_still_ring, defBody s_still_ring, defScope s_still_ring, [], []⟩, ⟨("ones_that_run", none), "ones_that_run", "ones_that_run", defArgs s_ones_that_run, defBody s_ones_that_run, defScope s_ones_that_run, [], []⟩, ⟨("fight_by", none), "fight_by", "fight_by", defArgs s_fight_by, defBody s_fight_by, defScope s_fight_by, [], []⟩, ⟨("with_move", none), "with_move", "with_move", defArgs s_with_move, defBody s_with_move, defScope s_with_move, [], []⟩]
def fns_2 : List He.DefD := [⟨("is_good", none), "is_good", "is_good", defArgs s_is_good, defBody s_is_good, defScope s_is_good, [], []⟩, ⟨("good_moves", none), "good_moves", "good_moves", defArgs s_good_moves, defBody s_good_moves, defScope s_good_moves, [], []⟩, ⟨("late_costs", none), "late_costs", "late_costs", defArgs s_late_costs, defBody s_late_costs, defScope s_late_costs, [], []⟩, ⟨("_law_spring", none), "_law_spring", "_law_spring", defArgs s__law_spring, defBody s__law_spring, defScope s__law_spring, [], []⟩, ⟨("_law_pick", none), "_law_pick", "_law_pick", defArgs s__law_pick, defBody s__law_pick, defScope s__law_pick, [], []⟩, ⟨("_law_kind", none), "_law_kind", "_law_kind", defArgs s__law_kind, defBody s__law_kind, defScope s__law_kind, [], []⟩, ⟨("_law_twins", none), "_law_twins", "_law_twins", defArgs s__law_twins, defBody s__law_twins, defScope s__law_twins, [], []⟩, ⟨("_law_device", none), "_law_device", "_law_device", defArgs s__law_device, defBody s__law_device, defScope s__law_device, [], []⟩, ⟨("_law_plan", none), "_law_plan", "_law_plan", defArgs s__law_plan, defBody s__law_plan, defScope s__law_plan, [], []⟩, ⟨("_law_first", none), "_law_first", "_law_first", defArgs s__law_first, defBody s__law_first, defScope s__law_first, [], []⟩]
def fns_3 : List He.DefD := [⟨("_law_told", none), "_law_told", "_law_told", defArgs s__law_told, defBody s__law_told, defScope s__law_told, [], []⟩, ⟨("_law_part", none), "_law_part", "_law_part", defArgs s__law_part, defBody s__law_part, defScope s__law_part, [], []⟩, ⟨("_law_parts", none), "_law_parts", "_law_parts", defArgs s__law_parts, defBody s__law_parts, defScope s__law_parts, [], []⟩, ⟨("_law_after", none), "_law_after", "_law_after", defArgs s__law_after, defBody s__law_after, defScope s__law_after, [], []⟩, ⟨("_law_on", none), "_law_on", "_law_on", defArgs s__law_on, defBody s__law_on, defScope s__law_on, [], []⟩, ⟨("_law_changes", none), "_law_changes", "_law_changes", defArgs s__law_changes, defBody s__law_changes, defScope s__law_changes, [], []⟩, ⟨("_law_ways", none), "_law_ways", "_law_ways", defArgs s__law_ways, defBody s__law_ways, defScope s__law_ways, [], []⟩, ⟨("_law_extremes", none), "_law_extremes", "_law_extremes", defArgs s__law_extremes, defBody s__law_extremes, defScope s__law_extremes, [], []⟩, ⟨("_law_still", none), "_law_still", "_law_still", defArgs s__law_still, defBody s__law_still, defScope s__law_still, [], []⟩, ⟨("_law_well", none), "_law_well", "_law_well", defArgs s__law_well, defBody s__law_well, defScope s__law_well, [], []⟩]
def fns_4 : List He.DefD := [⟨("law", none), "law", "law", defArgs s_law, defBody s_law, defScope s_law, [], []⟩]
def fns : List He.DefD := fns_0 ++ fns_1 ++ fns_2 ++ fns_3 ++ fns_4
def fas_0 : List He.Fa := [.glo "is_within", .glo "is_row", .glo "is_device", .glo "is_plan", .glo "look_at_plan", .glo "look_at_warmth", .glo "begin_of", .glo "told_by", .glo "goes_on", .glo "parts_by", .glo "behind", .glo "both_run", .glo "changes_of", .glo "ways_by", .glo "extremes_by", .glo "both_by", .glo "still_ring", .glo "ones_that_run", .glo "fight_by", .glo "with_move"]
def fas_1 : List He.Fa := [.glo "is_good", .glo "good_moves", .glo "late_costs", .glo "_law_spring", .glo "_law_pick", .glo "_law_kind", .glo "_law_twins", .glo "_law_device", .glo "_law_plan", .glo "_law_first", .glo "_law_told", .glo "_law_part", .glo "_law_parts", .glo "_law_after", .glo "_law_on", .glo "_law_changes", .glo "_law_ways", .glo "_law_extremes", .glo "_law_still", .glo "_law_well"]
def fas_2 : List He.Fa := [.glo "law", .int "MOST_WARMTH" 15, .free "abs", .free "any", .free "bool", .free "int", .free "isinstance", .free "len", .free "list", .free "max", .free "min", .free "range", .free "sorted", .free "str", .free "tuple", .free "zip"]
def fas : List He.Fa := fas_0 ++ fas_1 ++ fas_2
def loose_0 : List Str := ["RoomError", "InvalidPlan", "InvalidWarmth", "MOST_WARMTH", "is_within", "is_row", "is_device", "is_plan", "look_at_plan", "look_at_warmth", "begin_of", "told_by", "goes_on", "parts_by", "behind", "both_run", "changes_of", "ways_by", "extremes_by", "both_by"]
def loose_1 : List Str := ["still_ring", "ones_that_run", "fight_by", "with_move", "is_good", "good_moves", "late_costs", "_law_spring", "_law_pick", "_law_kind", "_law_twins", "_law_device", "_law_plan", "_law_first", "_law_told", "_law_part", "_law_parts", "_law_after", "_law_on", "_law_turns"]
def loose_2 : List Str := ["_law_changes", "_law_ways", "_law_extremes", "_law_still", "_law_well"]
def loose : List Str := loose_0 ++ loose_1 ++ loose_2
abbrev R : PySem.W.OpenRow := PySem.W.OpenLaw.row PySem.Challenge.rw_atoneroom_k08_whole_moves_and_late_senso
def tfs : List He.Defn := [("fight_by", none)]
abbrev hk : PySem.W.Hook := He.hookX 4 fas fns [] tfs (exT tfs)
def ob (s : PySem.W.SharedT) : He.AlX := He.obsX 4 fas fns [] tfs (exT tfs) (HandSHeadRun.getT s)
theorem ob_eq (s : PySem.W.SharedT) : ob s = hk.obs s.abs := He.obsX_eq (HandSHeadRun.getT_eq s)
theorem run (w : World) : HandSHeadRun.RunEq R (PySem.W.view R.prog [52]) hk ob 4000 loose w := by
  intro os
  kernel_rfl
theorem facts {P : Program} {w : World} {K : PySem.W.Frag} {h : Heap} {mg : Str → Option Value} {f : Addr} (X : K.In h) (G : h.Ns mainGlobals mg) (hfa : mg ("law" : Str) = some (.ref f)) (c0 : He.SaysX fas fns [] tfs (exT tfs) w h K) :
    ∃ fd : FuncData, (∀ (s : Shared) (v : Value), BindsTo s fd ⟨[v], []⟩ [("script", v)]) ∧ ∀ base : Heap, K.In base → base.Ns mainGlobals mg → (∀ z ∈ tfs.map (He.cT K), LamX.TabB base mg z.1 z.2) → FnOk P w K mg base CX0 15 f fd ["script"] (spF ⟨P, w, K, tl K tfs⟩ 1 fn_law) := by
  letI : Tb mg := ⟨tl K tfs⟩
  have c := c0.t.d
  obtain ⟨fd0, F0⟩ := c.def_ 0 (d := ⟨("is_within", none), "is_within", "is_within", defArgs s_is_within, defBody s_is_within, defScope s_is_within, [], []⟩) rfl
  obtain ⟨fd1, F1⟩ := c.def_ 1 (d := ⟨("is_row", none), "is_row", "is_row", defArgs s_is_row, defBody s_is_row, defScope s_is_row, [], []⟩) rfl
  obtain ⟨fd2, F2⟩ := c.def_ 2 (d := ⟨("is_device", none), "is_device", "is_device", defArgs s_is_device, defBody s_is_device, defScope s_is_device, [], []⟩) rfl
  obtain ⟨fd3, F3⟩ := c.def_ 3 (d := ⟨("is_plan", none), "is_plan", "is_plan", defArgs s_is_plan, defBody s_is_plan, defScope s_is_plan, [], []⟩) rfl
  obtain ⟨fd4, F4⟩ := c.def_ 4 (d := ⟨("look_at_plan", none), "look_at_plan", "look_at_plan", defArgs s_look_at_plan, defBody s_look_at_plan, defScope s_look_at_plan, [], []⟩) rfl
  obtain ⟨fd5, F5⟩ := c.def_ 5 (d := ⟨("look_at_warmth", none), "look_at_warmth", "look_at_warmth", defArgs s_look_at_warmth, defBody s_look_at_warmth, defScope s_look_at_warmth, [], []⟩) rfl
  obtain ⟨fd6, F6⟩ := c.def_ 6 (d := ⟨("begin_of", none), "begin_of", "begin_of", defArgs s_begin_of, defBody s_begin_of, defScope s_begin_of, [], []⟩) rfl
  obtain ⟨fd7, F7⟩ := c.def_ 7 (d := ⟨("told_by", none), "told_by", "told_by", defArgs s_told_by, defBody s_told_by, defScope s_told_by, [], []⟩) rfl
  obtain ⟨fd8, F8⟩ := c.def_ 8 (d := ⟨("goes_on", none), "goes_on", "goes_on", defArgs s_goes_on, defBody s_goes_on, defScope s_goes_on, [], []⟩) rfl
  obtain ⟨fd9, F9⟩ := c.def_ 9 (d := ⟨("parts_by", none), "parts_by", "parts_by", defArgs s_parts_by, defBody s_parts_by, defScope s_parts_by, [], []⟩) rfl
  obtain ⟨fd10, F10⟩ := c.def_ 10 (d := ⟨("behind", none), "behind", "behind", defArgs s_behind, defBody s_behind, defScope s_behind, [], []⟩) rfl
  obtain ⟨fd11, F11⟩ := c.def_ 11 (d := ⟨("both_run", none), "both_run", "both_run", defArgs s_both_run, defBody s_both_run, defScope s_both_run, [], []⟩) rfl
  obtain ⟨fd12, F12⟩ := c.def_ 12 (d := ⟨("changes_of", none), "changes_of", "changes_of", defArgs s_changes_of, defBody s_changes_of, defScope s_changes_of, [], []⟩) rfl
  obtain ⟨fd13, F13⟩ := c.def_ 13 (d := ⟨("ways_by", none), "ways_by", "ways_by", defArgs s_ways_by, defBody s_ways_by, defScope s_ways_by, [], []⟩) rfl
  obtain ⟨fd14, F14⟩ := c.def_ 14 (d := ⟨("extremes_by", none), "extremes_by", "extremes_by", defArgs s_extremes_by, defBody s_extremes_by, defScope s_extremes_by, [], []⟩) rfl
  obtain ⟨fd15, F15⟩ := c.def_ 15 (d := ⟨("both_by", none), "both_by", "both_by", defArgs s_both_by, defBody s_both_by, defScope s_both_by, [], []⟩) rfl
  obtain ⟨fd16, F16⟩ := c.def_ 16 (d := ⟨("still_ring", none), "still_ring", "still_ring", defArgs s_still_ring, defBody s_still_ring, defScope s_still_ring, [], []⟩) rfl
  obtain ⟨fd17, F17⟩ := c.def_ 17 (d := ⟨("ones_that_run", none), "ones_that_run", "ones_that_run", defArgs s_ones_that_run, defBody s_ones_that_run, defScope s_ones_that_run, [], []⟩) rfl
  obtain ⟨fd18, F18⟩ := c.def_ 18 (d := ⟨("fight_by", none), "fight_by", "fight_by", defArgs s_fight_by, defBody s_fight_by, defScope s_fight_by, [], []⟩) rfl
  obtain ⟨fd19, F19⟩ := c.def_ 19 (d := ⟨("with_move", none), "with_move", "with_move", defArgs s_with_move, defBody s_with_move, defScope s_with_move, [], []⟩) rfl
  obtain ⟨fd20, F20⟩ := c.def_ 20 (d := ⟨("is_good", none), "is_good", "is_good", defArgs s_is_good, defBody s_is_good, defScope s_is_good, [], []⟩) rfl
  obtain ⟨fd21, F21⟩ := c.def_ 21 (d := ⟨("good_moves", none), "good_moves", "good_moves", defArgs s_good_moves, defBody s_good_moves, defScope s_good_moves, [], []⟩) rfl
  obtain ⟨fd22, F22⟩ := c.def_ 22 (d := ⟨("late_costs", none), "late_costs", "late_costs", defArgs s_late_costs, defBody s_late_costs, defScope s_late_costs, [], []⟩) rfl
  obtain ⟨fd23, F23⟩ := c.def_ 23 (d := ⟨("_law_spring", none), "_law_spring", "_law_spring", defArgs s__law_spring, defBody s__law_spring, defScope s__law_spring, [], []⟩) rfl
  obtain ⟨fd24, F24⟩ := c.def_ 24 (d := ⟨("_law_pick", none), "_law_pick", "_law_pick", defArgs s__law_pick, defBody s__law_pick, defScope s__law_pick, [], []⟩) rfl
  obtain ⟨fd25, F25⟩ := c.def_ 25 (d := ⟨("_law_kind", none), "_law_kind", "_law_kind", defArgs s__law_kind, defBody s__law_kind, defScope s__law_kind, [], []⟩) rfl
  obtain ⟨fd26, F26⟩ := c.def_ 26 (d := ⟨("_law_twins", none), "_law_twins", "_law_twins", defArgs s__law_twins, defBody s__law_twins, defScope s__law_twins, [], []⟩) rfl
  obtain ⟨fd27, F27⟩ := c.def_ 27 (d := ⟨("_law_device", none), "_law_device", "_law_device", defArgs s__law_device, defBody s__law_device, defScope s__law_device, [], []⟩) rfl
  obtain ⟨fd28, F28⟩ := c.def_ 28 (d := ⟨("_law_plan", none), "_law_plan", "_law_plan", defArgs s__law_plan, defBody s__law_plan, defScope s__law_plan, [], []⟩) rfl
  obtain ⟨fd29, F29⟩ := c.def_ 29 (d := ⟨("_law_first", none), "_law_first", "_law_first", defArgs s__law_first, defBody s__law_first, defScope s__law_first, [], []⟩) rfl
  obtain ⟨fd30, F30⟩ := c.def_ 30 (d := ⟨("_law_told", none), "_law_told", "_law_told", defArgs s__law_told, defBody s__law_told, defScope s__law_told, [], []⟩) rfl
  obtain ⟨fd31, F31⟩ := c.def_ 31 (d := ⟨("_law_part", none), "_law_part", "_law_part", defArgs s__law_part, defBody s__law_part, defScope s__law_part, [], []⟩) rfl
  obtain ⟨fd32, F32⟩ := c.def_ 32 (d := ⟨("_law_parts", none), "_law_parts", "_law_parts", defArgs s__law_parts, defBody s__law_parts, defScope s__law_parts, [], []⟩) rfl
  obtain ⟨fd33, F33⟩ := c.def_ 33 (d := ⟨("_law_after", none), "_law_after", "_law_after", defArgs s__law_after, defBody s__law_after, defScope s__law_after, [], []⟩) rfl
  obtain ⟨fd34, F34⟩ := c.def_ 34 (d := ⟨("_law_on", none), "_law_on", "_law_on", defArgs s__law_on, defBody s__law_on, defScope s__law_on, [], []⟩) rfl
  obtain ⟨fd35, F35⟩ := c.def_ 35 (d := ⟨("_law_changes", none), "_law_changes", "_law_changes", defArgs s__law_changes, defBody s__law_changes, defScope s__law_changes, [], []⟩) rfl
  obtain ⟨fd36, F36⟩ := c.def_ 36 (d := ⟨("_law_ways", none), "_law_ways", "_law_ways", defArgs s__law_ways, defBody s__law_ways, defScope s__law_ways, [], []⟩) rfl
  obtain ⟨fd37, F37⟩ := c.def_ 37 (d := ⟨("_law_extremes", none), "_law_extremes", "_law_extremes", defArgs s__law_extremes, defBody s__law_extremes, defScope s__law_extremes, [], []⟩) rfl
  obtain ⟨fd38, F38⟩ := c.def_ 38 (d := ⟨("_law_still", none), "_law_still", "_law_still", defArgs s__law_still, defBody s__law_still, defScope s__law_still, [], []⟩) rfl
  obtain ⟨fd39, F39⟩ := c.def_ 39 (d := ⟨("_law_well", none), "_law_well", "_law_well", defArgs s__law_well, defBody s__law_well, defScope s__law_well, [], []⟩) rfl
  obtain ⟨fd40, F40⟩ := c.def_ 40 (d := ⟨("law", none), "law", "law", defArgs s_law, defBody s_law, defScope s_law, [], []⟩) rfl
  have e := hfa.symm.trans (He.glo_ok X G (c.fact 40 (f := .glo "law") rfl))
  cases e
  have b := FunD.bindsA (ps := ["script"]) F40 fun _ _ _ _ _ _ us hl => match us, hl with | [_], _ => rfl
  refine ⟨fd40, fun s v => b s [v] rfl, fun base _ _ tb => ?_⟩
  exact ok_law (base := base) ⟨⟨_, fd0, fun_ofD F0, He.glo_ok X G (c.fact 0 (f := .glo "is_within") rfl)⟩, ⟨_, fd1, fun_ofD F1, He.glo_ok X G (c.fact 1 (f := .glo "is_row") rfl)⟩, ⟨_, fd2, fun_ofD F2, He.glo_ok X G (c.fact 2 (f := .glo "is_device") rfl)⟩, ⟨_, fd3, fun_ofD F3, He.glo_ok X G (c.fact 3 (f := .glo "is_plan") rfl)⟩, ⟨_, fd4, fun_ofD F4, He.glo_ok X G (c.fact 4 (f := .glo "look_at_plan") rfl)⟩, ⟨_, fd5, fun_ofD F5, He.glo_ok X G (c.fact 5 (f := .glo "look_at_warmth") rfl)⟩, ⟨_, fd6, fun_ofD F6, He.glo_ok X G (c.fact 6 (f := .glo "begin_of") rfl)⟩, ⟨_, fd7, fun_ofD F7, He.glo_ok X G (c.fact 7 (f := .glo "told_by") rfl)⟩, ⟨_, fd8, fun_ofD F8, He.glo_ok X G (c.fact 8 (f := .glo "goes_on") rfl)⟩, ⟨_, fd9, fun_ofD F9, He.glo_ok X G (c.fact 9 (f := .glo "parts_by") rfl)⟩, ⟨_, fd10, fun_ofD F10, He.glo_ok X G (c.fact 10 (f := .glo "behind") rfl)⟩, ⟨_, fd11, fun_ofD F11, He.glo_ok X G (c.fact 11 (f := .glo "both_run") rfl)⟩, ⟨_, fd12, fun_ofD F12, He.glo_ok X G (c.fact 12 (f := .glo "changes_of") rfl)⟩, ⟨_, fd13, fun_ofD F13, He.glo_ok X G (c.fact 13 (f := .glo "ways_by") rfl)⟩, ⟨_, fd14, fun_ofD F14, He.glo_ok X G (c.fact 14 (f := .glo "extremes_by") rfl)⟩, ⟨_, fd15, fun_ofD F15, He.glo_ok X G (c.fact 15 (f := .glo "both_by") rfl)⟩, ⟨_, fd16, fun_ofD F16, He.glo_ok X G (c.fact 16 (f := .glo "still_ring") rfl)⟩, ⟨_, fd17, fun_ofD F17, He.glo_ok X G (c.fact 17 (f := .glo "ones_that_run") rfl)⟩, ⟨_, fd18, fun_ofD F18, He.glo_ok X G (c.fact 18 (f := .glo "fight_by") rfl)⟩, ⟨_, fd19, fun_ofD F19, He.glo_ok X G (c.fact 19 (f := .glo "with_move") rfl)⟩, ⟨_, fd20, fun_ofD F20, He.glo_ok X G (c.fact 20 (f := .glo "is_good") rfl)⟩, ⟨_, fd21, fun_ofD F21, He.glo_ok X G (c.fact 21 (f := .glo "good_moves") rfl)⟩, ⟨_, fd22, fun_ofD F22, He.glo_ok X G (c.fact 22 (f := .glo "late_costs") rfl)⟩, ⟨_, fd23, fun_ofD F23, He.glo_ok X G (c.fact 23 (f := .glo "_law_spring") rfl)⟩, ⟨_, fd24, fun_ofD F24, He.glo_ok X G (c.fact 24 (f := .glo "_law_pick") rfl)⟩, ⟨_, fd25, fun_ofD F25, He.glo_ok X G (c.fact 25 (f := .glo "_law_kind") rfl)⟩, ⟨_, fd26, fun_ofD F26, He.glo_ok X G (c.fact 26 (f := .glo "_law_twins") rfl)⟩, ⟨_, fd27, fun_ofD F27, He.glo_ok X G (c.fact 27 (f := .glo "_law_device") rfl)⟩, ⟨_, fd28, fun_ofD F28, He.glo_ok X G (c.fact 28 (f := .glo "_law_plan") rfl)⟩, ⟨_, fd29, fun_ofD F29, He.glo_ok X G (c.fact 29 (f := .glo "_law_first") rfl)⟩, ⟨_, fd30, fun_ofD F30, He.glo_ok X G (c.fact 30 (f := .glo "_law_told") rfl)⟩, ⟨_, fd31, fun_ofD F31, He.glo_ok X G (c.fact 31 (f := .glo "_law_part") rfl)⟩, ⟨_, fd32, fun_ofD F32, He.glo_ok X G (c.fact 32 (f := .glo "_law_parts") rfl)⟩, ⟨_, fd33, fun_ofD F33, He.glo_ok X G (c.fact 33 (f := .glo "_law_after") rfl)⟩, ⟨_, fd34, fun_ofD F34, He.glo_ok X G (c.fact 34 (f := .glo "_law_on") rfl)⟩, ⟨_, fd35, fun_ofD F35, He.glo_ok X G (c.fact 35 (f := .glo "_law_changes") rfl)⟩, ⟨_, fd36, fun_ofD F36, He.glo_ok X G (c.fact 36 (f := .glo "_law_ways") rfl)⟩, ⟨_, fd37, fun_ofD F37, He.glo_ok X G (c.fact 37 (f := .glo "_law_extremes") rfl)⟩, ⟨_, fd38, fun_ofD F38, He.glo_ok X G (c.fact 38 (f := .glo "_law_still") rfl)⟩, ⟨_, fd39, fun_ofD F39, He.glo_ok X G (c.fact 39 (f := .glo "_law_well") rfl)⟩, ⟨_, fd40, fun_ofD F40, He.glo_ok X G (c.fact 40 (f := .glo "law") rfl)⟩, He.int_ok X G (c.fact 41 (f := .int "MOST_WARMTH" 15) rfl), He.free_ok X G (c.fact 42 (f := .free "abs") rfl), He.free_ok X G (c.fact 43 (f := .free "any") rfl), He.free_ok X G (c.fact 44 (f := .free "bool") rfl), He.free_ok X G (c.fact 45 (f := .free "int") rfl), He.free_ok X G (c.fact 46 (f := .free "isinstance") rfl), He.free_ok X G (c.fact 47 (f := .free "len") rfl), He.free_ok X G (c.fact 48 (f := .free "list") rfl), He.free_ok X G (c.fact 49 (f := .free "max") rfl), He.free_ok X G (c.fact 50 (f := .free "min") rfl), He.free_ok X G (c.fact 51 (f := .free "range") rfl), He.free_ok X G (c.fact 52 (f := .free "sorted") rfl), He.free_ok X G (c.fact 53 (f := .free "str") rfl), He.free_ok X G (c.fact 54 (f := .free "tuple") rfl), He.free_ok X G (c.fact 55 (f := .free "zip") rfl), mkT_of (p := ("fight_by", none)) (x := "fight_by") (q := "fight_by") (st := s_fight_by) (fun_ofD F18) rfl (by decide) rfl c0.more tb⟩
end Aq
open PySem PySem.W PySem.Calls PyProof.Rows
theorem PySem.Challenge.cw_atoneroom_k08_whole_moves_and_late_senso_holds : PySem.Challenge.rw_atoneroom_k08_whole_moves_and_late_senso.Holds := by
  w_on; o_law
  refine HandSHeadRun.head_any (r := OpenLaw.row PySem.Challenge.rw_atoneroom_k08_whole_moves_and_late_senso) (q := view (OpenLaw.row PySem.Challenge.rw_atoneroom_k08_whole_moves_and_late_senso).prog [52]) (H := Aq.hk) (ob := Aq.ob) (M := 4000) (loose := Aq.loose) (d := HandSHeadRun.topDef (OpenLaw.row PySem.Challenge.rw_atoneroom_k08_whole_moves_and_late_senso).prog 52) (kwd := []) Aq.ob_eq
    (by kernel_rfl) (fun s => by kernel_rfl) Aq.run (by kernel_rfl) (by kernel_rfl) (by kernel_rfl) (by rfl) (by first | assumption | decide +kernel) (by decide +kernel) ⟨rfl, rfl, rfl, rfl, rfl, by decide +kernel⟩ ?hw ?hc
  case hw => w_witness2
  case hc =>
    refine LamX.walk_ofTsE (l := PySem.Challenge.rw_atoneroom_k08_whole_moves_and_late_senso) (n := 63) (k := 15) (x := "script") (CX := fun _ => L2.CX0) rfl (by decide) (by kernel_rfl) ⟨rfl, by decide, by decide⟩ ?F (fun _ _ _ _ _ z => z)
    intro w mg fa h Y G hmg0
    obtain ⟨K, KX, c⟩ := Y
    have hmg : mg ("law" : PySem.Str) = some (.ref fa) := by
      have e : (HandSHeadRun.topDef (OpenLaw.row PySem.Challenge.rw_atoneroom_k08_whole_moves_and_late_senso).prog 52).name = ("law" : PySem.Str) := by kernel_rfl
      rw [← e]
      exact hmg0
    obtain ⟨fd, hb, hF⟩ := Aq.facts (P := (PySem.Challenge.rw_atoneroom_k08_whole_moves_and_late_senso).prog) (w := w) KX G hmg c
    refine ⟨K, KX, fd, Aq.tfs.map (He.cT K), _, fun z hz => ?_, fun z hz => ?_, fun z hz => ?_, hb, fun H a ns hl _ hT hS => Aq.law_asked (fun t ht => ?_) hl hS, hF⟩
    · obtain ⟨p, hp, rfl⟩ := List.mem_map.mp hz
      exact c.empty p hp
    · obtain ⟨p, hp, rfl⟩ := List.mem_map.mp hz
      exact c.out p hp
    · obtain ⟨p, hp, rfl⟩ := List.mem_map.mp hz
      exact PySem.W.codeHd_of_K KX (c.hd p hp)
    · obtain ⟨p, hp, rfl⟩ := List.mem_map.mp ht
      exact hT _ (List.mem_map.mpr ⟨p, hp, rfl⟩)
#print axioms PySem.Challenge.cw_atoneroom_k08_whole_moves_and_late_senso_holds
