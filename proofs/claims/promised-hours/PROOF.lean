import PyProof.Rows.All
import Wide.All
import OpenK.AllK
import Wide.FinOn
import HandS.ForMost
import HandS.Conv
import HandS.Defaults
import HandS.TupLe
import HandS.SortOrd
import HandS.Zip
import KE.KDictKeyed
import KE.DataMinMax
import KE.SortData
import KE.DataCmp
import KE.GoesEnum
import PyProof.ReprRoads
import HandS.IsInst
import HandS.TupAny
import KE.DataEq
import HandS.SortKw
import KE.KDictSum
import KE.GoesMore
import KE.GoesZip
import PySem.Challenge.RW_tidewaits_k23_whole_promised_hours
import HandS.Head0
import HandS.Head1
import HandS.Head2
import HandS.HeadHook1
import HandS.HeadHook2
import HandS.HeadNt
import HandS.MakeKwOnly
set_option Elab.async false
set_option linter.all false
set_option maxRecDepth 100000
set_option maxHeartbeats 3600000
section
namespace Tk
open L2 PyProof.Rows PySem PySem.Spec

/-! ### a heap without some addresses -/
def off (H : Hp) (M : List Addr) : Hp := fun a => if a ∈ M then none else H a
theorem off_some {H : Hp} {M : List Addr} {a : Addr} {o : HO} : off H M a = some o ↔ (¬ a ∈ M) ∧ H a = some o := by
  unfold off
  by_cases h : a ∈ M
  · rw [if_pos h]
    constructor
    · intro z; cases z
    · intro z; exact absurd h z.1
  · rw [if_neg h]
    constructor
    · intro z; exact ⟨h, z⟩
    · intro z; exact z.2
theorem off_ne {H : Hp} {M : List Addr} {a : Addr} (h : a ∉ M) : off H M a = H a := if_neg h
theorem off_mem {H : Hp} {M : List Addr} {a : Addr} (h : a ∈ M) : off H M a = none := if_pos h
theorem off_le {H : Hp} {M : List Addr} : Same (off H M) H := fun _ _ h => (off_some.mp h).2
theorem off_nil {H : Hp} : off H [] = H := funext fun a => if_neg (by simp)
theorem off_upd {H : Hp} {M : List Addr} {p : Addr} {o : HO} (h : p ∈ M) : off (upd H p o) M = off H M := by
  funext a
  unfold off
  by_cases e : a ∈ M
  · rw [if_pos e, if_pos e]
  · rw [if_neg e, if_neg e, upd_ne (fun z => e (by rw [z]; exact h))]
theorem off_sub {H : Hp} {M N : List Addr} (h : ∀ a ∈ N, a ∈ M) : Same (off H M) (off H N) := fun a o e => by
  obtain ⟨e1, e2⟩ := off_some.mp e
  exact off_some.mpr ⟨fun z => e1 (h a z), e2⟩
theorem Same.off {H H' : Hp} (h : Same H H') (M : List Addr) : Same (off H M) (off H' M) := fun a o e => by
  obtain ⟨e1, e2⟩ := off_some.mp e
  exact off_some.mpr ⟨e1, h a o e2⟩
/-- the part that stands still has only grown -/
def Fr (M : List Addr) (H H' : Hp) : Prop := Same (off H M) (off H' M)
theorem Fr.refl (M : List Addr) (H : Hp) : Fr M H H := fun _ _ h => h
theorem Fr.trans {M : List Addr} {H H1 H2 : Hp} (a : Fr M H H1) (b : Fr M H1 H2) : Fr M H H2 := fun c o h => b c o (a c o h)
theorem Fr.of {M : List Addr} {H H1 : Hp} (h : Same H H1) : Fr M H H1 := Same.off h M
theorem same_new {H : Hp} {p : Addr} {o : HO} (h : H p = none) : Same H (upd H p o) := fun b x e => by
  rw [upd_ne (ne_of_none e h)]
  exact e
theorem Fr.write {M : List Addr} {H : Hp} {p : Addr} {o : HO} (h : p ∈ M) : Fr M H (upd H p o) := by
  unfold Fr
  rw [off_upd h]
  exact fun _ _ z => z

/-! ### data -/
theorem seqT_mono {K : PySem.W.Frag} {H H' : Hp} {a : Addr} {xs : List V} (e : Same H H') (h : SqT K H a xs) : SqT K H' a xs := by
  rcases h with (h|⟨o, h⟩)|h
  · exact .inl (.inl (e _ _ h))
  · exact Or.inl (Or.inr ⟨o, e _ _ h⟩)
  · exact .inr h
theorem rd_mono {H H' : Hp} {a : Addr} {u : HO} (e : Same H H') (h : Rd H a u) : Rd H' a u := by
  rcases h with h | ⟨o, h⟩
  · exact .inl (e _ _ h)
  · exact .inr ⟨o, e _ _ h⟩
end Tk
namespace L2
open PySem PySem.Spec PyProof.Rows Tk
mutual
theorem Dp.mono {K : PySem.W.Frag} {H H' : Hp} (e : Same H H') : ∀ {v : V} {d : PyData}, Dp K H v d → Dp K H' v d
  | _, _, .non => .non
  | _, _, .bl b => .bl b
  | _, _, .int i => .int i
  | _, _, .str x => .str x
  | _, _, .lst h a => .lst (Same.seq e h) (DpAll.mono e a)
  | _, _, .tup h a => .tup (seqT_mono e h) (DpAll.mono e a)
theorem DpAll.mono {K : PySem.W.Frag} {H H' : Hp} (e : Same H H') : ∀ {vs : List V} {ds : List PyData}, DpAll K H vs ds → DpAll K H' vs ds
  | _, _, .nil => .nil
  | _, _, .cons h t => .cons (Dp.mono e h) (DpAll.mono e t)
end
theorem DpAll.length {K : PySem.W.Frag} {H : Hp} : ∀ {vs : List V} {ds : List PyData}, DpAll K H vs ds → vs.length = ds.length
  | _, _, .nil => rfl
  | _, _, .cons _ t => congrArg (· + 1) (DpAll.length t)
theorem DpAll.at {K : PySem.W.Frag} {H : Hp} : ∀ {vs : List V} {ds : List PyData}, DpAll K H vs ds → ∀ {i : Nat} {d : PyData}, ds[i]? = some d → ∃ v, vs[i]? = some v ∧ Dp K H v d
  | _, _, .nil, _, _, h => by simp at h
  | _, _, .cons h t, 0, _, e => by
    have e' := Option.some.inj (show some _ = some _ from e)
    subst e'
    exact ⟨_, rfl, h⟩
  | _, _, .cons h t, i + 1, d, e => DpAll.at t (i := i) (d := d) (by simpa using e)
theorem DpAll.at' {K : PySem.W.Frag} {H : Hp} : ∀ {vs : List V} {ds : List PyData}, DpAll K H vs ds → ∀ {i : Nat} {v : V}, vs[i]? = some v → ∃ d, ds[i]? = some d ∧ Dp K H v d
  | _, _, .nil, _, _, h => by simp at h
  | _, _, .cons h t, 0, _, e => by
    have e' := Option.some.inj (show some _ = some _ from e)
    subst e'
    exact ⟨_, rfl, h⟩
  | _, _, .cons h t, i + 1, v, e => DpAll.at' t (i := i) (v := v) (by simpa using e)
theorem DpAll.append {K : PySem.W.Frag} {H : Hp} : ∀ {vs ws : List V} {ds es : List PyData}, DpAll K H vs ds → DpAll K H ws es → DpAll K H (vs ++ ws) (ds ++ es)
  | _, _, _, _, .nil, s => s
  | _, _, _, _, .cons h t, s => .cons h (DpAll.append t s)
theorem DpAll.snoc {K : PySem.W.Frag} {H : Hp} {vs : List V} {v : V} {ds : List PyData} {d : PyData} (h : DpAll K H vs ds) (h2 : Dp K H v d) : DpAll K H (vs ++ [v]) (ds ++ [d]) := DpAll.append h (.cons h2 .nil)
theorem DpAll.set {K : PySem.W.Frag} {H : Hp} {v : V} {d : PyData} (h2 : Dp K H v d) : ∀ {vs : List V} {ds : List PyData} (i : Nat), DpAll K H vs ds → DpAll K H (vs.set i v) (ds.set i d)
  | _, _, _, .nil => .nil
  | _, _, 0, .cons h t => .cons h2 t
  | _, _, i + 1, .cons h t => .cons h (DpAll.set h2 i t)
theorem DpAll.reverse {K : PySem.W.Frag} {H : Hp} : ∀ {vs : List V} {ds : List PyData}, DpAll K H vs ds → DpAll K H vs.reverse ds.reverse
  | _, _, .nil => .nil
  | _, _, .cons h t => by
    rw [List.reverse_cons,List.reverse_cons]
    exact DpAll.snoc (DpAll.reverse t) h
theorem DpAll.take {K : PySem.W.Frag} {H : Hp} : ∀ {vs : List V} {ds : List PyData} (n : Nat), DpAll K H vs ds → DpAll K H (vs.take n) (ds.take n)
  | _, _, 0, _ => .nil
  | _, _, _ + 1, .nil => .nil
  | _, _, n + 1, .cons h t => .cons h (DpAll.take n t)
theorem DpAll.drop {K : PySem.W.Frag} {H : Hp} : ∀ {vs : List V} {ds : List PyData} (n : Nat), DpAll K H vs ds → DpAll K H (vs.drop n) (ds.drop n)
  | _, _, 0, h => h
  | _, _, _ + 1, .nil => .nil
  | _, _, n + 1, .cons _ t => DpAll.drop n t
/-- lists of ints, of truth values -/
theorem DpAll.ints {K : PySem.W.Frag} {H : Hp} : ∀ {vs : List V} {ns : List Int}, DpAll K H vs (ns.map PyData.int) → vs = ns.map V.int
  | _, [], .nil => rfl
  | _, n :: ns, .cons h t => by
    cases h
    rw [DpAll.ints t]
    rfl
theorem DpAll.of_ints {K : PySem.W.Frag} {H : Hp} : ∀ ns : List Int, DpAll K H (ns.map V.int) (ns.map PyData.int)
  | [] => .nil
  | n :: ns => .cons (.int n) (DpAll.of_ints ns)
theorem DpAll.bools {K : PySem.W.Frag} {H : Hp} : ∀ {vs : List V} {bs : List Bool}, DpAll K H vs (bs.map PyData.bool) → vs = bs.map V.bl
  | _, [], .nil => rfl
  | _, n :: ns, .cons h t => by
    cases h
    rw [DpAll.bools t]
    rfl

end L2
namespace Tk
open L2 PyProof.Rows PySem PySem.Spec
/-! ### dicts whose keys are nested tuples -/
/-- the object of such a dict, by its keys, their tuples' addresses, its values -/
def dicO (P : Program) (w : World) (a : Addr) (es : List (NestedKey × Addr × V)) (o : Obj) : HO := .ext fun h =>
  ∃ xs : List (NestedKey × Addr × Value), Paired (fun (e : NestedKey × Addr × V) (x : NestedKey × Addr × Value) => e.1 = x.1 ∧ e.2.1 = x.2.1 ∧ RelV e.2.2 x.2.2) es xs ∧ (a == sysModules) = false ∧ es.length ≤ sizeLine ∧
    ∃ es' ep, h.get? a = some o ∧ o.ExactDict ∧ o.data = .dict es' ep ∧ es'.toList = xs.map (entryOfKey (nestedKind P w)) ∧ (xs.map (·.1)).Nodup
/-- its keys and values are these data -/
def DicE (K : PySem.W.Frag) (H : Hp) (kvs : List (NestedKey × PyData)) (es : List (NestedKey × Addr × V)) : Prop :=
  Paired (fun (kv : NestedKey × PyData) (e : NestedKey × Addr × V) => kv.1 = e.1 ∧ e.1.depth ≤ 8 ∧ Dp K H (.ref e.2.1) kv.1.data ∧ Dp K H e.2.2 kv.2) kvs es
theorem DicE.mono {K : PySem.W.Frag} {H H' : Hp} (e : Same H H') {kvs : List (NestedKey × PyData)} {es : List (NestedKey × Addr × V)} (h : DicE K H kvs es) : DicE K H' kvs es :=
  Paired.mapP h fun _ _ z => ⟨z.1, z.2.1, Dp.mono e z.2.2.1, Dp.mono e z.2.2.2⟩
/-- data, or a dict of data -/
inductive Dt where
  | py (d : PyData)
  | dic (kvs : List (NestedKey × PyData))
def RepX (K : PySem.W.Frag) (P : Program) (w : World) (H : Hp) (v : V) : Dt → Prop
  | .py d => Dp K H v d
  | .dic kvs => ∃ a es o, v = .ref a ∧ Rd H a (dicO P w a es o) ∧ DicE K H kvs es
theorem RepX.mono {K : PySem.W.Frag} {P : Program} {w : World} {H H' : Hp} (e : Same H H') {v : V} : ∀ {d : Dt}, RepX K P w H v d → RepX K P w H' v d
  | .py _, h => Dp.mono e h
  | .dic _, ⟨a, es, o, h1, h2, h3⟩ => ⟨a, es, o, h1, rd_mono e h2, h3.mono e⟩

/-! ### what is known of a slot -/
inductive Slot where
  /-- nothing -/
  | any
  /-- data that stand still -/
  | val (d : Dt)
  /-- a list of one's own at p, a dict of one's own at p: they may be changed -/
  | ml (p : Addr) (ds : List PyData)
  | md (p : Addr) (kvs : List (NestedKey × PyData))
  /-- a list of one's own at p that no name holds -/
  | hid (p : Addr) (ds : List PyData)
abbrev Slot.py (d : PyData) : Slot := .val (.py d)
def Slot.addr : Slot → Option Addr
  | .ml p _ => some p
  | .md p _ => some p
  | .hid p _ => some p
  | _ => none
def SlotOk (K : PySem.W.Frag) (P : Program) (w : World) (M : List Addr) (H : Hp) (v? : Option (Option V)) : Slot → Prop
  | .any => True
  | .val d => ∃ v, v? = some (some v) ∧ RepX K P w (off H M) v d
  | .ml p ds => v? = some (some (.ref p)) ∧ p ∈ M ∧ ∃ vs, H p = some (.lst vs) ∧ DpAll K (off H M) vs ds
  | .md p kvs => v? = some (some (.ref p)) ∧ p ∈ M ∧ ∃ es o, H p = some (dicO P w p es o) ∧ DicE K (off H M) kvs es
  | .hid p ds => p ∈ M ∧ ∃ vs, H p = some (.lst vs) ∧ DpAll K (off H M) vs ds

/-- the entry of a def: the addresses that others may change, the heap at the entry, what may be changed of it, facts of what stands still, the number of the slots -/
structure Cc where
  M0 : List Addr
  H0 : Hp
  T : List Addr
  F : List (Hp → Prop)
  n : Nat
/-- how it stands: L are one's own lists and dicts -/
structure Sit (K : PySem.W.Frag) (P : Program) (w : World) (C : Cc) (L : List Addr) (ρ : List Slot) (σ : L2.St) (H : Hp) : Prop where
  ex : Same (off C.H0 C.T) H
  own : ∀ p ∈ L, off C.H0 C.T p = none
  dom : ∀ p ∈ L ++ C.M0, H p ≠ none
  sep : ∀ p ∈ L, p ∉ C.M0
  nd : L.Nodup
  facts : ∀ φ ∈ C.F, (∀ G G' : Hp, Same G G' → φ G → φ G') ∧ φ (off H (L ++ C.M0))
  len : σ.length = C.n
  slots : ∀ (i : Nat) (s : Slot), ρ[i]? = some s → SlotOk K P w (L ++ C.M0) H (σ[i]?) s
  inj : ∀ (i j : Nat) (s t : Slot) (p : Addr), ρ[i]? = some s → ρ[j]? = some t → s.addr = some p → t.addr = some p → i = j
abbrev Cc.M (C : Cc) (L : List Addr) : List Addr := L ++ C.M0

theorem SlotOk.grow {K : PySem.W.Frag} {P : Program} {w : World} {M : List Addr} {H H' : Hp} {v? : Option (Option V)} (e : Same H H') : ∀ {s : Slot}, SlotOk K P w M H v? s → SlotOk K P w M H' v? s
  | .any, _ => trivial
  | .val _, ⟨v, h1, h2⟩ => ⟨v, h1, h2.mono (Same.off e M)⟩
  | .ml _ _, ⟨h1, h2, vs, h3, h4⟩ => ⟨h1, h2, vs, e _ _ h3, h4.mono (Same.off e M)⟩
  | .md _ _, ⟨h1, h2, vs, o, h3, h4⟩ => ⟨h1, h2, vs, o, e _ _ h3, h4.mono (Same.off e M)⟩
  | .hid _ _, ⟨h2, vs, h3, h4⟩ => ⟨h2, vs, e _ _ h3, h4.mono (Same.off e M)⟩
theorem SlotOk.set {K : PySem.W.Frag} {P : Program} {w : World} {M : List Addr} {H : Hp} {v? u? : Option (Option V)} {s : Slot} (e : u? = v?) (h : SlotOk K P w M H v? s) : SlotOk K P w M H u? s := by rw [e]; exact h
theorem set_get {α : Type} {l : List α} {i j : Nat} {a s : α} (h : (l.set i a)[j]? = some s) : (i = j ∧ s = a) ∨ (i ≠ j ∧ l[j]? = some s) := by
  by_cases e : i = j
  · subst e
    rw [List.getElem?_set] at h
    simp only [if_true] at h
    split at h
    · exact .inl ⟨rfl, (Option.some.inj h).symm⟩
    · cases h
  · rw [List.getElem?_set_ne e] at h
    exact .inr ⟨e, h⟩

section
variable {K : PySem.W.Frag} {P : Program} {w : World} {C : Cc} {L : List Addr} {ρ : List Slot} {σ : L2.St} {H H' : Hp}
/-- the heap has grown -/
theorem Sit.grow (S : Sit K P w C L ρ σ H) (e : Same H H') : Sit K P w C L ρ σ H' where
  ex := fun a o h => e a o (S.ex a o h)
  own := S.own
  dom := fun p hp z => by
    cases q : H p with
    | none => exact S.dom p hp q
    | some o => rw [e p o q] at z; cases z
  sep := S.sep
  nd := S.nd
  facts := fun φ h => ⟨(S.facts φ h).1, (S.facts φ h).1 _ _ (Same.off e _) (S.facts φ h).2⟩
  len := S.len
  slots := fun i s h => (S.slots i s h).grow e
  inj := S.inj
/-- less is known -/
theorem Sit.weak {ρ' : List Slot} (S : Sit K P w C L ρ σ H) (h : ∀ (i : Nat) (s : Slot), ρ'[i]? = some s → s = Slot.any ∨ ρ[i]? = some s) : Sit K P w C L ρ' σ H where
  ex := S.ex
  own := S.own
  dom := S.dom
  sep := S.sep
  nd := S.nd
  facts := S.facts
  len := S.len
  slots := fun i s e => by
    rcases h i s e with rfl | e'
    · trivial
    · exact S.slots i s e'
  inj := fun i j s t p e1 e2 a1 a2 => by
    rcases h i s e1 with rfl | e1'
    · cases a1
    · rcases h j t e2 with rfl | e2'
      · cases a2
      · exact S.inj i j s t p e1' e2' a1 a2
/-- a slot is stored: what it holds now is known by s -/
theorem Sit.put {i : Nat} {v : Option V} {s : Slot} (S : Sit K P w C L ρ σ H) (h : SlotOk K P w (C.M L) H (some v) s) (hi : i < C.n) (hj : ∀ p, s.addr = some p → ∀ (j : Nat) (t : Slot), j ≠ i → ρ[j]? = some t → t.addr ≠ some p) : Sit K P w C L (ρ.set i s) (σ.set i v) H where
  ex := S.ex
  own := S.own
  dom := S.dom
  sep := S.sep
  nd := S.nd
  facts := S.facts
  len := by rw [List.length_set]; exact S.len
  slots := fun j t e => by
    rcases set_get e with ⟨rfl, rfl⟩ | ⟨ne, e'⟩
    · exact h.set (List.getElem?_set_self (by rw [S.len]; exact hi))
    · exact (S.slots j t e').set (List.getElem?_set_ne ne)
  inj := fun a b s' t p e1 e2 a1 a2 => by
    rcases set_get e1 with ⟨rfl, rfl⟩ | ⟨n1, e1'⟩
    · rcases set_get e2 with ⟨rfl, rfl⟩ | ⟨n2, e2'⟩
      · rfl
      · exact absurd a2 (hj p a1 b t (Ne.symm n2) e2')
    · rcases set_get e2 with ⟨rfl, rfl⟩ | ⟨n2, e2'⟩
      · exact absurd a1 (hj p a2 a s' (Ne.symm n1) e1')
      · exact S.inj a b s' t p e1' e2' a1 a2
theorem Sit.set {i : Nat} {v : V} {d : Dt} (S : Sit K P w C L ρ σ H) (hi : i < C.n) (h : RepX K P w (off H (C.M L)) v d) : Sit K P w C L (ρ.set i (.val d)) (σ.set i (some v)) H :=
  S.put (s := .val d) ⟨v, rfl, h⟩ hi fun p e => nomatch e
/-- a new list or dict of one's own -/
theorem off_new {p : Addr} {o : HO} (hp : H p = none) (M : List Addr) : off (upd H p o) (p :: M) = off H M := by
  rw [off_upd (by simp)]
  funext a
  unfold off
  by_cases h : a = p
  · subst h
    rw [if_pos (by simp)]
    split
    · rfl
    · exact hp.symm
  · by_cases q : a ∈ M
    · rw [if_pos (List.mem_cons_of_mem _ q), if_pos q]
    · rw [if_neg (fun z => (List.mem_cons.mp z).elim h q), if_neg q]
theorem Sit.new {p : Addr} {o : HO} (S : Sit K P w C L ρ σ H) (hp : H p = none) : Sit K P w C (p :: L) ρ σ (upd H p o) := by
  have e1 : off (upd H p o) (p :: L ++ C.M0) = off H (L ++ C.M0) := off_new hp _
  have np : ∀ q, H q ≠ none → q ≠ p := fun q h z => h (by rw [z]; exact hp)
  refine ⟨fun a u h => ?_, fun q hq => ?_, fun q hq => ?_, fun q hq => ?_, List.nodup_cons.mpr ⟨fun m => S.dom p (List.mem_append_left _ m) hp, S.nd⟩, fun φ h => ?_, S.len, fun i s h => ?_, S.inj⟩
  · rw [upd_ne (np a (by rw [S.ex a u h]; exact Option.some_ne_none _))]
    exact S.ex a u h
  · rcases List.mem_cons.mp hq with rfl|hq
    · cases z : off C.H0 C.T q with
      | none => rfl
      | some u => rw [S.ex q u z] at hp; cases hp
    · exact S.own q hq
  · rcases List.mem_append.mp hq with hq|hq
    · rcases List.mem_cons.mp hq with rfl|hq
      · rw [upd_same]; exact Option.some_ne_none _
      · have d := S.dom q (List.mem_append_left _ hq)
        rw [upd_ne (np q d)]; exact d
    · have d := S.dom q (List.mem_append_right _ hq)
      rw [upd_ne (np q d)]; exact d
  · rcases List.mem_cons.mp hq with rfl|hq
    · exact fun m => S.dom q (List.mem_append_right _ m) hp
    · exact S.sep q hq
  · rw [e1]; exact S.facts φ h
  · have x := S.slots i s h
    cases s with
    | any => trivial
    | val d =>
      obtain ⟨v, h1, h2⟩ := x
      exact ⟨v, h1, by rw [e1]; exact h2⟩
    | ml q ds =>
      obtain ⟨h1, h2, vs, h3, h4⟩ := x
      refine ⟨h1, List.mem_cons_of_mem _ h2, vs, ?_, by rw [e1]; exact h4⟩
      rw [upd_ne (np q (by rw [h3]; exact Option.some_ne_none _))]; exact h3
    | md q ds =>
      obtain ⟨h1, h2, vs, o', h3, h4⟩ := x
      refine ⟨h1, List.mem_cons_of_mem _ h2, vs, o', ?_, by rw [e1]; exact h4⟩
      rw [upd_ne (np q (by rw [h3]; exact Option.some_ne_none _))]; exact h3
    | hid q ds =>
      obtain ⟨h2, vs, h3, h4⟩ := x
      refine ⟨List.mem_cons_of_mem _ h2, vs, ?_, by rw [e1]; exact h4⟩
      rw [upd_ne (np q (by rw [h3]; exact Option.some_ne_none _))]; exact h3
/-- one's own thing at p is written: only the slots that name it are asked anew -/
theorem Sit.write {p : Addr} {o : HO} {ρ' : List Slot} (S : Sit K P w C L ρ σ H) (hp : p ∈ L) (hs : ∀ (i : Nat) (s : Slot), ρ'[i]? = some s → (s.addr = some p ∧ SlotOk K P w (C.M L) (upd H p o) (σ[i]?) s) ∨ (s.addr ≠ some p ∧ ρ[i]? = some s))
    (hj : ∀ (i j : Nat) (s t : Slot), ρ'[i]? = some s → ρ'[j]? = some t → s.addr = some p → t.addr = some p → i = j) : Sit K P w C L ρ' σ (upd H p o) := by
  have hm : p ∈ L ++ C.M0 := List.mem_append_left _ hp
  have e1 : off (upd H p o) (L ++ C.M0) = off H (L ++ C.M0) := off_upd hm
  refine ⟨fun a u h => ?_, S.own, fun q hq => ?_, S.sep, S.nd, fun φ h => ?_, S.len, fun i s h => ?_, fun i j s t q a b c d => ?_⟩
  · have : a ≠ p := fun z => by rw [z, S.own p hp] at h; cases h
    rw [upd_ne this]
    exact S.ex a u h
  · by_cases z : q = p
    · rw [z, upd_same]; exact Option.some_ne_none _
    · rw [upd_ne z]; exact S.dom q hq
  · rw [e1]; exact S.facts φ h
  · rcases hs i s h with ⟨_, x⟩ | ⟨ne, h'⟩
    · exact x
    · have x := S.slots i s h'
      cases s with
      | any => trivial
      | val d =>
        obtain ⟨v, h1, h2⟩ := x
        exact ⟨v, h1, by rw [e1]; exact h2⟩
      | ml q ds =>
        obtain ⟨h1, h2, vs, h3, h4⟩ := x
        exact ⟨h1, h2, vs, by rw [upd_ne (fun z => ne (by rw [z]; rfl))]; exact h3, by rw [e1]; exact h4⟩
      | md q ds =>
        obtain ⟨h1, h2, vs, o', h3, h4⟩ := x
        exact ⟨h1, h2, vs, o', by rw [upd_ne (fun z => ne (by rw [z]; rfl))]; exact h3, by rw [e1]; exact h4⟩
      | hid q ds =>
        obtain ⟨h2, vs, h3, h4⟩ := x
        exact ⟨h2, vs, by rw [upd_ne (fun z => ne (by rw [z]; rfl))]; exact h3, by rw [e1]; exact h4⟩
  · by_cases z : q = p
    · subst z
      exact hj i j s t a b c d
    · rcases hs i s a with ⟨y, _⟩ | ⟨_, a'⟩
      · exact absurd (Option.some.inj (c.symm.trans y)) z
      · rcases hs j t b with ⟨y, _⟩ | ⟨_, b'⟩
        · exact absurd (Option.some.inj (d.symm.trans y)) z
        · exact S.inj i j s t q a' b' c d
/-- the newest of one's own stands still from now on -/
theorem Sit.seal {p : Addr} {ρ' : List Slot} (S : Sit K P w C (p :: L) ρ σ H) (hs : ∀ (i : Nat) (s : Slot), ρ'[i]? = some s → (s.addr ≠ some p ∧ ρ[i]? = some s) ∨ (s.addr = none ∧ SlotOk K P w (C.M L) H (σ[i]?) s)) : Sit K P w C L ρ' σ H := by
  have le : Same (off H (p :: L ++ C.M0)) (off H (L ++ C.M0)) := off_sub fun a h => List.mem_cons_of_mem _ h
  refine ⟨S.ex, fun q hq => S.own q (List.mem_cons_of_mem _ hq), fun q hq => S.dom q (List.mem_cons_of_mem _ hq), fun q hq => S.sep q (List.mem_cons_of_mem _ hq), (List.nodup_cons.mp S.nd).2, fun φ h => ⟨(S.facts φ h).1, (S.facts φ h).1 _ _ le (S.facts φ h).2⟩, S.len, fun i s h => ?_, fun i j s t q a b c d => ?_⟩
  · rcases hs i s h with ⟨ne, h'⟩ | ⟨_, x⟩
    · have x := S.slots i s h'
      cases s with
      | any => trivial
      | val d =>
        obtain ⟨v, h1, h2⟩ := x
        exact ⟨v, h1, h2.mono le⟩
      | ml q ds =>
        obtain ⟨h1, h2, vs, h3, h4⟩ := x
        exact ⟨h1, (List.mem_cons.mp h2).resolve_left (fun z => ne (by rw [z]; rfl)), vs, h3, h4.mono le⟩
      | md q ds =>
        obtain ⟨h1, h2, vs, o', h3, h4⟩ := x
        exact ⟨h1, (List.mem_cons.mp h2).resolve_left (fun z => ne (by rw [z]; rfl)), vs, o', h3, h4.mono le⟩
      | hid q ds =>
        obtain ⟨h2, vs, h3, h4⟩ := x
        exact ⟨(List.mem_cons.mp h2).resolve_left (fun z => ne (by rw [z]; rfl)), vs, h3, h4.mono le⟩
    · exact x
  · rcases hs i s a with ⟨_, a'⟩ | ⟨y, _⟩
    · rcases hs j t b with ⟨_, b'⟩ | ⟨y, _⟩
      · exact S.inj i j s t q a' b' c d
      · rw [y] at d; cases d
    · rw [y] at c; cases c
end
end Tk
end

section
namespace Tk
open L2 PyProof.Rows PySem PySem.Spec

/-! ### canonical readings of a node -/
def tE (X : Cx) (e : Expr) : TE := fun σ H Q => ∀ (pins : List (Addr × Obj)) (s : Shared), Inv X pins σ H s → wpAny (model X.prog X.w) X.A (eval e X.env) (EP X pins σ Q) X.xe s
def tT (X : Cx) (e : Expr) : TT := fun σ H Q => ∀ (pins : List (Addr × Obj)) (s : Shared), Inv X pins σ H s → wpAny (model X.prog X.w) X.A (isTrue e X.env (eval e X.env)) (TP X pins σ Q) X.xe s
def tA (X : Cx) (es : List Expr) : TA := fun σ H Q => ∀ (pos : Pos) (pins : List (Addr × Obj)) (s : Shared), Inv X pins σ H s → wpAny (model X.prog X.w) X.A (spliced (backTo pos (starEach es X.env))) (AP X pins σ Q) X.xe s
theorem pe_tE {X : Cx} {e : Expr} : PE X e (tE X e) := ⟨fun pins s σ H Q I h => h pins s I⟩
theorem pt_tT {X : Cx} {e : Expr} : PT X e (tT X e) := ⟨fun pins s σ H Q I h => h pins s I⟩
theorem pa_tA {X : Cx} {es : List Expr} : PA X es (tA X es) := ⟨fun pos pins s σ H Q I h => h pos pins s I⟩
theorem le_E {X : Cx} {e : Expr} {t : TE} (h : PE X e t) {σ : L2.St} {H : Hp} {Q : VK} (q : t σ H Q) : tE X e σ H Q := fun pins s I => h.run pins s σ H Q I q
theorem le_T {X : Cx} {e : Expr} {t : TT} (h : PT X e t) {σ : L2.St} {H : Hp} {Q : Bool → Hp → Prop} (q : t σ H Q) : tT X e σ H Q := fun pins s I => h.run pins s σ H Q I q
theorem le_A {X : Cx} {es : List Expr} {t : TA} (h : PA X es t) {σ : L2.St} {H : Hp} {Q : List V → Hp → Prop} (q : t σ H Q) : tA X es σ H Q := fun pos pins s I => h.run pos pins s σ H Q I q

abbrev SitX (X : Cx) := Sit X.K X.prog X.w
abbrev RepC (X : Cx) (C : Cc) (L : List Addr) (H : Hp) := RepX X.K X.prog X.w (off H (C.M L))
/-- e evaluates to data d; what is known goes from ρ to ρ' -/
def EvE (X : Cx) (C : Cc) (L : List Addr) (ρ : List Slot) (e : Expr) (d : Dt) (ρ' : List Slot) : Prop :=
  ∀ σ H, SitX X C L ρ σ H → ∀ Q : VK, (∀ v H2, SitX X C L ρ' σ H2 → Fr (C.M L) H H2 → RepC X C L H2 v d → Q v H2) → tE X e σ H Q
abbrev EvD (X : Cx) (C : Cc) (L : List Addr) (ρ : List Slot) (e : Expr) (d : PyData) (ρ' : List Slot) : Prop := EvE X C L ρ e (.py d) ρ'
def EvT (X : Cx) (C : Cc) (L : List Addr) (ρ : List Slot) (e : Expr) (b : Bool) (ρ' : List Slot) : Prop :=
  ∀ σ H, SitX X C L ρ σ H → ∀ Q : Bool → Hp → Prop, (∀ H2, SitX X C L ρ' σ H2 → Fr (C.M L) H H2 → Q b H2) → tT X e σ H Q
def EvA (X : Cx) (C : Cc) (L : List Addr) (ρ : List Slot) (es : List Expr) (ds : List Dt) (ρ' : List Slot) : Prop :=
  ∀ σ H, SitX X C L ρ σ H → ∀ Q : List V → Hp → Prop, (∀ vs H2, SitX X C L ρ' σ H2 → Fr (C.M L) H H2 → Paired (RepC X C L H2) vs ds → Q vs H2) → tA X es σ H Q

section
variable {X : Cx} {C : Cc} {L : List Addr} {ρ ρ1 ρ2 ρ3 : List Slot} {e a b c : Expr} {es : List Expr} {d d1 d2 : Dt} {pos : Pos}

theorem paired_mono {K : PySem.W.Frag} {P : Program} {w : World} {H H' : Hp} (e : Same H H') {vs : List V} {ds : List Dt} (h : Paired (RepX K P w H) vs ds) : Paired (RepX K P w H') vs ds := Paired.mapP h fun _ _ z => z.mono e

/-! ### names, constants -/
theorem ev_var (i : Nat) {x : Str} (hs : ρ[i]? = some (.val d) := by rfl) (hN : X.N[i]? = some x := by rfl) (hv : Vis X.env.scope x := by first | exact Or.inl rfl | exact Or.inr (Or.inl rfl) | exact Or.inr (Or.inr rfl))
    (hd : (x == ("__debug__" : Str)) = false := by decide) (hcd : (x == ("__classdict__" : Str)) = false := by decide) : EvE X C L ρ (.Name x pos) d ρ := fun σ H S Q q => by
  refine le_E (pe_var hN hv hd hcd) ?_
  obtain ⟨v, e1, r⟩ := S.slots i _ hs
  exact ⟨v, e1, q v H S (Fr.refl _ _) r⟩
theorem ev_c {v : V} (h : PE X e (tC v)) (r : ∀ H, RepX X.K X.prog X.w H v d) : EvE X C L ρ e d ρ := fun σ H S Q q => le_E h (q v H S (Fr.refl _ _) (r _))
theorem ev_int {i : Int} {j} : EvD X C L ρ (.Constant (.int i) j pos) (.int i) ρ := ev_c pe_int fun _ => .int i
theorem ev_none {j} : EvD X C L ρ (.Constant .none j pos) .none ρ := ev_c pe_non fun _ => .non
theorem ev_bool {k : Bool} {j} : EvD X C L ρ (.Constant (.bool k) j pos) (.bool k) ρ := ev_c pe_bl fun _ => .bl k
/-- a constant of the module: a tuple of the written part -/
theorem ev_glob {x : Str} {a : Addr} {d : PyData} (hg : Gl X x) (hm : X.mg x = some (.ref a)) (r : ∀ H, Dp X.K H (.ref a) d) (hd : (x == ("__debug__" : Str)) = false := by decide) : EvD X C L ρ (.Name x pos) d ρ :=
  ev_c (v := .ref a) (pe_glob (v := .ref a) hg hm rfl hd) fun H => r H

/-! ### shapes of data -/
theorem dp_int {K : PySem.W.Frag} {P : Program} {w : World} {H : Hp} {v : V} {i : Int} (h : RepX K P w H v (.py (.int i))) : v = .int i := by
  have h' : Dp K H v (.int i) := h
  cases h'
  rfl
theorem dp_bool {K : PySem.W.Frag} {P : Program} {w : World} {H : Hp} {v : V} {i : Bool} (h : RepX K P w H v (.py (.bool i))) : v = .bl i := by
  have h' : Dp K H v (.bool i) := h
  cases h'
  rfl
theorem dp_none {K : PySem.W.Frag} {P : Program} {w : World} {H : Hp} {v : V} (h : RepX K P w H v (.py .none)) : v = .non := by
  have h' : Dp K H v .none := h
  cases h'
  rfl
theorem dp_list {K : PySem.W.Frag} {P : Program} {w : World} {H : Hp} {v : V} {ds : List PyData} (h : RepX K P w H v (.py (.list ds))) : ∃ a vs, v = .ref a ∧ SqL K H a vs ∧ DpAll K H vs ds := by
  have h' : Dp K H v (.list ds) := h
  cases h' with
  | lst h1 h2 => exact ⟨_, _, rfl, h1, h2⟩
theorem dp_tup {K : PySem.W.Frag} {P : Program} {w : World} {H : Hp} {v : V} {ds : List PyData} (h : RepX K P w H v (.py (.tuple ds))) : ∃ a vs, v = .ref a ∧ SqT K H a vs ∧ DpAll K H vs ds := by
  have h' : Dp K H v (.tuple ds) := h
  cases h' with
  | tup h1 h2 => exact ⟨_, _, rfl, h1, h2⟩
theorem sqL_off {K : PySem.W.Frag} {H : Hp} {M : List Addr} {a : Addr} {xs : List V} (h : SqL K (off H M) a xs) : SqL K H a xs := Same.seq off_le h
theorem sqT_off {K : PySem.W.Frag} {H : Hp} {M : List Addr} {a : Addr} {xs : List V} (h : SqT K (off H M) a xs) : SqT K H a xs := seqT_mono off_le h
/-- a fresh object stands outside of M -/
theorem Sit.out {K : PySem.W.Frag} {P : Program} {w : World} {σ : L2.St} {H : Hp} (S : Sit K P w C L ρ σ H) {p : Addr} (hp : H p = none) : p ∉ C.M L := fun m => S.dom p m hp
theorem Sit.new_off {K : PySem.W.Frag} {P : Program} {w : World} {σ : L2.St} {H : Hp} (S : Sit K P w C L ρ σ H) {p : Addr} {o : HO} (hp : H p = none) : off (upd H p o) (C.M L) p = some o := off_some.mpr ⟨S.out hp, upd_same⟩

/-! ### two operands -/
theorem ev_bin {r : R2} {te : TE} (hP : PE X e (tOp r (tE X a) (tE X b))) (ha : EvE X C L ρ a d1 ρ1) (hb : EvE X C L ρ1 b d2 ρ2)
    (hr : ∀ x y σ H, SitX X C L ρ2 σ H → RepC X C L H x d1 → RepC X C L H y d2 → ∀ Q : VK, (∀ v H2, Same H H2 → RepC X C L H2 v d → Q v H2) → r x y H Q) : EvE X C L ρ e d ρ2 := fun σ H S Q q => by
  refine le_E hP ?_
  refine ha σ H S _ fun x H1 S1 f1 r1 => hb σ H1 S1 _ fun y H2 S2 f2 r2 => hr x y σ H2 S2 (r1.mono f2) r2 Q fun v H3 e3 r3 => q v H3 (S2.grow e3) ((f1.trans f2).trans (Fr.of e3)) r3
theorem ev_op {op : Operator} {r : R2} (ho : OpR X (binaryOp op) r) (ha : EvE X C L ρ a d1 ρ1) (hb : EvE X C L ρ1 b d2 ρ2)
    (hr : ∀ x y σ H, SitX X C L ρ2 σ H → RepC X C L H x d1 → RepC X C L H y d2 → ∀ Q : VK, (∀ v H2, Same H H2 → RepC X C L H2 v d → Q v H2) → r x y H Q) : EvE X C L ρ (.BinOp a op b pos) d ρ2 :=
  ev_bin (te := tE X a) (pe_op ho pe_tE pe_tE) ha hb hr
section
variable {i j : Int}
theorem ev_add (ha : EvD X C L ρ a (.int i) ρ1) (hb : EvD X C L ρ1 b (.int j) ρ2) : EvD X C L ρ (.BinOp a .Add b pos) (.int (i + j)) ρ2 :=
  ev_op op_add ha hb fun x y σ H S rx ry Q q => ⟨i, j, dp_int rx, dp_int ry, q _ H (Same.refl H) (.int _)⟩
theorem ev_sub (ha : EvD X C L ρ a (.int i) ρ1) (hb : EvD X C L ρ1 b (.int j) ρ2) : EvD X C L ρ (.BinOp a .Sub b pos) (.int (i - j)) ρ2 :=
  ev_op op_sub ha hb fun x y σ H S rx ry Q q => ⟨i, j, dp_int rx, dp_int ry, q _ H (Same.refl H) (.int _)⟩
theorem ev_mul (ha : EvD X C L ρ a (.int i) ρ1) (hb : EvD X C L ρ1 b (.int j) ρ2) (h : CMul i j) : EvD X C L ρ (.BinOp a .Mult b pos) (.int (i * j)) ρ2 :=
  ev_op op_mul ha hb fun x y σ H S rx ry Q q => ⟨i, j, dp_int rx, dp_int ry, h, q _ H (Same.refl H) (.int _)⟩
theorem ev_mod (ha : EvD X C L ρ a (.int i) ρ1) (hb : EvD X C L ρ1 b (.int j) ρ2) (h : 0 < j) : EvD X C L ρ (.BinOp a .Mod b pos) (.int (i % j)) ρ2 :=
  ev_op op_mod ha hb fun x y σ H S rx ry Q q => ⟨i, j, dp_int rx, dp_int ry, h, q _ H (Same.refl H) (.int _)⟩
theorem ev_fdiv (ha : EvD X C L ρ a (.int i) ρ1) (hb : EvD X C L ρ1 b (.int j) ρ2) (h : CDiv i j) : EvD X C L ρ (.BinOp a .FloorDiv b pos) (.int (i / j)) ρ2 :=
  ev_op op_fdiv ha hb fun x y σ H S rx ry Q q => ⟨i, j, dp_int rx, dp_int ry, h, q _ H (Same.refl H) (.int _)⟩
theorem ev_pow (ha : EvD X C L ρ a (.int i) ρ1) (hb : EvD X C L ρ1 b (.int j) ρ2) (h : CPow i j) : EvD X C L ρ (.BinOp a .Pow b pos) (.int (i ^ j.toNat)) ρ2 :=
  ev_op op_pow ha hb fun x y σ H S rx ry Q q => ⟨i, j, dp_int rx, dp_int ry, h, q _ H (Same.refl H) (.int _)⟩
theorem ev_neg (ha : EvD X C L ρ a (.int i) ρ1) : EvD X C L ρ (.UnaryOp .USub a pos) (.int (-i)) ρ1 := fun σ H S Q q => by
  refine le_E (pe_un un_neg pe_tE) ?_
  exact ha σ H S _ fun x H1 S1 f1 r1 => ⟨i, dp_int r1, q _ H1 S1 f1 (.int _)⟩

/-! ### comparisons -/
theorem ev_cmp {op : CmpOp} {r : R2} (ho : OpR X (compareOp op) r) (ha : EvE X C L ρ a d1 ρ1) (hb : EvE X C L ρ1 b d2 ρ2)
    (hr : ∀ x y σ H, SitX X C L ρ2 σ H → RepC X C L H x d1 → RepC X C L H y d2 → ∀ Q : VK, (∀ v H2, Same H H2 → RepC X C L H2 v d → Q v H2) → r x y H Q) (hm : behindInMarks op b = false) : EvE X C L ρ (.Compare a [op] [b] pos) d ρ2 :=
  ev_bin (te := tE X a) (pe_cmpR ho pe_tE pe_tE hm) ha hb hr
theorem ev_lt (ha : EvD X C L ρ a (.int i) ρ1) (hb : EvD X C L ρ1 b (.int j) ρ2) : EvD X C L ρ (.Compare a [.Lt] [b] pos) (.bool (decide (i < j))) ρ2 :=
  ev_cmp op_lt ha hb (fun x y σ H S rx ry Q q => ⟨i, j, dp_int rx, dp_int ry, q _ H (Same.refl H) (.bl _)⟩) (nomark _)
theorem ev_le (ha : EvD X C L ρ a (.int i) ρ1) (hb : EvD X C L ρ1 b (.int j) ρ2) : EvD X C L ρ (.Compare a [.LtE] [b] pos) (.bool (decide (i ≤ j))) ρ2 :=
  ev_cmp op_le ha hb (fun x y σ H S rx ry Q q => ⟨i, j, dp_int rx, dp_int ry, q _ H (Same.refl H) (.bl _)⟩) (nomark _)
theorem ev_gt (ha : EvD X C L ρ a (.int i) ρ1) (hb : EvD X C L ρ1 b (.int j) ρ2) : EvD X C L ρ (.Compare a [.Gt] [b] pos) (.bool (decide (j < i))) ρ2 :=
  ev_cmp op_gt ha hb (fun x y σ H S rx ry Q q => ⟨i, j, dp_int rx, dp_int ry, q _ H (Same.refl H) (.bl _)⟩) (nomark _)
theorem ev_ge (ha : EvD X C L ρ a (.int i) ρ1) (hb : EvD X C L ρ1 b (.int j) ρ2) : EvD X C L ρ (.Compare a [.GtE] [b] pos) (.bool (decide (j ≤ i))) ρ2 :=
  ev_cmp op_ge ha hb (fun x y σ H S rx ry Q q => ⟨i, j, dp_int rx, dp_int ry, q _ H (Same.refl H) (.bl _)⟩) (nomark _)
end
end
end Tk
end

section
namespace L2
open PyProof.Rows PySem PySem.Spec
mutual
theorem Dp.plain {K : PySem.W.Frag} {H : Hp} : ∀ {v : V} {d : PyData}, Dp K H v d → d.plain = true
  | _, _, .non => by simp only [PyData.plain]
  | _, _, .bl b => by simp only [PyData.plain]
  | _, _, .int i => by simp only [PyData.plain]
  | _, _, .str x => by simp only [PyData.plain]
  | _, _, .lst h a => by simp only [PyData.plain]; exact DpAll.plain a
  | _, _, .tup h a => by simp only [PyData.plain]; exact DpAll.plain a
theorem DpAll.plain {K : PySem.W.Frag} {H : Hp} : ∀ {vs : List V} {ds : List PyData}, DpAll K H vs ds → PyData.plainAll ds = true
  | _, _, .nil => by simp only [PyData.plainAll]
  | _, _, .cons h t => by simp only [PyData.plainAll, Dp.plain h, DpAll.plain t, Bool.and_self]
end
end L2
namespace Tk
open L2 PyProof.Rows PySem PySem.Spec

/-! ### ops on data -/
section
variable {X : Cx}
theorem op_eqP (hu : X.A.units + 64 < cLine) : OpR X (compareOp .Eq) (fun x y H Q => ∃ d e, Dp X.K H x d ∧ Dp X.K H y e ∧ min d.depth e.depth ≤ 64 ∧ Q (.bl (PyData.eqv d e)) H) := by
  intro pn s σ H x y v u Q J rx ry h
  obtain ⟨d, e, hd, he, hm, q⟩ := h
  obtain ⟨as, r1⟩ := Dp.reads J d x v hd rx
  obtain ⟨bs, r2⟩ := Dp.reads J e y u he ry
  exact PySem.SeqAt.eq_plain r1 r2 hd.plain he.plain (by omega) ⟨.bl _, H, J, rfl, q⟩
theorem op_neP (hu : X.A.units + 64 < cLine) : OpR X (compareOp .NotEq) (fun x y H Q => ∃ d e, Dp X.K H x d ∧ Dp X.K H y e ∧ min d.depth e.depth ≤ 64 ∧ Q (.bl (!PyData.eqv d e)) H) := by
  intro pn s σ H x y v u Q J rx ry h
  obtain ⟨d, e, hd, he, hm, q⟩ := h
  obtain ⟨as, r1⟩ := Dp.reads J d x v hd rx
  obtain ⟨bs, r2⟩ := Dp.reads J e y u he ry
  exact PySem.SeqAt.ne_plain r1 r2 hd.plain he.plain (by omega) ⟨.bl _, H, J, rfl, q⟩
theorem op_leP (hu : X.A.units + 64 < cLine) : OpR X (compareOp .LtE) (fun x y H Q => ∃ d e, Dp X.K H x d ∧ Dp X.K H y e ∧ min d.depth e.depth ≤ 64 ∧ PySem.W.alike d e = true ∧ d ≠ .none ∧ Q (.bl (!PySem.W.dataLt e d)) H) := by
  intro pn s σ H x y v u Q J rx ry h
  obtain ⟨d, e, hd, he, hm, ha, hn, q⟩ := h
  obtain ⟨as, r1⟩ := Dp.reads J d x v hd rx
  obtain ⟨bs, r2⟩ := Dp.reads J e y u he ry
  exact PySem.W.le_data r1 r2 ha hn (by omega) ⟨.bl _, H, J, rfl, q⟩
theorem op_inP (hu : X.A.units + 65 < cLine) : OpR X (compareOp .In) (fun x y H Q => ∃ d xs, Dp X.K H x d ∧ (Dp X.K H y (.list xs) ∨ Dp X.K H y (.tuple xs)) ∧ d.depth ≤ 64 ∧ Q (.bl (xs.any fun z => PyData.eqv z d)) H) := by
  intro pn s σ H x y v u Q J rx ry h
  obtain ⟨d, xs, hd, he, hm, q⟩ := h
  obtain ⟨as, r1⟩ := Dp.reads J d x v hd rx
  rcases he with he | he
  · obtain ⟨bs, r2⟩ := Dp.reads J _ y u he ry
    have hp : PyData.plainAll xs = true := by have := he.plain; simpa only [PyData.plain] using this
    exact PySem.SeqAt.in_list_data r2 r1 hp hd.plain (by omega) ⟨.bl _, H, J, rfl, q⟩
  · obtain ⟨bs, r2⟩ := Dp.reads J _ y u he ry
    have hp : PyData.plainAll xs = true := by have := he.plain; simpa only [PyData.plain] using this
    exact PySem.SeqAt.in_tuple_data r2 r1 hp hd.plain (by omega) ⟨.bl _, H, J, rfl, q⟩
theorem op_notInP (hu : X.A.units + 65 < cLine) : OpR X (compareOp .NotIn) (fun x y H Q => ∃ d xs, Dp X.K H x d ∧ (Dp X.K H y (.list xs) ∨ Dp X.K H y (.tuple xs)) ∧ d.depth ≤ 64 ∧ Q (.bl (!(xs.any fun z => PyData.eqv z d))) H) := by
  intro pn s σ H x y v u Q J rx ry h
  obtain ⟨d, xs, hd, he, hm, q⟩ := h
  obtain ⟨as, r1⟩ := Dp.reads J d x v hd rx
  rcases he with he | he
  · obtain ⟨bs, r2⟩ := Dp.reads J _ y u he ry
    have hp : PyData.plainAll xs = true := by have := he.plain; simpa only [PyData.plain] using this
    exact PySem.SeqAt.notIn_list_data r2 r1 hp hd.plain (by omega) ⟨.bl _, H, J, rfl, q⟩
  · obtain ⟨bs, r2⟩ := Dp.reads J _ y u he ry
    have hp : PyData.plainAll xs = true := by have := he.plain; simpa only [PyData.plain] using this
    exact PySem.SeqAt.notIn_tuple_data r2 r1 hp hd.plain (by omega) ⟨.bl _, H, J, rfl, q⟩
/-- list + list, whatever they stand in -/
theorem op_catL : OpR X (binaryOp .Add) (fun x y H Q => ∃ l b xs zs, x = .ref l ∧ y = .ref b ∧ SqL X.K H l xs ∧ SqL X.K H b zs ∧ xs.length + zs.length ≤ sizeLine ∧ ∀ p, H p = none → Q (.ref p) (upd H p (.lst (xs ++ zs)))) := by
  intro pn s σ H x y v u Q J rx ry h
  obtain ⟨l, b, xs, zs, rfl, rfl, hH, hB, hz, q⟩ := id h
  cases rx
  cases ry
  obtain ⟨cl, r, p, z⟩ := J.list hH
  obtain ⟨cl2, r2, p2, z2⟩ := J.list hB
  obtain ⟨⟨cls, dd, data, sl⟩, ho, hc, n, hd⟩ := p.isList
  obtain ⟨⟨cls2, dd2, data2, sl2⟩, ho2, hc2, n2, hd2⟩ := p2.isList
  simp only at hc hd hc2 hd2
  subst hc hd hc2 hd2
  have h1 := r.length
  have h2 := r2.length
  refine PySem.concat_meets ⟨_, ho, rfl⟩ ⟨_, ho2, rfl⟩ noFill_list_add seq_list_add PySem.F.slot_list_add PySem.F.entry_list_add (PySem.F.args_list_add_2 _ _) (list_addW l b cl.toArray cl2.toArray n n2 dd dd2 sl sl2 (by simp only [List.size_toArray]; omega)) ⟨ho, ho2, ?_⟩
  have e : cl.toArray ++ cl2.toArray = (cl ++ cl2).toArray := by simp
  rw [e]
  have hl : (xs ++ zs).length ≤ sizeLine := by rw [List.length_append]; exact hz
  exact ⟨.ref _, _, J.laid (t' := s.toks) (fun b u e => Heap.get?_push_of_some _ e) (Nat.le_refl _) (show ObjOk X.prog X.w _ _ _ (.lst (xs ++ zs)) from ⟨hl, cl ++ cl2, 0, r.append r2, Heap.get?_push_size _ rfl⟩), rfl, q _ (J.hok.fresh (Nat.le_refl _))⟩
end
section
variable {X : Cx} {C : Cc} {L : List Addr} {ρ ρ1 ρ2 ρ3 : List Slot} {e a b c : Expr} {es : List Expr} {d d1 d2 : PyData} {pos : Pos}
theorem rx_off {X : Cx} {H : Hp} {M : List Addr} {v : V} {d : PyData} (h : RepX X.K X.prog X.w (off H M) v (.py d)) : Dp X.K H v d := Dp.mono off_le h
theorem ev_eq (hu : X.A.units + 64 < cLine) (ha : EvD X C L ρ a d1 ρ1) (hb : EvD X C L ρ1 b d2 ρ2) (hd : min d1.depth d2.depth ≤ 64 := by decide) : EvD X C L ρ (.Compare a [.Eq] [b] pos) (.bool (PyData.eqv d1 d2)) ρ2 :=
  ev_cmp (op_eqP hu) ha hb (fun x y σ H S rx ry Q q => ⟨d1, d2, rx_off rx, rx_off ry, hd, q _ H (Same.refl H) (.bl _)⟩) (nomark _)
theorem ev_ne (hu : X.A.units + 64 < cLine) (ha : EvD X C L ρ a d1 ρ1) (hb : EvD X C L ρ1 b d2 ρ2) (hd : min d1.depth d2.depth ≤ 64 := by decide) : EvD X C L ρ (.Compare a [.NotEq] [b] pos) (.bool (!PyData.eqv d1 d2)) ρ2 :=
  ev_cmp (op_neP hu) ha hb (fun x y σ H S rx ry Q q => ⟨d1, d2, rx_off rx, rx_off ry, hd, q _ H (Same.refl H) (.bl _)⟩) (nomark _)
theorem ev_leP (hu : X.A.units + 64 < cLine) (ha : EvD X C L ρ a d1 ρ1) (hb : EvD X C L ρ1 b d2 ρ2) (hd : min d1.depth d2.depth ≤ 64) (hal : PySem.W.alike d1 d2 = true) (hn : d1 ≠ .none) : EvD X C L ρ (.Compare a [.LtE] [b] pos) (.bool (!PySem.W.dataLt d2 d1)) ρ2 :=
  ev_cmp (op_leP hu) ha hb (fun x y σ H S rx ry Q q => ⟨d1, d2, rx_off rx, rx_off ry, hd, hal, hn, q _ H (Same.refl H) (.bl _)⟩) (nomark _)
theorem ev_inL {xs : List PyData} (hu : X.A.units + 65 < cLine) (ha : EvD X C L ρ a d1 ρ1) (hb : EvD X C L ρ1 b (.list xs) ρ2) (hd : d1.depth ≤ 64 := by decide) (hm : behindInMarks .In b = false := by rfl) : EvD X C L ρ (.Compare a [.In] [b] pos) (.bool (xs.any fun z => PyData.eqv z d1)) ρ2 :=
  ev_cmp (op_inP hu) ha hb (fun x y σ H S rx ry Q q => ⟨d1, xs, rx_off rx, .inl (rx_off ry), hd, q _ H (Same.refl H) (.bl _)⟩) hm
theorem ev_inT {xs : List PyData} (hu : X.A.units + 65 < cLine) (ha : EvD X C L ρ a d1 ρ1) (hb : EvD X C L ρ1 b (.tuple xs) ρ2) (hd : d1.depth ≤ 64 := by decide) (hm : behindInMarks .In b = false := by rfl) : EvD X C L ρ (.Compare a [.In] [b] pos) (.bool (xs.any fun z => PyData.eqv z d1)) ρ2 :=
  ev_cmp (op_inP hu) ha hb (fun x y σ H S rx ry Q q => ⟨d1, xs, rx_off rx, .inr (rx_off ry), hd, q _ H (Same.refl H) (.bl _)⟩) hm
theorem ev_notInL {xs : List PyData} (hu : X.A.units + 65 < cLine) (ha : EvD X C L ρ a d1 ρ1) (hb : EvD X C L ρ1 b (.list xs) ρ2) (hd : d1.depth ≤ 64 := by decide) (hm : behindInMarks .NotIn b = false := by rfl) : EvD X C L ρ (.Compare a [.NotIn] [b] pos) (.bool (!(xs.any fun z => PyData.eqv z d1))) ρ2 :=
  ev_cmp (op_notInP hu) ha hb (fun x y σ H S rx ry Q q => ⟨d1, xs, rx_off rx, .inl (rx_off ry), hd, q _ H (Same.refl H) (.bl _)⟩) hm
/-- is None, is not None -/
def noneB : PyData → Bool
  | .none => true
  | _ => false
theorem non_dec {K : PySem.W.Frag} {H : Hp} {v : V} {d : PyData} (h : Dp K H v d) : decide (v = V.non) = noneB d := by
  cases h <;> rfl
theorem ev_isN (ha : EvD X C L ρ a d1 ρ1) {j pos'} : EvD X C L ρ (.Compare a [.Is] [.Constant .none j pos'] pos) (.bool (noneB d1)) ρ1 := fun σ H S Q q => by
  refine le_E (pe_cmp (pc_isN pe_tE)) ?_
  exact ha σ H S _ fun x H1 S1 f1 r1 => q _ H1 S1 f1 (by rw [non_dec r1]; exact .bl _)
theorem ev_notN (ha : EvD X C L ρ a d1 ρ1) {j pos'} : EvD X C L ρ (.Compare a [.IsNot] [.Constant .none j pos'] pos) (.bool (!noneB d1)) ρ1 := fun σ H S Q q => by
  refine le_E (pe_cmp (pc_notN pe_tE)) ?_
  exact ha σ H S _ fun x H1 S1 f1 r1 => q _ H1 S1 f1 (by rw [non_dec r1]; exact .bl _)
theorem ev_isnotB {k1 k2 : Bool} (ha : EvD X C L ρ a (.bool k1) ρ1) (hb : EvD X C L ρ1 b (.bool k2) ρ2) : EvD X C L ρ (.Compare a [.IsNot] [b] pos) (.bool (!decide (k1 = k2))) ρ2 :=
  ev_cmp op_isnot_bl ha hb (fun x y σ H S rx ry Q q => ⟨k1, k2, dp_bool rx, dp_bool ry, q _ H (Same.refl H) (.bl _)⟩) (nomark _)
/-- low <= v <= high -/
theorem ev_chainLe {i j k : Int} (ha : EvD X C L ρ a (.int i) ρ) (hb : EvD X C L ρ b (.int j) ρ) (hc : EvD X C L ρ c (.int k) ρ) (hm : lastMarks [.LtE, .LtE] [b, c] = false := by with_unfolding_all rfl) :
    EvD X C L ρ (.Compare a [.LtE, .LtE] [b, c] pos) (.bool (decide (i ≤ j) && decide (j ≤ k))) ρ := fun σ H S Q q => by
  refine le_E (pe_chain op_le op_le pe_tE pe_tE pe_tE hm) ?_
  refine ha σ H S _ fun x H1 S1 f1 r1 => hb σ H1 S1 _ fun y H2 S2 f2 r2 => ⟨i, j, dp_int r1, dp_int r2, _, rfl, ?_⟩
  cases h : decide (i ≤ j) with
  | true =>
    rw [if_pos rfl]
    exact hc σ H2 S2 _ fun z H3 S3 f3 r3 => ⟨j, k, dp_int r2, dp_int r3, q _ H3 S3 ((f1.trans f2).trans f3) (by rw [h, Bool.true_and]; exact .bl _)⟩
  | false =>
    rw [(if_neg Bool.false_ne_true)]
    exact q _ H2 S2 (f1.trans f2) (by rw [h, Bool.false_and]; exact .bl _)

/-! ### sequences -/
theorem ev_cat {xs ys : List PyData} (ha : EvD X C L ρ a (.list xs) ρ1) (hb : EvD X C L ρ1 b (.list ys) ρ2) (hz : xs.length + ys.length ≤ sizeLine) : EvD X C L ρ (.BinOp a .Add b pos) (.list (xs ++ ys)) ρ2 :=
  ev_op op_catL ha hb fun x y σ H S rx ry Q q => by
    obtain ⟨p1, vs, e1, h1, a1⟩ := dp_list rx
    obtain ⟨p2, ws, e2, h2, a2⟩ := dp_list ry
    refine ⟨p1, p2, vs, ws, e1, e2, sqL_off h1, sqL_off h2, by rw [a1.length, a2.length]; exact hz, fun p hp => ?_⟩
    refine q _ _ (same_new hp) (.lst (SqL.of (S.new_off hp)) ((a1.append a2).mono (Same.off (same_new hp) _)))
theorem ev_catT {xs ys : List PyData} (ha : EvD X C L ρ a (.tuple xs) ρ1) (hb : EvD X C L ρ1 b (.tuple ys) ρ2) (hz : xs.length + ys.length ≤ sizeLine) : EvD X C L ρ (.BinOp a .Add b pos) (.tuple (xs ++ ys)) ρ2 :=
  ev_op op_catA ha hb fun x y σ H S rx ry Q q => by
    obtain ⟨p1, vs, e1, h1, a1⟩ := dp_tup rx
    obtain ⟨p2, ws, e2, h2, a2⟩ := dp_tup ry
    refine ⟨p1, p2, vs, ws, e1, e2, sqT_off h1, sqT_off h2, by rw [a1.length, a2.length]; exact hz, fun z => ?_, fun _ z => ?_, fun _ _ p hp => ?_⟩
    · subst z
      cases a1
      exact q _ H (Same.refl H) (.tup h2 a2)
    · subst z
      cases a2
      rw [List.append_nil] at *
      exact q _ H (Same.refl H) (.tup h1 a1)
    · exact q _ _ (same_new hp) (.tup (SqT.of (S.new_off hp)) ((a1.append a2).mono (Same.off (same_new hp) _)))
theorem ev_ixL {xs : List PyData} {j : Nat} {i : Int} (ha : EvD X C L ρ a (.list xs) ρ1) (hb : EvD X C L ρ1 b (.int i) ρ2) (hi : i = (j : Int)) (hx : xs[j]? = some d) (hp : PlainIx b := by exact fun _ _ => rfl) : EvD X C L ρ (.Subscript a b pos) d ρ2 :=
  ev_bin (te := tE X a) (pe_ix ix_list pe_tE pe_tE hp) ha hb fun x y σ H S rx ry Q q => by
    obtain ⟨p1, vs, e1, h1, a1⟩ := dp_list rx
    obtain ⟨v, hv, r⟩ := a1.at hx
    exact ⟨p1, vs, i, v, e1, dp_int ry, sqL_off h1, by rw [hi]; exact atI_nat hv, q _ H (Same.refl H) r⟩
theorem ev_ixT {xs : List PyData} {j : Nat} {i : Int} (ha : EvD X C L ρ a (.tuple xs) ρ1) (hb : EvD X C L ρ1 b (.int i) ρ2) (hi : i = (j : Int)) (hx : xs[j]? = some d) (hp : PlainIx b := by exact fun _ _ => rfl) : EvD X C L ρ (.Subscript a b pos) d ρ2 :=
  ev_bin (te := tE X a) (pe_ix ix_tup pe_tE pe_tE hp) ha hb fun x y σ H S rx ry Q q => by
    obtain ⟨p1, vs, e1, h1, a1⟩ := dp_tup rx
    obtain ⟨v, hv, r⟩ := a1.at hx
    exact ⟨p1, vs, i, v, e1, dp_int ry, sqT_off h1, by rw [hi]; exact atI_nat hv, q _ H (Same.refl H) r⟩

/-! ### argument lists, displays -/
theorem ea_nil : EvA X C L ρ [] [] ρ := fun σ H S Q q => le_A pa_nil (q [] H S (Fr.refl _ _) .nil)
theorem ea_cons {d : Dt} {ds : List Dt} (ha : EvE X C L ρ a d ρ1) (hr : EvA X C L ρ1 es ds ρ2) (hs : starEach (a :: es) X.env = (false, eval a X.env) :: starEach es X.env := by rfl) : EvA X C L ρ (a :: es) (d :: ds) ρ2 := fun σ H S Q q => by
  refine le_A (pa_cons pe_tE pa_tA hs) ?_
  exact ha σ H S _ fun x H1 S1 f1 r1 => hr σ H1 S1 _ fun xs H2 S2 f2 r2 => q _ H2 S2 (f1.trans f2) (.cons (r1.mono f2) r2)
theorem dpAll_of {K : PySem.W.Frag} {P : Program} {w : World} {H : Hp} : ∀ {vs : List V} {ds : List PyData}, Paired (RepX K P w H) vs (ds.map Dt.py) → DpAll K H vs ds
  | [], [], _ => .nil
  | _ :: _, _ :: _, .cons h t => .cons h (dpAll_of t)
theorem ev_tup {ds : List PyData} {k} (h : EvA X C L ρ es (ds.map Dt.py) ρ1) (hz : ds.length ≤ sizeLine := by first | decide | (simp only [List.length_cons, List.length_nil]; decide)) : EvD X C L ρ (.Tuple es k pos) (.tuple ds) ρ1 := fun σ H S Q q => by
  refine le_E (pe_tup pa_tA) ?_
  refine h σ H S _ fun vs H1 S1 f1 r1 => ?_
  have a := dpAll_of r1
  refine ⟨by rw [a.length]; exact hz, fun p hp => q _ _ (S1.grow (same_new hp)) (f1.trans (Fr.of (same_new hp))) (.tup (SqT.of (S1.new_off hp)) (a.mono (Same.off (same_new hp) _)))⟩
theorem ev_lst {ds : List PyData} (h : EvA X C L ρ es (ds.map Dt.py) ρ1) (hz : ds.length ≤ sizeLine := by first | decide | (simp only [List.length_cons, List.length_nil]; decide)) : EvD X C L ρ (.List es pos) (.list ds) ρ1 := fun σ H S Q q => by
  refine le_E (pe_lst pa_tA) ?_
  refine h σ H S _ fun vs H1 S1 f1 r1 => ?_
  have a := dpAll_of r1
  refine ⟨by rw [a.length]; exact hz, fun p hp => q _ _ (S1.grow (same_new hp)) (f1.trans (Fr.of (same_new hp))) (.lst (SqL.of (S1.new_off hp)) (a.mono (Same.off (same_new hp) _)))⟩

/-! ### conditional expressions, tests, and, or, not -/
theorem ev_if {k : Bool} {d : Dt} (hc : EvT X C L ρ c k ρ1) (h1 : k = true → EvE X C L ρ1 a d ρ2) (h2 : k = false → EvE X C L ρ1 b d ρ2) : EvE X C L ρ (.IfExp c a b pos) d ρ2 := fun σ H S Q q => by
  refine le_E (pe_ifExp pt_tT pe_tE pe_tE) ?_
  refine hc σ H S _ fun H1 S1 f1 => ?_
  cases k with
  | true => rw [if_pos rfl]; exact h1 rfl σ H1 S1 _ fun v H2 S2 f2 r => q v H2 S2 (f1.trans f2) r
  | false => rw [if_neg Bool.false_ne_true]; exact h2 rfl σ H1 S1 _ fun v H2 S2 f2 r => q v H2 S2 (f1.trans f2) r
/-- a value that is True or False, as a test -/
theorem et_val {k : Bool} (h : EvD X C L ρ e (.bool k) ρ1) (he : ∀ whole, isTrue e X.env whole = (do let v ← whole; standAt e.pos; holding [v] (truthy v)) := by intro _; rfl) : EvT X C L ρ e k ρ1 := fun σ H S Q q => by
  refine le_T (pt_val pe_tE he) ?_
  exact h σ H S _ fun v H1 S1 f1 r1 => ⟨k, dp_bool r1, q H1 S1 f1⟩
theorem et_cmp {op : CmpOp} {k : Bool} {r : R2} (ho : OpR X (compareOp op) r) (hm : behindInMarks op b = false) {d1 d2 : Dt} (ha : EvE X C L ρ a d1 ρ1) (hb : EvE X C L ρ1 b d2 ρ2)
    (hr : ∀ x y σ H, SitX X C L ρ2 σ H → RepC X C L H x d1 → RepC X C L H y d2 → ∀ Q : VK, (∀ H2, Same H H2 → Q (.bl k) H2) → r x y H Q) : EvT X C L ρ (.Compare a [op] [b] pos) k ρ2 := fun σ H S Q q => by
  refine le_T (pt_cmpR ho pe_tE pe_tE hm) ?_
  exact ha σ H S _ fun x H1 S1 f1 r1 => hb σ H1 S1 _ fun y H2 S2 f2 r2 => hr x y σ H2 S2 (r1.mono f2) r2 _ fun H3 e3 => ⟨k, rfl, q H3 (S2.grow e3) ((f1.trans f2).trans (Fr.of e3))⟩
theorem et_not {k : Bool} (h : EvT X C L ρ a k ρ1) : EvT X C L ρ (.UnaryOp .Not a pos) (!k) ρ1 := fun σ H S Q q => by
  refine le_T (pt_not pt_tT) ?_
  exact h σ H S _ q
theorem et_and {k1 k2 : Bool} (h1 : EvT X C L ρ a k1 ρ) (h2 : k1 = true → EvT X C L ρ b k2 ρ) : EvT X C L ρ (.BoolOp .And [a, b] pos) (k1 && k2) ρ := fun σ H S Q q => by
  refine le_T (PW.pt (pw_and pt_tT (pw_and1 pt_tT))) ?_
  refine h1 σ H S _ fun H1 S1 f1 => ?_
  cases k1 with
  | true => exact h2 rfl σ H1 S1 _ fun H2 S2 f2 => q H2 S2 (f1.trans f2)
  | false => exact q H1 S1 f1
theorem et_or {k1 k2 : Bool} (h1 : EvT X C L ρ a k1 ρ) (h2 : k1 = false → EvT X C L ρ b k2 ρ) : EvT X C L ρ (.BoolOp .Or [a, b] pos) (k1 || k2) ρ := fun σ H S Q q => by
  refine le_T (PW.pt (pw_or pt_tT (pw_or1 pt_tT))) ?_
  refine h1 σ H S _ fun H1 S1 f1 => ?_
  cases k1 with
  | false => exact h2 rfl σ H1 S1 _ fun H2 S2 f2 => q H2 S2 (f1.trans f2)
  | true => exact q H1 S1 f1
theorem et_and3 {k1 k2 k3 : Bool} (h1 : EvT X C L ρ a k1 ρ) (h2 : k1 = true → EvT X C L ρ b k2 ρ) (h3 : k1 = true → k2 = true → EvT X C L ρ c k3 ρ) : EvT X C L ρ (.BoolOp .And [a, b, c] pos) (k1 && (k2 && k3)) ρ := fun σ H S Q q => by
  refine le_T (PW.pt (pw_and pt_tT (pw_and pt_tT (pw_and1 pt_tT)))) ?_
  refine h1 σ H S _ fun H1 S1 f1 => ?_
  cases k1 with
  | true =>
    rw [if_pos rfl]
    refine h2 rfl σ H1 S1 _ fun H2 S2 f2 => ?_
    cases k2 with
    | true => exact h3 rfl rfl σ H2 S2 _ fun H3 S3 f3 => q H3 S3 ((f1.trans f2).trans f3)
    | false => exact q H2 S2 (f1.trans f2)
  | false => exact q H1 S1 f1
theorem et_or3 {k1 k2 k3 : Bool} (h1 : EvT X C L ρ a k1 ρ) (h2 : k1 = false → EvT X C L ρ b k2 ρ) (h3 : k1 = false → k2 = false → EvT X C L ρ c k3 ρ) : EvT X C L ρ (.BoolOp .Or [a, b, c] pos) (k1 || (k2 || k3)) ρ := fun σ H S Q q => by
  refine le_T (PW.pt (pw_or pt_tT (pw_or pt_tT (pw_or1 pt_tT)))) ?_
  refine h1 σ H S _ fun H1 S1 f1 => ?_
  cases k1 with
  | false =>
    rw [(if_neg Bool.false_ne_true)]
    refine h2 rfl σ H1 S1 _ fun H2 S2 f2 => ?_
    cases k2 with
    | false => exact h3 rfl rfl σ H2 S2 _ fun H3 S3 f3 => q H3 S3 ((f1.trans f2).trans f3)
    | true => exact q H2 S2 (f1.trans f2)
  | true => exact q H1 S1 f1
/-- .. as values -/
theorem ev_not {k : Bool} (h : EvD X C L ρ a (.bool k) ρ1) : EvD X C L ρ (.UnaryOp .Not a pos) (.bool (!k)) ρ1 := fun σ H S Q q => by
  refine le_E (pe_not pe_tE) ?_
  exact h σ H S _ fun v H1 S1 f1 r1 => ⟨k, dp_bool r1, q _ H1 S1 f1 (.bl _)⟩
theorem ev_and {k1 k2 : Bool} (h1 : EvD X C L ρ a (.bool k1) ρ) (h2 : k1 = true → EvD X C L ρ b (.bool k2) ρ) : EvD X C L ρ (.BoolOp .And [a, b] pos) (.bool (k1 && k2)) ρ := fun σ H S Q q => by
  refine le_E (pe_and pe_tE (pe_one pe_tE)) ?_
  refine h1 σ H S _ fun v H1 S1 f1 r1 => ⟨k1, dp_bool r1, ?_⟩
  cases k1 with
  | true => rw [if_pos rfl]; exact h2 rfl σ H1 S1 _ fun v H2 S2 f2 r2 => q v H2 S2 (f1.trans f2) r2
  | false => rw [if_neg Bool.false_ne_true]; exact q _ H1 S1 f1 (.bl _)
theorem ev_or {k1 k2 : Bool} (h1 : EvD X C L ρ a (.bool k1) ρ) (h2 : k1 = false → EvD X C L ρ b (.bool k2) ρ) : EvD X C L ρ (.BoolOp .Or [a, b] pos) (.bool (k1 || k2)) ρ := fun σ H S Q q => by
  refine le_E (pe_or pe_tE (pe_one pe_tE)) ?_
  refine h1 σ H S _ fun v H1 S1 f1 r1 => ⟨k1, dp_bool r1, ?_⟩
  cases k1 with
  | false => rw [if_neg Bool.false_ne_true]; exact h2 rfl σ H1 S1 _ fun v H2 S2 f2 r2 => q v H2 S2 (f1.trans f2) r2
  | true => rw [if_pos rfl]; exact q _ H1 S1 f1 (.bl _)
theorem ev_and3 {k1 k2 k3 : Bool} (h1 : EvD X C L ρ a (.bool k1) ρ) (h2 : k1 = true → EvD X C L ρ b (.bool k2) ρ) (h3 : k1 = true → k2 = true → EvD X C L ρ c (.bool k3) ρ) : EvD X C L ρ (.BoolOp .And [a, b, c] pos) (.bool (k1 && (k2 && k3))) ρ := fun σ H S Q q => by
  refine le_E (pe_and pe_tE (pe_and pe_tE (pe_one pe_tE))) ?_
  refine h1 σ H S _ fun v H1 S1 f1 r1 => ⟨k1, dp_bool r1, ?_⟩
  cases k1 with
  | true =>
    rw [if_pos rfl]
    refine h2 rfl σ H1 S1 _ fun v H2 S2 f2 r2 => ⟨k2, dp_bool r2, ?_⟩
    cases k2 with
    | true => rw [if_pos rfl]; exact h3 rfl rfl σ H2 S2 _ fun v H3 S3 f3 r3 => q v H3 S3 ((f1.trans f2).trans f3) r3
    | false => rw [if_neg Bool.false_ne_true]; exact q _ H2 S2 (f1.trans f2) (.bl _)
  | false => rw [if_neg Bool.false_ne_true]; exact q _ H1 S1 f1 (.bl _)
theorem ev_or3 {k1 k2 k3 : Bool} (h1 : EvD X C L ρ a (.bool k1) ρ) (h2 : k1 = false → EvD X C L ρ b (.bool k2) ρ) (h3 : k1 = false → k2 = false → EvD X C L ρ c (.bool k3) ρ) : EvD X C L ρ (.BoolOp .Or [a, b, c] pos) (.bool (k1 || (k2 || k3))) ρ := fun σ H S Q q => by
  refine le_E (pe_or pe_tE (pe_or pe_tE (pe_one pe_tE))) ?_
  refine h1 σ H S _ fun v H1 S1 f1 r1 => ⟨k1, dp_bool r1, ?_⟩
  cases k1 with
  | false =>
    rw [(if_neg Bool.false_ne_true)]
    refine h2 rfl σ H1 S1 _ fun v H2 S2 f2 r2 => ⟨k2, dp_bool r2, ?_⟩
    cases k2 with
    | false => rw [if_neg Bool.false_ne_true]; exact h3 rfl rfl σ H2 S2 _ fun v H3 S3 f3 r3 => q v H3 S3 ((f1.trans f2).trans f3) r3
    | true => rw [if_pos rfl]; exact q _ H2 S2 (f1.trans f2) (.bl _)
  | true => rw [if_pos rfl]; exact q _ H1 S1 f1 (.bl _)
/-- a list as a test -/
theorem et_list {ds : List PyData} (h : EvD X C L ρ e (.list ds) ρ1) (he : ∀ whole, isTrue e X.env whole = (do let v ← whole; standAt e.pos; holding [v] (truthy v)) := by intro _; rfl) : EvT X C L ρ e (!ds.isEmpty) ρ1 := fun σ H S Q q => by
  refine le_T (pt_truth pe_tE he) ?_
  refine h σ H S _ fun v H1 S1 f1 r1 => ?_
  obtain ⟨p1, vs, rfl, h1, a1⟩ := dp_list r1
  refine ⟨!ds.isEmpty, .inl ⟨vs, sqL_off h1, ?_⟩, q H1 S1 f1⟩
  cases a1 <;> rfl
end
end Tk
end

section
namespace Tk
open L2 PyProof.Rows PySem PySem.Spec

/-! ### statements: canonical readings -/
def tS (X : Cx) (st : Stmt) : TS := fun D σ H => ∀ (pins : List (Addr × Obj)) (s : Shared), Inv X pins σ H s → wpAny (model X.prog X.w) X.A (exec st X.env) (SP X pins D) X.xe s
def tSs (X : Cx) (st : List Stmt) : TS := fun D σ H => ∀ (pins : List (Addr × Obj)) (s : Shared), Inv X pins σ H s → wpAny (model X.prog X.w) X.A (execs st X.env) (SP X pins D) X.xe s
def tGt (X : Cx) (tg : Expr) : TG := fun v σ H Q => ∀ (pins : List (Addr × Obj)) (s : Shared) (u : Value), Inv X pins σ H s → RelV v u → wpAny (model X.prog X.w) X.A (assign tg X.env u) (fun _ s' => ∃ σ' H', Inv X pins σ' H' s' ∧ Q σ' H') X.xe s
def tGs (X : Cx) (ts : List Expr) : TGs := fun vs σ H Q => ∀ (pins : List (Addr × Obj)) (s : Shared) (us : List Value), Inv X pins σ H s → Vals vs us → wpAny (model X.prog X.w) X.A (assignInOrder ((assignEach ts X.env).map (·.2)) us) (fun _ s' => ∃ σ' H', Inv X pins σ' H' s' ∧ Q σ' H') X.xe s
def tIt (X : Cx) (tg iter : Expr) : TI := fun σ H R => ∀ (pins : List (Addr × Obj)) (s : Shared), Inv X pins σ H s → wpAny (model X.prog X.w) X.A (eval iter X.env) (fun v s1 => wpAny (model X.prog X.w) X.A (pyIter v) (PIE X pins σ tg R) X.xe s1) X.xe s
theorem ps_tS {X : Cx} {st : Stmt} : PS X st (tS X st) := ⟨fun pins s σ H D I h => h pins s I⟩
theorem pss_tSs {X : Cx} {st : List Stmt} : PSs X st (tSs X st) := ⟨fun pins s σ H D I h => h pins s I⟩
theorem pg_tGt {X : Cx} {tg : Expr} : PG X tg (tGt X tg) := ⟨fun pins s σ H v u Q I r h => h pins s u I r⟩
theorem pgs_tGs {X : Cx} {ts : List Expr} : PGs X ts (tGs X ts) := ⟨fun pins s σ H vs us Q I r h => h pins s us I r⟩
theorem pi_tIt {X : Cx} {tg iter : Expr} : PI X tg iter (tIt X tg iter) := ⟨fun pins s σ H R I h => h pins s I⟩
theorem le_S {X : Cx} {st : Stmt} {t : TS} (h : PS X st t) {D : Ends} {σ : L2.St} {H : Hp} (q : t D σ H) : tS X st D σ H := fun pins s I => h.run pins s σ H D I q
theorem le_Ss {X : Cx} {st : List Stmt} {t : TS} (h : PSs X st t) {D : Ends} {σ : L2.St} {H : Hp} (q : t D σ H) : tSs X st D σ H := fun pins s I => h.run pins s σ H D I q
theorem le_G {X : Cx} {tg : Expr} {t : TG} (h : PG X tg t) {v : V} {σ : L2.St} {H : Hp} {Q : L2.St → Hp → Prop} (q : t v σ H Q) : tGt X tg v σ H Q := fun pins s u I r => h.run pins s σ H v u Q I r q
theorem le_Gs {X : Cx} {ts : List Expr} {t : TGs} (h : PGs X ts t) {vs : List V} {σ : L2.St} {H : Hp} {Q : L2.St → Hp → Prop} (q : t vs σ H Q) : tGs X ts vs σ H Q := fun pins s us I r => h.run pins s σ H vs us Q I r q
theorem le_I {X : Cx} {tg iter : Expr} {t : TI} (h : PI X tg iter t) {σ : L2.St} {H : Hp} {R : It → Hp → Prop} (q : t σ H R) : tIt X tg iter σ H R := fun pins s I => h.run pins s σ H R I q

section
variable {X : Cx} {C : Cc} {L : List Addr} {ρ ρ1 ρ2 ρ3 : List Slot} {e a b c : Expr} {es : List Expr} {d d1 d2 : PyData} {pos : Pos} {D : Ends} {σ : L2.St} {H : Hp} {st : Stmt} {rest sa sb : List Stmt}

theorem go_nil (h : D.nx σ H) : tSs X [] D σ H := le_Ss pss_nil h
theorem go_cons (h : tS X st { D with nx := tSs X rest D } σ H) : tSs X (st :: rest) D σ H := le_Ss (pss_cons ps_tS pss_tSs) h
theorem go_one (h : tS X st D σ H) : tSs X [st] D σ H := le_Ss (pss_one ps_tS) h
theorem go_set (i : Nat) {x : Str} {p : Pos} {dt : Dt} (S : SitX X C L ρ σ H) (he : EvE X C L ρ e dt ρ1) (k : ∀ σ1 H1, SitX X C L (ρ1.set i (.val dt)) σ1 H1 → D.nx σ1 H1)
    (hN : X.N.Nodup) (hi : X.N[i]? = some x := by rfl) (hn : i < C.n := by exact Nat.le_of_ble_eq_true rfl) (hx : Loc X.env.scope x := by first | exact Or.inl rfl | exact Or.inr rfl) (hs : swapsWith e (some (.Name x p)) pos.line X.env = pure false := by rfl)
    (hf : X.fn x = true ∨ X.env.scope.names.lookup x = some .local := by first | exact .inl rfl | exact .inr rfl) : tS X (.Assign [.Name x p] e pos) D σ H := by
  refine le_S (ps_set hN hi hx pe_tE hs hf) ?_
  exact he σ H S _ fun v H1 S1 f1 r1 => k _ H1 (S1.set hn r1)
theorem go_ret {dt : Dt} (S : SitX X C L ρ σ H) (he : EvE X C L ρ e dt ρ1) (k : ∀ v H1, SitX X C L ρ1 σ H1 → RepC X C L H1 v dt → D.rt v H1) : tS X (.Return (some e) pos) D σ H := by
  refine le_S (ps_ret pe_tE) ?_
  exact he σ H S _ fun v H1 S1 f1 r1 => k v H1 S1 r1
theorem go_if {k : Bool} (S : SitX X C L ρ σ H) (hc : EvT X C L ρ c k ρ1) (h1 : k = true → ∀ H1, SitX X C L ρ1 σ H1 → tSs X sa D σ H1) (h2 : k = false → ∀ H1, SitX X C L ρ1 σ H1 → tSs X sb D σ H1) : tS X (.If c sa sb pos) D σ H := by
  refine le_S (ps_if pt_tT pss_tSs pss_tSs) ?_
  refine hc σ H S _ fun H1 S1 f1 => ?_
  cases k with
  | true => rw [if_pos rfl]; exact h1 rfl H1 S1
  | false => rw [if_neg Bool.false_ne_true]; exact h2 rfl H1 S1
theorem go_cont (h : D.ct σ H) : tS X (.Continue pos) D σ H := le_S ps_continue h
/-- name += int -/
theorem go_aug (i : Nat) {x : Str} {p : Pos} {m k : Int} (S : SitX X C L ρ σ H) (hr : ρ[i]? = some (.py (.int m)) := by rfl) (he : EvD X C L ρ e (.int k) ρ1) (kk : ∀ σ1 H1, SitX X C L (ρ1.set i (.py (.int (m + k)))) σ1 H1 → D.nx σ1 H1)
    (hN : X.N.Nodup) (hi : X.N[i]? = some x := by rfl) (hn : i < C.n := by exact Nat.le_of_ble_eq_true rfl) (hx : Loc X.env.scope x := by first | exact Or.inl rfl | exact Or.inr rfl)
    (hf : X.fn x = true ∨ X.env.scope.names.lookup x = some .local := by first | exact .inl rfl | exact .inr rfl) : tS X (.AugAssign (.Name x p) .Add e pos) D σ H := by
  refine le_S (ps_aug hN hi hx pe_tE ip_add hf) ?_
  obtain ⟨v, e1, r⟩ := S.slots i _ hr
  refine ⟨v, e1, ?_⟩
  exact he σ H S _ fun y H1 S1 f1 r1 => ⟨m, k, dp_int r, dp_int r1, kk _ H1 (S1.set hn (.int _))⟩

/-! ### targets -/
/-- the target tg takes data d: the slots is may change -/
def Bd (X : Cx) (C : Cc) (L : List Addr) (is : List Nat) (ρ : List Slot) (tg : Expr) (d : PyData) (ρ' : List Slot) : Prop :=
  ∀ v σ H, SitX X C L ρ σ H → Dp X.K (off H (C.M L)) v d → ∀ Q : L2.St → Hp → Prop, (∀ σ', SitX X C L ρ' σ' H → (∀ j, j ∉ is → σ'[j]? = σ[j]?) → Q σ' H) → tGt X tg v σ H Q
def Bds (X : Cx) (C : Cc) (L : List Addr) (is : List Nat) (ρ : List Slot) (ts : List Expr) (ds : List PyData) (ρ' : List Slot) : Prop :=
  ∀ vs σ H, SitX X C L ρ σ H → DpAll X.K (off H (C.M L)) vs ds → ∀ Q : L2.St → Hp → Prop, (∀ σ', SitX X C L ρ' σ' H → (∀ j, j ∉ is → σ'[j]? = σ[j]?) → Q σ' H) → tGs X ts vs σ H Q
theorem bd_name (i : Nat) {x : Str} (hN : X.N.Nodup) (hi : X.N[i]? = some x := by rfl) (hn : i < C.n := by exact Nat.le_of_ble_eq_true rfl) (hx : Loc X.env.scope x := by first | exact Or.inl rfl | exact Or.inr rfl)
    (hf : X.fn x = true ∨ X.env.scope.names.lookup x = some .local := by first | exact .inl rfl | exact .inr rfl) : Bd X C L [i] ρ (.Name x pos) d (ρ.set i (.py d)) := fun v σ H S r Q q => by
  refine le_G (pg_name hN hi hx hf) ?_
  exact q _ (S.set (d := .py d) hn r) fun j hj => List.getElem?_set_ne fun z => hj (by simp [z])
theorem bds_nil : Bds X C L [] ρ [] [] ρ := fun vs σ H S r Q q => by
  cases r
  exact le_Gs pgs_nil ⟨rfl, q σ S fun _ _ => rfl⟩
theorem bds_cons {is js : List Nat} {tg : Expr} {ts : List Expr} {ds : List PyData} (h : Bd X C L is ρ tg d ρ1) (hr : Bds X C L js ρ1 ts ds ρ2)
    (hs : (assignEach (tg :: ts) X.env).map (·.2) = assign tg X.env :: (assignEach ts X.env).map (·.2) := by rfl) : Bds X C L (is ++ js) ρ (tg :: ts) (d :: ds) ρ2 := fun vs σ H S r Q q => by
  cases r with
  | cons r1 r2 =>
    refine le_Gs (pgs_cons pg_tGt pgs_tGs hs) ⟨_, _, rfl, ?_⟩
    refine h _ σ H S r1 _ fun σ1 S1 k1 => hr _ σ1 H S1 r2 _ fun σ2 S2 k2 => q σ2 S2 fun j hj => ?_
    rw [k2 j fun z => hj (List.mem_append_right _ z), k1 j fun z => hj (List.mem_append_left _ z)]
theorem bd_tup {is : List Nat} {ts : List Expr} {ds : List PyData} {k : Nat} (hc : X.calm = true) (h : Bds X C L is ρ ts ds ρ1) (hl : ds.length = (assignEach ts X.env).length := by rfl) (hst : (assignEach ts X.env).findIdx? (·.1) = none := by rfl) :
    Bd X C L is ρ (.Tuple ts k pos) (.tuple ds) ρ1 := fun v σ H S r Q q => by
  refine le_G (pg_tup hc pgs_tGs rfl hst) ?_
  cases r with
  | tup h1 h2 => exact ⟨_, _, rfl, sqT_off h1, by rw [h2.length, hl], h _ σ H S h2 Q q⟩
/-- a, b = e -/
theorem go_unpack {is : List Nat} {tg : Expr} (S : SitX X C L ρ σ H) (he : EvD X C L ρ e d ρ1) (hb : Bd X C L is ρ1 tg d ρ2) (k : ∀ σ1 H1, SitX X C L ρ2 σ1 H1 → D.nx σ1 H1)
    (hs : swapsWithSole [tg] e pos.line X.env = pure false := by rfl) (hw : swappedStores [tg] e X.env = pure none := by rfl)
    (h1 : (assignEach [tg] X.env).map (·.2) = [assign tg X.env] := by rfl) : tS X (.Assign [tg] e pos) D σ H := by
  refine le_S (ps_asg pe_tE pg_tGt hs hw h1) ?_
  exact he σ H S _ fun v H1 S1 f1 r1 => hb v σ H1 S1 r1 _ fun σ1 S2 _ => k σ1 H1 S2

/-! ### lists of one's own -/
theorem slot_new {K : PySem.W.Frag} {P : Program} {w : World} {σ : L2.St} {H : Hp} {p : Addr} (S : Sit K P w C L ρ σ H) (hp : H p = none) : ∀ (j : Nat) (t : Slot), ρ[j]? = some t → t.addr ≠ some p := fun j t h z => by
  have x := S.slots j t h
  cases t with
  | any => cases z
  | val d => cases z
  | ml q ds =>
    cases z
    obtain ⟨_, m, _⟩ := x
    exact S.dom p m hp
  | md q ds =>
    cases z
    obtain ⟨_, m, _⟩ := x
    exact S.dom p m hp
  | hid q ds =>
    cases z
    obtain ⟨m, _⟩ := x
    exact S.dom p m hp
/-- name = [] -/
theorem go_newL (i : Nat) {x : Str} {p pos' : Pos} (S : SitX X C L ρ σ H) (k : ∀ q σ1 H1, SitX X C (q :: L) (ρ.set i (.ml q [])) σ1 H1 → D.nx σ1 H1)
    (hN : X.N.Nodup) (hi : X.N[i]? = some x := by rfl) (hn : i < C.n := by exact Nat.le_of_ble_eq_true rfl) (hx : Loc X.env.scope x := by first | exact Or.inl rfl | exact Or.inr rfl) (hs : swapsWith (.List [] pos') (some (.Name x p)) pos.line X.env = pure false := by rfl)
    (hf : X.fn x = true ∨ X.env.scope.names.lookup x = some .local := by first | exact .inl rfl | exact .inr rfl) : tS X (.Assign [.Name x p] (.List [] pos') pos) D σ H := by
  refine le_S (ps_set hN hi hx (pe_lst pa_nil) hs hf) ?_
  refine ⟨Nat.zero_le _, fun q hq => k q _ _ ?_⟩
  refine (S.new hq).put (s := .ml q []) ⟨rfl, by simp, [], upd_same, .nil⟩ hn fun p' e j t ne h => ?_
  cases e
  exact slot_new S hq j t h
/-- name.append(e) -/
theorem go_app (i : Nat) {x : Str} {p p2 p3 : Pos} {q : Addr} {ds : List PyData} (S : SitX X C L ρ σ H) (hr : ρ1[i]? = some (.ml q ds) := by rfl) (hr0 : ∃ ds0, ρ[i]? = some (.ml q ds0) := by exact ⟨_, rfl⟩) (hq : q ∈ L := by simp) (he : EvD X C L ρ e d ρ1) (hz : ds.length < sizeLine)
    (k : ∀ H1, SitX X C L (ρ1.set i (.ml q (ds ++ [d]))) σ H1 → D.nx σ H1)
    (hi : X.N[i]? = some x := by rfl) (hv : Vis X.env.scope x := by first | exact Or.inl rfl | exact Or.inr (Or.inl rfl) | exact Or.inr (Or.inr rfl))
    (hd : (x == ("__debug__" : Str)) = false := by decide)
    (hcd : (x == ("__classdict__" : Str)) = false := by decide)
    (hbase : attributeBase (.Name x p) "append" X.env (eval (.Name x p) X.env) = eval (.Name x p) X.env := by rfl)
    (hfew : ((backTo pos (starEach [e] X.env)).all (fun x => !x.1) && (backToKw pos (keywordEach [] X.env)).all (fun x => x.1.isSome)
      && decide ([e].length + ([] : List Keyword).length + (if ([] : List Keyword).isEmpty then 0 else 1) < 30)) = true := by rfl)
    (hline : (p2.endLine == pos.line) = true := by rfl) (hst : starEach [e] X.env = (false, eval e X.env) :: starEach [] X.env := by rfl) (hpl : (backTo pos (starEach [] X.env)).any (·.1) = false := by rfl)
    (hsw : swapsWith (.Call (.Attribute (.Name x p) "append" p2) [e] [] pos) none p3.line X.env = pure false := by rfl) :
    tS X (.Expr (.Call (.Attribute (.Name x p) "append" p2) [e] [] pos) p3) D σ H := by
  refine le_S (ps_expr (pe_bm PySem.F.plainAttrs_list PySem.F.slot_list_append PySem.F.type_list_append mt_append (pe_var hi hv hd hcd) (pa_cons pe_tE pa_nil hst) hbase hfew hline hst hpl) hsw) ?_
  obtain ⟨ds0, hr0⟩ := hr0
  obtain ⟨e1, m1, vs0, h1, a1⟩ := S.slots i _ hr0
  refine ⟨_, e1, .inl ⟨rfl, vs0, SqL.of h1⟩, ?_⟩
  refine he σ H S _ fun v H1 S1 f1 r1 => ?_
  obtain ⟨e2, m2, vs, h2, a2⟩ := S1.slots i _ hr
  refine ⟨q, vs, v, rfl, rfl, h2, by rw [a2.length]; exact hz, k _ ?_⟩
  have hi' : i < ρ1.length := (List.getElem?_eq_some_iff.mp hr).1
  refine S1.write hq (fun j s h => ?_) fun j1 j2 s t h1 h2 b1 b2 => ?_
  · rcases set_get h with ⟨rfl, rfl⟩ | ⟨ne, h'⟩
    · refine .inl ⟨rfl, e2, m2, vs ++ [v], upd_same, ?_⟩
      rw [off_upd m2]
      exact a2.snoc r1
    · exact .inr ⟨fun z => ne (S1.inj i j _ s q hr h' rfl z), h'⟩
  · rcases set_get h1 with ⟨rfl, rfl⟩ | ⟨n1, h1'⟩
    · rcases set_get h2 with ⟨rfl, rfl⟩ | ⟨n2, h2'⟩
      · rfl
      · exact S1.inj _ _ _ t q hr h2' rfl b2
    · rcases set_get h2 with ⟨rfl, rfl⟩ | ⟨n2, h2'⟩
      · exact S1.inj _ _ s _ q h1' hr b1 rfl
      · exact S1.inj _ _ s t q h1' h2' b1 b2
/-- name[j] = e -/
theorem go_setItem (i : Nat) {x : Str} {p p2 : Pos} {q : Addr} {ds : List PyData} {j : Nat} {z : Int} {ix : Expr} (S : SitX X C L ρ σ H) (hr : ρ2[i]? = some (.ml q ds) := by rfl) (hr1 : ∃ ds1, ρ1[i]? = some (.ml q ds1) := by exact ⟨_, rfl⟩) (hq : q ∈ L := by simp)
    (he : EvD X C L ρ e d ρ1) (hix : EvD X C L ρ1 ix (.int z) ρ2) (hz : z = (j : Int)) (hj : j < ds.length) (k : ∀ H1, SitX X C L (ρ2.set i (.ml q (ds.set j d))) σ H1 → D.nx σ H1)
    (hi : X.N[i]? = some x := by rfl) (hv : Vis X.env.scope x := by first | exact Or.inl rfl | exact Or.inr (Or.inl rfl) | exact Or.inr (Or.inr rfl))
    (hd : (x == ("__debug__" : Str)) = false := by decide)
    (hcd : (x == ("__classdict__" : Str)) = false := by decide)
    (ha : ∀ v, assign (.Subscript (.Name x p) ix p2) X.env v = (do
      let ov ← holding [v] (eval (.Name x p) X.env)
      let iv ← holding [v, ov] (eval ix X.env)
      standAt p2
      PySem.holding [v, ov, iv] (setItem ov iv v)
      release [v, ov, iv] []) := by intro _; rfl)
    (hs : swapsWithSole [.Subscript (.Name x p) ix p2] e pos.line X.env = pure false := by rfl) (hw : swappedStores [.Subscript (.Name x p) ix p2] e X.env = pure none := by rfl)
    (h1 : (assignEach [.Subscript (.Name x p) ix p2] X.env).map (·.2) = [assign (.Subscript (.Name x p) ix p2) X.env] := by rfl) :
    tS X (.Assign [.Subscript (.Name x p) ix p2] e pos) D σ H := by
  refine le_S (ps_asg pe_tE (pg_sub (pe_var hi hv hd hcd) pe_tE set_list ha) hs hw h1) ?_
  obtain ⟨ds1, hr1⟩ := hr1
  refine he σ H S _ fun v H1 S1 f1 r1 => ?_
  obtain ⟨e1, m1, vs1, g1, a1⟩ := S1.slots i _ hr1
  refine ⟨_, e1, ?_⟩
  refine hix σ H1 S1 _ fun y H2 S2 f2 r2 => ?_
  obtain ⟨e2, m2, vs, h2, a2⟩ := S2.slots i _ hr
  have hj' : j < vs.length := by rw [a2.length]; exact hj
  refine ⟨q, vs, z, j, rfl, dp_int r2, h2, ?_, k _ ?_⟩
  · unfold ixN
    rw [if_pos (by omega),if_pos (by omega)]
    simp [hz]
  refine S2.write hq (fun j' s h => ?_) fun j1 j2 s t h1 h2 b1 b2 => ?_
  · rcases set_get h with ⟨rfl, rfl⟩ | ⟨ne, h'⟩
    · refine .inl ⟨rfl, e2, m2, vs.set j v, upd_same, ?_⟩
      rw [off_upd m2]
      exact DpAll.set (r1.mono f2) j a2
    · exact .inr ⟨fun z => ne (S2.inj i j' _ s q hr h' rfl z), h'⟩
  · rcases set_get h1 with ⟨rfl, rfl⟩ | ⟨n1, h1'⟩
    · rcases set_get h2 with ⟨rfl, rfl⟩ | ⟨n2, h2'⟩
      · rfl
      · exact S2.inj _ _ _ t q hr h2' rfl b2
    · rcases set_get h2 with ⟨rfl, rfl⟩ | ⟨n2, h2'⟩
      · exact S2.inj _ _ s _ q h1' hr b1 rfl
      · exact S2.inj _ _ s t q h1' h2' b1 b2
/-- the newest list of one's own stands still from now on -/
theorem seal_ml {K : PySem.W.Frag} {P : Program} {w : World} (i : Nat) {q : Addr} {ds : List PyData} (S : Sit K P w C (q :: L) ρ σ H) (hr : ρ[i]? = some (.ml q ds) := by rfl) : Sit K P w C L (ρ.set i (.py (.list ds))) σ H := by
  obtain ⟨e2, m2, vs, h2, a2⟩ := S.slots i _ hr
  refine S.seal fun j s h => ?_
  rcases set_get h with ⟨rfl, rfl⟩ | ⟨ne, h'⟩
  · refine .inr ⟨rfl, .ref q, e2, ?_⟩
    refine .lst (SqL.of (off_some.mpr ⟨fun m => ?_, h2⟩)) (a2.mono (off_sub fun a h => List.mem_cons_of_mem _ h))
    rcases List.mem_append.mp m with m | m
    · exact (List.nodup_cons.mp S.nd).1 m
    · exact S.sep q (List.mem_cons_self ..) m
  · exact .inl ⟨fun z => ne (S.inj i j _ s q hr h' rfl z), h'⟩
end
end Tk
end

section
namespace Tk
open L2 PyProof.Rows PySem PySem.Spec

/-! ### what is walked -/
/-- the iterator J gives these data one by one as long as G stands -/
def Yl (K : PySem.W.Frag) (J : It) (items : List PyData) (G : Hp) : Prop :=
  ∀ (M : List Addr) (H2 : Hp), (∀ p ∈ M, H2 p ≠ none) → Same G (off H2 M) → ∀ i : Nat,
    (∀ d, items[i]? = some d → J.go i H2 ∧ ∀ x H3, J.yld i H2 x H3 → Same H2 H3 ∧ Dp K (off H3 M) x d) ∧ (items.length ≤ i → J.stop i H2)
def IterS (X : Cx) (C : Cc) (L : List Addr) (ρ : List Slot) (tg iter : Expr) (items : List PyData) (ρ' : List Slot) : Prop :=
  ∀ σ H, SitX X C L ρ σ H → ∀ R : It → Hp → Prop, (∀ J H1, SitX X C L ρ' σ H1 → Fr (C.M L) H H1 → Yl X.K J items (off H1 (C.M L)) → R J H1) → tIt X tg iter σ H R
abbrev Cc.fact (C : Cc) (φ : Hp → Prop) : Cc := ⟨C.M0, C.H0, C.T, φ :: C.F, C.n⟩
section
variable {K : PySem.W.Frag} {P : Program} {w : World} {C : Cc} {L : List Addr} {ρ : List Slot} {σ : L2.St} {H : Hp}
theorem Sit.fact {G : Hp} (S : Sit K P w C L ρ σ H) (h : Same G (off H (C.M L))) : Sit K P w (C.fact (Same G)) L ρ σ H :=
  ⟨S.ex, S.own, S.dom, S.sep, S.nd, fun φ hφ => by
    rcases List.mem_cons.mp hφ with rfl | hφ
    · exact ⟨fun G1 G2 e q => Same.trans q e, h⟩
    · exact S.facts φ hφ, S.len, S.slots, S.inj⟩
theorem Sit.unfact {φ : Hp → Prop} (S : Sit K P w (C.fact φ) L ρ σ H) : Sit K P w C L ρ σ H :=
  ⟨S.ex, S.own, S.dom, S.sep, S.nd, fun ψ hψ => S.facts ψ (List.mem_cons_of_mem _ hψ), S.len, S.slots, S.inj⟩
theorem Sit.known {φ : Hp → Prop} (S : Sit K P w (C.fact φ) L ρ σ H) : φ (off H (C.M L)) := (S.facts φ List.mem_cons_self).2
end
section
variable {X : Cx} {C : Cc} {L : List Addr} {ρ ρ1 ρ2 ρ3 : List Slot} {e a b c tg iter : Expr} {es : List Expr} {d d1 d2 : PyData} {pos : Pos} {D : Ends} {σ : L2.St} {H : Hp} {body : List Stmt} {items : List PyData}

theorem yl_list {K : PySem.W.Frag} {a : Addr} {vs : List V} {ds : List PyData} {G : Hp} (h : SqL K G a vs) (ha : DpAll K G vs ds) : Yl K (Itl K a) ds G := fun M H2 hM e i => by
  have hq : SqL K H2 a vs := sqL_off (Same.seq e h)
  refine ⟨fun d hd => ?_, fun hl => ⟨vs, hq, by rw [ha.length]; exact hl⟩⟩
  obtain ⟨v, hv, r⟩ := ha.at hd
  refine ⟨⟨vs, v, hq, hv⟩, fun x H3 hy => ?_⟩
  obtain ⟨rfl, hx⟩ := hy
  have : vs[i]? = some x := hx vs hq
  rw [hv] at this
  cases this
  exact ⟨Same.refl _, r.mono e⟩
theorem yl_tup {K : PySem.W.Frag} {a : Addr} {vs : List V} {ds : List PyData} {G : Hp} (h : SqT K G a vs) (ha : DpAll K G vs ds) : Yl K (Itt K a) ds G := fun M H2 hM e i => by
  have hq : SqT K H2 a vs := sqT_off (seqT_mono e h)
  refine ⟨fun d hd => ?_, fun hl => ⟨vs, hq, by rw [ha.length]; exact hl⟩⟩
  obtain ⟨v, hv, r⟩ := ha.at hd
  refine ⟨⟨vs, v, hq, hv⟩, fun x H3 hy => ?_⟩
  obtain ⟨rfl, hx⟩ := hy
  have : vs[i]? = some x := hx vs hq
  rw [hv] at this
  cases this
  exact ⟨Same.refl _, r.mono e⟩
/-- n numbers, from lo on -/
def rgD (lo : Int) (n : Nat) : List PyData := (List.range n).map fun i => .int (lo + (i : Nat))
theorem rgD_len (lo : Int) (n : Nat) : (rgD lo n).length = n := by unfold rgD; rw [List.length_map, List.length_range]
theorem rgD_at {lo : Int} {n i : Nat} {d : PyData} (h : (rgD lo n)[i]? = some d) : i < n ∧ d = .int (lo + (i : Nat)) := by
  unfold rgD at h
  rw [List.getElem?_map] at h
  cases q : (List.range n)[i]? with
  | none => rw [q] at h; cases h
  | some j =>
    rw [q] at h
    obtain ⟨h1, h2⟩ := List.getElem?_eq_some_iff.mp q
    rw [List.getElem_range] at h2
    subst h2
    rw [List.length_range] at h1
    exact ⟨h1, (Option.some.inj h).symm⟩
theorem yl_range {K : PySem.W.Frag} {lo : Int} {n : Nat} {G : Hp} : Yl K (Itr lo n) (rgD lo n) G := fun M H2 hM e i => by
  refine ⟨fun d hd => ?_, fun hl => ?_⟩
  · obtain ⟨h1, rfl⟩ := rgD_at hd
    refine ⟨h1, fun x H3 hy => ?_⟩
    obtain ⟨rfl, rfl⟩ := hy
    exact ⟨Same.refl _, .int _⟩
  · rw [rgD_len] at hl
    exact hl
theorem yl_rev {K : PySem.W.Frag} {a : Addr} {vs : List V} {ds : List PyData} {G : Hp} (h : SqL K G a vs) (ha : DpAll K G vs ds) : Yl K (Itv K a vs.length) ds.reverse G := fun M H2 hM e i => by
  have hq : SqL K H2 a vs := sqL_off (Same.seq e h)
  have hl := ha.length
  refine ⟨fun d hd => ?_, fun hl' => by rw [List.length_reverse] at hl'; show vs.length ≤ i; omega⟩
  have hi : i < ds.length := by
    have := (List.getElem?_eq_some_iff.mp hd).1
    rw [List.length_reverse] at this
    exact this
  rw [List.getElem?_reverse hi] at hd
  obtain ⟨v, hv, r⟩ := ha.at hd
  have e1 : vs.length - 1 - i = ds.length - 1 - i := by rw [hl]
  refine ⟨⟨by omega, vs, v, hq, by rw [e1]; exact hv⟩, fun x H3 hy => ?_⟩
  obtain ⟨rfl, hx⟩ := hy
  have : vs[vs.length - 1 - i]? = some x := hx vs hq
  rw [e1, hv] at this
  cases this
  exact ⟨Same.refl _, r.mono e⟩

/-! ### sources -/
theorem it_list {tg : Expr} {ds : List PyData} (h : EvD X C L ρ e (.list ds) ρ1) : IterS X C L ρ tg e ds ρ1 := fun σ H S R q => by
  refine le_I (pi_list pe_tE) ?_
  refine h σ H S _ fun v H1 S1 f1 r1 => ?_
  obtain ⟨a, vs, rfl, h1, a1⟩ := dp_list r1
  exact ⟨a, rfl, ⟨vs, sqL_off h1⟩, q _ H1 S1 f1 (yl_list h1 a1)⟩
theorem it_tup {tg : Expr} {ds : List PyData} (h : EvD X C L ρ e (.tuple ds) ρ1) : IterS X C L ρ tg e ds ρ1 := fun σ H S R q => by
  refine le_I (pi_tup pe_tE) ?_
  refine h σ H S _ fun v H1 S1 f1 r1 => ?_
  obtain ⟨a, vs, rfl, h1, a1⟩ := dp_tup r1
  exact ⟨a, rfl, ⟨vs, sqT_off h1⟩, q _ H1 S1 f1 (yl_tup h1 a1)⟩
theorem it_range1 {tg : Expr} {p : Pos} {n : Int} (hg : Gl X "range") (hm : X.mg "range" = none) (h : EvD X C L ρ e (.int n) ρ1) (h1 : -(2 ^ 62) ≤ n) (h2 : n < 2 ^ 62) (hs : starEach [e] X.env = [(false, eval e X.env)] := by rfl) : IterS X C L ρ tg (.Call (.Name "range" p) [e] [] pos) (rgD 0 n.toNat) ρ1 := fun σ H S R q => by
  refine le_I (pi_range1 hg hm (pa_cons pe_tE pa_nil hs) hs) ?_
  exact h σ H S _ fun v H1 S1 f1 r1 => ⟨n, by rw [dp_int r1], h1, h2, q _ H1 S1 f1 yl_range⟩
theorem it_range2 {tg : Expr} {p : Pos} {m n : Int} (hg : Gl X "range") (hm : X.mg "range" = none) (ha : EvD X C L ρ a (.int m) ρ1) (hb : EvD X C L ρ1 b (.int n) ρ2) (hb4 : -(2 ^ 62) ≤ m ∧ m < 2 ^ 62 ∧ -(2 ^ 62) ≤ n ∧ n < 2 ^ 62)
    (hs : starEach [a, b] X.env = [(false, eval a X.env), (false, eval b X.env)] := by rfl) (hs2 : starEach [b] X.env = [(false, eval b X.env)] := by rfl) : IterS X C L ρ tg (.Call (.Name "range" p) [a, b] [] pos) (rgD m (n - m).toNat) ρ2 := fun σ H S R q => by
  refine le_I (pi_range2 hg hm (pa_cons pe_tE (pa_cons pe_tE pa_nil hs2) (by rw [hs, hs2])) hs hs2) ?_
  exact ha σ H S _ fun v H1 S1 f1 r1 => hb σ H1 S1 _ fun u H2 S2 f2 r2 => ⟨m, n, by rw [dp_int r1, dp_int r2], hb4, q _ H2 S2 (f1.trans f2) yl_range⟩
theorem it_rev {tg : Expr} {p : Pos} {ds : List PyData} (hg : Gl X "reversed") (hm : X.mg "reversed" = none) (h : EvD X C L ρ e (.list ds) ρ1) (hs : starEach [e] X.env = [(false, eval e X.env)] := by rfl) : IterS X C L ρ tg (.Call (.Name "reversed" p) [e] [] pos) ds.reverse ρ1 := fun σ H S R q => by
  refine le_I (pi_reversed hg hm (pa_cons pe_tE pa_nil hs) hs) ?_
  refine h σ H S _ fun v H1 S1 f1 r1 => ?_
  obtain ⟨a, vs, rfl, h1, a1⟩ := dp_list r1
  exact ⟨a, vs, rfl, sqL_off h1, q _ H1 S1 f1 (yl_rev h1 a1)⟩
/-- enumerate(list): (i, item) -/
def enD (ds : List PyData) : List PyData := (ds.zipIdx).map fun p => .tuple [.int (p.2 : Nat), p.1]
theorem enD_len (ds : List PyData) : (enD ds).length = ds.length := by unfold enD; rw [List.length_map, List.length_zipIdx]
theorem enD_at {ds : List PyData} {i : Nat} {d : PyData} (h : (enD ds)[i]? = some d) : ∃ x, ds[i]? = some x ∧ d = .tuple [.int (i : Nat), x] := by
  unfold enD at h
  rw [List.getElem?_map, List.getElem?_zipIdx] at h
  cases q : ds[i]? with
  | none => rw [q] at h; cases h
  | some x =>
    rw [q] at h
    refine ⟨x, rfl, ?_⟩
    have := (Option.some.inj h).symm
    simpa using this
theorem enD_get {ds : List PyData} {i : Nat} {x : PyData} (h : ds[i]? = some x) : (enD ds)[i]? = some (.tuple [.int (i : Nat), x]) := by
  unfold enD
  rw [List.getElem?_map, List.getElem?_zipIdx, h]
  simp
theorem new_out {M : List Addr} {H : Hp} {T : Addr} (hM : ∀ p ∈ M, H p ≠ none) (hT : H T = none) : T ∉ M := fun m => hM T m hT
theorem yl_enum {K : PySem.W.Frag} {a : Addr} {vs : List V} {ds : List PyData} {G : Hp} (h : SqL K G a vs) (ha : DpAll K G vs ds) : Yl K (Ite K a) (enD ds) G := fun M H2 hM e i => by
  have hq : SqL K H2 a vs := sqL_off (Same.seq e h)
  refine ⟨fun d hd => ?_, fun hl => ⟨vs, hq, by rw [ha.length, ← enD_len]; exact hl⟩⟩
  obtain ⟨x, hx, rfl⟩ := enD_at hd
  obtain ⟨v, hv, r⟩ := ha.at hx
  refine ⟨⟨vs, v, hq, hv⟩, fun y H3 hy => ?_⟩
  obtain ⟨T, z, rfl, hT, rfl, hz⟩ := hy
  have hz' := hz vs hq
  rw [hv] at hz'
  cases hz'
  refine ⟨same_new hT, .tup (SqT.of (off_some.mpr ⟨new_out hM hT, upd_same⟩)) (.cons (.int _) (.cons (r.mono ?_) .nil))⟩
  exact Same.trans e (Same.off (same_new hT) M)
theorem it_enum {elts : List Expr} {kk : Nat} {p tpos : Pos} {ds : List PyData} (hg : Gl X "enumerate") (hm : X.mg "enumerate" = none) (h : EvD X C L ρ e (.list ds) ρ1) (hs : starEach [e] X.env = [(false, eval e X.env)] := by rfl) : IterS X C L ρ (.Tuple elts kk tpos) (.Call (.Name "enumerate" p) [e] [] pos) (enD ds) ρ1 := fun σ H S R q => by
  refine le_I (pi_enum hg hm (pa_cons pe_tE pa_nil hs) hs) ?_
  refine h σ H S _ fun v H1 S1 f1 r1 => ?_
  obtain ⟨a, vs, rfl, h1, a1⟩ := dp_list r1
  exact ⟨a, vs, rfl, sqL_off h1, q _ H1 S1 f1 (yl_enum h1 a1)⟩

/-! ### for -/
/-- for tg in iter: body. ρs: what is known ahead of turn i -/
theorem go_for {is : List Nat} (S : SitX X C L ρ σ H) (hp : PassesOwn (model X.prog X.w) X.A X.env X.xe) (hc : X.calm = true) (hi : IterS X C L ρ tg iter items ρ1) (ρs : Nat → List Slot) (h0 : ∀ σ H, SitX X C L ρ1 σ H → SitX X C L (ρs 0) σ H)
    (step : ∀ (φ : Hp → Prop) (i : Nat) (d : PyData) (σ' : L2.St) (H' : Hp), items[i]? = some d → SitX X (C.fact φ) L (ρs i) σ' H' → ∃ ρb, Bd X (C.fact φ) L is (ρs i) tg d ρb ∧
      ∀ σ1 H1, SitX X (C.fact φ) L ρb σ1 H1 → tSs X body { D with nx := fun σ2 H2 => SitX X (C.fact φ) L (ρs (i + 1)) σ2 H2, ct := fun σ2 H2 => SitX X (C.fact φ) L (ρs (i + 1)) σ2 H2, bk := D.nx } σ1 H1)
    (fin : ∀ σ' H', SitX X C L (ρs items.length) σ' H' → D.nx σ' H') (hs : ∀ x, foldedSetIterable iter X.env x = pure x := by intro _; rfl) : tS X (.For tg iter body [] pos) D σ H := by
  refine le_S (ps_for hp hc pi_tIt pg_tGt pss_tSs hs) ?_
  refine hi σ H S _ fun J H1 S1 f1 y => ?_
  refine ⟨fun i m σ' H' => m = items.length - i ∧ i ≤ items.length ∧ SitX X (C.fact (Same (off H1 (C.M L)))) L (ρs i) σ' H', ⟨items.length, by simp, Nat.zero_le _, (h0 _ _ S1).fact fun _ _ z => z⟩, ?_⟩
  rintro i m σ' H' ⟨rfl, hle, S'⟩
  have yy := y (C.M L) H' S'.dom S'.known i
  by_cases hlt : i < items.length
  · obtain ⟨go, yl⟩ := yy.1 items[i] (List.getElem?_eq_getElem hlt)
    obtain ⟨ρb, hb, hbody⟩ := step _ i items[i] σ' H' (List.getElem?_eq_getElem hlt) S'
    refine .inr ⟨go, fun σ2 H2 => SitX X (C.fact (Same (off H1 (C.M L)))) L (ρs (i + 1)) σ2 H2, fun σ2 H2 S2 => ⟨items.length - (i + 1), by omega, rfl, hlt, S2⟩, fun x H3 hy => ?_⟩
    obtain ⟨e3, r3⟩ := yl x H3 hy
    exact hb x σ' H3 (S'.grow e3) r3 _ fun σ1 S4 _ => hbody σ1 H3 S4
  · have e : i = items.length := by omega
    subst e
    exact .inl ⟨yy.2 (Nat.le_refl _), fin σ' H' S'.unfact⟩
/-- while: the invariant ρs by a measure -/
theorem go_while {k : Nat → Bool} (S : SitX X C L ρ σ H) (hp : PassesOwn (model X.prog X.w) X.A X.env X.xe) (ρs : Nat → List Slot) (n0 : Nat) (h0 : ρ = ρs n0) (ht : ∀ i, EvT X C L (ρs i) c (k i) (ρs i)) (hk : ∀ i, k i = true → 0 < i)
    (step : ∀ (i : Nat) (σ' : L2.St) (H' : Hp), k i = true → SitX X C L (ρs i) σ' H' → tSs X body { D with nx := fun σ2 H2 => ∃ j, j < i ∧ SitX X C L (ρs j) σ2 H2, ct := fun σ2 H2 => ∃ j, j < i ∧ SitX X C L (ρs j) σ2 H2, bk := D.nx } σ' H')
    (fin : ∀ i σ' H', k i = false → SitX X C L (ρs i) σ' H' → D.nx σ' H') : tS X (.While c body [] pos) D σ H := by
  refine le_S (ps_while hp pt_tT pss_tSs) ?_
  refine ⟨fun m σ' H' => SitX X C L (ρs m) σ' H', ⟨n0, by show SitX X C L (ρs n0) σ H; rw [← h0]; exact S⟩, fun m σ' H' S' => ?_⟩
  refine ht m σ' H' S' _ fun H1 S1 f1 => ?_
  cases h : k m with
  | true =>
    rw [if_pos rfl]
    exact ⟨_, fun σ2 H2 hn => hn, step m σ' H1 h S1⟩
  | false =>
    rw [(if_neg Bool.false_ne_true)]
    exact fin m σ' H1 h S1

/-! ### comprehensions -/
/-- evaluates to a new list -/
def EvF (X : Cx) (C : Cc) (L : List Addr) (ρ : List Slot) (e : Expr) (ds : List PyData) (ρ' : List Slot) : Prop :=
  ∀ σ H, SitX X C L ρ σ H → ∀ Q : VK, (∀ p vs H2, SitX X C L ρ' σ H2 → Fr (C.M L) H H2 → off H2 (C.M L) p = some (.lst vs) → DpAll X.K (off H2 (C.M L)) vs ds → Q (.ref p) H2) → tE X e σ H Q
theorem ev_F {ds : List PyData} (h : EvF X C L ρ e ds ρ1) : EvD X C L ρ e (.list ds) ρ1 := fun σ H S Q q => h σ H S Q fun p vs H2 S2 f2 h2 a2 => q _ H2 S2 f2 (.lst (SqL.of h2) a2)
def tTs (X : Cx) (ifs : List Expr) : TT := fun σ H Q => ∀ (pins : List (Addr × Obj)) (s : Shared), Inv X pins σ H s →
  wpAny (model X.prog X.w) X.A (forIn ifs true fun c r => if r = true then do let b ← isTrue c X.env (eval c X.env); pure (ForInStep.yield b) else pure (ForInStep.yield r)) (TP X pins σ Q) X.xe s
theorem le_Ts {X : Cx} {ifs : List Expr} {t : TT} (h : PTs X ifs t) {σ : L2.St} {H : Hp} {Q : Bool → Hp → Prop} (q : t σ H Q) : tTs X ifs σ H Q := fun pins s I => h.run pins s σ H Q I q
def EvTs (X : Cx) (C : Cc) (L : List Addr) (ρ : List Slot) (ifs : List Expr) (b : Bool) (ρ' : List Slot) : Prop :=
  ∀ σ H, SitX X C L ρ σ H → ∀ Q : Bool → Hp → Prop, (∀ H2, SitX X C L ρ' σ H2 → Fr (C.M L) H H2 → Q b H2) → tTs X ifs σ H Q
theorem ets_nil : EvTs X C L ρ [] true ρ := fun σ H S Q q => le_Ts pts_nil (q H S (Fr.refl _ _))
theorem ets_one {k : Bool} (h : EvT X C L ρ c k ρ1) : EvTs X C L ρ [c] k ρ1 := fun σ H S Q q => le_Ts (pts_one pt_tT) (h σ H S Q q)
def wipeR (ρ : List Slot) : List Nat → List Slot
  | [] => ρ
  | v :: vs => (wipeR ρ vs).set v .any
theorem Sit.wipe {K : PySem.W.Frag} {P : Program} {w : World} (S : Sit K P w C L ρ σ H) : ∀ vs : List Nat, (∀ v ∈ vs, v < C.n) → Sit K P w C L (wipeR ρ vs) (wipe σ vs) H
  | [], _ => S
  | v :: vs, h => (Sit.wipe S vs fun u hu => h u (List.mem_cons_of_mem _ hu)).put (s := .any) trivial (h v List.mem_cons_self) fun p e => nomatch e
/-- the new list is hidden behind the slots -/
theorem Sit.hide {K : PySem.W.Frag} {P : Program} {w : World} {p : Addr} (S : Sit K P w C L ρ σ H) (hp : H p = none) : Sit K P w C (p :: L) (ρ ++ [.hid p []]) σ (upd H p (.lst [])) := by
  have S1 := S.new (o := .lst []) hp
  have old : ∀ {i : Nat} {s : Slot}, (ρ ++ [Slot.hid p []])[i]? = some s → ρ[i]? = some s ∨ (i = ρ.length ∧ s = .hid p []) := fun {i s} h => by
    by_cases hi : i < ρ.length
    · rw [List.getElem?_append_left hi] at h; exact .inl h
    · rw [List.getElem?_append_right (by omega)] at h
      cases q : i - ρ.length with
      | zero => rw [q] at h; exact .inr ⟨by omega, (Option.some.inj h).symm⟩
      | succ k => rw [q] at h; simp at h
  refine ⟨S1.ex, S1.own, S1.dom, S1.sep, S1.nd, S1.facts, S1.len, fun i s h => ?_, fun i j s t q h1 h2 a1 a2 => ?_⟩
  · rcases old h with h | ⟨_, rfl⟩
    · exact S1.slots i s h
    · exact ⟨by simp, [], upd_same, .nil⟩
  · rcases old h1 with h1 | ⟨e1, rfl⟩
    · rcases old h2 with h2 | ⟨e2, rfl⟩
      · exact S1.inj i j s t q h1 h2 a1 a2
      · cases a2
        exact absurd a1 (slot_new S hp i s h1)
    · rcases old h2 with h2 | ⟨e2, rfl⟩
      · cases a1
        exact absurd a2 (slot_new S hp j t h2)
      · rw [e1, e2]
theorem wipe_ext {σ σ' : L2.St} : ∀ (vs : List Nat), σ.length = σ'.length → (∀ j, j ∉ vs → σ'[j]? = σ[j]?) → wipe σ' vs = wipe σ vs := by
  intro vs hl h
  apply List.ext_getElem?
  intro j
  by_cases hj : j ∈ vs
  · have aux : ∀ (τ : L2.St) (us : List Nat), j ∈ us → (wipe τ us)[j]? = if j < τ.length then some none else none := by
      intro τ us
      induction us with
      | nil => intro m; cases m
      | cons u us ih =>
        intro m
        show ((wipe τ us).set u none)[j]? = _
        by_cases e : u = j
        · subst e
          by_cases hlt : u < τ.length
          · rw [List.getElem?_set_self (by rw [wipe_length]; exact hlt), if_pos hlt]
          · rw [List.getElem?_eq_none (by rw [List.length_set, wipe_length]; omega), if_neg hlt]
        · rw [List.getElem?_set_ne e]
          exact ih ((List.mem_cons.mp m).resolve_left fun z => e z.symm)
    rw [aux _ _ hj, aux _ _ hj, hl]
  · have aux : ∀ (τ : L2.St) (us : List Nat), j ∉ us → (wipe τ us)[j]? = τ[j]? := by
      intro τ us
      induction us with
      | nil => intro _; rfl
      | cons u us ih =>
        intro m
        show ((wipe τ us).set u none)[j]? = _
        rw [List.getElem?_set_ne (fun e => m (by simp [e]))]
        exact ih fun z => m (List.mem_cons_of_mem _ z)
    rw [aux _ _ hj, aux _ _ hj]
    exact h j hj
def bE (X : Cx) (scope : Scope) (e : Expr) : TE := fun σ H Q => ∀ (s : Shared) (H0 : Hp) (Ca : Addr) (cl : List (Str × Addr)) (fp : List Addr), tE (X.blk s H0 scope (compEnvC scope cl Ca X.env) fp) e σ H Q
def bT (X : Cx) (scope : Scope) (ifs : List Expr) : TT := fun σ H Q => ∀ (s : Shared) (H0 : Hp) (Ca : Addr) (cl : List (Str × Addr)) (fp : List Addr), tTs (X.blk s H0 scope (compEnvC scope cl Ca X.env) fp) ifs σ H Q
def bG (X : Cx) (scope : Scope) (tg : Expr) : TG := fun v σ H Q => ∀ (s : Shared) (H0 : Hp) (Ca : Addr) (cl : List (Str × Addr)) (fp : List Addr), tGt (X.blk s H0 scope (compEnvC scope cl Ca X.env) fp) tg v σ H Q
theorem Sit.app {K : PySem.W.Frag} {P : Program} {w : World} {p : Addr} {ds : List PyData} {v : V} {d : PyData} (S : Sit K P w C (p :: L) (ρ ++ [.hid p ds]) σ H) (r : Dp K (off H (C.M (p :: L))) v d) :
    ∃ acc, H p = some (.lst acc) ∧ acc.length = ds.length ∧ Sit K P w C (p :: L) (ρ ++ [.hid p (ds ++ [d])]) σ (upd H p (.lst (acc ++ [v]))) := by
  have hlast : (ρ ++ [Slot.hid p ds])[ρ.length]? = some (.hid p ds) := by rw [List.getElem?_append_right (Nat.le_refl _)]; simp
  obtain ⟨m2, acc, h2, a2⟩ := S.slots ρ.length _ hlast
  refine ⟨acc, h2, a2.length, ?_⟩
  have old : ∀ {i : Nat} {s : Slot}, (ρ ++ [Slot.hid p (ds ++ [d])])[i]? = some s → (i < ρ.length ∧ (ρ ++ [Slot.hid p ds])[i]? = some s) ∨ (i = ρ.length ∧ s = .hid p (ds ++ [d])) := fun {i s} h => by
    by_cases hi : i < ρ.length
    · rw [List.getElem?_append_left hi] at h; exact .inl ⟨hi, by rw [List.getElem?_append_left hi]; exact h⟩
    · rw [List.getElem?_append_right (by omega)] at h
      cases q : i - ρ.length with
      | zero => rw [q] at h; exact .inr ⟨by omega, (Option.some.inj h).symm⟩
      | succ k => rw [q] at h; simp at h
  refine S.write (by simp) (fun i s h => ?_) fun i j s t h1 h2 b1 b2 => ?_
  · rcases old h with ⟨hi, h⟩ | ⟨rfl, rfl⟩
    · exact .inr ⟨fun z => Nat.ne_of_lt hi (S.inj i ρ.length s _ p h hlast z rfl), h⟩
    · refine .inl ⟨rfl, m2, acc ++ [v], upd_same, ?_⟩
      rw [off_upd m2]
      exact a2.snoc r
  · rcases old h1 with ⟨hi, h1⟩ | ⟨rfl, rfl⟩
    · exact absurd (S.inj i ρ.length s _ p h1 hlast b1 rfl) (Nat.ne_of_lt hi)
    · rcases old h2 with ⟨hj, h2⟩ | ⟨rfl, rfl⟩
      · exact absurd (S.inj j ρ.length t _ p h2 hlast b2 rfl) (Nat.ne_of_lt hj)
      · rfl
/-- one turn of a comprehension: the slots ρ ahead of it and ρn behind it, the new list's data res and res' -/
def LcTurn (X : Cx) (scope : Scope) (C : Cc) (L : List Addr) (p : Addr) (vs : List Nat) (tg : Expr) (ifs : List Expr) (elt : Expr) (ρ : List Slot) (d : PyData) (ρn : List Slot) (res res' : List PyData) : Prop :=
  ∃ (is : List Nat) (ρb ρt ρe : List Slot) (k : Bool) (f : PyData), (∀ i ∈ is, i ∈ vs) ∧
    (∀ (s : Shared) (H0 : Hp) (Ca : Addr) (cl : List (Str × Addr)) (fp : List Addr), Bd (X.blk s H0 scope (compEnvC scope cl Ca X.env) fp) C (p :: L) is (ρ ++ [.hid p res]) tg d ρb) ∧
    (∀ (s : Shared) (H0 : Hp) (Ca : Addr) (cl : List (Str × Addr)) (fp : List Addr), EvTs (X.blk s H0 scope (compEnvC scope cl Ca X.env) fp) C (p :: L) ρb ifs k ρt) ∧
    (k = true → (∀ (s : Shared) (H0 : Hp) (Ca : Addr) (cl : List (Str × Addr)) (fp : List Addr), EvD (X.blk s H0 scope (compEnvC scope cl Ca X.env) fp) C (p :: L) ρt elt f ρe) ∧ wipeR ρe vs = ρn ++ [.hid p res] ∧ res' = res ++ [f]) ∧
    (k = false → wipeR ρt vs = ρn ++ [.hid p res] ∧ res' = res)
theorem Sit.unwipe {K : PySem.W.Frag} {P : Program} {w : World} {H1 H2 : Hp} {vs : List Nat} {ρn : List Slot} (S1 : Sit K P w C L ρ1 σ H1) (S2 : Sit K P w C L ρn (L2.wipe σ vs) H2) (f : Fr (C.M L) H1 H2)
    (h : ∀ (i : Nat) (s : Slot), ρ2[i]? = some s → (∃ d, s = .val d ∧ ρ1[i]? = some s) ∨ s = .any ∨ (i ∉ vs ∧ ρn[i]? = some s)) : Sit K P w C L ρ2 σ H2 := by
  have aux : ∀ (τ : L2.St) (us : List Nat) (j : Nat), j ∉ us → (L2.wipe τ us)[j]? = τ[j]? := by
    intro τ us j
    induction us with
    | nil => intro _; rfl
    | cons u us ih =>
      intro m
      show ((L2.wipe τ us).set u none)[j]? = _
      rw [List.getElem?_set_ne (fun e => m (by simp [e]))]
      exact ih fun z => m (List.mem_cons_of_mem _ z)
  refine ⟨S2.ex, S2.own, S2.dom, S2.sep, S2.nd, S2.facts, S1.len, fun i s e => ?_, fun i j s t q a b c d => ?_⟩
  · rcases h i s e with ⟨d, rfl, e'⟩ | rfl | ⟨ni, e'⟩
    · obtain ⟨v, h1, h2⟩ := S1.slots i _ e'
      exact ⟨v, h1, h2.mono f⟩
    · trivial
    · exact (S2.slots i s e').set (aux σ vs i ni).symm
  · rcases h i s a with ⟨_, rfl, _⟩ | rfl | ⟨_, a'⟩
    · cases c
    · cases c
    · rcases h j t b with ⟨_, rfl, _⟩ | rfl | ⟨_, b'⟩
      · cases d
      · cases d
      · exact S2.inj i j s t q a' b' c d
/-- what a comprehension reads as: a new list of ds -/
def LcF (X : Cx) (C : Cc) (L : List Addr) (ρ : List Slot) (elt tg iter : Expr) (ifs : List Expr) (scope : Scope) (own : List (Str × Nat)) (ds : List PyData) (ρ' : List Slot) : Prop :=
  BlkOk X.N X.env.scope scope own ∧ ∀ σ H, SitX X C L ρ σ H → ∀ Q : VK, (∀ p vs H2, SitX X C L ρ' σ H2 → Fr (C.M L) H H2 → off H2 (C.M L) p = some (.lst vs) → DpAll X.K (off H2 (C.M L)) vs ds → Q (.ref p) H2) → tLc (tIt X tg iter) (bG X scope tg) (bT X scope ifs) (bE X scope elt) (own.map (·.2)) σ H Q
theorem ev_lcF {elt : Expr} {ifs : List Expr} {scope : Scope} {own : List (Str × Nat)} {ds : List PyData} (hc : X.calm = true) (hN : X.N.Nodup) (h : LcF X C L ρ elt tg iter ifs scope own ds ρ1) (hs : ∀ x, foldedSetIterable iter X.env x = pure x := by intro _; rfl) : EvF X C L ρ (.ListComp elt [⟨tg, iter, ifs, 0⟩] scope pos) ds ρ1 := fun σ H S Q q =>
  le_E (pe_lc (g := bG X scope tg) (tt := bT X scope ifs) (te := bE X scope elt) hc hN pi_tIt h.1 (fun s H0 Ca cl fp => ⟨fun pins s' σ' H' v u Q' I r h => h s H0 Ca cl fp pins s' u I r⟩)
    (fun s H0 Ca cl fp => ⟨fun pins s' σ' H' Q' I h => h s H0 Ca cl fp pins s' I⟩) (fun s H0 Ca cl fp => ⟨fun pins s' σ' H' Q' I h => h s H0 Ca cl fp pins s' I⟩) hs) (h.2 σ H S Q q)
/-- name = [elt for ..], name a plain local, on one line -/
theorem go_setLc (i : Nat) {x : Str} {p spos : Pos} {elt : Expr} {ifs : List Expr} {scope : Scope} {own : List (Str × Nat)} {ds : List PyData} (S : SitX X C L ρ σ H) (h : LcF X C L ρ elt tg iter ifs scope own ds ρ1) (k : ∀ σ1 H1, SitX X C L (ρ1.set i (.py (.list ds))) σ1 H1 → D.nx σ1 H1)
    (hc : X.calm = true) (hN : X.N.Nodup) (hsw : swapsWith (.ListComp elt [⟨tg, iter, ifs, 0⟩] scope pos) (some (.Name x p)) spos.line X.env = pure true) (hi : X.N[i]? = some x := by rfl) (hyl : X.env.scope.names.lookup x = some .local := by rfl) (hn : i < C.n := by exact Nat.le_of_ble_eq_true rfl) (hs : ∀ x, foldedSetIterable iter X.env x = pure x := by intro _; rfl) :
    tS X (.Assign [.Name x p] (.ListComp elt [⟨tg, iter, ifs, 0⟩] scope pos) spos) D σ H := by
  refine le_S (ps_setLc (g := bG X scope tg) (tt := bT X scope ifs) (te := bE X scope elt) hc hN hi hyl hsw pi_tIt h.1 (fun s H0 Ca cl fp => ⟨fun pins s' σ' H' v u Q' I r h => h s H0 Ca cl fp pins s' u I r⟩)
    (fun s H0 Ca cl fp => ⟨fun pins s' σ' H' Q' I h => h s H0 Ca cl fp pins s' I⟩) (fun s H0 Ca cl fp => ⟨fun pins s' σ' H' Q' I h => h s H0 Ca cl fp pins s' I⟩) hs) ?_
  refine h.2 σ H S _ fun q vs H2 S2 f2 h2 a2 => k _ H2 (S2.set (d := .py (.list ds)) hn (.lst (SqL.of h2) a2))
/-- [elt for tg in iter if ..] -/
theorem lc_gen {elt : Expr} {ifs : List Expr} {scope : Scope} {own : List (Str × Nat)} (hi : IterS X C L ρ tg iter items ρ1) (ok : BlkOk X.N X.env.scope scope own) (hown : ∀ v ∈ own.map (·.2), v < C.n)
    (hz : items.length ≤ sizeLine) (ρs : Nat → List Slot) (res : Nat → List PyData) (h0 : wipeR ρ1 (own.map (·.2)) = ρs 0) (r0 : res 0 = [])
    (h2 : ∀ (i : Nat) (s : Slot), ρ2[i]? = some s → (∃ d, s = .val d ∧ ρ1[i]? = some s) ∨ s = .any ∨ (i ∉ own.map (·.2) ∧ (ρs items.length)[i]? = some s))
    (step : ∀ (φ : Hp → Prop) (p : Addr) (i : Nat) (d : PyData), items[i]? = some d → LcTurn X scope (C.fact φ) L p (own.map (·.2)) tg ifs elt (ρs i) d (ρs (i + 1)) (res i) (res (i + 1)))
    : LcF X C L ρ elt tg iter ifs scope own (res items.length) ρ2 := ⟨ok, fun σ H S Q q => by
  refine hi σ H S _ fun J H1 S1 f1 y => fun p hp => ?_
  have Sd := (S1.wipe (own.map (·.2)) hown).hide hp
  rw [h0] at Sd
  have kn : Same (off H1 (C.M L)) (off (upd H1 p (.lst [])) (C.M (p :: L))) := by
    rw [show off (upd H1 p (.lst [])) (C.M (p :: L)) = off H1 (C.M L) from off_new hp _]
    exact fun _ _ z => z
  refine ⟨fun i m H' => m = items.length - i ∧ i ≤ items.length ∧ (res i).length ≤ i ∧ SitX X (C.fact (Same (off H1 (C.M L)))) (p :: L) (ρs i ++ [.hid p (res i)]) (wipe σ (own.map (·.2))) H', ⟨items.length, by simp, Nat.zero_le _, by rw [r0]; exact Nat.le_refl _, by rw [r0]; exact Sd.fact kn⟩, ?_⟩
  rintro i m H' ⟨rfl, hle, hlen, S'⟩
  have yy := y (C.M (p :: L)) H' S'.dom S'.known i
  by_cases hlt : i < items.length
  · obtain ⟨go, yl⟩ := yy.1 items[i] (List.getElem?_eq_getElem hlt)
    obtain ⟨is, ρb, ρt, ρe, k, f, hsub, hb, ht, he1, he2⟩ := step (Same (off H1 (C.M L))) p i items[i] (List.getElem?_eq_getElem hlt)
    refine .inr ⟨go, fun H2 => (res (i + 1)).length ≤ i + 1 ∧ SitX X (C.fact (Same (off H1 (C.M L)))) (p :: L) (ρs (i + 1) ++ [.hid p (res (i + 1))]) (wipe σ (own.map (·.2))) H2, fun H2 ⟨l2, S2⟩ => ⟨items.length - (i + 1), by omega, rfl, hlt, l2, S2⟩, fun x H3 hy => ?_⟩
    obtain ⟨e3, r3⟩ := yl x H3 hy
    intro s H0 Ca cl fp
    refine hb s H0 Ca cl fp x _ H3 (S'.grow e3) r3 _ fun σ1 S4 k4 => ?_
    have ew : wipe σ1 (own.map (·.2)) = wipe σ (own.map (·.2)) := by
      have e1 : wipe σ1 (own.map (·.2)) = wipe (wipe σ (own.map (·.2))) (own.map (·.2)) := wipe_ext _ (by rw [S4.len, S'.len]) fun j hj => k4 j fun z => hj (hsub j z)
      rw [e1]
      exact wipe_ext _ (by rw [wipe_length]) fun j hj => by
        have aux : ∀ (τ : L2.St) (us : List Nat), j ∉ us → (L2.wipe τ us)[j]? = τ[j]? := by
          intro τ us
          induction us with
          | nil => intro _; rfl
          | cons u us ih =>
            intro m
            show ((L2.wipe τ us).set u none)[j]? = _
            rw [List.getElem?_set_ne (fun e => m (by simp [e]))]
            exact ih fun z => m (List.mem_cons_of_mem _ z)
        exact aux _ _ hj
    refine ⟨ew, ?_⟩
    intro s2 H02 Ca2 cl2 fp2
    refine ht s2 H02 Ca2 cl2 fp2 σ1 H3 S4 _ fun H4 S5 f5 => ?_
    cases k with
    | true =>
      rw [if_pos rfl]
      obtain ⟨he, hw, hr⟩ := he1 rfl
      intro s3 H03 Ca3 cl3 fp3
      refine he s3 H03 Ca3 cl3 fp3 σ1 H4 S5 _ fun v H5 S6 f6 r6 => ?_
      have S7 := Sit.wipe S6 (own.map (·.2)) hown
      rw [hw, ew] at S7
      obtain ⟨acc, hacc, hl, S8⟩ := Sit.app S7 r6
      refine ⟨acc, hacc, ?_, ?_, ?_⟩
      · rw [hl]; omega
      · rw [hr, List.length_append]; simp; omega
      · rw [hr]; exact S8
    | false =>
      rw [(if_neg Bool.false_ne_true)]
      obtain ⟨hw, hr⟩ := he2 rfl
      have S7 := Sit.wipe S5 (own.map (·.2)) hown
      rw [hw, ew] at S7
      exact ⟨by rw [hr]; omega, by rw [hr]; exact S7⟩
  · have e : i = items.length := by omega
    subst e
    refine .inl ⟨yy.2 (Nat.le_refl _), ?_⟩
    have hlast : (ρs items.length ++ [Slot.hid p (res items.length)])[(ρs items.length).length]? = some (.hid p (res items.length)) := by rw [List.getElem?_append_right (Nat.le_refl _)]; simp
    obtain ⟨m2, acc, ha, aa⟩ := S'.slots _ _ hlast
    have S9 : SitX X C L (ρs items.length) (wipe σ (own.map (·.2))) H' := S'.unfact.seal fun i s h => by
      have hi' : i < (ρs items.length).length := (List.getElem?_eq_some_iff.mp h).1
      have h' : (ρs items.length ++ [Slot.hid p (res items.length)])[i]? = some s := by rw [List.getElem?_append_left hi']; exact h
      exact .inl ⟨fun z => Nat.ne_of_lt hi' (S'.inj i _ s _ p h' hlast z rfl), h'⟩
    have fr : Fr (C.M L) H1 H' := Same.trans S'.known (off_sub fun a h => List.mem_cons_of_mem _ h)
    exact q p acc H' (Sit.unwipe S1 S9 fr h2) (f1.trans fr) (off_some.mpr ⟨S1.out hp, ha⟩) (aa.mono (off_sub fun a h => List.mem_cons_of_mem _ h))⟩
end
end Tk
end

section
namespace Tk
open L2 PyProof.Rows PySem PySem.Spec

section
variable {X : Cx} {C : Cc} {L : List Addr} {ρ ρ1 ρ2 ρ3 : List Slot} {e a b c tg iter : Expr} {es : List Expr} {d d1 d2 : PyData} {pos : Pos} {D : Ends} {σ : L2.St} {H : Hp} {body : List Stmt} {items : List PyData}
def okOwn (ρ : List Slot) (vs : List Nat) : Bool := vs.all fun v => match ρ[v]? with
  | some s => s.addr.isNone
  | none => true
theorem wipeR_get {ρ : List Slot} {i : Nat} : ∀ {vs : List Nat}, i ∉ vs → (wipeR ρ vs)[i]? = ρ[i]?
  | [], _ => rfl
  | v :: vs, h => by
    show ((wipeR ρ vs).set v .any)[i]? = _
    rw [List.getElem?_set_ne (fun e => h (by simp [e]))]
    exact wipeR_get fun z => h (List.mem_cons_of_mem _ z)
/-- a comprehension whose turns leave the slots as they are -/
theorem lc_P {α : Type} (xs : List α) (enc : α → PyData) (p : α → Bool) (f : α → PyData) {elt : Expr} {ifs : List Expr} {scope : Scope} {own : List (Str × Nat)} (hi : IterS X C L ρ tg iter (xs.map enc) ρ1) (ok : BlkOk X.N X.env.scope scope own) (hown : ∀ v ∈ own.map (·.2), v < C.n)
    (hz : xs.length ≤ sizeLine) (ho : okOwn ρ1 (own.map (·.2)) = true)
    (step : ∀ (φ : Hp → Prop) (q : Addr) (ds : List PyData) (x : α), x ∈ xs → ∃ (is : List Nat) (ρb : List Slot), (∀ i ∈ is, i ∈ own.map (·.2)) ∧ wipeR ρb (own.map (·.2)) = wipeR ρ1 (own.map (·.2)) ++ [.hid q ds] ∧
      (∀ (s : Shared) (H0 : Hp) (Ca : Addr) (cl : List (Str × Addr)) (fp : List Addr), Bd (X.blk s H0 scope (compEnvC scope cl Ca X.env) fp) (C.fact φ) (q :: L) is (wipeR ρ1 (own.map (·.2)) ++ [.hid q ds]) tg (enc x) ρb) ∧
      (∀ (s : Shared) (H0 : Hp) (Ca : Addr) (cl : List (Str × Addr)) (fp : List Addr), EvTs (X.blk s H0 scope (compEnvC scope cl Ca X.env) fp) (C.fact φ) (q :: L) ρb ifs (p x) ρb) ∧
      (p x = true → ∀ (s : Shared) (H0 : Hp) (Ca : Addr) (cl : List (Str × Addr)) (fp : List Addr), EvD (X.blk s H0 scope (compEnvC scope cl Ca X.env) fp) (C.fact φ) (q :: L) ρb elt (f x) ρb)) : LcF X C L ρ elt tg iter ifs scope own ((xs.filter p).map f) ρ1 := by
  have h := lc_gen (items := xs.map enc) (ρ2 := ρ1) (elt := elt) (ifs := ifs) hi ok hown (by rw [List.length_map]; exact hz) (fun _ => wipeR ρ1 (own.map (·.2))) (fun i => ((xs.take i).filter p).map f) rfl rfl (fun i s e => ?_) (fun φ q i d hd => ?_)
  · rw [List.length_map, List.take_length] at h
    exact h
  · by_cases hi : i ∈ own.map (·.2)
    · have h1 := List.all_eq_true.mp ho i hi
      rw [e] at h1
      cases s with
      | any => exact .inr (.inl rfl)
      | val d => exact .inl ⟨d, rfl, e⟩
      | _ => cases h1
    · exact .inr (.inr ⟨hi, by rw [wipeR_get hi]; exact e⟩)
  · rw [List.getElem?_map] at hd
    cases hx : xs[i]? with
    | none => rw [hx] at hd; cases hd
    | some x =>
      rw [hx] at hd
      cases (Option.some.inj hd)
      obtain ⟨is, ρb, h1, h2, h3, h4, h5⟩ := step φ q (((xs.take i).filter p).map f) x (List.mem_of_getElem? hx)
      have tk : xs.take (i + 1) = xs.take i ++ [x] := by
        rw [List.take_add_one, hx]
        rfl
      refine ⟨is, ρb, ρb, ρb, p x, f x, h1, h3, h4, fun hp => ⟨h5 hp, h2, ?_⟩, fun hp => ⟨h2, ?_⟩⟩
      · rw [tk, List.filter_append, List.filter_cons_of_pos hp, List.filter_nil, List.map_append]
        rfl
      · rw [tk, List.filter_append, List.filter_cons_of_neg (by rw [hp]; exact Bool.false_ne_true), List.filter_nil, List.append_nil]

theorem ev_lcP {α : Type} (xs : List α) (enc : α → PyData) (p : α → Bool) (f : α → PyData) {elt : Expr} {ifs : List Expr} {scope : Scope} {own : List (Str × Nat)} (hc : X.calm = true) (hN : X.N.Nodup) (hi : IterS X C L ρ tg iter (xs.map enc) ρ1) (ok : BlkOk X.N X.env.scope scope own) (hown : ∀ v ∈ own.map (·.2), v < C.n)
    (hz : xs.length ≤ sizeLine) (ho : okOwn ρ1 (own.map (·.2)) = true)
    (step : ∀ (φ : Hp → Prop) (q : Addr) (ds : List PyData) (x : α), x ∈ xs → ∃ (is : List Nat) (ρb : List Slot), (∀ i ∈ is, i ∈ own.map (·.2)) ∧ wipeR ρb (own.map (·.2)) = wipeR ρ1 (own.map (·.2)) ++ [.hid q ds] ∧
      (∀ (s : Shared) (H0 : Hp) (Ca : Addr) (cl : List (Str × Addr)) (fp : List Addr), Bd (X.blk s H0 scope (compEnvC scope cl Ca X.env) fp) (C.fact φ) (q :: L) is (wipeR ρ1 (own.map (·.2)) ++ [.hid q ds]) tg (enc x) ρb) ∧
      (∀ (s : Shared) (H0 : Hp) (Ca : Addr) (cl : List (Str × Addr)) (fp : List Addr), EvTs (X.blk s H0 scope (compEnvC scope cl Ca X.env) fp) (C.fact φ) (q :: L) ρb ifs (p x) ρb) ∧
      (p x = true → ∀ (s : Shared) (H0 : Hp) (Ca : Addr) (cl : List (Str × Addr)) (fp : List Addr), EvD (X.blk s H0 scope (compEnvC scope cl Ca X.env) fp) (C.fact φ) (q :: L) ρb elt (f x) ρb))
    (hs : ∀ x, foldedSetIterable iter X.env x = pure x := by intro _; rfl) : EvF X C L ρ (.ListComp elt [⟨tg, iter, ifs, 0⟩] scope pos) ((xs.filter p).map f) ρ1 :=
  ev_lcF hc hN (lc_P xs enc p f hi ok hown hz ho step) hs
/-! ### calls of one's own defs -/
theorem paired_append {α β : Type} {F : α → β → Prop} : ∀ {as cs : List α} {bs ds : List β}, Paired F as bs → Paired F cs ds → Paired F (as ++ cs) (bs ++ ds)
  | _, _, _, _, .nil, s => s
  | _, _, _, _, .cons h t, s => .cons h (paired_append t s)
/-- a def that changes nothing that stood: from data to data -/
def SpR (K : PySem.W.Frag) (P : Program) (w : World) (R : List Dt → Dt → Prop) : Sp := fun vs H Q _ => ∃ (M : List Addr) (ds : List Dt) (r : Dt), R ds r ∧ (∀ p ∈ M, H p ≠ none) ∧ Paired (RepX K P w (off H M)) vs ds ∧
  ∀ v H', Same H H' → RepX K P w (off H' M) v r → Q v H'
theorem ev_call {k : Nat} {f : Addr} {fd : FuncData} {ps : List Str} {R : List Dt → Dt → Prop} {dvs : List V} {dus : List Value} {dd ds : List Dt} {r : Dt} {x : Str} {p : Pos}
    (F : FnOk X.prog X.w X.K X.mg X.base CX0 k f fd ps (SpR X.K X.prog X.w R)) (hr : Room k X.A) (hg : Gl X x) (hm : X.mg x = some (.ref f)) (hk : PySem.W.keepIn X.K (.ref f) = true) (hb : Binds X.K fd ps dus) (hd : Vals dvs dus) (hdd : ∀ H, Paired (RepX X.K X.prog X.w H) dvs dd)
    (ha : EvA X C L ρ (e :: es) ds ρ1) (hR : R (ds ++ dd) r)
    (hdb : (x == ("__debug__" : Str)) = false := by decide)
    (he : starEach (e :: es) X.env = (false, eval e X.env) :: starEach es X.env := by rfl)
    (hpl : (backTo pos (starEach es X.env)).any (·.1) = false := by rfl) :
    EvE X C L ρ (.Call (.Name x p) (e :: es) [] pos) r ρ1 := fun σ H S Q q => by
  refine le_E (pe_call F hr hg hm hk hb hd (pass0 (X := X)) pa_tA hdb he hpl) ?_
  refine ha σ H S _ fun vs H1 S1 f1 r1 => ?_
  exact ⟨C.M L, ds ++ dd, r, hR, S1.dom, paired_append r1 (hdd _), fun v H' e r => q v H' (S1.grow e) (f1.trans (Fr.of e)) r⟩
/-- keyword arguments -/
def EvK (X : Cx) (C : Cc) (L : List Addr) (ρ : List Slot) (kws : List Keyword) (ds : List Dt) (ρ' : List Slot) : Prop :=
  ∃ t, PK X kws t ∧ ∀ σ H, SitX X C L ρ σ H → ∀ Q : List V → Hp → Prop, (∀ vs H2, SitX X C L ρ' σ H2 → Fr (C.M L) H H2 → Paired (RepC X C L H2) vs ds → Q vs H2) → t σ H Q
theorem ek_nil : EvK X C L ρ [] [] ρ := ⟨_, pk_nil, fun σ H S Q q => q [] H S (Fr.refl _ _) .nil⟩
theorem ek_cons {nm : Option Str} {kpos : Pos} {kws : List Keyword} {d : Dt} {ds : List Dt} (ha : EvE X C L ρ a d ρ1) (hr : EvK X C L ρ1 kws ds ρ2) : EvK X C L ρ (⟨nm, a, kpos⟩ :: kws) (d :: ds) ρ2 := by
  obtain ⟨t, h1, h2⟩ := hr
  exact ⟨_, pk_cons pe_tE h1, fun σ H S Q q => ha σ H S _ fun x H1 S1 f1 r1 => h2 σ H1 S1 _ fun xs H3 S3 f3 r3 => q _ H3 S3 (f1.trans f3) (.cons (r1.mono f3) r3)⟩
theorem ev_callK {k : Nat} {f : Addr} {fd : FuncData} {ps ks : List Str} {R : List Dt → Dt → Prop} {ds zs : List Dt} {r : Dt} {x : Str} {p : Pos} {kws : List Keyword}
    (F : FnOk X.prog X.w X.K X.mg X.base CX0 k f fd ps (SpR X.K X.prog X.w R)) (hr : Room k X.A) (hg : Gl X x) (hm : X.mg x = some (.ref f)) (hk : PySem.W.keepIn X.K (.ref f) = true) (hb : KBinds X.K fd ps ks (fun us ws => us ++ ws) (fun vs zs => vs ++ zs))
    (ha : EvA X C L ρ (e :: es) ds ρ1) (hkw : EvK X C L ρ1 kws zs ρ2) (hR : R (ds ++ zs) r) (hall : (backToKw pos (keywordEach kws X.env)).all (·.1.isSome) = true := by rfl) (hks : (backToKw pos (keywordEach kws X.env)).filterMap (·.1) = ks := by rfl)
    (hdb : (x == ("__debug__" : Str)) = false := by decide)
    (he : starEach (e :: es) X.env = (false, eval e X.env) :: starEach es X.env := by rfl)
    (hpl : (((backTo pos (starEach (e :: es) X.env)).any (·.1)) || ((backToKw pos (keywordEach kws X.env)).any (·.1.isNone))) = false := by rfl) :
    EvE X C L ρ (.Call (.Name x p) (e :: es) kws pos) r ρ2 := fun σ H S Q q => by
  obtain ⟨t, h1, h2⟩ := hkw
  refine le_E (pe_callK F hr hg hm hk hb (pass0 (X := X)) pa_tA h1 hall hks hdb he hpl) ?_
  refine ha σ H S _ fun vs H1 S1 f1 r1 => h2 σ H1 S1 _ fun zs H2 S2 f2 r2 => ?_
  exact ⟨C.M L, ds ++ _, r, hR, S2.dom, paired_append (paired_mono f2 r1) r2, fun v H' e r => q v H' (S2.grow e) ((f1.trans f2).trans (Fr.of e)) r⟩
end

/-! ### a def by its body -/
theorem start_get {N : List Str} {vs : List V} {i : Nat} : (L2.start N vs)[i]? = if i < vs.length then (vs[i]?).map some else (List.replicate (N.length - vs.length) (none : Option V))[i - vs.length]? := by
  unfold L2.start
  by_cases h : i < vs.length
  · rw [if_pos h, List.getElem?_append_left (by simpa using h), List.getElem?_map]
  · rw [if_neg h, List.getElem?_append_right (by simpa using h), List.length_map]
theorem paired_at {α β : Type} {F : α → β → Prop} : ∀ {as : List α} {bs : List β}, Paired F as bs → ∀ {i : Nat} {b : β}, bs[i]? = some b → ∃ a, as[i]? = some a ∧ F a b
  | _, _, .nil, _, _, h => by simp at h
  | _, _, .cons h t, 0, _, e => by
    have e' := Option.some.inj (show some _ = some _ from e)
    subst e'
    exact ⟨_, rfl, h⟩
  | _, _, .cons h t, i + 1, b, e => paired_at t (i := i) (b := b) (by simpa using e)
section
variable {w : World} {P : Program} {base : Heap} {mg : Str → Option Value} {K : PySem.W.Frag}
theorem sit_start {N : List Str} {H : Hp} {M : List Addr} {vs : List V} {ds : List Dt} (hM : ∀ p ∈ M, H p ≠ none) (r : Paired (RepX K P w (off H M)) vs ds) (hl : ds.length ≤ N.length) :
    Sit K P w ⟨M, H, [], [], N.length⟩ [] (ds.map Slot.val ++ List.replicate (N.length - ds.length) .any) (L2.start N vs) H := by
  have hv : vs.length = ds.length := Paired.length r
  have old : ∀ {i : Nat} {s : Slot}, (ds.map Slot.val ++ List.replicate (N.length - ds.length) Slot.any)[i]? = some s → (∃ d, ds[i]? = some d ∧ s = .val d) ∨ s = .any := fun {i s} h => by
    by_cases hi : i < ds.length
    · rw [List.getElem?_append_left (by simpa using hi), List.getElem?_map] at h
      cases q : ds[i]? with
      | none => rw [q] at h; cases h
      | some d => rw [q] at h; exact .inl ⟨d, rfl, (Option.some.inj h).symm⟩
    · rw [List.getElem?_append_right (by simpa using hi), List.getElem?_replicate] at h
      split at h
      · exact .inr (Option.some.inj h).symm
      · cases h
  refine ⟨fun a o h => (off_some.mp h).2, fun p hp => (absurd hp List.not_mem_nil), fun p hp => hM p hp, fun p hp => (absurd hp List.not_mem_nil), List.nodup_nil, fun φ hφ => (absurd hφ List.not_mem_nil), ?_, fun i s h => ?_, fun i j s t p h1 h2 a1 a2 => ?_⟩
  · unfold L2.start
    rw [List.length_append,List.length_map,List.length_replicate]
    show _ = N.length
    omega
  · rcases old h with ⟨d, hd, rfl⟩ | rfl
    · obtain ⟨v, h1, h2⟩ := paired_at r hd
      refine ⟨v, ?_, h2⟩
      have hi : i < vs.length := (List.getElem?_eq_some_iff.mp h1).1
      rw [start_get, if_pos hi, h1]
      rfl
    · trivial
  · rcases old h1 with ⟨d, _, rfl⟩ | rfl <;> cases a1
/-- the context of a def's body -/
abbrev bodyX (P : Program) (w : World) (K : PySem.W.Frag) (mg : Str → Option Value) (base : Heap) (N : List Str) (qual : Str) (st : Stmt) (f : Addr) (cdv : Value) (A : Around) (outer : List Env) (s : Shared) (H : Hp) (E : XK) : Cx :=
  (cxOf CX0 P w K mg base N qual (defScope st) f cdv A outer s H E).nox
theorem fn_ok {x qual : Str} {st : Stmt} {f : Addr} {fd : FuncData} {N ps : List Str} {k : Nat} {R : List Dt → Dt → Prop} (F : Fun K x qual st f fd) (S : FnScope N ps (defScope st)) (len : ∀ ds r, R ds r → ds.length = ps.length) (hps : ps.length ≤ N.length)
    (hbody : ∀ (cdv : Value) (A : Around) (outer : List Env) (s : Shared) (H : Hp) (M : List Addr) (vs : List V) (ds : List Dt) (r : Dt) (Q : VK) (E : XK), Room k (A.deeper (envOfC qual (defScope st) s.heap.objs.size f cdv)) → R ds r →
      Sit K P w ⟨M, H, [], [], N.length⟩ [] (ds.map Slot.val ++ List.replicate (N.length - ds.length) .any) (L2.start N vs) H → (∀ v H', Same H H' → RepX K P w (off H' M) v r → Q v H') →
      tSs (bodyX P w K mg base N qual st f cdv A outer s H E) (defBody st) { nx := fun _ H' => Q .non H', rt := Q } (L2.start N vs) H) : FnOk P w K mg base CX0 (k + 1) f fd ps (SpR K P w R) := by
  refine F.ok S (fun vs H Q E h => ?_) (fun cdv A outer s H vs Q E hr h => ?_)
  · obtain ⟨M, ds, r, hR, hM, rp, q⟩ := h
    rw [Paired.length rp]
    exact len ds r hR
  · obtain ⟨M, ds, r, hR, hM, rp, q⟩ := h
    exact ⟨_, pss_tSs, hbody cdv A outer s H M vs ds r Q E hr hR (sit_start hM rp (by rw [len ds r hR]; exact hps)) q⟩
theorem Sit.done {L M : List Addr} {H H1 : Hp} {Fs : List (Hp → Prop)} {n : Nat} {ρ : List Slot} {σ : L2.St} {v : V} {r : Dt} {Q : VK} (S : Sit K P w ⟨M, H, [], Fs, n⟩ L ρ σ H1) (h : RepX K P w (off H1 (L ++ M)) v r) (q : ∀ v H', Same H H' → RepX K P w (off H' M) v r → Q v H') : Q v H1 :=
  q v H1 (fun a o e => S.ex a o (by show off H [] a = some o; rw [off_nil]; exact e)) (h.mono (off_sub fun a h => List.mem_append_right _ h))
end
end Tk
end

section
namespace Tk
open L2 PyProof.Rows PySem PySem.Spec

section
variable {X : Cx} {C : Cc} {L : List Addr} {ρ ρ1 ρ2 ρ3 : List Slot} {e a b c tg iter : Expr} {es : List Expr} {d d1 d2 : PyData} {pos : Pos} {D : Ends} {σ : L2.St} {H : Hp}

/-! ### calls of the built-in functions -/
theorem ev_b {id : String} {r : List V → Hp → VK → Prop} {x : Str} {p : Pos} {ds : List Dt} {dt : Dt} (hc : CallR X (.builtin id) r) (hm : X.mg x = none) (hv : bootBuiltins x = some (.builtin id)) (ha : EvA X C L ρ (a :: es) ds ρ1)
    (hr : ∀ vs σ H, SitX X C L ρ1 σ H → Paired (RepC X C L H) vs ds → ∀ Q : VK, (∀ v H2, Same H H2 → RepC X C L H2 v dt → Q v H2) → r vs H Q)
    (hg : Gl X x) (hn : x ≠ "__name__") (hdb : (x == ("__debug__" : Str)) = false)
    (hst : starEach (a :: es) X.env = (false, eval a X.env) :: starEach es X.env) (hpl : (backTo pos (starEach es X.env)).any (·.1) = false) : EvE X C L ρ (.Call (.Name x p) (a :: es) [] pos) dt ρ1 := fun σ H S Q q => by
  refine le_E (pe_callB hc hg hm hv pa_tA hn hdb hst hpl) ?_
  exact ha σ H S _ fun vs H1 S1 f1 r1 => hr vs σ H1 S1 r1 Q fun v H2 e r => q v H2 (S1.grow e) (f1.trans (Fr.of e)) r
theorem ev_ty {id : String} {r : List V → Hp → VK → Prop} {x : Str} {p : Pos} {ds : List Dt} {dt : Dt} (hc : CallR X (.type id) r) (hm : X.mg x = none) (hv : bootBuiltins x = some (.type id)) (ha : EvA X C L ρ (a :: es) ds ρ1)
    (hr : ∀ vs σ H, SitX X C L ρ1 σ H → Paired (RepC X C L H) vs ds → ∀ Q : VK, (∀ v H2, Same H H2 → RepC X C L H2 v dt → Q v H2) → r vs H Q)
    (hg : Gl X x) (hn : x ≠ "__name__") (hdb : (x == ("__debug__" : Str)) = false)
    (hst : starEach (a :: es) X.env = (false, eval a X.env) :: starEach es X.env) (hpl : (backTo pos (starEach es X.env)).any (·.1) = false) : EvE X C L ρ (.Call (.Name x p) (a :: es) [] pos) dt ρ1 := fun σ H S Q q => by
  refine le_E (pe_callTy hc hg hm hv pa_tA hn hdb hst hpl) ?_
  exact ha σ H S _ fun vs H1 S1 f1 r1 => hr vs σ H1 S1 r1 Q fun v H2 e r => q v H2 (S1.grow e) (f1.trans (Fr.of e)) r
theorem one_of {α β : Type} {F : α → β → Prop} {vs : List α} {d : β} (h : Paired F vs [d]) : ∃ v, vs = [v] ∧ F v d := by
  cases h with
  | cons h t => cases t; exact ⟨_, rfl, h⟩
theorem two_of {α β : Type} {F : α → β → Prop} {vs : List α} {d e : β} (h : Paired F vs [d, e]) : ∃ v u, vs = [v, u] ∧ F v d ∧ F u e := by
  cases h with
  | cons h t => obtain ⟨u, rfl, h2⟩ := one_of t; exact ⟨_, _, rfl, h, h2⟩
section
variable {p : Pos} (hst : starEach [a] X.env = (false, eval a X.env) :: starEach [] X.env := by rfl) (hpl : (backTo pos (starEach [] X.env)).any (·.1) = false := by rfl)
theorem ea_one {d : Dt} (ha : EvE X C L ρ a d ρ1) (hst : starEach [a] X.env = (false, eval a X.env) :: starEach [] X.env) : EvA X C L ρ [a] [d] ρ1 := ea_cons ha ea_nil hst
theorem ev_len {ds : List PyData} (hm : X.mg "len" = none) (ha : EvD X C L ρ a (.list ds) ρ1) (hg : Gl X "len" := by rfl)
    (hst : starEach [a] X.env = (false, eval a X.env) :: starEach [] X.env := by rfl) (hpl : (backTo pos (starEach [] X.env)).any (·.1) = false := by rfl) : EvD X C L ρ (.Call (.Name "len" p) [a] [] pos) (.int ds.length) ρ1 :=
  ev_b call_len_seq hm PySem.boot_len (ea_one ha hst) (fun vs σ H S r Q q => by
    obtain ⟨v, rfl, r1⟩ := one_of r
    obtain ⟨p1, vs, rfl, h1, a1⟩ := dp_list r1
    exact ⟨p1, vs, rfl, .inl (sqL_off h1), q _ H (Same.refl H) (by rw [a1.length]; exact .int _)⟩) hg (by decide) (by decide) hst hpl
theorem ev_lenT {ds : List PyData} (hm : X.mg "len" = none) (ha : EvD X C L ρ a (.tuple ds) ρ1) (hg : Gl X "len" := by rfl)
    (hst : starEach [a] X.env = (false, eval a X.env) :: starEach [] X.env := by rfl) (hpl : (backTo pos (starEach [] X.env)).any (·.1) = false := by rfl) : EvD X C L ρ (.Call (.Name "len" p) [a] [] pos) (.int ds.length) ρ1 :=
  ev_b call_len_seq hm PySem.boot_len (ea_one ha hst) (fun vs σ H S r Q q => by
    obtain ⟨v, rfl, r1⟩ := one_of r
    obtain ⟨p1, vs, rfl, h1, a1⟩ := dp_tup r1
    exact ⟨p1, vs, rfl, .inr (sqT_off h1), q _ H (Same.refl H) (by rw [a1.length]; exact .int _)⟩) hg (by decide) (by decide) hst hpl
/-- sum, max, min of a list of ints; all of a list of bools -/
def maxI (ns : List Int) : Int := ns.foldl max (ns.headD 0)
def minI (ns : List Int) : Int := ns.foldl min (ns.headD 0)
theorem foldl_max_ge : ∀ (ns : List Int) (m : Int), m ≤ ns.foldl max m ∧ ∀ y ∈ ns, y ≤ ns.foldl max m
  | [], m => ⟨Int.le_refl _, fun _ h => (absurd h List.not_mem_nil)⟩
  | n :: ns, m => by
    obtain ⟨h1, h2⟩ := foldl_max_ge ns (max m n)
    simp only [List.foldl_cons]
    refine ⟨by omega, fun y hy => ?_⟩
    rcases List.mem_cons.mp hy with rfl|hy
    · omega
    · exact h2 y hy
theorem foldl_max_mem : ∀ (ns : List Int) (m : Int), ns.foldl max m = m ∨ ns.foldl max m ∈ ns
  | [], m => .inl rfl
  | n :: ns, m => by
    simp only [List.foldl_cons]
    rcases foldl_max_mem ns (max m n) with h | h
    · rw [h]
      by_cases z : m ≤ n
      · exact .inr (by rw [Int.max_eq_right z]; exact List.mem_cons_self)
      · exact .inl (by omega)
    · exact .inr (List.mem_cons_of_mem _ h)
theorem maxI_eq {ns : List Int} {m : Int} (h1 : m ∈ ns) (h2 : ∀ y ∈ ns, y ≤ m) : m = maxI ns := by
  cases ns with
  | nil => exact absurd h1 List.not_mem_nil
  | cons n ns =>
    have a := (foldl_max_ge (n :: ns) n).2 m h1
    have b : maxI (n :: ns) ≤ m := by
      rcases foldl_max_mem (n :: ns) n with h | h
      · show (n :: ns).foldl max n ≤ m
        rw [h]; exact h2 n List.mem_cons_self
      · exact h2 _ h
    show m = (n :: ns).foldl max n
    have b' : (n :: ns).foldl max n ≤ m := b
    omega
theorem foldl_min_le : ∀ (ns : List Int) (m : Int), ns.foldl min m ≤ m ∧ ∀ y ∈ ns, ns.foldl min m ≤ y
  | [], m => ⟨Int.le_refl _, fun _ h => (absurd h List.not_mem_nil)⟩
  | n :: ns, m => by
    obtain ⟨h1, h2⟩ := foldl_min_le ns (min m n)
    simp only [List.foldl_cons]
    refine ⟨by omega, fun y hy => ?_⟩
    rcases List.mem_cons.mp hy with rfl|hy
    · omega
    · exact h2 y hy
theorem foldl_min_mem : ∀ (ns : List Int) (m : Int), ns.foldl min m = m ∨ ns.foldl min m ∈ ns
  | [], m => .inl rfl
  | n :: ns, m => by
    simp only [List.foldl_cons]
    rcases foldl_min_mem ns (min m n) with h | h
    · rw [h]
      by_cases z : n ≤ m
      · exact .inr (by rw [Int.min_eq_right z]; exact List.mem_cons_self)
      · exact .inl (by omega)
    · exact .inr (List.mem_cons_of_mem _ h)
theorem minI_eq {ns : List Int} {m : Int} (h1 : m ∈ ns) (h2 : ∀ y ∈ ns, m ≤ y) : m = minI ns := by
  cases ns with
  | nil => exact absurd h1 List.not_mem_nil
  | cons n ns =>
    have a := (foldl_min_le (n :: ns) n).2 m h1
    have b : m ≤ minI (n :: ns) := by
      rcases foldl_min_mem (n :: ns) n with h | h
      · show m ≤ (n :: ns).foldl min n
        rw [h]; exact h2 n List.mem_cons_self
      · exact h2 _ h
    show m = (n :: ns).foldl min n
    have b' : m ≤ (n :: ns).foldl min n := b
    omega
theorem dp_ints {K : PySem.W.Frag} {P : Program} {w : World} {H : Hp} {M : List Addr} {v : V} {ns : List Int} (h : RepX K P w (off H M) v (.py (.list (ns.map .int)))) : ∃ a, v = .ref a ∧ SqL K H a (ns.map V.int) := by
  obtain ⟨a, vs, rfl, h1, a1⟩ := dp_list h
  have := a1.ints
  subst this
  exact ⟨a, rfl, sqL_off h1⟩
theorem dp_bools {K : PySem.W.Frag} {P : Program} {w : World} {H : Hp} {M : List Addr} {v : V} {bs : List Bool} (h : RepX K P w (off H M) v (.py (.list (bs.map .bool)))) : ∃ a, v = .ref a ∧ SqL K H a (bs.map V.bl) := by
  obtain ⟨a, vs, rfl, h1, a1⟩ := dp_list h
  have := a1.bools
  subst this
  exact ⟨a, rfl, sqL_off h1⟩
section
variable {ns : List Int} {bs : List Bool}
theorem ev_sum (hc : X.calm = true) (hm : X.mg "sum" = none) (ha : EvD X C L ρ a (.list (ns.map .int)) ρ1) (hg : Gl X "sum" := by rfl)
    (hst : starEach [a] X.env = (false, eval a X.env) :: starEach [] X.env := by rfl) (hpl : (backTo pos (starEach [] X.env)).any (·.1) = false := by rfl) : EvD X C L ρ (.Call (.Name "sum" p) [a] [] pos) (.int ns.sum) ρ1 :=
  ev_b (cr_sum hc) hm boot_sum (ea_one ha hst) (fun vs σ H S r Q q => by
    obtain ⟨v, rfl, r1⟩ := one_of r
    obtain ⟨p1, rfl, h1⟩ := dp_ints r1
    exact ⟨p1, ns, rfl, h1, q _ H (Same.refl H) (.int _)⟩) hg (by decide) (by decide) hst hpl
theorem ev_maxL (hc : X.calm = true) (hm : X.mg "max" = none) (ha : EvD X C L ρ a (.list (ns.map .int)) ρ1) (hne : 0 < ns.length) (hg : Gl X "max" := by rfl)
    (hst : starEach [a] X.env = (false, eval a X.env) :: starEach [] X.env := by rfl) (hpl : (backTo pos (starEach [] X.env)).any (·.1) = false := by rfl) : EvD X C L ρ (.Call (.Name "max" p) [a] [] pos) (.int (maxI ns)) ρ1 :=
  ev_b (cr_max hc) hm boot_max (ea_one ha hst) (fun vs σ H S r Q q => by
    obtain ⟨v, rfl, r1⟩ := one_of r
    obtain ⟨p1, rfl, h1⟩ := dp_ints r1
    exact ⟨p1, ns, rfl, h1, hne, fun m h1 h2 => q _ H (Same.refl H) (by rw [maxI_eq h1 h2]; exact .int _)⟩) hg (by decide) (by decide) hst hpl
theorem ev_minL (hc : X.calm = true) (hm : X.mg "min" = none) (ha : EvD X C L ρ a (.list (ns.map .int)) ρ1) (hne : 0 < ns.length) (hg : Gl X "min" := by rfl)
    (hst : starEach [a] X.env = (false, eval a X.env) :: starEach [] X.env := by rfl) (hpl : (backTo pos (starEach [] X.env)).any (·.1) = false := by rfl) : EvD X C L ρ (.Call (.Name "min" p) [a] [] pos) (.int (minI ns)) ρ1 :=
  ev_b (cr_min hc) hm boot_min (ea_one ha hst) (fun vs σ H S r Q q => by
    obtain ⟨v, rfl, r1⟩ := one_of r
    obtain ⟨p1, rfl, h1⟩ := dp_ints r1
    exact ⟨p1, ns, rfl, h1, hne, fun m h1 h2 => q _ H (Same.refl H) (by rw [minI_eq h1 h2]; exact .int _)⟩) hg (by decide) (by decide) hst hpl
theorem ev_all (hc : X.calm = true) (hm : X.mg "all" = none) (ha : EvD X C L ρ a (.list (bs.map .bool)) ρ1) (hg : Gl X "all" := by rfl)
    (hst : starEach [a] X.env = (false, eval a X.env) :: starEach [] X.env := by rfl) (hpl : (backTo pos (starEach [] X.env)).any (·.1) = false := by rfl) : EvD X C L ρ (.Call (.Name "all" p) [a] [] pos) (.bool (bs.all id)) ρ1 :=
  ev_b (cr_all hc) hm boot_all (ea_one ha hst) (fun vs σ H S r Q q => by
    obtain ⟨v, rfl, r1⟩ := one_of r
    obtain ⟨p1, rfl, h1⟩ := dp_bools r1
    exact ⟨p1, bs, rfl, h1, q _ H (Same.refl H) (.bl _)⟩) hg (by decide) (by decide) hst hpl
theorem ev_intI {i : Int} (hm : X.mg "int" = none) (ha : EvD X C L ρ a (.int i) ρ1) (hg : Gl X "int" := by rfl)
    (hst : starEach [a] X.env = (false, eval a X.env) :: starEach [] X.env := by rfl) (hpl : (backTo pos (starEach [] X.env)).any (·.1) = false := by rfl) : EvD X C L ρ (.Call (.Name "int" p) [a] [] pos) (.int i) ρ1 :=
  ev_ty call_int1 hm PyProof.Rows.boot_int (ea_one ha hst) (fun vs σ H S r Q q => by
    obtain ⟨v, rfl, r1⟩ := one_of r
    exact .inl ⟨i, by rw [dp_int r1], q _ H (Same.refl H) (.int _)⟩) hg (by decide) (by decide) hst hpl
theorem ev_intB {k : Bool} (hm : X.mg "int" = none) (ha : EvD X C L ρ a (.bool k) ρ1) (hg : Gl X "int" := by rfl)
    (hst : starEach [a] X.env = (false, eval a X.env) :: starEach [] X.env := by rfl) (hpl : (backTo pos (starEach [] X.env)).any (·.1) = false := by rfl) : EvD X C L ρ (.Call (.Name "int" p) [a] [] pos) (.int (if k then 1 else 0)) ρ1 :=
  ev_ty call_int1 hm PyProof.Rows.boot_int (ea_one ha hst) (fun vs σ H S r Q q => by
    obtain ⟨v, rfl, r1⟩ := one_of r
    exact .inr ⟨k, by rw [dp_bool r1], q _ H (Same.refl H) (.int _)⟩) hg (by decide) (by decide) hst hpl
theorem ev_tupleL {ds : List PyData} (hm : X.mg "tuple" = none) (ha : EvD X C L ρ a (.list ds) ρ1) (hg : Gl X "tuple" := by rfl)
    (hst : starEach [a] X.env = (false, eval a X.env) :: starEach [] X.env := by rfl) (hpl : (backTo pos (starEach [] X.env)).any (·.1) = false := by rfl) : EvD X C L ρ (.Call (.Name "tuple" p) [a] [] pos) (.tuple ds) ρ1 :=
  ev_ty call_tuple_of hm PyProof.Rows.boot_tuple (ea_one ha hst) (fun vs σ H S r Q q => by
    obtain ⟨v, rfl, r1⟩ := one_of r
    obtain ⟨p1, vs, rfl, h1, a1⟩ := dp_list r1
    exact ⟨p1, vs, rfl, .inl ⟨sqL_off h1, fun l hl => q _ _ (same_new hl) (.tup (SqT.of (S.new_off hl)) (a1.mono (Same.off (same_new hl) _)))⟩⟩) hg (by decide) (by decide) hst hpl
theorem ev_listT {ds : List PyData} (hm : X.mg "list" = none) (ha : EvD X C L ρ a (.tuple ds) ρ1) (hg : Gl X "list" := by rfl)
    (hst : starEach [a] X.env = (false, eval a X.env) :: starEach [] X.env := by rfl) (hpl : (backTo pos (starEach [] X.env)).any (·.1) = false := by rfl) : EvD X C L ρ (.Call (.Name "list" p) [a] [] pos) (.list ds) ρ1 :=
  ev_ty call_list_of hm PyProof.Rows.boot_list (ea_one ha hst) (fun vs σ H S r Q q => by
    obtain ⟨v, rfl, r1⟩ := one_of r
    obtain ⟨p1, vs, rfl, h1, a1⟩ := dp_tup r1
    exact ⟨p1, vs, rfl, .inr (sqT_off h1), fun l hl => q _ _ (same_new hl) (.lst (SqL.of (S.new_off hl)) (a1.mono (Same.off (same_new hl) _)))⟩) hg (by decide) (by decide) hst hpl
end
end
section
variable {i j : Int} {p : Pos}
theorem ev_max2 (hc : X.calm = true) (hm : X.mg "max" = none) (ha : EvD X C L ρ a (.int i) ρ1) (hb : EvD X C L ρ1 b (.int j) ρ2) (hg : Gl X "max" := by rfl)
    (hst : starEach [a, b] X.env = (false, eval a X.env) :: starEach [b] X.env := by rfl) (hst2 : starEach [b] X.env = (false, eval b X.env) :: starEach [] X.env := by rfl) (hpl : (backTo pos (starEach [b] X.env)).any (·.1) = false := by rfl) : EvD X C L ρ (.Call (.Name "max" p) [a, b] [] pos) (.int (max i j)) ρ2 :=
  ev_b (call_max2 hc) hm boot_max (ea_cons ha (ea_one hb hst2) hst) (fun vs σ H S r Q q => by
    obtain ⟨v, u, rfl, r1, r2⟩ := two_of r
    exact ⟨i, j, by rw [dp_int r1, dp_int r2], q _ H (Same.refl H) (by
      have : (if j > i then j else i) = max i j := by rcases Int.lt_or_le i j with h | h <;> simp only [gt_iff_lt, h, if_true, if_false, Int.max_def] <;> split <;> omega
      rw [this]; exact .int _)⟩) hg (by decide) (by decide) hst hpl
theorem ev_min2 (hc : X.calm = true) (hm : X.mg "min" = none) (ha : EvD X C L ρ a (.int i) ρ1) (hb : EvD X C L ρ1 b (.int j) ρ2) (hg : Gl X "min" := by rfl)
    (hst : starEach [a, b] X.env = (false, eval a X.env) :: starEach [b] X.env := by rfl) (hst2 : starEach [b] X.env = (false, eval b X.env) :: starEach [] X.env := by rfl) (hpl : (backTo pos (starEach [b] X.env)).any (·.1) = false := by rfl) : EvD X C L ρ (.Call (.Name "min" p) [a, b] [] pos) (.int (min i j)) ρ2 :=
  ev_b (call_min2 hc) hm boot_min (ea_cons ha (ea_one hb hst2) hst) (fun vs σ H S r Q q => by
    obtain ⟨v, u, rfl, r1, r2⟩ := two_of r
    exact ⟨i, j, by rw [dp_int r1, dp_int r2], q _ H (Same.refl H) (by
      have : (if j < i then j else i) = min i j := by rcases Int.lt_or_le j i with h | h <;> simp only [h, if_true, if_false, Int.min_def] <;> split <;> omega
      rw [this]; exact .int _)⟩) hg (by decide) (by decide) hst hpl
end

/-! ### slices of lists -/
theorem ev_sliceTo {ds : List PyData} {k : Nat} {p2 : Pos} (ha : EvD X C L ρ a (.list ds) ρ1) (hb : EvD X C L ρ1 b (.int (k : Nat)) ρ2) : EvD X C L ρ (.Subscript a (.Slice none (some b) none p2) pos) (.list (ds.take k)) ρ2 := fun σ H S Q q => by
  refine le_E (pe_slice sl_list pe_tE po_none (po_some pe_tE)) ?_
  refine ha σ H S _ fun v H1 S1 f1 r1 => hb σ H1 S1 _ fun u H2 S2 f2 r2 => ⟨(k : Int), dp_int r2, ?_⟩
  obtain ⟨p1, vs, rfl, h1, a1⟩ := dp_list (r1.mono f2)
  refine ⟨p1, vs, rfl, sqL_off h1, fun l hl => q _ _ (S2.grow (same_new hl)) ((f1.trans f2).trans (Fr.of (same_new hl))) (.lst (SqL.of (S2.new_off hl)) ?_)⟩
  have e : cutV vs none (some (k : Int)) = vs.take k := by
    unfold cutV
    rw [HT.sIx_none, HT.sIx_nat, List.drop_zero, Nat.sub_zero]
    by_cases h : k ≤ vs.length
    · rw [Nat.min_eq_left h]
    · rw [Nat.min_eq_right (by omega), List.take_length, List.take_of_length_le (by omega)]
  rw [e]
  exact (a1.take k).mono (Same.off (same_new hl) _)
theorem ev_sliceFrom {ds : List PyData} {k : Nat} {p2 : Pos} (ha : EvD X C L ρ a (.list ds) ρ1) (hb : EvD X C L ρ1 b (.int (k : Nat)) ρ2) : EvD X C L ρ (.Subscript a (.Slice (some b) none none p2) pos) (.list (ds.drop k)) ρ2 := fun σ H S Q q => by
  refine le_E (pe_slice sl_list pe_tE (po_some pe_tE) po_none) ?_
  refine ha σ H S _ fun v H1 S1 f1 r1 => hb σ H1 S1 _ fun u H2 S2 f2 r2 => ⟨(k : Int), dp_int r2, ?_⟩
  obtain ⟨p1, vs, rfl, h1, a1⟩ := dp_list (r1.mono f2)
  refine ⟨p1, vs, rfl, sqL_off h1, fun l hl => q _ _ (S2.grow (same_new hl)) ((f1.trans f2).trans (Fr.of (same_new hl))) (.lst (SqL.of (S2.new_off hl)) ?_)⟩
  have e : cutV vs (some (k : Int)) none = vs.drop k := by
    unfold cutV
    rw [HT.sIx_none, HT.sIx_nat]
    by_cases h : k ≤ vs.length
    · rw [Nat.min_eq_left h, List.take_of_length_le (by rw [List.length_drop]; omega)]
    · rw [Nat.min_eq_right (by omega), List.drop_length, List.drop_of_length_le (by omega), List.take_nil]
  rw [e]
  exact (a1.drop k).mono (Same.off (same_new hl) _)

/-! ### isinstance(x, int), isinstance(x, bool) -/
def tyD : PyData → Option String
  | .int _ => some "int"
  | .bool _ => some "bool"
  | .none => some "NoneType"
  | _ => none
end
end Tk
end

section
namespace Tk
open PySem PySem.Spec PyProof.Rows L2 PySem.W PySem.SeqAt PySem.Calls

/-- the call of tuple's own __lt__, as sorting makes it -/
theorem call_tuple_lt {prog : Program} {w : World} {A : Around} {s : Shared} {E : Value → Shared → Prop} {Q : Value → Shared → Prop} {l b : Addr} {items items2 : Array Value} {e r : Nat → Bool} (hl : s.heap.IsTuple l items) (hb : s.heap.IsTuple b items2)
    (he : ∀ k (h1 : k < items.size) (h2 : k < items2.size), EqAt A.in1 s items[k] items2[k] (e k))
    (hr : ∀ j (h1 : j < items.size) (h2 : j < items2.size), e j = false → RcLt A.in1 s items[j] items2[j] (r j))
    (h : Q (.bool (firstLt e r (decide (items.size < items2.size)) (List.range (min items.size items2.size)))) s) : wpAny (model prog w) A (call (.builtin "tuple.__lt__") [.ref l, .ref b]) Q E s := by
  obtain ⟨⟨cls, dd, data, sl⟩, ho, hc, n, hd⟩ := (show s.heap.IsTuple l items from hl)
  obtain ⟨⟨cls2, dd2, data2, sl2⟩, ho2, c2, n2, hdd2⟩ := id hb
  simp only at hc hd c2 hdd2
  subst hc hd c2 hdd2
  exact call_meets F.slot_tuple_lt ⟨_, ho, rfl⟩ F.entry_tuple_lt (F.args_tuple_lt_2 _ _) (tuple_ltAt l b items items2 n n2 dd dd2 sl sl2 e r) ⟨ho, ho2, he, hr, h⟩

section
variable {A : Around} {s : Shared} {w : World} {prog : Program} {E : Value → Shared → Prop}
theorem oneLt_tuples {xs ys : List PyData} {a b : Value} {as bs : List Addr} {Q : Bool → Shared → Prop} (ra : Reads s.heap a (.tuple xs) as) (rb : Reads s.heap b (.tuple ys) bs) (h : alike (.tuple xs) (.tuple ys) = true)
    (hu : A.units + min (PyData.tuple xs).depth (PyData.tuple ys).depth < cLine) (hq : Q (dataLt (.tuple xs) (.tuple ys)) s) : wpAny (model prog w) A (oneLt' true a b) Q E s := by
  have alk : alikeAll xs ys = true := by simpa [alike] using h
  cases ra with
  | @tuple l o vs n _ sa h1 h2 h3 h4 =>
    cases rb with
    | @tuple l' o' vs' n' _ sb k1 k2 k3 k4 =>
      have n1 : vs.size = xs.length := by simpa using SeqAt.ReadsAll.length _ _ _ h4
      have n2 : vs'.size = ys.length := by simpa using SeqAt.ReadsAll.length _ _ _ k4
      rw [dataLt_tuple, ← firstLt_toks xs ys alk, ← n1, ← n2] at hq
      rw [oneLt'_eq]
      simp only [if_true]
      refine wpAny_bind (wpAny_cRoomFor (SeqAt.room_here hu) ?_)
      refine wpAny_bind (wpAny_callSpecialIfBound?_slot (T := "tuple") ⟨_, h1, h2⟩ F.slot_tuple_lt (call_tuple_lt (e := pairEq xs ys) (r := fun j => dataLt (xs.getD j .none) (ys.getD j .none)) ⟨_, h1, h2, _, h3⟩ ⟨_, k1, k2, _, k3⟩ (fun j j1 j2 => ?_) (fun j j1 j2 hj => ?_) ?_))
      · have := eqAt_alikeAll xs ys A.in1 s vs.toList vs'.toList _ _ h4 k4 alk (SeqAt.room_in hu) j (by simpa using j1) (by simpa using j2)
        simpa using this
      · have := rcLt_alikeAll xs ys A.in1 s vs.toList vs'.toList _ _ h4 k4 alk (SeqAt.room_in hu) j (by simpa using j1) (by simpa using j2) hj
        simpa using this
      · exact wpAny_truthy_bool hq

/-- firstOfTuple? of a value that reads as a tuple -/
theorem first_tuple {M : Model} {v : Value} {xs : List PyData} {as : List Addr} (r : Reads s.heap v (.tuple xs) as) : ∃ o : Option Value, (xs = [] → o = none) ∧ ∀ Q : Option Value → Shared → Prop, Q o s → wpAny M A (firstOfTuple' v) Q E s := by
  have rr := r
  cases rr with
  | @tuple l o vs n _ sa h1 h2 h3 h4 =>
    refine ⟨vs[0]?, fun hx => ?_, fun Q hq => ?_⟩
    · subst hx
      have n1 : vs.size = 0 := by simpa using SeqAt.ReadsAll.length _ _ _ h4
      simp [n1]
    · rw [kas_first_eq]
      refine wpAny_bind ((looks_reads r).here ?_)
      rw [if_neg (by simp [dataType])]
      exact wpAny_bind (listItems_at h1 h3 (wpAny_pure hq))
theorem mapM_first {M : Model} : ∀ {vs : List Value} {xss : List (List PyData)}, EachIs (fun v xs => ∃ as, Reads s.heap v (.tuple xs) as) vs xss → ∃ os : List (Option Value), (∀ r, xss = [] :: r → ∃ t, os = none :: t) ∧ ∀ Q : List (Option Value) → Shared → Prop, Q os s → wpAny M A (vs.mapM firstOfTuple') Q E s
  | _, _, .nil => ⟨[], fun r h => (nomatch h), fun Q hq => by rw [List.mapM_nil]; exact wpAny_pure hq⟩
  | _, _, .cons ⟨as, h⟩ t => by
    obtain ⟨o, h1, h2⟩ := first_tuple (A := A) (E := E) (M := M) h
    obtain ⟨os, k1, k2⟩ := mapM_first (M := M) t
    refine ⟨o :: os, fun r e => ⟨os, ?_⟩, fun Q hq => ?_⟩
    · rw [h1 (List.cons.inj e).1]
    · rw [List.mapM_cons]
      exact wpAny_bind (h2 _ (wpAny_bind (k2 _ (wpAny_pure hq))))
theorem kind_empty {M : Model} {vs : List Value} {xss : List (List PyData)} {Q : SortKind → Shared → Prop} (e : EachIs (fun v xs => ∃ as, Reads s.heap v (.tuple xs) as) vs ([] :: xss)) (h : Q oneType' s) : wpAny M A (keyKind' vs.toArray) Q E s := by
  obtain ⟨os, k1, k2⟩ := mapM_first (A := A) (E := E) (M := M) e
  obtain ⟨t, rfl⟩ := k1 _ rfl
  rw [keyKind'_eq,List.mapM_toArray,map_eq_pure_bind]
  refine wpAny_bind (wpAny_bind (k2 _ (wpAny_pure ?_)))
  rw [if_neg (by simp),if_neg (by simp)]
  rw [oneTypeOnly'_eq,List.mapM_toArray,map_eq_pure_bind]
  cases vs with
  | nil => cases e
  | cons v0 vs =>
    refine wpAny_bind (wpAny_bind (wpAny_bind (kas_mapM (r := Value.type "tuple") _ (fun v hv Q' hq => ?_) (wpAny_pure ?_))))
    · obtain ⟨d, inD, as, r⟩ := e.left v hv
      exact (looks_reads r).here hq
    · have hall : ((List.map (fun _ => Value.type "tuple") (v0 :: vs)).toArray.all fun x => x == Value.type "tuple") = true := by
        simp only [List.all_map, List.all_eq_true, List.all_toArray]
        intro _ _
        exact beq_self_eq_true _
      have h0 : (List.map (fun _ => Value.type "tuple") (v0 :: vs)).toArray[0]? = some (Value.type "tuple") := by simp
      rw [h0]
      simp only [hall, if_true]
      exact wpAny_pure <| wpAny_pure h
/-- tuples of which the first is empty -/
theorem sortsAt_empty {vs : List Value} {xss : List (List PyData)} (e : EachIs (fun v d => ∃ as, Reads s.heap v d as) vs (([] :: xss).map PyData.tuple)) (alk : AllAlike (([] :: xss).map PyData.tuple)) (hu : ∀ d, d ∈ ([] :: xss).map PyData.tuple → A.units + d.depth < cLine) :
    SortsAt prog w A s (dataKind s.heap (([] :: xss).map PyData.tuple)) vs := by
  have room : ∀ {d d' : PyData}, d ∈ ([] :: xss).map PyData.tuple → A.units + min d.depth d'.depth < cLine := fun {d d'} hd => Nat.lt_of_le_of_lt (Nat.add_le_add_left (Nat.min_le_left _ _) _) (hu d hd)
  refine ⟨fun v hv => ?_, oneType', ?_, fun h2 E Q hq => ?_⟩
  · obtain ⟨d, inD, as, r⟩ := e.left v hv
    exact ⟨_, dataKind_some alk inD r⟩
  · intro E x y a b Q ha hb hq
    obtain ⟨d, as, hd, ra, rfl⟩ := dataKind_inv (id ha)
    obtain ⟨d', ax, kd, rb, rfl⟩ := dataKind_inv hb
    have hdd := alk d hd d' kd
    have rm := room (d' := d') hd
    obtain ⟨xs, _, rfl⟩ := List.mem_map.mp hd
    obtain ⟨ys, _, rfl⟩ := List.mem_map.mp kd
    rw [keyLt'_oneType]
    exact oneLt_tuples ra rb hdd rm hq
  · refine kind_empty (xss := xss) ?_ hq
    have aux : ∀ {vs : List Value} {yss : List (List PyData)}, EachIs (fun v d => ∃ as, Reads s.heap v d as) vs (yss.map PyData.tuple) → EachIs (fun v xs => ∃ as, Reads s.heap v (.tuple xs) as) vs yss := by
      intro vs yss
      induction yss generalizing vs with
      | nil => intro h; cases h; exact .nil
      | cons y yss ih => intro h; cases h with
        | cons h t => exact .cons h (ih t)
    exact aux e
end

/-! ### sorted(list) of data -/
def SortOk (ds : List PyData) : Prop := AllAlike ds ∧ (Sortable ds ∨ ∃ xss, ds = ([] :: xss).map PyData.tuple)
section
variable {X : Cx}
theorem eachDp {H : Hp} : ∀ {us : List Value} {vs : List V} {ds : List PyData}, Vals vs us → DpAll X.K H vs ds → EachIs (fun u d => ∃ v, RelV v u ∧ Dp X.K H v d) us ds
  | _, _, _, .nil, .nil => .nil
  | _, _, _, .cons r t, .cons h k => .cons ⟨_, r, h⟩ (eachDp t k)
theorem eachVals {K : PySem.W.Frag} {H : Hp} : ∀ {us : List Value} {ds : List PyData}, EachIs (fun u d => ∃ v, RelV v u ∧ Dp K H v d) us ds → ∃ vs, Vals vs us ∧ DpAll K H vs ds
  | _, _, .nil => ⟨[], .nil, .nil⟩
  | _, _, .cons ⟨v, r, h⟩ t => by
    obtain ⟨vs, a, b⟩ := eachVals t
    exact ⟨v :: vs, .cons r a, .cons h b⟩
/-- the items in their order: a new list -/
theorem cr_sortedD : CallR X (.builtin "sorted") (fun xs H Q => ∃ (a : Addr) (vs : List V) (ds : List PyData) (G : Hp), xs = [.ref a] ∧ Same G H ∧ SqL X.K H a vs ∧ DpAll X.K G vs ds ∧ SortOk ds ∧ (∀ d ∈ ds, X.A.units + 2 + d.depth < cLine) ∧
    ∀ p ws, H p = none → DpAll X.K G ws (ds.mergeSort (dataLe false id)) → Q (.ref p) (upd H p (.lst ws))) := by
  intro pn s σ H xs us Q J r h
  obtain ⟨a, vs, ds, G, rfl, hG, hs, hd, ⟨alk, hk⟩, hdep, q⟩ := h
  obtain ⟨cl, rd, hl, hz⟩ := J.list hs
  rw [Vals.ref1 r]
  have hz' : cl.length ≤ sizeLine := by rw [← rd.length]; exact hz
  have e := eachDp rd hd
  have eid : ds.map id = ds := List.map_id _
  have er : EachIs (fun u d => ∃ as, Reads s.heap u d as) cl ds := e.mono fun u d ⟨v, r, h⟩ => Dp.reads J d v u (Dp.mono hG h) r
  have er' : EachIs (fun v d => ∃ as, Reads (sortingHeap (copyHeap s.heap cl) (s.heap.objs.size + 1) cl) v d as) cl ds := er.mono fun _ _ ⟨as, r⟩ => ⟨as, PyProof.Rows.Reads.keeps (fun _ _ => sorting_copy_old) r⟩
  have S : SortsAt X.prog X.w X.A.in1.in1 { s with heap := sortingHeap (copyHeap s.heap cl) (s.heap.objs.size + 1) cl } (dataKind (sortingHeap (copyHeap s.heap cl) (s.heap.objs.size + 1) cl) ds) cl := by
    have hu' : ∀ d, d ∈ ds → X.A.in1.in1.units + d.depth < cLine := fun d hd => hdep d hd
    rcases hk with hk | ⟨xss, rfl⟩
    · exact SortsAt.data er' alk hk hu'
    · exact sortsAt_empty er' alk hu'
  refine sorted_vals hl.isList S hz' ?_
  have out := sortVals_data (enc := id) false e (h' := sortingHeap (copyHeap s.heap cl) (s.heap.objs.size + 1) cl) er' (by rw [eid]; exact alk)
  rw [eid] at out
  obtain ⟨ws, w1, w2⟩ := eachVals out
  obtain ⟨ep, he'⟩ := PyProof.Rows.sortedAll_at s.heap cl (List.toArray (sortVals (dataKind (sortingHeap (copyHeap s.heap cl) (s.heap.objs.size + 1) cl) ds) false cl cl))
  have hlen : ws.length ≤ sizeLine := by
    rw [w2.length, (List.mergeSort_perm _ _).length_eq, ← hd.length]
    exact hz
  exact ⟨.ref _, upd H (s.heap.objs.size + 1) (.lst ws), J.laid (t' := s.toks) (fun _ _ => PyProof.Rows.sortedAll_old) (Nat.le_succ _) ⟨hlen, _, ep, w1, he'⟩, rfl, q _ ws (J.hok.fresh (Nat.le_succ _)) w2⟩
end
section
variable {X : Cx} {C : Cc} {L : List Addr} {ρ ρ1 ρ2 ρ3 : List Slot} {e a b c tg iter : Expr} {es : List Expr} {d d1 d2 : PyData} {pos p : Pos} {D : Ends} {σ : L2.St} {H : Hp}
theorem ev_sorted {ds : List PyData} (hm : X.mg "sorted" = none) (ha : EvD X C L ρ a (.list ds) ρ1) (ok : SortOk ds) (hu : ∀ d ∈ ds, X.A.units + 2 + d.depth < cLine) (hg : Gl X "sorted" := by rfl)
    (hst : starEach [a] X.env = (false, eval a X.env) :: starEach [] X.env := by rfl) (hpl : (backTo pos (starEach [] X.env)).any (·.1) = false := by rfl) : EvD X C L ρ (.Call (.Name "sorted" p) [a] [] pos) (.list (ds.mergeSort (dataLe false id))) ρ1 :=
  ev_b cr_sortedD hm boot_sorted (ea_one ha hst) (fun vs σ H S r Q q => by
    obtain ⟨v, rfl, r1⟩ := one_of r
    obtain ⟨p1, vs, rfl, h1, a1⟩ := dp_list r1
    exact ⟨p1, vs, ds, off H (C.M L), rfl, off_le, sqL_off h1, a1, ok, hu, fun l ws hl hw => q _ _ (same_new hl) (.lst (SqL.of (S.new_off hl)) (hw.mono (Same.off (same_new hl) _)))⟩) hg (by decide) (by decide) hst hpl
end
end Tk
end

section
namespace Tk
open L2 PyProof.Rows PySem PySem.Spec
open PySem.W (AlikeAll minD min_list_data min_list_default)
section
variable {X : Cx}
theorem vals_at {vs : List V} {us : List Value} (h : Vals vs us) : ∀ {i : Nat} {u : Value}, us[i]? = some u → ∃ v, vs[i]? = some v ∧ RelV v u := by
  induction h with
  | nil => intro i u e; simp at e
  | cons r t ih =>
    intro i u e
    cases i with
    | zero =>
      have e' := Option.some.inj (show some _ = some _ from e)
      subst e'
      exact ⟨_, rfl, r⟩
    | succ i => exact ih (i := i) (by simpa using e)
theorem cr_minD (hc : X.calm = true) : CallR X (.builtin "min") (fun xs H Q => ∃ (a : Addr) (vs : List V) (x : PyData) (ds : List PyData) (G : Hp), xs = [.ref a] ∧ Same G H ∧ SqL X.K H a vs ∧ DpAll X.K G vs (x :: ds) ∧ AlikeAll (x :: ds) ∧
    X.A.units + 1 + PyData.depthAll (x :: ds) < cLine ∧ ∀ v, Dp X.K G v (minD x ds) → Q v H) := by
  intro pn s σ H xs us Q J r h
  obtain ⟨a, vs, x, ds, G, rfl, hG, hs, hd, hal, hu, q⟩ := h
  obtain ⟨cl, rd, hl, hz⟩ := J.list hs
  rw [Vals.ref1 r]
  obtain ⟨as, ra⟩ := Dp.readsAll J (x :: ds) vs cl (DpAll.mono hG hd) rd
  refine min_list_data (J.ok.hd hc) hl.isList (by simpa using ra) hal hu fun i v h' tk bs hv hb hk => ?_
  have hv' : cl[i]? = some v := by simpa using hv
  obtain ⟨y, hy, ry⟩ := vals_at rd hv'
  obtain ⟨d, hd', dd⟩ := hd.at' hy
  have J' : Inv X pn σ H { s with heap := h', toks := tk } := J.kept hk
  obtain ⟨as', rr⟩ := Dp.reads J' d y v (Dp.mono hG dd) ry
  have := PySem.SeqAt.plain_unique d _ v as' bs dd.plain rr hb
  subst this
  exact ⟨y, H, J', ry, q y dd⟩
theorem crk_minDef (hc : X.calm = true) : CallRK X (.builtin "min") [Str.ofString "default"] (fun xs zs H Q => ∃ (a : Addr) (vs : List V) (ds : List PyData) (G : Hp) (z : V), xs = [.ref a] ∧ zs = [z] ∧ Same G H ∧ SqL X.K H a vs ∧ DpAll X.K G vs ds ∧ AlikeAll ds ∧
    X.A.units + 1 + PyData.depthAll ds < cLine ∧ (ds = [] → Q z H) ∧ ∀ v y ys, ds = y :: ys → Dp X.K G v (minD y ys) → Q v H) := by
  intro pn s σ H xs zs us ws Q J r rz h
  obtain ⟨a, vs, ds, G, z, rfl, rfl, hG, hs, hd, hal, hu, q0, q⟩ := h
  obtain ⟨cl, rd, hl, hz⟩ := J.list hs
  rw [Vals.ref1 r]
  obtain ⟨wz, rfl, rwz⟩ := vals1 rz
  obtain ⟨as, ra⟩ := Dp.readsAll J ds vs cl (DpAll.mono hG hd) rd
  show wpAny _ _ (call (.builtin "min") [.ref a] [(Str.ofString "default", wz)]) _ _ _
  refine min_list_default (J.ok.hd hc) hl.isList (by simpa using ra) hal hu (fun e h' tk hk => ⟨z, H, J.kept hk, rwz, q0 e⟩) fun y ys i v h' tk bs e hv hb hk => ?_
  have hv' : cl[i]? = some v := by simpa using hv
  obtain ⟨y', hy, ry⟩ := vals_at rd hv'
  obtain ⟨d, hd', dd⟩ := hd.at' hy
  have J' : Inv X pn σ H { s with heap := h', toks := tk } := J.kept hk
  obtain ⟨as', rr⟩ := Dp.reads J' d y' v (Dp.mono hG dd) ry
  have := PySem.SeqAt.plain_unique d _ v as' bs dd.plain rr hb
  subst this
  exact ⟨y', H, J', ry, q y' y ys e dd⟩
end
section
variable {X : Cx} {C : Cc} {L : List Addr} {ρ ρ1 ρ2 ρ3 : List Slot} {e a b c tg iter : Expr} {es : List Expr} {d d1 d2 : PyData} {pos p : Pos} {D : Ends} {σ : L2.St} {H : Hp}
theorem ev_minD {x : PyData} {ds : List PyData} (hc : X.calm = true) (hm : X.mg "min" = none) (ha : EvD X C L ρ a (.list (x :: ds)) ρ1) (hal : AlikeAll (x :: ds)) (hu : X.A.units + 1 + PyData.depthAll (x :: ds) < cLine) (hg : Gl X "min" := by rfl)
    (hst : starEach [a] X.env = (false, eval a X.env) :: starEach [] X.env := by rfl) (hpl : (backTo pos (starEach [] X.env)).any (·.1) = false := by rfl) : EvD X C L ρ (.Call (.Name "min" p) [a] [] pos) (minD x ds) ρ1 :=
  ev_b (cr_minD hc) hm boot_min (ea_one ha hst) (fun vs σ H S r Q q => by
    obtain ⟨v, rfl, r1⟩ := one_of r
    obtain ⟨p1, vs, rfl, h1, a1⟩ := dp_list r1
    exact ⟨p1, vs, x, ds, off H (C.M L), rfl, off_le, sqL_off h1, a1, hal, hu, fun v hv => q v H (Same.refl H) hv⟩) hg (by decide) (by decide) hst hpl
/-- min(x, default=d) -/
def minDef (d : PyData) : List PyData → PyData
  | [] => d
  | y :: ys => minD y ys
theorem ev_minDef {ds : List PyData} {kpos : Pos} (hc : X.calm = true) (hm : X.mg "min" = none) (ha : EvD X C L ρ a (.list ds) ρ1) (hb : EvD X C L ρ1 b d ρ2) (hal : AlikeAll ds) (hu : X.A.units + 1 + PyData.depthAll ds < cLine) (hg : Gl X "min" := by rfl)
    (hst : starEach [a] X.env = (false, eval a X.env) :: starEach [] X.env := by rfl) (he : backTo pos (starEach [a] X.env) = (false, eval a X.env) :: backTo pos (starEach [] X.env) := by rfl) (hpl : (backTo pos (starEach [a] X.env)).any (·.1) = false := by rfl)
    (hall : (backToKw pos (keywordEach [⟨some "default", b, kpos⟩] X.env)).all (·.1.isSome) = true := by rfl) (hnone : (backToKw pos (keywordEach [⟨some "default", b, kpos⟩] X.env)).any (·.1.isNone) = false := by rfl)
    (hks : (backToKw pos (keywordEach [⟨some "default", b, kpos⟩] X.env)).filterMap (·.1) = [Str.ofString "default"] := by rfl) : EvD X C L ρ (.Call (.Name "min" p) [a] [⟨some "default", b, kpos⟩] pos) (minDef d ds) ρ2 := fun σ H S Q q => by
  refine le_E (pe_callBK (crk_minDef hc) hg hm boot_min pa_tA (pk_cons pe_tE pk_nil) (by decide) (by decide) he hpl hall hnone hks) ?_
  refine ea_one ha hst σ H S _ fun vs H1 S1 f1 r1 => hb σ H1 S1 _ fun z H2 S2 f2 r2 => ?_
  obtain ⟨v, rfl, r3⟩ := one_of r1
  obtain ⟨p1, vs, rfl, h1, a1⟩ := dp_list (r3.mono f2)
  refine ⟨p1, vs, ds, off H2 (C.M L), z, rfl, rfl, off_le, sqL_off h1, a1, hal, hu, fun e => q z H2 S2 (f1.trans f2) ?_, fun v y ys e hv => q v H2 S2 (f1.trans f2) ?_⟩
  · subst e; exact r2
  · subst e; exact hv

/-! ### isinstance -/
theorem isi_aux {i : Int} {t T : String} {k : Bool} {x : Str} {p p2 : Pos} (hm : X.mg "isinstance" = none) (hm2 : X.mg x = none) (hg : Gl X "isinstance") (hg2 : Gl X x) (hv : bootBuiltins x = some (.type T)) (hk : kitB "int" T = some k) (ha : EvD X C L ρ a (.int i) ρ1)
    (hn : x ≠ "__name__") (hdb : (x == ("__debug__" : Str)) = false)
    (hst : starEach [a, .Name x p2] X.env = (false, eval a X.env) :: starEach [.Name x p2] X.env) (hst2 : starEach [.Name x p2] X.env = (false, eval (.Name x p2) X.env) :: starEach [] X.env) (hpl : (backTo pos (starEach [.Name x p2] X.env)).any (·.1) = false) :
    EvD X C L ρ (.Call (.Name "isinstance" p) [a, .Name x p2] [] pos) (.bool k) ρ1 := fun σ H S Q q => by
  refine le_E (pe_callB call_isi hg hm boot_isinstance (pa_cons pe_tE (pa_cons (pe_bltn (v := .ty T) hg2 hm2 hv rfl hn hdb) pa_nil hst2) hst) (by decide) (by decide) hst hpl) ?_
  refine ha σ H S _ fun v H1 S1 f1 r1 => ?_
  refine ⟨v, .ty T, .type "int", .type T, k, rfl, .ty T, .base ?_, kit_ty hk, q _ H1 S1 f1 (.bl _)⟩
  rw [dp_int r1]
  exact .int i
theorem ev_isInt {i : Int} {p p2 : Pos} (hm : X.mg "isinstance" = none) (hm2 : X.mg "int" = none) (ha : EvD X C L ρ a (.int i) ρ1) (hg : Gl X "isinstance" := by rfl) (hg2 : Gl X "int" := by rfl)
    (hst : starEach [a, .Name "int" p2] X.env = (false, eval a X.env) :: starEach [.Name "int" p2] X.env := by rfl) (hst2 : starEach [.Name "int" p2] X.env = (false, eval (.Name "int" p2) X.env) :: starEach [] X.env := by rfl) (hpl : (backTo pos (starEach [.Name "int" p2] X.env)).any (·.1) = false := by rfl) :
    EvD X C L ρ (.Call (.Name "isinstance" p) [a, .Name "int" p2] [] pos) (.bool true) ρ1 := isi_aux (t := "int") hm hm2 hg hg2 PyProof.Rows.boot_int (by decide +kernel) ha (by decide) (by decide) hst hst2 hpl
theorem ev_isBool {i : Int} {p p2 : Pos} (hm : X.mg "isinstance" = none) (hm2 : X.mg "bool" = none) (ha : EvD X C L ρ a (.int i) ρ1) (hg : Gl X "isinstance" := by rfl) (hg2 : Gl X "bool" := by rfl)
    (hst : starEach [a, .Name "bool" p2] X.env = (false, eval a X.env) :: starEach [.Name "bool" p2] X.env := by rfl) (hst2 : starEach [.Name "bool" p2] X.env = (false, eval (.Name "bool" p2) X.env) :: starEach [] X.env := by rfl) (hpl : (backTo pos (starEach [.Name "bool" p2] X.env)).any (·.1) = false := by rfl) :
    EvD X C L ρ (.Call (.Name "isinstance" p) [a, .Name "bool" p2] [] pos) (.bool false) ρ1 := isi_aux (t := "int") hm hm2 hg hg2 PyProof.Rows.boot_bool (by decide +kernel) ha (by decide) (by decide) hst hst2 hpl

/-! ### len(set(list of ints)) -/
def distinct (ns : List Int) : List Int := PyProof.Rows.firstMet (fun i => ns.getD i 0) ns.length
theorem ev_lenSet {ns : List Int} {p p2 p3 : Pos} (hc : X.calm = true) (hm : X.mg "len" = none) (hm2 : X.mg "set" = none) (ha : EvD X C L ρ a (.list (ns.map .int)) ρ1) (hn : ns.length ≤ 4000) (hg : Gl X "len" := by rfl) (hg2 : Gl X "set" := by rfl)
    (na : starEach [a] X.env = (false, eval a X.env) :: starEach [] X.env := by rfl) : EvD X C L ρ (.Call (.Name "len" p) [.Call (.Name "set" p2) [a] [] p3] [] pos) (.int ((distinct ns).length : Nat)) ρ1 := fun σ H S Q q => by
  intro pn s J
  refine Call_ (ld_blt J hg hm boot_len ?_)
  apply PyProof.Rows.callWith_builtin1 (PyProof.Rows.args_cons ?_ rfl) rfl rfl
  refine Call_ (ld_blt J hg2 hm2 boot_set ?_)
  refine PyProof.Rows.callWith_type1 (PyProof.Rows.args_cons (thn (ha σ H S (fun v H1 => ∃ l, v = .ref l ∧ SqL X.K H1 l (ns.map V.int) ∧ Q (.int ((distinct ns).length : Nat)) H1) (fun v H1 S1 f1 r1 => by
    obtain ⟨l, rfl, h1⟩ := dp_ints r1
    exact ⟨l, rfl, h1, q _ H1 S1 f1 (.int _)⟩) pn s J) fun v s1 ⟨x, H1, J1, r1, q1⟩ => PyProof.Rows.args_nil ?_) na) na rfl
  obtain ⟨l, rfl, hq, q1⟩ := q1
  cases r1
  obtain ⟨cl, r, pl, hz⟩ := J1.list hq
  have hlen : cl.toArray.size = ns.length := by rw [List.size_toArray, ← r.length, List.length_map]
  refine call_set_list (J1.ok.hd hc) pl.isList (ns := ns) (by simpa using r.ints) (by rw [hlen]; unfold scanBound; omega) fun h' tk hS hk => ?_
  apply PyProof.Rows.args_nil
  rw [hlen] at hS
  obtain ⟨o, es, ep, t, ho, hex, hd, _, _, _, hf, hn'⟩ := hS
  have J2 : Inv X pn σ H1 { s1 with heap := h', toks := tk } := J1.kept fun b o e => hk b o (Heap.lt_size e) e
  have hle := PyProof.Rows.firstMet_length_le (fun i => ns.getD i 0) ns.length
  exact call_len_set ho hex hd hf (by rw [hn']; omega) ⟨.int ((distinct ns).length : Nat), H1, J2.tok _, ⟨_, by rw [hn']; rfl⟩, q1⟩

/-! ### new lists of one's own: name = list(tuple), name.extend([..]) -/
/-- name = list(tuple) -/
theorem go_ownList (i : Nat) {x : Str} {ds : List PyData} {p p2 p3 : Pos} (S : SitX X C L ρ σ H) (hm : X.mg "list" = none) (ha : EvD X C L ρ a (.tuple ds) ρ1) (k : ∀ q σ1 H1, SitX X C (q :: L) (ρ1.set i (.ml q ds)) σ1 H1 → D.nx σ1 H1)
    (hN : X.N.Nodup) (hi : X.N[i]? = some x := by rfl) (hn : i < C.n := by exact Nat.le_of_ble_eq_true rfl) (hx : Loc X.env.scope x := by first | exact Or.inl rfl | exact Or.inr rfl) (hs : swapsWith (.Call (.Name "list" p2) [a] [] p3) (some (.Name x p)) pos.line X.env = pure false := by rfl)
    (hf : X.fn x = true ∨ X.env.scope.names.lookup x = some .local := by first | exact .inl rfl | exact .inr rfl) (hg : Gl X "list" := by rfl)
    (hst : starEach [a] X.env = (false, eval a X.env) :: starEach [] X.env := by rfl) (hpl : (backTo p3 (starEach [] X.env)).any (·.1) = false := by rfl) : tS X (.Assign [.Name x p] (.Call (.Name "list" p2) [a] [] p3) pos) D σ H := by
  refine le_S (ps_set hN hi hx (pe_callTy call_list_of hg hm PyProof.Rows.boot_list pa_tA (by decide) (by decide) hst hpl) hs hf) ?_
  refine ea_one ha hst σ H S _ fun vs H1 S1 f1 r1 => ?_
  obtain ⟨v, rfl, r2⟩ := one_of r1
  obtain ⟨p1, vs, rfl, h1, a1⟩ := dp_tup r2
  refine ⟨p1, vs, rfl, .inr (sqT_off h1), fun q hq => k q _ _ ?_⟩
  refine (S1.new hq).put (s := .ml q ds) ⟨rfl, by simp, vs, upd_same, ?_⟩ hn fun p' e j t ne h => ?_
  · rw [show off (upd H1 q (.lst vs)) (C.M (q :: L)) = off H1 (C.M L) from off_new hq _]
    exact a1
  · cases e
    exact slot_new S1 hq j t h
/-- name.extend(new list) -/
theorem go_ext (i : Nat) {x : Str} {p p2 p3 : Pos} {q : Addr} {ds es : List PyData} (S : SitX X C L ρ σ H) (he : EvF X C L ρ e es ρ1) (hr : ρ1[i]? = some (.ml q ds) := by rfl) (hr0 : ∃ ds0, ρ[i]? = some (.ml q ds0) := by exact ⟨_, rfl⟩) (hq : q ∈ L := by simp) (hz : ds.length + es.length ≤ sizeLine)
    (k : ∀ H1, SitX X C L (ρ1.set i (.ml q (ds ++ es))) σ H1 → D.nx σ H1)
    (hi : X.N[i]? = some x := by rfl) (hv : Vis X.env.scope x := by first | exact Or.inl rfl | exact Or.inr (Or.inl rfl) | exact Or.inr (Or.inr rfl))
    (hd : (x == ("__debug__" : Str)) = false := by decide)
    (hcd : (x == ("__classdict__" : Str)) = false := by decide)
    (hbase : attributeBase (.Name x p) "extend" X.env (eval (.Name x p) X.env) = eval (.Name x p) X.env := by rfl)
    (hfew : ((backTo pos (starEach [e] X.env)).all (fun x => !x.1) && (backToKw pos (keywordEach [] X.env)).all (fun x => x.1.isSome)
      && decide ([e].length + ([] : List Keyword).length + (if ([] : List Keyword).isEmpty then 0 else 1) < 30)) = true := by rfl)
    (hline : (p2.endLine == pos.line) = true := by rfl) (hst : starEach [e] X.env = (false, eval e X.env) :: starEach [] X.env := by rfl) (hpl : (backTo pos (starEach [] X.env)).any (·.1) = false := by rfl)
    (hsw : swapsWith (.Call (.Attribute (.Name x p) "extend" p2) [e] [] pos) none p3.line X.env = pure false := by rfl) :
    tS X (.Expr (.Call (.Attribute (.Name x p) "extend" p2) [e] [] pos) p3) D σ H := by
  refine le_S (ps_expr (pe_bm PySem.F.plainAttrs_list PySem.F.slot_list_extend PySem.F.type_list_extend mt_extend (pe_var hi hv hd hcd) (pa_cons pe_tE pa_nil hst) hbase hfew hline hst hpl) hsw) ?_
  obtain ⟨ds0, hr0⟩ := hr0
  obtain ⟨e1, m1, vs0, h1, a1⟩ := S.slots i _ hr0
  refine ⟨_, e1, .inl ⟨rfl, vs0, SqL.of h1⟩, ?_⟩
  refine he σ H S _ fun b zs H1 S1 f1 hb r1 => ?_
  obtain ⟨e2, m2, vs, h2, a2⟩ := S1.slots i _ hr
  refine ⟨q, b, vs, zs, rfl, rfl, h2, (off_some.mp hb).2, by rw [a2.length, r1.length]; exact hz, k _ ?_⟩
  have hi' : i < ρ1.length := (List.getElem?_eq_some_iff.mp hr).1
  refine S1.write hq (fun j s h => ?_) fun j1 j2 s t h1 h2 b1 b2 => ?_
  · rcases set_get h with ⟨rfl, rfl⟩ | ⟨ne, h'⟩
    · refine .inl ⟨rfl, e2, m2, vs ++ zs, upd_same, ?_⟩
      rw [off_upd m2]
      exact a2.append r1
    · exact .inr ⟨fun z => ne (S1.inj i j _ s q hr h' rfl z), h'⟩
  · rcases set_get h1 with ⟨rfl, rfl⟩ | ⟨n1, h1'⟩
    · rcases set_get h2 with ⟨rfl, rfl⟩ | ⟨n2, h2'⟩
      · rfl
      · exact S1.inj _ _ _ t q hr h2' rfl b2
    · rcases set_get h2 with ⟨rfl, rfl⟩ | ⟨n2, h2'⟩
      · exact S1.inj _ _ s _ q h1' hr b1 rfl
      · exact S1.inj _ _ s t q h1' h2' b1 b2
end
end Tk
end

section
namespace Tk
open L2 PyProof.Rows PySem PySem.Spec

/-! ### dicts by keys: plain -/
/-- a dict's entries -/
abbrev Es := List (NestedKey × Addr × V)
abbrev Kvs := List (NestedKey × PyData)
def esGet (es : Es) (k : NestedKey) : Option (Addr × V) := (es.find? fun e => decide (e.1 = k)).map (·.2)
def esPut (es : Es) (k : NestedKey) (b : Addr) (v : V) : Es := if (esGet es k).isSome then es.map (fun e => if e.1 = k then (e.1, e.2.1, v) else e) else es ++ [(k, b, v)]
def dget (kvs : Kvs) (k : NestedKey) : Option PyData := (kvs.find? fun e => decide (e.1 = k)).map (·.2)
def dput (kvs : Kvs) (k : NestedKey) (d : PyData) : Kvs := if (dget kvs k).isSome then kvs.map (fun e => if e.1 = k then (e.1, d) else e) else kvs ++ [(k, d)]

def RelE (e : NestedKey × Addr × V) (x : NestedKey × Addr × Value) : Prop := e.1 = x.1 ∧ e.2.1 = x.2.1 ∧ RelV e.2.2 x.2.2
theorem relE_get {k : NestedKey} : ∀ {es : Es} {xs : List (NestedKey × Addr × Value)}, Paired RelE es xs → (∀ p, esGet es k = some p → ∃ u, atKey xs k = some (p.1, u) ∧ RelV p.2 u) ∧ (esGet es k = none → atKey xs k = none)
  | _, _, .nil => ⟨fun p h => (nomatch h), fun _ => rfl⟩
  | _, _, .cons (a := e) (b := x) (l₁ := es) (l₂ := xs) h t => by
    obtain ⟨h1, h2, h3⟩ := h
    obtain ⟨i1, i2⟩ := relE_get (k := k) t
    by_cases z : e.1 = k
    · have a1 : esGet (e :: es) k = some e.2 := by unfold esGet; rw [List.find?_cons_of_pos (by simpa using z)]; rfl
      have a2 : atKey (x :: xs) k = some x.2 := by unfold atKey; rw [List.find?_cons_of_pos (by rw [← h1]; simpa using z)]; rfl
      refine ⟨fun p hp => ?_, fun hn => by rw [a1] at hn; cases hn⟩
      rw [a1] at hp
      cases hp
      exact ⟨x.2.2, by rw [a2, h2], h3⟩
    · have a1 : esGet (e :: es) k = esGet es k := by unfold esGet; rw [List.find?_cons_of_neg (by simpa using z)]
      have a2 : atKey (x :: xs) k = atKey xs k := by unfold atKey; rw [List.find?_cons_of_neg (by rw [← h1]; simpa using z)]
      rw [a1, a2]
      exact ⟨i1, i2⟩
theorem relE_isSome {k : NestedKey} {es : Es} {xs : List (NestedKey × Addr × Value)} (h : Paired RelE es xs) : (atKey xs k).isSome = (esGet es k).isSome := by
  obtain ⟨h1, h2⟩ := relE_get (k := k) h
  cases q : esGet es k with
  | none => rw [h2 q]; rfl
  | some p =>
    obtain ⟨u, e, _⟩ := h1 p q
    rw [e]; rfl
theorem relE_put {k : NestedKey} {b : Addr} {v : V} {u : Value} {es : Es} {xs : List (NestedKey × Addr × Value)} (h : Paired RelE es xs) (r : RelV v u) : Paired RelE (esPut es k b v) (storedH xs k b u) := by
  unfold esPut storedH
  rw [relE_isSome h]
  by_cases z : (esGet es k).isSome = true
  · rw [if_pos z, if_pos z]
    clear z
    induction h with
    | nil => exact .nil
    | cons h t ih =>
      refine .cons ?_ ih
      obtain ⟨h1, h2, h3⟩ := h
      unfold putAt
      rw [← h1]
      dsimp only
      split
      · exact ⟨rfl, h2, r⟩
      · exact ⟨h1, h2, h3⟩
  · rw [if_neg z, if_neg z]
    exact paired_append h (.cons ⟨rfl, rfl, r⟩ .nil)
def DicR (K : PySem.W.Frag) (H : Hp) (kv : NestedKey × PyData) (e : NestedKey × Addr × V) : Prop := kv.1 = e.1 ∧ e.1.depth ≤ 8 ∧ Dp K H (.ref e.2.1) kv.1.data ∧ Dp K H e.2.2 kv.2
theorem dicE_get {K : PySem.W.Frag} {H : Hp} {k : NestedKey} : ∀ {kvs : Kvs} {es : Es}, DicE K H kvs es → (∀ d, dget kvs k = some d → ∃ p, esGet es k = some p ∧ Dp K H p.2 d) ∧ (dget kvs k = none → esGet es k = none)
  | _, _, .nil => ⟨fun p h => (nomatch h), fun _ => rfl⟩
  | _, _, .cons (a := e) (b := x) (l₁ := es) (l₂ := xs) h t => by
    obtain ⟨h1, h2, h3, h4⟩ := h
    obtain ⟨i1, i2⟩ := dicE_get (k := k) t
    by_cases z : e.1 = k
    · have a1 : dget (e :: es) k = some e.2 := by unfold dget; rw [List.find?_cons_of_pos (by simpa using z)]; rfl
      have a2 : esGet (x :: xs) k = some x.2 := by unfold esGet; rw [List.find?_cons_of_pos (by rw [← h1]; simpa using z)]; rfl
      refine ⟨fun p hp => ?_, fun hn => by rw [a1] at hn; cases hn⟩
      rw [a1] at hp
      cases hp
      exact ⟨x.2, a2, h4⟩
    · have a1 : dget (e :: es) k = dget es k := by unfold dget; rw [List.find?_cons_of_neg (by simpa using z)]
      have a2 : esGet (x :: xs) k = esGet xs k := by unfold esGet; rw [List.find?_cons_of_neg (by rw [← h1]; simpa using z)]
      rw [a1, a2]
      exact ⟨i1, i2⟩
theorem dicE_isSome {K : PySem.W.Frag} {H : Hp} {k : NestedKey} {kvs : Kvs} {es : Es} (h : DicE K H kvs es) : (esGet es k).isSome = (dget kvs k).isSome := by
  obtain ⟨h1, h2⟩ := dicE_get (k := k) h
  cases q : dget kvs k with
  | none => rw [h2 q]; rfl
  | some p =>
    obtain ⟨u, e, _⟩ := h1 p q
    rw [e]; rfl
theorem dicE_put {K : PySem.W.Frag} {H : Hp} {k : NestedKey} {b : Addr} {v : V} {d : PyData} {kvs : Kvs} {es : Es} (h : DicE K H kvs es) (hk : k.depth ≤ 8) (hb : Dp K H (.ref b) k.data) (r : Dp K H v d) : DicE K H (dput kvs k d) (esPut es k b v) := by
  unfold esPut dput
  rw [dicE_isSome h]
  by_cases z : (dget kvs k).isSome = true
  · rw [if_pos z, if_pos z]
    clear z
    unfold DicE at h ⊢
    induction h with
    | nil => exact .nil
    | cons h t ih =>
      refine .cons ?_ ih
      obtain ⟨h1, h2, h3, h4⟩ := h
      dsimp only
      rw [← h1]
      split
      · exact ⟨rfl, by rw [h1]; exact h2, h3, r⟩
      · exact ⟨h1, h2, h3, h4⟩
  · rw [if_neg z, if_neg z]
    exact paired_append h (.cons ⟨rfl, hk, hb, r⟩ .nil)
theorem esPut_len (es : Es) (k : NestedKey) (b : Addr) (v : V) : (esPut es k b v).length ≤ es.length + 1 := by
  unfold esPut
  split
  · rw [List.length_map]; omega
  · rw [(List.length_append)]; simp

/-! ### keys -/
mutual
theorem nested_of {h : Heap} : ∀ (k : NestedKey) (u : Value) (as : List Addr), Reads h u k.data as → NestedIs h k u
  | .none, _, _, r => by
    have r' : Reads h _ PyData.none _ := r
    cases r'
    exact .none
  | .num i, _, _, r => by
    have r' : Reads h _ (PyData.int i) _ := r
    cases r'
    exact .int _ _
  | .text x, _, _, r => by
    have r' : Reads h _ (PyData.str x) _ := r
    cases r'
    exact .text _ _
  | .tup ks, _, _, r => by
    have r' : Reads h _ (PyData.tuple (NestedKey.datas ks)) _ := r
    cases r' with
    | tuple h1 h2 h3 h4 => exact .tup h1 h2 h3 (nested_all ks _ _ h4)
theorem nested_all {h : Heap} : ∀ (ks : List NestedKey) (us : List Value) (as : List Addr), ReadsAll h us (NestedKey.datas ks) as → NestedAll h ks us
  | [], _, _, r => by
    have none' : ReadsAll h _ [] _ := r
    cases none'
    exact .nil
  | k :: ks, _, _, r => by
    have r' : ReadsAll h _ (k.data :: NestedKey.datas ks) _ := r
    cases r' with
    | cons h1 h2 => exact .cons (nested_of k _ _ h1) (nested_all ks _ _ h2)
end

section
variable {X : Cx} {pn : List (Addr × Obj)} {σ : L2.St} {H : Hp} {s : Shared}
/-- what the concrete heap holds where a dict stands -/
theorem dic_of {a : Addr} {kvs : Kvs} {es : Es} {o : Obj} (J : Inv X pn σ H s) (h : Rd H a (dicO X.prog X.w a es o)) (hd : DicE X.K H kvs es) :
    ∃ xs es' ep, Paired RelE es xs ∧ (a == sysModules) = false ∧ es.length ≤ sizeLine ∧ s.heap.get? a = some o ∧ o.ExactDict ∧ o.data = .dict es' ep ∧ es'.toList = xs.map (entryOfKey (nestedKind X.prog X.w)) ∧ (xs.map (·.1)).Nodup ∧ s.heap.DictOfH (nestedKind X.prog X.w) a xs := by
  obtain ⟨⟨xs, h1, h2, h3, es', ep, h4, h5, h6, h7, h8⟩, _⟩ := (show ObjOk X.prog X.w H s.heap a (dicO X.prog X.w a es o) from h.ok J.hok)
  refine ⟨xs, es', ep, h1, h2, h3, h4, h5, h6, h7, h8, o, es', ep, h4, h5, h6, h7, ?_, h8⟩
  clear h2 h3 h4 h5 h6 h7 h8
  intro x hx
  have h1' : Paired RelE es xs := h1
  unfold DicE at hd
  clear h1 h
  rename_i hext
  clear hext
  induction h1' generalizing kvs with
  | nil => exact absurd hx List.not_mem_nil
  | cons r t ih =>
    cases hd with
    | cons q k =>
      rcases List.mem_cons.mp hx with rfl|hx
      · obtain ⟨q1, q2, q3, q4⟩ := q
        obtain ⟨r1, r2, r3⟩ := r
        obtain ⟨as, rr⟩ := Dp.reads J _ _ (.ref x.2.1) q3 (by rw [r2]; rfl)
        rw [q1, r1] at rr
        exact ⟨nested_of _ _ _ rr, by rw [← r1]; exact q2⟩
      · exact ih k hx
theorem key_is {b : Addr} {k : NestedKey} (J : Inv X pn σ H s) (h : Dp X.K H (.ref b) k.data) (hk : k.depth ≤ 8) : (nestedKind X.prog X.w).is s.heap k b := by
  obtain ⟨as, rr⟩ := Dp.reads J _ _ (.ref b) h rfl
  exact ⟨nested_of _ _ _ rr, hk⟩
end

/-! ### readings -/
section
variable {X : Cx} {C : Cc} {L : List Addr} {ρ ρ1 ρ2 ρ3 : List Slot} {e a b c tg iter : Expr} {es : List Expr} {d d1 d2 : PyData} {pos p : Pos} {D : Ends} {σ : L2.St} {H : Hp} {kvs : Kvs} {k : NestedKey}
/-- d[k], by values -/
def rGetX (X : Cx) : R2 := fun x y H Q => ∃ a b kvs es o k d, x = .ref a ∧ y = .ref b ∧ Rd H a (dicO X.prog X.w a es o) ∧ DicE X.K H kvs es ∧ Dp X.K H (.ref b) k.data ∧ k.depth ≤ 8 ∧ dget kvs k = some d ∧ ∀ v p, esGet es k = some (p, v) → Q v H
theorem pe_getX {ta tb : TE} (hu : X.A.units + 9 < cLine) (he : PE X a ta) (hi : PE X b tb) (hs : NoSl b) : PE X (.Subscript a b pos) (tOp (rGetX X) ta tb) := by
  refine ⟨fun pn s σ H Q J h => ?_⟩
  refine subD_of PySem.F.slot_dict_getitem.lookup hs ?_
  refine thn (he.run pn s σ H _ J h) fun u s1 ⟨x, H1, J1, rx, q1⟩ => thn (hi.run pn s1 σ H1 _ J1 q1) fun iv s2 ⟨y, H2, J2, ry, q2⟩ => ?_
  obtain ⟨a', b', kvs, es, o, k, d, rfl, rfl, hr, hd, hb, hk, hg, q⟩ := q2
  cases (show u = Value.ref a' from rx)
  cases (show iv = Value.ref b' from ry)
  obtain ⟨xs, es', ep, h1, h2, h3, h4, h5, h6, h7, h8, h9⟩ := dic_of J2 hr hd
  obtain ⟨p, hp, _⟩ := (dicE_get hd).1 d hg
  obtain ⟨w, hw, rw'⟩ := (relE_get h1).1 p hp
  exact ⟨h9.typeIs, wpAny_getItem_heap (show X.A.in1.units + 8 < cLine by show X.A.units + 1 + 8 < cLine; omega) (key_is J2 hb hk) h9 hw ⟨p.2, H2, J2.tok _, rw', q p.2 p.1 hp⟩⟩
theorem dp_ref {K : PySem.W.Frag} {H : Hp} {v : V} {ks : List NestedKey} (h : Dp K H v (NestedKey.tup ks).data) : ∃ b, v = .ref b := by
  have h' : Dp K H v (.tuple (NestedKey.datas ks)) := h
  cases h' with
  | tup h1 h2 => exact ⟨_, rfl⟩
/-- d[k] of a dict that stands still -/
theorem ev_dget {ks : List NestedKey} (hu : X.A.units + 9 < cLine) (ha : EvE X C L ρ a (.dic kvs) ρ1) (hb : EvD X C L ρ1 b (NestedKey.tup ks).data ρ2) (hk : (NestedKey.tup ks).depth ≤ 8) (hg : dget kvs (.tup ks) = some d) (hs : NoSl b := by exact fun _ _ => rfl) : EvD X C L ρ (.Subscript a b pos) d ρ2 := fun σ H S Q q => by
  refine le_E (pe_getX hu pe_tE pe_tE hs) ?_
  refine ha σ H S _ fun v H1 S1 fa1 r1 => hb σ H1 S1 _ fun y H2 S2 fa2 r2 => ?_
  obtain ⟨p1, es, o, rfl, h1, h2⟩ := r1.mono fa2
  obtain ⟨b', rfl⟩ := dp_ref r2
  refine ⟨p1, b', kvs, es, o, _, d, rfl, rfl, rd_mono off_le h1, h2.mono off_le, Dp.mono off_le r2, hk, hg, fun v p hp => q v H2 S2 (fa1.trans fa2) ?_⟩
  obtain ⟨p', hp', r⟩ := (dicE_get h2).1 d hg
  rw [hp] at hp'
  cases hp'
  exact r
/-- name[k], the dict being one's own -/
theorem ev_mdget (i : Nat) {x : Str} {q : Addr} {ks : List NestedKey} (hu : X.A.units + 9 < cLine) (hr : ρ1[i]? = some (.md q kvs)) (hr0 : ∃ kvs0, ρ[i]? = some (.md q kvs0)) (hb : EvD X C L ρ b (NestedKey.tup ks).data ρ1) (hk : (NestedKey.tup ks).depth ≤ 8) (hg : dget kvs (.tup ks) = some d)
    (hi : X.N[i]? = some x := by rfl) (hv : Vis X.env.scope x := by first | exact Or.inl rfl | exact Or.inr (Or.inl rfl) | exact Or.inr (Or.inr rfl))
    (hd : (x == ("__debug__" : Str)) = false := by decide) (hcd : (x == ("__classdict__" : Str)) = false := by decide) (hs : NoSl b := by exact fun _ _ => rfl) : EvD X C L ρ (.Subscript (.Name x p) b pos) d ρ1 := fun σ H S Q qq => by
  refine le_E (pe_getX hu (pe_var hi hv hd hcd) pe_tE hs) ?_
  obtain ⟨kvs0, hr0⟩ := hr0
  obtain ⟨e1, m1, es0, o0, g1, a1⟩ := S.slots i _ hr0
  refine ⟨_, e1, ?_⟩
  refine hb σ H S _ fun y H2 S2 fa2 r2 => ?_
  obtain ⟨e2, m2, es, o, g2, a2⟩ := S2.slots i _ hr
  obtain ⟨b', rfl⟩ := dp_ref r2
  refine ⟨q, b', kvs, es, o, _, d, rfl, rfl, .inl g2, a2.mono off_le, Dp.mono off_le r2, hk, hg, fun v p hp => qq v H2 S2 fa2 ?_⟩
  obtain ⟨p', hp', r⟩ := (dicE_get a2).1 d hg
  rw [hp] at hp'
  cases hp'
  exact r
/-- k not in d -/
theorem op_notInX (hu : X.A.units + 9 < cLine) : OpR X (compareOp .NotIn) (fun x y H Q => ∃ a b kvs es o k, x = .ref b ∧ y = .ref a ∧ Rd H a (dicO X.prog X.w a es o) ∧ DicE X.K H kvs es ∧ Dp X.K H (.ref b) k.data ∧ k.depth ≤ 8 ∧ Q (.bl (!(dget kvs k).isSome)) H) := by
  intro pn s σ H x y v u Q J rx ry h
  obtain ⟨a', b', kvs, es, o, k, rfl, rfl, hr, hd, hb, hk, q⟩ := h
  cases (show v = Value.ref b' from rx)
  cases (show u = Value.ref a' from ry)
  obtain ⟨xs, es', ep, h1, h2, h3, h4, h5, h6, h7, h8, h9⟩ := dic_of J hr hd
  show wpAny _ _ (do return Value.bool (!(← contains (.ref a') (.ref b')))) _ _ s
  refine wpAny_bind (wpAny_contains_heap (show X.A.in1.units + 8 < cLine by show X.A.units + 1 + 8 < cLine; omega) (key_is J hb hk) h2 h9 (wpAny_pure ?_))
  refine ⟨.bl _, H, J.tok _, ?_, q⟩
  rw [relE_isSome h1, dicE_isSome hd]
  exact rfl
theorem ev_notInX {ks : List NestedKey} (hu : X.A.units + 9 < cLine) (hb : EvD X C L ρ b (NestedKey.tup ks).data ρ1) (ha : EvE X C L ρ1 a (.dic kvs) ρ2) (hk : (NestedKey.tup ks).depth ≤ 8) (hm : behindInMarks .NotIn a = false := by rfl) : EvD X C L ρ (.Compare b [.NotIn] [a] pos) (.bool (!(dget kvs (.tup ks)).isSome)) ρ2 :=
  ev_cmp (op_notInX hu) hb ha (fun x y σ H S rx ry Q q => by
    obtain ⟨p1, es, o, rfl, h1, h2⟩ := ry
    obtain ⟨b', rfl⟩ := dp_ref rx
    exact ⟨p1, b', kvs, es, o, _, rfl, rfl, rd_mono off_le h1, h2.mono off_le, Dp.mono off_le rx, hk, q _ H (Same.refl H) (.bl _)⟩) hm

/-! ### new dicts, stores -/
theorem dic_new {P : Program} {w : World} {H : Hp} (h : Heap) (hb : sysModules < h.objs.size) : ObjOk P w H (h.push { cls := .type "dict", data := .dict #[] }) h.objs.size (dicO P w h.objs.size [] { cls := .type "dict", data := .dict #[] }) :=
  ⟨⟨[], .nil, beq_eq_false_iff_ne.mpr (Ne.symm (Nat.ne_of_lt hb)), Nat.zero_le _, #[], 0, Heap.get?_push_size _ rfl, ⟨rfl, rfl, rfl⟩, rfl, rfl, List.nodup_nil⟩, ⟨_, Heap.get?_push_size _ rfl⟩,
    fun h1 h2 ⟨xs, a1, a2, a3, es', ep, a4, a5⟩ k => ⟨xs, a1, a2, a3, es', ep, k _ a4, a5⟩⟩
def tDNewX (X : Cx) : TE := fun _ H Q => ∀ p, H p = none → Q (.ref p) (upd H p (dicO X.prog X.w p [] { cls := .type "dict", data := .dict #[] }))
theorem pe_dnewX : PE X (.Dict [] [] pos) (tDNewX X) := ⟨fun pn s σ H Q J h =>
  wpAny_Dict_empty ⟨.ref s.heap.objs.size, _, J.laid (a := s.heap.objs.size) (t' := s.toks) (fun _ _ q => Heap.get?_push_of_some _ q) (Nat.le_refl _) (dic_new s.heap J.big), rfl, h _ (J.hok.fresh (Nat.le_refl _))⟩⟩
/-- name = {} -/
theorem go_newD (i : Nat) {x : Str} {p pos' : Pos} (S : SitX X C L ρ σ H) (k : ∀ q σ1 H1, SitX X C (q :: L) (ρ.set i (.md q [])) σ1 H1 → D.nx σ1 H1)
    (hN : X.N.Nodup) (hi : X.N[i]? = some x := by rfl) (hn : i < C.n := by exact Nat.le_of_ble_eq_true rfl) (hx : Loc X.env.scope x := by first | exact Or.inl rfl | exact Or.inr rfl) (hs : swapsWith (.Dict [] [] pos') (some (.Name x p)) pos.line X.env = pure false := by rfl)
    (hf : X.fn x = true ∨ X.env.scope.names.lookup x = some .local := by first | exact .inl rfl | exact .inr rfl) : tS X (.Assign [.Name x p] (.Dict [] [] pos') pos) D σ H := by
  refine le_S (ps_set hN hi hx pe_dnewX hs hf) ?_
  refine fun q hq => k q _ _ ?_
  refine (S.new hq).put (s := .md q []) ⟨rfl, by simp, [], _, upd_same, .nil⟩ hn fun p' e j t ne h => ?_
  cases e
  exact slot_new S hq j t h
def rSetX (X : Cx) : V → V → V → Hp → (Hp → Prop) → Prop := fun x y v H Q => ∃ a b kvs es o k, x = .ref a ∧ y = .ref b ∧ H a = some (dicO X.prog X.w a es o) ∧ DicE X.K H kvs es ∧ Dp X.K H (.ref b) k.data ∧ k.depth ≤ 8 ∧ es.length < sizeLine ∧ ∀ o', Q (upd H a (dicO X.prog X.w a (esPut es k b v) o'))
theorem set_X (hu : X.A.units + 9 < cLine) : PSet X (rSetX X) := by
  intro pn s σ H x y v ov iv u Q J ro ri rl h
  obtain ⟨a', b', kvs, es, o, k, rfl, rfl, hr, hd, hb, hk, hl, q⟩ := h
  cases (show ov = Value.ref a' from ro)
  cases (show iv = Value.ref b' from ri)
  obtain ⟨xs, es', ep, h1, h2, h3, h4, h5, h6, h7, h8, h9⟩ := dic_of J (.inl hr) hd
  have hz : xs.length ≤ sizeLine := by rw [← Paired.length h1]; omega
  refine wpAny_setItem_heap (hsz := hz) (show X.A.in1.units + 8 < cLine by show X.A.units + 1 + 8 < cLine; omega) (key_is J hb hk) h9 fun h' dd' hs => ?_
  obtain ⟨o', es2, ep2, k1, k2, k3, k4, _, k5⟩ := dd'
  have hl' := esPut_len es k b' v
  exact ⟨_, d_write (ob := dicO X.prog X.w a' (esPut es k b' v) o') J (by rw [hr]; exact True.intro) hs ⟨o', k1⟩ ⟨⟨_, relE_put h1 rl, h2, by omega, es2, ep2, k1, k2, k3, k4, k5⟩, ⟨o', k1⟩, fun h1 h2 ⟨xs, a1, a2, a3, es', ep, a4, a5⟩ k => ⟨xs, a1, a2, a3, es', ep, k _ a4, a5⟩⟩, q o'⟩
/-- name[k] = e -/
theorem go_setD (i : Nat) {x : Str} {p p2 : Pos} {q : Addr} {ks : List NestedKey} {ix : Expr} (S : SitX X C L ρ σ H) (hu : X.A.units + 9 < cLine) (he : EvD X C L ρ e d ρ1) (hix : EvD X C L ρ1 ix (NestedKey.tup ks).data ρ2) (hk : (NestedKey.tup ks).depth ≤ 8) (hr : ρ2[i]? = some (.md q kvs)) (hr1 : ∃ kvs1, ρ1[i]? = some (.md q kvs1)) (hq : q ∈ L)
    (hz : kvs.length < sizeLine) (kk : ∀ H1, SitX X C L (ρ2.set i (.md q (dput kvs (.tup ks) d))) σ H1 → D.nx σ H1)
    (hi : X.N[i]? = some x := by rfl) (hv : Vis X.env.scope x := by first | exact Or.inl rfl | exact Or.inr (Or.inl rfl) | exact Or.inr (Or.inr rfl))
    (hd : (x == ("__debug__" : Str)) = false := by decide)
    (hcd : (x == ("__classdict__" : Str)) = false := by decide)
    (ha : ∀ v, assign (.Subscript (.Name x p) ix p2) X.env v = (do
      let ov ← holding [v] (eval (.Name x p) X.env)
      let iv ← holding [v, ov] (eval ix X.env)
      standAt p2
      PySem.holding [v, ov, iv] (setItem ov iv v)
      release [v, ov, iv] []) := by intro _; rfl)
    (hs : swapsWithSole [.Subscript (.Name x p) ix p2] e pos.line X.env = pure false := by rfl) (hw : swappedStores [.Subscript (.Name x p) ix p2] e X.env = pure none := by rfl)
    (h1 : (assignEach [.Subscript (.Name x p) ix p2] X.env).map (·.2) = [assign (.Subscript (.Name x p) ix p2) X.env] := by rfl) :
    tS X (.Assign [.Subscript (.Name x p) ix p2] e pos) D σ H := by
  refine le_S (ps_asg pe_tE (pg_sub (pe_var hi hv hd hcd) pe_tE (set_X hu) ha) hs hw h1) ?_
  obtain ⟨kvs1, hr1⟩ := hr1
  refine he σ H S _ fun v H1 S1 fa1 r1 => ?_
  obtain ⟨e1, m1, es1, o1, g1, a1⟩ := S1.slots i _ hr1
  refine ⟨_, e1, ?_⟩
  refine hix σ H1 S1 _ fun y H2 S2 fa2 r2 => ?_
  obtain ⟨e2, m2, es, o, g2, a2⟩ := S2.slots i _ hr
  obtain ⟨b', rfl⟩ := dp_ref r2
  have hlen : es.length = kvs.length := (Paired.length a2).symm
  refine ⟨q, b', kvs, es, o, _, rfl, rfl, g2, a2.mono off_le, Dp.mono off_le r2, hk, by omega, fun o' => kk _ ?_⟩
  refine S2.write hq (fun j' s h => ?_) fun j1 j2 s t h1 h2 b1 b2 => ?_
  · rcases set_get h with ⟨rfl, rfl⟩ | ⟨ne, h'⟩
    · refine .inl ⟨rfl, e2, m2, _, o', upd_same, ?_⟩
      rw [off_upd m2]
      exact dicE_put a2 hk r2 (r1.mono fa2)
    · exact .inr ⟨fun z => ne (S2.inj i j' _ s q hr h' rfl z), h'⟩
  · rcases set_get h1 with ⟨rfl, rfl⟩ | ⟨n1, h1'⟩
    · rcases set_get h2 with ⟨rfl, rfl⟩ | ⟨n2, h2'⟩
      · rfl
      · exact S2.inj _ _ _ t q hr h2' rfl b2
    · rcases set_get h2 with ⟨rfl, rfl⟩ | ⟨n2, h2'⟩
      · exact S2.inj _ _ s _ q h1' hr b1 rfl
      · exact S2.inj _ _ s t q h1' h2' b1 b2
/-- the newest dict of one's own stands still from now on -/
theorem seal_md {K : PySem.W.Frag} {P : Program} {w : World} (i : Nat) {q : Addr} (S : Sit K P w C (q :: L) ρ σ H) (hr : ρ[i]? = some (.md q kvs)) : Sit K P w C L (ρ.set i (.val (.dic kvs))) σ H := by
  obtain ⟨e2, m2, es, o, h2, a2⟩ := S.slots i _ hr
  refine S.seal fun j s h => ?_
  rcases set_get h with ⟨rfl, rfl⟩ | ⟨ne, h'⟩
  · refine .inr ⟨rfl, .ref q, e2, ?_⟩
    refine ⟨q, es, o, rfl, .inl (off_some.mpr ⟨fun m => ?_, h2⟩), a2.mono (off_sub fun a h => List.mem_cons_of_mem _ h)⟩
    rcases List.mem_append.mp m with m | m
    · exact (List.nodup_cons.mp S.nd).1 m
    · exact S.sep q (List.mem_cons_self ..) m
  · exact .inl ⟨fun z => ne (S.inj i j _ s q hr h' rfl z), h'⟩

/-! ### list(d), sorted(d) -/
def keyD (kvs : Kvs) : List PyData := kvs.map fun kv => kv.1.data
theorem keys_vals {K : PySem.W.Frag} {H : Hp} : ∀ {kvs : Kvs} {es : Es}, DicE K H kvs es → DpAll K H (es.map fun e => V.ref e.2.1) (keyD kvs)
  | _, _, .nil => .nil
  | _, _, .cons h t => .cons h.2.2.1 (keys_vals t)
theorem keys_refs {es : Es} {xs : List (NestedKey × Addr × Value)} (h : Paired RelE es xs) : Vals (es.map fun e => V.ref e.2.1) (xs.map fun x => Value.ref x.2.1) := by
  induction h with
  | nil => exact .nil
  | cons h t ih => exact .cons (show Value.ref _ = Value.ref _ by rw [h.2.1]) ih
theorem items_keys {P : Program} {w : World} {es' : Array DictEntry} {xs : List (NestedKey × Addr × Value)} {got : Array Value} (he : es'.toList = xs.map (entryOfKey (nestedKind P w))) (it : ItemsOf (fun i v => ∃ ent1 : DictEntry, es'[i]? = some ent1 ∧ v = ent1.key) got es'.size) : got.toList = xs.map fun x => Value.ref x.2.1 := by
  have l1 : es'.size = xs.length := size_of_entries he
  have hl : got.toList.length = xs.length := by rw [Array.length_toList, it.1]; exact l1
  apply List.ext_getElem?
  intro j
  rw [List.getElem?_map]
  cases hj : got.toList[j]? with
  | none =>
    have past := List.getElem?_eq_none_iff.mp hj
    rw [(List.getElem?_eq_none (by omega))]
    rfl
  | some v =>
    obtain ⟨ent1, en1, hv⟩ := it.2 j v (by rw [← Array.getElem?_toList]; exact hj)
    have qe := entry_at he j
    rw [en1] at qe
    cases hb : xs[j]? with
    | none =>
      rw [hb] at qe
      exact nomatch (show some ent1 = none from qe)
    | some b =>
      rw [hb] at qe
      have e2 : ent1 = entryOfKey (nestedKind P w) b := Option.some.inj qe
      rw [hv, e2]
      rfl
theorem cr_listX (hc : X.calm = true) : CallR X (.type "list") (fun xs H Q => ∃ a kvs es o, xs = [V.ref a] ∧ Rd H a (dicO X.prog X.w a es o) ∧ DicE X.K H kvs es ∧ ∀ p, H p = none → Q (.ref p) (upd H p (.lst (es.map fun e => V.ref e.2.1)))) := by
  intro pn s σ H xs us Q J r h
  obtain ⟨a, kvs, es, o, rfl, hr, hd, q⟩ := h
  rw [Vals.ref1 r]
  obtain ⟨xs, es', ep, h1, h2, h3, h4, h5, h6, h7, h8, h9⟩ := dic_of J hr hd
  have l1 : es'.size = xs.length := size_of_entries h7
  have l2 : es.length = xs.length := Paired.length h1
  refine PySem.W.kdl_call (kdl_raw h2 h5 h6) (J.ok.hd hc) h4 (by omega) fun h' tk acc' c' kp e it => ?_
  have rl : Vals (es.map fun e => V.ref e.2.1) acc'.toList := by rw [items_keys h7 it]; exact keys_refs h1
  refine ⟨.ref s.heap.objs.size, _, J.laid (t' := tk) (o := .lst (es.map fun e => V.ref e.2.1)) kp (Nat.le_refl _) ?_, rfl, q _ (J.hok.fresh (Nat.le_refl _))⟩
  exact ⟨by rw [List.length_map]; exact h3, acc'.toList, c', rl, by rw [Array.toArray_toList]; exact e⟩
theorem ev_listX {p : Pos} (hc : X.calm = true) (hm : X.mg "list" = none) (ha : EvE X C L ρ a (.dic kvs) ρ1) (hg : Gl X "list" := by rfl)
    (hst : starEach [a] X.env = (false, eval a X.env) :: starEach [] X.env := by rfl) (hpl : (backTo pos (starEach [] X.env)).any (·.1) = false := by rfl) : EvD X C L ρ (.Call (.Name "list" p) [a] [] pos) (.list (keyD kvs)) ρ1 :=
  ev_ty (cr_listX hc) hm PyProof.Rows.boot_list (ea_one ha hst) (fun vs σ H S r Q q => by
    obtain ⟨v, rfl, r1⟩ := one_of r
    obtain ⟨p1, es, o, rfl, h1, h2⟩ := r1
    exact ⟨p1, kvs, es, o, rfl, rd_mono off_le h1, h2.mono off_le, fun l hl => q _ _ (same_new hl) (.lst (SqL.of (S.new_off hl)) ((keys_vals h2).mono (Same.off (same_new hl) _)))⟩) hg (by decide) (by decide) hst hpl
/-- list(name), the dict being one's own -/
theorem ev_mlistX (i : Nat) {x : Str} {q : Addr} {p p2 : Pos} (hc : X.calm = true) (hm : X.mg "list" = none) (hr : ρ[i]? = some (.md q kvs))
    (hi : X.N[i]? = some x := by rfl) (hv : Vis X.env.scope x := by first | exact Or.inl rfl | exact Or.inr (Or.inl rfl) | exact Or.inr (Or.inr rfl))
    (hd : (x == ("__debug__" : Str)) = false := by decide) (hcd : (x == ("__classdict__" : Str)) = false := by decide) (hg : Gl X "list" := by rfl)
    (hst : starEach [.Name x p2] X.env = (false, eval (.Name x p2) X.env) :: starEach [] X.env := by rfl) (hpl : (backTo pos (starEach [] X.env)).any (·.1) = false := by rfl) : EvD X C L ρ (.Call (.Name "list" p) [.Name x p2] [] pos) (.list (keyD kvs)) ρ := fun σ H S Q qq => by
  refine le_E (pe_callTy (cr_listX hc) hg hm PyProof.Rows.boot_list (pa_cons (pe_var hi hv hd hcd) pa_nil hst) (by decide) (by decide) hst hpl) ?_
  obtain ⟨e1, m1, es, o, g1, a1⟩ := S.slots i _ hr
  exact ⟨_, e1, q, kvs, es, o, rfl, .inl g1, a1.mono off_le, fun l hl => qq _ _ (S.grow (same_new hl)) (Fr.of (same_new hl)) (.lst (SqL.of (S.new_off hl)) ((keys_vals a1).mono (Same.off (same_new hl) _)))⟩
theorem cr_sortedX (hc : X.calm = true) : CallR X (.builtin "sorted") (fun xs H Q => ∃ a kvs es o G, xs = [V.ref a] ∧ Same G H ∧ Rd H a (dicO X.prog X.w a es o) ∧ DicE X.K G kvs es ∧ SortOk (keyD kvs) ∧ (∀ d ∈ keyD kvs, X.A.units + 2 + d.depth < cLine) ∧
    ∀ p ws, H p = none → DpAll X.K G ws ((keyD kvs).mergeSort (PySem.W.dataLe false id)) → Q (.ref p) (upd H p (.lst ws))) := by
  intro pn s σ H xs us Q J r h
  obtain ⟨a, kvs, es, o, G, rfl, hG, hr, hd, ⟨hal, hk⟩, hdep, q⟩ := h
  rw [Vals.ref1 r]
  obtain ⟨xs, es', ep, h1, h2, h3, h4, h5, h6, h7, h8, h9⟩ := dic_of J hr (hd.mono hG)
  have l1 : es'.size = xs.length := size_of_entries h7
  have l2 : es.length = xs.length := Paired.length h1
  apply Calls.call_function_entry PyProof.Rows.kind_sorted PyProof.Rows.plain_sorted PyProof.Rows.entry_sorted (PyProof.Rows.args_sorted1 _)
  unfold Builtin.«sorted»
  apply wpAny_bind (m := checkCount "sorted" 1 1 _)
  refine wpAny_pure ?_
  refine wpAny_bind (PySem.W.kdu_collect (A := X.A.in1) (kdl_raw h2 h5 h6) (J.ok.hd hc) h4 (by omega) fun h' tk got kp it => ?_)
  have rl : Vals (es.map fun e => V.ref e.2.1) got.toList := by rw [items_keys h7 it]; exact keys_refs h1
  have hz : got.toList.length ≤ sizeLine := by rw [← rl.length, List.length_map]; exact h3
  have J1 : Inv X pn σ H { s with heap := h', toks := tk } := J.kept kp
  refine wpAny_bind (wpAny_newList ?_ (by exact hz))
  have gl : (h'.push (seqObj "list" got.toList.toArray 0)).get? h'.objs.size = some (seqObj "list" got.toList.toArray 0) := Heap.get?_push_size _ rfl
  show wpAny _ _ _ _ _ { s with heap := h'.push (seqObj "list" got.toList.toArray 0), toks := tk }
  have e := eachDp rl (keys_vals hd)
  have er : PySem.W.EachIs (fun u d => ∃ as, Reads h' u d as) got.toList (keyD kvs) := e.mono fun u d ⟨v, r, h⟩ => Dp.reads J1 d v u (Dp.mono hG h) r
  have hkeep : ∀ b o, h'.get? b = some o → (PySem.W.sortingHeap (h'.push (seqObj "list" got.toList.toArray 0)) h'.objs.size got.toList).get? b = some o := fun b o q => by
    have hlt : b < h'.objs.size := Heap.lt_size q
    exact PySem.W.sortingHeap_old (Nat.ne_of_lt hlt) (Heap.get?_push_of_some _ q)
  have er' : PySem.W.EachIs (fun v d => ∃ as, Reads (PySem.W.sortingHeap (h'.push (seqObj "list" got.toList.toArray 0)) h'.objs.size got.toList) v d as) got.toList (keyD kvs) := er.mono fun _ _ ⟨as, r⟩ => ⟨as, PyProof.Rows.Reads.keeps (fun _ _ q => hkeep _ _ q) r⟩
  have S : PySem.W.SortsAt X.prog X.w X.A.in1.in1 { s with heap := PySem.W.sortingHeap (h'.push (seqObj "list" got.toList.toArray 0)) h'.objs.size got.toList, toks := tk } (PySem.W.dataKind (PySem.W.sortingHeap (h'.push (seqObj "list" got.toList.toArray 0)) h'.objs.size got.toList) (keyD kvs)) got.toList := by
    have hu' : ∀ d, d ∈ keyD kvs → X.A.in1.in1.units + d.depth < cLine := fun d hd => hdep d hd
    rcases hk with hk | ⟨xss, ex⟩
    · exact PySem.W.SortsAt.data (s := { s with heap := PySem.W.sortingHeap (h'.push (seqObj "list" got.toList.toArray 0)) h'.objs.size got.toList, toks := tk }) er' hal hk hu'
    · rw [ex] at er' hal hu' ⊢
      exact sortsAt_empty (s := { s with heap := PySem.W.sortingHeap (h'.push (seqObj "list" got.toList.toArray 0)) h'.objs.size got.toList, toks := tk }) er' hal hu'
  refine wpAny_bind (wpAny_holding (wpAny_call_entry PyProof.Rows.slot_list_sort ⟨_, gl, rfl⟩ PyProof.Rows.entry_list_sort
    (PySem.W.list_sort_vals (s := { s with heap := h'.push (seqObj "list" got.toList.toArray 0), toks := tk }) gl S hz ⟨_, rfl, ?_⟩) (PyProof.Rows.args_list_sort _)))
  have eid : (keyD kvs).map id = keyD kvs := List.map_id _
  have out := PySem.W.sortVals_data (enc := id) false e (h' := PySem.W.sortingHeap (h'.push (seqObj "list" got.toList.toArray 0)) h'.objs.size got.toList) er' (by rw [eid]; exact hal)
  rw [eid] at out
  obtain ⟨ws, w1, w2⟩ := eachVals out
  obtain ⟨e', he'⟩ := PyProof.Rows.sortedHeap_at (vs := got.toList) (out := (PySem.W.sortVals (PySem.W.dataKind (PySem.W.sortingHeap (h'.push (seqObj "list" got.toList.toArray 0)) h'.objs.size got.toList) (keyD kvs)) false got.toList got.toList).toArray) gl
  have hlen : ws.length ≤ sizeLine := by
    rw [w2.length, (List.mergeSort_perm _ _).length_eq, ← (keys_vals hd).length, List.length_map]
    exact h3
  refine wpAny_pure ⟨_, rfl, .ref h'.objs.size, upd H h'.objs.size (.lst ws), J1.laid (t' := tk) (fun b u e => ?_) (Nat.le_refl _)
    (show ObjOk X.prog X.w _ _ _ (.lst ws) from ⟨hlen, _, e', w1, he'⟩), rfl, q _ ws (J1.hok.fresh (Nat.le_refl _)) w2⟩
  have below : b < h'.objs.size := Heap.lt_size e
  rw [PyProof.Rows.sortedHeap_old (Nat.ne_of_lt below) (Nat.lt_of_lt_of_le below (by rw [size_push']; exact Nat.le_succ _))]
  apply Heap.get?_push_of_some _ e
theorem ev_sortedX {p : Pos} (hc : X.calm = true) (hm : X.mg "sorted" = none) (ha : EvE X C L ρ a (.dic kvs) ρ1) (ok : SortOk (keyD kvs)) (hu : ∀ d ∈ keyD kvs, X.A.units + 2 + d.depth < cLine) (hg : Gl X "sorted" := by rfl)
    (hst : starEach [a] X.env = (false, eval a X.env) :: starEach [] X.env := by rfl) (hpl : (backTo pos (starEach [] X.env)).any (·.1) = false := by rfl) : EvD X C L ρ (.Call (.Name "sorted" p) [a] [] pos) (.list ((keyD kvs).mergeSort (PySem.W.dataLe false id))) ρ1 :=
  ev_b (cr_sortedX hc) hm boot_sorted (ea_one ha hst) (fun vs σ H S r Q q => by
    obtain ⟨v, rfl, r1⟩ := one_of r
    obtain ⟨p1, es, o, rfl, h1, h2⟩ := r1
    exact ⟨p1, kvs, es, o, off H (C.M L), rfl, off_le, rd_mono off_le h1, h2, ok, hu, fun l ws hl hw => q _ _ (same_new hl) (.lst (SqL.of (S.new_off hl)) (hw.mono (Same.off (same_new hl) _)))⟩) hg (by decide) (by decide) hst hpl
end

/-! ### for k in d -/
def Itx (P : Program) (w : World) (d : Addr) (o : Obj) (es : Es) : It :=
  ⟨fun i H => Rd H d (dicO P w d es o) ∧ i < es.length, fun i H x H' => H' = H ∧ ∃ e, es[i]? = some e ∧ x = .ref e.2.1, fun i H => Rd H d (dicO P w d es o) ∧ es.length ≤ i⟩
theorem dicO_of {P : Program} {w : World} {H : Hp} {h : Heap} {a : Addr} {es : Es} {o : Obj} (ok : HOk P w H h) (hr : Rd H a (dicO P w a es o)) : ∃ xs es' ep, Paired RelE es xs ∧ (a == sysModules) = false ∧ h.get? a = some o ∧ o.ExactDict ∧ o.data = .dict es' ep ∧ es'.toList = xs.map (entryOfKey (nestedKind P w)) := by
  obtain ⟨⟨xs, h1, h2, h3, es', ep, h4, h5, h6, h7, h8⟩, _⟩ := (show ObjOk P w H h a (dicO P w a es o) from hr.ok ok)
  exact ⟨xs, es', ep, h1, h2, h4, h5, h6, h7⟩
theorem turn_X {P : Program} {w : World} {K : PySem.W.Frag} {tg : Expr} {d : Addr} {o : Obj} {es : Es} {es' : Array DictEntry} {ep : Nat} (it : Addr) (od : o.data = .dict es' ep) : Turn P w K tg (Itx P w d o es) [it] it (fun i h => h.IsKeyIter it d i es.length ep) where
  mem := by simp
  obj := fun i h w0 b hb => by
    have e : b = it := List.mem_singleton.mp hb
    subst e
    obtain ⟨ob1, e, c, dd⟩ := w0
    exact ⟨ob1, e, fun v z => by rw [dd] at z; cases z⟩
  keep := fun i h h' w0 k => w0.at fun ob1 e => k it (by simp) ob1 e
  item := by
    intro X eP hw eK hc i pn s σ H E J hf w0 hg
    subst eP hw eK
    obtain ⟨hd, hi⟩ := hg
    obtain ⟨p0, fa1, fa2, p3, p4, p5⟩ := hf it (by simp)
    obtain ⟨xs, es2, ep2, r, hs, hgd, hx, hdt, rows⟩ := dicO_of J.hok hd
    obtain ⟨rfl, rfl⟩ := dict_ep od hdt
    have hsz : es2.size = es.length := by rw [size_of_entries rows, Paired.length r]
    obtain ⟨e0, he0⟩ : ∃ p, es[i]? = some p := ⟨es[i], List.getElem?_eq_getElem hi⟩
    obtain ⟨x0, hx0⟩ : ∃ p, xs[i]? = some p := ⟨xs[i]'(by rw [← Paired.length r]; exact hi), List.getElem?_eq_getElem _⟩
    have rel : RelE e0 x0 := by
      have aux : ∀ {es : Es} {xs : List (NestedKey × Addr × Value)} (r : Paired RelE es xs) (i : Nat), es[i]? = some e0 → xs[i]? = some x0 → RelE e0 x0 := by
        intro es xs r
        induction r with
        | nil => intro i h _; simp at h
        | cons h t ih =>
          intro i h1 h2
          cases i with
          | zero =>
            have e1 := Option.some.inj (show some _ = some _ from h1)
            have e2 := Option.some.inj (show some _ = some _ from h2)
            subst e1 e2
            exact h
          | succ i => exact ih i (by simpa using h1) (by simpa using h2)
      exact aux r i he0 hx0
    have en1 : es2[i]? = some (entryOfKey (nestedKind X.prog X.w) x0) := by rw [entry_at rows, hx0]; rfl
    refine next_key_item w0 hgd hdt hsz en1 fun h' st' sb => ?_
    have J1 : Inv X pn σ H { s with heap := h' } := J.turned (t' := s.toks) (fun b ob hb e => (sb.2 b hb).trans e) p0 fa1 p3 p4 p5
    obtain ⟨ob1, e, c, dd⟩ := id st'
    exact ⟨(entryOfKey (nestedKind X.prog X.w) x0).key, rfl, go_of (s := { s with heap := h' }) e c dd (by decide) ⟨.ref e0.2.1, H, J1, by rw [rel.2.1]; rfl, ⟨rfl, e0, he0, rfl⟩, st', fun b hb => (hf b hb).1⟩⟩
  done := by
    intro X eP hw eK hc i pn s σ H E J hf w0 hg
    subst eP hw eK
    obtain ⟨hd, hi⟩ := hg
    obtain ⟨p0, fa1, fa2, p3, p4, p5⟩ := hf it (by simp)
    obtain ⟨xs, es2, ep2, r, hs, hgd, hx, hdt, rows⟩ := dicO_of J.hok hd
    obtain ⟨rfl, rfl⟩ := dict_ep od hdt
    have hsz : es2.size = es.length := by rw [size_of_entries rows, Paired.length r]
    exact next_key_end (J.ok.hd hc) w0 hgd hdt hsz hi fun h' eb => ⟨rfl, J.turned (t' := s.toks) (fun b ob hb e => eb b ob hb e) p0 fa1 p3 p4 p5⟩
  self := fun A i s Q E w0 h => by
    refine wpAny_pyIter_slot w0.typeIs F.slot_dict_keyiterator_iter (wpAny_call_entry F.slot_dict_keyiterator_iter w0.typeIs F.entry_dict_keyiterator_iter ?_ (F.args_dict_keyiterator_iter_1 _))
    show wpAny _ _ (ret (Value.ref it)) _ _ s
    exact wpAny_pure ⟨_, rfl, "dict_keyiterator", _, w0.typeIs, F.slot_dict_keyiterator_next.lookup, h⟩
section
variable {X : Cx} {C : Cc} {L : List Addr} {ρ ρ1 : List Slot} {e tg : Expr} {kvs : Kvs}
theorem pi_X {td : TE} (he : PE X e td) : PI X tg e (fun σ H R => td σ H fun x H1 => ∃ d o es, x = .ref d ∧ Rd H1 d (dicO X.prog X.w d es o) ∧ R (Itx X.prog X.w d o es) H1) := by
  refine ⟨fun pn s σ H R J h => ?_⟩
  refine thn (he.run pn s σ H _ J h) fun u s1 ⟨x, H1, J1, rx, d, o, es, ex, hd, q⟩ => ?_
  subst ex
  cases (show u = Value.ref d from rx)
  obtain ⟨xs, es2, ep2, r, hs, hgd, hx, hdt, rows⟩ := dicO_of J1.hok hd
  refine iter_keys hs hgd hx hdt (pi_one (tk := s1.toks) J1 _ (turn_X _ hdt) ⟨_, Heap.get?_push_size _ rfl, rfl, ?_⟩ q)
  rw [size_of_entries rows, ← Paired.length r] <;> rfl
theorem yl_X {K : PySem.W.Frag} {P : Program} {w : World} {a : Addr} {o : Obj} {es : Es} {G : Hp} (h : Rd G a (dicO P w a es o)) (ha : DicE K G kvs es) : Yl K (Itx P w a o es) (keyD kvs) G := fun M H2 hM e i => by
  have hq : Rd H2 a (dicO P w a es o) := rd_mono off_le (rd_mono e h)
  have hl : es.length = (keyD kvs).length := by unfold keyD; rw [List.length_map, Paired.length ha]
  refine ⟨fun d hd => ?_, fun hl' => ⟨hq, by omega⟩⟩
  have hi : i < es.length := by rw [hl]; exact (List.getElem?_eq_some_iff.mp hd).1
  obtain ⟨v, hv, r⟩ := (keys_vals ha).at hd
  refine ⟨⟨hq, hi⟩, fun x H3 hy => ?_⟩
  obtain ⟨rfl, e0, he0, rfl⟩ := hy
  rw [List.getElem?_map, he0] at hv
  cases hv
  exact ⟨Same.refl _, r.mono e⟩
theorem it_X (h : EvE X C L ρ e (.dic kvs) ρ1) : IterS X C L ρ tg e (keyD kvs) ρ1 := fun σ H S R q => by
  refine le_I (pi_X pe_tE) ?_
  refine h σ H S _ fun v H1 S1 fa1 r1 => ?_
  obtain ⟨a, es, o, rfl, h1, a1⟩ := r1
  exact ⟨a, o, es, rfl, rd_mono off_le h1, q _ H1 S1 fa1 (yl_X h1 a1)⟩
end
end Tk
end

section
namespace PySem
open Sem (wp)
open AutoSeq1(wpAny_loadPart')
theorem meets_enumerate_newTk (l : Addr) (vals : Array Value) (n : Nat) (dk : Option Addr) (slo : Array (Option Value)) :
    Meets (Builtin.«enumerate.__new__» ⟨[.type "enumerate", .ref l], []⟩) (fun _ R s => s.heap.get? l = some { cls := .type "tuple", dict := dk, data := .seq vals n, slots := slo } ∧
      R (.ok (.ret (.ref (s.heap.push { cls := .type "tuple_iterator", data := .fields #[.ref l, .int 0 0] }).objs.size)))
        { s with heap := (s.heap.push { cls := .type "tuple_iterator", data := .fields #[.ref l, .int 0 0] }).push { cls := .type "enumerate", data := .fields #[.none, .bool false, .ref s.heap.objs.size, rawInt 0, .none, .none] } }) :=
  Meets.of_wp fun prog w A R s h => by
    obtain ⟨hp, g, d, tk, os⟩ := s; obtain ⟨lh, h⟩ := h
    have hsub := sub_enumerate
    have hL : Heap.IsTuple (Shared.heap ⟨hp, g, d, tk, os⟩) l vals := ⟨_, lh, rfl, n, rfl⟩
    wp_walk using wpAny_loadPart' lh
    refine wpAny_stack_any fun w0 => wpAny_pure ?_
    split
    · rename_i c _ _ _ _ _
      cases c == Value.type "enumerate"
      · wp_walk using wpAny_loadPart' lh, wpAny_pyIter_tuple hL
        exact ⟨_, rfl, h⟩
      · wp_walk using wpAny_loadPart' lh, wpAny_pyIter_tuple hL
        exact ⟨_, rfl, h⟩
    · wp_walk using wpAny_loadPart' lh, wpAny_pyIter_tuple hL
      exact ⟨_, rfl, h⟩
abbrev enumT (k : Nat) : Obj := { cls := .type "enumerate", data := .fields #[.none, .bool false, .ref k, rawInt 0, .none, .none] }
section
variable {A : Around} {s : Shared} {w : World} {prog : Program} {E : Value → Shared → Prop}
theorem call_enumerate_tk {l : Addr} {vals : Array Value} {Q : Value → Shared → Prop} (hL : s.heap.IsTuple l vals)
    (h : ∀ h', IsEnum h' (s.heap.objs.size + 1) s.heap.objs.size 0 .none → h'.IsTupleIter s.heap.objs.size l 0 → h'.objs.size = s.heap.objs.size + 2 →
      (∀ x o, s.heap.get? x = some o → h'.get? x = some o) → Q (.ref (s.heap.objs.size + 1)) { s with heap := h' }) :
    wpAny (model prog w) A (call (Value.type "enumerate") [Value.ref l]) Q E s := by
  obtain ⟨⟨c, dk, dt, slo⟩, lh, hc, n, hd⟩ := hL
  replace hc : c = .type "tuple" := hc
  replace hd : dt = .seq vals n := hd
  subst hc hd
  refine callType_new F.called_enumerate (by decide) (F.typeCall_enumerate_1 _) (F.newCall_enumerate_1 _)
    (fun x => F.args_object_init_2 x _) F.entry_enumerate_new
    (meets_enumerate_newTk l vals n dk slo) ⟨lh, ?_⟩
  have gz : (s.heap.push { cls := .type "tuple_iterator", data := .fields #[.ref l, .int 0 0] }).objs.size = s.heap.objs.size + 1 := Heap.size_push ..
  show _ ∧ _
  rw [gz]
  have he : IsEnum ((s.heap.push { cls := .type "tuple_iterator", data := .fields #[.ref l, .int 0 0] }).push
      (enumT s.heap.objs.size)) (s.heap.objs.size + 1) s.heap.objs.size 0 .none := by
    have := Heap.get?_push_size (s.heap.push { cls := .type "tuple_iterator", data := .fields #[.ref l, .int 0 0] })
      (o := enumT s.heap.objs.size) rfl
    rw [gz] at this; exact this
  refine ⟨⟨_, he, rfl⟩, h _ he ⟨_, Heap.get?_push_of_some _ (Heap.get?_push_size _ rfl), rfl, rfl⟩ (by rw [Heap.size_push, gz]) fun b o x => Heap.get?_push_of_some _ (Heap.get?_push_of_some _ x)⟩
end
end PySem
namespace Tk
open L2 PyProof.Rows PySem PySem.Spec

/-! ### enumerate(tuple) -/
def Iet (K : PySem.W.Frag) (a : Addr) : It :=
  ⟨fun i H => ∃ (xs : List V) (x : V), SqT K H a xs ∧ xs[i]? = some x,
    fun i H v H' => ∃ T x, v = .ref T ∧ H T = none ∧ H' = upd H T (.tup [.int (i : Nat), x]) ∧ ∀ xs, SqT K H a xs → xs[i]? = some x,
    fun i H => ∃ xs : List V, SqT K H a xs ∧ xs.length ≤ i⟩
theorem turn_enumT {P : Program} {w : World} {K : PySem.W.Frag} {elts : List Expr} {kk : Nat} {tpos : Pos} (a e it : Addr) :
    Turn P w K (.Tuple elts kk tpos) (Iet K a) [e, it] e (fun i h => (∃ ov, IsEnum h e it ((i : Nat) : Int) ov) ∧ h.IsTupleIter it a i ∧ e ≠ it ∧ a ≠ it ∧ e ≠ a) where
  mem := by simp
  obj := fun i h w0 b hb => by
    obtain ⟨⟨ov, he⟩, ⟨o, ho, hc, hd⟩, _⟩ := w0
    have ee : b = e ∨ b = it := by simpa using hb
    rcases ee with z | z
    · rw [(z)]; exact ⟨_, he, fun v q => nomatch q⟩
    · rw [z]; exact ⟨o,ho,fun v q => by rw [hd] at q; cases q⟩
  keep := fun i h h' w0 k => let ⟨⟨ov, he⟩, hi, ni⟩ := w0; ⟨⟨ov, k e (by simp) _ he⟩, hi.at fun o q => k it (by simp) o q, ni⟩
  item := by
    intro X eP hw eK hc i pn s σ H E J hf w0 hg
    subst eP hw eK
    obtain ⟨⟨ov, he⟩, ti, ni, hai, hea⟩ := w0
    obtain ⟨xs, x, hq, hx⟩ := hg
    obtain ⟨cl, rd, p, gz⟩ := J.tuple hq
    obtain ⟨u, hu, ru⟩ := rd.get hx
    have le1 : e < s.heap.objs.size := Heap.lt_size he
    have li1 : it < s.heap.objs.size := by obtain ⟨_, q, _⟩ := ti; exact Heap.lt_size q
    have hlt : i < cl.toArray.size := by
      rw [List.size_toArray]
      exact (List.getElem?_eq_some_iff.mp hu).1
    have hp : s.heap.IsTuple a cl.toArray := p
    refine wpAny_pyNext_enum_itemC (Draws.tuple (A := X.A.in1) (J.ok.hd hc) it a hai cl.toArray) he ⟨ti, hp⟩ hlt ni (by simp only [List.mem_cons, List.not_mem_nil, or_false, not_or]; exact ⟨ni, hea⟩) fun u' h' tk hu' ho hst' hT hsz kp => ?_
    have eu : u' = u := by
      have h1 : cl[i]? = some u' := by simpa using hu'
      rw [hu] at h1
      exact (Option.some.inj h1.symm)
    subst eu
    refine ⟨_, rfl, wpAny_letOwnedTupleGo_enum (s := { s with heap := h', toks := tk + 1 }) ho fun h'' he' sb => ?_⟩
    have hT2 : h''.get? s.heap.objs.size = some { cls := .type "tuple", data := .seq #[.int i tk, u'] } := (sb.2 _ (Nat.ne_of_gt le1)).trans hT
    have ok1 : ObjOk X.prog X.w (upd H s.heap.objs.size (.tup [.int (i : Nat), x])) h'' s.heap.objs.size (.tup [.int (i : Nat), x]) :=
      ⟨by show 2 ≤ sizeLine; decide, [.int i tk, u'], .cons ⟨_, rfl⟩ (.cons ru .nil), ⟨_, hT2, rfl, _, rfl⟩⟩
    have J1 : Inv X pn σ (upd H s.heap.objs.size (.tup [.int (i : Nat), x])) { s with heap := h'', toks := tk + 1 } :=
      J.turnedNew (ch := [e, it]) (fun b ob hb q => (sb.2 b (fun z => hb (by simp [z]))).trans (kp b ob (fun z => hb (by simp [z])) (fun z => hb (by simp [z])) q)) hf (Nat.le_refl _) ok1
    refine ⟨.ref s.heap.objs.size, _, J1, rfl, ⟨_, x, rfl, J.hok.fresh (Nat.le_refl _), rfl, fun ys hy => by rw [J.tuple_inj hy hq]; exact hx⟩, ⟨⟨u', ?_⟩, hst'.1.at fun o q => (sb.2 it (Ne.symm ni)).trans q, ni, hai, hea⟩, fun b hb => ?_⟩
    · have e1 : ((i + 1 : Nat) : Int) = (i : Int) + 1 := rfl
      rw [e1]; exact he'
    · have b0 : b < s.heap.objs.size := by
        have ee : b = e ∨ b = it := by simpa using hb
        rcases ee with z | z
        · rw [z]; exact le1
        · rw [z]; exact li1
      rw [upd_ne (Nat.ne_of_lt b0)]
      exact (hf b hb).1
  done := by
    intro X eP hw eK hc i pn s σ H E J hf w0 hg
    subst eP hw eK
    obtain ⟨⟨ov, he⟩, ti, ni, hai, hea⟩ := w0
    obtain ⟨xs, hq, hx⟩ := hg
    obtain ⟨cl, rd, p, gz⟩ := J.tuple hq
    obtain ⟨p0, p1', p2', p3, p4, p5⟩ := hf it (by simp)
    have lh := rd.length
    have hp : s.heap.IsTuple a cl.toArray := p
    have ty : s.TypeIs (.ref e) "enumerate" := ⟨_, he, rfl⟩
    unfold pyNext
    apply wpAny_bind
    apply wpAny_attempt
    refine wpAny_callSpecial?_slot (name := Str.ofString "__next__") ty F.slot_enumerate_next
      (wpAny_call_entry F.slot_enumerate_next ty F.entry_enumerate_next ?_ (F.args_enumerate_next_1 _))
    show wpAny _ _ (field (Value.ref e) 2 >>= _) _ _ _
    refine wpAny_bind (wpAny_field he rfl (x := Value.ref it) rfl ?_)
    refine wpAny_bind (wpAny_nextOf_tuple_end (J.ok.hd hc) ti hp (by simp; omega) fun h' x he' hx' => ?_)
    obtain ⟨o, ho, hc⟩ := hx'
    apply wpAny_bind
    refine wpAny_isInstance (b := true) (T := "StopIteration") ⟨o, ho, hc⟩ isSubtype_stop ?_
    exact wpAny_pure ⟨rfl, J.turned (t' := s.toks) (fun b o hb q => he' b o hb q) p0 p1' p3 p4 p5⟩
  self := fun A i s Q E w0 h => let ⟨⟨_, he⟩, _⟩ := w0; wpAny_pyIter_enum he h

theorem pi_enumT {X : Cx} {e : Expr} {te : TE} {p pos tpos : Pos} {elts : List Expr} {kk : Nat} (hg : Gl X "enumerate") (hm : X.mg "enumerate" = none) (he : PE X e te) (hs : starEach [e] X.env = [(false, eval e X.env)]) :
    PI X (.Tuple elts kk tpos) (.Call (.Name "enumerate" p) [e] [] pos) (fun σ H R => te σ H fun x H1 => ∃ a xs, x = .ref a ∧ SqT X.K H1 a xs ∧ R (Iet X.K a) H1) := by
  refine ⟨fun pn s σ H R J h => ?_⟩
  refine Call_ (ld_blt J hg hm boot_enumerate (PyProof.Rows.callWith_type1 (PyProof.Rows.args_cons (thn (he.run pn s σ H _ J h) fun v s1 ⟨x, H1, J1, r1, q1⟩ => PyProof.Rows.args_nil ?_) hs) hs rfl))
  obtain ⟨a, xs, rfl, hq, q⟩ := q1
  cases r1
  obtain ⟨cl, rd, p', gz⟩ := J1.tuple hq
  have hp : s1.heap.IsTuple a cl.toArray := p'
  refine call_enumerate_tk hp fun h' he ti hsz kp => wpAny_pyIter_enum he ?_
  have J2 : Inv X pn σ H1 { s1 with heap := h' } := J1.kept (t' := s1.toks) kp
  obtain ⟨oa, hoa, _⟩ := id hp
  have hal : a < s1.heap.objs.size := Heap.lt_size hoa
  refine ⟨s1.heap.objs.size + 1, [s1.heap.objs.size + 1, s1.heap.objs.size], _, _, H1, rfl, J2, turn_enumT a (s1.heap.objs.size + 1) s1.heap.objs.size, ⟨⟨.none, he⟩, ti, Nat.succ_ne_self _, Nat.ne_of_lt hal, Nat.ne_of_gt (Nat.lt_succ_of_lt hal)⟩, fun b hb => ?_, q⟩
  have ee : b = s1.heap.objs.size + 1 ∨ b = s1.heap.objs.size := by simpa using hb
  have lb0 : s1.heap.objs.size ≤ b := by
    rcases ee with z | z
    · rw [z]; exact Nat.le_succ _
    · rw [z]; exact Nat.le_refl _
  exact J1.fpOk lb0 (J1.hok.fresh lb0)
section
variable {X : Cx} {C : Cc} {L : List Addr} {ρ ρ1 ρ2 : List Slot} {e a b tg : Expr} {pos : Pos}
theorem yl_enumT {K : PySem.W.Frag} {a : Addr} {vs : List V} {ds : List PyData} {G : Hp} (h : SqT K G a vs) (ha : DpAll K G vs ds) : Yl K (Iet K a) (enD ds) G := fun M H2 hM e i => by
  have hq : SqT K H2 a vs := sqT_off (seqT_mono e h)
  refine ⟨fun d hd => ?_, fun lh => ⟨vs, hq, by rw [ha.length, ← enD_len]; exact lh⟩⟩
  obtain ⟨x, hx, rfl⟩ := enD_at hd
  obtain ⟨v, hv, r⟩ := ha.at hx
  refine ⟨⟨vs, v, hq, hv⟩, fun y H3 hy => ?_⟩
  obtain ⟨T, z, rfl, hT, rfl, gz⟩ := hy
  have hz' := gz vs hq
  rw [hv] at hz'
  cases hz'
  refine ⟨same_new hT, .tup (SqT.of (off_some.mpr ⟨new_out hM hT, upd_same⟩)) (.cons (.int _) (.cons (r.mono ?_) .nil))⟩
  exact Same.trans e (Same.off (same_new hT) M)
theorem it_enumT {elts : List Expr} {kk : Nat} {p tpos : Pos} {ds : List PyData} (hg : Gl X "enumerate") (hm : X.mg "enumerate" = none) (h : EvD X C L ρ e (.tuple ds) ρ1) (hs : starEach [e] X.env = [(false, eval e X.env)] := by rfl) : IterS X C L ρ (.Tuple elts kk tpos) (.Call (.Name "enumerate" p) [e] [] pos) (enD ds) ρ1 := fun σ H S R q => by
  refine le_I (pi_enumT hg hm pe_tE hs) ?_
  refine h σ H S _ fun v H1 S1 p1' r1 => ?_
  obtain ⟨a, vs, rfl, h1, a1⟩ := dp_tup r1
  exact ⟨a, vs, rfl, sqT_off h1, q _ H1 S1 p1' (yl_enumT h1 a1)⟩
end

/-! ### zip(list, tuple), of one length -/
def Izx (K : PySem.W.Frag) (n : Nat) (a b : Addr) : It :=
  ⟨fun i H => ∃ (xs ys : List V) (x y : V), SqL K H a xs ∧ SqT K H b ys ∧ xs.length = n ∧ ys.length = n ∧ xs[i]? = some x ∧ ys[i]? = some y,
    fun i H v H' => ∃ T x y, v = .ref T ∧ H T = none ∧ H' = upd H T (.tup [x, y]) ∧ (∀ xs, SqL K H a xs → xs[i]? = some x) ∧ ∀ ys, SqT K H b ys → ys[i]? = some y,
    fun i H => ∃ xs ys : List V, SqL K H a xs ∧ SqT K H b ys ∧ xs.length = n ∧ ys.length = n ∧ n ≤ i⟩
theorem turn_zx {P : Program} {w : World} {K : PySem.W.Frag} {elts : List Expr} {kk n : Nat} {tpos : Pos} {a b z TI TO j1 j2 : Addr} (D : ZipSep2 z TI TO j1 j2 [j1, a] [j2, b]) :
    Turn P w K (.Tuple elts kk tpos) (Izx K n a b) [z, TI, TO, j1, j2] z (fun i h => IsZip h z TI TO .none ∧ IsTupOf2 h TI (.ref j1) (.ref j2) ∧ (∃ x y, IsTupOf2 h TO x y) ∧ h.IsListIter j1 a i ∧ h.IsTupleIter j2 b i ∧ i ≤ n ∧ j1 ≠ z ∧ j2 ≠ z) where
  mem := by simp
  obj := fun i h w0 c hc => by
    obtain ⟨gz, gI, ⟨x, y, gO⟩, ⟨o1, e1, _, d1⟩, ⟨o2, e2, _, d2⟩, _⟩ := w0
    have ee : c = z ∨ c = TI ∨ c = TO ∨ c = j1 ∨ c = j2 := by simpa using hc
    rcases ee with q | q | q | q | q
    · rw [q]; exact ⟨_, gz, fun v q => nomatch q⟩
    · rw [q]; exact ⟨_, gI, fun v q => nomatch q⟩
    · rw [q]; exact ⟨_, gO, fun v q => nomatch q⟩
    · rw [q]; exact ⟨o1,e1,fun v q => by rw [d1] at q; cases q⟩
    · rw [q]; exact ⟨o2,e2,fun v q => by rw [d2] at q; cases q⟩
  keep := fun i h h' w0 k => by
    obtain ⟨gz, gI, ⟨x, y, gO⟩, h1, h2, h3⟩ := w0
    exact ⟨k z (by simp) _ gz, k TI (by simp) _ gI, ⟨x, y, k TO (by simp) _ gO⟩, h1.at fun o q => k j1 (by simp) o q, h2.at fun o q => k j2 (by simp) o q, h3⟩
  item := by
    intro X eP hw eK hc i pn s σ H E J hf w0 hg
    subst eP hw eK
    obtain ⟨gz, gI, ⟨x0, y0, gO⟩, h1, h2, hin, n1z, n2z⟩ := w0
    obtain ⟨xs, ys, x, y, hqx, hqy, lx, ly, hx, hy⟩ := hg
    obtain ⟨cl, rd, p, _⟩ := J.list hqx
    obtain ⟨cl2, rd2, p2, _⟩ := J.tuple hqy
    obtain ⟨u, hu, ru⟩ := rd.get hx
    obtain ⟨u2, hu2, ru2⟩ := rd2.get hy
    have hzl : z < s.heap.objs.size := Heap.lt_size gz
    have hp2 : s.heap.IsTuple b cl2.toArray := p2
    have hlt1 : i < cl.toArray.size := by rw [List.size_toArray]; exact (List.getElem?_eq_some_iff.mp hu).1
    have hlt2 : i < cl2.toArray.size := by rw [List.size_toArray]; exact (List.getElem?_eq_some_iff.mp hu2).1
    have hn : i < n := by rw [← lx, rd.length]; exact (List.getElem?_eq_some_iff.mp hu).1
    have hai : a ≠ j1 := fun q => by
      obtain ⟨o1, e1, c1, _⟩ := h1
      obtain ⟨o2, e2, c2, _⟩ := p.isList
      rw [q, e1] at e2
      cases e2
      rw [c1] at c2
      exact absurd c2 (by decide)
    have hbi : b ≠ j2 := fun q => by
      obtain ⟨o1, e1, c1, _⟩ := h2
      obtain ⟨o2, e2, c2, _⟩ := hp2
      rw [q, e1] at e2
      cases e2
      rw [c1] at c2
      exact absurd c2 (by decide)
    refine wpAny_pyNext_zipD2_item D (Draws.list (A := X.A.in1) (J.ok.hd hc) j1 a hai cl.toArray) (Draws.tuple (A := X.A.in1) (J.ok.hd hc) j2 b hbi cl2.toArray) gz gI gO ⟨h1, p.isList⟩ ⟨h2, hp2⟩ hlt1 hlt2 fun w1 w2 h' tk e1 e2 z' TO' st1 st2 hT hsz kp => ?_
    have eu : w1 = u := by
      have h1 : cl[i]? = some w1 := by simpa using e1
      rw [hu] at h1
      exact (Option.some.inj h1.symm)
    have eu2 : w2 = u2 := by
      have h1 : cl2[i]? = some w2 := by simpa using e2
      rw [hu2] at h1
      exact (Option.some.inj h1.symm)
    subst eu eu2
    refine ⟨_, rfl, wpAny_letOwnedTupleGo_zip (s := { s with heap := h', toks := tk }) z' fun h'' z'' sb => ?_⟩
    have hT2 : h''.get? s.heap.objs.size = some { cls := .type "tuple", data := .seq #[w1, w2] } := (sb.2 _ (Nat.ne_of_gt hzl)).trans hT
    have ok1 : ObjOk X.prog X.w (upd H s.heap.objs.size (.tup [x, y])) h'' s.heap.objs.size (.tup [x, y]) :=
      ⟨by show 2 ≤ sizeLine; decide, [w1, w2], .cons ru (.cons ru2 .nil), ⟨_, hT2, rfl, _, rfl⟩⟩
    have J1 : Inv X pn σ (upd H s.heap.objs.size (.tup [x, y])) { s with heap := h'', toks := tk } :=
      J.turnedNew (t' := tk) (ch := [z, TI, TO, j1, j2]) (fun c o hb q => (sb.2 c (fun q' => hb (by simp [q']))).trans (kp c o (fun q' => hb (by simp [q'])) (fun q' => hb (by simp [q'])) (fun q' => hb (by simp [q'])) (fun q' => hb (by simp [q'])) q)) hf (Nat.le_refl _) ok1
    refine ⟨.ref s.heap.objs.size, _, J1, rfl, ⟨_, x, y, rfl, J.hok.fresh (Nat.le_refl _), rfl, fun l lh => by rw [J.list_inj lh hqx]; exact hx, fun l lh => by rw [J.tuple_inj lh hqy]; exact hy⟩, ⟨z'', ?_, ⟨w1, w2, ?_⟩, ?_, ?_, hn, n1z, n2z⟩, fun c cm => ?_⟩
    · exact (sb.2 _ D.TIz).trans (kp _ _ D.TIz D.TITO D.TIi1 D.TIi2 gI)
    · exact Eq.trans (sb.2 _ D.TOz) TO'
    · exact st1.1.at fun o q => (sb.2 _ n1z).trans q
    · exact st2.1.at fun o q => (sb.2 _ n2z).trans q
    · have c0 : c < s.heap.objs.size := by
        have ee : c = z ∨ c = TI ∨ c = TO ∨ c = j1 ∨ c = j2 := by simpa using cm
        rcases ee with q | q | q | q | q
        · rw [q]; exact hzl
        · rw [q]; exact Heap.lt_size gI
        · rw [q]; exact Heap.lt_size gO
        · rw [(q)]; obtain ⟨_, e1, _⟩ := h1; exact Heap.lt_size e1
        · rw [(q)]; obtain ⟨_, e2, _⟩ := h2; exact Heap.lt_size e2
      rw [upd_ne (Nat.ne_of_lt c0)]
      exact (hf c cm).1
  done := by
    intro X eP hw eK hc i pn s σ H E J hf w0 hg
    subst eP hw eK
    obtain ⟨gz, gI, ⟨x0, y0, gO⟩, h1, h2, hin, n1z, n2z⟩ := w0
    obtain ⟨xs, ys, hqx, hqy, lx, ly, hend⟩ := hg
    obtain ⟨cl, rd, p, _⟩ := J.list hqx
    obtain ⟨cl2, rd2, p2, _⟩ := J.tuple hqy
    have hp2 : s.heap.IsTuple b cl2.toArray := p2
    have hi : i = n := by omega
    have l1 : i = cl.toArray.size := by rw [List.size_toArray, ← rd.length, lx]; exact hi
    have l2 : i = cl2.toArray.size := by rw [List.size_toArray, ← rd2.length, ly]; exact hi
    have hai : a ≠ j1 := fun q => by
      obtain ⟨o1, e1, c1, _⟩ := h1
      obtain ⟨o2, e2, c2, _⟩ := p.isList
      rw [q, e1] at e2
      cases e2
      rw [c1] at c2
      exact absurd c2 (by decide)
    have hbi : b ≠ j2 := fun q => by
      obtain ⟨o1, e1, c1, _⟩ := h2
      obtain ⟨o2, e2, c2, _⟩ := hp2
      rw [q, e1] at e2
      cases e2
      rw [c1] at c2
      exact absurd c2 (by decide)
    exact wpAny_pyNext_zipD2_end D (Draws.list (A := X.A.in1) (J.ok.hd hc) j1 a hai cl.toArray) (Draws.tuple (A := X.A.in1) (J.ok.hd hc) j2 b hbi cl2.toArray) gz gI gO ⟨h1, p.isList⟩ ⟨h2, hp2⟩ (Nat.le_of_eq l1) (Nat.le_of_eq l2) (.inl l1) fun h' tk kp => ⟨rfl, J.turnedL (t' := tk) (ch := [z, TI, TO, j1, j2]) (fun c o hb q =>
      kp c o (fun q' => hb (by simp [q'])) (fun q' => hb (by simp [q'])) (fun q' => hb (by simp [q'])) (fun q' => hb (by simp [q'])) q) hf⟩
  self := fun A i s Q E w0 h => wpAny_pyIter_zip w0.1 h
theorem pi_zx {X : Cx} {e e2 : Expr} {ta tb : TE} {p pos tpos : Pos} {elts : List Expr} {kk : Nat} (hg : Gl X "zip") (hm : X.mg "zip" = none) (ha : PE X e ta) (hb : PE X e2 tb)
    (hs : starEach [e, e2] X.env = (false, eval e X.env) :: starEach [e2] X.env) (hs2 : starEach [e2] X.env = (false, eval e2 X.env) :: starEach [] X.env) (hpl : (backTo pos (starEach [e2] X.env)).any (·.1) = false) :
    PI X (.Tuple elts kk tpos) (.Call (.Name "zip" p) [e, e2] [] pos) (fun σ H R => ta σ H fun x H1 => tb σ H1 fun y H2 => ∃ a b xs ys, x = .ref a ∧ y = .ref b ∧ SqL X.K H2 a xs ∧ SqT X.K H2 b ys ∧ xs.length = ys.length ∧ R (Izx X.K xs.length a b) H2) := by
  refine ⟨fun pn s σ H R J h => ?_⟩
  refine Call_ (ld_blt J hg hm PyProof.Rows.boot_zip (PyProof.Rows.callWith_type1 (PyProof.Rows.args_cons (thn (ha.run pn s σ H _ J h) fun v s1 ⟨x, H1, J1, r1, q1⟩ => PyProof.Rows.args_cons (thn (hb.run pn s1 σ H1 _ J1 q1) fun v2 s2 ⟨y, H2, J2, r2, q2⟩ => PyProof.Rows.args_nil ?_) hs2) hs) hs hpl))
  obtain ⟨a, b, xs, ys, rfl, rfl, hqx, hqy, lh, q⟩ := q2
  cases r1
  cases r2
  obtain ⟨cl, rd, p1, _⟩ := J2.list hqx
  obtain ⟨cl2, rd2, p2, _⟩ := J2.tuple hqy
  have hp2 : s2.heap.IsTuple b cl2.toArray := p2
  have la : a < s2.heap.objs.size := p1.lt
  obtain ⟨ob, hob, _⟩ := id hp2
  have lb : b < s2.heap.objs.size := Heap.lt_size hob
  refine zip_begins2 (begins_list a cl.toArray) (begins_tuple b cl2.toArray) p1.isList hp2 fun h' gz gI gO h1 h2 hsz kp => wpAny_pyIter_zip gz ?_
  have J3 : Inv X pn σ H2 { s2 with heap := h' } := J2.kept (t' := s2.toks) kp
  refine ⟨s2.heap.objs.size + 4, [s2.heap.objs.size + 4, s2.heap.objs.size + 2, s2.heap.objs.size + 3, s2.heap.objs.size, s2.heap.objs.size + 1], _, _, H2, rfl, J3, turn_zx (zip_sep2 (fp1 := [a]) (fp2 := [b]) (by simpa using la) (by simpa using lb)), ⟨gz, gI, ⟨_, _, gO⟩, ⟨_, h1, rfl, rfl⟩, ⟨_, h2, rfl, rfl⟩, Nat.zero_le _, Nat.ne_of_lt (Nat.lt_add_of_pos_right (by decide)), Nat.ne_of_lt (Nat.add_lt_add_left (by decide) _)⟩, fun c cm => ?_, q⟩
  have ee : c = s2.heap.objs.size + 4 ∨ c = s2.heap.objs.size + 2 ∨ c = s2.heap.objs.size + 3 ∨ c = s2.heap.objs.size ∨ c = s2.heap.objs.size + 1 := by simpa using cm
  have lb0 : s2.heap.objs.size ≤ c := by
    rcases ee with z | z | z | z | z
    · rw [(z)]; exact Nat.le_add_right _ _
    · rw [(z)]; exact Nat.le_add_right _ _
    · rw [(z)]; exact Nat.le_add_right _ _
    · rw [z]; exact Nat.le_refl _
    · rw [(z)]; exact Nat.le_add_right _ _
  exact J2.fpOk lb0 (J2.hok.fresh lb0)
def zpD (ds es : List PyData) : List PyData := (ds.zip es).map fun p => .tuple [p.1, p.2]
theorem zpD_at {ds es : List PyData} {i : Nat} {d : PyData} (h : (zpD ds es)[i]? = some d) : ∃ x y, ds[i]? = some x ∧ es[i]? = some y ∧ d = .tuple [x, y] := by
  unfold zpD at h
  rw [List.getElem?_map] at h
  cases q : (ds.zip es)[i]? with
  | none => rw [q] at h; cases h
  | some p =>
    rw [q] at h
    rw [List.getElem?_zip_eq_some] at q
    exact ⟨p.1, p.2, q.1, q.2, (Option.some.inj h).symm⟩
section
variable {X : Cx} {C : Cc} {L : List Addr} {ρ ρ1 ρ2 : List Slot} {e a b tg : Expr} {pos : Pos}
theorem yl_zx {K : PySem.W.Frag} {a b : Addr} {vs ws : List V} {ds es : List PyData} {G : Hp} (h : SqL K G a vs) (ha : DpAll K G vs ds) (h' : SqT K G b ws) (hb : DpAll K G ws es) (lh : ds.length = es.length) : Yl K (Izx K vs.length a b) (zpD ds es) G := fun M H2 hM e i => by
  have hq : SqL K H2 a vs := sqL_off (Same.seq e h)
  have hq' : SqT K H2 b ws := sqT_off (seqT_mono e h')
  have l1 := ha.length
  have l2 := hb.length
  refine ⟨fun d hd => ?_, fun hl' => ⟨vs, ws, hq, hq', rfl, by omega, ?_⟩⟩
  · obtain ⟨x, y, hx, hy, rfl⟩ := zpD_at hd
    obtain ⟨v, hv, r⟩ := ha.at hx
    obtain ⟨w, hw, r'⟩ := hb.at hy
    refine ⟨⟨vs, ws, v, w, hq, hq', rfl, by omega, hv, hw⟩, fun z H3 hy => ?_⟩
    obtain ⟨T, z1, z2, rfl, hT, rfl, k1, k2⟩ := hy
    have k1' := k1 vs hq
    rw [hv] at k1'
    cases k1'
    have k2' := k2 ws hq'
    rw [hw] at k2'
    cases k2'
    have e3 := Same.trans e (Same.off (same_new (o := .tup [v, w]) hT) M)
    exact ⟨same_new hT, .tup (SqT.of (off_some.mpr ⟨new_out hM hT, upd_same⟩)) (.cons (r.mono e3) (.cons (r'.mono e3) .nil))⟩
  · unfold zpD at hl'
    rw [List.length_map, List.length_zip] at hl'
    omega
theorem it_zx {elts : List Expr} {kk : Nat} {p tpos : Pos} {ds es : List PyData} (hg : Gl X "zip") (hm : X.mg "zip" = none) (ha : EvD X C L ρ a (.list ds) ρ1) (hb : EvD X C L ρ1 b (.tuple es) ρ2) (lh : ds.length = es.length)
    (hs : starEach [a, b] X.env = (false, eval a X.env) :: starEach [b] X.env := by rfl) (hs2 : starEach [b] X.env = (false, eval b X.env) :: starEach [] X.env := by rfl) (hpl : (backTo pos (starEach [b] X.env)).any (·.1) = false := by rfl) :
    IterS X C L ρ (.Tuple elts kk tpos) (.Call (.Name "zip" p) [a, b] [] pos) (zpD ds es) ρ2 := fun σ H S R q => by
  refine le_I (pi_zx hg hm pe_tE pe_tE hs hs2 hpl) ?_
  refine ha σ H S _ fun v H1 S1 p1' r1 => hb σ H1 S1 _ fun u H2 S2 p2' r2 => ?_
  obtain ⟨a', vs, rfl, h1, a1⟩ := dp_list (r1.mono p2')
  obtain ⟨b', ws, rfl, h2, a2⟩ := dp_tup r2
  exact ⟨a', b', vs, ws, rfl, rfl, sqL_off h1, sqT_off h2, by rw [a1.length, a2.length]; exact lh, q _ H2 S2 (p1'.trans p2') (yl_zx h1 a1 h2 a2 lh)⟩
end
end Tk
end

section
namespace Tk
open PySem

/-! ### the program's functions in plain Lean -/
structure Hb where
  depths : List Int
  berths : List Int
  tugs : Int
  pilots : Int
  last : Int
structure Sh where
  ready : Int
  len : Int
  draught : Int
  stay : Int
  tugs : Int
  sea : Int
  lie : Int
abbrev Place := Int × Int
abbrev Stt := Int × List Place
abbrev Mv := List (Int × Int)
abbrev Lat := Option (List (Option Int))
abbrev Way := Mv × Int × Stt
abbrev Row := List (List Int)
def SEA : Place := (-1, 0)
def GONE : Place := (-2, 0)
instance : Inhabited Sh := ⟨⟨0, 0, 0, 0, 0, 0, 0⟩⟩
def shipAt (ships : List Sh) (name : Int) : Sh := ships.getD name.toNat default
def placeAt (places : List Place) (name : Nat) : Place := places.getD name SEA
def depthAt (h : Hb) (hour : Int) : Int := h.depths.getD (hour % (h.depths.length : Int)).toNat 0
def beginning (ships : List Sh) : Stt := (0, ships.map fun _ => SEA)
def isEnd (s : Stt) : Bool := s.2.all fun p => decide (p = GONE)
def berthsFor (h : Hb) (sh : Sh) (places : List Place) : List Int :=
  ((h.berths.zipIdx).filter fun p => decide (sh.len ≤ p.1) && !(places.any fun q => decide (q.1 = (p.2 : Nat)))).map fun p => ((p.2 : Nat) : Int)
def isKept (lat : Lat) (name : Nat) (hour : Int) : Bool :=
  match lat with
  | none => true
  | some l =>
    match l.getD name none with
    | none => true
    | some k => decide (hour ≤ k)
def rowOf (h : Hb) (lat : Lat) (s : Stt) (name : Nat) (sh : Sh) : List Int :=
  if sh.draught ≤ depthAt h s.1 then
    if placeAt s.2 name = SEA ∧ sh.ready ≤ s.1 then berthsFor h sh s.2
    else if 0 ≤ (placeAt s.2 name).1 ∧ (placeAt s.2 name).2 = 0 ∧ isKept lat name s.1 = true then [-1] else []
  else []
def choices (h : Hb) (ships : List Sh) (s : Stt) (lat : Lat) : List (List Int) := ships.zipIdx.map fun p => rowOf h lat s p.2 p.1
def mvBerths (mv : Mv) : List Int := (mv.filter fun m => decide (0 ≤ m.2)).map (·.2)
def isLet (h : Hb) (ships : List Sh) (mv : Mv) : Bool :=
  if (distinct (mvBerths mv)).length ≠ (mvBerths mv).length ∨ h.pilots < mv.length then false else decide ((mv.map fun m => (shipAt ships m.1).tugs).sum ≤ h.tugs)
def moreOf (found : List Mv) (name : Nat) (row : List Int) : List Mv := found.foldl (fun more mv => more ++ row.map fun b => mv ++ [(((name : Nat) : Int), b)]) []
def stepMoves (h : Hb) (ships : List Sh) (found : List Mv) (p : List Int × Nat) : List Mv := found ++ (moreOf found p.2 p.1).filter (isLet h ships)
def allMoves (h : Hb) (ships : List Sh) (s : Stt) (lat : Lat) : List Mv := (choices h ships s lat).zipIdx.foldl (stepMoves h ships) [[]]

def costStep (s : Stt) (mv : Mv) (cost : Int) (p : Sh × Nat) : Int :=
  if mv.any (fun m => decide (m.1 = (p.2 : Nat))) then cost
  else if placeAt s.2 p.2 = SEA ∧ p.1.ready ≤ s.1 then cost + p.1.sea
  else if 0 ≤ (placeAt s.2 p.2).1 ∧ (placeAt s.2 p.2).2 = 0 then cost + p.1.lie
  else cost
def costIn (ships : List Sh) (s : Stt) (mv : Mv) : Int := ships.zipIdx.foldl (costStep s mv) 0
def later1 (p : Place) : Place := if 0 ≤ p.1 then (p.1, max 0 (p.2 - 1)) else p
def moveTo (ships : List Sh) (m : Int × Int) : Place := if m.2 = -1 then GONE else (m.2, (shipAt ships m.1).stay)
def afterMoves (ships : List Sh) (s : Stt) (mv : Mv) : Stt := (s.1 + 1, mv.foldl (fun l m => l.set m.1.toNat (moveTo ships m)) (s.2.map later1))

/-! ### dicts by states -/
section
variable {α : Type}
def aget (d : List (Stt × α)) (s : Stt) : Option α := (d.find? fun e => decide (e.1 = s)).map (·.2)
def aput (d : List (Stt × α)) (s : Stt) (v : α) : List (Stt × α) := if (aget d s).isSome then d.map (fun e => if e.1 = s then (e.1, v) else e) else d ++ [(s, v)]
end
abbrev Found := List (Stt × List Way)
def least (xs : List (Option Int)) : Option Int :=
  match xs.filterMap id with
  | [] => none
  | l => some (minI l)
def added (c : Int) (r : Option Int) : Option Int := r.map fun x => c + x
abbrev Rests := List (Stt × Option Int)
def restOf1 (found : Found) (rests : Rests) (s : Stt) : Option Int :=
  if isEnd s then some 0 else least (((aget found s).getD []).map fun w => added w.2.1 ((aget rests w.2.2).getD none))
def restsIn (found : Found) : Rests := (found.map (·.1)).reverse.foldl (fun rests s => aput rests s (restOf1 found rests s)) []
def waysOn (found : Found) (rests : Rests) (s : Stt) : List Way :=
  match (aget rests s).getD none with
  | none => []
  | some r => ((aget found s).getD []).filter fun w => decide (added w.2.1 ((aget rests w.2.2).getD none) = some r)
def putAhead (hour : Int) (mv : Mv) (row : Row) : Row := mv.foldl (fun l m => l.set m.1.toNat ((if m.2 = -1 then [hour] else [hour, m.2]) ++ l.getD m.1.toNat [])) row

/-! ### as data -/
def encH (h : Hb) : PyData := .tuple [.list (h.depths.map .int), .list (h.berths.map .int), .int h.tugs, .int h.pilots, .int h.last]
def encS (s : Sh) : PyData := .tuple [.int s.ready, .int s.len, .int s.draught, .int s.stay, .int s.tugs, .int s.sea, .int s.lie]
def encSs (ships : List Sh) : PyData := .list (ships.map encS)
def encP (p : Int × Int) : PyData := .tuple [.int p.1, .int p.2]
def encPs (ps : List Place) : PyData := .tuple (ps.map encP)
def encSt (s : Stt) : PyData := .tuple [.int s.1, encPs s.2]
def encMv (mv : Mv) : PyData := .tuple (mv.map encP)
def encO : Option Int → PyData
  | none => .none
  | some i => .int i
def encW (w : Way) : PyData := .tuple [encMv w.1, .int w.2.1, encSt w.2.2]
def encLat : Lat → PyData
  | none => .none
  | some l => .list (l.map encO)
def encTu (t : List Int) : PyData := .tuple (t.map .int)
def encRow (r : Row) : PyData := .tuple (r.map encTu)
def encPlan : Option Row → PyData
  | none => .none
  | some r => .list (r.map encTu)
def encT (e : Stt × Option Int) : PyData := .tuple [.int e.1.1, encPs e.1.2, encO e.2]
def keyP (p : Place) : NestedKey := .tup [.num p.1, .num p.2]
def keyT (s : Stt) : List NestedKey := [.num s.1, .tup (s.2.map keyP)]
def keyS (s : Stt) : NestedKey := .tup (keyT s)
def dic {α : Type} (enc : α → PyData) (d : List (Stt × α)) : Kvs := d.map fun e => (keyS e.1, enc e.2)
def encWs (ws : List Way) : PyData := .list (ws.map encW)
def leMv (a b : Mv) : Bool := PySem.W.dataLe false encMv a b
def leSt (a b : Stt) : Bool := PySem.W.dataLe false encSt a b

def movesIn (h : Hb) (ships : List Sh) (s : Stt) (lat : Lat) : List Mv := if h.last < s.1 ∨ isEnd s = true then [] else (allMoves h ships s lat).mergeSort leMv
def waysIn (h : Hb) (ships : List Sh) (s : Stt) (lat : Lat) : List Way := (movesIn h ships s lat).map fun mv => (mv, costIn ships s mv, afterMoves ships s mv)
def layerStep (h : Hb) (ships : List Sh) (lat : Lat) (p : Found × List (Stt × Bool)) (here : Stt) : Found × List (Stt × Bool) :=
  (aput p.1 here (waysIn h ships here lat), (waysIn h ships here lat).foldl (fun l w => aput l w.2.2 true) p.2)
def growStep (h : Hb) (ships : List Sh) (lat : Lat) (fl : Found × List Stt) : Found × List Stt :=
  ((fl.2.foldl (layerStep h ships lat) (fl.1, [])).1, (fl.2.foldl (layerStep h ships lat) (fl.1, [])).2.map (·.1))
def gIter (h : Hb) (ships : List Sh) (lat : Lat) (s : Stt) : Nat → Found × List Stt
  | 0 => ([], [s])
  | n + 1 => growStep h ships lat (gIter h ships lat s n)
def grown (h : Hb) (ships : List Sh) (s : Stt) (lat : Lat) : Found := (gIter h ships lat s 20).1
def restOf (h : Hb) (ships : List Sh) (s : Stt) (lat : Lat) : Option Int := (aget (restsIn (grown h ships s lat)) s).getD none
def leastCost (h : Hb) (ships : List Sh) (lat : Lat) : Option Int := restOf h ships (beginning ships) lat
def minRow (r : Row) (rs : List Row) : Row := rs.foldl (fun a y => if PySem.W.dataLt (encRow y) (encRow a) then y else a) r
def minRows : List Row → Row
  | [] => []
  | r :: rs => minRow r rs
abbrev Rows := List (Stt × Row)
def rowsStep (ships : List Sh) (found : Found) (rests : Rests) (rows : Rows) (s : Stt) : Rows :=
  if isEnd s then aput rows s (ships.map fun _ => [])
  else if ((aget rests s).getD none).isSome then aput rows s (minRows ((waysOn found rests s).map fun w => putAhead s.1 w.1 ((aget rows w.2.2).getD [])))
  else rows
def rowsIn (ships : List Sh) (found : Found) (rests : Rests) : Rows := (found.map (·.1)).reverse.foldl (rowsStep ships found rests) []
def planOf (ships : List Sh) (found : Found) (rests : Rests) : Option Row :=
  match (aget rests (beginning ships)).getD none with
  | none => none
  | some _ => some ((aget (rowsIn ships found rests) (beginning ships)).getD [])
def bestPlan (h : Hb) (ships : List Sh) (lat : Lat) : Option Row := planOf ships (grown h ships (beginning ships) lat) (restsIn (grown h ships (beginning ships) lat))
def tableOf (h : Hb) (ships : List Sh) (lat : Lat) : List (Stt × Option Int) :=
  (((restsIn (grown h ships (beginning ships) lat)).map (·.1)).mergeSort leSt).map fun s => (s, (aget (restsIn (grown h ships (beginning ships) lat)) s).getD none)
def isWithin (v lo hi : Int) : Bool := decide (lo ≤ v) && decide (v ≤ hi)
def isPlace (h : Hb) (sh : Sh) (p : Place) : Bool :=
  if p = SEA ∨ p = GONE then true else isWithin p.1 0 ((h.berths.length : Int) - 1) && isWithin p.2 0 sh.stay
def heldIn (ps : List Place) : List Int := (ps.filter fun p => decide (0 ≤ p.1)).map (·.1)
def isState (h : Hb) (ships : List Sh) (s : Stt) : Bool :=
  if isWithin s.1 0 (h.last + 1) = false ∨ s.2.length ≠ ships.length then false
  else if ((ships.zip s.2).all fun p => isPlace h p.1 p.2) = false then false
  else decide ((distinct (heldIn s.2)).length = (heldIn s.2).length)
def isAtMost (bound most : Option Int) : Bool :=
  match most with
  | none => true
  | some m =>
    match bound with
    | none => false
    | some b => decide (b ≤ m)

/-! ### lemmas about the readings -/
theorem datas_map {α : Type} (f : α → NestedKey) : ∀ xs : List α, NestedKey.datas (xs.map f) = xs.map fun x => (f x).data
  | [] => rfl
  | x :: xs => by
    show (f x).data :: NestedKey.datas (xs.map f) = _
    rw [datas_map f xs]
    rfl
theorem keyP_data (p : Place) : (keyP p).data = encP p := rfl
theorem keyS_data (s : Stt) : (NestedKey.tup (keyT s)).data = encSt s := by
  show PyData.tuple [.int s.1, .tuple (NestedKey.datas (s.2.map keyP))] = _
  rw [datas_map]
  rfl
theorem keyP_inj {p q : Place} (h : keyP p = keyP q) : p = q := by
  have h1 := (NestedKey.tup.inj h)
  injection h1 with a b
  injection b with b c
  injection a with a
  injection b with b
  exact Prod.ext a b
theorem map_inj {α β : Type} {f : α → β} (hf : ∀ a b, f a = f b → a = b) : ∀ {xs ys : List α}, xs.map f = ys.map f → xs = ys
  | [], [], _ => rfl
  | [], _ :: _, h => nomatch h
  | _ :: _, [], h => nomatch h
  | x :: xs, y :: ys, h => by
    simp only [List.map_cons] at h
    injection h with h1 h2
    rw [hf _ _ h1, map_inj hf h2]
theorem keyS_inj {s t : Stt} (h : keyS s = keyS t) : s = t := by
  have h1 := (NestedKey.tup.inj h)
  unfold keyT at h1
  injection h1 with a b
  injection a with a
  injection b with b c
  have := NestedKey.tup.inj b
  exact Prod.ext a (map_inj (fun _ _ => keyP_inj) this)
theorem keyS_depth (s : Stt) : (keyS s).depth ≤ 8 := by
  have aux : ∀ ps : List Place, NestedKey.depthAll (ps.map keyP) ≤ 1 := by
    intro ps
    induction ps with
    | nil => exact Nat.zero_le _
    | cons p ps ih =>
      show max (keyP p).depth (NestedKey.depthAll (ps.map keyP)) ≤ 1
      have : (keyP p).depth = 1 := rfl
      omega
  show max 0 (max (NestedKey.depthAll (s.2.map keyP) + 1) 0) + 1 ≤ 8
  have := aux s.2
  omega
section
variable {α : Type} {enc : α → PyData}
theorem dget_dic (d : List (Stt × α)) (s : Stt) : dget (dic enc d) (.tup (keyT s)) = (aget d s).map enc := by
  unfold dget dic aget
  rw [List.find?_map]
  have : ((fun e : NestedKey × PyData => decide (e.1 = NestedKey.tup (keyT s))) ∘ fun e : Stt × α => (keyS e.1, enc e.2)) = fun e => decide (e.1 = s) := by
    funext e
    simp only [Function.comp]
    exact decide_eq_decide.mpr ⟨fun z => keyS_inj z, fun z => by rw [z]; rfl⟩
  rw [this]
  cases List.find? (fun e : Stt × α => decide (e.1 = s)) d <;> rfl
theorem dput_dic (d : List (Stt × α)) (s : Stt) (v : α) : dput (dic enc d) (.tup (keyT s)) (enc v) = dic enc (aput d s v) := by
  unfold dput aput
  rw [dget_dic, Option.isSome_map]
  split
  · unfold dic
    rw [List.map_map,List.map_map]
    apply List.map_congr_left
    intro e _
    simp only [Function.comp]
    by_cases h : e.1 = s
    · rw [if_pos h, if_pos (show keyS e.1 = NestedKey.tup (keyT s) by rw [h]; rfl)]
    · rw [if_neg h, if_neg (show ¬ keyS e.1 = NestedKey.tup (keyT s) from fun z => h (keyS_inj z))]
  · unfold dic
    rw [List.map_append]
    rfl
theorem dic_length (d : List (Stt × α)) : (dic enc d).length = d.length := by unfold dic; rw [List.length_map]
theorem keyD_dic (d : List (Stt × α)) : keyD (dic enc d) = (d.map (·.1)).map encSt := by
  unfold keyD dic
  rw [List.map_map,List.map_map]
  apply List.map_congr_left
  intro e _
  exact keyS_data e.1
theorem aget_aput_self (d : List (Stt × α)) (s : Stt) (v : α) : aget (aput d s v) s = some v := by
  unfold aput
  split
  · rename_i h
    unfold aget at h ⊢
    rw [List.find?_map]
    have e : ((fun e : Stt × α => decide (e.1 = s)) ∘ fun e : Stt × α => if e.1 = s then (e.1, v) else e) = fun e => decide (e.1 = s) := by
      funext e
      simp only [Function.comp]
      split
      · rfl
      · rfl
    rw [e]
    cases q : List.find? (fun e : Stt × α => decide (e.1 = s)) d with
    | none => rw [q] at h; cases h
    | some x =>
      have hx := List.find?_some q
      simp only [decide_eq_true_eq] at hx
      simp [hx]
  · rename_i h
    unfold aget at h ⊢
    rw [List.find?_append]
    cases q : List.find? (fun e : Stt × α => decide (e.1 = s)) d with
    | none => simp
    | some x => rw [q] at h; exact absurd rfl h
theorem aget_aput_ne (d : List (Stt × α)) {s t : Stt} (v : α) (h : t ≠ s) : aget (aput d s v) t = aget d t := by
  unfold aput
  split
  · unfold aget
    rw [List.find?_map]
    have e : ((fun e : Stt × α => decide (e.1 = t)) ∘ fun e : Stt × α => if e.1 = s then (e.1, v) else e) = fun e => decide (e.1 = t) := by
      funext e
      simp only [Function.comp]
      split <;> rfl
    rw [e]
    cases q : List.find? (fun e : Stt × α => decide (e.1 = t)) d with
    | none => rfl
    | some x =>
      have hx := List.find?_some q
      simp only [decide_eq_true_eq] at hx
      simp [hx, h]
  · unfold aget
    rw [List.find?_append]
    cases q : List.find? (fun e : Stt × α => decide (e.1 = t)) d with
    | none => simp [Ne.symm h]
    | some x => simp
theorem aput_new (d : List (Stt × α)) {s : Stt} (v : α) (h : aget d s = none) : aput d s v = d ++ [(s, v)] := by
  unfold aput
  rw [h]
  rfl
end
theorem eqv_int (i j : Int) : PyData.eqv (.int i) (.int j) = decide (i = j) := by simp only [PyData.eqv]; rfl
theorem eqv_encP (p q : Place) : PyData.eqv (encP p) (encP q) = decide (p = q) := by
  unfold encP
  simp only [PyData.eqv, PyData.eqvAll, Bool.and_true]
  rcases p with ⟨a, b⟩
  rcases q with ⟨c, d⟩
  simp only [Prod.mk.injEq]
  by_cases h1 : a = c <;> by_cases h2 : b = d <;> simp [h1, h2]
end Tk
end

section
namespace Tk
open L2 PyProof.Rows PySem PySem.Spec
section
variable {X : Cx} {C : Cc} {L : List Addr} {ρ ρ1 ρ2 ρ3 : List Slot} {e a b c tg iter : Expr} {es : List Expr} {d d1 d2 : PyData} {pos p : Pos} {D : Ends} {σ : L2.St} {H : Hp} {i j : Int} {k : Bool}
/-! ### comparisons as tests -/
theorem et_lt (ha : EvD X C L ρ a (.int i) ρ1) (hb : EvD X C L ρ1 b (.int j) ρ2) : EvT X C L ρ (.Compare a [.Lt] [b] pos) (decide (i < j)) ρ2 :=
  et_cmp op_lt (nomark _) ha hb fun x y σ H S rx ry Q q => ⟨i, j, dp_int rx, dp_int ry, q H (Same.refl H)⟩
theorem et_le (ha : EvD X C L ρ a (.int i) ρ1) (hb : EvD X C L ρ1 b (.int j) ρ2) : EvT X C L ρ (.Compare a [.LtE] [b] pos) (decide (i ≤ j)) ρ2 :=
  et_cmp op_le (nomark _) ha hb fun x y σ H S rx ry Q q => ⟨i, j, dp_int rx, dp_int ry, q H (Same.refl H)⟩
theorem et_gt (ha : EvD X C L ρ a (.int i) ρ1) (hb : EvD X C L ρ1 b (.int j) ρ2) : EvT X C L ρ (.Compare a [.Gt] [b] pos) (decide (j < i)) ρ2 :=
  et_cmp op_gt (nomark _) ha hb fun x y σ H S rx ry Q q => ⟨i, j, dp_int rx, dp_int ry, q H (Same.refl H)⟩
theorem et_ge (ha : EvD X C L ρ a (.int i) ρ1) (hb : EvD X C L ρ1 b (.int j) ρ2) : EvT X C L ρ (.Compare a [.GtE] [b] pos) (decide (j ≤ i)) ρ2 :=
  et_cmp op_ge (nomark _) ha hb fun x y σ H S rx ry Q q => ⟨i, j, dp_int rx, dp_int ry, q H (Same.refl H)⟩
theorem et_eq (hu : X.A.units + 200 < cLine) (ha : EvD X C L ρ a d1 ρ1) (hb : EvD X C L ρ1 b d2 ρ2) (hk : PyData.eqv d1 d2 = k) (hd : min d1.depth d2.depth ≤ 64 := by exact Nat.le_of_ble_eq_true rfl) : EvT X C L ρ (.Compare a [.Eq] [b] pos) k ρ2 :=
  et_cmp (op_eqP (by omega)) (nomark _) ha hb fun x y σ H S rx ry Q q => ⟨d1, d2, rx_off rx, rx_off ry, hd, by rw [hk]; exact q H (Same.refl H)⟩
theorem et_ne (hu : X.A.units + 200 < cLine) (ha : EvD X C L ρ a d1 ρ1) (hb : EvD X C L ρ1 b d2 ρ2) (hk : (!PyData.eqv d1 d2) = k) (hd : min d1.depth d2.depth ≤ 64 := by exact Nat.le_of_ble_eq_true rfl) : EvT X C L ρ (.Compare a [.NotEq] [b] pos) k ρ2 :=
  et_cmp (op_neP (by omega)) (nomark _) ha hb fun x y σ H S rx ry Q q => ⟨d1, d2, rx_off rx, rx_off ry, hd, by rw [hk]; exact q H (Same.refl H)⟩
theorem et_leP (hu : X.A.units + 200 < cLine) (ha : EvD X C L ρ a d1 ρ1) (hb : EvD X C L ρ1 b d2 ρ2) (hk : (!PySem.W.dataLt d2 d1) = k) (hal : PySem.W.alike d1 d2 = true) (hn : d1 ≠ .none) (hd : min d1.depth d2.depth ≤ 64 := by exact Nat.le_of_ble_eq_true rfl) : EvT X C L ρ (.Compare a [.LtE] [b] pos) k ρ2 :=
  et_cmp (op_leP (by omega)) (nomark _) ha hb fun x y σ H S rx ry Q q => ⟨d1, d2, rx_off rx, rx_off ry, hd, hal, hn, by rw [hk]; exact q H (Same.refl H)⟩
theorem et_inL {xs : List PyData} (hu : X.A.units + 200 < cLine) (ha : EvD X C L ρ a d1 ρ1) (hb : EvD X C L ρ1 b (.list xs) ρ2) (hk : (xs.any fun z => PyData.eqv z d1) = k) (hd : d1.depth ≤ 64 := by exact Nat.le_of_ble_eq_true rfl) (hm : behindInMarks .In b = false := by rfl) : EvT X C L ρ (.Compare a [.In] [b] pos) k ρ2 :=
  et_cmp (op_inP (by omega)) hm ha hb fun x y σ H S rx ry Q q => ⟨d1, xs, rx_off rx, .inl (rx_off ry), hd, by rw [hk]; exact q H (Same.refl H)⟩
theorem et_inT {xs : List PyData} (hu : X.A.units + 200 < cLine) (ha : EvD X C L ρ a d1 ρ1) (hb : EvD X C L ρ1 b (.tuple xs) ρ2) (hk : (xs.any fun z => PyData.eqv z d1) = k) (hd : d1.depth ≤ 64 := by exact Nat.le_of_ble_eq_true rfl) (hm : behindInMarks .In b = false := by rfl) : EvT X C L ρ (.Compare a [.In] [b] pos) k ρ2 :=
  et_cmp (op_inP (by omega)) hm ha hb fun x y σ H S rx ry Q q => ⟨d1, xs, rx_off rx, .inr (rx_off ry), hd, by rw [hk]; exact q H (Same.refl H)⟩
theorem et_notInL {xs : List PyData} (hu : X.A.units + 200 < cLine) (ha : EvD X C L ρ a d1 ρ1) (hb : EvD X C L ρ1 b (.list xs) ρ2) (hk : (!(xs.any fun z => PyData.eqv z d1)) = k) (hd : d1.depth ≤ 64 := by exact Nat.le_of_ble_eq_true rfl) (hm : behindInMarks .NotIn b = false := by rfl) : EvT X C L ρ (.Compare a [.NotIn] [b] pos) k ρ2 :=
  et_cmp (op_notInP (by omega)) hm ha hb fun x y σ H S rx ry Q q => ⟨d1, xs, rx_off rx, .inl (rx_off ry), hd, by rw [hk]; exact q H (Same.refl H)⟩
theorem et_notInX {kvs : Kvs} {ks : List NestedKey} (hu : X.A.units + 200 < cLine) (hb : EvD X C L ρ b (NestedKey.tup ks).data ρ1) (ha : EvE X C L ρ1 a (.dic kvs) ρ2) (hk : (!(dget kvs (.tup ks)).isSome) = k) (hd : (NestedKey.tup ks).depth ≤ 8) (hm : behindInMarks .NotIn a = false := by rfl) : EvT X C L ρ (.Compare b [.NotIn] [a] pos) k ρ2 :=
  et_cmp (op_notInX (by omega)) hm hb ha fun x y σ H S rx ry Q q => by
    obtain ⟨p1, es, o, rfl, h1, h2⟩ := ry
    obtain ⟨b', rfl⟩ := dp_ref rx
    exact ⟨p1, b', kvs, es, o, _, rfl, rfl, rd_mono off_le h1, h2.mono off_le, Dp.mono off_le rx, hd, by rw [hk]; exact q H (Same.refl H)⟩
theorem et_isN {j pos'} (ha : EvD X C L ρ a d1 ρ1) (hk : noneB d1 = k) : EvT X C L ρ (.Compare a [.Is] [.Constant .none j pos'] pos) k ρ1 := fun σ H S Q q => by
  refine le_T (pt_cmp (pc_isN pe_tE)) ?_
  exact ha σ H S _ fun x H1 S1 f1 r1 => ⟨k, by rw [non_dec r1, hk], q H1 S1 f1⟩
theorem et_notN {j pos'} (ha : EvD X C L ρ a d1 ρ1) (hk : (!noneB d1) = k) : EvT X C L ρ (.Compare a [.IsNot] [.Constant .none j pos'] pos) k ρ1 := fun σ H S Q q => by
  refine le_T (pt_cmp (pc_notN pe_tE)) ?_
  exact ha σ H S _ fun x H1 S1 f1 r1 => ⟨k, by rw [non_dec r1, hk], q H1 S1 f1⟩
theorem et_isnotB {k1 k2 : Bool} (ha : EvD X C L ρ a (.bool k1) ρ1) (hb : EvD X C L ρ1 b (.bool k2) ρ2) : EvT X C L ρ (.Compare a [.IsNot] [b] pos) (!decide (k1 = k2)) ρ2 :=
  et_cmp op_isnot_bl (nomark _) ha hb fun x y σ H S rx ry Q q => ⟨k1, k2, dp_bool rx, dp_bool ry, q H (Same.refl H)⟩
theorem et_cast {k k' : Bool} (h : EvT X C L ρ e k ρ1) (he : k = k') : EvT X C L ρ e k' ρ1 := he ▸ h
theorem ev_ifS {k : Bool} {d : Dt} (hc : EvT X C L ρ c k ρ) (h1 : k = true → EvE X C L ρ a d ρ) (h2 : k = false → EvE X C L ρ b d ρ) : EvE X C L ρ (.IfExp c a b pos) d ρ := ev_if hc h1 h2
/-! ### the same as values -/
theorem ev_eqK (hu : X.A.units + 200 < cLine) (ha : EvD X C L ρ a d1 ρ1) (hb : EvD X C L ρ1 b d2 ρ2) (hk : PyData.eqv d1 d2 = k) (hd : min d1.depth d2.depth ≤ 64 := by exact Nat.le_of_ble_eq_true rfl) : EvD X C L ρ (.Compare a [.Eq] [b] pos) (.bool k) ρ2 := hk ▸ ev_eq (by omega) ha hb hd
theorem ev_isNk {k : Bool} {j pos'} (ha : EvD X C L ρ a d1 ρ1) (hk : noneB d1 = k) : EvD X C L ρ (.Compare a [.Is] [.Constant .none j pos'] pos) (.bool k) ρ1 := hk ▸ ev_isN ha
theorem ev_notNk {k : Bool} {j pos'} (ha : EvD X C L ρ a d1 ρ1) (hk : (!noneB d1) = k) : EvD X C L ρ (.Compare a [.IsNot] [.Constant .none j pos'] pos) (.bool k) ρ1 := hk ▸ ev_notN ha

/-! ### statements that join -/
theorem sp_mono {pins : List (Addr × Obj)} {D D' : Ends} (hn : ∀ σ H, D.nx σ H → D'.nx σ H) (hr : ∀ v H, D.rt v H → D'.rt v H) (hb : ∀ σ H, D.bk σ H → D'.bk σ H) (hc : ∀ σ H, D.ct σ H → D'.ct σ H) (f : Flow) (s : Shared) (h : SP X pins D f s) : SP X pins D' f s := by
  cases f with
  | next => obtain ⟨a, b, c, d⟩ := h; exact ⟨a, b, c, hn _ _ d⟩
  | brk => obtain ⟨a, b, c, d⟩ := h; exact ⟨a, b, c, hb _ _ d⟩
  | cont => obtain ⟨a, b, c, d⟩ := h; exact ⟨a, b, c, hc _ _ d⟩
  | ret u => obtain ⟨v, a, b, c, r, d⟩ := h; exact ⟨v, a, b, c, r, hr _ _ d⟩
theorem tSs_nx {D : Ends} {N : L2.St → Hp → Prop} {st : List Stmt} (h : tSs X st { D with nx := N } σ H) (hn : ∀ σ H, N σ H → D.nx σ H) : tSs X st D σ H := fun pins s I =>
  wpAny_mono (h pins s I) (fun f s' q => sp_mono (D := { D with nx := N }) (D' := D) hn (fun _ _ z => z) (fun _ _ z => z) (fun _ _ z => z) f s' q) fun _ _ z => z
theorem tS_nx {D : Ends} {N : L2.St → Hp → Prop} {st : Stmt} (h : tS X st { D with nx := N } σ H) (hn : ∀ σ H, N σ H → D.nx σ H) : tS X st D σ H := fun pins s I =>
  wpAny_mono (h pins s I) (fun f s' q => sp_mono (D := { D with nx := N }) (D' := D) hn (fun _ _ z => z) (fun _ _ z => z) (fun _ _ z => z) f s' q) fun _ _ z => z
theorem go_ifJ {k : Bool} {sa sb : List Stmt} (ρ3 : List Slot) (S : SitX X C L ρ σ H) (hc : EvT X C L ρ c k ρ1) (h1 : k = true → ∀ H1, SitX X C L ρ1 σ H1 → tSs X sa { D with nx := fun σ2 H2 => SitX X C L ρ3 σ2 H2 } σ H1) (h2 : k = false → ∀ H1, SitX X C L ρ1 σ H1 → tSs X sb { D with nx := fun σ2 H2 => SitX X C L ρ3 σ2 H2 } σ H1)
    (kk : ∀ σ2 H2, SitX X C L ρ3 σ2 H2 → D.nx σ2 H2) : tS X (.If c sa sb pos) D σ H :=
  tS_nx (go_if S hc h1 h2) kk
theorem Sit.forget {K : PySem.W.Frag} {P : Program} {w : World} (i : Nat) (S : Sit K P w C L ρ σ H) : Sit K P w C L (ρ.set i .any) σ H := S.weak fun j s h => by
  rcases set_get h with ⟨rfl, rfl⟩ | ⟨_, h'⟩
  · exact .inl rfl
  · exact .inr h'
end
end Tk
end

section
namespace Tk
open PySem
/-! ### dicts by states: their keys -/
section
variable {α : Type}
abbrev akeys (d : List (Stt × α)) : List Stt := d.map (·.1)
theorem aget_isSome {d : List (Stt × α)} {s : Stt} : (aget d s).isSome = true ↔ s ∈ akeys d := by
  unfold aget akeys
  rw [Option.isSome_map, List.find?_isSome]
  simp only [decide_eq_true_eq, List.mem_map]
theorem aget_none {d : List (Stt × α)} {s : Stt} : aget d s = none ↔ s ∉ akeys d := by
  rw [← aget_isSome]
  cases aget d s <;> simp
theorem akeys_aput (d : List (Stt × α)) (s : Stt) (v : α) : akeys (aput d s v) = if s ∈ akeys d then akeys d else akeys d ++ [s] := by
  unfold aput
  by_cases h : s ∈ akeys d
  · rw [if_pos (aget_isSome.mpr h), if_pos h]
    unfold akeys
    rw [List.map_map]
    apply List.map_congr_left
    intro e _
    simp only [Function.comp]
    split <;> rfl
  · rw [if_neg (fun z => h (aget_isSome.mp z)), if_neg h]
    unfold akeys
    rw [List.map_append]
    rfl
theorem mem_akeys_aput {d : List (Stt × α)} {s t : Stt} {v : α} : t ∈ akeys (aput d s v) ↔ t = s ∨ t ∈ akeys d := by
  rw [akeys_aput]
  split
  · constructor
    · exact .inr
    · rintro (rfl | h)
      · assumption
      · exact h
  · rw [List.mem_append, List.mem_singleton]
    constructor
    · rintro (h | h)
      · exact .inr h
      · exact .inl h
    · rintro (h | h)
      · exact .inr h
      · exact .inl h
theorem nodup_aput {d : List (Stt × α)} {s : Stt} {v : α} (h : (akeys d).Nodup) : (akeys (aput d s v)).Nodup := by
  rw [akeys_aput]
  split
  · exact h
  · rename_i hn
    rw [List.nodup_append]
    exact ⟨h, by simp, fun a ha b hb => by rw [List.mem_singleton.mp hb]; exact fun z => hn (z ▸ ha)⟩
theorem aput_len (d : List (Stt × α)) (s : Stt) (v : α) : d.length ≤ (aput d s v).length ∧ (aput d s v).length ≤ d.length + 1 := by
  unfold aput
  split
  · rw [List.length_map]; omega
  · rw [(List.length_append)]; simp
theorem aget_mem {d : List (Stt × α)} {s : Stt} {v : α} (h : aget d s = some v) : (s, v) ∈ d := by
  unfold aget at h
  cases q : d.find? fun e => decide (e.1 = s) with
  | none => rw [q] at h; cases h
  | some x =>
    rw [q] at h
    have h1 := List.find?_some q
    have h2 := List.mem_of_find?_eq_some q
    simp only [decide_eq_true_eq] at h1
    cases h
    rw [← h1]
    exact h2
theorem aget_of_mem {d : List (Stt × α)} {s : Stt} {v : α} (hn : (akeys d).Nodup) (h : (s, v) ∈ d) : aget d s = some v := by
  induction d with
  | nil => exact absurd h List.not_mem_nil
  | cons e d ih =>
    rw [show akeys (e :: d) = e.1 :: akeys d from rfl, List.nodup_cons] at hn
    unfold aget
    rcases List.mem_cons.mp h with h | h
    · subst h
      rw [List.find?_cons_of_pos (by simp)]
      rfl
    · have hne : e.1 ≠ s := fun z => hn.1 (by rw [z]; exact List.mem_map.mpr ⟨(s, v), h, rfl⟩)
      rw [List.find?_cons_of_neg (by simpa using hne)]
      exact ih hn.2 h
end
/-! ### what is asked of the states found -/
/-- the state of ships at a harbour -/
def HbOk (h : Hb) : Prop := 0 < h.depths.length ∧ h.depths.length ≤ 100 ∧ 0 < h.berths.length ∧ h.berths.length ≤ 4
def LatOk (lat : Lat) (n : Nat) : Prop := ∀ l, lat = some l → l.length = n
def StOk (h : Hb) (ships : List Sh) (s : Stt) (lat : Lat) : Prop := HbOk h ∧ ships.length ≤ 2 ∧ s.2.length = ships.length ∧ LatOk lat ships.length
structure FoOk (found : Found) : Prop where
  sz : found.length ≤ 100000
  nd : (akeys found).Nodup
  ln : ∀ e ∈ found, e.1.2.length ≤ 2 ∧ e.2.length ≤ 1000
  od : ∀ (i : Nat) (s : Stt) (ws : List Way), found[i]? = some (s, ws) → ∀ w ∈ ws, ∃ j, i < j ∧ (akeys found)[j]? = some w.2.2
structure GOk (h : Hb) (ships : List Sh) (s : Stt) (lat : Lat) : Prop where
  st : StOk h ships s lat
  fin : (gIter h ships lat s 20).2 = []
  sz : ∀ n, (gIter h ships lat s n).1.length ≤ 100000 ∧ (gIter h ships lat s n).2.length ≤ 100000
  len : ∀ n, ∀ t ∈ (gIter h ships lat s n).2, t.2.length = ships.length
  fo : FoOk (grown h ships s lat)
  mem : s ∈ akeys (grown h ships s lat)
  way : ∀ e ∈ grown h ships s lat, e.2 = waysIn h ships e.1 lat
theorem foldl_len_mono {α β : Type} (f : β → α → β) (m : β → Nat) (hf : ∀ b x, m b ≤ m (f b x)) : ∀ (xs : List α) (b : β), m b ≤ m (xs.foldl f b)
  | [], _ => Nat.le_refl _
  | x :: xs, b => Nat.le_trans (hf b x) (foldl_len_mono f m hf xs (f b x))
theorem foldl_take_mono {α β : Type} (f : β → α → β) (m : β → Nat) (hf : ∀ b x, m b ≤ m (f b x)) (xs : List α) (b : β) (i : Nat) : m ((xs.take i).foldl f b) ≤ m (xs.foldl f b) := by
  have e : xs = xs.take i ++ xs.drop i := (List.take_append_drop i xs).symm
  have e2 : xs.foldl f b = (xs.drop i).foldl f ((xs.take i).foldl f b) := by rw [← List.foldl_append, ← e]
  rw [e2]
  exact foldl_len_mono f m hf _ _
theorem layerStep_mono1 (h : Hb) (ships : List Sh) (lat : Lat) (p : Found × List (Stt × Bool)) (x : Stt) : p.1.length ≤ (layerStep h ships lat p x).1.length := (aput_len _ _ _).1
theorem layerStep_mono2 (h : Hb) (ships : List Sh) (lat : Lat) (p : Found × List (Stt × Bool)) (x : Stt) : p.2.length ≤ (layerStep h ships lat p x).2.length :=
  foldl_len_mono (fun l (w : Way) => aput l w.2.2 true) List.length (fun b x => (aput_len _ _ _).1) _ _
end Tk
end

section
namespace Tk
open L2 PyProof.Rows PySem PySem.Spec
def topS (i : Nat) : Stmt := PySem.Challenge.pw_tidewaits_k23_whole_promised_hours.main.body.getD i (.Pass ⟨0, 0, 0, 0⟩)
/-- the built-in names stand for what they are -/
structure Bn (mg : Str → Option Value) : Prop where
  len : mg "len" = none
  tuple : mg "tuple" = none
  enumerate : mg "enumerate" = none
  all : mg "all" = none
  isinstance : mg "isinstance" = none
  int : mg "int" = none
  bool : mg "bool" = none
  set : mg "set" = none
  sum : mg "sum" = none
  sorted : mg "sorted" = none
  list : mg "list" = none
  max : mg "max" = none
  min : mg "min" = none
  reversed : mg "reversed" = none
  zip : mg "zip" = none
  range : mg "range" = none
  repr : mg "repr" = none
/-- a def as it may be called: by position, all given -/
def Fd (P : Program) (w : World) (K : PySem.W.Frag) (mg : Str → Option Value) (base : Heap) (k : Nat) (x : Str) (ps : List Str) (R : List Dt → Dt → Prop) : Prop :=
  ∃ f fd, FnOk P w K mg base CX0 k f fd ps (SpR K P w R) ∧ mg x = some (.ref f) ∧ PySem.W.keepIn K (.ref f) = true ∧ Binds K fd ps []
abbrev FdX (X : Cx) := Fd X.prog X.w X.K X.mg X.base
/-- a constant of the module -/
def Gd (K : PySem.W.Frag) (mg : Str → Option Value) (x : Str) (d : PyData) : Prop := ∃ a, mg x = some (.ref a) ∧ ∀ H, Dp K H (.ref a) d
section
variable {X : Cx} {C : Cc} {L : List Addr} {ρ ρ1 ρ2 ρ3 : List Slot} {e a b c tg iter : Expr} {es : List Expr} {d d1 d2 : PyData} {pos p : Pos} {D : Ends} {σ : L2.St} {H : Hp} {body : List Stmt}
theorem ev_cl {j k : Nat} {x : Str} {ps : List Str} {R : List Dt → Dt → Prop} {ds : List Dt} {r : Dt} (F : FdX X k x ps R) (hr : Room j X.A) (ha : EvA X C L ρ (e :: es) ds ρ1) (hR : R ds r) (hkj : k ≤ j := by decide) (hg : Gl X x := by rfl)
    (hdb : (x == ("__debug__" : Str)) = false := by decide)
    (he : starEach (e :: es) X.env = (false, eval e X.env) :: starEach es X.env := by rfl)
    (hpl : (backTo pos (starEach es X.env)).any (·.1) = false := by rfl) :
    EvE X C L ρ (.Call (.Name x p) (e :: es) [] pos) r ρ1 := by
  obtain ⟨f, fd, h1, h2, h3, h4⟩ := F
  exact ev_call h1 (hr.mono hkj) hg h2 h3 h4 .nil (fun _ => .nil) ha (by rw [List.append_nil]; exact hR) hdb he hpl
theorem ev_gd {x : Str} (G : Gd X.K X.mg x d) (hg : Gl X x := by rfl) (hd : (x == ("__debug__" : Str)) = false := by decide) : EvD X C L ρ (.Name x pos) d ρ := by
  obtain ⟨a, h1, h2⟩ := G
  exact ev_glob hg h1 h2 hd
theorem room_u {k : Nat} {A : Around} (h : Room k A) : A.units + 200 < cLine := by have := h.un; omega
theorem ev_cast {d d' : PyData} (h : EvD X C L ρ e d ρ1) (he : d = d') : EvD X C L ρ e d' ρ1 := he ▸ h
theorem zipIdx_en {α : Type} (enc : α → PyData) (xs : List α) : enD (xs.map enc) = xs.zipIdx.map fun p => PyData.tuple [.int (p.2 : Nat), enc p.1] := by
  unfold enD
  rw [List.zipIdx_map, List.map_map]
  rfl
theorem it_enumX {α : Type} (xs : List α) (enc : α → PyData) {elts : List Expr} {kk : Nat} {p tpos : Pos} (hm : X.mg "enumerate" = none) (h : EvD X C L ρ e (.list (xs.map enc)) ρ1) (hg : Gl X "enumerate" := by rfl) (hs : starEach [e] X.env = [(false, eval e X.env)] := by rfl) :
    IterS X C L ρ (.Tuple elts kk tpos) (.Call (.Name "enumerate" p) [e] [] pos) (xs.zipIdx.map fun p => PyData.tuple [.int (p.2 : Nat), enc p.1]) ρ1 := by
  rw [← zipIdx_en]
  exact it_enum hg hm h hs
theorem it_enumTX {α : Type} (xs : List α) (enc : α → PyData) {elts : List Expr} {kk : Nat} {p tpos : Pos} (hm : X.mg "enumerate" = none) (h : EvD X C L ρ e (.tuple (xs.map enc)) ρ1) (hg : Gl X "enumerate" := by rfl) (hs : starEach [e] X.env = [(false, eval e X.env)] := by rfl) :
    IterS X C L ρ (.Tuple elts kk tpos) (.Call (.Name "enumerate" p) [e] [] pos) (xs.zipIdx.map fun p => PyData.tuple [.int (p.2 : Nat), enc p.1]) ρ1 := by
  rw [← zipIdx_en]
  exact it_enumT hg hm h hs
theorem it_zipX {α β : Type} (xs : List α) (enc : α → PyData) (ys : List β) (enc2 : β → PyData) {elts : List Expr} {kk : Nat} {p tpos : Pos} (hm : X.mg "zip" = none) (ha : EvD X C L ρ a (.list (xs.map enc)) ρ1) (hb : EvD X C L ρ1 b (.tuple (ys.map enc2)) ρ2) (hl : xs.length = ys.length) (hg : Gl X "zip" := by rfl)
    (hs : starEach [a, b] X.env = (false, eval a X.env) :: starEach [b] X.env := by rfl) (hs2 : starEach [b] X.env = (false, eval b X.env) :: starEach [] X.env := by rfl) (hpl : (backTo pos (starEach [b] X.env)).any (·.1) = false := by rfl) :
    IterS X C L ρ (.Tuple elts kk tpos) (.Call (.Name "zip" p) [a, b] [] pos) ((xs.zip ys).map fun p => PyData.tuple [enc p.1, enc2 p.2]) ρ2 := by
  have e : (xs.zip ys).map (fun p => PyData.tuple [enc p.1, enc2 p.2]) = zpD (xs.map enc) (ys.map enc2) := by
    unfold zpD
    rw [List.zip_map, List.map_map]
    rfl
  rw [e]
  exact it_zx hg hm ha hb (by rw [List.length_map, List.length_map]; exact hl) hs hs2 hpl
theorem it_rangeX (n : Nat) {p : Pos} {tg : Expr} (hm : X.mg "range" = none) (h : EvD X C L ρ e (.int (n : Nat)) ρ1) (h2 : n ≤ 1000000) (hg : Gl X "range" := by rfl) (hs : starEach [e] X.env = [(false, eval e X.env)] := by rfl) : IterS X C L ρ tg (.Call (.Name "range" p) [e] [] pos) ((List.range n).map fun i => PyData.int ((i : Nat) : Int)) ρ1 := by
  have e1 := it_range1 (tg := tg) (p := p) (pos := pos) hg hm h (by omega) (by omega) hs
  have e2 : rgD 0 ((n : Nat) : Int).toNat = (List.range n).map fun i => PyData.int ((i : Nat) : Int) := by
    unfold rgD
    rw [Int.toNat_natCast]
    apply List.map_congr_left
    intro i _
    rw [Int.zero_add]
  rw [← e2]
  exact e1
theorem own_lt {vs : List Nat} {n : Nat} (h : (vs.all fun v => Nat.ble (v + 1) n) = true) : ∀ v ∈ vs, v < n := fun v hv => Nat.le_of_ble_eq_true (List.all_eq_true.mp h v hv)
/-- for tg in iter: body, over the items of a list, with a state that a fold gives and a plain invariant -/
theorem go_fold {α β : Type} (is : List Nat) (xs : List α) (enc : α → PyData) (f : β → α → β) (b0 : β) (ρs : β → List Slot) (Pv : Nat → β → Prop) (S : SitX X C L ρ σ H) (hp : PassesOwn (model X.prog X.w) X.A X.env X.xe) (hc : X.calm = true) (hi : IterS X C L ρ tg iter (xs.map enc) ρ1)
    (h0 : ∀ σ H, SitX X C L ρ1 σ H → SitX X C L (ρs b0) σ H) (p0 : Pv 0 b0)
    (step : ∀ (φ : Hp → Prop) (i : Nat) (x : α) (b : β) (σ' : L2.St) (H' : Hp), xs[i]? = some x → b = (xs.take i).foldl f b0 → Pv i b → SitX X (C.fact φ) L (ρs b) σ' H' → ∃ ρb, Bd X (C.fact φ) L is (ρs b) tg (enc x) ρb ∧
      ∀ σ1 H1, SitX X (C.fact φ) L ρb σ1 H1 → tSs X body { D with nx := fun σ2 H2 => Pv (i + 1) (f b x) ∧ SitX X (C.fact φ) L (ρs (f b x)) σ2 H2, ct := fun σ2 H2 => Pv (i + 1) (f b x) ∧ SitX X (C.fact φ) L (ρs (f b x)) σ2 H2, bk := D.nx } σ1 H1)
    (fin : ∀ σ' H', Pv xs.length (xs.foldl f b0) → SitX X C L (ρs (xs.foldl f b0)) σ' H' → D.nx σ' H') (hs : ∀ x, foldedSetIterable iter X.env x = pure x := by intro _; rfl) : tS X (.For tg iter body [] pos) D σ H := by
  refine le_S (ps_for hp hc pi_tIt pg_tGt pss_tSs hs) ?_
  refine hi σ H S _ fun J H1 S1 f1 y => ?_
  refine ⟨fun i m σ' H' => m = xs.length - i ∧ i ≤ xs.length ∧ Pv i ((xs.take i).foldl f b0) ∧ SitX X (C.fact (Same (off H1 (C.M L)))) L (ρs ((xs.take i).foldl f b0)) σ' H', ⟨xs.length, by simp, Nat.zero_le _, p0, (h0 _ _ S1).fact fun _ _ z => z⟩, ?_⟩
  rintro i m σ' H' ⟨rfl, hle, hP, S'⟩
  have yy := y (C.M L) H' S'.dom S'.known i
  by_cases hlt : i < xs.length
  · have hx := List.getElem?_eq_getElem hlt
    have hx2 : (xs.map enc)[i]? = some (enc xs[i]) := by rw [List.getElem?_map, hx]; rfl
    have ht : (xs.take (i + 1)).foldl f b0 = f ((xs.take i).foldl f b0) xs[i] := by
      rw [List.take_add_one, hx, List.foldl_append]
      rfl
    obtain ⟨go, yl⟩ := yy.1 _ hx2
    obtain ⟨ρb, hb, hbody⟩ := step _ i xs[i] _ σ' H' hx rfl hP S'
    refine .inr ⟨go, fun σ2 H2 => Pv (i + 1) (f ((xs.take i).foldl f b0) xs[i]) ∧ SitX X (C.fact (Same (off H1 (C.M L)))) L (ρs (f ((xs.take i).foldl f b0) xs[i])) σ2 H2, fun σ2 H2 S2 => ⟨xs.length - (i + 1), by omega, rfl, hlt, by rw [ht]; exact S2.1, by rw [ht]; exact S2.2⟩, fun x H3 hy => ?_⟩
    obtain ⟨e3, r3⟩ := yl x H3 hy
    exact hb x σ' H3 (S'.grow e3) r3 _ fun σ1 S4 _ => hbody σ1 H3 S4
  · have e : i = xs.length := Nat.le_antisymm (by omega) (by omega)
    subst e
    rw [List.take_length] at hP S'
    exact .inl ⟨yy.2 (by rw [List.length_map]; exact Nat.le_refl _), fin σ' H' hP S'.unfact⟩
end

/-! ### the defs of the program: what each promises -/
def R_is_within : List Dt → Dt → Prop := fun ds r => ∃ v lo hi : Int, ds = [.py (.int v), .py (.int lo), .py (.int hi)] ∧ r = .py (.bool (isWithin v lo hi))
def R_depth_at : List Dt → Dt → Prop := fun ds r => ∃ (h : Hb) (t : Int), ds = [.py (encH h), .py (.int t)] ∧ HbOk h ∧ r = .py (.int (depthAt h t))
def R_beginning : List Dt → Dt → Prop := fun ds r => ∃ ships : List Sh, ds = [.py (encSs ships)] ∧ ships.length ≤ 4 ∧ r = .py (encSt (beginning ships))
def R_is_end : List Dt → Dt → Prop := fun ds r => ∃ s : Stt, ds = [.py (encSt s)] ∧ s.2.length ≤ 4 ∧ r = .py (.bool (isEnd s))
def R_berths_for : List Dt → Dt → Prop := fun ds r => ∃ (h : Hb) (sh : Sh) (ps : List Place), ds = [.py (encH h), .py (encS sh), .py (encPs ps)] ∧ HbOk h ∧ ps.length ≤ 4 ∧ r = .py (.list ((berthsFor h sh ps).map .int))
def R_is_kept : List Dt → Dt → Prop := fun ds r => ∃ (lat : Lat) (n name : Nat) (hour : Int), ds = [.py (encLat lat), .py (.int (name : Nat)), .py (.int hour)] ∧ LatOk lat n ∧ name < n ∧ r = .py (.bool (isKept lat name hour))
abbrev s_is_within : Stmt := topS 1
abbrev s_depth_at : Stmt := topS 2
abbrev s_beginning : Stmt := topS 6
abbrev s_is_end : Stmt := topS 7
abbrev s_berths_for : Stmt := topS 8
abbrev s_is_kept : Stmt := topS 10
theorem sc_is_within : FnScope ["value", "low", "high"] ["value", "low", "high"] (defScope s_is_within) := ⟨rfl, rfl, rfl, by decide +kernel, rfl, by decide +kernel, by decide +kernel⟩
theorem sc_depth_at : FnScope ["harbour", "hour"] ["harbour", "hour"] (defScope s_depth_at) := ⟨rfl, rfl, rfl, by decide +kernel, rfl, by decide +kernel, by decide +kernel⟩
theorem sc_beginning : FnScope ["ships", "ship"] ["ships"] (defScope s_beginning) := ⟨rfl, rfl, rfl, by decide +kernel, rfl, by decide +kernel, by decide +kernel⟩
theorem sc_is_end : FnScope ["state", "place"] ["state"] (defScope s_is_end) := ⟨rfl, rfl, rfl, by decide +kernel, rfl, by decide +kernel, by decide +kernel⟩
theorem sc_berths_for : FnScope ["harbour", "ship", "places", "held", "place", "name", "length"] ["harbour", "ship", "places"] (defScope s_berths_for) := ⟨rfl, rfl, rfl, by decide +kernel, rfl, by decide +kernel, by decide +kernel⟩
theorem sc_is_kept : FnScope ["latest", "name", "hour"] ["latest", "name", "hour"] (defScope s_is_kept) := ⟨rfl, rfl, rfl, by decide +kernel, rfl, by decide +kernel, by decide +kernel⟩

section
variable {w : World} {P : Program} {base : Heap} {mg : Str → Option Value} {K : PySem.W.Frag}
theorem mod_lt_toNat {a n : Int} (h : 0 < n) : (a % n).toNat < n.toNat ∧ (((a % n).toNat : Nat) : Int) = a % n := by
  have h1 := Int.emod_nonneg a (by omega : n ≠ 0)
  have h2 := Int.emod_lt_of_pos a h
  omega
theorem ok_is_within {f : Addr} {fd : FuncData} (F : Fun K "is_within" "is_within" s_is_within f fd) (B : Bn mg) : FnOk P w K mg base CX0 1 f fd ["value", "low", "high"] (SpR K P w R_is_within) := by
  refine fn_ok F sc_is_within (fun ds r h => ?_) (by decide) (fun cdv A outer s H M vs ds r Q E hr hR S q => ?_)
  · obtain ⟨v, lo, hi, rfl, _⟩ := h
    rfl
  · obtain ⟨v, lo, hi, rfl, rfl⟩ := hR
    refine go_one (go_ret S (dt := .py (.bool (true && (!false && (decide (lo ≤ v) && decide (v ≤ hi)))))) (ev_and3 (ev_isInt B.isinstance B.int (ev_var 0)) (fun _ => ev_not (ev_isBool B.isinstance B.bool (ev_var 0))) fun _ _ => ev_chainLe (ev_var 1) (ev_var 0) (ev_var 2)) fun v H1 S1 r => S1.done r q)
theorem ok_depth_at {f : Addr} {fd : FuncData} (F : Fun K "depth_at" "depth_at" s_depth_at f fd) (B : Bn mg) : FnOk P w K mg base CX0 1 f fd ["harbour", "hour"] (SpR K P w R_depth_at) := by
  refine fn_ok F sc_depth_at (fun ds r h => ?_) (by decide) (fun cdv A outer s H M vs ds r Q E hr hR S q => ?_)
  · obtain ⟨h, t, rfl, _⟩ := h
    rfl
  · obtain ⟨h, t, rfl, ⟨h1, _⟩, rfl⟩ := hR
    have hp : 0 < (h.depths.length : Int) := by omega
    have hm := mod_lt_toNat (a := t) hp
    refine go_one (go_ret S (ev_ixL (ev_ixT (j := 0) (ev_var 0) ev_int rfl rfl) (ev_mod (ev_var 1) (ev_len B.len (ev_ixT (j := 0) (ev_var 0) ev_int rfl rfl)) (by rw [List.length_map]; exact hp)) (j := (t % (h.depths.length : Int)).toNat) (by rw [List.length_map]; exact hm.2.symm) (d := .int (depthAt h t)) ?_) fun v H1 S1 r => S1.done r q)
    rw [List.getElem?_map]
    unfold depthAt
    have : (t % (h.depths.length : Int)).toNat < h.depths.length := by have := hm.1; omega
    rw [List.getD_eq_getElem?_getD, List.getElem?_eq_getElem this]
    rfl
theorem small_line {n : Nat} (h : n ≤ 1000) : n ≤ sizeLine := Nat.le_trans h (by decide)
theorem ok_beginning {f : Addr} {fd : FuncData} (F : Fun K "beginning" "beginning" s_beginning f fd) (B : Bn mg) (gS : Gd K mg "SEA" (encP SEA)) : FnOk P w K mg base CX0 1 f fd ["ships"] (SpR K P w R_beginning) := by
  refine fn_ok F sc_beginning (fun ds r h => ?_) (by decide) (fun cdv A outer s H M vs ds r Q E hr hR S q => ?_)
  · obtain ⟨ships, rfl, _⟩ := h
    rfl
  · obtain ⟨ships, rfl, hl, rfl⟩ := hR
    refine go_one (go_ret S (ev_cast (d' := encSt (beginning ships)) (ev_tup (ds := [_, _]) (ea_cons ev_int (ea_one (ev_tupleL B.tuple (ev_F (ev_lcP (own := [("ship", 1)]) ships encS (fun _ => true) (fun _ => encP SEA) rfl sc_beginning.nd (it_list (ev_var 0)) (blkOk_by (sc := defScope s_beginning) (N := ["ships", "ship"]) (by decide +kernel)) (own_lt rfl) (small_line (by omega)) rfl fun φ q ds x hx => ?_))) rfl))) ?_) fun v H1 S1 r => S1.done r q)
    · exact ⟨[1], _, by decide, rfl, fun s H0 Ca cl fp => bd_name 1 sc_beginning.nd, fun s H0 Ca cl fp => ets_nil, fun _ s H0 Ca cl fp => ev_gd gS⟩
    · unfold encSt beginning encPs
      rw [List.filter_eq_self.mpr (fun _ _ => rfl), List.map_map]
      rfl

theorem depth_encP (p : Int × Int) : (encP p).depth = 1 := rfl
theorem ok_is_end {f : Addr} {fd : FuncData} (F : Fun K "is_end" "is_end" s_is_end f fd) (B : Bn mg) (gG : Gd K mg "GONE" (encP GONE)) : FnOk P w K mg base CX0 1 f fd ["state"] (SpR K P w R_is_end) := by
  refine fn_ok F sc_is_end (fun ds r h => ?_) (by decide) (fun cdv A outer s H M vs ds r Q E hr hR S q => ?_)
  · obtain ⟨ships, rfl, _⟩ := h
    rfl
  · obtain ⟨st, rfl, hl, rfl⟩ := hR
    have hu := room_u hr
    refine go_one (go_ret S (ev_cast (d' := .bool (isEnd st)) (ev_all (bs := (st.2.filter fun _ => true).map fun p => decide (p = GONE)) rfl B.all (ev_cast (ev_F (ev_lcP (own := [("place", 1)]) st.2 encP (fun _ => true) (fun p => .bool (decide (p = GONE))) rfl sc_is_end.nd (it_tup (ev_ixT (j := 1) (ev_var 0) ev_int rfl rfl)) (blkOk_by (sc := defScope s_is_end) (N := ["state", "place"]) (by decide +kernel)) (own_lt rfl) (small_line (by omega)) rfl fun φ q ds x hx => ?_)) ?_)) ?_) fun v H1 S1 r => S1.done r q)
    · refine ⟨[1], _, by decide, rfl, fun s H0 Ca cl fp => bd_name 1 sc_is_end.nd, fun s H0 Ca cl fp => ets_nil, fun _ s H0 Ca cl fp => ?_⟩
      exact ev_eqK hu (ev_var 1) (ev_gd gG) (eqv_encP _ _)
    · rw [List.map_map]
      rfl
    · rw [List.filter_eq_self.mpr (fun _ _ => rfl), List.all_map]
      rfl
theorem ok_is_kept {f : Addr} {fd : FuncData} (F : Fun K "is_kept" "is_kept" s_is_kept f fd) (B : Bn mg) : FnOk P w K mg base CX0 1 f fd ["latest", "name", "hour"] (SpR K P w R_is_kept) := by
  refine fn_ok F sc_is_kept (fun ds r h => ?_) (by decide) (fun cdv A outer s H M vs ds r Q E hr hR S q => ?_)
  · obtain ⟨lat, n, name, hour, rfl, _⟩ := h
    rfl
  · obtain ⟨lat, n, name, hour, rfl, hl, hn, rfl⟩ := hR
    cases lat with
    | none =>
      refine go_one (go_ret S (ev_cast (d' := .bool (isKept none name hour)) (ev_or3 (k1 := true) (k2 := true) (k3 := true) (ev_isNk (ev_var 0) rfl) (fun h => Bool.noConfusion h) fun h => Bool.noConfusion h) rfl) fun v H1 S1 r => S1.done r q)
    | some l =>
      have hlt : name < l.length := by rw [hl l rfl]; exact hn
      have hx : (l.map encO)[name]? = some (encO (l.getD name none)) := by
        rw [List.getElem?_map, List.getElem?_eq_getElem hlt, List.getD_eq_getElem?_getD, List.getElem?_eq_getElem hlt]
        rfl
      cases hk : l.getD name none with
      | none =>
        rw [hk] at hx
        refine go_one (go_ret S (ev_cast (d' := .bool (isKept (some l) name hour)) (ev_or3 (k1 := false) (k2 := true) (k3 := true) (ev_isNk (ev_var 0) rfl) (fun _ => ev_isNk (ev_ixL (j := name) (ev_var 0) (ev_var 1) rfl hx) rfl) fun _ h => Bool.noConfusion h) ?_) fun v H1 S1 r => S1.done r q)
        simp only [isKept, hk]
        rfl
      | some k =>
        rw [hk] at hx
        refine go_one (go_ret S (ev_cast (d' := .bool (isKept (some l) name hour)) (ev_or3 (k1 := false) (k2 := false) (k3 := decide (hour ≤ k)) (ev_isNk (ev_var 0) rfl) (fun _ => ev_isNk (ev_ixL (j := name) (ev_var 0) (ev_var 1) rfl hx) rfl) fun _ _ => ev_le (ev_var 2) (ev_ixL (j := name) (ev_var 0) (ev_var 1) rfl hx)) ?_) fun v H1 S1 r => S1.done r q)
        simp only [isKept, hk]
        rfl
theorem any_map_eqv (ps : List Place) (i : Int) : ((ps.map fun p => PyData.int p.1).any fun z => PyData.eqv z (.int i)) = ps.any fun q => decide (q.1 = i) := by
  rw [List.any_map]
  congr 1
theorem ok_berths_for {f : Addr} {fd : FuncData} (F : Fun K "berths_for" "berths_for" s_berths_for f fd) (B : Bn mg) : FnOk P w K mg base CX0 1 f fd ["harbour", "ship", "places"] (SpR K P w R_berths_for) := by
  refine fn_ok F sc_berths_for (fun ds r h => ?_) (by decide) (fun cdv A outer s H M vs ds r Q E hr hR S q => ?_)
  · obtain ⟨h, sh, ps, rfl, _⟩ := h
    rfl
  · obtain ⟨h, sh, ps, rfl, hb, hl, rfl⟩ := hR
    have hu := room_u hr
    refine go_cons (go_set 3 S (ev_F (ev_lcP (own := [("place", 4)]) ps encP (fun _ => true) (fun p => .int p.1) rfl sc_berths_for.nd (it_tup (ev_var 2)) (blkOk_by (sc := defScope s_berths_for) (N := ["harbour", "ship", "places", "held", "place", "name", "length"]) (by decide +kernel)) (own_lt rfl) (small_line (by omega)) rfl fun φ q ds x hx => ?_)) (fun σ1 H1 S1 => ?_) sc_berths_for.nd)
    · exact ⟨[4], _, by decide, rfl, fun s H0 Ca cl fp => bd_name 4 sc_berths_for.nd, fun s H0 Ca cl fp => ets_nil, fun _ s H0 Ca cl fp => ev_ixT (j := 0) (ev_var 4) ev_int rfl rfl⟩
    · refine go_one (go_ret S1 (ev_cast (d' := .list ((berthsFor h sh ps).map .int)) (ev_F (ev_lcP (own := [("name", 5), ("length", 6)]) h.berths.zipIdx (fun p => .tuple [.int (p.2 : Nat), .int p.1]) (fun p => decide (sh.len ≤ p.1) && !(ps.any fun q => decide (q.1 = (p.2 : Nat)))) (fun p => .int (p.2 : Nat)) rfl sc_berths_for.nd (it_enumX h.berths PyData.int B.enumerate (ev_ixT (j := 1) (ev_var 0) ev_int rfl rfl)) (blkOk_by (sc := defScope s_berths_for) (N := ["harbour", "ship", "places", "held", "place", "name", "length"]) (by decide +kernel)) (own_lt rfl) (small_line (by rw [List.length_zipIdx]; have := hb.2.2.2; omega)) rfl fun φ q ds x hx => ?_)) ?_) fun v H1 S1 r => S1.done r q)
      · refine ⟨[5, 6], _, by decide, rfl, fun s H0 Ca cl fp => bd_tup rfl (bds_cons (bd_name 5 sc_berths_for.nd) (bds_cons (bd_name 6 sc_berths_for.nd) bds_nil)), fun s H0 Ca cl fp => ets_one ?_, fun _ s H0 Ca cl fp => ev_var 5⟩
        refine et_and (et_ge (ev_var 6) (ev_ixT (j := 1) (ev_var 1) ev_int rfl rfl)) fun _ => ?_
        rw [← any_map_eqv]
        exact et_notInL hu (ev_var 5) (ev_var 3) (by rw [List.filter_eq_self.mpr (fun _ _ => rfl)])
      · unfold berthsFor
        rw [List.map_map]
        rfl
end
end Tk
end

section
namespace Tk
open L2 PyProof.Rows PySem PySem.Spec
def encI (l : List Int) : PyData := .list (l.map .int)
def R_choices : List Dt → Dt → Prop := fun ds r => ∃ (h : Hb) (ships : List Sh) (s : Stt) (lat : Lat), ds = [.py (encH h), .py (encSs ships), .py (encSt s), .py (encLat lat)] ∧ StOk h ships s lat ∧ r = .py (.list ((choices h ships s lat).map encI))
abbrev s_choices : Stmt := topS 9
abbrev N_choices : List Str := ["harbour", "ships", "state", "latest", "hour", "places", "found", "name", "ship", "row"]
theorem sc_choices : FnScope N_choices ["harbour", "ships", "state", "latest"] (defScope s_choices) := ⟨rfl, rfl, rfl, by decide +kernel, rfl, by decide +kernel, by decide +kernel⟩
theorem zipIdx_get {α : Type} {xs : List α} {i : Nat} {p : α × Nat} (h : xs.zipIdx[i]? = some p) : p.2 = i ∧ xs[i]? = some p.1 := by
  rw [List.getElem?_zipIdx] at h
  cases q : xs[i]? with
  | none => rw [q] at h; cases h
  | some x =>
    rw [q] at h
    have := Option.some.inj h
    rw [← this]
    exact ⟨Nat.zero_add _, rfl⟩
theorem place_get {places : List Place} {i : Nat} (h : i < places.length) : (places.map encP)[i]? = some (encP (placeAt places i)) := by
  rw [List.getElem?_map, List.getElem?_eq_getElem h]
  unfold placeAt
  rw [List.getD_eq_getElem?_getD, List.getElem?_eq_getElem h]
  rfl
section
variable {w : World} {P : Program} {base : Heap} {mg : Str → Option Value} {K : PySem.W.Frag}
theorem foldl_snoc {α β : Type} (g : α → β) : ∀ (xs : List α) (b : List β), xs.foldl (fun b x => b ++ [g x]) b = b ++ xs.map g
  | [], b => by simp
  | x :: xs, b => by
    rw [List.foldl_cons, foldl_snoc g xs]
    simp
theorem ok_choices {f : Addr} {fd : FuncData} (F : Fun K "choices" "choices" s_choices f fd) (B : Bn mg) (gS : Gd K mg "SEA" (encP SEA)) (f1 : Fd P w K mg base 1 "depth_at" ["harbour", "hour"] R_depth_at) (f2 : Fd P w K mg base 1 "berths_for" ["harbour", "ship", "places"] R_berths_for)
    (f3 : Fd P w K mg base 1 "is_kept" ["latest", "name", "hour"] R_is_kept) : FnOk P w K mg base CX0 2 f fd ["harbour", "ships", "state", "latest"] (SpR K P w R_choices) := by
  refine fn_ok F sc_choices (fun ds r h => ?_) (by decide) (fun cdv A outer s H M vs ds r Q E hr hR S q => ?_)
  · obtain ⟨h, ships, st, lat, rfl, _⟩ := h
    rfl
  · obtain ⟨h, ships, st, lat, rfl, ⟨hb, hn, hl, hlat⟩, rfl⟩ := hR
    have hu := room_u hr
    refine go_cons (go_unpack S (ev_var 2) (bd_tup rfl (bds_cons (bd_name 4 sc_choices.nd) (bds_cons (bd_name 5 sc_choices.nd) bds_nil))) fun σ1 H1 S1 => ?_)
    refine go_cons (go_newL 6 S1 (fun q1 σ2 H2 S2 => ?_) sc_choices.nd)
    refine go_cons (go_fold [7, 8] ships.zipIdx (fun p => PyData.tuple [.int (p.2 : Nat), encS p.1]) (fun b p => b ++ [rowOf h lat st p.2 p.1]) [] (fun b => [.py (encH h), .py (encSs ships), .py (encSt st), .py (encLat lat), .py (.int st.1), .py (encPs st.2), .ml q1 (b.map encI), .any, .any, .any]) (fun i b => b.length ≤ i) S2 PassesOwn.never rfl (it_enumX ships encS B.enumerate (ev_var 1)) (fun σ H S => S) (Nat.le_refl _) (fun φ i p b σ' H' hx hb' hP S3 => ?_) (fun σ' H' _ S3 => ?_))
    · obtain ⟨hp2, hpx⟩ := zipIdx_get hx
      have hi : i < ships.length := (List.getElem?_eq_some_iff.mp hpx).1
      refine ⟨_, bd_tup rfl (bds_cons (bd_name 7 sc_choices.nd) (bds_cons (bd_name 8 sc_choices.nd) bds_nil)), fun σ4 H4 S4 => ?_⟩
      refine go_cons (go_set 9 S4 (ev_lst (ds := []) ea_nil) (fun σ5 H5 S5 => ?_) sc_choices.nd)
      refine go_cons (go_ifJ [.py (encH h), .py (encSs ships), .py (encSt st), .py (encLat lat), .py (.int st.1), .py (encPs st.2), .ml q1 (b.map encI), .py (.int (p.2 : Nat)), .py (encS p.1), .py (encI (rowOf h lat st p.2 p.1))] S5 (k := decide (p.1.draught ≤ depthAt h st.1)) (et_ge (ev_cl f1 hr (ea_cons (ev_var 0) (ea_one (ev_var 4) rfl)) ⟨h, st.1, rfl, hb, rfl⟩) (ev_ixT (j := 2) (ev_var 8) ev_int rfl rfl)) (fun hk H6 S6 => ?_) (fun hk H6 S6 => ?_) fun σ6 H6 S6 => ?_)
      · have hk' := of_decide_eq_true hk
        have hpl := place_get (i := p.2) (by rw [hl, hp2]; exact hi)
        refine go_one (go_if S6 (k := decide (placeAt st.2 p.2 = SEA) && decide (p.1.ready ≤ st.1)) (et_and (et_eq hu (ev_ixT (j := p.2) (ev_var 5) (ev_var 7) rfl hpl) (ev_gd gS) (eqv_encP _ _)) fun _ => et_le (ev_ixT (j := 0) (ev_var 8) ev_int rfl rfl) (ev_var 4)) (fun hq H7 S7 => ?_) fun hq H7 S7 => ?_)
        · rw [Bool.and_eq_true, decide_eq_true_eq, decide_eq_true_eq] at hq
          have e : rowOf h lat st p.2 p.1 = berthsFor h p.1 st.2 := by unfold rowOf; rw [if_pos hk', if_pos hq]
          refine go_one (go_set 9 S7 (ev_cl f2 hr (ea_cons (ev_var 0) (ea_cons (ev_var 8) (ea_one (ev_var 5) rfl))) ⟨h, p.1, st.2, rfl, hb, by omega, rfl⟩) (fun σ8 H8 S8 => ?_) sc_choices.nd)
          rw [e]
          exact S8
        · have hq' : ¬ (placeAt st.2 p.2 = SEA ∧ p.1.ready ≤ st.1) := fun z => by rw [decide_eq_true z.1, decide_eq_true z.2] at hq; cases hq
          refine go_one (go_if S7 (k := decide (0 ≤ (placeAt st.2 p.2).1) && (decide ((placeAt st.2 p.2).2 = 0) && isKept lat p.2 st.1)) (et_and3 (et_ge (ev_ixT (j := 0) (ev_ixT (j := p.2) (ev_var 5) (ev_var 7) rfl hpl) ev_int rfl rfl) ev_int) (fun _ => et_eq hu (ev_ixT (j := 1) (ev_ixT (j := p.2) (ev_var 5) (ev_var 7) rfl hpl) ev_int rfl rfl) ev_int (eqv_int _ _)) fun _ _ => et_val (ev_cl f3 hr (ea_cons (ev_var 3) (ea_cons (ev_var 7) (ea_one (ev_var 4) rfl))) ⟨lat, ships.length, p.2, st.1, rfl, hlat, by rw [hp2]; exact hi, rfl⟩)) (fun hq2 H8 S8 => ?_) fun hq2 H8 S8 => ?_)
          · rw [Bool.and_eq_true, Bool.and_eq_true, decide_eq_true_eq, decide_eq_true_eq] at hq2
            have e : rowOf h lat st p.2 p.1 = [-1] := by unfold rowOf; rw [if_pos hk', if_neg hq', if_pos hq2]
            refine go_one (go_set 9 S8 (ev_lst (ds := [_]) (ea_one (ev_neg ev_int) rfl)) (fun σ8 H8 S8 => ?_) sc_choices.nd)
            rw [e]
            exact S8
          · have hq2' : ¬ (0 ≤ (placeAt st.2 p.2).1 ∧ (placeAt st.2 p.2).2 = 0 ∧ isKept lat p.2 st.1 = true) := fun z => by rw [decide_eq_true z.1, decide_eq_true z.2.1, z.2.2] at hq2; cases hq2
            have e : rowOf h lat st p.2 p.1 = [] := by unfold rowOf; rw [if_pos hk', if_neg hq', if_neg hq2']
            refine go_nil ?_
            rw [e]
            exact S8
      · have e : rowOf h lat st p.2 p.1 = [] := by unfold rowOf; rw [if_neg (of_decide_eq_false hk)]
        refine go_nil ?_
        rw [e]
        exact S6
      · refine go_one (go_app 6 S6 (he := ev_var 9) (hz := ?_) (k := fun H7 S7 => ?_))
        · rw [List.length_map]
          exact Nat.lt_of_le_of_lt hP (Nat.lt_of_lt_of_le hi (small_line (by omega)))
        · refine ⟨by rw [List.length_append]; simp; omega, ?_⟩
          have S8 := ((S7.forget 7).forget 8).forget 9
          rw [List.map_append]
          exact S8
    · rw [foldl_snoc] at S3
      have S4 := seal_ml 6 S3
      refine go_one (go_ret S4 (ev_cast (ev_var 6) ?_) fun v H1 S1 r => S1.done r q)
      unfold choices
      rw [List.nil_append]
end
end Tk
end

section
namespace Tk
open L2 PyProof.Rows PySem PySem.Spec
/-- moves name ships -/
def MvOk (ships : List Sh) (mv : Mv) : Prop := mv.length ≤ ships.length ∧ ∀ m ∈ mv, 0 ≤ m.1 ∧ m.1 < ships.length
def R_is_let : List Dt → Dt → Prop := fun ds r => ∃ (h : Hb) (ships : List Sh) (mv : Mv), ds = [.py (encH h), .py (encSs ships), .py (encMv mv)] ∧ ships.length ≤ 2 ∧ MvOk ships mv ∧ r = .py (.bool (isLet h ships mv))
def R_cost_in : List Dt → Dt → Prop := fun ds r => ∃ (ships : List Sh) (st : Stt) (mv : Mv), ds = [.py (encSs ships), .py (encSt st), .py (encMv mv)] ∧ ships.length ≤ 2 ∧ st.2.length = ships.length ∧ MvOk ships mv ∧ r = .py (.int (costIn ships st mv))
def R_after_moves : List Dt → Dt → Prop := fun ds r => ∃ (ships : List Sh) (st : Stt) (mv : Mv), ds = [.py (encSs ships), .py (encSt st), .py (encMv mv)] ∧ ships.length ≤ 2 ∧ st.2.length = ships.length ∧ MvOk ships mv ∧ r = .py (encSt (afterMoves ships st mv))
abbrev s_is_let : Stmt := topS 11
abbrev N_is_let : List Str := ["harbour", "ships", "moves", "berths", "name", "berth"]
theorem sc_is_let : FnScope N_is_let ["harbour", "ships", "moves"] (defScope s_is_let) := ⟨rfl, rfl, rfl, by decide +kernel, rfl, by decide +kernel, by decide +kernel⟩
abbrev s_cost_in : Stmt := topS 13
abbrev N_cost_in : List Str := ["ships", "state", "moves", "hour", "places", "moving", "name", "berth", "cost", "ship"]
theorem sc_cost_in : FnScope N_cost_in ["ships", "state", "moves"] (defScope s_cost_in) := ⟨rfl, rfl, rfl, by decide +kernel, rfl, by decide +kernel, by decide +kernel⟩
abbrev s_after_moves : Stmt := topS 14
abbrev N_after_moves : List Str := ["ships", "state", "moves", "hour", "places", "later", "name", "berth", "left"]
theorem sc_after_moves : FnScope N_after_moves ["ships", "state", "moves"] (defScope s_after_moves) := ⟨rfl, rfl, rfl, by decide +kernel, rfl, by decide +kernel, by decide +kernel⟩
theorem ship_get {ships : List Sh} {i : Int} (h0 : 0 ≤ i) (h1 : i < ships.length) : i = (i.toNat : Nat) ∧ (ships.map encS)[i.toNat]? = some (encS (shipAt ships i)) := by
  have hi : i.toNat < ships.length := by omega
  refine ⟨by omega, ?_⟩
  rw [List.getElem?_map,List.getElem?_eq_getElem hi]
  unfold shipAt
  rw [List.getD_eq_getElem?_getD,List.getElem?_eq_getElem hi]
  rfl
theorem mvBerths_enc (mv : Mv) : ((mv.filter fun m => decide (0 ≤ m.2)).map fun m => PyData.int m.2) = (mvBerths mv).map PyData.int := by
  unfold mvBerths
  rw [List.map_map]
  rfl
theorem mvBerths_len (mv : Mv) : (mvBerths mv).length ≤ mv.length := by
  unfold mvBerths
  rw [List.length_map]
  exact List.length_filter_le _ _
section
variable {w : World} {P : Program} {base : Heap} {mg : Str → Option Value} {K : PySem.W.Frag}
theorem ok_is_let {f : Addr} {fd : FuncData} (F : Fun K "is_let" "is_let" s_is_let f fd) (B : Bn mg) : FnOk P w K mg base CX0 1 f fd ["harbour", "ships", "moves"] (SpR K P w R_is_let) := by
  refine fn_ok F sc_is_let (fun ds r h => ?_) (by decide) (fun cdv A outer s H M vs ds r Q E hr hR S q => ?_)
  · obtain ⟨h, ships, mv, rfl, _⟩ := h
    rfl
  · obtain ⟨h, ships, mv, rfl, hn, ⟨hl, hm⟩, rfl⟩ := hR
    have hu := room_u hr
    have hml := mvBerths_len mv
    refine go_cons (go_setLc 3 S (lc_P (own := [("name", 4), ("berth", 5)]) mv encP (fun m => decide (0 ≤ m.2)) (fun m => .int m.2) (it_tup (ev_var 2)) (blkOk_by (sc := defScope s_is_let) (N := N_is_let) (by decide +kernel)) (own_lt rfl) (small_line (by omega)) rfl fun φ q ds x hx => ?_) (fun σ1 H1 S1 => ?_) rfl sc_is_let.nd (sw_true rfl rfl rfl rfl))
    · exact ⟨[4, 5], _, by decide, rfl, fun s H0 Ca cl fp => bd_tup rfl (bds_cons (bd_name 4 sc_is_let.nd) (bds_cons (bd_name 5 sc_is_let.nd) bds_nil)), fun s H0 Ca cl fp => ets_one (et_ge (ev_var 5) ev_int), fun _ s H0 Ca cl fp => ev_var 5⟩
    · rw [mvBerths_enc] at S1
      refine go_cons (go_if S1 (k := !decide (((distinct (mvBerths mv)).length : Int) = ((mvBerths mv).length : Int)) || decide (h.pilots < mv.length)) (et_or (et_ne hu (ev_lenSet rfl B.len B.set (ev_var 3) (by omega)) (ev_len B.len (ev_var 3)) (by rw [eqv_int, List.length_map])) fun _ => et_cast (et_gt (ev_lenT B.len (ev_var 2)) (ev_ixT (j := 3) (ev_var 0) ev_int rfl rfl)) (by rw [List.length_map])) (fun hk H2 S2 => ?_) fun hk H2 S2 => ?_)
      · have e : isLet h ships mv = false := by
          unfold isLet
          rw [if_pos]
          rw [Bool.or_eq_true, Bool.not_eq_true', decide_eq_false_iff_not, decide_eq_true_eq] at hk
          omega
        refine go_one (go_ret S2 (ev_cast ev_bool (by rw [e])) fun v H1 S1 r => S1.done r q)
      · have e : isLet h ships mv = decide ((mv.map fun m => (shipAt ships m.1).tugs).sum ≤ h.tugs) := by
          unfold isLet
          rw [if_neg]
          rw [Bool.or_eq_false_iff, Bool.not_eq_false', decide_eq_true_eq, decide_eq_false_iff_not] at hk
          omega
        refine go_nil (go_one (go_ret S2 (ev_cast (ev_le (ev_sum (ns := mv.map fun m => (shipAt ships m.1).tugs) rfl B.sum (ev_cast (ev_F (ev_lcP (own := [("name", 4), ("berth", 5)]) mv encP (fun m => true) (fun m => .int (shipAt ships m.1).tugs) rfl sc_is_let.nd (it_tup (ev_var 2)) (blkOk_by (sc := defScope s_is_let) (N := N_is_let) (by decide +kernel)) (own_lt rfl) (small_line (by omega)) rfl fun φ q ds x hx => ?_)) ?_)) (ev_ixT (j := 2) (ev_var 0) ev_int rfl rfl)) (by rw [e])) fun v H1 S1 r => S1.done r q))
        · obtain ⟨h0, h1⟩ := hm x hx
          obtain ⟨g1, g2⟩ := ship_get h0 h1
          exact ⟨[4, 5], _, by decide, rfl, fun s H0 Ca cl fp => bd_tup rfl (bds_cons (bd_name 4 sc_is_let.nd) (bds_cons (bd_name 5 sc_is_let.nd) bds_nil)), fun s H0 Ca cl fp => ets_nil, fun _ s H0 Ca cl fp => ev_ixT (j := 4) (ev_ixL (j := x.1.toNat) (ev_var 1) (ev_var 4) g1 g2) ev_int rfl rfl⟩
        · rw [List.filter_eq_self.mpr (fun _ _ => rfl), List.map_map]
          rfl
theorem ok_cost_in {f : Addr} {fd : FuncData} (F : Fun K "cost_in" "cost_in" s_cost_in f fd) (B : Bn mg) (gS : Gd K mg "SEA" (encP SEA)) : FnOk P w K mg base CX0 1 f fd ["ships", "state", "moves"] (SpR K P w R_cost_in) := by
  refine fn_ok F sc_cost_in (fun ds r h => ?_) (by decide) (fun cdv A outer s H M vs ds r Q E hr hR S q => ?_)
  · obtain ⟨h, ships, mv, rfl, _⟩ := h
    rfl
  · obtain ⟨ships, st, mv, rfl, hn, hsl, ⟨hl, hm⟩, rfl⟩ := hR
    have hu := room_u hr
    refine go_cons (go_unpack S (ev_var 1) (bd_tup rfl (bds_cons (bd_name 3 sc_cost_in.nd) (bds_cons (bd_name 4 sc_cost_in.nd) bds_nil))) fun σ1 H1 S1 => ?_)
    refine go_cons (go_setLc 5 S1 (lc_P (own := [("name", 6), ("berth", 7)]) mv encP (fun m => true) (fun m => .int m.1) (it_tup (ev_var 2)) (blkOk_by (sc := defScope s_cost_in) (N := N_cost_in) (by decide +kernel)) (own_lt rfl) (small_line (by omega)) rfl fun φ q ds x hx => ?_) (fun σ2 H2 S2 => ?_) rfl sc_cost_in.nd (sw_true rfl rfl rfl rfl))
    · exact ⟨[6, 7], _, by decide, rfl, fun s H0 Ca cl fp => bd_tup rfl (bds_cons (bd_name 6 sc_cost_in.nd) (bds_cons (bd_name 7 sc_cost_in.nd) bds_nil)), fun s H0 Ca cl fp => ets_nil, fun _ s H0 Ca cl fp => ev_var 6⟩
    · rw [List.filter_eq_self.mpr (fun _ _ => rfl)] at S2
      refine go_cons (go_set 8 S2 ev_int (fun σ3 H3 S3 => ?_) sc_cost_in.nd)
      refine go_cons (go_fold [6, 9] ships.zipIdx (fun p => PyData.tuple [.int (p.2 : Nat), encS p.1]) (costStep st mv) 0 (fun b => [.py (encSs ships), .py (encSt st), .py (encMv mv), .py (.int st.1), .py (encPs st.2), .py (.list (mv.map fun (m : Int × Int) => PyData.int m.1)), .any, .any, .py (.int b), .any]) (fun _ _ => True) S3 PassesOwn.never rfl (it_enumX ships encS B.enumerate (ev_var 0)) (fun σ H S => S) trivial (fun φ i p b σ' H' hx hb' _ S4 => ?_) (fun σ' H' _ S4 => ?_))
      · obtain ⟨hp2, hpx⟩ := zipIdx_get hx
        have hi : i < ships.length := (List.getElem?_eq_some_iff.mp hpx).1
        have hpl := place_get (i := p.2) (places := st.2) (by rw [hsl, hp2]; exact hi)
        refine ⟨_, bd_tup rfl (bds_cons (bd_name 6 sc_cost_in.nd) (bds_cons (bd_name 9 sc_cost_in.nd) bds_nil)), fun σ5 H5 S5 => ?_⟩
        refine go_cons (go_if S5 (et_inL (k := mv.any fun m => decide (m.1 = (p.2 : Nat))) hu (ev_var 6) (ev_var 5) (by rw [List.any_map]; congr 1)) (fun hk H6 S6 => ?_) fun hk H6 S6 => ?_)
        · refine go_one (go_cont ⟨trivial, ?_⟩)
          have e : costStep st mv b p = b := by unfold costStep; rw [if_pos hk]
          rw [e]
          exact (S6.forget 6).forget 9
        · refine go_nil (go_one (go_if S6 (k := decide (placeAt st.2 p.2 = SEA) && decide (p.1.ready ≤ st.1)) (et_and (et_eq hu (ev_ixT (j := p.2) (ev_var 4) (ev_var 6) rfl hpl) (ev_gd gS) (eqv_encP _ _)) fun _ => et_le (ev_ixT (j := 0) (ev_var 9) ev_int rfl rfl) (ev_var 3)) (fun hq H7 S7 => ?_) fun hq H7 S7 => ?_))
          · rw [Bool.and_eq_true, decide_eq_true_eq, decide_eq_true_eq] at hq
            have e : costStep st mv b p = b + p.1.sea := by unfold costStep; rw [if_neg (by rw [hk]; exact Bool.false_ne_true), if_pos hq]
            refine go_one (go_aug 8 S7 (he := ev_ixT (j := 5) (ev_var 9) ev_int rfl rfl) (kk := fun σ8 H8 S8 => ⟨trivial, ?_⟩) (hN := sc_cost_in.nd))
            rw [e]
            exact (S8.forget 6).forget 9
          · have hq' : ¬ (placeAt st.2 p.2 = SEA ∧ p.1.ready ≤ st.1) := fun z => by rw [decide_eq_true z.1, decide_eq_true z.2] at hq; cases hq
            refine go_one (go_if S7 (k := decide (0 ≤ (placeAt st.2 p.2).1) && decide ((placeAt st.2 p.2).2 = 0)) (et_and (et_ge (ev_ixT (j := 0) (ev_ixT (j := p.2) (ev_var 4) (ev_var 6) rfl hpl) ev_int rfl rfl) ev_int) fun _ => et_eq hu (ev_ixT (j := 1) (ev_ixT (j := p.2) (ev_var 4) (ev_var 6) rfl hpl) ev_int rfl rfl) ev_int (eqv_int _ _)) (fun hq2 H8 S8 => ?_) fun hq2 H8 S8 => ?_)
            · rw [Bool.and_eq_true, decide_eq_true_eq, decide_eq_true_eq] at hq2
              have e : costStep st mv b p = b + p.1.lie := by unfold costStep; rw [if_neg (by rw [hk]; exact Bool.false_ne_true), if_neg hq', if_pos hq2]
              refine go_one (go_aug 8 S8 (he := ev_ixT (j := 6) (ev_var 9) ev_int rfl rfl) (kk := fun σ8 H8 S8 => ⟨trivial, ?_⟩) (hN := sc_cost_in.nd))
              rw [e]
              exact (S8.forget 6).forget 9
            · have hq2' : ¬ (0 ≤ (placeAt st.2 p.2).1 ∧ (placeAt st.2 p.2).2 = 0) := fun z => by rw [decide_eq_true z.1, decide_eq_true z.2] at hq2; cases hq2
              have e : costStep st mv b p = b := by unfold costStep; rw [if_neg (by rw [hk]; exact Bool.false_ne_true), if_neg hq', if_neg hq2']
              refine go_nil ⟨trivial, ?_⟩
              rw [e]
              exact (S8.forget 6).forget 9
      · exact go_one (go_ret S4 (ev_var 8) fun v H1 S1 r => S1.done r q)
theorem ok_after_moves {f : Addr} {fd : FuncData} (F : Fun K "after_moves" "after_moves" s_after_moves f fd) (B : Bn mg) (gG : Gd K mg "GONE" (encP GONE)) : FnOk P w K mg base CX0 1 f fd ["ships", "state", "moves"] (SpR K P w R_after_moves) := by
  refine fn_ok F sc_after_moves (fun ds r h => ?_) (by decide) (fun cdv A outer s H M vs ds r Q E hr hR S q => ?_)
  · obtain ⟨h, ships, mv, rfl, _⟩ := h
    rfl
  · obtain ⟨ships, st, mv, rfl, hn, hsl, ⟨hl, hm⟩, rfl⟩ := hR
    have hu := room_u hr
    refine go_cons (go_unpack S (ev_var 1) (bd_tup rfl (bds_cons (bd_name 3 sc_after_moves.nd) (bds_cons (bd_name 4 sc_after_moves.nd) bds_nil))) fun σ1 H1 S1 => ?_)
    refine go_cons (go_newL 5 S1 (fun q1 σ2 H2 S2 => ?_) sc_after_moves.nd)
    refine go_cons (go_fold [6, 7, 8] st.2.zipIdx (fun p => PyData.tuple [.int (p.2 : Nat), encP p.1]) (fun b p => b ++ [later1 p.1]) [] (fun b => [.py (encSs ships), .py (encSt st), .py (encMv mv), .py (.int st.1), .py (encPs st.2), .ml q1 (b.map encP), .any, .any, .any]) (fun i b => b.length ≤ i) S2 PassesOwn.never rfl (it_enumTX st.2 encP B.enumerate (ev_var 4)) (fun σ H S => S) (Nat.le_refl _) (fun φ i p b σ' H' hx hb' hP S3 => ?_) (fun σ' H' _ S3 => ?_))
    · obtain ⟨hp2, hpx⟩ := zipIdx_get hx
      have hi : i < st.2.length := (List.getElem?_eq_some_iff.mp hpx).1
      refine ⟨_, bd_tup rfl (bds_cons (bd_name 6 sc_after_moves.nd) (bds_cons (bd_tup rfl (bds_cons (bd_name 7 sc_after_moves.nd) (bds_cons (bd_name 8 sc_after_moves.nd) bds_nil))) bds_nil)), fun σ5 H5 S5 => ?_⟩
      refine go_cons (go_ifJ [.py (encSs ships), .py (encSt st), .py (encMv mv), .py (.int st.1), .py (encPs st.2), .ml q1 (b.map encP), .py (.int (p.2 : Nat)), .py (.int p.1.1), .py (.int (later1 p.1).2)] S5 (et_ge (ev_var 7) ev_int) (fun hk H6 S6 => ?_) (fun hk H6 S6 => ?_) fun σ6 H6 S6 => ?_)
      · have e : (later1 p.1).2 = max 0 (p.1.2 - 1) := by unfold later1; rw [if_pos (of_decide_eq_true hk)]
        rw [e]
        exact go_one (go_set 8 S6 (ev_max2 rfl B.max ev_int (ev_sub (ev_var 8) ev_int)) (fun σ7 H7 S7 => S7) sc_after_moves.nd)
      · have e : (later1 p.1).2 = p.1.2 := by unfold later1; rw [if_neg (of_decide_eq_false hk)]
        rw [e]
        exact go_nil S6
      · have e1 : (later1 p.1).1 = p.1.1 := by unfold later1; split <;> rfl
        refine go_one (go_app 5 S6 (he := ev_cast (ev_tup (ds := [_, _]) (ea_cons (ev_var 7) (ea_one (ev_var 8) rfl))) (show _ = encP (later1 p.1) by unfold encP; rw [e1])) (hz := ?_) (k := fun H7 S7 => ?_))
        · rw [List.length_map]
          exact Nat.lt_of_le_of_lt hP (Nat.lt_of_lt_of_le hi (small_line (by omega)))
        · refine ⟨by rw [List.length_append]; simp; omega, ?_⟩
          have S8 := ((S7.forget 6).forget 7).forget 8
          rw [List.map_append]
          exact S8
    · rw [foldl_snoc, List.nil_append] at S3
      have eb : st.2.zipIdx.map (fun x => later1 x.1) = st.2.map later1 := by
        rw [show (fun x : Place × Nat => later1 x.1) = later1 ∘ Prod.fst from rfl, ← List.map_map, List.zipIdx_map_fst]
      rw [eb] at S3
      refine go_cons (go_fold [6, 7] mv encP (fun l m => l.set m.1.toNat (moveTo ships m)) (st.2.map later1) (fun b => [.py (encSs ships), .py (encSt st), .py (encMv mv), .py (.int st.1), .py (encPs st.2), .ml q1 (b.map encP), .any, .any, .any]) (fun i b => b.length = ships.length) S3 PassesOwn.never rfl (it_tup (ev_var 2)) (fun σ H S => S) (by rw [List.length_map]; exact hsl) (fun φ i m b σ' H' hx hb' hP S4 => ?_) (fun σ' H' _ S4 => ?_))
      · obtain ⟨h0, h1⟩ := hm m (List.mem_of_getElem? hx)
        obtain ⟨g1, g2⟩ := ship_get h0 h1
        refine ⟨_, bd_tup rfl (bds_cons (bd_name 6 sc_after_moves.nd) (bds_cons (bd_name 7 sc_after_moves.nd) bds_nil)), fun σ5 H5 S5 => ?_⟩
        refine go_one (go_setItem 5 S5 (he := ev_ifS (d := .py (encP (moveTo ships m))) (et_eq hu (ev_var 7) (ev_neg ev_int) (eqv_int _ _)) (fun hk => ?_) (fun hk => ?_)) (hix := ev_var 6) (hz := g1) (hj := by rw [List.length_map, hP]; omega) (k := fun H7 S7 => ?_))
        · have e : moveTo ships m = GONE := by unfold moveTo; rw [if_pos (of_decide_eq_true hk)]
          rw [e]
          exact ev_gd gG
        · have e : moveTo ships m = (m.2, (shipAt ships m.1).stay) := by unfold moveTo; rw [if_neg (of_decide_eq_false hk)]
          rw [e]
          exact ev_tup (ds := [_, _]) (ea_cons (ev_var 7) (ea_one (ev_ixT (j := 3) (ev_ixL (j := m.1.toNat) (ev_var 0) (ev_var 6) g1 g2) ev_int rfl rfl) rfl))
        · refine ⟨by rw [List.length_set]; exact hP, ?_⟩
          have S8 := (S7.forget 6).forget 7
          rw [List.map_set]
          exact S8
      · have S5 := seal_ml 5 S4
        exact go_one (go_ret S5 (ev_tup (ds := [_, _]) (ea_cons (ev_add (ev_var 3) ev_int) (ea_one (ev_tupleL B.tuple (ev_var 5)) rfl))) fun v H1 S1 r => S1.done r q)
end
end Tk
end

section
namespace Tk
open L2 PyProof.Rows PySem PySem.Spec
/-- a def with a last parameter latest by keyword alone, None where it is not given -/
def FdK (P : Program) (w : World) (K : PySem.W.Frag) (mg : Str → Option Value) (base : Heap) (k : Nat) (x : Str) (ps : List Str) (R : List Dt → Dt → Prop) : Prop :=
  ∃ f fd, FnOk P w K mg base CX0 k f fd ps (SpR K P w R) ∧ mg x = some (.ref f) ∧ PySem.W.keepIn K (.ref f) = true ∧ (∃ n : Nat, KBn K fd ps n [("latest" : Str)] (fun us ws => us ++ ws) (fun vs zs => vs ++ zs) ∧ ∀ ds r, R ds r → ds.length = n + 1) ∧ ∃ dus, Binds K fd ps dus ∧ Vals [V.non] dus
abbrev FdKX (X : Cx) := FdK X.prog X.w X.K X.mg X.base
section
variable {X : Cx} {C : Cc} {L : List Addr} {ρ ρ1 ρ2 ρ3 : List Slot} {e a b c tg iter : Expr} {es : List Expr} {d d1 d2 : PyData} {pos p : Pos} {D : Ends} {σ : L2.St} {H : Hp} {body : List Stmt}
theorem ev_clK {j k : Nat} {x : Str} {ps : List Str} {R : List Dt → Dt → Prop} {ds : List Dt} {z r : Dt} {kpos : Pos} (F : FdKX X k x ps R) (hr : Room j X.A) (ha : EvA X C L ρ (e :: es) ds ρ1) (hz : EvE X C L ρ1 a z ρ2) (hR : R (ds ++ [z]) r) (hkj : k ≤ j := by decide) (hg : Gl X x := by rfl)
    (hall : (backToKw pos (keywordEach [⟨some "latest", a, kpos⟩] X.env)).all (·.1.isSome) = true := by rfl) (hks : (backToKw pos (keywordEach [⟨some "latest", a, kpos⟩] X.env)).filterMap (·.1) = [("latest" : Str)] := by rfl)
    (hdb : (x == ("__debug__" : Str)) = false := by decide)
    (he : starEach (e :: es) X.env = (false, eval e X.env) :: starEach es X.env := by rfl)
    (hpl : ((backTo pos (starEach (e :: es) X.env)).any (·.1) || (backToKw pos (keywordEach [⟨some "latest", a, kpos⟩] X.env)).any (·.1.isNone)) = false := by rfl) :
    EvE X C L ρ (.Call (.Name x p) (e :: es) [⟨some "latest", a, kpos⟩] pos) r ρ2 := fun σ H S Q q => by
  obtain ⟨f, fd, h1, h2, h3, ⟨n, h4, hl⟩, _⟩ := F
  obtain ⟨t, k1, k2⟩ := (ek_cons hz ek_nil : EvK X C L ρ1 [⟨some "latest", a, kpos⟩] [z] ρ2)
  refine le_E (pe_callN h1 (hr.mono hkj) hg h2 h3 h4 (pass0 (X := X)) pa_tA k1 hall hks hdb he hpl) ?_
  refine ha σ H S _ fun vs H1 S1 f1 r1 => ?_
  refine k2 σ H1 S1 _ fun zs H2 S2 f2 r2 => ?_
  have l1 : vs.length = n := by
    have e1 := hl _ _ hR
    rw [List.length_append] at e1
    have e2 := Paired.length r1
    simp at e1
    omega
  exact ⟨l1, (Paired.length r2).trans rfl, C.M L, ds ++ [z], r, hR, S2.dom, paired_append (paired_mono f2 r1) r2, fun v H' e r => q v H' (S2.grow e) ((f1.trans f2).trans (Fr.of e)) r⟩
theorem ev_cl0 {j k : Nat} {x : Str} {ps : List Str} {R : List Dt → Dt → Prop} {ds : List Dt} {r : Dt} (F : FdKX X k x ps R) (hr : Room j X.A) (ha : EvA X C L ρ (e :: es) ds ρ1) (hR : R (ds ++ [.py .none]) r) (hkj : k ≤ j := by decide) (hg : Gl X x := by rfl)
    (hdb : (x == ("__debug__" : Str)) = false := by decide)
    (he : starEach (e :: es) X.env = (false, eval e X.env) :: starEach es X.env := by rfl)
    (hpl : (backTo pos (starEach es X.env)).any (·.1) = false := by rfl) :
    EvE X C L ρ (.Call (.Name x p) (e :: es) [] pos) r ρ1 := by
  obtain ⟨f, fd, h1, h2, h3, _, dus, h4, h5⟩ := F
  exact ev_call (dd := [.py .none]) h1 (hr.mono hkj) hg h2 h3 h4 h5 (fun _ => .cons .non .nil) ha hR hdb he hpl
end
def R_moves_in : List Dt → Dt → Prop := fun ds r => ∃ (h : Hb) (ships : List Sh) (s : Stt) (lat : Lat), ds = [.py (encH h), .py (encSs ships), .py (encSt s), .py (encLat lat)] ∧ StOk h ships s lat ∧ r = .py (.list ((movesIn h ships s lat).map encMv))
def R_ways_in : List Dt → Dt → Prop := fun ds r => ∃ (h : Hb) (ships : List Sh) (s : Stt) (lat : Lat), ds = [.py (encH h), .py (encSs ships), .py (encSt s), .py (encLat lat)] ∧ StOk h ships s lat ∧ r = .py (encWs (waysIn h ships s lat))
abbrev s_moves_in : Stmt := topS 12
abbrev N_moves_in : List Str := ["harbour", "ships", "state", "latest", "found", "name", "row", "more", "moves", "berth"]
theorem sc_moves_in : FnScope N_moves_in ["harbour", "ships", "state", "latest"] (defScope s_moves_in) := ⟨rfl, rfl, rfl, by decide +kernel, rfl, by decide +kernel, by decide +kernel⟩
abbrev s_ways_in : Stmt := topS 15
abbrev N_ways_in : List Str := ["harbour", "ships", "state", "latest", "found", "moves"]
theorem sc_ways_in : FnScope N_ways_in ["harbour", "ships", "state", "latest"] (defScope s_ways_in) := ⟨rfl, rfl, rfl, by decide +kernel, rfl, by decide +kernel, by decide +kernel⟩

/-! ### what is found, plainly -/
theorem u_lt2 {u n : Nat} (hu : u + 200 < cLine) (h : n ≤ 100) : u + 2 + n < cLine := by omega
theorem u_lt1 {u n : Nat} (hu : u + 200 < cLine) (h : n ≤ 100) : u + 1 + n < cLine := by omega
theorem alikeAll_P : ∀ xs ys : List (Int × Int), PySem.W.alikeAll (xs.map encP) (ys.map encP) = true
  | [], _ => by simp [PySem.W.alikeAll]
  | _ :: _, [] => by simp [PySem.W.alikeAll]
  | x :: xs, y :: ys => by
    show PySem.W.alikeAll (encP x :: xs.map encP) (encP y :: ys.map encP) = true
    rw [PySem.W.alikeAll, alikeAll_P xs ys]
    rfl
theorem alike_Mv (a b : Mv) : PySem.W.alike (encMv a) (encMv b) = true := by
  unfold encMv
  rw [PySem.W.alike]
  exact alikeAll_P a b
theorem depthAll_P : ∀ xs : List (Int × Int), PyData.depthAll (xs.map encP) ≤ 1
  | [] => Nat.zero_le _
  | x :: xs => by
    show max (encP x).depth (PyData.depthAll (xs.map encP)) ≤ 1
    rw [depth_encP]
    have := depthAll_P xs
    omega
theorem depth_Mv (a : Mv) : (encMv a).depth ≤ 2 := by
  show PyData.depthAll (a.map encP) + 1 ≤ 2
  have := depthAll_P a
  omega
theorem sortOk_Mv (fs : List Mv) : SortOk (([] :: fs).map encMv) := by
  refine ⟨PySem.W.AllAlike.of fun a b => alike_Mv a b, .inr ⟨fs.map fun m => m.map encP, ?_⟩⟩
  rw [List.map_cons, List.map_cons, List.map_map]
  rfl
theorem mergeSort_enc {α : Type} (enc : α → PyData) (le : α → α → Bool) (hle : ∀ a b, PySem.W.dataLe false id (enc a) (enc b) = le a b) (xs : List α) : (xs.map enc).mergeSort (PySem.W.dataLe false id) = (xs.mergeSort le).map enc := by
  rw [List.map_mergeSort (r := le) (s := PySem.W.dataLe false id)]
  intro a _ b _
  rw [hle]
theorem berthsFor_len (h : Hb) (sh : Sh) (ps : List Place) : (berthsFor h sh ps).length ≤ h.berths.length := by
  unfold berthsFor
  rw [List.length_map]
  refine Nat.le_trans (List.length_filter_le _ _) ?_
  rw [List.length_zipIdx]
  exact Nat.le_refl _
theorem rowOf_len {h : Hb} (hb : HbOk h) (lat : Lat) (s : Stt) (name : Nat) (sh : Sh) : (rowOf h lat s name sh).length ≤ 4 := by
  unfold rowOf
  have := berthsFor_len h sh s.2
  have := hb.2.2.2
  split
  · split
    · omega
    · split <;> simp
  · simp
theorem moreOf_cons (f : Mv) (found : List Mv) (name : Nat) (row : List Int) : ∀ acc : List Mv, found.foldl (fun more mv => more ++ row.map fun b => mv ++ [(((name : Nat) : Int), b)]) acc = acc ++ found.flatMap fun mv => row.map fun b => mv ++ [(((name : Nat) : Int), b)] := by
  induction found with
  | nil => intro acc; simp
  | cons x xs ih =>
    intro acc
    rw [List.foldl_cons, ih]
    simp
theorem moreOf_eq (found : List Mv) (name : Nat) (row : List Int) : moreOf found name row = found.flatMap fun mv => row.map fun b => mv ++ [(((name : Nat) : Int), b)] := by
  unfold moreOf
  rw [moreOf_cons [] found name row, List.nil_append]
/-- what holds of the moves found from the first i ships -/
def FoundOk (i : Nat) (b : List Mv) : Prop := b.length ≤ 5 ^ i ∧ ∀ mv ∈ b, mv.length ≤ i ∧ ∀ m ∈ mv, 0 ≤ m.1 ∧ m.1 < i
theorem moreOf_ok {i : Nat} {b : List Mv} {row : List Int} (h : FoundOk i b) (hr : row.length ≤ 4) : (moreOf b i row).length ≤ 4 * 5 ^ i ∧ ∀ mv ∈ moreOf b i row, mv.length ≤ i + 1 ∧ ∀ m ∈ mv, 0 ≤ m.1 ∧ m.1 < (i : Int) + 1 := by
  rw [moreOf_eq]
  refine ⟨?_, fun mv hm => ?_⟩
  · have : ∀ l : List Mv, (l.flatMap fun mv => row.map fun b => mv ++ [(((i : Nat) : Int), b)]).length ≤ 4 * l.length := by
      intro l
      induction l with
      | nil => simp
      | cons x xs ih =>
        rw [List.flatMap_cons, List.length_append, List.length_map, List.length_cons]
        omega
    exact Nat.le_trans (this b) (Nat.mul_le_mul_left 4 h.1)
  · obtain ⟨mv0, h0, h1⟩ := List.mem_flatMap.mp hm
    obtain ⟨b0, _, rfl⟩ := List.mem_map.mp h1
    obtain ⟨k1, k2⟩ := h.2 mv0 h0
    refine ⟨by rw [List.length_append]; simp; omega, fun m hm => ?_⟩
    rcases List.mem_append.mp hm with hm|hm
    · have := k2 m hm; omega
    · have := List.mem_singleton.mp hm
      subst this
      simp
      omega
theorem stepMoves_ok {h : Hb} {ships : List Sh} {i : Nat} {b : List Mv} {row : List Int} (hf : FoundOk i b) (hr : row.length ≤ 4) : FoundOk (i + 1) (stepMoves h ships b (row, i)) := by
  obtain ⟨h1, h2⟩ := moreOf_ok hf hr
  unfold stepMoves
  refine ⟨?_, fun mv hm => ?_⟩
  · rw [List.length_append]
    have h3 := List.length_filter_le (isLet h ships) (moreOf b i row)
    have h4 := hf.1
    have : 5 ^ (i + 1) = 5 ^ i + 4 * 5 ^ i := by omega
    show b.length + ((moreOf b i row).filter (isLet h ships)).length ≤ _
    omega
  · rcases List.mem_append.mp hm with hm|hm
    · obtain ⟨k1, k2⟩ := hf.2 mv hm
      exact ⟨by omega, fun m hm => by have := k2 m hm; omega⟩
    · obtain ⟨k1, k2⟩ := h2 mv (List.mem_filter.mp hm).1
      exact ⟨k1, fun m hm => by have := k2 m hm; omega⟩
theorem foundOk_zero : FoundOk 0 [[]] := ⟨Nat.le_refl _, fun mv hm => by
  have := List.mem_singleton.mp hm
  subst this
  exact ⟨Nat.le_refl _, fun m hm => absurd hm List.not_mem_nil⟩⟩
theorem steps_head (h : Hb) (ships : List Sh) : ∀ (xs : List (List Int × Nat)) (b : List Mv), ∃ r, xs.foldl (stepMoves h ships) ([] :: b) = [] :: r
  | [], b => ⟨b, rfl⟩
  | x :: xs, b => by
    rw [List.foldl_cons]
    exact steps_head h ships xs _
section
variable {w : World} {P : Program} {base : Heap} {mg : Str → Option Value} {K : PySem.W.Frag}
theorem ok_moves_in {f : Addr} {fd : FuncData} (F : Fun K "moves_in" "moves_in" s_moves_in f fd) (B : Bn mg) (f1 : Fd P w K mg base 1 "is_end" ["state"] R_is_end) (f2 : Fd P w K mg base 2 "choices" ["harbour", "ships", "state", "latest"] R_choices)
    (f3 : Fd P w K mg base 1 "is_let" ["harbour", "ships", "moves"] R_is_let) : FnOk P w K mg base CX0 3 f fd ["harbour", "ships", "state", "latest"] (SpR K P w R_moves_in) := by
  refine fn_ok F sc_moves_in (fun ds r h => ?_) (by decide) (fun cdv A outer s H M vs ds r Q E hr hR S q => ?_)
  · obtain ⟨h, ships, st, lat, rfl, _⟩ := h
    rfl
  · obtain ⟨h, ships, st, lat, rfl, ok, rfl⟩ := hR
    obtain ⟨hb, hn, hl, hlat⟩ := id ok
    have hu := room_u hr
    refine go_cons (go_if S (k := decide (h.last < st.1) || isEnd st) (et_or (et_gt (ev_ixT (j := 0) (ev_var 2) ev_int rfl rfl) (ev_ixT (j := 4) (ev_var 0) ev_int rfl rfl)) fun _ => et_val (ev_cl f1 hr (ea_one (ev_var 2) rfl) ⟨st, rfl, by omega, rfl⟩)) (fun hk H1 S1 => ?_) fun hk H1 S1 => ?_)
    · have e : movesIn h ships st lat = [] := by
        unfold movesIn
        rw [if_pos]
        rw [Bool.or_eq_true, decide_eq_true_eq] at hk
        exact hk
      refine go_one (go_ret S1 (ev_cast (ev_lst (ds := []) ea_nil) (by rw [e]; rfl)) fun v H1 S1 r => S1.done r q)
    · have e : movesIn h ships st lat = (allMoves h ships st lat).mergeSort leMv := by
        unfold movesIn
        rw [if_neg]
        rw [Bool.or_eq_false_iff, decide_eq_false_iff_not] at hk
        rintro (z | z)
        · exact hk.1 z
        · rw [hk.2] at z; cases z
      refine go_nil (go_cons (go_set 4 S1 (ev_lst (ds := [_]) (ea_one (ev_tup (ds := []) ea_nil) rfl)) (fun σ2 H2 S2 => ?_) sc_moves_in.nd))
      refine go_cons (go_fold [5, 6] (choices h ships st lat).zipIdx (fun p => PyData.tuple [.int (p.2 : Nat), encI p.1]) (stepMoves h ships) [[]] (fun b => [.py (encH h), .py (encSs ships), .py (encSt st), .py (encLat lat), .py (.list (b.map encMv)), .any, .any, .any, .any, .any]) FoundOk S2 PassesOwn.never rfl
        (it_enumX (choices h ships st lat) encI B.enumerate (ev_cl f2 hr (ea_cons (ev_var 0) (ea_cons (ev_var 1) (ea_cons (ev_var 2) (ea_one (ev_var 3) rfl)))) ⟨h, ships, st, lat, rfl, ok, rfl⟩)) (fun σ H S => S) foundOk_zero (fun φ i p b σ' H' hx hb' hP S3 => ?_) (fun σ' H' _ S3 => ?_))
      · obtain ⟨hp2, hpx⟩ := zipIdx_get hx
        have hi : i < ships.length := by
          have := (List.getElem?_eq_some_iff.mp hpx).1
          unfold choices at this
          rw [List.length_map, List.length_zipIdx] at this
          exact this
        have hrow : p.1.length ≤ 4 := by
          unfold choices at hpx
          rw [List.getElem?_map] at hpx
          cases z : ships.zipIdx[i]? with
          | none => rw [z] at hpx; cases hpx
          | some y =>
            rw [z] at hpx
            rw [← Option.some.inj hpx]
            exact rowOf_len hb lat st y.2 y.1
        have hpow : (5 : Nat) ^ i ≤ 25 := by
          have : i ≤ 2 := by omega
          exact Nat.pow_le_pow_right (by decide) this
        have hP1 := hP.1
        refine ⟨_, bd_tup rfl (bds_cons (bd_name 5 sc_moves_in.nd) (bds_cons (bd_name 6 sc_moves_in.nd) bds_nil)), fun σ4 H4 S4 => ?_⟩
        refine go_cons (go_set 7 S4 (ev_lst (ds := []) ea_nil) (fun σ5 H5 S5 => ?_) sc_moves_in.nd)
        refine go_cons (go_fold [8] b encMv (fun more mv => more ++ p.1.map fun b => mv ++ [(((p.2 : Nat) : Int), b)]) [] (fun more => [.py (encH h), .py (encSs ships), .py (encSt st), .py (encLat lat), .py (.list (b.map encMv)), .py (.int (p.2 : Nat)), .py (encI p.1), .py (.list (more.map encMv)), .any, .any]) (fun j more => more.length ≤ 4 * j ∧ j ≤ b.length) S5 PassesOwn.never rfl
          (it_list (ev_var 4)) (fun σ H S => S) ⟨Nat.le_refl _, Nat.zero_le _⟩ (fun φ2 j mv more σ' H' hy hmore hP2 S6 => ?_) (fun σ' H' _ S6 => ?_))
        · have hj : j < b.length := (List.getElem?_eq_some_iff.mp hy).1
          refine ⟨_, bd_name 8 sc_moves_in.nd, fun σ7 H7 S7 => ?_⟩
          refine go_one (go_set 7 S7 (ev_cat (ev_var 7) (ev_F (ev_lcP (own := [("berth", 9)]) p.1 PyData.int (fun _ => true) (fun b => encMv (mv ++ [(((p.2 : Nat) : Int), b)])) rfl sc_moves_in.nd (it_list (ev_var 6)) (blkOk_by (sc := defScope s_moves_in) (N := N_moves_in) (by decide +kernel)) (own_lt rfl) (small_line (by omega)) rfl fun φ q ds x hx => ?_)) ?_) (fun σ8 H8 S8 => ⟨?_, ?_⟩) sc_moves_in.nd)
          · refine ⟨[9], _, by decide, rfl, fun s H0 Ca cl fp => bd_name 9 sc_moves_in.nd, fun s H0 Ca cl fp => ets_nil, fun _ s H0 Ca cl fp => ev_cast (ev_catT (ev_var 8) (ev_tup (ds := [_]) (ea_one (ev_tup (ds := [_, _]) (ea_cons (ev_var 5) (ea_one (ev_var 9) rfl))) rfl)) ?_) ?_⟩
            · rw [List.length_map]
              have := (hP.2 mv (List.mem_of_getElem? hy)).1
              exact small_line (by simp; omega)
            · unfold encMv
              rw [List.map_append]
              rfl
          · rw [List.filter_eq_self.mpr (fun _ _ => rfl), List.length_map, List.length_map]
            exact small_line (by omega)
          · exact ⟨by rw [List.length_append, List.length_map]; omega, hj⟩
          · have S9 := S8.forget 8
            rw [List.filter_eq_self.mpr (fun _ _ => rfl)] at S9
            rw [List.map_append, List.map_map]
            exact S9
        · have hmo : b.foldl (fun more mv => more ++ p.1.map fun b => mv ++ [(((p.2 : Nat) : Int), b)]) [] = moreOf b p.2 p.1 := rfl
          rw [hmo] at S6
          obtain ⟨m1, m2⟩ := moreOf_ok hP hrow
          rw [← hp2] at m1 m2
          have ml : (moreOf b p.2 p.1).length ≤ 100 := by rw [hp2] at m1; rw [hp2]; omega
          refine go_one (go_set 4 S6 (ev_cat (ev_var 4) (ev_F (ev_lcP (own := [("moves", 8)]) (moreOf b p.2 p.1) encMv (isLet h ships) encMv rfl sc_moves_in.nd (it_list (ev_var 7)) (blkOk_by (sc := defScope s_moves_in) (N := N_moves_in) (by decide +kernel)) (own_lt rfl) (small_line (by omega)) rfl fun φ q ds x hx => ?_)) ?_) (fun σ8 H8 S8 => ⟨?_, ?_⟩) sc_moves_in.nd)
          · refine ⟨[8], _, by decide, rfl, fun s H0 Ca cl fp => bd_name 8 sc_moves_in.nd, fun s H0 Ca cl fp => ets_one (et_val (ev_cl f3 hr (ea_cons (ev_var 0) (ea_cons (ev_var 1) (ea_one (ev_var 8) rfl))) ⟨h, ships, x, rfl, hn, ?_, rfl⟩)), fun _ s H0 Ca cl fp => ev_var 8⟩
            obtain ⟨k1, k2⟩ := m2 x hx
            exact ⟨by omega, fun m hm => by have := k2 m hm; omega⟩
          · rw [List.length_map, List.length_map]
            have := List.length_filter_le (isLet h ships) (moreOf b p.2 p.1)
            exact small_line (by omega)
          · have := stepMoves_ok (h := h) (ships := ships) hP hrow
            rw [← hp2] at this ⊢
            exact this
          · have S9 := (((S8.forget 5).forget 6).forget 7).forget 8
            unfold stepMoves
            rw [List.map_append]
            exact S9
      · obtain ⟨r, hr'⟩ := steps_head h ships (choices h ships st lat).zipIdx []
        have ea : allMoves h ships st lat = [] :: r := hr'
        rw [show (choices h ships st lat).zipIdx.foldl (stepMoves h ships) [[]] = allMoves h ships st lat from rfl, ea] at S3
        refine go_one (go_ret S3 (ev_cast (ev_sorted B.sorted (ev_var 4) (sortOk_Mv r) (fun d hd => ?_)) ?_) fun v H1 S1 r => S1.done r q)
        · obtain ⟨mv, _, rfl⟩ := List.mem_map.mp hd
          have := depth_Mv mv
          exact u_lt2 hu (by omega)
        · rw [mergeSort_enc encMv leMv (fun a b => rfl), e, ea]
theorem allMoves_ok {h : Hb} {ships : List Sh} {st : Stt} {lat : Lat} (hb : HbOk h) : FoundOk ships.length (allMoves h ships st lat) := by
  unfold allMoves
  have : ∀ (n : Nat) (xs : List (List Int × Nat)) (b : List Mv), (∀ i p, xs[i]? = some p → p.2 = n + i ∧ p.1.length ≤ 4) → FoundOk n b → FoundOk (n + xs.length) (xs.foldl (stepMoves h ships) b) := by
    intro n xs
    induction xs generalizing n with
    | nil => intro b _ hf; exact hf
    | cons x xs ih =>
      intro b hx hf
      have hx0 := hx 0 x rfl
      have : x = (x.1, n) := Prod.ext rfl hx0.1
      have := ih (n + 1) (stepMoves h ships b x) (fun i p hp => by
        have := hx (i + 1) p (by simpa using hp)
        omega) (by rw [this]; exact stepMoves_ok hf hx0.2)
      rw [List.foldl_cons,List.length_cons]
      rw [show n + (xs.length + 1) = n + 1 + xs.length by omega]
      exact this
  have h1 := this 0 (choices h ships st lat).zipIdx [[]] (fun i p hp => by
    obtain ⟨h1, h2⟩ := zipIdx_get hp
    refine ⟨by omega, ?_⟩
    unfold choices at h2
    rw [List.getElem?_map] at h2
    cases z : ships.zipIdx[i]? with
    | none => rw [z] at h2; cases h2
    | some y =>
      rw [z] at h2
      rw [← Option.some.inj h2]
      exact rowOf_len hb lat st y.2 y.1) foundOk_zero
  unfold choices at h1
  rw [List.length_zipIdx, List.length_map, List.length_zipIdx, Nat.zero_add] at h1
  exact h1
theorem movesIn_ok {h : Hb} {ships : List Sh} {st : Stt} {lat : Lat} (hb : HbOk h) {mv : Mv} (hm : mv ∈ movesIn h ships st lat) : MvOk ships mv := by
  unfold movesIn at hm
  split at hm
  · exact absurd hm List.not_mem_nil
  · have hm' := (List.mergeSort_perm _ _).mem_iff.mp hm
    exact (allMoves_ok hb).2 mv hm'
theorem movesIn_len {h : Hb} {ships : List Sh} {st : Stt} {lat : Lat} (hb : HbOk h) (hn : ships.length ≤ 2) : (movesIn h ships st lat).length ≤ 25 := by
  unfold movesIn
  split
  · exact Nat.zero_le _
  · rw [(List.mergeSort_perm _ _).length_eq]
    exact Nat.le_trans (allMoves_ok hb).1 (Nat.pow_le_pow_right (n := 5) (i := ships.length) (j := 2) (by decide) hn)
theorem ok_ways_in {f : Addr} {fd : FuncData} (F : Fun K "ways_in" "ways_in" s_ways_in f fd) (B : Bn mg) (f1 : FdK P w K mg base 3 "moves_in" ["harbour", "ships", "state", "latest"] R_moves_in) (f2 : Fd P w K mg base 1 "cost_in" ["ships", "state", "moves"] R_cost_in)
    (f3 : Fd P w K mg base 1 "after_moves" ["ships", "state", "moves"] R_after_moves) : FnOk P w K mg base CX0 4 f fd ["harbour", "ships", "state", "latest"] (SpR K P w R_ways_in) := by
  refine fn_ok F sc_ways_in (fun ds r h => ?_) (by decide) (fun cdv A outer s H M vs ds r Q E hr hR S q => ?_)
  · obtain ⟨h, ships, st, lat, rfl, _⟩ := h
    rfl
  · obtain ⟨h, ships, st, lat, rfl, ok, rfl⟩ := hR
    obtain ⟨hb, hn, hl, hlat⟩ := id ok
    have hu := room_u hr
    have hml := movesIn_len (st := st) (lat := lat) hb hn
    refine go_cons (go_newL 4 S (fun q1 σ2 H2 S2 => ?_) sc_ways_in.nd)
    refine go_cons (go_fold [5] (movesIn h ships st lat) encMv (fun b mv => b ++ [((mv, costIn ships st mv, afterMoves ships st mv) : Way)]) [] (fun b => [.py (encH h), .py (encSs ships), .py (encSt st), .py (encLat lat), .ml q1 (b.map encW), .any]) (fun i b => b.length ≤ i) S2 PassesOwn.never rfl
      (it_list (ev_clK f1 hr (ea_cons (ev_var 0) (ea_cons (ev_var 1) (ea_one (ev_var 2) rfl))) (ev_var 3) ⟨h, ships, st, lat, rfl, ok, rfl⟩)) (fun σ H S => S) (Nat.le_refl _) (fun φ i mv b σ' H' hx hb' hP S3 => ?_) (fun σ' H' _ S3 => ?_))
    · have hi : i < (movesIn h ships st lat).length := (List.getElem?_eq_some_iff.mp hx).1
      have hmv : MvOk ships mv := movesIn_ok hb (List.mem_of_getElem? hx)
      refine ⟨_, bd_name 5 sc_ways_in.nd, fun σ4 H4 S4 => ?_⟩
      refine go_one (go_app 4 S4 (he := ev_tup (ds := [_, _, _]) (ea_cons (ev_var 5) (ea_cons (ev_cl f2 hr (ea_cons (ev_var 1) (ea_cons (ev_var 2) (ea_one (ev_var 5) rfl))) ⟨ships, st, mv, rfl, hn, hl, hmv, rfl⟩) (ea_one (ev_cl f3 hr (ea_cons (ev_var 1) (ea_cons (ev_var 2) (ea_one (ev_var 5) rfl))) ⟨ships, st, mv, rfl, hn, hl, hmv, rfl⟩) rfl)))) (hz := ?_) (k := fun H7 S7 => ?_))
      · rw [List.length_map]
        exact Nat.lt_of_le_of_lt hP (Nat.lt_of_lt_of_le hi (small_line (by omega)))
      · refine ⟨by rw [List.length_append]; simp; omega, ?_⟩
        have S8 := S7.forget 5
        rw [List.map_append]
        exact S8
    · rw [foldl_snoc] at S3
      have S4 := seal_ml 4 S3
      refine go_one (go_ret S4 (ev_cast (ev_var 4) ?_) fun v H1 S1 r => S1.done r q)
      rw [List.nil_append]
      rfl
end
end Tk
end

section
namespace Tk
open L2 PyProof.Rows PySem PySem.Spec
def R_grown : List Dt → Dt → Prop := fun ds r => ∃ (h : Hb) (ships : List Sh) (s : Stt) (lat : Lat), ds = [.py (encH h), .py (encSs ships), .py (encSt s), .py (encLat lat)] ∧ GOk h ships s lat ∧ r = .dic (dic encWs (grown h ships s lat))
abbrev s_grown : Stmt := topS 16
abbrev N_grown : List Str := ["harbour", "ships", "state", "latest", "found", "layer", "later", "here", "moves", "cost", "behind"]
theorem sc_grown : FnScope N_grown ["harbour", "ships", "state", "latest"] (defScope s_grown) := ⟨rfl, rfl, rfl, by decide +kernel, rfl, by decide +kernel, by decide +kernel⟩
theorem waysIn_len {h : Hb} {ships : List Sh} {st : Stt} {lat : Lat} (hb : HbOk h) (hn : ships.length ≤ 2) : (waysIn h ships st lat).length ≤ 25 := by
  unfold waysIn
  rw [List.length_map]
  exact movesIn_len hb hn
section
variable {w : World} {P : Program} {base : Heap} {mg : Str → Option Value} {K : PySem.W.Frag}
theorem u_9 {u : Nat} (hu : u + 200 < cLine) : u + 9 < cLine := by omega
theorem line_100k {n : Nat} (h : n ≤ 100000) : n < sizeLine := Nat.lt_of_le_of_lt h (by decide)
theorem ok_grown {f : Addr} {fd : FuncData} (F : Fun K "grown" "grown" s_grown f fd) (B : Bn mg) (f1 : Fd P w K mg base 4 "ways_in" ["harbour", "ships", "state", "latest"] R_ways_in) : FnOk P w K mg base CX0 5 f fd ["harbour", "ships", "state", "latest"] (SpR K P w R_grown) := by
  refine fn_ok F sc_grown (fun ds r h => ?_) (by decide) (fun cdv A outer s H M vs ds r Q E hr hR S q => ?_)
  · obtain ⟨h, ships, st, lat, rfl, _⟩ := h
    rfl
  · obtain ⟨h, ships, st, lat, rfl, G, rfl⟩ := hR
    obtain ⟨hb, hn, hl, hlat⟩ := id G.st
    have hu := room_u hr
    refine go_cons (go_newD 4 S (fun q1 σ1 H1 S1 => ?_) sc_grown.nd)
    refine go_cons (go_set 5 S1 (ev_lst (ds := [_]) (ea_one (ev_var 2) rfl)) (fun σ2 H2 S2 => ?_) sc_grown.nd)
    refine go_cons (go_while (k := fun i => !((gIter h ships lat st (20 - i)).2.map encSt).isEmpty) S2 PassesOwn.never (fun i => [.py (encH h), .py (encSs ships), .py (encSt st), .py (encLat lat), .md q1 (dic encWs (gIter h ships lat st (20 - i)).1), .py (.list ((gIter h ships lat st (20 - i)).2.map encSt)), .any, .any, .any, .any, .any]) 20 rfl
      (fun i => et_list (ev_var 5)) (fun i hk => ?_) (fun i σ' H' hk S3 => ?_) fun i σ' H' hk S3 => ?_)
    · cases i with
      | zero =>
        rw [show 20 - 0 = 20 from rfl, G.fin] at hk
        cases hk
      | succ i => exact Nat.succ_pos _
    · have hi : 0 < i := by
        cases i with
        | zero =>
          rw [show 20 - 0 = 20 from rfl, G.fin] at hk
          cases hk
        | succ i => exact Nat.succ_pos _
      obtain ⟨n, hn'⟩ : ∃ n, n = 20 - i := ⟨_, rfl⟩
      rw [← hn'] at S3
      have hn20 : n < 20 := by omega
      have sz := G.sz (n + 1)
      have ln := G.len n
      have gs : gIter h ships lat st (n + 1) = growStep h ships lat (gIter h ships lat st n) := rfl
      rw [gs] at sz
      unfold growStep at sz
      simp only [List.length_map] at sz
      refine go_cons (go_newD 6 S3 (fun q2 σ4 H4 S4 => ?_) sc_grown.nd)
      refine go_cons (go_fold [7] (gIter h ships lat st n).2 encSt (layerStep h ships lat) ((gIter h ships lat st n).1, []) (fun p => [.py (encH h), .py (encSs ships), .py (encSt st), .py (encLat lat), .md q1 (dic encWs p.1), .py (.list ((gIter h ships lat st n).2.map encSt)), .md q2 (dic PyData.bool p.2), .any, .any, .any, .any]) (fun _ _ => True) S4 PassesOwn.never rfl (it_list (ev_var 5)) (fun σ H S => S) trivial (fun φ i' here p σ' H' hx hp' _ S5 => ?_) (fun σ' H' _ S5 => ?_))
      · have hmem := List.mem_of_getElem? hx
        have hlh := ln here hmem
        have z1 : p.1.length ≤ 100000 := by
          rw [hp']
          exact Nat.le_trans (foldl_take_mono (layerStep h ships lat) (fun p => p.1.length) (layerStep_mono1 h ships lat) _ _ i') sz.1
        have z2 : (layerStep h ships lat p here).2.length ≤ 100000 := by
          have e : layerStep h ships lat p here = ((gIter h ships lat st n).2.take (i' + 1)).foldl (layerStep h ships lat) ((gIter h ships lat st n).1, []) := by
            rw [List.take_add_one, hx, List.foldl_append, ← hp']
            rfl
          rw [e]
          exact Nat.le_trans (foldl_take_mono (layerStep h ships lat) (fun p => p.2.length) (layerStep_mono2 h ships lat) _ _ (i' + 1)) sz.2
        refine ⟨_, bd_name 7 sc_grown.nd, fun σ6 H6 S6 => ?_⟩
        refine go_cons (go_setD 4 S6 (u_9 hu) (ev_cl f1 hr (ea_cons (ev_var 0) (ea_cons (ev_var 1) (ea_cons (ev_var 7) (ea_one (ev_var 3) rfl)))) ⟨h, ships, here, lat, rfl, ⟨hb, hn, hlh, hlat⟩, rfl⟩) (ks := keyT here) (ev_cast (ev_var 7) (keyS_data here).symm) (keyS_depth here) rfl ⟨_, rfl⟩ (by simp) (by rw [dic_length]; exact line_100k z1) fun H7 S7 => ?_)
        rw [dput_dic] at S7
        refine go_one (go_fold [8, 9, 10] (waysIn h ships here lat) encW (fun l (w : Way) => aput l w.2.2 true) p.2 (fun l => [.py (encH h), .py (encSs ships), .py (encSt st), .py (encLat lat), .md q1 (dic encWs (aput p.1 here (waysIn h ships here lat))), .py (.list ((gIter h ships lat st n).2.map encSt)), .md q2 (dic PyData.bool l), .py (encSt here), .any, .any, .any]) (fun _ _ => True) S7 PassesOwn.never rfl
          (it_list (ev_mdget 4 (u_9 hu) rfl ⟨_, rfl⟩ (ev_cast (ev_var 7) (keyS_data here).symm) (keyS_depth here) (by rw [dget_dic, aget_aput_self]; rfl))) (fun σ H S => S) trivial (fun φ2 j wy l σ' H' hy hl' _ S8 => ?_) (fun σ' H' _ S8 => ?_))
        · have z3 : l.length ≤ 100000 := by
            rw [hl']
            exact Nat.le_trans (foldl_take_mono (fun l (w : Way) => aput l w.2.2 true) List.length (fun b x => (aput_len _ _ _).1) _ _ j) z2
          refine ⟨_, bd_tup rfl (bds_cons (bd_name 8 sc_grown.nd) (bds_cons (bd_name 9 sc_grown.nd) (bds_cons (bd_name 10 sc_grown.nd) bds_nil))), fun σ9 H9 S9 => ?_⟩
          refine go_one (go_setD 6 S9 (u_9 hu) ev_bool (ks := keyT wy.2.2) (ev_cast (ev_var 10) (keyS_data wy.2.2).symm) (keyS_depth wy.2.2) rfl ⟨_, rfl⟩ (by simp) (by rw [dic_length]; exact line_100k z3) fun H10 S10 => ⟨trivial, ?_⟩)
          rw [dput_dic] at S10
          exact ((S10.forget 8).forget 9).forget 10
        · refine ⟨trivial, ?_⟩
          exact S8.forget 7
      · refine go_one (go_set 5 S5 (ev_mlistX 6 rfl B.list rfl) (fun σ6 H6 S6 => ⟨20 - (n + 1), by omega, ?_⟩) sc_grown.nd)
        have S7 := (seal_md 6 S6 rfl).forget 6
        rw [keyD_dic] at S7
        have e : 20 - (20 - (n + 1)) = n + 1 := by omega
        rw [e, gs]
        exact S7
    · have hz : (gIter h ships lat st (20 - i)).2 = [] := by
        have : ((gIter h ships lat st (20 - i)).2.map encSt).isEmpty = true := by simpa using hk
        rw [List.isEmpty_iff, List.map_eq_nil_iff] at this
        exact this
      have same : ∀ m, gIter h ships lat st (20 - i + m) = ((gIter h ships lat st (20 - i)).1, []) := by
        intro m
        induction m with
        | zero => exact Prod.ext rfl hz
        | succ m ih =>
          show growStep h ships lat (gIter h ships lat st (20 - i + m)) = _
          rw [ih]
          rfl
      have e : grown h ships st lat = (gIter h ships lat st (20 - i)).1 := by
        unfold grown
        have := same (20 - (20 - i))
        rw [show 20 - i + (20 - (20 - i)) = 20 by omega] at this
        rw [this]
      have S4 := seal_md 4 S3 rfl
      rw [← e] at S4
      exact go_one (go_ret S4 (ev_var 4) fun v H1 S1 r => S1.done r q)
end
end Tk
end

section
namespace Tk
open PySem
/-! ### the rests of what was found -/
def restStep (found : Found) (rests : Rests) (s : Stt) : Rests := aput rests s (restOf1 found rests s)
theorem restsIn_eq (found : Found) : restsIn found = (akeys found).reverse.foldl (restStep found) [] := rfl
/-- the states behind s come before it, from the end -/
theorem FoOk.before {found : Found} (F : FoOk found) {i : Nat} {s : Stt} {ws : List Way} (hs : (akeys found).reverse[i]? = some s) (hw : aget found s = some ws) {w : Way} (hm : w ∈ ws) : w.2.2 ∈ (akeys found).reverse.take i := by
  have hi : i < (akeys found).length := by
    have := (List.getElem?_eq_some_iff.mp hs).1
    rw [List.length_reverse] at this
    exact this
  rw [List.getElem?_reverse hi] at hs
  have hmem := aget_mem hw
  obtain ⟨k, hk⟩ := List.mem_iff_getElem?.mp hmem
  have hk' : (akeys found)[k]? = some s := by rw [List.getElem?_map, hk]; rfl
  have ek : k = (akeys found).length - 1 - i := (List.getElem?_inj (List.getElem?_eq_some_iff.mp hk').1 F.nd).mp (hk'.trans hs.symm)
  obtain ⟨j, hj, hjk⟩ := F.od k s ws hk w hm
  have hjl : j < (akeys found).length := (List.getElem?_eq_some_iff.mp hjk).1
  rw [List.mem_take_iff_getElem]
  refine ⟨(akeys found).length - 1 - j, ?_, ?_⟩
  · rw [List.length_reverse]; omega
  · rw [List.getElem_reverse]
    have e : (akeys found).length - 1 - ((akeys found).length - 1 - j) = j := by omega
    have := (List.getElem?_eq_some_iff.mp hjk).2
    simp only [e]
    exact this
theorem restOf1_congr {found : Found} {r r' : Rests} {s : Stt} (h : ∀ ws, aget found s = some ws → ∀ w ∈ ws, aget r w.2.2 = aget r' w.2.2) : restOf1 found r s = restOf1 found r' s := by
  unfold restOf1
  split
  · rfl
  · congr 1
    cases q : aget found s with
    | none => rfl
    | some ws =>
      apply List.map_congr_left
      intro w hw
      rw [h ws q w hw]
theorem rests_fold {found : Found} (F : FoOk found) : ∀ i, i ≤ (akeys found).length → akeys (((akeys found).reverse.take i).foldl (restStep found) []) = (akeys found).reverse.take i ∧
    ∀ t ∈ (akeys found).reverse.take i, aget (((akeys found).reverse.take i).foldl (restStep found) []) t = some (restOf1 found (((akeys found).reverse.take i).foldl (restStep found) []) t)
  | 0, _ => ⟨rfl, fun t h => absurd h (by simp)⟩
  | i + 1, hi => by
    obtain ⟨h1, h2⟩ := rests_fold F i (by omega)
    have hlt : i < (akeys found).reverse.length := by rw [List.length_reverse]; omega
    have hs : (akeys found).reverse[i]? = some (akeys found).reverse[i] := List.getElem?_eq_getElem hlt
    generalize (akeys found).reverse[i] = s at hs
    have ht : (akeys found).reverse.take (i + 1) = (akeys found).reverse.take i ++ [s] := by rw [List.take_add_one, hs]; rfl
    rw [ht, List.foldl_append]
    generalize (((akeys found).reverse.take i).foldl (restStep found) []) = r at h1 h2
    show akeys (restStep found r s) = _ ∧ ∀ t ∈ _, aget (restStep found r s) t = some (restOf1 found (restStep found r s) t)
    have hnew : s ∉ (akeys found).reverse.take i := fun hm => by
      obtain ⟨j, hj, e⟩ := List.mem_take_iff_getElem.mp hm
      have hj' : (akeys found).reverse[j]? = some s := by rw [List.getElem?_eq_getElem (by omega), e]
      have := (List.getElem?_inj (by omega) ((List.reverse_perm _).nodup_iff.mpr F.nd)).mp (hj'.trans hs.symm)
      omega
    have keep : ∀ t ∈ (akeys found).reverse.take i ++ [s], ∀ ws, aget found t = some ws → ∀ w ∈ ws, w.2.2 ≠ s := by
      intro t htm ws hw w hm
      rcases List.mem_append.mp htm with htm | htm
      · obtain ⟨j, hj, e⟩ := List.mem_take_iff_getElem.mp htm
        have hj' : (akeys found).reverse[j]? = some t := by rw [List.getElem?_eq_getElem (by omega), e]
        have := F.before hj' hw hm
        intro z
        rw [z] at this
        exact hnew (List.mem_of_mem_take (by rw [show (akeys found).reverse.take j = ((akeys found).reverse.take i).take j by rw [List.take_take, Nat.min_eq_left (by omega)]] at this; exact this))
      · rw [List.mem_singleton.mp htm] at hw
        have := F.before hs hw hm
        exact fun z => hnew (z ▸ this)
    refine ⟨?_, fun t htm => ?_⟩
    · unfold restStep
      rw [akeys_aput, h1, if_neg hnew]
    · have ec : restOf1 found (restStep found r s) t = restOf1 found r t := restOf1_congr fun ws hw w hm => aget_aput_ne _ _ (keep t htm ws hw w hm)
      rw [ec]
      by_cases z : t = s
      · subst z
        exact aget_aput_self _ _ _
      · unfold restStep
        rw [aget_aput_ne _ _ z]
        rcases List.mem_append.mp htm with htm | htm
        · exact h2 t htm
        · exact absurd (List.mem_singleton.mp htm) z
theorem restsIn_keys {found : Found} (F : FoOk found) : akeys (restsIn found) = (akeys found).reverse := by
  have := (rests_fold F (akeys found).length (Nat.le_refl _)).1
  rw [← List.length_reverse, List.take_length] at this
  exact this
theorem restsIn_at {found : Found} (F : FoOk found) {s : Stt} (h : s ∈ akeys found) : aget (restsIn found) s = some (restOf1 found (restsIn found) s) := by
  have := (rests_fold F (akeys found).length (Nat.le_refl _)).2
  rw [← List.length_reverse, List.take_length] at this
  exact this s (List.mem_reverse.mpr h)
theorem FoOk.behind {found : Found} (F : FoOk found) {s : Stt} {ws : List Way} (hw : aget found s = some ws) {w : Way} (hm : w ∈ ws) : w.2.2 ∈ akeys found := by
  obtain ⟨k, hk⟩ := List.mem_iff_getElem?.mp (aget_mem hw)
  obtain ⟨j, _, hjk⟩ := F.od k s ws hk w hm
  exact List.mem_of_getElem? hjk
end Tk
end

section
namespace Tk
open L2 PyProof.Rows PySem PySem.Spec
def R_least : List Dt → Dt → Prop := fun ds r => ∃ xs : List (Option Int), ds = [.py (.list (xs.map encO))] ∧ xs.length ≤ 1000 ∧ r = .py (encO (least xs))
def R_added : List Dt → Dt → Prop := fun ds r => ∃ (c : Int) (x : Option Int), ds = [.py (.int c), .py (encO x)] ∧ r = .py (encO (added c x))
def R_rests_in : List Dt → Dt → Prop := fun ds r => ∃ found : Found, ds = [.dic (dic encWs found)] ∧ FoOk found ∧ r = .dic (dic encO (restsIn found))
def R_rest_of : List Dt → Dt → Prop := fun ds r => ∃ (h : Hb) (ships : List Sh) (s : Stt) (lat : Lat), ds = [.py (encH h), .py (encSs ships), .py (encSt s), .py (encLat lat)] ∧ GOk h ships s lat ∧ r = .py (encO (restOf h ships s lat))
def R_least_cost : List Dt → Dt → Prop := fun ds r => ∃ (h : Hb) (ships : List Sh) (lat : Lat), ds = [.py (encH h), .py (encSs ships), .py (encLat lat)] ∧ GOk h ships (beginning ships) lat ∧ r = .py (encO (leastCost h ships lat))
abbrev s_least : Stmt := topS 17
abbrev N_least : List Str := ["numbers", "some", "one"]
theorem sc_least : FnScope N_least ["numbers"] (defScope s_least) := ⟨rfl, rfl, rfl, by decide +kernel, rfl, by decide +kernel, by decide +kernel⟩
abbrev s_added : Stmt := topS 18
abbrev N_added : List Str := ["cost", "rest"]
theorem sc_added : FnScope N_added ["cost", "rest"] (defScope s_added) := ⟨rfl, rfl, rfl, by decide +kernel, rfl, by decide +kernel, by decide +kernel⟩
abbrev s_rests_in : Stmt := topS 19
abbrev N_rests_in : List Str := ["found", "rests", "state", "moves", "cost", "behind"]
theorem sc_rests_in : FnScope N_rests_in ["found"] (defScope s_rests_in) := ⟨rfl, rfl, rfl, by decide +kernel, rfl, by decide +kernel, by decide +kernel⟩
abbrev s_rest_of : Stmt := topS 20
abbrev N_rest_of : List Str := ["harbour", "ships", "state", "latest"]
theorem sc_rest_of : FnScope N_rest_of ["harbour", "ships", "state", "latest"] (defScope s_rest_of) := ⟨rfl, rfl, rfl, by decide +kernel, rfl, by decide +kernel, by decide +kernel⟩
abbrev s_least_cost : Stmt := topS 22
abbrev N_least_cost : List Str := ["harbour", "ships", "latest"]
theorem sc_least_cost : FnScope N_least_cost ["harbour", "ships", "latest"] (defScope s_least_cost) := ⟨rfl, rfl, rfl, by decide +kernel, rfl, by decide +kernel, by decide +kernel⟩
theorem noneB_encO (x : Option Int) : noneB (encO x) = !x.isSome := by cases x <;> rfl
theorem encO_filter (xs : List (Option Int)) : ((xs.filter fun x => x.isSome).map encO) = (xs.filterMap id).map PyData.int := by
  induction xs with
  | nil => rfl
  | cons x xs ih =>
    cases x with
    | none => simpa using ih
    | some i => simp [encO] at ih ⊢; exact ih
section
variable {X : Cx} {C : Cc} {L : List Addr} {ρ ρ1 ρ2 ρ3 : List Slot} {e a b c tg iter : Expr} {es : List Expr} {d d1 d2 : PyData} {pos p : Pos} {D : Ends} {σ : L2.St} {H : Hp} {body : List Stmt}
theorem it_revX {α : Type} {enc : α → PyData} {dd : List (Stt × α)} {p p2 pos2 : Pos} (hc : X.calm = true) (hm : X.mg "reversed" = none) (hm2 : X.mg "list" = none) (h : EvE X C L ρ e (.dic (dic enc dd)) ρ1) (hg : Gl X "reversed" := by rfl) (hg2 : Gl X "list" := by rfl)
    (hs : starEach [.Call (.Name "list" p2) [e] [] pos2] X.env = [(false, eval (.Call (.Name "list" p2) [e] [] pos2) X.env)] := by rfl) (hst : starEach [e] X.env = (false, eval e X.env) :: starEach [] X.env := by rfl) (hpl : (backTo pos2 (starEach [] X.env)).any (·.1) = false := by rfl) :
    IterS X C L ρ tg (.Call (.Name "reversed" p) [.Call (.Name "list" p2) [e] [] pos2] [] pos) ((akeys dd).reverse.map encSt) ρ1 := by
  rw [List.map_reverse, ← keyD_dic (enc := enc)]
  exact it_rev hg hm (ev_listX hc hm2 h hg2 hst hpl) hs
end
theorem getD_get {α : Type} {o : Option α} {a b : α} (h : o = some a) : o.getD b = a := by rw [h]; rfl
theorem some_get {α : Type} {o : Option α} {b : α} (h : o.isSome = true) : o = some (o.getD b) := by
  cases o with
  | none => cases h
  | some a => rfl
section
variable {w : World} {P : Program} {base : Heap} {mg : Str → Option Value} {K : PySem.W.Frag}
theorem ok_least {f : Addr} {fd : FuncData} (F : Fun K "least" "least" s_least f fd) (B : Bn mg) : FnOk P w K mg base CX0 1 f fd ["numbers"] (SpR K P w R_least) := by
  refine fn_ok F sc_least (fun ds r h => ?_) (by decide) (fun cdv A outer s H M vs ds r Q E hr hR S q => ?_)
  · obtain ⟨xs, rfl, _⟩ := h
    rfl
  · obtain ⟨xs, rfl, hx, rfl⟩ := hR
    refine go_cons (go_setLc 1 S (lc_P (own := [("one", 2)]) xs encO (fun x => x.isSome) encO (it_list (ev_var 0)) (blkOk_by (sc := defScope s_least) (N := N_least) (by decide +kernel)) (own_lt rfl) (small_line hx) rfl fun φ q ds x hx => ?_) (fun σ1 H1 S1 => ?_) rfl sc_least.nd (sw_true rfl rfl rfl rfl))
    · exact ⟨[2], _, by decide, rfl, fun s H0 Ca cl fp => bd_name 2 sc_least.nd, fun s H0 Ca cl fp => ets_one (et_notN (ev_var 2) (by rw [noneB_encO, Bool.not_not])), fun _ s H0 Ca cl fp => ev_var 2⟩
    · rw [encO_filter] at S1
      refine go_one (go_ret S1 (dt := .py (encO (least xs))) (ev_ifS (k := !((xs.filterMap id).map PyData.int).isEmpty) (et_list (ev_var 1)) (fun hk => ?_) (fun hk => ?_)) fun v H1 S1 r => S1.done r q)
      · cases hm : xs.filterMap id with
        | nil => rw [hm] at hk; cases hk
        | cons y ys =>
          have e : least xs = some (minI (y :: ys)) := by unfold least; rw [hm]
          rw [e]
          exact ev_minL (ns := y :: ys) rfl B.min (ev_var 1) (Nat.succ_pos _)
      · cases hm : xs.filterMap id with
        | nil =>
          have e : least xs = none := by unfold least; rw [hm]
          rw [e]
          exact ev_none
        | cons y ys => rw [hm] at hk; cases hk
theorem ok_added {f : Addr} {fd : FuncData} (F : Fun K "added" "added" s_added f fd) (B : Bn mg) : FnOk P w K mg base CX0 1 f fd ["cost", "rest"] (SpR K P w R_added) := by
  refine fn_ok F sc_added (fun ds r h => ?_) (by decide) (fun cdv A outer s H M vs ds r Q E hr hR S q => ?_)
  · obtain ⟨c, x, rfl, _⟩ := h
    rfl
  · obtain ⟨c, x, rfl, rfl⟩ := hR
    refine go_one (go_ret S (dt := .py (encO (added c x))) (ev_ifS (k := !x.isSome) (et_isN (ev_var 1) (noneB_encO x)) (fun hk => ?_) (fun hk => ?_)) fun v H1 S1 r => S1.done r q)
    · cases x with
      | none => exact ev_none
      | some i => cases hk
    · cases x with
      | none => cases hk
      | some i => exact ev_add (ev_var 0) (ev_var 1)
theorem ok_rests_in {f : Addr} {fd : FuncData} (F : Fun K "rests_in" "rests_in" s_rests_in f fd) (B : Bn mg) (f1 : Fd P w K mg base 1 "is_end" ["state"] R_is_end) (f2 : Fd P w K mg base 1 "least" ["numbers"] R_least) (f3 : Fd P w K mg base 1 "added" ["cost", "rest"] R_added) : FnOk P w K mg base CX0 2 f fd ["found"] (SpR K P w R_rests_in) := by
  refine fn_ok F sc_rests_in (fun ds r h => ?_) (by decide) (fun cdv A outer s H M vs ds r Q E hr hR S q => ?_)
  · obtain ⟨found, rfl, _⟩ := h
    rfl
  · obtain ⟨found, rfl, Fo, rfl⟩ := hR
    have hu := room_u hr
    refine go_cons (go_newD 1 S (fun q1 σ1 H1 S1 => ?_) sc_rests_in.nd)
    refine go_cons (go_fold [2] (akeys found).reverse encSt (restStep found) [] (fun b => [.val (.dic (dic encWs found)), .md q1 (dic encO b), .any, .any, .any, .any]) (fun i b => b.length ≤ i) S1 PassesOwn.never rfl (it_revX rfl B.reversed B.list (ev_var 0)) (fun σ H S => S) (Nat.le_refl _) (fun φ i x b σ' H' hx hb' hP S4 => ?_) (fun σ' H' _ S4 => ?_))
    · have hmem : x ∈ akeys found := List.mem_reverse.mp (List.mem_of_getElem? hx)
      have hi : i < found.length := by
        have := (List.getElem?_eq_some_iff.mp hx).1
        rw [List.length_reverse, List.length_map] at this
        exact this
      have hkeys : akeys b = (akeys found).reverse.take i := by
        rw [hb']
        exact (rests_fold Fo i (by rw [List.length_map]; omega)).1
      obtain ⟨ws, hws⟩ : ∃ ws, aget found x = some ws := Option.isSome_iff_exists.mp (aget_isSome.mpr hmem)
      have l1 : x.2.length ≤ 2 := (Fo.ln _ (aget_mem hws)).1
      have l2 : ws.length ≤ 1000 := (Fo.ln _ (aget_mem hws)).2
      have sz := Fo.sz
      refine ⟨_, bd_name 2 sc_rests_in.nd, fun σ5 H5 S5 => ?_⟩
      refine go_one (go_if S5 (et_val (ev_cl f1 hr (ea_one (ev_var 2) rfl) ⟨x, rfl, by omega, rfl⟩)) (fun hk H6 S6 => ?_) fun hk H6 S6 => ?_)
      · have e : restOf1 found b x = some 0 := by unfold restOf1; rw [if_pos hk]
        refine go_one (go_setD 1 S6 (u_9 hu) (d := encO (some 0)) ev_int (ks := keyT x) (ev_cast (ev_var 2) (keyS_data x).symm) (keyS_depth x) rfl ⟨_, rfl⟩ (by simp) (by rw [dic_length]; exact line_100k (by omega)) fun H7 S7 => ⟨?_, ?_⟩)
        · exact Nat.le_trans (aput_len _ _ _).2 (by omega)
        · rw [dput_dic, ← e] at S7
          exact S7.forget 2
      · have e : restOf1 found b x = least (ws.map fun w => added w.2.1 ((aget b w.2.2).getD none)) := by unfold restOf1; rw [if_neg (by rw [hk]; exact Bool.false_ne_true), hws]; rfl
        refine go_one (go_setD 1 S6 (u_9 hu) (ev_cl f2 hr (ea_one (ev_cast (ev_F (ev_lcP (own := [("moves", 3), ("cost", 4), ("behind", 5)]) ws encW (fun _ => true) (fun w => encO (added w.2.1 ((aget b w.2.2).getD none))) rfl sc_rests_in.nd (it_list (ev_dget (u_9 hu) (ev_var 0) (ev_cast (ev_var 2) (keyS_data x).symm) (keyS_depth x) (by rw [dget_dic, hws]; rfl))) (blkOk_by (sc := defScope s_rests_in) (N := N_rests_in) (by decide +kernel)) (own_lt rfl) (small_line l2) rfl fun φ q ds y hy => ?_)) ?_) rfl)
          ⟨ws.map fun w => added w.2.1 ((aget b w.2.2).getD none), rfl, by rw [List.length_map]; exact l2, rfl⟩) (ks := keyT x) (ev_cast (ev_var 2) (keyS_data x).symm) (keyS_depth x) rfl ⟨_, rfl⟩ (by simp) (by rw [dic_length]; exact line_100k (by omega)) fun H7 S7 => ⟨?_, ?_⟩)
        · refine ⟨[3, 4, 5], _, by decide, rfl, fun s H0 Ca cl fp => bd_tup rfl (bds_cons (bd_name 3 sc_rests_in.nd) (bds_cons (bd_name 4 sc_rests_in.nd) (bds_cons (bd_name 5 sc_rests_in.nd) bds_nil))), fun s H0 Ca cl fp => ets_nil, fun _ s H0 Ca cl fp => ?_⟩
          have hbh : (aget b y.2.2).isSome = true := aget_isSome.mpr (by rw [hkeys]; exact Fo.before hx hws hy)
          exact ev_cl f3 hr (ea_cons (ev_var 4) (ea_one (ev_mdget 1 (u_9 hu) rfl ⟨_, rfl⟩ (ev_cast (ev_var 5) (keyS_data y.2.2).symm) (keyS_depth y.2.2) (by rw [dget_dic, some_get (b := none) hbh]; rfl)) rfl)) ⟨y.2.1, (aget b y.2.2).getD none, rfl, rfl⟩
        · rw [List.filter_eq_self.mpr (fun _ _ => rfl), List.map_map]
          rfl
        · exact Nat.le_trans (aput_len _ _ _).2 (by omega)
        · rw [dput_dic, ← e] at S7
          exact S7.forget 2
    · have S5 := seal_md 1 S4 rfl
      exact go_one (go_ret S5 (ev_var 1) fun v H1 S1 r => S1.done r q)
theorem ok_rest_of {f : Addr} {fd : FuncData} (F : Fun K "rest_of" "rest_of" s_rest_of f fd) (B : Bn mg) (f1 : Fd P w K mg base 5 "grown" ["harbour", "ships", "state", "latest"] R_grown) (f2 : Fd P w K mg base 2 "rests_in" ["found"] R_rests_in) : FnOk P w K mg base CX0 6 f fd ["harbour", "ships", "state", "latest"] (SpR K P w R_rest_of) := by
  refine fn_ok F sc_rest_of (fun ds r h => ?_) (by decide) (fun cdv A outer s H M vs ds r Q E hr hR S q => ?_)
  · obtain ⟨h, ships, st, lat, rfl, _⟩ := h
    rfl
  · obtain ⟨h, ships, st, lat, rfl, G, rfl⟩ := hR
    have hu := room_u hr
    have e := restsIn_at G.fo G.mem
    refine go_one (go_ret S (ev_dget (u_9 hu) (ev_cl f2 hr (ea_one (ev_cl f1 hr (ea_cons (ev_var 0) (ea_cons (ev_var 1) (ea_cons (ev_var 2) (ea_one (ev_var 3) rfl)))) ⟨h, ships, st, lat, rfl, G, rfl⟩) rfl) ⟨_, rfl, G.fo, rfl⟩) (ev_cast (ev_var 2) (keyS_data st).symm) (keyS_depth st) (by rw [dget_dic, e]; show some (encO _) = some (encO (restOf h ships st lat)); unfold restOf; rw [e]; rfl)) fun v H1 S1 r => S1.done r q)
theorem ok_least_cost {f : Addr} {fd : FuncData} (F : Fun K "least_cost" "least_cost" s_least_cost f fd) (B : Bn mg) (f1 : FdK P w K mg base 6 "rest_of" ["harbour", "ships", "state", "latest"] R_rest_of) (f2 : Fd P w K mg base 1 "beginning" ["ships"] R_beginning) : FnOk P w K mg base CX0 7 f fd ["harbour", "ships", "latest"] (SpR K P w R_least_cost) := by
  refine fn_ok F sc_least_cost (fun ds r h => ?_) (by decide) (fun cdv A outer s H M vs ds r Q E hr hR S q => ?_)
  · obtain ⟨h, ships, lat, rfl, _⟩ := h
    rfl
  · obtain ⟨h, ships, lat, rfl, G, rfl⟩ := hR
    have hn := G.st.2.1
    exact go_one (go_ret S (ev_clK f1 hr (ea_cons (ev_var 0) (ea_cons (ev_var 1) (ea_one (ev_cl f2 hr (ea_one (ev_var 1) rfl) ⟨ships, rfl, by omega, rfl⟩) rfl))) (ev_var 2) ⟨h, ships, _, lat, rfl, G, rfl⟩) fun v H1 S1 r => S1.done r q)
end
end Tk
end

section
namespace Tk
open PySem
theorem minI_mem {ns : List Int} (h : ns ≠ []) : minI ns ∈ ns := by
  cases ns with
  | nil => exact absurd rfl h
  | cons n ns =>
    rcases foldl_min_mem (n :: ns) n with e | e
    · show (n :: ns).foldl min n ∈ _
      rw [e]; exact List.mem_cons_self
    · exact e
theorem minI_le {ns : List Int} {y : Int} (h : y ∈ ns) : minI ns ≤ y := by
  cases ns with
  | nil => exact absurd h List.not_mem_nil
  | cons n ns => exact (foldl_min_le (n :: ns) n).2 y h
theorem least_some {xs : List (Option Int)} {r : Int} (h : least xs = some r) : some r ∈ xs ∧ ∀ y, some y ∈ xs → r ≤ y := by
  unfold least at h
  split at h
  · cases h
  · rename_i l hl
    have e := Option.some.inj h
    have hm : r ∈ xs.filterMap id := by rw [← e]; exact minI_mem (fun z => hl z)
    obtain ⟨a, ha, hb⟩ := List.mem_filterMap.mp hm
    refine ⟨by rw [← (show a = some r from hb)]; exact ha, fun y hy => ?_⟩
    rw [← e]
    exact minI_le (List.mem_filterMap.mpr ⟨some y, hy, rfl⟩)
theorem least_none {xs : List (Option Int)} : least xs = none ↔ ∀ y, some y ∉ xs := by
  unfold least
  constructor
  · intro h y hy
    split at h
    · rename_i hl
      have : y ∈ xs.filterMap id := List.mem_filterMap.mpr ⟨some y, hy, rfl⟩
      rw [hl] at this
      exact List.not_mem_nil this
    · cases h
  · intro h
    split
    · rfl
    · rename_i l hl
      exfalso
      apply hl
      rw [List.filterMap_eq_nil_iff]
      intro a ha
      cases a with
      | none => rfl
      | some y => exact absurd ha (h y)
theorem waysOn_mem {found : Found} {rests : Rests} {s : Stt} {w : Way} (h : w ∈ waysOn found rests s) : ∃ r ws, (aget rests s).getD none = some r ∧ aget found s = some ws ∧ w ∈ ws ∧ added w.2.1 ((aget rests w.2.2).getD none) = some r := by
  unfold waysOn at h
  split at h
  · exact absurd h List.not_mem_nil
  · rename_i r hr
    cases q : aget found s with
    | none => rw [q] at h; exact absurd h List.not_mem_nil
    | some ws =>
      rw [q] at h
      obtain ⟨h1, h2⟩ := List.mem_filter.mp h
      exact ⟨r, ws, hr, rfl, h1, of_decide_eq_true h2⟩
theorem waysOn_ne {found : Found} (F : FoOk found) {s : Stt} (hs : s ∈ akeys found) (he : isEnd s = false) (hr : ((aget (restsIn found) s).getD none).isSome = true) : waysOn found (restsIn found) s ≠ [] := by
  obtain ⟨r, hr⟩ := Option.isSome_iff_exists.mp hr
  obtain ⟨ws, hws⟩ : ∃ ws, aget found s = some ws := Option.isSome_iff_exists.mp (aget_isSome.mpr hs)
  have h1 := restsIn_at F hs
  have h2 : restOf1 found (restsIn found) s = some r := by
    rw [h1] at hr
    exact hr
  have h3 : restOf1 found (restsIn found) s = least (ws.map fun w => added w.2.1 ((aget (restsIn found) w.2.2).getD none)) := by
    unfold restOf1
    rw [if_neg (by rw [he]; exact Bool.false_ne_true), hws]
    rfl
  rw [h3] at h2
  obtain ⟨w, hw, e⟩ := List.mem_map.mp (least_some h2).1
  intro z
  have : w ∈ waysOn found (restsIn found) s := by
    unfold waysOn
    rw [hr, hws]
    exact List.mem_filter.mpr ⟨hw, decide_eq_true e⟩
  rw [z] at this
  exact List.not_mem_nil this
theorem added_some {c r : Int} {x : Option Int} (h : added c x = some r) : ∃ y, x = some y ∧ r = c + y := by
  cases x with
  | none => cases h
  | some y => exact ⟨y, rfl, (Option.some.inj h).symm⟩
/-- what the rows hold after i states -/
def RowsOk (ships : List Sh) (found : Found) (i : Nat) (rows : Rows) : Prop :=
  rows.length ≤ i ∧ (∀ t ∈ (akeys found).reverse.take i, ((aget (restsIn found) t).getD none).isSome = true → (aget rows t).isSome = true) ∧ ∀ e ∈ rows, e.2.length = ships.length ∧ ∀ t ∈ e.2, t.length ≤ 4 * i
theorem putAhead_ok {hour : Int} {n m : Nat} : ∀ {mv : Mv} {row : Row}, row.length = n → (∀ t ∈ row, t.length ≤ m) → (putAhead hour mv row).length = n ∧ ∀ t ∈ putAhead hour mv row, t.length ≤ m + 2 * mv.length
  | [], row, h1, h2 => ⟨h1, fun t ht => by have := h2 t ht; simp; omega⟩
  | x :: mv, row, h1, h2 => by
    have hl : ∀ t ∈ row.set x.1.toNat ((if x.2 = -1 then [hour] else [hour, x.2]) ++ row.getD x.1.toNat []), t.length ≤ m + 2 := by
      intro t ht
      rcases List.mem_or_eq_of_mem_set ht with ht | ht
      · have := h2 t ht; omega
      · subst ht
        rw [List.length_append]
        have e1 : (if x.2 = -1 then [hour] else [hour, x.2]).length ≤ 2 := by split <;> simp
        have e2 : (row.getD x.1.toNat []).length ≤ m := by
          rw [(List.getD_eq_getElem?_getD)]
          cases q : row[x.1.toNat]? with
          | none => simp
          | some y => exact h2 y (List.mem_of_getElem? q)
        omega
    obtain ⟨k1, k2⟩ := putAhead_ok (hour := hour) (mv := mv) (row := row.set x.1.toNat ((if x.2 = -1 then [hour] else [hour, x.2]) ++ row.getD x.1.toNat [])) (n := n) (m := m + 2) (by rw [List.length_set]; exact h1) hl
    refine ⟨k1, fun t ht => ?_⟩
    have := k2 t ht
    rw [List.length_cons]
    omega
theorem minRow_mem (r : Row) (rs : List Row) : minRow r rs ∈ r :: rs := by
  unfold minRow
  have : ∀ (rs : List Row) (r : Row), rs.foldl (fun a y => if PySem.W.dataLt (encRow y) (encRow a) then y else a) r = r ∨ rs.foldl (fun a y => if PySem.W.dataLt (encRow y) (encRow a) then y else a) r ∈ rs := by
    intro rs
    induction rs with
    | nil => intro r; exact .inl rfl
    | cons x xs ih =>
      intro r
      rw [List.foldl_cons]
      rcases ih (if PySem.W.dataLt (encRow x) (encRow r) then x else r) with h | h
      · rw [h]
        split
        · exact .inr List.mem_cons_self
        · exact .inl rfl
      · exact .inr (List.mem_cons_of_mem _ h)
  rcases this rs r with h | h
  · rw [(h)]; exact List.mem_cons_self
  · exact List.mem_cons_of_mem _ h
theorem minRows_mem {rs : List Row} (h : rs ≠ []) : minRows rs ∈ rs := by
  cases rs with
  | nil => exact absurd rfl h
  | cons r rs => exact minRow_mem r rs
theorem mem_aput {α : Type} {d : List (Stt × α)} {s : Stt} {v : α} {e : Stt × α} (h : e ∈ aput d s v) : e ∈ d ∨ e = (s, v) := by
  unfold aput at h
  split at h
  · obtain ⟨x, hx, rfl⟩ := List.mem_map.mp h
    split
    · rename_i he
      exact .inr (by rw [he])
    · exact .inl hx
  · rcases List.mem_append.mp h with h|h
    · exact .inl h
    · exact Or.inr (List.mem_singleton.mp h)
end Tk
end

section
namespace Tk
open L2 PyProof.Rows PySem PySem.Spec
def R_ways_on : List Dt → Dt → Prop := fun ds r => ∃ (found : Found) (s : Stt), ds = [.dic (dic encWs found), .dic (dic encO (restsIn found)), .py (encSt s)] ∧ FoOk found ∧ s ∈ akeys found ∧ r = .py (encWs (waysOn found (restsIn found) s))
def R_put_ahead : List Dt → Dt → Prop := fun ds r => ∃ (hour : Int) (mv : Mv) (row : Row), ds = [.py (.int hour), .py (encMv mv), .py (encRow row)] ∧ mv.length ≤ 2 ∧ (∀ m ∈ mv, 0 ≤ m.1 ∧ m.1 < row.length) ∧ row.length ≤ 2 ∧ (∀ t ∈ row, t.length ≤ 1000000) ∧ r = .py (encRow (putAhead hour mv row))
def R_best_plan : List Dt → Dt → Prop := fun ds r => ∃ (h : Hb) (ships : List Sh) (lat : Lat), ds = [.py (encH h), .py (encSs ships), .py (encLat lat)] ∧ GOk h ships (beginning ships) lat ∧ r = .py (encPlan (bestPlan h ships lat))
def R_table_of : List Dt → Dt → Prop := fun ds r => ∃ (h : Hb) (ships : List Sh) (lat : Lat), ds = [.py (encH h), .py (encSs ships), .py (encLat lat)] ∧ GOk h ships (beginning ships) lat ∧ r = .py (.list ((tableOf h ships lat).map encT))
abbrev s_ways_on : Stmt := topS 21
abbrev N_ways_on : List Str := ["found", "rests", "state", "way"]
theorem sc_ways_on : FnScope N_ways_on ["found", "rests", "state"] (defScope s_ways_on) := ⟨rfl, rfl, rfl, by decide +kernel, rfl, by decide +kernel, by decide +kernel⟩
abbrev s_put_ahead : Stmt := topS 23
abbrev N_put_ahead : List Str := ["hour", "moves", "row", "found", "name", "berth"]
theorem sc_put_ahead : FnScope N_put_ahead ["hour", "moves", "row"] (defScope s_put_ahead) := ⟨rfl, rfl, rfl, by decide +kernel, rfl, by decide +kernel, by decide +kernel⟩
abbrev s_best_plan : Stmt := topS 24
abbrev N_best_plan : List Str := ["harbour", "ships", "latest", "found", "rests", "rows", "state", "ways", "ship", "moves", "cost", "behind"]
theorem sc_best_plan : FnScope N_best_plan ["harbour", "ships", "latest"] (defScope s_best_plan) := ⟨rfl, rfl, rfl, by decide +kernel, rfl, by decide +kernel, by decide +kernel⟩
abbrev s_table_of : Stmt := topS 25
abbrev N_table_of : List Str := ["harbour", "ships", "latest", "rests", "state"]
theorem sc_table_of : FnScope N_table_of ["harbour", "ships", "latest"] (defScope s_table_of) := ⟨rfl, rfl, rfl, by decide +kernel, rfl, by decide +kernel, by decide +kernel⟩
section
variable {X : Cx} {C : Cc} {L : List Addr} {ρ ρ1 ρ2 ρ3 : List Slot} {e a b c tg iter : Expr} {es : List Expr} {d d1 d2 : PyData} {pos p : Pos} {D : Ends} {σ : L2.St} {H : Hp} {body : List Stmt}
/-- name[ix], the list being one's own -/
theorem ev_mlix (i : Nat) {x : Str} {q : Addr} {ds : List PyData} {j : Nat} {z : Int} (hr : ρ1[i]? = some (.ml q ds)) (hr0 : ∃ ds0, ρ[i]? = some (.ml q ds0)) (hb : EvD X C L ρ b (.int z) ρ1) (hz : z = (j : Int)) (hx : ds[j]? = some d)
    (hi : X.N[i]? = some x := by rfl) (hv : Vis X.env.scope x := by first | exact Or.inl rfl | exact Or.inr (Or.inl rfl) | exact Or.inr (Or.inr rfl))
    (hd : (x == ("__debug__" : Str)) = false := by decide) (hcd : (x == ("__classdict__" : Str)) = false := by decide) (hp : PlainIx b := by exact fun _ _ => rfl) : EvD X C L ρ (.Subscript (.Name x p) b pos) d ρ1 := fun σ H S Q qq => by
  refine le_E (pe_ix ix_list (pe_var hi hv hd hcd) pe_tE hp) ?_
  obtain ⟨ds0, hr0⟩ := hr0
  obtain ⟨e1, m1, vs0, g1, a1⟩ := S.slots i _ hr0
  refine ⟨_, e1, ?_⟩
  refine hb σ H S _ fun y H2 S2 f2 r2 => ?_
  obtain ⟨e2, m2, vs, g2, a2⟩ := S2.slots i _ hr
  obtain ⟨v, hv, r⟩ := a2.at hx
  exact ⟨q, vs, z, v, rfl, dp_int r2, SqL.of g2, by rw [hz]; exact atI_nat hv, qq v H2 S2 f2 r⟩
end
theorem eqv_encO (a b : Option Int) : PyData.eqv (encO a) (encO b) = decide (a = b) := by
  cases a with
  | none =>
    cases b with
    | none => simp [encO, PyData.eqv]
    | some j => simp [encO, PyData.eqv]
  | some i =>
    cases b with
    | none => simp [encO, PyData.eqv]
    | some j =>
      show PyData.eqv (.int i) (.int j) = _
      rw [eqv_int]
      by_cases h : i = j <;> simp [h]
theorem depth_encO (a : Option Int) : (encO a).depth = 0 := by cases a <;> rfl
theorem alike_Tu : ∀ xs ys : List Int, PySem.W.alike (encTu xs) (encTu ys) = true := fun xs ys => by
  unfold encTu
  rw [PySem.W.alike]
  exact PySem.W.alike_ints xs ys
theorem alike_Row : ∀ xs ys : Row, PySem.W.alike (encRow xs) (encRow ys) = true := fun xs ys => by
  unfold encRow
  rw [PySem.W.alike]
  induction xs generalizing ys with
  | nil => simp [PySem.W.alikeAll]
  | cons x xs ih =>
    cases ys with
    | nil => simp [PySem.W.alikeAll]
    | cons y ys =>
      show PySem.W.alikeAll (encTu x :: xs.map encTu) (encTu y :: ys.map encTu) = true
      rw [PySem.W.alikeAll, alike_Tu, ih ys]
      rfl
theorem depth_Tu (t : List Int) : (encTu t).depth = 1 := by
  show PyData.depthAll (t.map .int) + 1 = 1
  rw [PySem.W.depth_ints]
theorem depth_Row (r : Row) : (encRow r).depth ≤ 2 := by
  have : ∀ xs : Row, PyData.depthAll (xs.map encTu) ≤ 1 := by
    intro xs
    induction xs with
    | nil => exact Nat.zero_le _
    | cons x xs ih =>
      show max (encTu x).depth (PyData.depthAll (xs.map encTu)) ≤ 1
      rw [depth_Tu]
      omega
  show PyData.depthAll (r.map encTu) + 1 ≤ 2
  have := this r
  omega
theorem depthAll_Rows (rs : List Row) : PyData.depthAll (rs.map encRow) ≤ 2 := by
  induction rs with
  | nil => exact Nat.zero_le _
  | cons x xs ih =>
    show max (encRow x).depth (PyData.depthAll (xs.map encRow)) ≤ 2
    have := depth_Row x
    omega
theorem minD_rows (r : Row) (rs : List Row) : PySem.W.minD (encRow r) (rs.map encRow) = encRow (minRow r rs) := by
  unfold PySem.W.minD minRow
  induction rs generalizing r with
  | nil => rfl
  | cons x xs ih =>
    rw [List.map_cons, List.foldl_cons, List.foldl_cons]
    rw [← ih]
    split <;> rfl
theorem alike_St (a b : Stt) : PySem.W.alike (encSt a) (encSt b) = true := by
  unfold encSt encPs
  rw [PySem.W.alike, PySem.W.alikeAll, PySem.W.alikeAll, PySem.W.alike, PySem.W.alike, PySem.W.alikeAll]
  rw [alikeAll_P]
  rfl
theorem depth_St (a : Stt) : (encSt a).depth ≤ 3 := by
  show max 0 (max (PyData.depthAll (a.2.map encP) + 1) 0) + 1 ≤ 3
  have := depthAll_P a.2
  omega
section
variable {w : World} {P : Program} {base : Heap} {mg : Str → Option Value} {K : PySem.W.Frag}
theorem ok_ways_on {f : Addr} {fd : FuncData} (F : Fun K "ways_on" "ways_on" s_ways_on f fd) (B : Bn mg) (f1 : Fd P w K mg base 1 "added" ["cost", "rest"] R_added) : FnOk P w K mg base CX0 2 f fd ["found", "rests", "state"] (SpR K P w R_ways_on) := by
  refine fn_ok F sc_ways_on (fun ds r h => ?_) (by decide) (fun cdv A outer s H M vs ds r Q E hr hR S q => ?_)
  · obtain ⟨found, st, rfl, _⟩ := h
    rfl
  · obtain ⟨found, st, rfl, Fo, hst, rfl⟩ := hR
    have hu := room_u hr
    have e := restsIn_at Fo hst
    obtain ⟨ws, hws⟩ : ∃ ws, aget found st = some ws := Option.isSome_iff_exists.mp (aget_isSome.mpr hst)
    have l2 : ws.length ≤ 1000 := (Fo.ln _ (aget_mem hws)).2
    cases hx : restOf1 found (restsIn found) st with
    | none =>
      rw [hx] at e
      refine go_cons (go_if (k := true) S (et_isN (ev_dget (d := encO none) (u_9 hu) (ev_var 1) (ev_cast (ev_var 2) (keyS_data st).symm) (keyS_depth st) (by rw [dget_dic, e]; rfl)) rfl) (fun hk H1 S1 => ?_) fun hk => Bool.noConfusion hk)
      have ew : waysOn found (restsIn found) st = [] := by unfold waysOn; rw [e]; rfl
      exact go_one (go_ret S1 (ev_cast (ev_lst (ds := []) ea_nil) (by rw [ew]; rfl)) fun v H1 S1 r => S1.done r q)
    | some rv =>
      rw [hx] at e
      refine go_cons (go_if (k := false) S (et_isN (ev_dget (d := encO (some rv)) (u_9 hu) (ev_var 1) (ev_cast (ev_var 2) (keyS_data st).symm) (keyS_depth st) (by rw [dget_dic, e]; rfl)) rfl) (fun hk => Bool.noConfusion hk) fun hk H1 S1 => ?_)
      have ew : waysOn found (restsIn found) st = ws.filter fun w => decide (added w.2.1 ((aget (restsIn found) w.2.2).getD none) = some rv) := by unfold waysOn; rw [e, hws]; rfl
      refine go_nil (go_one (go_ret S1 (ev_cast (ev_F (ev_lcP (own := [("way", 3)]) ws encW (fun w => decide (added w.2.1 ((aget (restsIn found) w.2.2).getD none) = some rv)) encW rfl sc_ways_on.nd (it_list (ev_dget (u_9 hu) (ev_var 0) (ev_cast (ev_var 2) (keyS_data st).symm) (keyS_depth st) (by rw [dget_dic, hws]; rfl))) (blkOk_by (sc := defScope s_ways_on) (N := N_ways_on) (by decide +kernel)) (own_lt rfl) (small_line l2) rfl fun φ q ds y hy => ?_)) (by rw [ew]; rfl)) fun v H1 S1 r => S1.done r q))
      have eb := restsIn_at Fo (Fo.behind hws hy)
      refine ⟨[3], _, by decide, rfl, fun s H0 Ca cl fp => bd_name 3 sc_ways_on.nd, fun s H0 Ca cl fp => ets_one (et_eq hu (ev_cl f1 hr (ea_cons (ev_ixT (j := 1) (ev_var 3) ev_int rfl rfl) (ea_one (ev_dget (d := encO ((aget (restsIn found) y.2.2).getD none)) (u_9 hu) (ev_var 1) (ev_cast (ev_ixT (j := 2) (ev_var 3) ev_int rfl rfl) (keyS_data y.2.2).symm) (keyS_depth y.2.2) (by rw [dget_dic, eb]; rfl)) rfl)) ⟨_, _, rfl, rfl⟩) (ev_dget (d := encO (some rv)) (u_9 hu) (ev_var 1) (ev_cast (ev_var 2) (keyS_data st).symm) (keyS_depth st) (by rw [dget_dic, e]; rfl)) (eqv_encO _ _) (by rw [depth_encO]; exact Nat.le_trans (Nat.min_le_left _ _) (Nat.zero_le _))), fun _ s H0 Ca cl fp => ev_var 3⟩
theorem ok_put_ahead {f : Addr} {fd : FuncData} (F : Fun K "put_ahead" "put_ahead" s_put_ahead f fd) (B : Bn mg) : FnOk P w K mg base CX0 1 f fd ["hour", "moves", "row"] (SpR K P w R_put_ahead) := by
  refine fn_ok F sc_put_ahead (fun ds r h => ?_) (by decide) (fun cdv A outer s H M vs ds r Q E hr hR S q => ?_)
  · obtain ⟨found, st, row, rfl, _⟩ := h
    rfl
  · obtain ⟨hour, mv, row, rfl, hmv, hm, hrow, ht, rfl⟩ := hR
    have hu := room_u hr
    refine go_cons (go_ownList 3 S B.list (ev_var 2) (fun q1 σ1 H1 S1 => ?_) sc_put_ahead.nd)
    refine go_cons (go_fold [4, 5] mv encP (fun l m => l.set m.1.toNat ((if m.2 = -1 then [hour] else [hour, m.2]) ++ l.getD m.1.toNat [])) row (fun b => [.py (.int hour), .py (encMv mv), .py (encRow row), .ml q1 (b.map encTu), .any, .any]) (fun i b => b.length = row.length ∧ ∀ t ∈ b, t.length ≤ 1000000 + 2 * i) S1 PassesOwn.never rfl (it_tup (ev_var 1)) (fun σ H S => S) ⟨rfl, fun t h => by have := ht t h; omega⟩ (fun φ i m b σ' H' hx hb' hP S4 => ?_) (fun σ' H' _ S4 => ?_))
    · obtain ⟨h0, h1⟩ := hm m (List.mem_of_getElem? hx)
      have hi : i < mv.length := (List.getElem?_eq_some_iff.mp hx).1
      have hb : m.1.toNat < b.length := by rw [hP.1]; omega
      have e1 : m.1 = (m.1.toNat : Nat) := by omega
      have hg : (b.map encTu)[m.1.toNat]? = some (encTu (b.getD m.1.toNat [])) := by
        rw [List.getElem?_map, List.getElem?_eq_getElem hb, List.getD_eq_getElem?_getD, List.getElem?_eq_getElem hb]
        rfl
      have hlt : (b.getD m.1.toNat []).length ≤ 1000000 + 2 * i := hP.2 _ (by
        rw [List.getD_eq_getElem?_getD,List.getElem?_eq_getElem hb]
        exact List.getElem_mem hb)
      refine ⟨_, bd_tup rfl (bds_cons (bd_name 4 sc_put_ahead.nd) (bds_cons (bd_name 5 sc_put_ahead.nd) bds_nil)), fun σ5 H5 S5 => ?_⟩
      refine go_one (go_setItem 3 S5 (he := ev_cast (d' := encTu ((if m.2 = -1 then [hour] else [hour, m.2]) ++ b.getD m.1.toNat [])) (ev_catT (xs := (if m.2 = -1 then [hour] else [hour, m.2]).map PyData.int) (ys := (b.getD m.1.toNat []).map PyData.int) (ev_ifS (et_eq hu (ev_var 5) (ev_neg ev_int) (eqv_int _ _)) (fun hk => ?_) (fun hk => ?_)) (ev_mlix 3 rfl ⟨_, rfl⟩ (ev_var 4) e1 hg) ?_) ?_) (hix := ev_var 4) (hz := e1) (hj := by rw [List.length_map]; exact hb) (k := fun H7 S7 => ?_))
      · rw [if_pos (of_decide_eq_true hk)]
        exact ev_tup (ds := [_]) (ea_one (ev_var 0) rfl)
      · rw [if_neg (of_decide_eq_false hk)]
        exact ev_tup (ds := [_, _]) (ea_cons (ev_var 0) (ea_one (ev_var 5) rfl))
      · rw [List.length_map, List.length_map]
        have : (if m.2 = -1 then [hour] else [hour, m.2]).length ≤ 2 := by split <;> simp
        exact Nat.le_trans (show _ ≤ 1000010 by omega) (by decide)
      · exact (show PyData.tuple _ = encTu ((if m.2 = -1 then [hour] else [hour, m.2]) ++ b.getD m.1.toNat []) by unfold encTu; rw [List.map_append])
      · refine ⟨⟨by rw [List.length_set]; exact hP.1, fun t h => ?_⟩, ?_⟩
        · rcases List.mem_or_eq_of_mem_set h with h | h
          · have := hP.2 t h; omega
          · subst h
            rw [List.length_append]
            have : (if m.2 = -1 then [hour] else [hour, m.2]).length ≤ 2 := by split <;> simp
            omega
        · have S8 := (S7.forget 4).forget 5
          rw [List.map_set]
          exact S8
    · have S5 := seal_ml 3 S4
      exact go_one (go_ret S5 (ev_tupleL B.tuple (ev_var 3)) fun v H1 S1 r => S1.done r q)
theorem ok_table_of {f : Addr} {fd : FuncData} (F : Fun K "table_of" "table_of" s_table_of f fd) (B : Bn mg) (f1 : Fd P w K mg base 5 "grown" ["harbour", "ships", "state", "latest"] R_grown) (f2 : Fd P w K mg base 2 "rests_in" ["found"] R_rests_in) (f3 : Fd P w K mg base 1 "beginning" ["ships"] R_beginning) : FnOk P w K mg base CX0 6 f fd ["harbour", "ships", "latest"] (SpR K P w R_table_of) := by
  refine fn_ok F sc_table_of (fun ds r h => ?_) (by decide) (fun cdv A outer s H M vs ds r Q E hr hR S q => ?_)
  · obtain ⟨h, ships, lat, rfl, _⟩ := h
    rfl
  · obtain ⟨h, ships, lat, rfl, G, rfl⟩ := hR
    have hu := room_u hr
    have hn := G.st.2.1
    refine go_cons (go_set 3 S (ev_cl f2 hr (ea_one (ev_cl f1 hr (ea_cons (ev_var 0) (ea_cons (ev_var 1) (ea_cons (ev_cl f3 hr (ea_one (ev_var 1) rfl) ⟨ships, rfl, by omega, rfl⟩) (ea_one (ev_var 2) rfl)))) ⟨h, ships, _, lat, rfl, G, rfl⟩) rfl) ⟨_, rfl, G.fo, rfl⟩) (fun σ1 H1 S1 => ?_) sc_table_of.nd)
    have tb : tableOf h ships lat = ((akeys (restsIn (grown h ships (beginning ships) lat))).mergeSort leSt).map fun s => (s, (aget (restsIn (grown h ships (beginning ships) lat)) s).getD none) := rfl
    have hlen : (akeys (restsIn (grown h ships (beginning ships) lat))).length ≤ 100000 := by
      rw [restsIn_keys G.fo, List.length_reverse, List.length_map]
      exact G.fo.sz
    rw [tb] at q
    clear tb G
    generalize restsIn (grown h ships (beginning ships) lat) = Rs at S1 q hlen
    have ek : keyD (dic encO Rs) = (akeys Rs).map encSt := keyD_dic _
    refine go_one (go_ret S1 (ev_cast (ev_F (ev_lcP (own := [("state", 4)]) ((akeys Rs).mergeSort leSt) encSt (fun _ => true) (fun st => encT (st, (aget Rs st).getD none)) rfl sc_table_of.nd (it_list (ev_cast (ev_sortedX rfl B.sorted (ev_var 3) ?_ (fun d hd => ?_)) ?_)) (blkOk_by (sc := defScope s_table_of) (N := N_table_of) (by decide +kernel)) (own_lt rfl) ?_ rfl fun φ q ds y hy => ?_)) ?_) fun v H1 S1 r => S1.done r q)
    · rw [ek]
      exact ⟨PySem.W.AllAlike.of fun a b => alike_St a b, .inl (PySem.W.Sortable.tuples fun b => ⟨_, _, rfl⟩)⟩
    · rw [ek] at hd
      obtain ⟨x, _, rfl⟩ := List.mem_map.mp hd
      have := depth_St x
      exact u_lt2 hu (by omega)
    · rw [ek, mergeSort_enc encSt leSt (fun a b => rfl)]
    · rw [(List.mergeSort_perm _ _).length_eq]
      exact Nat.le_of_lt (line_100k hlen)
    · have hy' : y ∈ akeys Rs := (List.mergeSort_perm _ _).mem_iff.mp hy
      obtain ⟨v0, e⟩ : ∃ v, aget Rs y = some v := Option.isSome_iff_exists.mp (aget_isSome.mpr hy')
      refine ⟨[4], _, by decide, rfl, fun s H0 Ca cl fp => bd_name 4 sc_table_of.nd, fun s H0 Ca cl fp => ets_nil, fun _ s H0 Ca cl fp => ?_⟩
      rw [e]
      exact ev_cast (ev_catT (xs := [.int y.1, encPs y.2]) (ys := [encO v0]) (ev_var 4) (ev_tup (ds := [_]) (ea_one (ev_dget (d := encO v0) (u_9 hu) (ev_var 3) (ev_cast (ev_var 4) (keyS_data y).symm) (keyS_depth y) (by rw [dget_dic, e]; rfl)) rfl)) (small_line (by simp))) rfl
    · rw [List.filter_eq_self.mpr (fun _ _ => rfl), List.map_map]
      rfl
end
end Tk
end

section
namespace Tk
open PySem
theorem take_succ_mem {α : Type} {l : List α} {i : Nat} {x t : α} (hx : l[i]? = some x) (h : t ∈ l.take (i + 1)) : t ∈ l.take i ∨ t = x := by
  rw [List.take_add_one, hx] at h
  rcases List.mem_append.mp h with h|h
  · exact .inl h
  · exact Or.inr (by simpa using h)
theorem waysOn_row {ships : List Sh} {found : Found} (F : FoOk found) {i : Nat} {b : Rows} {x : Stt} (hx : (akeys found).reverse[i]? = some x) (hb : RowsOk ships found i b) {w : Way} (hw : w ∈ waysOn found (restsIn found) x) :
    ∃ row, aget b w.2.2 = some row ∧ row.length = ships.length ∧ ∀ t ∈ row, t.length ≤ 4 * i := by
  obtain ⟨r, ws, h1, h2, h3, h4⟩ := waysOn_mem hw
  obtain ⟨y, hy, _⟩ := added_some h4
  have h5 := hb.2.1 w.2.2 (F.before hx h2 h3) (by rw [hy]; rfl)
  obtain ⟨row, hrow⟩ := Option.isSome_iff_exists.mp h5
  exact ⟨row, hrow, hb.2.2 _ (aget_mem hrow)⟩
theorem rowsStep_ok {ships : List Sh} {found : Found} (F : FoOk found) {i : Nat} {b : Rows} {x : Stt} (hx : (akeys found).reverse[i]? = some x) (hb : RowsOk ships found i b) (hmv : ∀ ws, aget found x = some ws → ∀ w ∈ ws, w.1.length ≤ 2) :
    RowsOk ships found (i + 1) (rowsStep ships found (restsIn found) b x) := by
  have hmem : x ∈ akeys found := List.mem_reverse.mp (List.mem_of_getElem? hx)
  have put : ∀ row : Row, row.length = ships.length → (∀ t ∈ row, t.length ≤ 4 * (i + 1)) → RowsOk ships found (i + 1) (aput b x row) := by
    intro row h1 h2
    refine ⟨Nat.le_trans (aput_len _ _ _).2 (Nat.succ_le_succ hb.1), fun t ht hr => ?_, fun e he => ?_⟩
    · rw [aget_isSome, mem_akeys_aput]
      rcases take_succ_mem hx ht with ht | rfl
      · exact .inr (aget_isSome.mp (hb.2.1 t ht hr))
      · exact .inl rfl
    · rcases mem_aput he with he | rfl
      · obtain ⟨k1, k2⟩ := hb.2.2 e he
        exact ⟨k1, fun t ht => by have := k2 t ht; omega⟩
      · exact ⟨h1, h2⟩
  unfold rowsStep
  split
  · exact put _ (List.length_map _) (fun t ht => by
      obtain ⟨_, _, rfl⟩ := List.mem_map.mp ht
      exact Nat.zero_le _)
  · rename_i he
    split
    · rename_i hr
      have hne := waysOn_ne F hmem (by simpa using he) hr
      have hm := minRows_mem (rs := (waysOn found (restsIn found) x).map fun w => putAhead x.1 w.1 ((aget b w.2.2).getD [])) (by simpa using hne)
      obtain ⟨w, hw, e⟩ := List.mem_map.mp hm
      obtain ⟨row, h1, h2, h3⟩ := waysOn_row F hx hb hw
      obtain ⟨r, ws, g1, g2, g3, g4⟩ := waysOn_mem hw
      rw [h1] at e
      obtain ⟨p1, p2⟩ := putAhead_ok (hour := x.1) (mv := w.1) h2 h3
      have hl := hmv ws g2 w g3
      refine put _ ?_ fun t ht => ?_
      · rw [← e]; exact p1
      · rw [← e] at ht
        have := p2 t ht
        omega
    · rename_i hr
      refine ⟨Nat.le_succ_of_le hb.1, fun t ht hs => ?_, fun e he => ?_⟩
      · rcases take_succ_mem hx ht with ht | rfl
        · exact hb.2.1 t ht hs
        · exact absurd hs hr
      · obtain ⟨k1, k2⟩ := hb.2.2 e he
        exact ⟨k1, fun t ht => by have := k2 t ht; omega⟩
end Tk
end

section
namespace Tk
open L2 PyProof.Rows PySem PySem.Spec
section
variable {X : Cx} {C : Cc} {L : List Addr} {ρ ρ1 : List Slot} {a : Expr} {pos p : Pos}
theorem ev_minRows {rs : List Row} (hc : X.calm = true) (hm : X.mg "min" = none) (ha : EvD X C L ρ a (.list (rs.map encRow)) ρ1) (hne : rs ≠ []) (hu : X.A.units + 200 < cLine) (hg : Gl X "min" := by rfl)
    (hst : starEach [a] X.env = (false, eval a X.env) :: starEach [] X.env := by rfl) (hpl : (backTo pos (starEach [] X.env)).any (·.1) = false := by rfl) : EvD X C L ρ (.Call (.Name "min" p) [a] [] pos) (encRow (minRows rs)) ρ1 := by
  cases rs with
  | nil => exact absurd rfl hne
  | cons r rs =>
    have h := ev_minD (pos := pos) (p := p) hc hm (x := encRow r) (ds := rs.map encRow) ha ⟨fun x hx y hy => ?_, fun x hx z => ?_⟩ ?_ hg hst hpl
    · rw [minD_rows] at h
      exact h
    · rw [← List.map_cons] at hx hy
      obtain ⟨a, -, rfl⟩ := List.mem_map.mp hx
      obtain ⟨b, -, rfl⟩ := List.mem_map.mp hy
      exact alike_Row a b
    · rw [← List.map_cons] at hx
      obtain ⟨a, -, rfl⟩ := List.mem_map.mp hx
      cases z
    · rw [← List.map_cons]
      have := depthAll_Rows (r :: rs)
      exact u_lt1 hu (by omega)
end
section
variable {w : World} {P : Program} {base : Heap} {mg : Str → Option Value} {K : PySem.W.Frag}
theorem ok_best_plan {f : Addr} {fd : FuncData} (F : Fun K "best_plan" "best_plan" s_best_plan f fd) (B : Bn mg) (f1 : Fd P w K mg base 5 "grown" ["harbour", "ships", "state", "latest"] R_grown) (f2 : Fd P w K mg base 2 "rests_in" ["found"] R_rests_in) (f3 : Fd P w K mg base 1 "beginning" ["ships"] R_beginning)
    (f4 : Fd P w K mg base 1 "is_end" ["state"] R_is_end) (f5 : Fd P w K mg base 2 "ways_on" ["found", "rests", "state"] R_ways_on) (f6 : Fd P w K mg base 1 "put_ahead" ["hour", "moves", "row"] R_put_ahead) : FnOk P w K mg base CX0 6 f fd ["harbour", "ships", "latest"] (SpR K P w R_best_plan) := by
  refine fn_ok F sc_best_plan (fun ds r h => ?_) (by decide) (fun cdv A outer s H M vs ds r Q E hr hR S q => ?_)
  · obtain ⟨h, ships, lat, rfl, _⟩ := h
    rfl
  · obtain ⟨h, ships, lat, rfl, G, rfl⟩ := hR
    have hu := room_u hr
    have hn := G.st.2.1
    have hb := G.st.1
    refine go_cons (go_set 3 S (ev_cl f1 hr (ea_cons (ev_var 0) (ea_cons (ev_var 1) (ea_cons (ev_cl f3 hr (ea_one (ev_var 1) rfl) ⟨ships, rfl, by omega, rfl⟩) (ea_one (ev_var 2) rfl)))) ⟨h, ships, _, lat, rfl, G, rfl⟩) (fun σ1 H1 S1 => ?_) sc_best_plan.nd)
    have Fo := G.fo
    have hmem := G.mem
    have hway := G.way
    unfold bestPlan at q
    clear G
    generalize grown h ships (beginning ships) lat = found at S1 q Fo hmem hway
    have hmv : ∀ x ws, aget found x = some ws → ∀ w ∈ ws, MvOk ships w.1 := by
      intro x ws hx wy hw
      have := hway _ (aget_mem hx)
      rw [show ws = waysIn h ships x lat from this] at hw
      obtain ⟨mv, hmv, rfl⟩ := List.mem_map.mp hw
      exact movesIn_ok hb hmv
    clear hway
    refine go_cons (go_set 4 S1 (ev_cl f2 hr (ea_one (ev_var 3) rfl) ⟨found, rfl, Fo, rfl⟩) (fun σ2 H2 S2 => ?_) sc_best_plan.nd)
    have hrest := fun x (hx : x ∈ akeys found) => restsIn_at Fo hx
    obtain ⟨vb, hvb⟩ : ∃ v, aget (restsIn found) (beginning ships) = some v := ⟨_, hrest _ hmem⟩
    cases vb with
    | none =>
      have tb : planOf ships found (restsIn found) = none := by unfold planOf; rw [hvb]; rfl
      rw [tb] at q
      refine go_cons (go_if (k := true) S2 (et_isN (ev_dget (d := encO none) (u_9 hu) (ev_var 4) (ev_cast (ev_cl f3 hr (ea_one (ev_var 1) rfl) ⟨ships, rfl, by omega, rfl⟩) (keyS_data (beginning ships)).symm) (keyS_depth (beginning ships)) (by rw [dget_dic, hvb]; rfl)) rfl) (fun hk H1 S1 => ?_) fun hk => Bool.noConfusion hk)
      exact go_one (go_ret S1 ev_none fun v H1 S1 r => S1.done r q)
    | some v0 =>
      have tb : planOf ships found (restsIn found) = some ((aget (rowsIn ships found (restsIn found)) (beginning ships)).getD []) := by unfold planOf; rw [hvb]; rfl
      rw [tb] at q
      refine go_cons (go_if (k := false) S2 (et_isN (ev_dget (d := encO (some v0)) (u_9 hu) (ev_var 4) (ev_cast (ev_cl f3 hr (ea_one (ev_var 1) rfl) ⟨ships, rfl, by omega, rfl⟩) (keyS_data (beginning ships)).symm) (keyS_depth (beginning ships)) (by rw [dget_dic, hvb]; rfl)) rfl) (fun hk => Bool.noConfusion hk) fun hk H3 S3 => go_nil ?_)
      refine go_cons (go_newD 5 S3 (fun q1 σ4 H4 S4 => ?_) sc_best_plan.nd)
      refine go_cons (go_fold [6] (akeys found).reverse encSt (rowsStep ships found (restsIn found)) [] (fun b => [.py (encH h), .py (encSs ships), .py (encLat lat), .val (.dic (dic encWs found)), .val (.dic (dic encO (restsIn found))), .md q1 (dic encRow b), .any, .any, .any, .any, .any, .any]) (RowsOk ships found) S4 PassesOwn.never rfl (it_revX rfl B.reversed B.list (ev_var 3)) (fun σ H S => S) ⟨Nat.le_refl _, fun t ht => absurd ht (by simp), fun e he => absurd he List.not_mem_nil⟩ (fun φ i x b σ' H' hx hb' hP S5 => ?_) (fun σ' H' hP S5 => ?_))
      · have hmemx : x ∈ akeys found := List.mem_reverse.mp (List.mem_of_getElem? hx)
        have hi : i < found.length := by
          have := (List.getElem?_eq_some_iff.mp hx).1
          rw [List.length_reverse, List.length_map] at this
          exact this
        have sz := Fo.sz
        obtain ⟨ws, hws⟩ : ∃ ws, aget found x = some ws := Option.isSome_iff_exists.mp (aget_isSome.mpr hmemx)
        have l1 : x.2.length ≤ 2 := (Fo.ln _ (aget_mem hws)).1
        have l2 : ws.length ≤ 1000 := (Fo.ln _ (aget_mem hws)).2
        have hbl : b.length ≤ i := hP.1
        have nxt : RowsOk ships found (i + 1) (rowsStep ships found (restsIn found) b x) := rowsStep_ok Fo hx hP fun ws hw w hm => by
          have := (hmv x ws hw w hm).1
          omega
        refine ⟨_, bd_name 6 sc_best_plan.nd, fun σ6 H6 S6 => ?_⟩
        refine go_one (go_if S6 (et_val (ev_cl f4 hr (ea_one (ev_var 6) rfl) ⟨x, rfl, by omega, rfl⟩)) (fun hk H7 S7 => ?_) fun hk H7 S7 => ?_)
        · have e : rowsStep ships found (restsIn found) b x = aput b x (ships.map fun _ => []) := by unfold rowsStep; rw [if_pos hk]
          rw [e] at nxt ⊢
          refine go_one (go_setD 5 S7 (u_9 hu) (d := encRow (ships.map fun _ => [])) (ev_cast (ev_tupleL B.tuple (ev_F (ev_lcP (own := [("ship", 8)]) ships encS (fun _ => true) (fun _ => encTu []) rfl sc_best_plan.nd (it_list (ev_var 1)) (blkOk_by (sc := defScope s_best_plan) (N := N_best_plan) (by decide +kernel)) (own_lt rfl) (small_line (by omega)) rfl fun φ q ds y hy => ?_))) ?_) (ks := keyT x) (ev_cast (ev_var 6) (keyS_data x).symm) (keyS_depth x) rfl ⟨_, rfl⟩ (by simp) (by rw [dic_length]; exact line_100k (by omega)) fun H8 S8 => ⟨nxt, ?_⟩)
          · exact ⟨[8], _, by decide, rfl, fun s H0 Ca cl fp => bd_name 8 sc_best_plan.nd, fun s H0 Ca cl fp => ets_nil, fun _ s H0 Ca cl fp => ev_tup (ds := []) ea_nil⟩
          · rw [List.filter_eq_self.mpr (fun _ _ => rfl)]
            unfold encRow
            rw [List.map_map]
            rfl
          · rw [dput_dic] at S8
            exact S8.forget 6
        · cases hvx : (aget (restsIn found) x).getD none with
          | none =>
            have e : rowsStep ships found (restsIn found) b x = b := by unfold rowsStep; rw [if_neg (by rw [hk]; exact Bool.false_ne_true), hvx]; rfl
            rw [e] at nxt ⊢
            refine go_one (go_if (k := false) S7 (et_notN (ev_dget (d := encO none) (u_9 hu) (ev_var 4) (ev_cast (ev_var 6) (keyS_data x).symm) (keyS_depth x) (by rw [dget_dic, hrest x hmemx]; rw [hrest x hmemx] at hvx; show some (encO _) = _; rw [show restOf1 found (restsIn found) x = none from hvx])) rfl) (fun hk => Bool.noConfusion hk) fun _ H8 S8 => go_nil ⟨nxt, S8.forget 6⟩)
          | some vx =>
            have hne := waysOn_ne Fo hmemx (by simpa using hk) (by rw [hvx]; rfl)
            have e : rowsStep ships found (restsIn found) b x = aput b x (minRows ((waysOn found (restsIn found) x).map fun w => putAhead x.1 w.1 ((aget b w.2.2).getD []))) := by unfold rowsStep; rw [if_neg (by rw [hk]; exact Bool.false_ne_true), hvx]; rfl
            rw [e] at nxt ⊢
            refine go_one (go_if (k := true) S7 (et_notN (ev_dget (d := encO (some vx)) (u_9 hu) (ev_var 4) (ev_cast (ev_var 6) (keyS_data x).symm) (keyS_depth x) (by rw [dget_dic, hrest x hmemx]; rw [hrest x hmemx] at hvx; show some (encO _) = _; rw [show restOf1 found (restsIn found) x = some vx from hvx])) rfl) (fun _ H8 S8 => ?_) fun hk => Bool.noConfusion hk)
            refine go_cons (go_set 7 S8 (ev_cl f5 hr (ea_cons (ev_var 3) (ea_cons (ev_var 4) (ea_one (ev_var 6) rfl))) ⟨found, x, rfl, Fo, hmemx, rfl⟩) (fun σ9 H9 S9 => ?_) sc_best_plan.nd)
            have hwl : (waysOn found (restsIn found) x).length ≤ 1000 := by
              have : (waysOn found (restsIn found) x).length ≤ ws.length := by
                unfold waysOn
                rw [hvx, hws]
                exact List.length_filter_le _ _
              omega
            have hwo : ∀ y ∈ waysOn found (restsIn found) x, MvOk ships y.1 ∧ ∃ row, aget b y.2.2 = some row ∧ row.length = ships.length ∧ ∀ t ∈ row, t.length ≤ 4 * i := fun y hy => by
              obtain ⟨r, ws', _, g2, g3, _⟩ := waysOn_mem hy
              exact ⟨hmv x ws' g2 y g3, waysOn_row Fo hx hP hy⟩
            generalize waysOn found (restsIn found) x = ways at S9 hne hwl hwo nxt
            refine go_one (go_setD 5 S9 (u_9 hu) (d := encRow (minRows (ways.map fun w => putAhead x.1 w.1 ((aget b w.2.2).getD [])))) (ev_minRows rfl B.min (ev_cast (ev_F (ev_lcP (own := [("moves", 9), ("cost", 10), ("behind", 11)]) ways encW (fun _ => true) (fun w => encRow (putAhead x.1 w.1 ((aget b w.2.2).getD []))) rfl sc_best_plan.nd (it_list (ev_var 7)) (blkOk_by (sc := defScope s_best_plan) (N := N_best_plan) (by decide +kernel)) (own_lt rfl) (small_line hwl) rfl fun φ q ds y hy => ?_)) ?_) (by simpa using hne) hu) (ks := keyT x) (ev_cast (ev_var 6) (keyS_data x).symm) (keyS_depth x) rfl ⟨_, rfl⟩ (by simp) (by rw [dic_length]; exact line_100k (by omega)) fun H8 S8 => ⟨nxt, ?_⟩)
            · obtain ⟨m1, row, r1, r2, r3⟩ := hwo y hy
              refine ⟨[9, 10, 11], _, by decide, rfl, fun s H0 Ca cl fp => bd_tup rfl (bds_cons (bd_name 9 sc_best_plan.nd) (bds_cons (bd_name 10 sc_best_plan.nd) (bds_cons (bd_name 11 sc_best_plan.nd) bds_nil))), fun s H0 Ca cl fp => ets_nil, fun _ s H0 Ca cl fp => ?_⟩
              refine ev_cl f6 hr (ea_cons (ev_ixT (j := 0) (ev_var 6) ev_int rfl rfl) (ea_cons (ev_var 9) (ea_one (ev_mdget (d := encRow row) 5 (u_9 hu) rfl ⟨_, rfl⟩ (ev_cast (ev_var 11) (keyS_data y.2.2).symm) (keyS_depth y.2.2) (by rw [dget_dic, r1]; rfl)) rfl))) ⟨x.1, y.1, row, rfl, by have := m1.1; omega, fun m hm => by rw [r2]; exact m1.2 m hm, by omega, fun t ht => by have := r3 t ht; omega, by rw [r1]; rfl⟩
            · rw [List.filter_eq_self.mpr (fun _ _ => rfl), List.map_map]
              rfl
            · rw [dput_dic] at S8
              exact (S8.forget 6).forget 7
      · have hfin := hP.2.1 (beginning ships) (by rw [List.take_length]; exact List.mem_reverse.mpr hmem) (by rw [hvb]; rfl)
        rw [show (akeys found).reverse.foldl (rowsStep ships found (restsIn found)) [] = rowsIn ships found (restsIn found) from rfl] at S5 hfin
        obtain ⟨row, hrow⟩ := Option.isSome_iff_exists.mp hfin
        rw [hrow] at q
        refine go_one (go_ret S5 (dt := .py (encPlan (some row))) (ev_listT (ds := row.map encTu) B.list (ev_mdget (d := encRow row) 5 (u_9 hu) rfl ⟨_, rfl⟩ (ev_cast (ev_cl f3 hr (ea_one (ev_var 1) rfl) ⟨ships, rfl, by omega, rfl⟩) (keyS_data (beginning ships)).symm) (keyS_depth (beginning ships)) (by rw [dget_dic, hrow]; rfl))) fun v H1 S1 r => S1.done r q)
end
end Tk
end

section
namespace Tk
open L2 PyProof.Rows PySem PySem.Spec
def R_is_place : List Dt → Dt → Prop := fun ds r => ∃ (h : Hb) (sh : Sh) (p : Place), ds = [.py (encH h), .py (encS sh), .py (encP p)] ∧ r = .py (.bool (isPlace h sh p))
def R_is_state : List Dt → Dt → Prop := fun ds r => ∃ (h : Hb) (ships : List Sh) (s : Stt), ds = [.py (encH h), .py (encSs ships), .py (encSt s)] ∧ ships.length ≤ 2 ∧ isState h ships s = true ∧ r = .py (.bool true)
def R_is_at_most : List Dt → Dt → Prop := fun ds r => ∃ bound most : Option Int, ds = [.py (encO bound), .py (encO most)] ∧ r = .py (.bool (isAtMost bound most))
/-- a table that is right in itself: its states, its bounds, their order -/
def TblOk (h : Hb) (ships : List Sh) (table : Rests) : Prop :=
  (∀ e ∈ table, isState h ships e.1 = true ∧ ∀ b, e.2 = some b → 0 ≤ b) ∧ ∀ (i : Nat) (a b : Stt × Option Int), table[i]? = some a → table[i + 1]? = some b → PySem.W.dataLt (encSt a.1) (encSt b.1) = true
def boundStep (d : Rests) (e : Stt × Option Int) : Rests := aput d e.1 e.2
def R_bounds_in : List Dt → Dt → Prop := fun ds r => ∃ (h : Hb) (ships : List Sh) (table : Rests), ds = [.py (encH h), .py (encSs ships), .py (.list (table.map encT))] ∧ ships.length ≤ 2 ∧ table.length ≤ 100000 ∧ TblOk h ships table ∧ r = .dic (dic encO (table.foldl boundStep []))
def HoldsOk (h : Hb) (ships : List Sh) (bounds : Rests) (s : Stt) (lat : Lat) : Prop :=
  ∃ vb, aget bounds s = some vb ∧ (isEnd s = true → vb = some 0) ∧ (isEnd s = false → ∀ w ∈ waysIn h ships s lat, ∃ v, aget bounds w.2.2 = some v ∧ isAtMost vb (added w.2.1 v) = true)
def R_holds_in : List Dt → Dt → Prop := fun ds r => ∃ (h : Hb) (ships : List Sh) (bounds : Rests) (s : Stt) (lat : Lat), ds = [.py (encH h), .py (encSs ships), .dic (dic encO bounds), .py (encSt s), .py (encLat lat)] ∧ StOk h ships s lat ∧ HoldsOk h ships bounds s lat ∧ r = .py (.bool true)
def R_is_table : List Dt → Dt → Prop := fun ds r => ∃ (h : Hb) (ships : List Sh) (table : Rests) (lat : Lat), ds = [.py (encH h), .py (encSs ships), .py (.list (table.map encT)), .py (encLat lat)] ∧ HbOk h ∧ LatOk lat ships.length ∧ ships.length ≤ 2 ∧ table.length ≤ 100000 ∧ TblOk h ships table ∧
  beginning ships ∈ akeys (table.foldl boundStep []) ∧ (akeys (table.foldl boundStep [])).length ≤ 100000 ∧ (∀ s ∈ akeys (table.foldl boundStep []), s.2.length = ships.length ∧ HoldsOk h ships (table.foldl boundStep []) s lat) ∧ r = .py (.bool true)
abbrev s_is_place : Stmt := topS 26
abbrev N_is_place : List Str := ["harbour", "ship", "place", "berth", "left"]
theorem sc_is_place : FnScope N_is_place ["harbour", "ship", "place"] (defScope s_is_place) := ⟨rfl, rfl, rfl, by decide +kernel, rfl, by decide +kernel, by decide +kernel⟩
abbrev s_is_state : Stmt := topS 27
abbrev N_is_state : List Str := ["harbour", "ships", "state", "hour", "places", "held", "ship", "place"]
theorem sc_is_state : FnScope N_is_state ["harbour", "ships", "state"] (defScope s_is_state) := ⟨rfl, rfl, rfl, by decide +kernel, rfl, by decide +kernel, by decide +kernel⟩
abbrev s_bounds_in : Stmt := topS 28
abbrev N_bounds_in : List Str := ["harbour", "ships", "table", "bounds", "before", "hour", "places", "bound", "state"]
theorem sc_bounds_in : FnScope N_bounds_in ["harbour", "ships", "table"] (defScope s_bounds_in) := ⟨rfl, rfl, rfl, by decide +kernel, rfl, by decide +kernel, by decide +kernel⟩
abbrev s_is_at_most : Stmt := topS 29
abbrev N_is_at_most : List Str := ["bound", "most"]
theorem sc_is_at_most : FnScope N_is_at_most ["bound", "most"] (defScope s_is_at_most) := ⟨rfl, rfl, rfl, by decide +kernel, rfl, by decide +kernel, by decide +kernel⟩
abbrev s_holds_in : Stmt := topS 30
abbrev N_holds_in : List Str := ["harbour", "ships", "bounds", "state", "latest", "moves", "cost", "behind"]
theorem sc_holds_in : FnScope N_holds_in ["harbour", "ships", "bounds", "state", "latest"] (defScope s_holds_in) := ⟨rfl, rfl, rfl, by decide +kernel, rfl, by decide +kernel, by decide +kernel⟩
abbrev s_is_table : Stmt := topS 31
abbrev N_is_table : List Str := ["harbour", "ships", "table", "latest", "bounds", "state"]
theorem sc_is_table : FnScope N_is_table ["harbour", "ships", "table", "latest"] (defScope s_is_table) := ⟨rfl, rfl, rfl, by decide +kernel, rfl, by decide +kernel, by decide +kernel⟩
section
variable {X : Cx} {C : Cc} {L : List Addr} {ρ ρ1 : List Slot} {a : Expr} {pos p : Pos} {kvs : Kvs}
theorem et_isNdic {j pos'} (ha : EvE X C L ρ a (.dic kvs) ρ1) : EvT X C L ρ (.Compare a [.Is] [.Constant .none j pos'] pos) false ρ1 := fun σ H S Q q => by
  refine le_T (pt_cmp (pc_isN pe_tE)) ?_
  refine ha σ H S _ fun x H1 S1 f1 r1 => ?_
  obtain ⟨p1, es, o, rfl, _⟩ := r1
  exact ⟨false, rfl, q H1 S1 f1⟩
end
section
variable {w : World} {P : Program} {base : Heap} {mg : Str → Option Value} {K : PySem.W.Frag}
theorem ok_is_place {f : Addr} {fd : FuncData} (F : Fun K "is_place" "is_place" s_is_place f fd) (B : Bn mg) (gS : Gd K mg "SEA" (encP SEA)) (gG : Gd K mg "GONE" (encP GONE)) (f1 : Fd P w K mg base 1 "is_within" ["value", "low", "high"] R_is_within) : FnOk P w K mg base CX0 2 f fd ["harbour", "ship", "place"] (SpR K P w R_is_place) := by
  refine fn_ok F sc_is_place (fun ds r h => ?_) (by decide) (fun cdv A outer s H M vs ds r Q E hr hR S q => ?_)
  · obtain ⟨h, sh, p, rfl, _⟩ := h
    rfl
  · obtain ⟨h, sh, p, rfl, rfl⟩ := hR
    have hu := room_u hr
    refine go_cons (go_unpack S (ev_var 2) (bd_tup rfl (bds_cons (bd_name 3 sc_is_place.nd) (bds_cons (bd_name 4 sc_is_place.nd) bds_nil))) fun σ1 H1 S1 => ?_)
    refine go_cons (go_if S1 (k := decide (SEA = p) || decide (GONE = p)) (et_inT hu (ev_var 2) (ev_tup (ds := [_, _]) (ea_cons (ev_gd gS) (ea_one (ev_gd gG) rfl))) (by rw [List.any_cons, List.any_cons, List.any_nil, eqv_encP, eqv_encP, Bool.or_false])) (fun hk H2 S2 => ?_) fun hk H2 S2 => ?_)
    · have e : isPlace h sh p = true := by
        unfold isPlace
        rw [if_pos]
        rw [Bool.or_eq_true, decide_eq_true_eq, decide_eq_true_eq] at hk
        rcases hk with z | z
        · exact .inl z.symm
        · exact .inr z.symm
      exact go_one (go_ret S2 (ev_cast ev_bool (by rw [e])) fun v H1 S1 r => S1.done r q)
    · have e : isPlace h sh p = (isWithin p.1 0 ((h.berths.length : Int) - 1) && isWithin p.2 0 sh.stay) := by
        unfold isPlace
        rw [if_neg]
        rw [Bool.or_eq_false_iff, decide_eq_false_iff_not, decide_eq_false_iff_not] at hk
        rintro (z | z)
        · exact hk.1 z.symm
        · exact hk.2 z.symm
      refine go_nil (go_one (go_ret S2 (ev_cast (ev_and (ev_cl f1 hr (ea_cons (ev_var 3) (ea_cons ev_int (ea_one (ev_sub (ev_len B.len (ev_ixT (j := 1) (ev_var 0) ev_int rfl rfl)) ev_int) rfl))) ⟨p.1, 0, (h.berths.length : Int) - 1, by rw [List.length_map], rfl⟩) fun _ => ev_cl f1 hr (ea_cons (ev_var 4) (ea_cons ev_int (ea_one (ev_ixT (j := 3) (ev_var 1) ev_int rfl rfl) rfl))) ⟨p.2, 0, sh.stay, rfl, rfl⟩) (by rw [e])) fun v H1 S1 r => S1.done r q))
theorem heldIn_enc (ps : List Place) : ((ps.filter fun p => decide (0 ≤ p.1)).map fun p => PyData.int p.1) = (heldIn ps).map PyData.int := by
  unfold heldIn
  rw [List.map_map]
  rfl
theorem ok_is_state {f : Addr} {fd : FuncData} (F : Fun K "is_state" "is_state" s_is_state f fd) (B : Bn mg) (f1 : Fd P w K mg base 1 "is_within" ["value", "low", "high"] R_is_within) (f2 : Fd P w K mg base 2 "is_place" ["harbour", "ship", "place"] R_is_place) : FnOk P w K mg base CX0 3 f fd ["harbour", "ships", "state"] (SpR K P w R_is_state) := by
  refine fn_ok F sc_is_state (fun ds r h => ?_) (by decide) (fun cdv A outer s H M vs ds r Q E hr hR S q => ?_)
  · obtain ⟨h, sh, p, rfl, _⟩ := h
    rfl
  · obtain ⟨h, ships, st, rfl, hn, hst, rfl⟩ := hR
    have hu := room_u hr
    obtain ⟨a1, a2, a3, a4⟩ : isWithin st.1 0 (h.last + 1) = true ∧ st.2.length = ships.length ∧ ((ships.zip st.2).all fun p => isPlace h p.1 p.2) = true ∧ (distinct (heldIn st.2)).length = (heldIn st.2).length := by
      unfold isState at hst
      split at hst
      · cases hst
      · rename_i z1
        split at hst
        · cases hst
        · rename_i z2
          refine ⟨?_, ?_, ?_, of_decide_eq_true hst⟩
          · cases z : isWithin st.1 0 (h.last + 1) with
            | true => rfl
            | false => exact absurd (.inl z) z1
          · exact Decidable.byContradiction fun z => z1 (.inr z)
          · simpa using z2
    have hl : st.2.length ≤ 2 := by omega
    have hh : (heldIn st.2).length ≤ 2 := by
      unfold heldIn
      rw [List.length_map]
      exact Nat.le_trans (List.length_filter_le _ _) hl
    refine go_cons (go_unpack S (ev_var 2) (bd_tup rfl (bds_cons (bd_name 3 sc_is_state.nd) (bds_cons (bd_name 4 sc_is_state.nd) bds_nil))) fun σ1 H1 S1 => ?_)
    refine go_cons (go_if S1 (k := !true || false) (et_or (et_not (et_val (ev_cl f1 hr (ea_cons (ev_var 3) (ea_cons ev_int (ea_one (ev_add (ev_ixT (j := 4) (ev_var 0) ev_int rfl rfl) ev_int) rfl))) ⟨st.1, 0, h.last + 1, rfl, by rw [a1]⟩))) fun _ => et_ne hu (ev_lenT B.len (ev_var 4)) (ev_len B.len (ev_var 1)) (by rw [eqv_int, List.length_map, List.length_map, a2]; simp)) (fun hk => Bool.noConfusion hk) fun hk H2 S2 => go_nil ?_)
    refine go_cons (go_if S2 (k := !true) (et_not (et_val (ev_cast (ev_all (bs := ((ships.zip st.2).filter fun _ => true).map fun p => isPlace h p.1 p.2) rfl B.all (ev_cast (ev_F (ev_lcP (own := [("ship", 6), ("place", 7)]) (ships.zip st.2) (fun p => PyData.tuple [encS p.1, encP p.2]) (fun _ => true) (fun p => .bool (isPlace h p.1 p.2)) rfl sc_is_state.nd (it_zipX ships encS st.2 encP B.zip (ev_var 1) (ev_var 4) a2.symm) (blkOk_by (sc := defScope s_is_state) (N := N_is_state) (by decide +kernel)) (own_lt rfl) ?_ rfl fun φ q ds y hy => ?_)) ?_)) ?_))) (fun hk => Bool.noConfusion hk) fun hk H3 S3 => go_nil ?_)
    · rw [List.length_zip]
      exact small_line (by omega)
    · exact ⟨[6, 7], _, by decide, rfl, fun s H0 Ca cl fp => bd_tup rfl (bds_cons (bd_name 6 sc_is_state.nd) (bds_cons (bd_name 7 sc_is_state.nd) bds_nil)), fun s H0 Ca cl fp => ets_nil, fun _ s H0 Ca cl fp => ev_cl f2 hr (ea_cons (ev_var 0) (ea_cons (ev_var 6) (ea_one (ev_var 7) rfl))) ⟨h, y.1, y.2, rfl, rfl⟩⟩
    · rw [List.map_map]
      rfl
    · rw [List.filter_eq_self.mpr (fun _ _ => rfl), List.all_map]
      exact congrArg PyData.bool a3
    · refine go_cons (go_setLc 5 S3 (lc_P (own := [("place", 7)]) st.2 encP (fun p => decide (0 ≤ p.1)) (fun p => .int p.1) (it_tup (ev_var 4)) (blkOk_by (sc := defScope s_is_state) (N := N_is_state) (by decide +kernel)) (own_lt rfl) (small_line (by omega)) rfl fun φ q ds x hx => ?_) (fun σ4 H4 S4 => ?_) rfl sc_is_state.nd (sw_true rfl rfl rfl rfl))
      · exact ⟨[7], _, by decide, rfl, fun s H0 Ca cl fp => bd_name 7 sc_is_state.nd, fun s H0 Ca cl fp => ets_one (et_ge (ev_ixT (j := 0) (ev_var 7) ev_int rfl rfl) ev_int), fun _ s H0 Ca cl fp => ev_ixT (j := 0) (ev_var 7) ev_int rfl rfl⟩
      · rw [heldIn_enc] at S4
        exact go_one (go_ret S4 (ev_eqK (k := true) hu (ev_lenSet rfl B.len B.set (ev_var 5) (by omega)) (ev_len B.len (ev_var 5)) (by rw [eqv_int, List.length_map, a4]; simp)) fun v H1 S1 r => S1.done r q)
theorem ok_is_at_most {f : Addr} {fd : FuncData} (F : Fun K "is_at_most" "is_at_most" s_is_at_most f fd) (B : Bn mg) : FnOk P w K mg base CX0 1 f fd ["bound", "most"] (SpR K P w R_is_at_most) := by
  refine fn_ok F sc_is_at_most (fun ds r h => ?_) (by decide) (fun cdv A outer s H M vs ds r Q E hr hR S q => ?_)
  · obtain ⟨bound, most, rfl, _⟩ := h
    rfl
  · obtain ⟨bound, most, rfl, rfl⟩ := hR
    cases most with
    | none => exact go_one (go_ret S (ev_cast (d' := .bool (isAtMost bound none)) (ev_or (k1 := true) (k2 := true) (ev_isNk (ev_var 1) rfl) fun h => Bool.noConfusion h) rfl) fun v H1 S1 r => S1.done r q)
    | some m =>
      cases bound with
      | none => exact go_one (go_ret S (ev_cast (d' := .bool (isAtMost none (some m))) (ev_or (k1 := false) (k2 := false && true) (ev_isNk (ev_var 1) rfl) fun _ => ev_and (k1 := false) (k2 := true) (ev_notNk (ev_var 0) rfl) fun h => Bool.noConfusion h) rfl) fun v H1 S1 r => S1.done r q)
      | some b => exact go_one (go_ret S (ev_cast (d' := .bool (isAtMost (some b) (some m))) (ev_or (k1 := false) (k2 := true && decide (b ≤ m)) (ev_isNk (ev_var 1) rfl) fun _ => ev_and (k1 := true) (k2 := decide (b ≤ m)) (ev_notNk (ev_var 0) rfl) fun _ => ev_le (ev_var 0) (ev_var 1)) rfl) fun v H1 S1 r => S1.done r q)
def encB : Option Stt → PyData
  | none => .none
  | some s => encSt s
theorem ok_bounds_in {f : Addr} {fd : FuncData} (F : Fun K "bounds_in" "bounds_in" s_bounds_in f fd) (B : Bn mg) (f1 : Fd P w K mg base 3 "is_state" ["harbour", "ships", "state"] R_is_state) : FnOk P w K mg base CX0 4 f fd ["harbour", "ships", "table"] (SpR K P w R_bounds_in) := by
  refine fn_ok F sc_bounds_in (fun ds r h => ?_) (by decide) (fun cdv A outer s H M vs ds r Q E hr hR S q => ?_)
  · obtain ⟨h, sh, p, rfl, _⟩ := h
    rfl
  · obtain ⟨h, ships, table, rfl, hn, htl, ⟨tb1, tb2⟩, rfl⟩ := hR
    have hu := room_u hr
    refine go_cons (go_newD 3 S (fun q1 σ1 H1 S1 => ?_) sc_bounds_in.nd)
    refine go_cons (go_set 4 S1 ev_none (fun σ2 H2 S2 => ?_) sc_bounds_in.nd)
    have f1st : ∀ (xs : Rests) (p : Rests × Option Stt), (xs.foldl (fun p e => (boundStep p.1 e, some e.1)) p).1 = xs.foldl boundStep p.1 := by
      intro xs
      induction xs with
      | nil => intro p; rfl
      | cons x xs ih => intro p; rw [List.foldl_cons, List.foldl_cons, ih]
    refine go_cons (go_fold [5, 6, 7] table encT (fun (p : Rests × Option Stt) e => (boundStep p.1 e, some e.1)) ([], none) (fun p => [.py (encH h), .py (encSs ships), .py (.list (table.map encT)), .md q1 (dic encO p.1), .py (encB p.2), .any, .any, .any, .any]) (fun i p => p.1.length ≤ i ∧ ∀ b, p.2 = some b → ∃ j v, i = j + 1 ∧ table[j]? = some (b, v)) S2 PassesOwn.never rfl (it_list (ev_var 2)) (fun σ H S => S) ⟨Nat.le_refl _, fun b hb => by cases hb⟩ (fun φ i x p σ' H' hx hb' hP S4 => ?_) (fun σ' H' _ S4 => ?_))
    · have hi : i < table.length := (List.getElem?_eq_some_iff.mp hx).1
      obtain ⟨hs, hpos⟩ := tb1 x (List.mem_of_getElem? hx)
      have hpl := hP.1
      refine ⟨_, bd_tup rfl (bds_cons (bd_name 5 sc_bounds_in.nd) (bds_cons (bd_name 6 sc_bounds_in.nd) (bds_cons (bd_name 7 sc_bounds_in.nd) bds_nil))), fun σ5 H5 S5 => ?_⟩
      refine go_cons (go_set 8 S5 (ev_cast (d' := encSt x.1) (ev_tup (ds := [_, _]) (ea_cons (ev_var 5) (ea_one (ev_var 6) rfl))) rfl) (fun σ6 H6 S6 => ?_) sc_bounds_in.nd)
      refine go_cons (go_if S6 (k := !true || (x.2.isSome && false)) (et_or (et_not (et_val (ev_cl f1 hr (ea_cons (ev_var 0) (ea_cons (ev_var 1) (ea_one (ev_var 8) rfl))) ⟨h, ships, x.1, rfl, hn, hs, rfl⟩))) fun _ => et_and (et_notN (ev_var 7) (by rw [noneB_encO, Bool.not_not])) fun hsm => ?_) (fun hk => ?_) fun hk H7 S7 => go_nil ?_)
      · cases hx2 : x.2 with
        | none => rw [hx2] at hsm; cases hsm
        | some b => exact et_cast (et_lt (ev_cast (ev_var 7) (show encO (some b) = .int b from rfl)) ev_int) (decide_eq_false (by have := hpos b hx2; omega))
      · rw [Bool.and_false] at hk
        exact Bool.noConfusion hk
      · have nxt : (boundStep p.1 x).length ≤ i + 1 ∧ ∀ b, (some x.1) = some b → ∃ j v, i + 1 = j + 1 ∧ table[j]? = some (b, v) := ⟨Nat.le_trans (aput_len _ _ _).2 (by omega), fun b hb => ⟨i, x.2, rfl, by rw [← Option.some.inj hb]; exact hx⟩⟩
        refine go_cons (go_if S7 (k := p.2.isSome && false) (et_and (et_notN (ev_var 4) (by cases p.2 <;> rfl)) fun hsm => ?_) (fun hk => ?_) fun hk H8 S8 => go_nil ?_)
        · cases hp2 : p.2 with
          | none => rw [hp2] at hsm; cases hsm
          | some b =>
            obtain ⟨j, v, hij, hj⟩ := hP.2 b hp2
            have hlt := tb2 j (b, v) x hj (by rw [← hij]; exact hx)
            exact et_leP hu (ev_var 8) (ev_cast (ev_var 4) (show encB (some b) = encSt b from rfl)) (by rw [show PySem.W.dataLt (encSt b) (encSt x.1) = true from hlt]; rfl) (alike_St _ _) (fun z => nomatch z) (by have := depth_St x.1; omega)
        · rw [Bool.and_false] at hk
          exact Bool.noConfusion hk
        · refine go_cons (go_setD 3 S8 (u_9 hu) (ev_var 7) (ks := keyT x.1) (ev_cast (ev_var 8) (keyS_data x.1).symm) (keyS_depth x.1) rfl ⟨_, rfl⟩ (by simp) (by rw [dic_length]; exact line_100k (by omega)) fun H9 S9 => ?_)
          rw [dput_dic] at S9
          refine go_one (go_set 4 S9 (ev_var 8) (fun σ10 H10 S10 => ⟨nxt, ?_⟩) sc_bounds_in.nd)
          exact (((S10.forget 5).forget 6).forget 7).forget 8
    · rw [f1st] at S4
      have S5 := seal_md 3 S4 rfl
      exact go_one (go_ret S5 (ev_var 3) fun v H1 S1 r => S1.done r q)
theorem ok_holds_in {f : Addr} {fd : FuncData} (F : Fun K "holds_in" "holds_in" s_holds_in f fd) (B : Bn mg) (f1 : Fd P w K mg base 1 "is_end" ["state"] R_is_end) (f2 : Fd P w K mg base 4 "ways_in" ["harbour", "ships", "state", "latest"] R_ways_in) (f3 : Fd P w K mg base 1 "is_at_most" ["bound", "most"] R_is_at_most)
    (f4 : Fd P w K mg base 1 "added" ["cost", "rest"] R_added) : FnOk P w K mg base CX0 5 f fd ["harbour", "ships", "bounds", "state", "latest"] (SpR K P w R_holds_in) := by
  refine fn_ok F sc_holds_in (fun ds r h => ?_) (by decide) (fun cdv A outer s H M vs ds r Q E hr hR S q => ?_)
  · obtain ⟨h, sh, p, s, lat, rfl, _⟩ := h
    rfl
  · obtain ⟨h, ships, bounds, st, lat, rfl, ok, ⟨vb, hvb, he1, he2⟩, rfl⟩ := hR
    have hu := room_u hr
    obtain ⟨hb, hn, hl, hlat⟩ := id ok
    refine go_cons (go_if S (et_val (ev_cl f1 hr (ea_one (ev_var 3) rfl) ⟨st, rfl, by omega, rfl⟩)) (fun hk H1 S1 => ?_) fun hk H1 S1 => go_nil ?_)
    · refine go_one (go_ret S1 (ev_eqK (k := true) hu (ev_dget (d := encO (some 0)) (u_9 hu) (ev_var 2) (ev_cast (ev_var 3) (keyS_data st).symm) (keyS_depth st) (by rw [dget_dic, hvb, he1 hk]; rfl)) ev_int (eqv_int _ _)) fun v H1 S1 r => S1.done r q)
    · refine go_cons (go_fold [5, 6, 7] (waysIn h ships st lat) encW (fun (u : Unit) _ => u) () (fun _ => [.py (encH h), .py (encSs ships), .val (.dic (dic encO bounds)), .py (encSt st), .py (encLat lat), .any, .any, .any]) (fun _ _ => True) S1 PassesOwn.never rfl (it_list (ev_cl f2 hr (ea_cons (ev_var 0) (ea_cons (ev_var 1) (ea_cons (ev_var 3) (ea_one (ev_var 4) rfl)))) ⟨h, ships, st, lat, rfl, ok, rfl⟩)) (fun σ H S => S) trivial (fun φ i x p σ' H' hx hb' hP S4 => ?_) (fun σ' H' _ S4 => ?_))
      · obtain ⟨v, hv, hm⟩ := he2 hk x (List.mem_of_getElem? hx)
        refine ⟨_, bd_tup rfl (bds_cons (bd_name 5 sc_holds_in.nd) (bds_cons (bd_name 6 sc_holds_in.nd) (bds_cons (bd_name 7 sc_holds_in.nd) bds_nil))), fun σ5 H5 S5 => ?_⟩
        refine go_one (go_if S5 (k := false || !true) (et_or (et_notInX hu (ev_cast (ev_var 7) (keyS_data x.2.2).symm) (ev_var 2) (by rw [dget_dic, hv]; rfl) (keyS_depth x.2.2)) fun _ => et_not (et_val (ev_cast (ev_cl f3 hr (ea_cons (ev_dget (d := encO vb) (u_9 hu) (ev_var 2) (ev_cast (ev_var 3) (keyS_data st).symm) (keyS_depth st) (by rw [dget_dic, hvb]; rfl)) (ea_one (ev_cl f4 hr (ea_cons (ev_var 6) (ea_one (ev_dget (d := encO v) (u_9 hu) (ev_var 2) (ev_cast (ev_var 7) (keyS_data x.2.2).symm) (keyS_depth x.2.2) (by rw [dget_dic, hv]; rfl)) rfl)) ⟨x.2.1, v, rfl, rfl⟩) rfl)) ⟨vb, added x.2.1 v, rfl, rfl⟩) (by rw [hm])))) (fun hk => Bool.noConfusion hk) fun _ H6 S6 => go_nil ⟨trivial, ?_⟩)
        exact ((S6.forget 5).forget 6).forget 7
      · exact go_one (go_ret S4 ev_bool fun v H1 S1 r => S1.done r q)
theorem ok_is_table {f : Addr} {fd : FuncData} (F : Fun K "is_table" "is_table" s_is_table f fd) (B : Bn mg) (f1 : Fd P w K mg base 4 "bounds_in" ["harbour", "ships", "table"] R_bounds_in) (f2 : Fd P w K mg base 1 "beginning" ["ships"] R_beginning) (f3 : Fd P w K mg base 5 "holds_in" ["harbour", "ships", "bounds", "state", "latest"] R_holds_in) : FnOk P w K mg base CX0 6 f fd ["harbour", "ships", "table", "latest"] (SpR K P w R_is_table) := by
  refine fn_ok F sc_is_table (fun ds r h => ?_) (by decide) (fun cdv A outer s H M vs ds r Q E hr hR S q => ?_)
  · obtain ⟨h, sh, p, s, rfl, _⟩ := h
    rfl
  · obtain ⟨h, ships, table, lat, rfl, hb, hlat, hn, htl, tok, hbeg, hkl, hold, rfl⟩ := hR
    have hu := room_u hr
    refine go_cons (go_set 4 S (ev_cl f1 hr (ea_cons (ev_var 0) (ea_cons (ev_var 1) (ea_one (ev_var 2) rfl))) ⟨h, ships, table, rfl, hn, htl, tok, rfl⟩) (fun σ1 H1 S1 => ?_) sc_is_table.nd)
    generalize table.foldl boundStep [] = bs at S1 hbeg hkl hold
    refine go_cons (go_if S1 (k := false || false) (et_or (et_isNdic (ev_var 4)) fun _ => et_notInX hu (ev_cast (ev_cl f2 hr (ea_one (ev_var 1) rfl) ⟨ships, rfl, by omega, rfl⟩) (keyS_data (beginning ships)).symm) (ev_var 4) (by rw [dget_dic, Option.isSome_map, aget_isSome.mpr hbeg]; rfl) (keyS_depth (beginning ships))) (fun hk => Bool.noConfusion hk) fun hk H2 S2 => go_nil ?_)
    refine go_one (go_ret S2 (ev_cast (ev_all (bs := ((akeys bs).filter fun _ => true).map fun _ => true) rfl B.all (ev_cast (ev_F (ev_lcP (own := [("state", 5)]) (akeys bs) encSt (fun _ => true) (fun _ => .bool true) rfl sc_is_table.nd (by rw [← keyD_dic (enc := encO)]; exact it_X (ev_var 4)) (blkOk_by (sc := defScope s_is_table) (N := N_is_table) (by decide +kernel)) (own_lt rfl) (Nat.le_of_lt (line_100k hkl)) rfl fun φ q ds y hy => ?_)) ?_)) ?_) fun v H1 S1 r => S1.done r q)
    · obtain ⟨k1, k2⟩ := hold y hy
      exact ⟨[5], _, by decide, rfl, fun s H0 Ca cl fp => bd_name 5 sc_is_table.nd, fun s H0 Ca cl fp => ets_nil, fun _ s H0 Ca cl fp => ev_cl f3 hr (ea_cons (ev_var 0) (ea_cons (ev_var 1) (ea_cons (ev_var 4) (ea_cons (ev_var 5) (ea_one (ev_var 3) rfl))))) ⟨h, ships, bs, y, lat, rfl, ⟨hb, hn, k1, hlat⟩, k2, rfl⟩⟩
    · rw [List.map_map]
      rfl
    · rw [List.all_map]
      have : (((akeys bs).filter fun _ => true).all (id ∘ fun _ => true)) = true := List.all_eq_true.mpr fun _ _ => rfl
      rw [this]
end
end Tk
end

section
namespace Tk
open PySem
/-! ### the law's functions in plain Lean -/
abbrev One := Int × Int × Int
abbrev LPlan := List One
def encOne (o : One) : PyData := .tuple [.int o.1, .int o.2.1, .int o.2.2]
def encLP (p : LPlan) : PyData := .list (p.map encOne)
def rgI (m n : Int) : List Int := (List.range (n - m).toNat).map fun i => m + ((i : Nat) : Int)
def deep (h : Hb) (sh : Sh) (hour : Int) : Bool := decide (sh.draught ≤ depthAt h hour)
def optOk (h : Hb) (sh : Sh) (first : Int) (berth : Nat) (out : Int) : Bool :=
  (deep h sh first && deep h sh out) && (decide (sh.len ≤ h.berths.getD berth 0) && decide (sh.tugs ≤ h.tugs))
def opt3 (h : Hb) (sh : Sh) (first : Int) (berth : Nat) (found : LPlan) (out : Int) : LPlan := if optOk h sh first berth out then found ++ [(first, ((berth : Nat) : Int), out)] else found
def opt2 (h : Hb) (sh : Sh) (first : Int) (found : LPlan) (berth : Nat) : LPlan := (rgI (first + sh.stay + 1) (h.last + 1)).foldl (opt3 h sh first berth) found
def opt1 (h : Hb) (sh : Sh) (found : LPlan) (first : Int) : LPlan := (List.range h.berths.length).foldl (opt2 h sh first) found
def options (h : Hb) (sh : Sh) : LPlan := (rgI sh.ready (h.last + 1)).foldl (opt1 h sh) []
def clash (one p : One) : Bool := decide (p.2.1 = one.2.1) && (decide (p.1 ≤ one.2.2) && decide (one.1 ≤ p.2.2))
def oneAt (plan : LPlan) (k : Nat) : One := plan.getD k (0, 0, 0)
def movers (plan : LPlan) (hour : Int) : List Int := (((List.range plan.length).filter fun k => decide ((oneAt plan k).1 = hour) || decide ((oneAt plan k).2.2 = hour)).map fun k => ((k : Nat) : Int)) ++ [((plan.length : Nat) : Int)]
def besideHour (h : Hb) (ships : List Sh) (plan : LPlan) (hour : Int) : Bool :=
  !(decide (h.pilots < ((movers plan hour).length : Nat)) || decide (h.tugs < ((movers plan hour).map fun k => (shipAt ships k).tugs).sum))
def beside (h : Hb) (ships : List Sh) (plan : LPlan) (one : One) : Bool := !(plan.any (clash one)) && [one.1, one.2.2].all (besideHour h ships plan)
def planStep (h : Hb) (ships : List Sh) (sh : Sh) (longer : List LPlan) (plan : LPlan) : List LPlan := longer ++ ((options h sh).filter (beside h ships plan)).map fun one => plan ++ [one]
def plansStep (h : Hb) (ships : List Sh) (found : List LPlan) (sh : Sh) : List LPlan := found.foldl (planStep h ships sh) []
def plans (h : Hb) (ships : List Sh) : List LPlan := ships.foldl (plansStep h ships) [[]]
def keepsAt (l : List (Option Int)) (plan : LPlan) (k : Nat) : Bool :=
  match l.getD k none with
  | none => true
  | some v => decide ((oneAt plan k).2.2 ≤ v)
def keeps (lat : Lat) (plan : LPlan) : Bool :=
  match lat with
  | none => true
  | some l => (List.range plan.length).all (keepsAt l plan)
def costStep1 (ships : List Sh) (plan : LPlan) (c : Int) (k : Nat) : Int :=
  c + (shipAt ships k).sea * ((oneAt plan k).1 - (shipAt ships k).ready) + (shipAt ships k).lie * ((oneAt plan k).2.2 - (oneAt plan k).1 - (shipAt ships k).stay - 1)
def planCost (ships : List Sh) (plan : LPlan) : Int := (List.range ships.length).foldl (costStep1 ships plan) 0
/-- what is asked of the harbour and the ships of the law -/
structure LwOk (h : Hb) (ships : List Sh) : Prop where
  hb : HbOk h
  nb : h.berths.length ≤ 2
  la : 0 ≤ h.last ∧ h.last ≤ 12
  ns : 0 < ships.length ∧ ships.length ≤ 2
  sh : ∀ s ∈ ships, 0 ≤ s.ready ∧ s.ready ≤ 21 ∧ 0 < s.len ∧ 0 < s.stay ∧ s.stay ≤ 4 ∧ 0 ≤ s.tugs ∧ s.tugs ≤ 10 ∧ 0 ≤ s.sea ∧ s.sea ≤ 9 ∧ 0 ≤ s.lie ∧ s.lie ≤ 9
  tu : 0 ≤ h.tugs ∧ h.tugs ≤ 10
  pi : 0 < h.pilots ∧ h.pilots ≤ 10
theorem rgI_len {m n : Int} {k : Nat} (h : n - m ≤ k) : (rgI m n).length ≤ k := by
  unfold rgI
  rw [List.length_map,List.length_range]
  omega
theorem rgI_mem {m n x : Int} : x ∈ rgI m n ↔ m ≤ x ∧ x < n := by
  unfold rgI
  rw [List.mem_map]
  constructor
  · rintro ⟨i, hi, rfl⟩
    rw [List.mem_range] at hi
    omega
  · intro h
    exact ⟨(x - m).toNat, by rw [List.mem_range]; omega, by omega⟩
theorem opt2_len (h : Hb) (sh : Sh) (first : Int) (found : LPlan) (berth : Nat) {k : Nat} (hk : h.last + 1 - (first + sh.stay + 1) ≤ k) : (opt2 h sh first found berth).length ≤ found.length + k := by
  unfold opt2
  have : ∀ (xs : List Int) (f : LPlan), (xs.foldl (opt3 h sh first berth) f).length ≤ f.length + xs.length := by
    intro xs
    induction xs with
    | nil => intro f; exact Nat.le_refl _
    | cons x xs ih =>
      intro f
      rw [List.foldl_cons]
      refine Nat.le_trans (ih _) ?_
      unfold opt3
      split
      · rw [(List.length_append)]; simp; omega
      · simp
  exact Nat.le_trans (this _ _) (Nat.add_le_add_left (rgI_len hk) _)
theorem opt1_len (h : Hb) (sh : Sh) (found : LPlan) (first : Int) {k : Nat} (hk : h.last + 1 - (first + sh.stay + 1) ≤ k) : (opt1 h sh found first).length ≤ found.length + h.berths.length * k := by
  unfold opt1
  have : ∀ (xs : List Nat) (f : LPlan), (xs.foldl (opt2 h sh first) f).length ≤ f.length + xs.length * k := by
    intro xs
    induction xs with
    | nil => intro f; simp
    | cons x xs ih =>
      intro f
      rw [List.foldl_cons]
      refine Nat.le_trans (ih _) ?_
      have := opt2_len h sh first f x hk
      rw [List.length_cons, Nat.succ_mul]
      omega
  have := this (List.range h.berths.length) found
  rw [List.length_range] at this
  exact this
theorem options_len (h : Hb) (sh : Sh) (hr : 0 ≤ sh.ready) (hs : 0 ≤ sh.stay) (hl : h.last ≤ 12) (hb : h.berths.length ≤ 2) : (options h sh).length ≤ 338 := by
  unfold options
  have : ∀ (xs : List Int) (f : LPlan), (∀ x ∈ xs, 0 ≤ x) → (xs.foldl (opt1 h sh) f).length ≤ f.length + xs.length * 26 := by
    intro xs
    induction xs with
    | nil => intro f _; simp
    | cons x xs ih =>
      intro f hx
      rw [List.foldl_cons]
      refine Nat.le_trans (ih _ fun y hy => hx y (List.mem_cons_of_mem _ hy)) ?_
      have hx0 := hx x List.mem_cons_self
      have h1 := opt1_len h sh f x (k := 13) (by omega)
      have h2 : h.berths.length * 13 ≤ 26 := by omega
      rw [List.length_cons, Nat.succ_mul]
      omega
  have h1 := this (rgI sh.ready (h.last + 1)) [] (fun x hx => by have := rgI_mem.mp hx; omega)
  have h2 := rgI_len (m := sh.ready) (n := h.last + 1) (k := 13) (by omega)
  simp at h1
  omega
end Tk
end

section
namespace Tk
open L2 PyProof.Rows PySem PySem.Spec
def R_law_deep : List Dt → Dt → Prop := fun ds r => ∃ (h : Hb) (sh : Sh) (t : Int), ds = [.py (encH h), .py (encS sh), .py (.int t)] ∧ HbOk h ∧ r = .py (.bool (deep h sh t))
def ShOk (h : Hb) (sh : Sh) : Prop := HbOk h ∧ h.berths.length ≤ 2 ∧ 0 ≤ h.last ∧ h.last ≤ 12 ∧ 0 ≤ sh.ready ∧ sh.ready ≤ 21 ∧ 0 < sh.stay ∧ sh.stay ≤ 4
def R_law_options : List Dt → Dt → Prop := fun ds r => ∃ (h : Hb) (sh : Sh), ds = [.py (encH h), .py (encS sh)] ∧ ShOk h sh ∧ r = .py (encLP (options h sh))
def R_law_beside : List Dt → Dt → Prop := fun ds r => ∃ (h : Hb) (ships : List Sh) (plan : LPlan) (one : One), ds = [.py (encH h), .py (encSs ships), .py (encLP plan), .py (encOne one)] ∧ ships.length ≤ 2 ∧ plan.length < ships.length ∧ r = .py (.bool (beside h ships plan one))
def R_law_plans : List Dt → Dt → Prop := fun ds r => ∃ (h : Hb) (ships : List Sh), ds = [.py (encH h), .py (encSs ships)] ∧ LwOk h ships ∧ r = .py (.list ((plans h ships).map encLP))
def R_law_keeps : List Dt → Dt → Prop := fun ds r => ∃ (lat : Lat) (n : Nat) (plan : LPlan), ds = [.py (encLat lat), .py (encLP plan)] ∧ LatOk lat n ∧ plan.length = n ∧ n ≤ 2 ∧ r = .py (.bool (keeps lat plan))
def R_law_least : List Dt → Dt → Prop := fun ds r => ∃ xs : List (Option Int), ds = [.py (.list (xs.map encO))] ∧ xs.length ≤ 1000000 ∧ r = .py (encO (least xs))
def R_law_cost : List Dt → Dt → Prop := fun ds r => ∃ (ships : List Sh) (plan : LPlan), ds = [.py (encSs ships), .py (encLP plan)] ∧ ships.length ≤ 2 ∧ plan.length = ships.length ∧ (∀ s ∈ ships, 0 ≤ s.sea ∧ s.sea ≤ 9 ∧ 0 ≤ s.lie ∧ s.lie ≤ 9) ∧ r = .py (.int (planCost ships plan))
abbrev s_law_deep : Stmt := topS 38
abbrev N_law_deep : List Str := ["_law_harbour_here", "_law_ship", "_law_hour"]
theorem sc_law_deep : FnScope N_law_deep ["_law_harbour_here", "_law_ship", "_law_hour"] (defScope s_law_deep) := ⟨rfl, rfl, rfl, by decide +kernel, rfl, by decide +kernel, by decide +kernel⟩
abbrev s_law_options : Stmt := topS 39
abbrev N_law_options : List Str := ["_law_harbour_here", "_law_ship", "_law_found", "_law_first", "_law_berth", "_law_out"]
theorem sc_law_options : FnScope N_law_options ["_law_harbour_here", "_law_ship"] (defScope s_law_options) := ⟨rfl, rfl, rfl, by decide +kernel, rfl, by decide +kernel, by decide +kernel⟩
abbrev s_law_beside : Stmt := topS 40
abbrev N_law_beside : List Str := ["_law_harbour_here", "_law_ships_here", "_law_plan", "_law_one", "_law_first", "_law_berth", "_law_out", "_law_hour", "_law_movers", "_law_k"]
theorem sc_law_beside : FnScope N_law_beside ["_law_harbour_here", "_law_ships_here", "_law_plan", "_law_one"] (defScope s_law_beside) := ⟨rfl, rfl, rfl, by decide +kernel, rfl, by decide +kernel, by decide +kernel⟩
abbrev s_law_plans : Stmt := topS 41
abbrev N_law_plans : List Str := ["_law_harbour_here", "_law_ships_here", "_law_found", "_law_ship", "_law_options_here", "_law_longer", "_law_plan", "_law_one"]
theorem sc_law_plans : FnScope N_law_plans ["_law_harbour_here", "_law_ships_here"] (defScope s_law_plans) := ⟨rfl, rfl, rfl, by decide +kernel, rfl, by decide +kernel, by decide +kernel⟩
abbrev s_law_keeps : Stmt := topS 42
abbrev N_law_keeps : List Str := ["_law_latest", "_law_plan", "_law_k"]
theorem sc_law_keeps : FnScope N_law_keeps ["_law_latest", "_law_plan"] (defScope s_law_keeps) := ⟨rfl, rfl, rfl, by decide +kernel, rfl, by decide +kernel, by decide +kernel⟩
abbrev s_law_least : Stmt := topS 43
abbrev N_law_least : List Str := ["_law_numbers", "_law_some", "_law_one"]
theorem sc_law_least : FnScope N_law_least ["_law_numbers"] (defScope s_law_least) := ⟨rfl, rfl, rfl, by decide +kernel, rfl, by decide +kernel, by decide +kernel⟩
abbrev s_law_cost : Stmt := topS 44
abbrev N_law_cost : List Str := ["_law_ships_here", "_law_plan", "_law_cost_here", "_law_k", "_law_ready", "_law_length", "_law_draught", "_law_stay", "_law_tugs", "_law_sea", "_law_lie"]
theorem sc_law_cost : FnScope N_law_cost ["_law_ships_here", "_law_plan"] (defScope s_law_cost) := ⟨rfl, rfl, rfl, by decide +kernel, rfl, by decide +kernel, by decide +kernel⟩
section
variable {X : Cx} {C : Cc} {L : List Addr} {ρ ρ1 ρ2 : List Slot} {e a b tg : Expr} {pos p : Pos}
theorem it_rangeI (m n : Int) {p : Pos} {tg : Expr} (hm : X.mg "range" = none) (ha : EvD X C L ρ a (.int m) ρ1) (hb : EvD X C L ρ1 b (.int n) ρ2) (hb4 : -1000000 ≤ m ∧ m ≤ 1000000 ∧ -1000000 ≤ n ∧ n ≤ 1000000) (hg : Gl X "range" := by rfl)
    (hs : starEach [a, b] X.env = [(false, eval a X.env), (false, eval b X.env)] := by rfl) (hs2 : starEach [b] X.env = [(false, eval b X.env)] := by rfl) : IterS X C L ρ tg (.Call (.Name "range" p) [a, b] [] pos) ((rgI m n).map PyData.int) ρ2 := by
  have h := it_range2 (tg := tg) (p := p) (pos := pos) hg hm ha hb (by omega) hs hs2
  have e2 : rgD m (n - m).toNat = (rgI m n).map PyData.int := by
    unfold rgD rgI
    rw [List.map_map]
    rfl
  rw [← e2]
  exact h
end
theorem one_get {plan : LPlan} {k : Nat} (h : k < plan.length) : (plan.map encOne)[k]? = some (encOne (oneAt plan k)) := by
  rw [List.getElem?_map, List.getElem?_eq_getElem h]
  unfold oneAt
  rw [List.getD_eq_getElem?_getD, List.getElem?_eq_getElem h]
  rfl
theorem ship_getN {ships : List Sh} {k : Nat} (h : k < ships.length) : (ships.map encS)[k]? = some (encS (shipAt ships k)) := by
  have := (ship_get (ships := ships) (i := (k : Nat)) (by omega) (by omega)).2
  rwa [Int.toNat_natCast] at this
section
variable {w : World} {P : Program} {base : Heap} {mg : Str → Option Value} {K : PySem.W.Frag}
theorem ok_law_deep {f : Addr} {fd : FuncData} (F : Fun K "_law_deep" "_law_deep" s_law_deep f fd) (B : Bn mg) : FnOk P w K mg base CX0 1 f fd ["_law_harbour_here", "_law_ship", "_law_hour"] (SpR K P w R_law_deep) := by
  refine fn_ok F sc_law_deep (fun ds r h => ?_) (by decide) (fun cdv A outer s H M vs ds r Q E hr hR S q => ?_)
  · obtain ⟨h, sh, p, rfl, _⟩ := h
    rfl
  · obtain ⟨h, sh, t, rfl, ⟨h1, _⟩, rfl⟩ := hR
    have hp : 0 < (h.depths.length : Int) := by omega
    have hm := mod_lt_toNat (a := t) hp
    refine go_one (go_ret S (ev_ge (ev_ixL (j := (t % (h.depths.length : Int)).toNat) (d := .int (depthAt h t)) (ev_ixT (j := 0) (ev_var 0) ev_int rfl rfl) (ev_mod (ev_intI B.int (ev_var 2)) (ev_len B.len (ev_ixT (j := 0) (ev_var 0) ev_int rfl rfl)) (by rw [List.length_map]; exact hp)) (by rw [List.length_map]; exact hm.2.symm) ?_) (ev_ixT (j := 2) (ev_var 1) ev_int rfl rfl)) fun v H1 S1 r => S1.done r q)
    rw [List.getElem?_map]
    unfold depthAt
    have : (t % (h.depths.length : Int)).toNat < h.depths.length := by have := hm.1; omega
    rw [List.getD_eq_getElem?_getD, List.getElem?_eq_getElem this]
    rfl
theorem ok_law_options {f : Addr} {fd : FuncData} (F : Fun K "_law_options" "_law_options" s_law_options f fd) (B : Bn mg) (f1 : Fd P w K mg base 1 "_law_deep" ["_law_harbour_here", "_law_ship", "_law_hour"] R_law_deep) : FnOk P w K mg base CX0 2 f fd ["_law_harbour_here", "_law_ship"] (SpR K P w R_law_options) := by
  refine fn_ok F sc_law_options (fun ds r h => ?_) (by decide) (fun cdv A outer s H M vs ds r Q E hr hR S q => ?_)
  · obtain ⟨h, sh, rfl, _⟩ := h
    rfl
  · obtain ⟨h, sh, rfl, ⟨hb, hnb, hl0, hl1, hr0, hr1, hs0, hs1⟩, rfl⟩ := hR
    have hu := room_u hr
    refine go_cons (go_newL 2 S (fun q1 σ1 H1 S1 => ?_) sc_law_options.nd)
    refine go_cons (go_fold [3] (rgI sh.ready (h.last + 1)) PyData.int (opt1 h sh) [] (fun b => [.py (encH h), .py (encS sh), .ml q1 (b.map encOne), .any, .any, .any]) (fun i b => b.length ≤ i * 26) S1 PassesOwn.never rfl (it_rangeI sh.ready (h.last + 1) B.range (ev_ixT (j := 0) (ev_var 1) ev_int rfl rfl) (ev_add (ev_ixT (j := 4) (ev_var 0) ev_int rfl rfl) ev_int) (by omega)) (fun σ H S => S) (Nat.zero_le _) (fun φ i first b σ' H' hx hb' hP S2 => ?_) (fun σ' H' _ S2 => ?_))
    · have hi : i < 13 := Nat.lt_of_lt_of_le (List.getElem?_eq_some_iff.mp hx).1 (rgI_len (by omega))
      have hf := rgI_mem.mp (List.mem_of_getElem? hx)
      refine ⟨_, bd_name 3 sc_law_options.nd, fun σ3 H3 S3 => ?_⟩
      refine go_one (go_fold [4] (List.range h.berths.length) (fun k => PyData.int ((k : Nat) : Int)) (opt2 h sh first) b (fun b => [.py (encH h), .py (encS sh), .ml q1 (b.map encOne), .py (.int first), .any, .any]) (fun j b => b.length ≤ i * 26 + j * 13) S3 PassesOwn.never rfl (it_rangeX h.berths.length B.range (ev_cast (ev_len B.len (ev_ixT (j := 1) (ev_var 0) ev_int rfl rfl)) (by rw [List.length_map])) (by omega)) (fun σ H S => S) (by omega) (fun φ j berth b2 σ' H' hy hb2 hP2 S4 => ?_) (fun σ' H' hP2 S4 => ?_))
      · have hj : j < h.berths.length := by have := (List.getElem?_eq_some_iff.mp hy).1; rwa [List.length_range] at this
        have hbt : berth < h.berths.length := List.mem_range.mp (List.mem_of_getElem? hy)
        have hbg : (h.berths.map PyData.int)[berth]? = some (.int (h.berths.getD berth 0)) := by
          rw [List.getElem?_map, List.getElem?_eq_getElem hbt, List.getD_eq_getElem?_getD, List.getElem?_eq_getElem hbt]
          rfl
        refine ⟨_, bd_name 4 sc_law_options.nd, fun σ5 H5 S5 => ?_⟩
        refine go_one (go_fold [5] (rgI (first + sh.stay + 1) (h.last + 1)) PyData.int (opt3 h sh first berth) b2 (fun b => [.py (encH h), .py (encS sh), .ml q1 (b.map encOne), .py (.int first), .py (.int ((berth : Nat) : Int)), .any]) (fun k b => b.length ≤ i * 26 + j * 13 + k) S5 PassesOwn.never rfl (it_rangeI (first + sh.stay + 1) (h.last + 1) B.range (ev_add (ev_add (ev_var 3) (ev_ixT (j := 3) (ev_var 1) ev_int rfl rfl)) ev_int) (ev_add (ev_ixT (j := 4) (ev_var 0) ev_int rfl rfl) ev_int) (by omega)) (fun σ H S => S) (by omega) (fun φ k out b3 σ' H' hz hb3 hP3 S6 => ?_) (fun σ' H' hP3 S6 => ?_))
        · have hk : k < 13 := Nat.lt_of_lt_of_le (List.getElem?_eq_some_iff.mp hz).1 (rgI_len (by omega))
          refine ⟨_, bd_name 5 sc_law_options.nd, fun σ7 H7 S7 => ?_⟩
          refine go_one (go_if S7 (k := deep h sh first && deep h sh out) (et_and (et_val (ev_cl f1 hr (ea_cons (ev_var 0) (ea_cons (ev_var 1) (ea_one (ev_var 3) rfl))) ⟨h, sh, first, rfl, hb, rfl⟩)) fun _ => et_val (ev_cl f1 hr (ea_cons (ev_var 0) (ea_cons (ev_var 1) (ea_one (ev_var 5) rfl))) ⟨h, sh, out, rfl, hb, rfl⟩)) (fun hq H8 S8 => ?_) fun hq H8 S8 => ?_)
          · refine go_one (go_if S8 (k := decide (sh.len ≤ h.berths.getD berth 0) && decide (sh.tugs ≤ h.tugs)) (et_and (et_ge (ev_ixL (j := berth) (ev_ixT (j := 1) (ev_var 0) ev_int rfl rfl) (ev_var 4) rfl hbg) (ev_ixT (j := 1) (ev_var 1) ev_int rfl rfl)) fun _ => et_le (ev_ixT (j := 4) (ev_var 1) ev_int rfl rfl) (ev_ixT (j := 2) (ev_var 0) ev_int rfl rfl)) (fun hq2 H9 S9 => ?_) fun hq2 H9 S9 => ?_)
            · have e : opt3 h sh first berth b3 out = b3 ++ [(first, ((berth : Nat) : Int), out)] := by
                unfold opt3
                rw [if_pos]
                unfold optOk
                rw [hq, hq2]
                rfl
              refine go_one (go_app 2 S9 (he := ev_tup (ds := [_, _, _]) (ea_cons (ev_var 3) (ea_cons (ev_var 4) (ea_one (ev_var 5) rfl)))) (hz := ?_) (k := fun H10 S10 => ⟨?_, ?_⟩))
              · rw [List.length_map]
                exact Nat.lt_of_le_of_lt hP3 (line_100k (by omega))
              · rw [e, List.length_append]
                simp
                omega
              · have S11 := S10.forget 5
                rw [e, List.map_append]
                exact S11
            · have e : opt3 h sh first berth b3 out = b3 := by
                unfold opt3
                rw [if_neg]
                unfold optOk
                rw [hq, hq2]
                exact Bool.false_ne_true
              refine go_nil ⟨?_, ?_⟩
              · rw [e]; omega
              · rw [e]; exact S9.forget 5
          · have e : opt3 h sh first berth b3 out = b3 := by
              unfold opt3
              rw [if_neg]
              unfold optOk
              rw [hq]
              exact Bool.false_ne_true
            refine go_nil ⟨?_, ?_⟩
            · rw [e]; omega
            · rw [e]; exact S8.forget 5
        · refine ⟨?_, S6.forget 4⟩
          have := rgI_len (m := first + sh.stay + 1) (n := h.last + 1) (k := 13) (by omega)
          show (opt2 h sh first b2 berth).length ≤ _
          unfold opt2
          omega
      · refine ⟨?_, S4.forget 3⟩
        show (opt1 h sh b first).length ≤ _
        unfold opt1
        rw [List.length_range] at hP2
        omega
    · have S3 := seal_ml 2 S2
      exact go_one (go_ret S3 (ev_var 2) fun v H1 S1 r => S1.done r q)
theorem ok_law_keeps {f : Addr} {fd : FuncData} (F : Fun K "_law_keeps" "_law_keeps" s_law_keeps f fd) (B : Bn mg) : FnOk P w K mg base CX0 1 f fd ["_law_latest", "_law_plan"] (SpR K P w R_law_keeps) := by
  refine fn_ok F sc_law_keeps (fun ds r h => ?_) (by decide) (fun cdv A outer s H M vs ds r Q E hr hR S q => ?_)
  · obtain ⟨lat, n, plan, rfl, _⟩ := h
    rfl
  · obtain ⟨lat, n, plan, rfl, hlat, hpl, hn, rfl⟩ := hR
    cases lat with
    | none =>
      refine go_cons (go_if (k := true) S (et_isN (ev_var 0) rfl) (fun hk H1 S1 => ?_) fun hk => Bool.noConfusion hk)
      exact go_one (go_ret S1 ev_bool fun v H1 S1 r => S1.done r q)
    | some l =>
      refine go_cons (go_if (k := false) S (et_isN (ev_var 0) rfl) (fun hk => Bool.noConfusion hk) fun hk H1 S1 => go_nil ?_)
      have hll := hlat l rfl
      refine go_one (go_ret S1 (ev_cast (d' := .bool (keeps (some l) plan)) (ev_all (bs := ((List.range plan.length).filter fun _ => true).map (keepsAt l plan)) rfl B.all (ev_cast (ev_F (ev_lcP (own := [("_law_k", 2)]) (List.range plan.length) (fun k => PyData.int ((k : Nat) : Int)) (fun _ => true) (fun k => .bool (keepsAt l plan k)) rfl sc_law_keeps.nd (it_rangeX plan.length B.range (ev_cast (ev_len B.len (ev_var 1)) (by rw [List.length_map])) (by omega)) (blkOk_by (sc := defScope s_law_keeps) (N := N_law_keeps) (by decide +kernel)) (own_lt rfl) (small_line (by rw [List.length_range]; omega)) rfl fun φ q ds k hk => ?_)) ?_)) ?_) fun v H1 S1 r => S1.done r q)
      · have hkl : k < plan.length := List.mem_range.mp hk
        have hlt : k < l.length := by omega
        have hx : (l.map encO)[k]? = some (encO (l.getD k none)) := by
          rw [List.getElem?_map, List.getElem?_eq_getElem hlt, List.getD_eq_getElem?_getD, List.getElem?_eq_getElem hlt]
          rfl
        refine ⟨[2], _, by decide, rfl, fun s H0 Ca cl fp => bd_name 2 sc_law_keeps.nd, fun s H0 Ca cl fp => ets_nil, fun _ s H0 Ca cl fp => ?_⟩
        cases hv : l.getD k none with
        | none =>
          rw [hv] at hx
          exact ev_cast (d' := .bool (keepsAt l plan k)) (ev_or (k1 := true) (k2 := true) (ev_isNk (ev_ixL (j := k) (ev_var 0) (ev_var 2) rfl hx) rfl) fun h => Bool.noConfusion h) (by unfold keepsAt; rw [hv]; rfl)
        | some v =>
          rw [hv] at hx
          exact ev_cast (d' := .bool (keepsAt l plan k)) (ev_or (k1 := false) (k2 := decide ((oneAt plan k).2.2 ≤ v)) (ev_isNk (ev_ixL (j := k) (ev_var 0) (ev_var 2) rfl hx) rfl) fun _ => ev_le (ev_ixT (j := 2) (ev_ixL (j := k) (ev_var 1) (ev_var 2) rfl (one_get hkl)) ev_int rfl rfl) (ev_ixL (j := k) (ev_var 0) (ev_var 2) rfl hx)) (by unfold keepsAt; rw [hv]; rfl)
      · rw [List.map_map]
        rfl
      · rw [List.filter_eq_self.mpr (fun _ _ => rfl), List.all_map]
        rfl
theorem minDef_ints (ns : List Int) : minDef .none (ns.map PyData.int) = encO (match ns with | [] => none | l => some (minI l)) := by
  cases ns with
  | nil => rfl
  | cons n ns =>
    show PySem.W.minD (.int n) (ns.map .int) = encO (some (minI (n :: ns)))
    rw [PySem.W.minD_ints]
    show PyData.int _ = PyData.int ((n :: ns).foldl min n)
    rw [List.foldl_cons, Int.min_self]
theorem depthAll_ints0 (ns : List Int) : PyData.depthAll (ns.map .int) ≤ 100 := by rw [PySem.W.depth_ints]; exact Nat.zero_le _
theorem ok_law_least {f : Addr} {fd : FuncData} (F : Fun K "_law_least" "_law_least" s_law_least f fd) (B : Bn mg) : FnOk P w K mg base CX0 1 f fd ["_law_numbers"] (SpR K P w R_law_least) := by
  refine fn_ok F sc_law_least (fun ds r h => ?_) (by decide) (fun cdv A outer s H M vs ds r Q E hr hR S q => ?_)
  · obtain ⟨xs, rfl, _⟩ := h
    rfl
  · obtain ⟨xs, rfl, hx, rfl⟩ := hR
    have hu := room_u hr
    refine go_cons (go_setLc 1 S (lc_P (own := [("_law_one", 2)]) xs encO (fun x => x.isSome) encO (it_list (ev_var 0)) (blkOk_by (sc := defScope s_law_least) (N := N_law_least) (by decide +kernel)) (own_lt rfl) (Nat.le_trans hx (by decide)) rfl fun φ q ds x hx => ?_) (fun σ1 H1 S1 => ?_) rfl sc_law_least.nd (sw_true rfl rfl rfl rfl))
    · exact ⟨[2], _, by decide, rfl, fun s H0 Ca cl fp => bd_name 2 sc_law_least.nd, fun s H0 Ca cl fp => ets_one (et_notN (ev_var 2) (by rw [noneB_encO, Bool.not_not])), fun _ s H0 Ca cl fp => ev_var 2⟩
    · rw [encO_filter] at S1
      refine go_one (go_ret S1 (ev_cast (d' := encO (least xs)) (ev_minDef rfl B.min (ev_var 1) ev_none ?_ (u_lt1 hu (depthAll_ints0 _))) (minDef_ints _)) fun v H1 S1 r => S1.done r q)
      refine ⟨fun x hx y hy => ?_, fun x hx z => ?_⟩
      · obtain ⟨a, _, rfl⟩ := List.mem_map.mp hx
        obtain ⟨b, -, rfl⟩ := List.mem_map.mp hy
        rfl
      · obtain ⟨a, _, rfl⟩ := List.mem_map.mp hx
        cases z
theorem ok_law_cost {f : Addr} {fd : FuncData} (F : Fun K "_law_cost" "_law_cost" s_law_cost f fd) (B : Bn mg) : FnOk P w K mg base CX0 1 f fd ["_law_ships_here", "_law_plan"] (SpR K P w R_law_cost) := by
  refine fn_ok F sc_law_cost (fun ds r h => ?_) (by decide) (fun cdv A outer s H M vs ds r Q E hr hR S q => ?_)
  · obtain ⟨ships, plan, rfl, _⟩ := h
    rfl
  · obtain ⟨ships, plan, rfl, hn, hpl, hsm, rfl⟩ := hR
    refine go_cons (go_set 2 S ev_int (fun σ1 H1 S1 => ?_) sc_law_cost.nd)
    refine go_cons (go_fold [3] (List.range ships.length) (fun k => PyData.int ((k : Nat) : Int)) (costStep1 ships plan) 0 (fun b => [.py (encSs ships), .py (encLP plan), .py (.int b), .any, .any, .any, .any, .any, .any, .any, .any]) (fun _ _ => True) S1 PassesOwn.never rfl (it_rangeX ships.length B.range (ev_cast (ev_len B.len (ev_var 0)) (by rw [List.length_map])) (by omega)) (fun σ H S => S) trivial (fun φ i k b σ' H' hx hb' _ S2 => ?_) (fun σ' H' _ S2 => ?_))
    · have hk : k < ships.length := List.mem_range.mp (List.mem_of_getElem? hx)
      have hmem : shipAt ships k ∈ ships := by
        unfold shipAt
        rw [Int.toNat_natCast, List.getD_eq_getElem?_getD, List.getElem?_eq_getElem hk]
        exact List.getElem_mem hk
      obtain ⟨b1, b2, b3, b4⟩ := hsm _ hmem
      refine ⟨_, bd_name 3 sc_law_cost.nd, fun σ3 H3 S3 => ?_⟩
      refine go_cons (go_unpack S3 (ev_ixL (j := k) (ev_var 0) (ev_var 3) rfl (ship_getN hk)) (bd_tup rfl (bds_cons (bd_name 4 sc_law_cost.nd) (bds_cons (bd_name 5 sc_law_cost.nd) (bds_cons (bd_name 6 sc_law_cost.nd) (bds_cons (bd_name 7 sc_law_cost.nd) (bds_cons (bd_name 8 sc_law_cost.nd) (bds_cons (bd_name 9 sc_law_cost.nd) (bds_cons (bd_name 10 sc_law_cost.nd) bds_nil)))))))) fun σ4 H4 S4 => ?_)
      have hog := one_get (plan := plan) (k := k) (by omega)
      refine go_one (go_set 2 S4 (ev_add (ev_add (ev_var 2) (ev_mul (ev_var 9) (ev_sub (ev_ixT (j := 0) (ev_ixL (j := k) (ev_var 1) (ev_var 3) rfl hog) ev_int rfl rfl) (ev_var 4)) (.inl (by omega)))) (ev_mul (ev_var 10) (ev_sub (ev_sub (ev_sub (ev_ixT (j := 2) (ev_ixL (j := k) (ev_var 1) (ev_var 3) rfl hog) ev_int rfl rfl) (ev_ixT (j := 0) (ev_ixL (j := k) (ev_var 1) (ev_var 3) rfl hog) ev_int rfl rfl)) (ev_var 7)) ev_int) (.inl (by omega)))) (fun σ5 H5 S5 => ⟨trivial, ?_⟩) sc_law_cost.nd)
      exact (((((((S5.forget 3).forget 4).forget 5).forget 6).forget 7).forget 8).forget 9).forget 10
    · exact go_one (go_ret S2 (ev_var 2) fun v H1 S1 r => S1.done r q)
end
end Tk
end

section
namespace Tk
open L2 PyProof.Rows PySem PySem.Spec
theorem movers_mem {plan : LPlan} {hour k : Int} (h : k ∈ movers plan hour) : 0 ≤ k ∧ k ≤ plan.length := by
  unfold movers at h
  rcases List.mem_append.mp h with h|h
  · obtain ⟨j, hj, rfl⟩ := List.mem_map.mp h
    have := List.mem_range.mp (List.mem_filter.mp hj).1
    omega
  · have := List.mem_singleton.mp h
    omega
theorem movers_len (plan : LPlan) (hour : Int) : (movers plan hour).length ≤ plan.length + 1 := by
  unfold movers
  rw [List.length_append, List.length_map]
  have := List.length_filter_le (fun k => decide ((oneAt plan k).1 = hour) || decide ((oneAt plan k).2.2 = hour)) (List.range plan.length)
  rw [List.length_range] at this
  simp
  omega
def PlansOk (i : Nat) (b : List LPlan) : Prop := b.length ≤ 338 ^ i ∧ ∀ p ∈ b, p.length = i
theorem planStep_len {h : Hb} {ships : List Sh} {sh : Sh} (ho : (options h sh).length ≤ 338) (longer : List LPlan) (plan : LPlan) : (planStep h ships sh longer plan).length ≤ longer.length + 338 := by
  unfold planStep
  rw [List.length_append, List.length_map]
  have := List.length_filter_le (beside h ships plan) (options h sh)
  omega
theorem plansStep_ok {h : Hb} {ships : List Sh} {sh : Sh} (ho : (options h sh).length ≤ 338) {i : Nat} {b : List LPlan} (hb : PlansOk i b) : PlansOk (i + 1) (plansStep h ships b sh) := by
  have aux : ∀ (xs : List LPlan) (l : List LPlan), (∀ p ∈ xs, p.length = i) → (∀ p ∈ l, p.length = i + 1) → (xs.foldl (planStep h ships sh) l).length ≤ l.length + xs.length * 338 ∧ ∀ p ∈ xs.foldl (planStep h ships sh) l, p.length = i + 1 := by
    intro xs
    induction xs with
    | nil => intro l _ hl; exact ⟨by simp, hl⟩
    | cons x xs ih =>
      intro l hx hl
      rw [List.foldl_cons]
      obtain ⟨k1, k2⟩ := ih (planStep h ships sh l x) (fun p hp => hx p (List.mem_cons_of_mem _ hp)) (fun p hp => by
        unfold planStep at hp
        rcases List.mem_append.mp hp with hp|hp
        · exact hl p hp
        · obtain ⟨o, _, rfl⟩ := List.mem_map.mp hp
          rw [List.length_append, hx x List.mem_cons_self]
          rfl)
      refine ⟨?_, k2⟩
      have := planStep_len (ships := ships) ho l x
      rw [List.length_cons, Nat.succ_mul]
      omega
  obtain ⟨k1, k2⟩ := aux b [] hb.2 (fun p hp => absurd hp List.not_mem_nil)
  refine ⟨?_, k2⟩
  unfold plansStep
  simp at k1
  have h1 := hb.1
  have : b.length * 338 ≤ 338 ^ i * 338 := Nat.mul_le_mul_right 338 h1
  rw [Nat.pow_succ]
  omega
theorem plansOk_zero : PlansOk 0 [[]] := ⟨by decide, fun p hp => by rw [List.mem_singleton.mp hp]; rfl⟩
theorem plans_ok {h : Hb} {ships : List Sh} (ho : ∀ sh ∈ ships, (options h sh).length ≤ 338) : PlansOk ships.length (plans h ships) := by
  unfold plans
  have aux : ∀ (xs : List Sh) (n : Nat) (b : List LPlan), (∀ sh ∈ xs, (options h sh).length ≤ 338) → PlansOk n b → PlansOk (n + xs.length) (xs.foldl (plansStep h ships) b) := by
    intro xs
    induction xs with
    | nil => intro n b _ hb; exact hb
    | cons x xs ih =>
      intro n b hx hb
      rw [List.foldl_cons, List.length_cons, show n + (xs.length + 1) = n + 1 + xs.length by omega]
      exact ih (n + 1) _ (fun y hy => hx y (List.mem_cons_of_mem _ hy)) (plansStep_ok (hx x List.mem_cons_self) hb)
  have := aux ships 0 [[]] ho plansOk_zero
  rwa [Nat.zero_add] at this
section
variable {w : World} {P : Program} {base : Heap} {mg : Str → Option Value} {K : PySem.W.Frag}
theorem ok_law_beside {f : Addr} {fd : FuncData} (F : Fun K "_law_beside" "_law_beside" s_law_beside f fd) (B : Bn mg) : FnOk P w K mg base CX0 1 f fd ["_law_harbour_here", "_law_ships_here", "_law_plan", "_law_one"] (SpR K P w R_law_beside) := by
  refine fn_ok F sc_law_beside (fun ds r h => ?_) (by decide) (fun cdv A outer s H M vs ds r Q E hr hR S q => ?_)
  · obtain ⟨h, ships, plan, one, rfl, _⟩ := h
    rfl
  · obtain ⟨h, ships, plan, one, rfl, hn, hpl, rfl⟩ := hR
    have hu := room_u hr
    refine go_cons (go_fold [4, 5, 6] plan encOne (fun (u : Unit) _ => u) () (fun _ => [.py (encH h), .py (encSs ships), .py (encLP plan), .py (encOne one), .any, .any, .any, .any, .any, .any]) (fun i _ => ∀ j, j < i → ∀ p, plan[j]? = some p → clash one p = false) S PassesOwn.never rfl (it_list (ev_var 2)) (fun σ H S => S) (fun j hj => absurd hj (Nat.not_lt_zero _)) (fun φ i p u σ' H' hx hb' hP S2 => ?_) (fun σ' H' hP S2 => ?_))
    · refine ⟨_, bd_tup rfl (bds_cons (bd_name 4 sc_law_beside.nd) (bds_cons (bd_name 5 sc_law_beside.nd) (bds_cons (bd_name 6 sc_law_beside.nd) bds_nil))), fun σ3 H3 S3 => ?_⟩
      refine go_one (go_if S3 (k := clash one p) (et_and3 (et_eq hu (ev_var 5) (ev_ixT (j := 1) (ev_var 3) ev_int rfl rfl) (eqv_int _ _)) (fun _ => et_le (ev_var 4) (ev_ixT (j := 2) (ev_var 3) ev_int rfl rfl)) fun _ _ => et_le (ev_ixT (j := 0) (ev_var 3) ev_int rfl rfl) (ev_var 6)) (fun hk H4 S4 => ?_) fun hk H4 S4 => ?_)
      · have e : beside h ships plan one = false := by
          unfold beside
          rw [List.any_eq_true.mpr ⟨p, List.mem_of_getElem? hx, hk⟩]
          rfl
        exact go_one (go_ret S4 (ev_cast ev_bool (by rw [e])) fun v H1 S1 r => S1.done r q)
      · refine go_nil ⟨fun j hj p' hp' => ?_, ((S4.forget 4).forget 5).forget 6⟩
        by_cases z : j = i
        · subst z
          rw [hx] at hp'
          cases hp'
          exact hk
        · exact hP j (by omega) p' hp'
    · have hany : plan.any (clash one) = false := by
        rw [List.any_eq_false]
        intro p hp
        obtain ⟨j, hj⟩ := List.getElem?_of_mem hp
        rw [hP j (List.getElem?_eq_some_iff.mp hj).1 p hj]
        exact Bool.false_ne_true
      refine go_cons (go_fold [7] [one.1, one.2.2] PyData.int (fun (u : Unit) _ => u) () (fun _ => [.py (encH h), .py (encSs ships), .py (encLP plan), .py (encOne one), .any, .any, .any, .any, .any, .any]) (fun i _ => ∀ j, j < i → ∀ t, [one.1, one.2.2][j]? = some t → besideHour h ships plan t = true) S2 PassesOwn.never rfl (it_list (ev_lst (ds := [_, _]) (ea_cons (ev_ixT (j := 0) (ev_var 3) ev_int rfl rfl) (ea_one (ev_ixT (j := 2) (ev_var 3) ev_int rfl rfl) rfl)))) (fun σ H S => S) (fun j hj => absurd hj (Nat.not_lt_zero _)) (fun φ i t u σ' H' hx hb' hP S3 => ?_) (fun σ' H' hP S3 => ?_))
      · refine ⟨_, bd_name 7 sc_law_beside.nd, fun σ4 H4 S4 => ?_⟩
        refine go_cons (go_set 8 S4 (ev_cast (d' := .list ((movers plan t).map PyData.int)) (ev_cat (ev_F (ev_lcP (own := [("_law_k", 9)]) (List.range plan.length) (fun k => PyData.int ((k : Nat) : Int)) (fun k => decide ((oneAt plan k).1 = t) || decide ((oneAt plan k).2.2 = t)) (fun k => .int ((k : Nat) : Int)) rfl sc_law_beside.nd (it_rangeX plan.length B.range (ev_cast (ev_len B.len (ev_var 2)) (by rw [List.length_map])) (by omega)) (blkOk_by (sc := defScope s_law_beside) (N := N_law_beside) (by decide +kernel)) (own_lt rfl) (small_line (by rw [List.length_range]; omega)) rfl fun φ q ds k hk => ?_)) (ev_lst (ds := [_]) (ea_one (ev_len B.len (ev_var 2)) rfl)) ?_) ?_) (fun σ5 H5 S5 => ?_) sc_law_beside.nd)
        · have hkl : k < plan.length := List.mem_range.mp hk
          refine ⟨[9], _, by decide, rfl, fun s H0 Ca cl fp => bd_name 9 sc_law_beside.nd, fun s H0 Ca cl fp => ets_one (et_inL (xs := [.int (oneAt plan k).1, .int (oneAt plan k).2.2]) hu (ev_var 7) (ev_lst (ds := [_, _]) (ea_cons (ev_ixT (j := 0) (ev_ixL (j := k) (ev_var 2) (ev_var 9) rfl (one_get hkl)) ev_int rfl rfl) (ea_one (ev_ixT (j := 2) (ev_ixL (j := k) (ev_var 2) (ev_var 9) rfl (one_get hkl)) ev_int rfl rfl) rfl))) (by rw [List.any_cons, List.any_cons, List.any_nil, eqv_int, eqv_int, Bool.or_false])), fun _ s H0 Ca cl fp => ev_var 9⟩
        · rw [List.length_map]
          have := List.length_filter_le (fun k => decide ((oneAt plan k).1 = t) || decide ((oneAt plan k).2.2 = t)) (List.range plan.length)
          rw [List.length_range] at this
          exact small_line (by simp; omega)
        · unfold movers
          rw [List.map_append, List.map_map, List.length_map]
          rfl
        · have hml := movers_len plan t
          refine go_one (go_if S5 (k := decide (h.pilots < ((movers plan t).length : Nat)) || decide (h.tugs < ((movers plan t).map fun k => (shipAt ships k).tugs).sum)) (et_or (et_cast (et_gt (ev_len B.len (ev_var 8)) (ev_ixT (j := 3) (ev_var 0) ev_int rfl rfl)) (by rw [List.length_map])) fun _ => et_gt (ev_sum (ns := (movers plan t).map fun k => (shipAt ships k).tugs) rfl B.sum (ev_cast (ev_F (ev_lcP (own := [("_law_k", 9)]) (movers plan t) PyData.int (fun _ => true) (fun k => .int (shipAt ships k).tugs) rfl sc_law_beside.nd (it_list (ev_var 8)) (blkOk_by (sc := defScope s_law_beside) (N := N_law_beside) (by decide +kernel)) (own_lt rfl) (small_line (by omega)) rfl fun φ q ds k hk => ?_)) ?_)) (ev_ixT (j := 2) (ev_var 0) ev_int rfl rfl)) (fun hk H6 S6 => ?_) fun hk H6 S6 => ?_)
          · have hkm := movers_mem hk
            obtain ⟨g1, g2⟩ := ship_get (ships := ships) hkm.1 (by omega)
            exact ⟨[9], _, by decide, rfl, fun s H0 Ca cl fp => bd_name 9 sc_law_beside.nd, fun s H0 Ca cl fp => ets_nil, fun _ s H0 Ca cl fp => ev_ixT (j := 4) (ev_ixL (j := k.toNat) (ev_var 1) (ev_var 9) g1 g2) ev_int rfl rfl⟩
          · rw [List.filter_eq_self.mpr (fun _ _ => rfl), List.map_map]
            rfl
          · have e0 : besideHour h ships plan t = false := by unfold besideHour; rw [hk]; rfl
            have e : beside h ships plan one = false := by
              unfold beside
              rw [hany]
              have : ([one.1, one.2.2].all (besideHour h ships plan)) = false := List.all_eq_false.mpr ⟨t, List.mem_of_getElem? hx, by rw [e0]; exact Bool.false_ne_true⟩
              rw [this]
              rfl
            exact go_one (go_ret S6 (ev_cast ev_bool (by rw [e])) fun v H1 S1 r => S1.done r q)
          · refine go_nil ⟨fun j hj t' ht' => ?_, (S6.forget 7).forget 8⟩
            by_cases z : j = i
            · subst z
              rw [hx] at ht'
              cases ht'
              unfold besideHour
              rw [hk]
              rfl
            · exact hP j (by omega) t' ht'
      · have e : beside h ships plan one = true := by
          unfold beside
          rw [hany]
          have : ([one.1, one.2.2].all (besideHour h ships plan)) = true := List.all_eq_true.mpr fun t ht => by
            obtain ⟨j, hj⟩ := List.mem_iff_getElem?.mp ht
            exact hP j (List.getElem?_eq_some_iff.mp hj).1 t hj
          rw [this]
          rfl
        exact go_one (go_ret S3 (ev_cast ev_bool (by rw [e])) fun v H1 S1 r => S1.done r q)
theorem ok_law_plans {f : Addr} {fd : FuncData} (F : Fun K "_law_plans" "_law_plans" s_law_plans f fd) (B : Bn mg) (f1 : Fd P w K mg base 2 "_law_options" ["_law_harbour_here", "_law_ship"] R_law_options) (f2 : Fd P w K mg base 1 "_law_beside" ["_law_harbour_here", "_law_ships_here", "_law_plan", "_law_one"] R_law_beside) : FnOk P w K mg base CX0 3 f fd ["_law_harbour_here", "_law_ships_here"] (SpR K P w R_law_plans) := by
  refine fn_ok F sc_law_plans (fun ds r h => ?_) (by decide) (fun cdv A outer s H M vs ds r Q E hr hR S q => ?_)
  · obtain ⟨h, ships, rfl, _⟩ := h
    rfl
  · obtain ⟨h, ships, rfl, ok, rfl⟩ := hR
    have hu := room_u hr
    have hns := ok.ns.2
    have hla := ok.la
    refine go_cons (go_set 2 S (ev_cast (d' := .list ([[]].map encLP)) (ev_lst (ds := [_]) (ea_one (ev_lst (ds := []) ea_nil) rfl)) rfl) (fun σ1 H1 S1 => ?_) sc_law_plans.nd)
    refine go_cons (go_fold [3] ships encS (plansStep h ships) [[]] (fun b => [.py (encH h), .py (encSs ships), .py (.list (b.map encLP)), .any, .any, .any, .any, .any]) PlansOk S1 PassesOwn.never rfl (it_list (ev_var 1)) (fun σ H S => S) plansOk_zero (fun φ i sh b σ' H' hx hb' hP S2 => ?_) (fun σ' H' _ S2 => ?_))
    · have hi : i < ships.length := (List.getElem?_eq_some_iff.mp hx).1
      obtain ⟨s1, s2, s3, s4, s5, _⟩ := ok.sh sh (List.mem_of_getElem? hx)
      have hol := options_len h sh s1 (by omega) hla.2 ok.nb
      have hbl : b.length ≤ 338 := Nat.le_trans hP.1 (by
        have : i ≤ 1 := by omega
        exact Nat.le_trans (Nat.pow_le_pow_right (n := 338) (j := 1) (by decide) this) (by decide))
      refine ⟨_, bd_name 3 sc_law_plans.nd, fun σ3 H3 S3 => ?_⟩
      refine go_cons (go_set 4 S3 (ev_cl f1 hr (ea_cons (ev_var 0) (ea_one (ev_var 3) rfl)) ⟨h, sh, rfl, ⟨ok.hb, ok.nb, hla.1, hla.2, s1, s2, s4, s5⟩, rfl⟩) (fun σ4 H4 S4 => ?_) sc_law_plans.nd)
      refine go_cons (go_newL 5 S4 (fun q1 σ5 H5 S5 => ?_) sc_law_plans.nd)
      refine go_cons (go_fold [6] b encLP (planStep h ships sh) [] (fun l => [.py (encH h), .py (encSs ships), .py (.list (b.map encLP)), .py (encS sh), .py (encLP (options h sh)), .ml q1 (l.map encLP), .any, .any]) (fun j l => l.length ≤ j * 338) S5 PassesOwn.never rfl (it_list (ev_var 2)) (fun σ H S => S) (Nat.zero_le _) (fun φ j plan l σ' H' hy hl' hP2 S6 => ?_) (fun σ' H' _ S6 => ?_))
      · have hj : j < b.length := (List.getElem?_eq_some_iff.mp hy).1
        have hpl := hP.2 plan (List.mem_of_getElem? hy)
        refine ⟨_, bd_name 6 sc_law_plans.nd, fun σ7 H7 S7 => ?_⟩
        refine go_one (go_ext 5 S7 (ev_lcP (own := [("_law_one", 7)]) (options h sh) encOne (beside h ships plan) (fun one => encLP (plan ++ [one])) rfl sc_law_plans.nd (it_list (ev_var 4)) (blkOk_by (sc := defScope s_law_plans) (N := N_law_plans) (by decide +kernel)) (own_lt rfl) (small_line (by omega)) rfl fun φ q ds one hone => ?_) (hz := ?_) (k := fun H8 S8 => ⟨?_, ?_⟩))
        · refine ⟨[7], _, by decide, rfl, fun s H0 Ca cl fp => bd_name 7 sc_law_plans.nd, fun s H0 Ca cl fp => ets_one (et_val (ev_cl f2 hr (ea_cons (ev_var 0) (ea_cons (ev_var 1) (ea_cons (ev_var 6) (ea_one (ev_var 7) rfl)))) ⟨h, ships, plan, one, rfl, hns, by omega, rfl⟩)), fun _ s H0 Ca cl fp => ev_cast (ev_cat (ev_var 6) (ev_lst (ds := [_]) (ea_one (ev_var 7) rfl)) (by rw [List.length_map]; exact small_line (by simp; omega))) ?_⟩
          unfold encLP
          rw [List.map_append]
          rfl
        · rw [List.length_map, List.length_map]
          have := List.length_filter_le (beside h ships plan) (options h sh)
          have h2 : l.length ≤ 338 * 338 := Nat.le_trans hP2 (Nat.mul_le_mul_right 338 (by omega))
          exact Nat.le_trans (show _ ≤ 1000000 by omega) (by decide)
        · have := planStep_len (ships := ships) hol l plan
          rw [Nat.succ_mul]
          omega
        · have S9 := S8.forget 6
          show SitX _ _ _ [.py (encH h), .py (encSs ships), .py (.list (b.map encLP)), .py (encS sh), .py (encLP (options h sh)), .ml q1 ((planStep h ships sh l plan).map encLP), .any, .any] _ _
          unfold planStep
          rw [List.map_append, List.map_map]
          exact S9
      · have S7 := seal_ml 5 S6
        refine go_one (go_set 2 S7 (ev_var 5) (fun σ8 H8 S8 => ⟨plansStep_ok hol hP, ?_⟩) sc_law_plans.nd)
        exact ((S8.forget 3).forget 4).forget 5
    · exact go_one (go_ret S2 (ev_var 2) fun v H1 S1 r => S1.done r q)
end
end Tk
end

section
namespace Tk
open L2 PyProof.Rows PySem PySem.Spec
/-! ### defs that change the pool: a list of ints, their first argument -/
def SpP (K : PySem.W.Frag) (P : Program) (w : World) (R : List Int → List Dt → List Int → Dt → Prop) : Sp := fun vs H Q _ => ∃ (p : Addr) (M : List Addr) (pool : List Int) (us : List V) (ds : List Dt) (pool' : List Int) (r : Dt), vs = .ref p :: us ∧ R pool ds pool' r ∧ H p = some (.lst (pool.map V.int)) ∧ p ∈ M ∧ (∀ q ∈ M, H q ≠ none) ∧ Paired (RepX K P w (off H M)) us ds ∧
  ∀ v H', Same (off H [p]) H' → H' p = some (.lst (pool'.map V.int)) → RepX K P w (off H' M) v r → Q v H'
def rest (p : Addr) (M : List Addr) : List Addr := M.filter fun a => decide (a ≠ p)
theorem rest_off {p : Addr} {M : List Addr} {H : Hp} (h : p ∈ M) : off H (p :: rest p M) = off H M := by
  funext a
  unfold off
  have e : a ∈ p :: rest p M ↔ a ∈ M := by
    unfold rest
    rw [List.mem_cons, List.mem_filter, decide_eq_true_eq]
    constructor
    · rintro (rfl | h')
      · exact h
      · exact h'.1
    · intro h'
      by_cases z : a = p
      · exact .inl z
      · exact .inr ⟨h', z⟩
  by_cases z : a ∈ M
  · rw [if_pos z, if_pos (e.mpr z)]
  · rw [if_neg z, if_neg fun y => z (e.mp y)]
section
variable {w : World} {P : Program} {base : Heap} {mg : Str → Option Value} {K : PySem.W.Frag}
theorem sit_startP {N : List Str} {H : Hp} {M : List Addr} {p : Addr} {pool : List Int} {us : List V} {ds : List Dt} (hp : H p = some (.lst (pool.map V.int))) (hpM : p ∈ M) (hM : ∀ q ∈ M, H q ≠ none) (r : Paired (RepX K P w (off H M)) us ds) (hl : ds.length + 1 ≤ N.length) :
    Sit K P w ⟨rest p M, H, [p], [], N.length⟩ [p] (.ml p (pool.map PyData.int) :: (ds.map Slot.val ++ List.replicate (N.length - (ds.length + 1)) .any)) (L2.start N (.ref p :: us)) H := by
  have hv : us.length = ds.length := Paired.length r
  have old : ∀ {i : Nat} {s : Slot}, (.ml p (pool.map PyData.int) :: (ds.map Slot.val ++ List.replicate (N.length - (ds.length + 1)) Slot.any))[i]? = some s → (i = 0 ∧ s = .ml p (pool.map PyData.int)) ∨ (∃ j d, i = j + 1 ∧ ds[j]? = some d ∧ s = .val d) ∨ s = .any := fun {i s} h => by
    cases i with
    | zero => exact .inl ⟨rfl, (Option.some.inj h).symm⟩
    | succ i =>
      rw [List.getElem?_cons_succ] at h
      by_cases hi : i < ds.length
      · rw [List.getElem?_append_left (by simpa using hi), List.getElem?_map] at h
        cases q : ds[i]? with
        | none => rw [q] at h; cases h
        | some d => rw [q] at h; exact .inr (.inl ⟨i, d, rfl, q, (Option.some.inj h).symm⟩)
      · rw [List.getElem?_append_right (by simpa using hi), List.getElem?_replicate] at h
        split at h
        · exact .inr (.inr (Option.some.inj h).symm)
        · cases h
  refine ⟨fun a o h => (off_some.mp h).2, fun q hq => off_mem hq, fun q hq => ?_, fun q hq => ?_, by simp, fun φ hφ => (absurd hφ List.not_mem_nil), ?_, fun i s h => ?_, fun i j s t q h1 h2 a1 a2 => ?_⟩
  · rcases List.mem_append.mp hq with hq|hq
    · rw [List.mem_singleton.mp hq, hp]; exact Option.some_ne_none _
    · exact hM q (List.mem_filter.mp hq).1
  · rw [(List.mem_singleton.mp hq)]
    unfold rest
    rw [List.mem_filter, decide_eq_true_eq]
    exact fun z => z.2 rfl
  · unfold L2.start
    rw [List.length_append, List.length_map, List.length_replicate, List.length_cons]
    show _ = N.length
    omega
  · have eo : off H (Cc.M ⟨rest p M, H, [p], [], N.length⟩ [p]) = off H M := rest_off hpM
    rcases old h with ⟨rfl, rfl⟩ | ⟨j, d, rfl, hd, rfl⟩ | rfl
    · exact ⟨by rw [start_get, if_pos (by rw [List.length_cons]; omega)]; rfl, by simp, pool.map V.int, hp, DpAll.of_ints _⟩
    · obtain ⟨v, h1, h2⟩ := paired_at r hd
      refine ⟨v, ?_, by show RepX K P w (off H (Cc.M ⟨rest p M, H, [p], [], N.length⟩ [p])) v d; rw [eo]; exact h2⟩
      have hi : j < us.length := (List.getElem?_eq_some_iff.mp h1).1
      rw [start_get, if_pos (by rw [List.length_cons]; omega), List.getElem?_cons_succ, h1]
      rfl
    · trivial
  · rcases old h1 with ⟨rfl, rfl⟩ | ⟨j', d, rfl, hd, rfl⟩ | rfl
    · rcases old h2 with ⟨rfl, rfl⟩ | ⟨j', d, rfl, hd, rfl⟩ | rfl
      · rfl
      · cases a2
      · cases a2
    · cases a1
    · cases a1
theorem fn_okP {x qual : Str} {st : Stmt} {f : Addr} {fd : FuncData} {N ps : List Str} {k : Nat} {R : List Int → List Dt → List Int → Dt → Prop} (F : Fun K x qual st f fd) (S : FnScope N ps (defScope st)) (len : ∀ pl ds pl' r, R pl ds pl' r → ds.length + 1 = ps.length) (hps : ps.length ≤ N.length)
    (hbody : ∀ (cdv : Value) (A : Around) (outer : List Env) (s : Shared) (H : Hp) (M : List Addr) (p : Addr) (us : List V) (pool pool' : List Int) (ds : List Dt) (r : Dt) (Q : VK) (E : XK), Room k (A.deeper (envOfC qual (defScope st) s.heap.objs.size f cdv)) → R pool ds pool' r →
      Sit K P w ⟨rest p M, H, [p], [], N.length⟩ [p] (.ml p (pool.map PyData.int) :: (ds.map Slot.val ++ List.replicate (N.length - (ds.length + 1)) .any)) (L2.start N (.ref p :: us)) H → p ∈ M → (∀ v H', Same (off H [p]) H' → H' p = some (.lst (pool'.map V.int)) → RepX K P w (off H' M) v r → Q v H') →
      tSs (bodyX P w K mg base N qual st f cdv A outer s H E) (defBody st) { nx := fun _ H' => Q .non H', rt := Q } (L2.start N (.ref p :: us)) H) : FnOk P w K mg base CX0 (k + 1) f fd ps (SpP K P w R) := by
  refine F.ok S (fun vs H Q E h => ?_) (fun cdv A outer s H vs Q E hr h => ?_)
  · obtain ⟨p, M, pool, us, ds, pool', r, rfl, hR, hp, hpM, hM, rp, q⟩ := h
    rw [List.length_cons, Paired.length rp]
    exact len pool ds pool' r hR
  · obtain ⟨p, M, pool, us, ds, pool', r, rfl, hR, hp, hpM, hM, rp, q⟩ := h
    exact ⟨_, pss_tSs, hbody cdv A outer s H M p us pool pool' ds r Q E hr hR (sit_startP hp hpM hM rp (by rw [len pool ds pool' r hR]; exact hps)) hpM q⟩
theorem Sit.doneP {M : List Addr} {H H1 : Hp} {Fs : List (Hp → Prop)} {n i : Nat} {p : Addr} {ρ : List Slot} {σ : L2.St} {v : V} {r : Dt} {Q : VK} {pool' : List Int} (S : Sit K P w ⟨rest p M, H, [p], Fs, n⟩ [p] ρ σ H1) (hpM : p ∈ M) (hr : ρ[i]? = some (.ml p (pool'.map PyData.int))) (h : RepX K P w (off H1 ([p] ++ rest p M)) v r)
    (q : ∀ v H', Same (off H [p]) H' → H' p = some (.lst (pool'.map V.int)) → RepX K P w (off H' M) v r → Q v H') : Q v H1 := by
  obtain ⟨e2, m2, vs, h2, a2⟩ := S.slots i _ hr
  have := a2.ints
  subst this
  refine q v H1 S.ex h2 ?_
  rw [show off H1 ([p] ++ rest p M) = off H1 M from rest_off hpM] at h
  exact h
end
/-- such a def as it may be called -/
def FdP (P : Program) (w : World) (K : PySem.W.Frag) (mg : Str → Option Value) (base : Heap) (k : Nat) (x : Str) (ps : List Str) (R : List Int → List Dt → List Int → Dt → Prop) : Prop :=
  ∃ f fd, FnOk P w K mg base CX0 k f fd ps (SpP K P w R) ∧ mg x = some (.ref f) ∧ PySem.W.keepIn K (.ref f) = true ∧ Binds K fd ps []
abbrev FdPX (X : Cx) := FdP X.prog X.w X.K X.mg X.base
section
variable {X : Cx} {C : Cc} {L : List Addr} {ρ ρ1 ρ2 ρ3 : List Slot} {e a b c tg iter : Expr} {es : List Expr} {d d1 d2 : PyData} {pos p : Pos} {D : Ends} {σ : L2.St} {H : Hp} {body : List Stmt}
/-- f(pool, ..) -/
theorem ev_clP (i : Nat) {j k : Nat} {x y : Str} {ps : List Str} {R : List Int → List Dt → List Int → Dt → Prop} {ds : List Dt} {r : Dt} {q : Addr} {pool pool' : List Int} {py : Pos} (F : FdPX X k x ps R) (hr : Room j X.A) (ha : EvA X C L ρ es ds ρ1) (hi0 : ∃ ds0, ρ[i]? = some (.ml q ds0)) (hi1 : ρ1[i]? = some (.ml q (pool.map PyData.int))) (hq : q ∈ L)
    (hR : R pool ds pool' r) (hkj : k ≤ j := by decide) (hg : Gl X x := by rfl) (hN : X.N[i]? = some y := by rfl) (hv : Vis X.env.scope y := by first | exact Or.inl rfl | exact Or.inr (Or.inl rfl) | exact Or.inr (Or.inr rfl))
    (hd : (y == ("__debug__" : Str)) = false := by decide) (hcd : (y == ("__classdict__" : Str)) = false := by decide)
    (hdb : (x == ("__debug__" : Str)) = false := by decide) (he : starEach (.Name y py :: es) X.env = (false, eval (.Name y py) X.env) :: starEach es X.env := by rfl) (hpl : (backTo pos (starEach es X.env)).any (·.1) = false := by rfl) :
    EvE X C L ρ (.Call (.Name x p) (.Name y py :: es) [] pos) r (ρ1.set i (.ml q (pool'.map PyData.int))) := fun σ H S Q qq => by
  obtain ⟨f, fd, h1, h2, h3, h4⟩ := F
  refine le_E (pe_call h1 (hr.mono hkj) hg h2 h3 h4 .nil (pass0 (X := X)) (pa_cons (pe_var hN hv hd hcd) pa_tA he) hdb he hpl) ?_
  obtain ⟨ds0, hi0⟩ := hi0
  obtain ⟨e1, m1, vs0, g1, a1⟩ := S.slots i _ hi0
  refine ⟨_, e1, ?_⟩
  refine ha σ H S _ fun us H1 S1 f1 r1 => ?_
  obtain ⟨e2, m2, vs, g2, a2⟩ := S1.slots i _ hi1
  have := a2.ints
  subst this
  rw [List.append_nil]
  refine ⟨q, C.M L, pool, us, ds, pool', r, rfl, hR, g2, m2, S1.dom, r1, fun v H' s1 s2 s3 => ?_⟩
  have up : Same (upd H1 q (.lst (pool'.map V.int))) H' := fun a o h => by
    by_cases z : a = q
    · subst z
      rw [upd_same] at h
      rw [s2]; exact h
    · rw [upd_ne z] at h
      exact s1 a o (off_some.mpr ⟨by simpa using z, h⟩)
  have S2 : SitX X C L (ρ1.set i (.ml q (pool'.map PyData.int))) σ (upd H1 q (.lst (pool'.map V.int))) := by
    refine S1.write hq (fun j' s h => ?_) fun j1 j2 s t h1 h2 b1 b2 => ?_
    · rcases set_get h with ⟨rfl, rfl⟩ | ⟨ne, h'⟩
      · refine .inl ⟨rfl, e2, m2, pool'.map V.int, upd_same, ?_⟩
        exact DpAll.of_ints _
      · exact .inr ⟨fun z => ne (S1.inj i j' _ s q hi1 h' rfl z), h'⟩
    · rcases set_get h1 with ⟨rfl, rfl⟩ | ⟨n1, h1'⟩
      · rcases set_get h2 with ⟨rfl, rfl⟩ | ⟨n2, h2'⟩
        · rfl
        · exact S1.inj _ _ _ t q hi1 h2' rfl b2
      · rcases set_get h2 with ⟨rfl, rfl⟩ | ⟨n2, h2'⟩
        · exact S1.inj _ _ s _ q h1' hi1 b1 rfl
        · exact S1.inj _ _ s t q h1' h2' b1 b2
  have fr : Fr (C.M L) H1 H' := (Fr.write (H := H1) (o := .lst (pool'.map V.int)) m2).trans (Fr.of up)
  exact qq v H' (S2.grow up) (f1.trans fr) s3
end
/-! ### the pool, plainly -/
def pickJ (pool : List Int) : Int := 1 + pool.getD 0 0 % ((pool.length : Int) - 1)
def pk (many : Int) (pool : List Int) : List Int × Int := (pool.set 0 (pickJ pool), (pool.set 0 (pickJ pool)).getD (pickJ pool).toNat 0 % many)
def PoolOk (pool : List Int) : Prop := 2 ≤ pool.length ∧ pool.length ≤ 100000
theorem pk_ok {many : Int} {pool : List Int} (h : PoolOk pool) : PoolOk (pk many pool).1 := by
  unfold pk PoolOk at *
  rw [List.length_set]
  exact h
theorem pk_bd {many : Int} {pool : List Int} (h : 0 < many) : 0 ≤ (pk many pool).2 ∧ (pk many pool).2 < many := ⟨Int.emod_nonneg _ (by omega), Int.emod_lt_of_pos _ h⟩
theorem pickJ_bd {pool : List Int} (h : PoolOk pool) : 1 ≤ pickJ pool ∧ pickJ pool < pool.length := by
  unfold pickJ
  have h1 := h.1
  have := Int.emod_nonneg (pool.getD 0 0) (show ((pool.length : Int) - 1) ≠ 0 by omega)
  have := Int.emod_lt_of_pos (pool.getD 0 0) (show 0 < (pool.length : Int) - 1 by omega)
  omega
def R_law_pick : List Int → List Dt → List Int → Dt → Prop := fun pool ds pool' r => ∃ many : Int, ds = [.py (.int many)] ∧ PoolOk pool ∧ 0 < many ∧ pool' = (pk many pool).1 ∧ r = .py (.int (pk many pool).2)
abbrev s_law_pick : Stmt := topS 35
abbrev N_law_pick : List Str := ["_law_pool_here", "_law_many"]
theorem sc_law_pick : FnScope N_law_pick ["_law_pool_here", "_law_many"] (defScope s_law_pick) := ⟨rfl, rfl, rfl, by decide +kernel, rfl, by decide +kernel, by decide +kernel⟩
theorem int_at {ns : List Int} {j : Nat} (h : j < ns.length) : (ns.map PyData.int)[j]? = some (.int (ns.getD j 0)) := by
  rw [List.getElem?_map,List.getElem?_eq_getElem h,List.getD_eq_getElem?_getD,List.getElem?_eq_getElem h]
  rfl
section
variable {X : Cx} {C : Cc} {L : List Addr} {ρ ρ1 ρ2 ρ3 : List Slot} {e a b c tg iter : Expr} {es : List Expr} {d d1 d2 : PyData} {pos p : Pos} {D : Ends} {σ : L2.St} {H : Hp} {body : List Stmt}
/-- len(name), the list being one's own -/
theorem ev_mlen (i : Nat) {x : Str} {q : Addr} {ds : List PyData} {p p2 : Pos} (hm : X.mg "len" = none) (hr : ρ[i]? = some (.ml q ds)) (hi : X.N[i]? = some x := by rfl) (hv : Vis X.env.scope x := by first | exact Or.inl rfl | exact Or.inr (Or.inl rfl) | exact Or.inr (Or.inr rfl))
    (hd : (x == ("__debug__" : Str)) = false := by decide) (hcd : (x == ("__classdict__" : Str)) = false := by decide) (hg : Gl X "len" := by rfl)
    (hst : starEach [.Name x p2] X.env = (false, eval (.Name x p2) X.env) :: starEach [] X.env := by rfl) (hpl : (backTo pos (starEach [] X.env)).any (·.1) = false := by rfl) : EvD X C L ρ (.Call (.Name "len" p) [.Name x p2] [] pos) (.int ds.length) ρ := fun σ H S Q qq => by
  refine le_E (pe_callB call_len_seq hg hm PySem.boot_len (pa_cons (pe_var hi hv hd hcd) pa_nil hst) (by decide) (by decide) hst hpl) ?_
  obtain ⟨e1, m1, vs, g1, a1⟩ := S.slots i _ hr
  exact ⟨_, e1, q, vs, rfl, .inl (SqL.of g1), qq _ H S (Fr.refl _ _) (by rw [a1.length]; exact .int _)⟩
end
section
variable {w : World} {P : Program} {base : Heap} {mg : Str → Option Value} {K : PySem.W.Frag}
theorem ok_law_pick {f : Addr} {fd : FuncData} (F : Fun K "_law_pick" "_law_pick" s_law_pick f fd) (B : Bn mg) : FnOk P w K mg base CX0 1 f fd ["_law_pool_here", "_law_many"] (SpP K P w R_law_pick) := by
  refine fn_okP F sc_law_pick (fun pl ds pl' r h => ?_) (by decide) (fun cdv A outer s H M p us pool pool' ds r Q E hr hR S hpM q => ?_)
  · obtain ⟨many, rfl, _⟩ := h
    rfl
  · obtain ⟨many, rfl, hp, hm, rfl, rfl⟩ := hR
    have hj := pickJ_bd hp
    have h2 := hp.1
    refine go_cons (go_setItem 0 (j := 0) S (he := ev_cast (d' := .int (pickJ pool)) (ev_add ev_int (ev_mod (ev_intI B.int (ev_mlix 0 (j := 0) rfl ⟨_, rfl⟩ ev_int rfl (int_at (by omega)))) (ev_sub (ev_mlen 0 B.len rfl) ev_int) (by rw [List.length_map]; omega))) (by unfold pickJ; rw [List.length_map])) (hix := ev_int) (hz := rfl) (hj := by rw [List.length_map]; omega) (k := fun H1 S1 => ?_))
    rw [← List.map_set] at S1
    have e0 : (pool.set 0 (pickJ pool)).getD 0 0 = pickJ pool := by
      rw [List.getD_eq_getElem?_getD, List.getElem?_set_self (by omega)]
      rfl
    have hl : (pool.set 0 (pickJ pool)).length = pool.length := List.length_set
    refine go_one (go_ret S1 (ev_mod (ev_intI B.int (ev_mlix 0 rfl ⟨_, rfl⟩ (ev_mlix 0 rfl ⟨_, rfl⟩ ev_int rfl (int_at (j := 0) (by rw [hl]; omega))) (j := (pickJ pool).toNat) (by rw [e0]; omega) (int_at (by rw [hl]; omega)))) (ev_var 1) hm) fun v H2 S2 r => S2.doneP hpM (i := 0) rfl r q)
end
end Tk
end

section
namespace Tk
open L2 PyProof.Rows PySem PySem.Spec
/-- n steps that draw from the pool -/
def itP {β : Type} (step : List Int → List Int × β) (n : Nat) (pool : List Int) : List Int × List β := (List.range n).foldl (fun s _ => ((step s.1).1, s.2 ++ [(step s.1).2])) (pool, [])
theorem itP_succ {β : Type} (step : List Int → List Int × β) (n : Nat) (pool : List Int) : itP step (n + 1) pool = ((step (itP step n pool).1).1, (itP step n pool).2 ++ [(step (itP step n pool).1).2]) := by
  unfold itP
  rw [List.range_succ,List.foldl_append]
  rfl
theorem itP_ok {β : Type} {step : List Int → List Int × β} (hs : ∀ pl, PoolOk pl → PoolOk (step pl).1) {pool : List Int} (h : PoolOk pool) : ∀ n, PoolOk (itP step n pool).1
  | 0 => h
  | n + 1 => by rw [itP_succ]; exact hs _ (itP_ok hs h n)
theorem itP_len {β : Type} (step : List Int → List Int × β) (pool : List Int) : ∀ n, (itP step n pool).2.length = n
  | 0 => rfl
  | n + 1 => by rw [itP_succ, List.length_append, itP_len step pool n]; rfl
theorem itP_mem {β : Type} {step : List Int → List Int × β} (hs : ∀ pl, PoolOk pl → PoolOk (step pl).1) {Q : β → Prop} (hq : ∀ pl, PoolOk pl → Q (step pl).2) {pool : List Int} (h : PoolOk pool) : ∀ n, ∀ b ∈ (itP step n pool).2, Q b
  | 0 => fun b hb => absurd hb List.not_mem_nil
  | n + 1 => fun b hb => by
    rw [itP_succ] at hb
    rcases List.mem_append.mp hb with hb|hb
    · exact itP_mem hs hq h n b hb
    · rw [(List.mem_singleton.mp hb)]
      exact hq _ (itP_ok hs h n)
section
variable {X : Cx} {C : Cc} {L : List Addr} {ρ ρ1 ρ2 ρ3 : List Slot} {e a b c tg iter : Expr} {es : List Expr} {d d1 d2 : PyData} {pos p : Pos} {D : Ends} {σ : L2.St} {H : Hp} {body : List Stmt}
theorem lc_pool {β : Type} (encβ : β → PyData) (items : List PyData) (ρf : List Int → List Slot) (step : List Int → List Int × β) {pool : List Int} {elt : Expr} {scope : Scope} {own : List (Str × Nat)} (hi : IterS X C L ρ tg iter items (ρf pool)) (ok : BlkOk X.N X.env.scope scope own) (hown : ∀ v ∈ own.map (·.2), v < C.n)
    (hz : items.length ≤ sizeLine) (hp : PoolOk pool) (hs : ∀ pl, PoolOk pl → PoolOk (step pl).1) (hw : ∀ pl, wipeR (ρf pl) (own.map (·.2)) = ρf pl) (hany : ∀ pl, ∀ v ∈ own.map (·.2), (ρf pl)[v]? = some .any)
    (st : ∀ (φ : Hp → Prop) (q : Addr) (ds : List PyData) (pl : List Int) (x : PyData), PoolOk pl → x ∈ items → ∃ (is : List Nat) (ρb ρe : List Slot), (∀ i ∈ is, i ∈ own.map (·.2)) ∧ wipeR ρe (own.map (·.2)) = ρf (step pl).1 ++ [.hid q ds] ∧
      (∀ (s : Shared) (H0 : Hp) (Ca : Addr) (cl : List (Str × Addr)) (fp : List Addr), Bd (X.blk s H0 scope (compEnvC scope cl Ca X.env) fp) (C.fact φ) (q :: L) is (ρf pl ++ [.hid q ds]) tg x ρb) ∧
      (∀ (s : Shared) (H0 : Hp) (Ca : Addr) (cl : List (Str × Addr)) (fp : List Addr), EvD (X.blk s H0 scope (compEnvC scope cl Ca X.env) fp) (C.fact φ) (q :: L) ρb elt (encβ (step pl).2) ρe)) :
    LcF X C L ρ elt tg iter [] scope own ((itP step items.length pool).2.map encβ) (ρf (itP step items.length pool).1) := by
  refine lc_gen (items := items) (ρ1 := ρf pool) (ρ2 := ρf (itP step items.length pool).1) hi ok hown hz (fun i => ρf (itP step i pool).1) (fun i => (itP step i pool).2.map encβ) (hw _) rfl (fun i s e => ?_) (fun φ q i x hx => ?_)
  · by_cases hi : i ∈ own.map (·.2)
    · rw [hany _ i hi] at e
      exact .inr (.inl (Option.some.inj e).symm)
    · exact .inr (.inr ⟨hi, e⟩)
  · obtain ⟨is, ρb, ρe, h1, h2, h3, h4⟩ := st φ q ((itP step i pool).2.map encβ) (itP step i pool).1 x (itP_ok hs hp i) (List.mem_of_getElem? hx)
    refine ⟨is, ρb, ρb, ρe, true, _, h1, h3, fun s H0 Ca cl fp => ets_nil, fun _ => ⟨h4, ?_, ?_⟩, fun h => Bool.noConfusion h⟩
    · rw [h2, itP_succ]
    · rw [itP_succ, List.map_append]
      rfl
end
/-! ### the harbour, the ships -/
def m1 : List Int := [1, 1, 1, 3]
def m2 : List Int := [2, 4, 6, 12]
def m3 : List Int := [3, 3, 6, 21]
def m4 : List Int := [3, 6, 9]
def moreOf1 (pool : List Int) : List Int × Int := ((pk 4 pool).1, m1.getD (pk 4 pool).2.toNat 0)
def manyOf (pool : List Int) : List Int × Int := pk (m2.getD (pk 4 pool).2.toNat 0) (pk 4 pool).1
def depStep (more : Int) (pool : List Int) : List Int × Int := ((pk 13 pool).1, (pk 13 pool).2 * more)
def berStep (pool : List Int) : List Int × Int := ((pk 7 pool).1, 3 + (pk 7 pool).2)
def depths1 (pool : List Int) : List Int × List Int := itP (depStep (moreOf1 pool).2) (1 + (manyOf (moreOf1 pool).1).2).toNat (manyOf (moreOf1 pool).1).1
def berths1 (pool : List Int) : List Int × List Int := itP berStep (1 + (pk 2 pool).2).toNat (pk 2 pool).1
def lastOf (pool : List Int) (d b : List Int) (last : Int) : List Int × Hb :=
  ((pk 5 (pk 3 (pk 7 pool).1).1).1, ⟨d, b, (pk 7 pool).2, 1 + (pk 3 (pk 7 pool).1).2, last - (pk 5 (pk 3 (pk 7 pool).1).1).2⟩)
def harbourM (pool : List Int) (last : Int) : List Int × Hb := lastOf (berths1 (depths1 pool).1).1 (depths1 pool).2 (berths1 (depths1 pool).1).2 last
theorem getD_pos {l : List Int} (h : ∀ x ∈ l, 0 < x) {j : Nat} (hj : j < l.length) : 0 < l.getD j 0 := by
  rw [List.getD_eq_getElem?_getD, List.getElem?_eq_getElem hj]
  exact h _ (List.getElem_mem hj)
theorem getD_mem0 {l : List Int} {j : Nat} (hj : j < l.length) : l.getD j 0 ∈ l := by
  rw [List.getD_eq_getElem?_getD, List.getElem?_eq_getElem hj]
  exact List.getElem_mem hj
def R_law_harbour : List Int → List Dt → List Int → Dt → Prop := fun pool ds pool' r => ∃ last : Int, ds = [.py (.int last)] ∧ PoolOk pool ∧ pool' = (harbourM pool last).1 ∧ r = .py (encH (harbourM pool last).2)
abbrev s_law_harbour : Stmt := topS 36
abbrev N_law_harbour : List Str := ["_law_pool_here", "_law_last", "_law_more", "_law_depths", "_law_berths", "_law_k"]
theorem sc_law_harbour : FnScope N_law_harbour ["_law_pool_here", "_law_last"] (defScope s_law_harbour) := ⟨rfl, rfl, rfl, by decide +kernel, rfl, by decide +kernel, by decide +kernel⟩
theorem many_bd {pool : List Int} : 0 < m2.getD (pk 4 pool).2.toNat 0 ∧ m2.getD (pk 4 pool).2.toNat 0 ≤ 12 := by
  have h := pk_bd (pool := pool) (many := 4) (by decide)
  have hm := getD_mem0 (l := m2) (j := (pk 4 pool).2.toNat) (by show _ < 4; omega)
  unfold m2 at hm ⊢
  simp only [List.not_mem_nil, or_false, List.mem_cons] at hm
  omega
section
variable {X : Cx} {C : Cc} {L : List Addr} {ρ ρ1 ρ2 ρ3 : List Slot} {e a b c tg iter : Expr} {es : List Expr} {d d1 d2 : PyData} {pos p : Pos} {D : Ends} {σ : L2.St} {H : Hp} {body : List Stmt}
/-- pick(pool, many) -/
theorem ev_pick (i : Nat) {j : Nat} {y : Str} {q : Addr} {pool : List Int} {many : Int} {py p : Pos} (F : FdPX X 1 "_law_pick" ["_law_pool_here", "_law_many"] R_law_pick) (hr : Room j X.A) (ha : EvD X C L ρ a (.int many) ρ1) (hi0 : ∃ ds0, ρ[i]? = some (.ml q ds0)) (hi1 : ρ1[i]? = some (.ml q (pool.map PyData.int))) (hq : q ∈ L)
    (hp : PoolOk pool) (hm : 0 < many) (hkj : 1 ≤ j := by decide) (hg : Gl X "_law_pick" := by rfl) (hN : X.N[i]? = some y := by rfl) (hv : Vis X.env.scope y := by first | exact Or.inl rfl | exact Or.inr (Or.inl rfl) | exact Or.inr (Or.inr rfl))
    (hd : (y == ("__debug__" : Str)) = false := by decide) (hcd : (y == ("__classdict__" : Str)) = false := by decide)
    (he : starEach (.Name y py :: [a]) X.env = (false, eval (.Name y py) X.env) :: starEach [a] X.env := by rfl) (hst : starEach [a] X.env = (false, eval a X.env) :: starEach [] X.env := by rfl) (hpl : (backTo pos (starEach [a] X.env)).any (·.1) = false := by rfl) :
    EvD X C L ρ (.Call (.Name "_law_pick" p) (.Name y py :: [a]) [] pos) (.int (pk many pool).2) (ρ1.set i (.ml q ((pk many pool).1.map PyData.int))) :=
  ev_clP i F hr (ea_one ha hst) hi0 hi1 hq ⟨many, rfl, hp, hm, rfl, rfl⟩ hkj hg hN hv hd hcd (by decide) he hpl
end
section
variable {w : World} {P : Program} {base : Heap} {mg : Str → Option Value} {K : PySem.W.Frag}
theorem ok_law_harbour {f : Addr} {fd : FuncData} (F : Fun K "_law_harbour" "_law_harbour" s_law_harbour f fd) (B : Bn mg) (f1 : FdP P w K mg base 1 "_law_pick" ["_law_pool_here", "_law_many"] R_law_pick) : FnOk P w K mg base CX0 2 f fd ["_law_pool_here", "_law_last"] (SpP K P w R_law_harbour) := by
  refine fn_okP F sc_law_harbour (fun pl ds pl' r h => ?_) (by decide) (fun cdv A outer s H M p us pool pool' ds r Q E hr hR S hpM q => ?_)
  · obtain ⟨many, rfl, _⟩ := h
    rfl
  · obtain ⟨last, rfl, hp, rfl, rfl⟩ := hR
    have b1 := pk_bd (pool := pool) (many := 4) (by decide)
    have p1 : PoolOk (pk 4 pool).1 := pk_ok hp
    refine go_cons (go_set 2 S (ev_ixL (d := .int (moreOf1 pool).2) (j := (pk 4 pool).2.toNat) (ev_lst (ds := m1.map PyData.int) (ea_cons ev_int (ea_cons ev_int (ea_cons ev_int (ea_one ev_int rfl))))) (ev_pick 0 f1 hr ev_int ⟨_, rfl⟩ rfl (by simp) hp (by decide)) (by omega) (int_at (ns := m1) (by show _ < 4; omega))) (fun σ1 H1 S1 => ?_) sc_law_harbour.nd)
    have b2 := pk_bd (pool := (pk 4 pool).1) (many := 4) (by decide)
    have p2 : PoolOk (pk 4 (pk 4 pool).1).1 := pk_ok p1
    have b3 := many_bd (pool := (pk 4 pool).1)
    have b4 := pk_bd (pool := (pk 4 (pk 4 pool).1).1) (many := m2.getD (pk 4 (pk 4 pool).1).2.toNat 0) b3.1
    have p3 : PoolOk (manyOf (moreOf1 pool).1).1 := pk_ok p2
    have n1 : ((1 + (manyOf (moreOf1 pool).1).2).toNat : Int) = 1 + (manyOf (moreOf1 pool).1).2 := Int.toNat_of_nonneg (by have h0 : 0 ≤ (manyOf (moreOf1 pool).1).2 := b4.1; omega)
    have n2 : (1 + (manyOf (moreOf1 pool).1).2).toNat ≤ 12 := by
      have : (manyOf (moreOf1 pool).1).2 < 12 := Int.lt_of_lt_of_le b4.2 b3.2
      omega
    refine go_cons (go_setLc 3 S1 (lc_pool (own := [("_law_k", 5)]) PyData.int ((List.range (1 + (manyOf (moreOf1 pool).1).2).toNat).map fun i => PyData.int ((i : Nat) : Int)) (fun pl => [.ml p (pl.map PyData.int), .py (.int last), .py (.int (moreOf1 pool).2), .any, .any, .any]) (depStep (moreOf1 pool).2) (pool := (manyOf (moreOf1 pool).1).1)
      (it_rangeX _ B.range (ev_cast (ev_add ev_int (ev_pick 0 f1 hr (ev_ixL (d := .int (m2.getD (pk 4 (pk 4 pool).1).2.toNat 0)) (j := (pk 4 (pk 4 pool).1).2.toNat) (ev_lst (ds := m2.map PyData.int) (ea_cons ev_int (ea_cons ev_int (ea_cons ev_int (ea_one ev_int rfl))))) (ev_pick 0 f1 hr ev_int ⟨_, rfl⟩ rfl (by simp) p1 (by decide)) (by omega) (int_at (ns := m2) (by show _ < 4; omega))) ⟨_, rfl⟩ rfl (by simp) p2 b3.1)) (by rw [n1]; rfl)) (by omega))
      (blkOk_by (sc := defScope s_law_harbour) (N := N_law_harbour) (by decide +kernel)) (own_lt rfl) (small_line (by rw [List.length_map, List.length_range]; omega)) p3 (fun pl h => pk_ok (many := 13) h) (fun pl => rfl) (fun pl v hv => by rw [List.mem_singleton.mp hv]; rfl) fun φ q ds pl x hpl hx => ?_) (fun σ2 H2 S2 => ?_) rfl sc_law_harbour.nd (sw_true rfl rfl rfl rfl))
    · refine ⟨[5], _, _, by decide, ?_, fun s H0 Ca cl fp => bd_name 5 sc_law_harbour.nd, fun s H0 Ca cl fp => ev_mul (ev_pick 0 f1 hr ev_int ⟨_, rfl⟩ rfl (by simp) hpl (by decide)) (ev_var 2) (.inl (by have := pk_bd (pool := pl) (many := 13) (by decide); omega))⟩
      rfl
    · rw [List.length_map, List.length_range] at S2
      have p4 : PoolOk (depths1 pool).1 := itP_ok (step := depStep (moreOf1 pool).2) (fun pl h => pk_ok (many := 13) h) p3 _
      have S3 : SitX (bodyX P w K mg base N_law_harbour "_law_harbour" s_law_harbour f cdv A outer s H E) ⟨rest p M, H, [p], [], N_law_harbour.length⟩ [p] [.ml p ((depths1 pool).1.map PyData.int), .py (.int last), .py (.int (moreOf1 pool).2), .py (.list ((depths1 pool).2.map PyData.int)), .any, .any] σ2 H2 := S2
      have b5 := pk_bd (pool := (depths1 pool).1) (many := 2) (by decide)
      have p5 : PoolOk (pk 2 (depths1 pool).1).1 := pk_ok p4
      have n3 : ((1 + (pk 2 (depths1 pool).1).2).toNat : Int) = 1 + (pk 2 (depths1 pool).1).2 := Int.toNat_of_nonneg (by omega)
      refine go_cons (go_setLc 4 S3 (lc_pool (own := [("_law_k", 5)]) PyData.int ((List.range (1 + (pk 2 (depths1 pool).1).2).toNat).map fun i => PyData.int ((i : Nat) : Int)) (fun pl => [.ml p (pl.map PyData.int), .py (.int last), .py (.int (moreOf1 pool).2), .py (.list ((depths1 pool).2.map PyData.int)), .any, .any]) berStep (pool := (pk 2 (depths1 pool).1).1)
        (it_rangeX _ B.range (ev_cast (ev_add ev_int (ev_pick 0 f1 hr ev_int ⟨_, rfl⟩ rfl (by simp) p4 (by decide))) (by rw [n3])) (by omega))
        (blkOk_by (sc := defScope s_law_harbour) (N := N_law_harbour) (by decide +kernel)) (own_lt rfl) (small_line (by rw [List.length_map, List.length_range]; omega)) p5 (fun pl h => pk_ok (many := 7) h) (fun pl => rfl) (fun pl v hv => by rw [List.mem_singleton.mp hv]; rfl) fun φ q ds pl x hpl hx => ?_) (fun σ4 H4 S4 => ?_) rfl sc_law_harbour.nd (sw_true rfl rfl rfl rfl))
      · refine ⟨[5], _, _, by decide, ?_, fun s H0 Ca cl fp => bd_name 5 sc_law_harbour.nd, fun s H0 Ca cl fp => ev_add ev_int (ev_pick 0 f1 hr ev_int ⟨_, rfl⟩ rfl (by simp) hpl (by decide))⟩
        rfl
      · rw [List.length_map, List.length_range] at S4
        have p6 : PoolOk (berths1 (depths1 pool).1).1 := itP_ok (step := berStep) (fun pl h => pk_ok (many := 7) h) p5 _
        have S5 : SitX (bodyX P w K mg base N_law_harbour "_law_harbour" s_law_harbour f cdv A outer s H E) ⟨rest p M, H, [p], [], N_law_harbour.length⟩ [p] [.ml p ((berths1 (depths1 pool).1).1.map PyData.int), .py (.int last), .py (.int (moreOf1 pool).2), .py (.list ((depths1 pool).2.map PyData.int)), .py (.list ((berths1 (depths1 pool).1).2.map PyData.int)), .any] σ4 H4 := S4
        have p7 : PoolOk (pk 7 (berths1 (depths1 pool).1).1).1 := pk_ok p6
        have p8 : PoolOk (pk 3 (pk 7 (berths1 (depths1 pool).1).1).1).1 := pk_ok p7
        refine go_one (go_ret S5 (ev_tup (ds := [_, _, _, _, _]) (ea_cons (ev_var 3) (ea_cons (ev_var 4) (ea_cons (ev_pick 0 f1 hr ev_int ⟨_, rfl⟩ rfl (by simp) p6 (by decide)) (ea_cons (ev_add ev_int (ev_pick 0 f1 hr ev_int ⟨_, rfl⟩ rfl (by simp) p7 (by decide))) (ea_one (ev_sub (ev_var 1) (ev_pick 0 f1 hr ev_int ⟨_, rfl⟩ rfl (by simp) p8 (by decide))) rfl)))))) fun v H6 S6 r => S6.doneP hpM (i := 0) rfl r q)
end
end Tk
end

section
namespace Tk
open L2 PyProof.Rows PySem PySem.Spec
def D3 (mx : Int) : List Int := [1 + mx, 1 + mx, 41]
def readyOf (pool : List Int) : List Int × Int := pk (m3.getD (pk 4 pool).2.toNat 0) (pk 4 pool).1
def draughtOf (mx : Int) (pool : List Int) : List Int × Int := pk ((D3 mx).getD (pk 3 pool).2.toNat 0) (pk 3 pool).1
def lenOf (pool : List Int) : List Int × Int := pk (m4.getD (pk 3 pool).2.toNat 0) (pk 3 pool).1
def shipEnd (r d l : Int) (pool : List Int) : List Int × Sh :=
  ((pk 4 (pk 4 (pk 10 (pk 10 pool).1).1).1).1, ⟨r, 1 + l, d, 1 + (pk 4 (pk 10 (pk 10 pool).1).1).2, (pk 4 (pk 4 (pk 10 (pk 10 pool).1).1).1).2, (pk 10 pool).2, (pk 10 (pk 10 pool).1).2⟩)
def shipM (mx : Int) (pool : List Int) : List Int × Sh := shipEnd (readyOf pool).2 (draughtOf mx (readyOf pool).1).2 (lenOf (draughtOf mx (readyOf pool).1).1).2 (lenOf (draughtOf mx (readyOf pool).1).1).1
def R_law_ships : List Int → List Dt → List Int → Dt → Prop := fun pool ds pool' r => ∃ (h : Hb) (many : Nat), ds = [.py (encH h), .py (.int (many : Nat))] ∧ PoolOk pool ∧ HbOk h ∧ 0 ≤ maxI h.depths ∧ many ≤ 10 ∧ pool' = (itP (shipM (maxI h.depths)) many pool).1 ∧ r = .py (encSs (itP (shipM (maxI h.depths)) many pool).2)
abbrev s_law_ships : Stmt := topS 37
abbrev N_law_ships : List Str := ["_law_pool_here", "_law_harbour_here", "_law_many", "_law_ships_here", "_law_k", "_law_ready", "_law_draught", "_law_length", "_law_costs"]
theorem sc_law_ships : FnScope N_law_ships ["_law_pool_here", "_law_harbour_here", "_law_many"] (defScope s_law_ships) := ⟨rfl, rfl, rfl, by decide +kernel, rfl, by decide +kernel, by decide +kernel⟩
theorem m3_pos : ∀ x ∈ m3, 0 < x := by decide
theorem m4_pos : ∀ x ∈ m4, 0 < x := by decide
theorem D3_pos {mx : Int} (h : 0 ≤ mx) : ∀ x ∈ D3 mx, 0 < x := by
  intro x hx
  unfold D3 at hx
  simp only [List.not_mem_nil, or_false, List.mem_cons] at hx
  omega
theorem idx_lt {many : Int} {n : Nat} {pool : List Int} (h : 0 < many) (hn : many = (n : Nat)) : (pk many pool).2.toNat < n := by
  have := pk_bd (pool := pool) h
  omega
theorem idx_eq {many : Int} {pool : List Int} (h : 0 < many) : (pk many pool).2 = ((pk many pool).2.toNat : Nat) := by
  have := pk_bd (pool := pool) h
  omega
theorem shipM_ok {mx : Int} (hmx : 0 ≤ mx) {pool : List Int} (h : PoolOk pool) : PoolOk (shipM mx pool).1 := by
  have h1 : PoolOk (readyOf pool).1 := pk_ok (pk_ok h)
  have h2 : PoolOk (draughtOf mx (readyOf pool).1).1 := pk_ok (pk_ok h1)
  have h3 : PoolOk (lenOf (draughtOf mx (readyOf pool).1).1).1 := pk_ok (pk_ok h2)
  exact (pk_ok (many := 4) (pk_ok (many := 4) (pk_ok (many := 10) (pk_ok (many := 10) h3))))
section
variable {w : World} {P : Program} {base : Heap} {mg : Str → Option Value} {K : PySem.W.Frag}
theorem ok_law_ships {f : Addr} {fd : FuncData} (F : Fun K "_law_ships" "_law_ships" s_law_ships f fd) (B : Bn mg) (f1 : FdP P w K mg base 1 "_law_pick" ["_law_pool_here", "_law_many"] R_law_pick) : FnOk P w K mg base CX0 2 f fd ["_law_pool_here", "_law_harbour_here", "_law_many"] (SpP K P w R_law_ships) := by
  refine fn_okP F sc_law_ships (fun pl ds pl' r h => ?_) (by decide) (fun cdv A outer s H M p us pool pool' ds r Q E hr hR S hpM q => ?_)
  · obtain ⟨h, many, rfl, _⟩ := h
    rfl
  · obtain ⟨h, many, rfl, hp, hb, hmx, hmany, rfl, rfl⟩ := hR
    refine go_cons (go_newL 3 S (fun q1 σ1 H1 S1 => ?_) sc_law_ships.nd)
    refine go_cons (go_fold [4] (List.range many) (fun k => PyData.int ((k : Nat) : Int)) (fun (s : List Int × List Sh) _ => ((shipM (maxI h.depths) s.1).1, s.2 ++ [(shipM (maxI h.depths) s.1).2])) (pool, []) (fun s => [.ml p (s.1.map PyData.int), .py (encH h), .py (.int (many : Nat)), .ml q1 (s.2.map encS), .any, .any, .any, .any, .any]) (fun i s => PoolOk s.1 ∧ s.2.length = i) S1 PassesOwn.never rfl (it_rangeX many B.range (ev_var 2) (by omega)) (fun σ H S => S) ⟨hp, rfl⟩ (fun φ i k b σ' H' hx hb' hP S2 => ?_) (fun σ' H' hP S2 => ?_))
    · have hi : i < many := by have := (List.getElem?_eq_some_iff.mp hx).1; rwa [List.length_range] at this
      obtain ⟨bp, bs⟩ := b
      obtain ⟨p0, hbl⟩ : PoolOk bp ∧ bs.length = i := hP
      have p1 : PoolOk (pk 4 bp).1 := pk_ok p0
      have p2 : PoolOk (readyOf bp).1 := pk_ok p1
      have p3 : PoolOk (pk 3 (readyOf bp).1).1 := pk_ok p2
      have p4 : PoolOk (draughtOf (maxI h.depths) (readyOf bp).1).1 := pk_ok p3
      have p5 : PoolOk (pk 3 (draughtOf (maxI h.depths) (readyOf bp).1).1).1 := pk_ok p4
      have p6 : PoolOk (lenOf (draughtOf (maxI h.depths) (readyOf bp).1).1).1 := pk_ok p5
      have e3 : (D3 (maxI h.depths)).length = 3 := rfl
      refine ⟨_, bd_name 4 sc_law_ships.nd, fun σ3 H3 S3 => ?_⟩
      refine go_cons (go_set 5 S3 (ev_pick 0 f1 hr (ev_ixL (d := .int (m3.getD (pk 4 bp).2.toNat 0)) (j := (pk 4 bp).2.toNat) (ev_lst (ds := m3.map PyData.int) (ea_cons ev_int (ea_cons ev_int (ea_cons ev_int (ea_one ev_int rfl))))) (ev_pick 0 f1 hr ev_int ⟨_, rfl⟩ rfl (by simp) p0 (by decide)) (idx_eq (by decide)) (int_at (ns := m3) (idx_lt (by decide) rfl))) ⟨_, rfl⟩ rfl (by simp) p1 (getD_pos m3_pos (idx_lt (by decide) rfl))) (fun σ4 H4 S4 => ?_) sc_law_ships.nd)
      refine go_cons (go_set 6 S4 (ev_pick 0 (pool := (pk 3 (readyOf bp).1).1) f1 hr (ev_ixL (d := .int ((D3 (maxI h.depths)).getD (pk 3 (readyOf bp).1).2.toNat 0)) (j := (pk 3 (readyOf bp).1).2.toNat) (ev_lst (ds := (D3 (maxI h.depths)).map PyData.int) (ea_cons (ev_add ev_int (ev_maxL rfl B.max (ev_ixT (j := 0) (ev_var 1) ev_int rfl rfl) hb.1)) (ea_cons (ev_add ev_int (ev_maxL rfl B.max (ev_ixT (j := 0) (ev_var 1) ev_int rfl rfl) hb.1)) (ea_one ev_int rfl))) (small_line (by rw [List.length_map]; exact Nat.le_of_ble_eq_true rfl))) (ev_pick 0 (pool := (readyOf bp).1) f1 hr ev_int ⟨_, rfl⟩ rfl (by simp) p2 (by decide)) (idx_eq (by decide)) (int_at (idx_lt (by decide) rfl))) ⟨_, rfl⟩ rfl (by simp) p3 (getD_pos (D3_pos hmx) (idx_lt (by decide) rfl))) (fun σ5 H5 S5 => ?_) sc_law_ships.nd)
      refine go_cons (go_set 7 S5 (ev_add ev_int (ev_pick 0 (pool := (pk 3 (draughtOf (maxI h.depths) (readyOf bp).1).1).1) f1 hr (ev_ixL (d := .int (m4.getD (pk 3 (draughtOf (maxI h.depths) (readyOf bp).1).1).2.toNat 0)) (j := (pk 3 (draughtOf (maxI h.depths) (readyOf bp).1).1).2.toNat) (ev_lst (ds := m4.map PyData.int) (ea_cons ev_int (ea_cons ev_int (ea_one ev_int rfl)))) (ev_pick 0 (pool := (draughtOf (maxI h.depths) (readyOf bp).1).1) f1 hr ev_int ⟨_, rfl⟩ rfl (by simp) p4 (by decide)) (idx_eq (by decide)) (int_at (ns := m4) (idx_lt (by decide) rfl))) ⟨_, rfl⟩ rfl (by simp) p5 (getD_pos m4_pos (idx_lt (by decide) rfl)))) (fun σ6 H6 S6 => ?_) sc_law_ships.nd)
      have S6' : SitX (bodyX P w K mg base N_law_ships "_law_ships" s_law_ships f cdv A outer s H E) (Cc.fact ⟨rest p M, H, [p], [], N_law_ships.length⟩ φ) [q1, p] [.ml p ((lenOf (draughtOf (maxI h.depths) (readyOf bp).1).1).1.map PyData.int), .py (encH h), .py (.int (many : Nat)), .ml q1 (bs.map encS), .py (.int ((k : Nat) : Int)), .py (.int (readyOf bp).2), .py (.int (draughtOf (maxI h.depths) (readyOf bp).1).2), .py (.int (1 + (lenOf (draughtOf (maxI h.depths) (readyOf bp).1).1).2)), .any] σ6 H6 := S6
      have e : ((shipM (maxI h.depths) bp).1, bs ++ [(shipM (maxI h.depths) bp).2]) = ((shipEnd (readyOf bp).2 (draughtOf (maxI h.depths) (readyOf bp).1).2 (lenOf (draughtOf (maxI h.depths) (readyOf bp).1).1).2 (lenOf (draughtOf (maxI h.depths) (readyOf bp).1).1).1).1, bs ++ [(shipEnd (readyOf bp).2 (draughtOf (maxI h.depths) (readyOf bp).1).2 (lenOf (draughtOf (maxI h.depths) (readyOf bp).1).1).2 (lenOf (draughtOf (maxI h.depths) (readyOf bp).1).1).1).2]) := rfl
      show tSs _ _ { nx := fun σ2 H2 => (PoolOk ((shipM (maxI h.depths) bp).1, bs ++ [(shipM (maxI h.depths) bp).2]).1 ∧ ((shipM (maxI h.depths) bp).1, bs ++ [(shipM (maxI h.depths) bp).2]).2.length = i + 1) ∧ SitX _ _ _ [.ml p (((shipM (maxI h.depths) bp).1, bs ++ [(shipM (maxI h.depths) bp).2]).1.map PyData.int), .py (encH h), .py (.int (many : Nat)), .ml q1 (((shipM (maxI h.depths) bp).1, bs ++ [(shipM (maxI h.depths) bp).2]).2.map encS), .any, .any, .any, .any, .any] σ2 H2, rt := _, bk := _, ct := fun σ2 H2 => (PoolOk ((shipM (maxI h.depths) bp).1, bs ++ [(shipM (maxI h.depths) bp).2]).1 ∧ ((shipM (maxI h.depths) bp).1, bs ++ [(shipM (maxI h.depths) bp).2]).2.length = i + 1) ∧ SitX _ _ _ [.ml p (((shipM (maxI h.depths) bp).1, bs ++ [(shipM (maxI h.depths) bp).2]).1.map PyData.int), .py (encH h), .py (.int (many : Nat)), .ml q1 (((shipM (maxI h.depths) bp).1, bs ++ [(shipM (maxI h.depths) bp).2]).2.map encS), .any, .any, .any, .any, .any] σ2 H2 } σ6 H6
      rw [e]
      generalize (lenOf (draughtOf (maxI h.depths) (readyOf bp).1).1).1 = pl at S6' p6
      generalize (lenOf (draughtOf (maxI h.depths) (readyOf bp).1).1).2 = rl at S6'
      generalize (draughtOf (maxI h.depths) (readyOf bp).1).2 = rd at S6'
      generalize (readyOf bp).2 = rr at S6'
      have p7 : PoolOk (pk 10 pl).1 := pk_ok p6
      have p8 : PoolOk (pk 10 (pk 10 pl).1).1 := pk_ok p7
      have p9 : PoolOk (pk 4 (pk 10 (pk 10 pl).1).1).1 := pk_ok p8
      refine go_cons (go_set 8 S6' (ev_lst (ds := [_, _]) (ea_cons (ev_pick 0 f1 hr ev_int ⟨_, rfl⟩ rfl (by simp) p6 (by decide)) (ea_one (ev_pick 0 f1 hr ev_int ⟨_, rfl⟩ rfl (by simp) p7 (by decide)) rfl))) (fun σ7 H7 S7 => ?_) sc_law_ships.nd)
      refine go_one (go_app 3 S7 (he := ev_tup (ds := [_, _, _, _, _, _, _]) (ea_cons (ev_var 5) (ea_cons (ev_var 7) (ea_cons (ev_var 6) (ea_cons (ev_add ev_int (ev_pick 0 f1 hr ev_int ⟨_, rfl⟩ rfl (by simp) p8 (by decide))) (ea_cons (ev_pick 0 f1 hr ev_int ⟨_, rfl⟩ rfl (by simp) p9 (by decide)) (ea_cons (ev_ixL (j := 0) (ev_var 8) ev_int rfl rfl) (ea_one (ev_ixL (j := 1) (ev_var 8) ev_int rfl rfl) rfl)))))))) (hz := ?_) (k := fun H8 S8 => ⟨⟨pk_ok (many := 4) p9, ?_⟩, ?_⟩))
      · rw [List.length_map, hbl]
        exact Nat.lt_of_lt_of_le hi (small_line (by omega))
      · show (bs ++ [_]).length = i + 1
        rw [List.length_append, hbl]
        rfl
      · have S9 := ((((S8.forget 4).forget 5).forget 6).forget 7).forget 8
        show SitX _ _ _ [_, _, _, .ml q1 ((bs ++ [_]).map encS), _, _, _, _, _] _ _
        rw [List.map_append]
        exact S9
    · have S3 := seal_ml 3 S2
      exact go_one (go_ret S3 (ev_var 3) fun v H4 S4 r => S4.doneP hpM (i := 0) rfl r q)
end
end Tk
end

section
namespace Tk
open L2 PyProof.Rows PySem PySem.Spec
section
variable {X : Cx} {C : Cc} {L : List Addr} {ρ ρ1 ρ2 ρ3 : List Slot} {e a b c tg iter : Expr} {es : List Expr} {d d1 d2 : PyData} {pos p : Pos} {D : Ends} {σ : L2.St} {H : Hp} {body : List Stmt}
/-- one of one's own that no name holds stands still from now on -/
theorem Sit.dropq {K : PySem.W.Frag} {P : Program} {w : World} {p q : Addr} (S : Sit K P w C (p :: q :: L) ρ σ H) (hs : ∀ (i : Nat) (s : Slot), ρ[i]? = some s → s.addr ≠ some q) : Sit K P w C (p :: L) ρ σ H := by
  have sub : ∀ a ∈ p :: L ++ C.M0, a ∈ p :: q :: L ++ C.M0 := fun a h => by
    rcases List.mem_append.mp h with h|h
    · rcases List.mem_cons.mp h with h | h
      · exact List.mem_append_left _ (by rw [h]; exact List.mem_cons_self)
      · exact List.mem_append_left _ (List.mem_cons_of_mem _ (List.mem_cons_of_mem _ h))
    · exact List.mem_append_right _ h
  have subL : ∀ a ∈ p :: L, a ∈ p :: q :: L := fun a h => by
    rcases List.mem_cons.mp h with h | h
    · rw [(h)]; exact List.mem_cons_self
    · exact List.mem_cons_of_mem _ (List.mem_cons_of_mem _ h)
  have le : Same (off H (p :: q :: L ++ C.M0)) (off H (p :: L ++ C.M0)) := off_sub sub
  have nd := S.nd
  rw [List.nodup_cons, List.nodup_cons] at nd
  have back : ∀ a, a ≠ q → a ∈ p :: q :: L ++ C.M0 → a ∈ p :: L ++ C.M0 := fun a ne h => by
    rcases List.mem_append.mp h with h|h
    · rcases List.mem_cons.mp h with h | h
      · exact List.mem_append_left _ (by rw [h]; exact List.mem_cons_self)
      · rcases List.mem_cons.mp h with h | h
        · exact absurd h ne
        · exact List.mem_append_left _ (List.mem_cons_of_mem _ h)
    · exact List.mem_append_right _ h
  refine ⟨S.ex, fun a h => S.own a (subL a h), fun a h => S.dom a (sub a h), fun a h => S.sep a (subL a h), ?_, fun φ h => ⟨(S.facts φ h).1, (S.facts φ h).1 _ _ le (S.facts φ h).2⟩, S.len, fun i s h => ?_, S.inj⟩
  · rw [List.nodup_cons]
    exact ⟨fun h => nd.1 (List.mem_cons_of_mem _ h), nd.2.2⟩
  · have x := S.slots i s h
    have ne := hs i s h
    cases s with
    | any => trivial
    | val d =>
      obtain ⟨v, h1, h2⟩ := x
      exact ⟨v, h1, h2.mono le⟩
    | ml a ds =>
      obtain ⟨h1, h2, vs, h3, h4⟩ := x
      exact ⟨h1, back a (fun z => ne (by rw [z]; rfl)) h2, vs, h3, h4.mono le⟩
    | md a ds =>
      obtain ⟨h1, h2, vs, o, h3, h4⟩ := x
      exact ⟨h1, back a (fun z => ne (by rw [z]; rfl)) h2, vs, o, h3, h4.mono le⟩
    | hid a ds =>
      obtain ⟨h2, vs, h3, h4⟩ := x
      exact ⟨back a (fun z => ne (by rw [z]; rfl)) h2, vs, h3, h4.mono le⟩
/-- name = name + list, name one's own: a new one -/
theorem go_catOwn (i : Nat) {x : Str} {q : Addr} {ds es : List PyData} {p p2 p3 : Pos} (S : SitX X C (q :: L) ρ σ H) (he : EvD X C (q :: L) ρ e (.list es) ρ1) (hr : ρ[i]? = some (.ml q ds)) (hr1 : ρ1[i]? = some (.ml q ds)) (hz : ds.length + es.length ≤ sizeLine)
    (k : ∀ q' σ1 H1, SitX X C (q' :: L) (ρ1.set i (.ml q' (ds ++ es))) σ1 H1 → D.nx σ1 H1) (hN : X.N.Nodup) (hi : X.N[i]? = some x := by rfl) (hn : i < C.n := by exact Nat.le_of_ble_eq_true rfl) (hx : Loc X.env.scope x := by first | exact Or.inl rfl | exact Or.inr rfl)
    (hv : Vis X.env.scope x := by first | exact Or.inl rfl | exact Or.inr (Or.inl rfl) | exact Or.inr (Or.inr rfl)) (hd : (x == ("__debug__" : Str)) = false := by decide) (hcd : (x == ("__classdict__" : Str)) = false := by decide)
    (hs : swapsWith (.BinOp (.Name x p2) .Add e p3) (some (.Name x p)) pos.line X.env = pure false := by rfl) (hf : X.fn x = true ∨ X.env.scope.names.lookup x = some .local := by first | exact .inl rfl | exact .inr rfl) :
    tS X (.Assign [.Name x p] (.BinOp (.Name x p2) .Add e p3) pos) D σ H := by
  refine le_S (ps_set hN hi hx (pe_op op_catL (pe_var hi hv hd hcd) pe_tE) hs hf) ?_
  obtain ⟨e1, m1, vs0, g1, a1⟩ := S.slots i _ hr
  refine ⟨_, e1, ?_⟩
  refine he σ H S _ fun y H1 S1 f1 r1 => ?_
  obtain ⟨e2, m2, vs, g2, a2⟩ := S1.slots i _ hr1
  obtain ⟨b, ws, rfl, h2, a3⟩ := dp_list r1
  refine ⟨q, b, vs, ws, rfl, rfl, SqL.of g2, sqL_off h2, by rw [a2.length, a3.length]; exact hz, fun p' hp' => k p' _ _ ?_⟩
  have S2 : SitX X C (p' :: q :: L) (ρ1.set i (.ml p' (ds ++ es))) (σ.set i (some (.ref p'))) (upd H1 p' (.lst (vs ++ ws))) := by
    refine (S1.new hp').put (s := .ml p' (ds ++ es)) ⟨rfl, by simp, vs ++ ws, upd_same, ?_⟩ hn fun a e' j t ne h => ?_
    · rw [show off (upd H1 p' (.lst (vs ++ ws))) (C.M (p' :: q :: L)) = off H1 (C.M (q :: L)) from off_new hp' _]
      exact a2.append a3
    · cases e'
      exact slot_new S1 hp' j t h
  refine S2.dropq fun j s h z => ?_
  rcases set_get h with ⟨rfl, rfl⟩ | ⟨ne, h'⟩
  · have : p' = q := Option.some.inj z
    rw [this] at hp'
    rw [hp'] at g2
    cases g2
  · exact ne (S1.inj i j _ s q hr1 h' rfl z)
/-- for tg in range(n): an invariant of any kind -/
theorem go_forR {β : Type} (n : Nat) {p2 pos2 : Pos} (f : β → Nat → β) (b0 : β) (I : β → L2.St → Hp → Prop) (S : SitX X C L ρ σ H) (hp : PassesOwn (model X.prog X.w) X.A X.env X.xe) (hc : X.calm = true) (hm : X.mg "range" = none) (he : EvD X C L ρ e (.int (n : Nat)) ρ1) (hn : n ≤ 1000000) (h0 : ∀ H', SitX X C L ρ1 σ H' → I b0 σ H')
    (step : ∀ (k : Nat) (b : β) (σ' : L2.St) (H' : Hp), k < n → b = (List.range k).foldl f b0 → I b σ' H' → tGt X tg (.int ((k : Nat) : Int)) σ' H' fun σ1 H1 => tSs X body { D with nx := fun σ2 H2 => I (f b k) σ2 H2, ct := fun σ2 H2 => I (f b k) σ2 H2, bk := D.nx } σ1 H1)
    (fin : ∀ σ' H', I ((List.range n).foldl f b0) σ' H' → D.nx σ' H') (hg : Gl X "range" := by rfl) (hst : starEach [e] X.env = [(false, eval e X.env)] := by rfl) (hs : ∀ x, foldedSetIterable (.Call (.Name "range" p2) [e] [] pos2) X.env x = pure x := by intro _; rfl) :
    tS X (.For tg (.Call (.Name "range" p2) [e] [] pos2) body [] pos) D σ H := by
  refine le_S (ps_for hp hc (pi_range1 hg hm (pa_cons pe_tE pa_nil hst) hst) pg_tGt pss_tSs hs) ?_
  refine he σ H S _ fun v H1 S1 f1 r1 => ⟨(n : Nat), by rw [dp_int r1], by omega, by omega, ?_⟩
  rw [Int.toNat_natCast]
  refine ⟨fun i m σ' H' => m = n - i ∧ i ≤ n ∧ I ((List.range i).foldl f b0) σ' H', ⟨n, rfl, Nat.zero_le _, h0 H1 S1⟩, ?_⟩
  rintro i m σ' H' ⟨rfl, hle, hI⟩
  by_cases hlt : i < n
  · refine .inr ⟨hlt, fun σ2 H2 => I (f ((List.range i).foldl f b0) i) σ2 H2, fun σ2 H2 h2 => ⟨n - (i + 1), by omega, rfl, hlt, ?_⟩, fun x H3 hy => ?_⟩
    · rw [List.range_succ, List.foldl_append]
      exact h2
    · obtain ⟨rfl, rfl⟩ := hy
      have := step i _ σ' _ hlt rfl hI
      rw [show ((0 : Int) + ((i : Nat) : Int)) = ((i : Nat) : Int) by omega]
      exact this
  · have e : i = n := by omega
    subst e
    exact .inl ⟨Nat.le_refl _, fin σ' H' hI⟩
end
end Tk
end

section
namespace Tk
open L2 PyProof.Rows PySem PySem.Spec
section
variable {X : Cx} {C : Cc} {L : List Addr} {ρ ρ' : List Slot} {e tg : Expr} {σ : L2.St} {H : Hp} {is : List Nat}
theorem Bd.use {d : PyData} {v : V} {Q : L2.St → Hp → Prop} (h : Bd X C L is ρ tg d ρ') (S : SitX X C L ρ σ H) (r : Dp X.K (off H (C.M L)) v d) (k : ∀ σ', SitX X C L ρ' σ' H → Q σ' H) : tGt X tg v σ H Q := h v σ H S r Q fun σ' S' _ => k σ' S'
theorem EvE.use {d : Dt} {Q : VK} (h : EvE X C L ρ e d ρ') (S : SitX X C L ρ σ H) (k : ∀ v H2, SitX X C L ρ' σ H2 → Fr (C.M L) H H2 → RepC X C L H2 v d → Q v H2) : tE X e σ H Q := h σ H S Q k
end
def digStep (s : List Int × Int) (_ : Nat) : List Int × Int := (s.1 ++ [s.2 % 60], s.2 / 60)
def polOne (cell : Int) (k : Nat) : Int := (cell * 48271 + ((k : Nat) : Int) * 69621 + 7) % 2147483647
def polTwo (cell : Int) (k : Nat) : Int := (polOne cell k * 16807 + cell * 31 + ((k : Nat) : Int)) % 1000003
def polSt (cell st : Int) (k : Nat) : Int := (st * 69621 + cell * 48271 + ((k : Nat) : Int)) % 2147483647
def polAdd (cell : Int) (pool : List Int) (k : Nat) : List Int :=
  if (10 : Int) ^ (18 : Int).toNat ≤ cell then ((List.range 60).foldl digStep (pool, cell)).1 else pool ++ [polOne cell k / 11 % 60, polTwo cell k % 60]
def polStep (script : List Int) (b : List Int × Int) (k : Nat) : List Int × Int := (polAdd (script.getD k 0) b.1 k, polSt (script.getD k 0) b.2 k)
def endStep (b : List Int × Int) (_ : Nat) : List Int × Int := (b.1 ++ [(b.2 * 48271 + 11) % 2147483647 / 97 % 60], (b.2 * 48271 + 11) % 2147483647)
def polAll (script : List Int) : List Int × Int := (List.range (min script.length 63)).foldl (polStep script) ([], 17)
def lawPool (script : List Int) : List Int := ((List.range 300).foldl endStep (polAll script)).1
theorem dig_len (cell : Int) (pool : List Int) : ∀ n, ((List.range n).foldl digStep (pool, cell)).1.length = pool.length + n
  | 0 => rfl
  | n + 1 => by
    rw [List.range_succ,List.foldl_append]
    show (((List.range n).foldl digStep (pool, cell)).1 ++ [_]).length = _
    rw [List.length_append, dig_len cell pool n]
    rfl
theorem polAdd_len (cell : Int) (pool : List Int) (k : Nat) : (polAdd cell pool k).length ≤ pool.length + 60 := by
  unfold polAdd
  split
  · rw [dig_len]; exact Nat.le_refl _
  · rw [(List.length_append)]; simp
theorem pol_len (script : List Int) : ∀ n, ((List.range n).foldl (polStep script) ([], 17)).1.length ≤ 60 * n
  | 0 => Nat.le_refl _
  | n + 1 => by
    rw [List.range_succ,List.foldl_append]
    show (polAdd _ ((List.range n).foldl (polStep script) ([], 17)).1 n).length ≤ _
    have h1 := polAdd_len (script.getD n 0) ((List.range n).foldl (polStep script) ([], 17)).1 n
    have h2 := pol_len script n
    omega
theorem end_len (b : List Int × Int) : ∀ n, ((List.range n).foldl endStep b).1.length = b.1.length + n
  | 0 => rfl
  | n + 1 => by
    rw [List.range_succ,List.foldl_append]
    show (((List.range n).foldl endStep b).1 ++ [_]).length = _
    rw [List.length_append, end_len b n]
    rfl
theorem lawPool_ok (script : List Int) : PoolOk (0 :: lawPool script) := by
  unfold PoolOk lawPool
  rw [List.length_cons, end_len]
  have : (polAll script).1.length ≤ 60 * min script.length 63 := pol_len script _
  have h2 : min script.length 63 ≤ 63 := Nat.min_le_right _ _
  omega
def R_law_pool : List Dt → Dt → Prop := fun ds r => ∃ script : List Int, ds = [.py (.list (script.map .int))] ∧ script.length ≤ 1000 ∧ r = .py (.list ((lawPool script).map .int))
abbrev s_law_pool : Stmt := topS 33
abbrev N_law_pool : List Str := ["_law_script", "_law_pool_here", "_law_state", "_law_k", "_law_cell", "_law_step", "_law_one", "_law_two"]
theorem sc_law_pool : FnScope N_law_pool ["_law_script"] (defScope s_law_pool) := ⟨rfl, rfl, rfl, by decide +kernel, rfl, by decide +kernel, by decide +kernel⟩
abbrev s_law_stream : Stmt := topS 34
abbrev N_law_stream : List Str := ["_law_script"]
theorem sc_law_stream : FnScope N_law_stream ["_law_script"] (defScope s_law_stream) := ⟨rfl, rfl, rfl, by decide +kernel, rfl, by decide +kernel, by decide +kernel⟩
section
variable {w : World} {P : Program} {base : Heap} {mg : Str → Option Value} {K : PySem.W.Frag}
theorem ok_law_pool {f : Addr} {fd : FuncData} (F : Fun K "_law_pool" "_law_pool" s_law_pool f fd) (B : Bn mg) : FnOk P w K mg base CX0 1 f fd ["_law_script"] (SpR K P w R_law_pool) := by
  refine fn_ok F sc_law_pool (fun ds r h => ?_) (by decide) (fun cdv A outer s H M vs ds r Q E hr hR S q => ?_)
  · obtain ⟨script, rfl, _⟩ := h
    rfl
  · obtain ⟨script, rfl, hsl, rfl⟩ := hR
    refine go_cons (go_newL 1 S (fun q1 σ1 H1 S1 => ?_) sc_law_pool.nd)
    refine go_cons (go_set 2 S1 ev_int (fun σ2 H2 S2 => ?_) sc_law_pool.nd)
    refine go_cons (go_forR (min script.length 63) (polStep script) ([], 17) (fun b σ H1 => ∃ q1, SitX (bodyX P w K mg base N_law_pool "_law_pool" s_law_pool f cdv A outer s H E) ⟨M, H, [], [], N_law_pool.length⟩ [q1] [.py (.list (script.map .int)), .ml q1 (b.1.map PyData.int), .py (.int b.2), .any, .any, .any, .any, .any] σ H1) S2 PassesOwn.never rfl B.range (ev_cast (ev_min2 rfl B.min (ev_len B.len (ev_var 0)) ev_int) (by rw [List.length_map]; congr 1; omega)) (by omega) (fun H3 S3 => ⟨q1, S3⟩) (fun k b σ' H' hk hb ⟨q2, S3⟩ => ?_) (fun σ' H' ⟨q2, S3⟩ => ?_))
    · have hkl : k < script.length := by omega
      have hbl : b.1.length ≤ 4000 := by
        have := pol_len script k
        rw [← hb] at this
        omega
      refine Bd.use (bd_name 3 sc_law_pool.nd) S3 (.int _) fun σ4 S4 => ?_
      refine go_cons (go_set 4 S4 (ev_ixL (j := k) (ev_var 0) (ev_var 3) rfl (int_at hkl)) (fun σ5 H5 S5 => ?_) sc_law_pool.nd)
      refine go_cons (go_set 2 S5 (ev_mod (ev_intI B.int (ev_add (ev_add (ev_mul (ev_var 2) ev_int (.inr (by omega))) (ev_mul (ev_var 4) ev_int (.inr (by omega)))) (ev_var 3))) ev_int (by omega)) (fun σ6 H6 S6 => ?_) sc_law_pool.nd)
      refine go_one (go_if S6 (et_ge (ev_var 4) (ev_pow ev_int ev_int ⟨by omega, by omega, by decide⟩)) (fun hq H7 S7 => ?_) fun hq H7 S7 => ?_)
      · have e : polStep script b k = (((List.range 60).foldl digStep (b.1, script.getD k 0)).1, polSt (script.getD k 0) b.2 k) := by
          unfold polStep polAdd
          rw [if_pos (of_decide_eq_true hq)]
        rw [e]
        refine go_one (go_fold [5] (List.range 60) (fun k => PyData.int ((k : Nat) : Int)) digStep (b.1, script.getD k 0) (fun s => [.py (.list (script.map .int)), .ml q2 (s.1.map PyData.int), .py (.int (polSt (script.getD k 0) b.2 k)), .py (.int ((k : Nat) : Int)), .py (.int s.2), .any, .any, .any]) (fun i s => s.1.length ≤ 4000 + i) S7 PassesOwn.never rfl (it_rangeX 60 B.range ev_int (by omega)) (fun σ H S => S) (by show b.1.length ≤ _; omega) (fun φ i j s' σ' H' hx hs' hP S8 => ?_) (fun σ' H' _ S8 => ?_))
        · have hi : i < 60 := by have := (List.getElem?_eq_some_iff.mp hx).1; rwa [List.length_range] at this
          refine ⟨_, bd_name 5 sc_law_pool.nd, fun σ9 H9 S9 => ?_⟩
          refine go_cons (go_app 1 S9 (he := ev_mod (ev_intI B.int (ev_var 4)) ev_int (by omega)) (hz := ?_) (k := fun H10 S10 => ?_))
          · rw [List.length_map]
            exact Nat.lt_of_le_of_lt hP (line_100k (by omega))
          · refine go_one (go_set 4 S10 (ev_fdiv (ev_var 4) ev_int ⟨by omega, by omega⟩) (fun σ11 H11 S11 => ⟨?_, ?_⟩) sc_law_pool.nd)
            · show (s'.1 ++ [_]).length ≤ _
              rw [List.length_append]
              simp
              omega
            · have S12 := S11.forget 5
              show SitX _ _ _ [_, .ml q2 ((s'.1 ++ [_]).map PyData.int), _, _, _, _, _, _] _ _
              rw [List.map_append]
              exact S12
        · exact ⟨q2, (S8.forget 3).forget 4⟩
      · have e : polStep script b k = (b.1 ++ [polOne (script.getD k 0) k / 11 % 60, polTwo (script.getD k 0) k % 60], polSt (script.getD k 0) b.2 k) := by
          unfold polStep polAdd
          rw [if_neg (of_decide_eq_false hq)]
        rw [e]
        refine go_cons (go_set 6 S7 (ev_mod (ev_intI B.int (ev_add (ev_add (ev_mul (ev_var 4) ev_int (.inr (by omega))) (ev_mul (ev_var 3) ev_int (.inr (by omega)))) ev_int)) ev_int (by omega)) (fun σ8 H8 S8 => ?_) sc_law_pool.nd)
        refine go_cons (go_set 7 S8 (ev_mod (ev_intI B.int (ev_add (ev_add (ev_mul (ev_var 6) ev_int (.inr (by omega))) (ev_mul (ev_var 4) ev_int (.inr (by omega)))) (ev_var 3))) ev_int (by omega)) (fun σ9 H9 S9 => ?_) sc_law_pool.nd)
        refine go_one (go_catOwn 1 S9 (es := [.int (polOne (script.getD k 0) k / 11 % 60), .int (polTwo (script.getD k 0) k % 60)]) (ev_lst (ds := [_, _]) (ea_cons (ev_mod (ev_intI B.int (ev_fdiv (ev_var 6) ev_int ⟨by omega, by omega⟩)) ev_int (by omega)) (ea_one (ev_mod (ev_intI B.int (ev_var 7)) ev_int (by omega)) rfl))) rfl rfl ?_ (fun q3 σ10 H10 S10 => ⟨q3, ?_⟩) sc_law_pool.nd)
        · rw [List.length_map]
          exact Nat.le_of_lt (line_100k (by simp; omega))
        · have S11 := (((S10.forget 3).forget 4).forget 6).forget 7
          show SitX _ _ _ [_, .ml q3 ((b.1 ++ [_, _]).map PyData.int), _, _, _, _, _, _] _ _
          rw [List.map_append]
          exact S11
    · have hpl : (polAll script).1.length ≤ 4000 := by
        have : (polAll script).1.length ≤ 60 * min script.length 63 := pol_len script _
        have h2 : min script.length 63 ≤ 63 := Nat.min_le_right _ _
        omega
      rw [show (List.range (min script.length 63)).foldl (polStep script) ([], 17) = polAll script from rfl] at S3
      refine go_cons (go_fold [5] (List.range 300) (fun k => PyData.int ((k : Nat) : Int)) endStep (polAll script) (fun s => [.py (.list (script.map .int)), .ml q2 (s.1.map PyData.int), .py (.int s.2), .any, .any, .any, .any, .any]) (fun i s => s.1.length ≤ 4000 + i) S3 PassesOwn.never rfl (it_rangeX 300 B.range ev_int (by omega)) (fun σ H S => S) (by omega) (fun φ i j s' σ' H' hx hs' hP S8 => ?_) (fun σ' H' _ S8 => ?_))
      · have hi : i < 300 := by have := (List.getElem?_eq_some_iff.mp hx).1; rwa [List.length_range] at this
        refine ⟨_, bd_name 5 sc_law_pool.nd, fun σ9 H9 S9 => ?_⟩
        refine go_cons (go_set 2 S9 (ev_mod (ev_intI B.int (ev_add (ev_mul (ev_var 2) ev_int (.inr (by omega))) ev_int)) ev_int (by omega)) (fun σ10 H10 S10 => ?_) sc_law_pool.nd)
        refine go_one (go_app 1 S10 (he := ev_mod (ev_intI B.int (ev_fdiv (ev_var 2) ev_int ⟨by omega, by omega⟩)) ev_int (by omega)) (hz := ?_) (k := fun H11 S11 => ⟨?_, ?_⟩))
        · rw [List.length_map]
          exact Nat.lt_of_le_of_lt hP (line_100k (by omega))
        · show (s'.1 ++ [_]).length ≤ _
          rw [List.length_append]
          simp
          omega
        · have S12 := S11.forget 5
          show SitX _ _ _ [_, .ml q2 ((s'.1 ++ [_]).map PyData.int), _, _, _, _, _, _] _ _
          rw [List.map_append]
          exact S12
      · have S9 := seal_ml 1 S8
        exact go_one (go_ret S9 (ev_var 1) fun v H1 S1 r => S1.done r q)
end
/-! ### a def that gives a new list of ints -/
def SpF (K : PySem.W.Frag) (P : Program) (w : World) (R : List Dt → List Int → Prop) : Sp := fun vs H Q _ => ∃ (M : List Addr) (ds : List Dt) (ns : List Int), R ds ns ∧ (∀ p ∈ M, H p ≠ none) ∧ Paired (RepX K P w (off H M)) vs ds ∧
  ∀ p H', Same H H' → H p = none → H' p = some (.lst (ns.map V.int)) → Q (.ref p) H'
def FdF (P : Program) (w : World) (K : PySem.W.Frag) (mg : Str → Option Value) (base : Heap) (k : Nat) (x : Str) (ps : List Str) (R : List Dt → List Int → Prop) : Prop :=
  ∃ f fd, FnOk P w K mg base CX0 k f fd ps (SpF K P w R) ∧ mg x = some (.ref f) ∧ PySem.W.keepIn K (.ref f) = true ∧ Binds K fd ps []
def R_law_stream : List Dt → List Int → Prop := fun ds ns => ∃ script : List Int, ds = [.py (.list (script.map .int))] ∧ script.length ≤ 1000 ∧ ns = 0 :: lawPool script
section
variable {w : World} {P : Program} {base : Heap} {mg : Str → Option Value} {K : PySem.W.Frag}
theorem ok_law_stream {f : Addr} {fd : FuncData} (F : Fun K "_law_stream" "_law_stream" s_law_stream f fd) (B : Bn mg) (f1 : Fd P w K mg base 1 "_law_pool" ["_law_script"] R_law_pool) : FnOk P w K mg base CX0 2 f fd ["_law_script"] (SpF K P w R_law_stream) := by
  refine F.ok sc_law_stream (fun vs H Q E h => ?_) (fun cdv A outer s H vs Q E hr h => ?_)
  · obtain ⟨M, ds, r, hR, hM, rp, q⟩ := h
    obtain ⟨script, rfl, _⟩ := hR
    rw [Paired.length rp]
    rfl
  · obtain ⟨M, ds, ns, hR, hM, rp, q⟩ := h
    obtain ⟨script, rfl, hsl, rfl⟩ := hR
    refine ⟨_, pss_tSs, ?_⟩
    have S : Sit K P w ⟨M, H, [], [], N_law_stream.length⟩ [] ([Dt.py (.list (script.map .int))].map Slot.val ++ List.replicate (N_law_stream.length - 1) .any) (L2.start N_law_stream vs) H := sit_start hM rp (Nat.le_of_ble_eq_true rfl)
    refine go_one (le_S (ps_ret (pe_op op_catL pe_tE pe_tE)) ?_)
    refine EvE.use (ev_lst (ds := [.int 0]) (ea_one ev_int rfl)) S fun x H1 S1 f1' r1 => ?_
    refine EvE.use (ev_cl f1 hr (ea_one (ev_var 0) rfl) ⟨script, rfl, hsl, rfl⟩) S1 fun y H2 S2 f2 r2 => ?_
    have hlen := (lawPool_ok script).2
    generalize lawPool script = ns at r2 q hlen
    obtain ⟨p1, rfl, h1⟩ := dp_ints (ns := [0]) (r1.mono f2)
    obtain ⟨p2, rfl, h2⟩ := dp_ints r2
    refine ⟨p1, p2, _, _, rfl, rfl, h1, h2, ?_, fun p hp => ?_⟩
    · rw [List.length_map]
      rw [List.length_cons] at hlen
      exact Nat.le_of_lt (line_100k (by simp; omega))
    · have ex : Same H H2 := fun a o e => S2.ex a o (by show off H [] a = some o; rw [off_nil]; exact e)
      have hn : H p = none := by
        cases z : H p with
        | none => rfl
        | some o => rw [ex p o z] at hp; cases hp
      exact q p _ (Same.trans ex (same_new hp)) hn (by rw [upd_same]; rfl)
end
end Tk
end

section
namespace Tk
open L2 PyProof.Rows PySem PySem.Spec

/-! ### the law's own def, entered by the claim's caller alone: nothing is being shown -/
section
variable {P : Program} {w : World} {K : PySem.W.Frag} {mg : Str → Option Value}
/-- where the body runs -/
abbrev lawX (P : Program) (w : World) (K : PySem.W.Frag) (mg : Str → Option Value) (base : Heap) (N : List Str) (qual : Str) (st : Stmt) (f : Addr) (cdv : Value) (s : Shared) (H : Hp) : Cx :=
  bodyX P w K mg base N qual st f cdv callerA [] s H E0
/-- the def entered with the script at a -/
theorem enter_law {x qual y : Str} {st : Stmt} {f a : Addr} {fd : FuncData} {N : List Str} {k : Nat} {base : Heap} {s : Shared} {H : Hp} (F : Fun K x qual st f fd) (S : FnScope N [y] (defScope st)) (hr : Room (k + 1) callerA) (e0 : Env0 P w K mg base callerA [] s H) (hb : BindsTo s fd ⟨[.ref a], []⟩ [(y, .ref a)])
    (body : ∀ (cdv : Value), Room k (callerA.deeper (envOfC qual (defScope st) s.heap.objs.size f cdv)) → tSs (lawX P w K mg base N qual st f cdv s H) (defBody st) { nx := fun _ _ => False, rt := fun v _ => v = .bl true } (L2.start N [.ref a]) H) :
    codeAny (model P w) callerA (.call (.ref f) ⟨[.ref a], []⟩) (fun r s' => r = .ok (.ret (.bool true)) ∧ ∃ H', s'.os = s.os ∧ AllBare s'.gens ∧ Un (frs []) [] H H' s.heap s'.heap ∧ HOk P w H' s'.heap) s := by
  obtain ⟨oc, od, kV, doc, pm, an, cdv, ct, osl, rfl, look, hcd⟩ := F.ex
  have old : ∀ b o, base.get? b = some o → s.heap.get? b = some o := fun b o h => (e0.bs b o h).1
  have kin := e0.mod.kin.keeps old
  have par : ∀ z ∈ ([y].zip [Value.ref a] : List (Str × Value)), (defScope st).names.lookup z.1 = some .local ∨ ((defScope st).names.lookup z.1 = some .cell ∧ ((cellsFrom (s.heap.objs.size + 1) (defScope st).names []).lookup z.1).isSome = true) := by
    intro z hz
    have hz' := List.mem_singleton.mp hz
    subst hz'
    exact (S.par y List.mem_cons_self).imp id fun q => ⟨q, PySem.W.cellsFrom_some _ _ _ (.inl q)⟩
  refine codeAny_call_function hr.depth (kin _ _ look) rfl S.co S.gen rfl (PySem.W.codeRec_of kin hcd) (hb _ _ _ _ (wpAny_newFunctionEnv_cells S.kind par ?_))
  rintro env rfl t1 hc
  refine ⟨(e0.mod.nolimit.keeps old).keeps hc.toInCall.keep, codeAny_func ?_⟩
  have I0 := (inv_start (CX := CX0) (E := E0) (us := [Value.ref a]) (vs := [V.ref a]) S hr.hd e0 rfl (.cons rfl .nil) hc)
  have go := (PSs.nox (pss_tSs (X := lawX P w K mg base N qual st f cdv s H) (st := defBody st))).run [] t1 _ H _ I0 (body cdv (hr.deeper _))
  refine wpAny_mono go (fun fl t2 h => ?_) fun e t2 h => wpAny_mono h (fun _ _ z => False.elim z) fun _ _ z => False.elim z
  cases fl with
  | next => obtain ⟨_, _, _, z⟩ := h; exact z.elim
  | brk => obtain ⟨_, _, _, z⟩ := h; exact z.elim
  | cont => obtain ⟨_, _, _, z⟩ := h; exact z.elim
  | ret u =>
    obtain ⟨v, τ, H', J, rv, z⟩ := h
    have z' : v = .bl true := z
    subst z'
    have hu : u = .bool true := rv
    exact ⟨by rw [hu], H', J.os, J.bare, J.base, J.hok⟩
end
end Tk
end

section
namespace Tk
open L2 PyProof.Rows PySem PySem.Spec
/-! ### data whose text is short -/
def ShN (n : Nat) (d : PyData) : Prop := d.showable = true ∧ d.hasDict = false ∧ d.leavesShort 13 = true ∧ d.weight ≤ n
theorem ShN.len {n : Nat} {d : PyData} (h : ShN n d) (hn : n ≤ 1000000) : d.shown.length ≤ sizeLine := by
  have := PyData.shown_le 13 (by decide) d h.2.2.1
  have := h.2.2.2
  exact Nat.le_trans (show _ ≤ 15000013 by omega) (by decide)
theorem ShN.mono {n m : Nat} {d : PyData} (h : ShN n d) (hn : n ≤ m) : ShN m d := ⟨h.1, h.2.1, h.2.2.1, Nat.le_trans h.2.2.2 hn⟩
theorem shN_int {i : Int} (h : i.natAbs < 1000000) : ShN 40 (.int i) := by
  have hl : i.natAbs.log2 < 20 := by
    by_cases z : i.natAbs = 0
    · rw [z]; decide
    · exact (Nat.log2_lt z).mpr (Nat.lt_of_lt_of_le h (by decide))
  refine ⟨?_, rfl, ?_, ?_⟩
  · show decide (i.natAbs.log2 < 1920) = true
    exact decide_eq_true_iff.mpr (by omega)
  · show decide ((PyData.shown (.int i)).length ≤ 13) = true
    exact decide_eq_true (PyData.shown_int_le (Nat.lt_of_lt_of_le h (by decide)))
  · show (if i == 0 then 0 else i.natAbs.log2 + 1) ≤ 40
    split <;> omega
theorem shN_none : ShN 0 .none := ⟨rfl, rfl, rfl, Nat.le_refl _⟩
theorem shN_all {n : Nat} : ∀ {xs : List PyData}, (∀ x ∈ xs, ShN n x) → PyData.showableAll xs = true ∧ PyData.hasDictAll xs = false ∧ PyData.leavesShortAll 13 xs = true ∧ PyData.weightAll xs ≤ (n + 1) * xs.length
  | [], _ => ⟨rfl, rfl, rfl, Nat.zero_le _⟩
  | x :: xs, h => by
    obtain ⟨a, b, c, e⟩ := shN_all (n := n) (xs := xs) fun y hy => h y (List.mem_cons_of_mem _ hy)
    obtain ⟨a1, b1, c1, e1⟩ := h x List.mem_cons_self
    refine ⟨?_, ?_, ?_, ?_⟩
    · show (x.showable && _) = true
      rw [a1, a]; rfl
    · show (x.hasDict || _) = false
      rw [b1, b]; rfl
    · show (x.leavesShort 13 && _) = true
      rw [c1, c]; rfl
    · show x.weight + 1 + PyData.weightAll xs ≤ _
      rw [List.length_cons, Nat.mul_succ]
      omega
theorem shN_list {n m : Nat} {xs : List PyData} (h : ∀ x ∈ xs, ShN n x) (hm : (n + 1) * xs.length ≤ m) : ShN m (.list xs) :=
  let ⟨a, b, c, e⟩ := shN_all h
  ⟨a, b, c, Nat.le_trans e hm⟩
theorem shN_tup {n m : Nat} {xs : List PyData} (h : ∀ x ∈ xs, ShN n x) (hm : (n + 1) * xs.length ≤ m) : ShN m (.tuple xs) :=
  let ⟨a, b, c, e⟩ := shN_all h
  ⟨a, b, c, Nat.le_trans e hm⟩
theorem call_repr_dp {X : Cx} (hg : X.A.guards = some []) (hu : X.A.units + 200 < cLine) : CallR X (.builtin "repr") (fun xs H Q => ∃ v d n, xs = [v] ∧ Dp X.K H v d ∧ d.depth ≤ 64 ∧ (d = .none ∨ (∃ i, d = .int i) ∨ (∃ xs, d = .list xs) ∨ ∃ xs, d = .tuple xs) ∧ ShN n d ∧ n ≤ 1000000 ∧ Q (.str d.shown) H) := by
  intro pn s σ H xs us Q I r h
  obtain ⟨v, d, n, rfl, dp, hd, hk, hs, hn, q⟩ := h
  obtain ⟨u, rfl, ru⟩ := id (vals1 r)
  obtain ⟨as, rd⟩ := Dp.reads I d v u dp ru
  have fin : ∀ (a : Addr), u = .ref a → wpAny (model X.prog X.w) X.A (call (.builtin "repr") [u]) (EP X pn σ Q) X.xe s := fun a e => by
    subst e
    exact repr_of_reads' rd hs.1 (PyData.noDict_hsm hs.2.1) hg (by omega) (fun _ _ e => e) (fun h' u tk hk => ⟨.str _, H, I.kept hk, ⟨_, rfl⟩, q⟩) (hs.len hn)
  rcases hk with rfl | ⟨i, rfl⟩ | ⟨xs, rfl⟩ | ⟨xs, rfl⟩
  · cases rd
    exact PySem.P.repr_of_none ⟨.str _, H, I.tok _, ⟨_, rfl⟩, q⟩
  · cases dp
    obtain ⟨t, rfl⟩ := ru
    have hlog : i.natAbs.log2 < 1920 := of_decide_eq_true (show decide (i.natAbs.log2 < 1920) = true from hs.1)
    exact PySem.P.repr_of_int hlog ⟨.str _, H, I.tok _, ⟨_, rfl⟩, q⟩
  · cases dp
    exact fin _ ru
  · cases dp
    exact fin _ ru
section
variable {X : Cx} {C : Cc} {L : List Addr} {ρ ρ1 : List Slot} {a : Expr} {pos p : Pos}
theorem ev_repr {d : PyData} {n : Nat} (hm : X.mg "repr" = none) (hgd : X.A.guards = some []) (hu : X.A.units + 200 < cLine) (ha : EvD X C L ρ a d ρ1) (hs : ShN n d) (hk : d = .none ∨ (∃ i, d = .int i) ∨ (∃ xs, d = .list xs) ∨ ∃ xs, d = .tuple xs) (hn : n ≤ 1000000) (hd : d.depth ≤ 64) (hg : Gl X "repr" := by rfl)
    (hst : starEach [a] X.env = (false, eval a X.env) :: starEach [] X.env := by rfl) (hpl : (backTo pos (starEach [] X.env)).any (·.1) = false := by rfl) : EvD X C L ρ (.Call (.Name "repr" p) [a] [] pos) (.str d.shown) ρ1 :=
  ev_b (call_repr_dp hgd hu) hm PyProof.Rows.boot_repr (ea_one ha hst) (fun vs σ H S r Q q => by
    obtain ⟨v, rfl, r1⟩ := one_of r
    exact ⟨v, d, n, rfl, rx_off r1, hd, hk, hs, hn, q _ H (Same.refl H) (.str _)⟩) hg (by decide) (by decide) hst hpl
end
end Tk
end

section
namespace Tk
open L2 PyProof.Rows PySem PySem.Spec
section
variable {X : Cx} {C : Cc} {L : List Addr} {ρ ρ1 ρ2 ρ3 : List Slot} {e a b c tg iter : Expr} {es : List Expr} {d d1 d2 : PyData} {pos p : Pos} {D : Ends} {σ : L2.St} {H : Hp} {body : List Stmt}
abbrev FdFX (X : Cx) := FdF X.prog X.w X.K X.mg X.base
/-- name = f(..), a new list of ints of one's own -/
theorem go_setF (i : Nat) {j k : Nat} {x fx : Str} {ps : List Str} {R : List Dt → List Int → Prop} {ds : List Dt} {ns : List Int} {p p2 p3 : Pos} (F : FdFX X k fx ps R) (hr : Room j X.A) (S : SitX X C L ρ σ H) (ha : EvA X C L ρ (e :: es) ds ρ1) (hR : R ds ns) (hkj : k ≤ j) (kk : ∀ q σ1 H1, SitX X C (q :: L) (ρ1.set i (.ml q (ns.map PyData.int))) σ1 H1 → D.nx σ1 H1)
    (hN : X.N.Nodup) (hi : X.N[i]? = some x := by rfl) (hn : i < C.n := by exact Nat.le_of_ble_eq_true rfl) (hx : Loc X.env.scope x := by first | exact Or.inl rfl | exact Or.inr rfl) (hs : swapsWith (.Call (.Name fx p2) (e :: es) [] p3) (some (.Name x p)) pos.line X.env = pure false := by rfl)
    (hf : X.fn x = true ∨ X.env.scope.names.lookup x = some .local := by first | exact .inl rfl | exact .inr rfl) (hg : Gl X fx := by rfl)
    (hdb : (fx == ("__debug__" : Str)) = false := by decide) (he : starEach (e :: es) X.env = (false, eval e X.env) :: starEach es X.env := by rfl) (hpl : (backTo p3 (starEach es X.env)).any (·.1) = false := by rfl) : tS X (.Assign [.Name x p] (.Call (.Name fx p2) (e :: es) [] p3) pos) D σ H := by
  obtain ⟨f, fd, h1, h2, h3, h4⟩ := F
  refine le_S (ps_set hN hi hx (pe_call h1 (hr.mono hkj) hg h2 h3 h4 .nil (pass0 (X := X)) pa_tA hdb he hpl) hs hf) ?_
  refine ha σ H S _ fun vs H1 S1 f1 r1 => ?_
  rw [List.append_nil]
  refine ⟨C.M L, ds, ns, hR, S1.dom, r1, fun q H' e hq hl => kk q _ _ ?_⟩
  have S2 : SitX X C (q :: L) ρ1 σ H' := (S1.new (o := .lst (ns.map V.int)) hq).grow fun a o h => by
    by_cases z : a = q
    · subst z
      rw [upd_same] at h
      rw [hl]; exact h
    · rw [upd_ne z] at h
      exact e a o h
  refine S2.put (s := .ml q (ns.map PyData.int)) ⟨rfl, by simp, ns.map V.int, hl, DpAll.of_ints _⟩ hn fun p' e' j' t ne h => ?_
  cases e'
  exact slot_new S1 hq j' t h
end
abbrev s_law : Stmt := topS 45
abbrev N_law : List Str := ["_law_script", "_law_pool_here", "_law_harbour_here", "_law_ships_here", "_law_latest", "_law_kept", "_law_plans_here", "_law_least_here", "_law_due", "_law_k", "_law_sooner", "_law_free", "_law_whole", "_law_idle", "_law_ship", "_law_plan"]
theorem sc_law : FnScope N_law ["_law_script"] (defScope s_law) := ⟨rfl, rfl, rfl, by decide +kernel, rfl, by decide +kernel, by decide +kernel⟩
end Tk
end

section
namespace Tk
open L2 PyProof.Rows PySem PySem.Spec
/-! ### the law in plain Lean -/
def latStep (m : Int) (pool : List Int) : List Int × Option Int := ((pk 4 (pk m pool).1).1, if 0 < (pk 4 (pk m pool).1).2 then some (pk m pool).2 else none)
def pool0 (script : List Int) : List Int := 0 :: lawPool script
def hbOf (script : List Int) : Hb := (harbourM (pool0 script) 12).2
def pool1 (script : List Int) : List Int := (harbourM (pool0 script) 12).1
def many1 (script : List Int) : Nat := (1 + (pk 2 (pool1 script)).2).toNat
def pool2 (script : List Int) : List Int := (pk 2 (pool1 script)).1
def shsOf (script : List Int) : List Sh := (itP (shipM (maxI (hbOf script).depths)) (many1 script) (pool2 script)).2
def pool3 (script : List Int) : List Int := (itP (shipM (maxI (hbOf script).depths)) (many1 script) (pool2 script)).1
def latOf (script : List Int) : List (Option Int) := (itP (latStep ((hbOf script).last + 3)) (shsOf script).length (pool3 script)).2
def pool4 (script : List Int) : List Int := (itP (latStep ((hbOf script).last + 3)) (shsOf script).length (pool3 script)).1
def kept (h : Hb) (ships : List Sh) (l : List (Option Int)) : List LPlan := (plans h ships).filter (keeps (some l))
def lstOf (h : Hb) (ships : List Sh) (l : List (Option Int)) : Option Int := least ((kept h ships l).map fun p => some (planCost ships p))
def due (h : Hb) (ships : List Sh) (l : List (Option Int)) : List LPlan := (kept h ships l).filter fun p => decide (some (planCost ships p) = lstOf h ships l)
def headD (ps : List LPlan) : PyData := match ps with
  | [] => .none
  | p :: _ => encLP p
/-- what is asked of the plain functions -/
structure LwFacts (h : Hb) (ships : List Sh) : Prop where
  lw : LwOk h ships
  dp : ∀ d ∈ h.depths, 0 ≤ d ∧ d ≤ 100
  bt : ∀ d ∈ h.berths, 0 ≤ d ∧ d ≤ 100
  dr : ∀ s ∈ ships, 0 ≤ s.draught ∧ s.draught ≤ 100 ∧ s.len ≤ 100
  gok : ∀ lat, LatOk lat ships.length → GOk h ships (beginning ships) lat
  one : ∀ p ∈ plans h ships, p.length ≤ 2 ∧ ∀ o ∈ p, 0 ≤ o.1 ∧ o.1 ≤ 100 ∧ 0 ≤ o.2.1 ∧ o.2.1 ≤ 100 ∧ 0 ≤ o.2.2 ∧ o.2.2 ≤ 100
  cst : ∀ p ∈ plans h ships, 0 ≤ planCost ships p ∧ planCost ships p < 1000000
  best : ∀ l : List (Option Int), l.length = ships.length → encPlan (bestPlan h ships (some l)) = headD (due h ships l)
  cost : ∀ l : List (Option Int), l.length = ships.length → leastCost h ships (some l) = lstOf h ships l
  soon : ∀ (l : List (Option Int)) (k : Nat) (v : Int), l.length = ships.length → l[k]? = some (some v) → 0 < v → ∀ c, lstOf h ships (l.set k (some (v - 1))) = some c → ∃ c0, lstOf h ships l = some c0 ∧ c0 ≤ c
  free : ∀ l : List (Option Int), l.length = ships.length → ((∀ x ∈ l, x = none) ∨ ∀ x ∈ l, x = some 100) → lstOf h ships l = leastCost h ships none
  tbl : ∀ l : List (Option Int), l.length = ships.length → TblOk h ships (tableOf h ships (some l)) ∧ (tableOf h ships (some l)).length ≤ 100000 ∧ beginning ships ∈ akeys ((tableOf h ships (some l)).foldl boundStep []) ∧ (akeys ((tableOf h ships (some l)).foldl boundStep [])).length ≤ 100000 ∧
    ∀ s ∈ akeys ((tableOf h ships (some l)).foldl boundStep []), s.2.length = ships.length ∧ HoldsOk h ships ((tableOf h ships (some l)).foldl boundStep []) s (some l)
theorem small_i {i : Int} (h : 0 ≤ i ∧ i ≤ 100) : ShN 40 (.int i) := shN_int (by omega)
theorem shN_ints {ns : List Int} (h : ∀ n ∈ ns, 0 ≤ n ∧ n ≤ 100) {m : Nat} (hm : 41 * ns.length ≤ m) : ShN m (.list (ns.map .int)) :=
  shN_list (n := 40) (fun x hx => by
    obtain ⟨n, hn, rfl⟩ := List.mem_map.mp hx
    exact small_i (h n hn)) (by rw [List.length_map]; exact hm)
def allSh (n : Nat) : List PyData → Prop
  | [] => True
  | x :: xs => ShN n x ∧ allSh n xs
theorem shN_mem {n : Nat} : ∀ {xs : List PyData}, allSh n xs → ∀ x ∈ xs, ShN n x
  | [], _ => fun x hx => absurd hx List.not_mem_nil
  | y :: ys, h => fun x hx => by
    rcases List.mem_cons.mp hx with rfl|hx
    · exact h.1
    · exact shN_mem h.2 x hx
theorem LwFacts.shH {h : Hb} {ships : List Sh} (F : LwFacts h ships) : ShN 30000 (encH h) := by
  have h1 := F.lw.hb.2.1
  have h2 := F.lw.nb
  refine shN_tup (n := 4100) (shN_mem ⟨shN_ints F.dp (by omega), shN_ints F.bt (by omega), ?_, ?_, ?_, trivial⟩) (by show 4101 * 5 ≤ _; omega)
  · exact (small_i (by have := F.lw.tu; omega)).mono (by decide)
  · exact (small_i (by have := F.lw.pi; omega)).mono (by decide)
  · exact (small_i (by have := F.lw.la; omega)).mono (by decide)
theorem LwFacts.shS {h : Hb} {ships : List Sh} (F : LwFacts h ships) : ShN 1000 (encSs ships) := by
  refine shN_list (n := 300) (fun x hx => ?_) (by have := F.lw.ns.2; rw [List.length_map]; omega)
  obtain ⟨s, hs, rfl⟩ := List.mem_map.mp hx
  have h1 := F.lw.sh s hs
  have h2 := F.dr s hs
  exact shN_tup (n := 40) (shN_mem ⟨small_i (by omega), small_i (by omega), small_i (by omega), small_i (by omega), small_i (by omega), small_i (by omega), small_i (by omega), trivial⟩) (by show 41 * 7 ≤ _; omega)
theorem shN_lat {l : List (Option Int)} (hl : l.length ≤ 2) (h : ∀ v, some v ∈ l → 0 ≤ v ∧ v ≤ 100) : ShN 200 (.list (l.map encO)) := by
  refine shN_list (n := 40) (fun x hx => ?_) (by rw [List.length_map]; omega)
  obtain ⟨o, ho, rfl⟩ := List.mem_map.mp hx
  cases o with
  | none => exact shN_none.mono (by decide)
  | some v => exact small_i (h v ho)
theorem LwFacts.shP {h : Hb} {ships : List Sh} (F : LwFacts h ships) {p : LPlan} (hp : p ∈ plans h ships) : ShN 1000 (encLP p) := by
  obtain ⟨h1, h2⟩ := F.one p hp
  refine shN_list (n := 200) (fun x hx => ?_) (by rw [List.length_map]; omega)
  obtain ⟨o, ho, rfl⟩ := List.mem_map.mp hx
  have h3 := h2 o ho
  exact shN_tup (n := 40) (shN_mem ⟨small_i (by omega), small_i (by omega), small_i (by omega), trivial⟩) (by show 41 * 3 ≤ _; omega)
theorem LwFacts.shD {h : Hb} {ships : List Sh} (F : LwFacts h ships) (l : List (Option Int)) : ShN 1000 (headD (due h ships l)) := by
  cases e : due h ships l with
  | nil => exact shN_none.mono (by decide)
  | cons p ps =>
    refine F.shP ?_
    have hm : p ∈ due h ships l := by rw [e]; exact List.mem_cons_self
    exact (List.mem_filter.mp (List.mem_filter.mp hm).1).1
theorem LwFacts.lst_bd {h : Hb} {ships : List Sh} (F : LwFacts h ships) {l : List (Option Int)} {c : Int} (e : lstOf h ships l = some c) : 0 ≤ c ∧ c < 1000000 := by
  obtain ⟨p, hp, q⟩ := List.mem_map.mp (least_some e).1
  cases q
  exact F.cst p (List.mem_filter.mp hp).1
theorem LwFacts.shL {h : Hb} {ships : List Sh} (F : LwFacts h ships) (l : List (Option Int)) : ShN 1000 (encO (lstOf h ships l)) := by
  cases e : lstOf h ships l with
  | none => exact shN_none.mono (by decide)
  | some c =>
    have := F.lst_bd e
    exact (shN_int (by omega)).mono (by decide)
theorem headD_kind (ps : List LPlan) : headD ps = .none ∨ (∃ i, headD ps = .int i) ∨ (∃ xs, headD ps = .list xs) ∨ ∃ xs, headD ps = .tuple xs := by
  cases ps with
  | nil => exact .inl rfl
  | cons p ps => exact .inr (.inr (.inl ⟨_, rfl⟩))
theorem encO_kind (o : Option Int) : encO o = .none ∨ (∃ i, encO o = .int i) ∨ (∃ xs, encO o = .list xs) ∨ ∃ xs, encO o = .tuple xs := by
  cases o with
  | none => exact .inl rfl
  | some i => exact .inr (.inl ⟨i, rfl⟩)
end Tk
end

section
namespace Tk
open PySem
/-! ### the bounds of what the pool gives -/
theorem m1_mem {pool : List Int} : m1.getD (pk 4 pool).2.toNat 0 = 1 ∨ m1.getD (pk 4 pool).2.toNat 0 = 3 := by
  have hm := getD_mem0 (l := m1) (j := (pk 4 pool).2.toNat) (idx_lt (many := 4) (by decide) rfl)
  unfold m1 at hm ⊢
  simp only [List.not_mem_nil, or_false, List.mem_cons] at hm
  omega
theorem m3_bd {pool : List Int} : 0 < m3.getD (pk 4 pool).2.toNat 0 ∧ m3.getD (pk 4 pool).2.toNat 0 ≤ 21 := by
  have hm := getD_mem0 (l := m3) (j := (pk 4 pool).2.toNat) (idx_lt (many := 4) (by decide) rfl)
  unfold m3 at hm ⊢
  simp only [List.not_mem_nil, or_false, List.mem_cons] at hm
  omega
theorem m4_bd {pool : List Int} : 0 < m4.getD (pk 3 pool).2.toNat 0 ∧ m4.getD (pk 3 pool).2.toNat 0 ≤ 9 := by
  have hm := getD_mem0 (l := m4) (j := (pk 3 pool).2.toNat) (idx_lt (many := 3) (by decide) rfl)
  unfold m4 at hm ⊢
  simp only [List.not_mem_nil, or_false, List.mem_cons] at hm
  omega
theorem D3_bd {mx : Int} {pool : List Int} (h : 0 ≤ mx ∧ mx ≤ 36) : 0 < (D3 mx).getD (pk 3 pool).2.toNat 0 ∧ (D3 mx).getD (pk 3 pool).2.toNat 0 ≤ 41 := by
  have hm := getD_mem0 (l := D3 mx) (j := (pk 3 pool).2.toNat) (idx_lt (many := 3) (by decide) rfl)
  unfold D3 at hm ⊢
  simp only [List.not_mem_nil, or_false, List.mem_cons] at hm
  omega
theorem depths_bd {pool : List Int} (h : PoolOk pool) : (∀ d ∈ (depths1 pool).2, 0 ≤ d ∧ d ≤ 36) ∧ 0 < (depths1 pool).2.length ∧ (depths1 pool).2.length ≤ 12 := by
  have h1 : PoolOk (manyOf (moreOf1 pool).1).1 := pk_ok (pk_ok (many := 4) (pk_ok (many := 4) h))
  refine ⟨itP_mem (step := depStep (moreOf1 pool).2) (fun pl h => pk_ok (many := 13) h) (fun pl hpl => ?_) h1 _, ?_, ?_⟩
  · have b := pk_bd (pool := pl) (many := 13) (by decide)
    show 0 ≤ (pk 13 pl).2 * (moreOf1 pool).2 ∧ (pk 13 pl).2 * (moreOf1 pool).2 ≤ 36
    rcases m1_mem (pool := pool) with e | e
    · rw [show (moreOf1 pool).2 = 1 from e]; omega
    · rw [show (moreOf1 pool).2 = 3 from e]; omega
  · show 0 < (itP _ _ _).2.length
    rw [itP_len]
    have b := pk_bd (pool := (pk 4 (moreOf1 pool).1).1) (many := m2.getD (pk 4 (moreOf1 pool).1).2.toNat 0) many_bd.1
    have b2 : 0 ≤ (manyOf (moreOf1 pool).1).2 := b.1
    omega
  · show (itP _ _ _).2.length ≤ 12
    rw [itP_len]
    have b := pk_bd (pool := (pk 4 (moreOf1 pool).1).1) (many := m2.getD (pk 4 (moreOf1 pool).1).2.toNat 0) many_bd.1
    have b2 := many_bd (pool := (moreOf1 pool).1)
    have b3 : (manyOf (moreOf1 pool).1).2 < 12 := Int.lt_of_lt_of_le b.2 b2.2
    omega
theorem berths_bd {pool : List Int} (h : PoolOk pool) : (∀ d ∈ (berths1 pool).2, 3 ≤ d ∧ d ≤ 9) ∧ 0 < (berths1 pool).2.length ∧ (berths1 pool).2.length ≤ 2 := by
  refine ⟨itP_mem (step := berStep) (fun pl h => pk_ok (many := 7) h) (fun pl hpl => ?_) (pk_ok h) _, ?_, ?_⟩
  · have b := pk_bd (pool := pl) (many := 7) (by decide)
    show 3 ≤ 3 + (pk 7 pl).2 ∧ 3 + (pk 7 pl).2 ≤ 9
    omega
  · show 0 < (itP _ _ _).2.length
    rw [itP_len]
    have b := pk_bd (pool := pool) (many := 2) (by decide)
    omega
  · show (itP _ _ _).2.length ≤ 2
    rw [itP_len]
    have b := pk_bd (pool := pool) (many := 2) (by decide)
    omega
theorem depths_ok1 {pool : List Int} (h : PoolOk pool) : PoolOk (depths1 pool).1 :=
  itP_ok (step := depStep (moreOf1 pool).2) (fun pl h => pk_ok (many := 13) h) (show PoolOk (manyOf (moreOf1 pool).1).1 from pk_ok (pk_ok (many := 4) (pk_ok (many := 4) h))) _
/-- the ships, one by one -/
def ShB (s : Sh) : Prop := (0 ≤ s.ready ∧ s.ready ≤ 21 ∧ 0 < s.len ∧ 0 < s.stay ∧ s.stay ≤ 4 ∧ 0 ≤ s.tugs ∧ s.tugs ≤ 10 ∧ 0 ≤ s.sea ∧ s.sea ≤ 9 ∧ 0 ≤ s.lie ∧ s.lie ≤ 9) ∧ 0 ≤ s.draught ∧ s.draught ≤ 100 ∧ s.len ≤ 100
theorem ship_bd {mx : Int} (hm : 0 ≤ mx ∧ mx ≤ 36) (pool : List Int) : ShB (shipM mx pool).2 := by
  have r : 0 ≤ (readyOf pool).2 ∧ (readyOf pool).2 < m3.getD (pk 4 pool).2.toNat 0 := pk_bd m3_bd.1
  have r2 := m3_bd (pool := pool)
  have d : 0 ≤ (draughtOf mx (readyOf pool).1).2 ∧ (draughtOf mx (readyOf pool).1).2 < (D3 mx).getD (pk 3 (readyOf pool).1).2.toNat 0 := pk_bd (D3_bd hm).1
  have d2 := D3_bd (pool := (readyOf pool).1) hm
  have l : 0 ≤ (lenOf (draughtOf mx (readyOf pool).1).1).2 ∧ (lenOf (draughtOf mx (readyOf pool).1).1).2 < m4.getD (pk 3 (draughtOf mx (readyOf pool).1).1).2.toNat 0 := pk_bd m4_bd.1
  have l2 := m4_bd (pool := (draughtOf mx (readyOf pool).1).1)
  unfold shipM
  generalize (readyOf pool).2 = vr at *
  generalize (draughtOf mx (readyOf pool).1).2 = vd at *
  generalize (lenOf (draughtOf mx (readyOf pool).1).1).2 = vl at *
  generalize (lenOf (draughtOf mx (readyOf pool).1).1).1 = pl
  have b1 := pk_bd (pool := pl) (many := 10) (by decide)
  have b2 := pk_bd (pool := (pk 10 pl).1) (many := 10) (by decide)
  have b3 := pk_bd (pool := (pk 10 (pk 10 pl).1).1) (many := 4) (by decide)
  have b4 := pk_bd (pool := (pk 4 (pk 10 (pk 10 pl).1).1).1) (many := 4) (by decide)
  unfold ShB shipEnd
  simp only
  omega
theorem maxI_le {ns : List Int} {b : Int} (h : ∀ n ∈ ns, n ≤ b) (hn : 0 < ns.length) : maxI ns ≤ b := by
  unfold maxI
  cases ns with
  | nil => cases hn
  | cons n ns =>
    rcases foldl_max_mem (n :: ns) n with e | e
    · show (n :: ns).foldl max n ≤ b
      rw [e]; exact h n List.mem_cons_self
    · exact h _ e
theorem maxI_ge {ns : List Int} (h : ∀ n ∈ ns, 0 ≤ n) (hn : 0 < ns.length) : 0 ≤ maxI ns := by
  unfold maxI
  cases ns with
  | nil => cases hn
  | cons n ns =>
    rcases foldl_max_mem (n :: ns) n with e | e
    · show 0 ≤ (n :: ns).foldl max n
      rw [e]; exact h n List.mem_cons_self
    · exact h _ e
structure BdOk (h : Hb) (ships : List Sh) : Prop where
  lw : LwOk h ships
  dp : ∀ d ∈ h.depths, 0 ≤ d ∧ d ≤ 100
  bt : ∀ d ∈ h.berths, 0 ≤ d ∧ d ≤ 100
  dr : ∀ s ∈ ships, 0 ≤ s.draught ∧ s.draught ≤ 100 ∧ s.len ≤ 100
theorem last_bd {pool d b : List Int} (hD : (∀ x ∈ d, 0 ≤ x ∧ x ≤ 36) ∧ 0 < d.length ∧ d.length ≤ 12) (hB : (∀ x ∈ b, 3 ≤ x ∧ x ≤ 9) ∧ 0 < b.length ∧ b.length ≤ 2) (h : PoolOk pool) {ships : List Sh} (hl : 0 < ships.length ∧ ships.length ≤ 2) (hs : ∀ s ∈ ships, ShB s) : BdOk (lastOf pool d b 12).2 ships := by
  have b1 := pk_bd (pool := pool) (many := 7) (by decide)
  have b2 := pk_bd (pool := (pk 7 pool).1) (many := 3) (by decide)
  have b3 := pk_bd (pool := (pk 3 (pk 7 pool).1).1) (many := 5) (by decide)
  unfold lastOf
  generalize (pk 7 pool).2 = x1 at *
  generalize (pk 3 (pk 7 pool).1).2 = x2 at *
  generalize (pk 5 (pk 3 (pk 7 pool).1).1).2 = x3 at *
  refine ⟨⟨⟨hD.2.1, ?_, hB.2.1, ?_⟩, hB.2.2, ?_, hl, fun s hs' => (hs s hs').1, ?_, ?_⟩, fun x hx => ?_, fun x hx => ?_, fun s hs' => (hs s hs').2⟩
  · show d.length ≤ 100; omega
  · show b.length ≤ 4; omega
  · show 0 ≤ 12 - x3 ∧ 12 - x3 ≤ 12; omega
  · show 0 ≤ x1 ∧ x1 ≤ 10; omega
  · show 0 < 1 + x2 ∧ 1 + x2 ≤ 10; omega
  · have := hD.1 x hx; omega
  · have := hB.1 x hx; omega
theorem ships_bd {mx : Int} (hm : 0 ≤ mx ∧ mx ≤ 36) {pool : List Int} (h : PoolOk pool) : (0 < (itP (shipM mx) (1 + (pk 2 pool).2).toNat (pk 2 pool).1).2.length ∧ (itP (shipM mx) (1 + (pk 2 pool).2).toNat (pk 2 pool).1).2.length ≤ 2) ∧ ∀ s ∈ (itP (shipM mx) (1 + (pk 2 pool).2).toNat (pk 2 pool).1).2, ShB s := by
  have b4 := pk_bd (pool := pool) (many := 2) (by decide)
  rw [itP_len]
  refine ⟨?_, itP_mem (step := shipM mx) (fun pl h => shipM_ok hm.1 h) (fun pl hpl => ship_bd hm pl) (pk_ok (many := 2) h) _⟩
  generalize (pk 2 pool).2 = x at *
  omega
theorem harbour_bd {pool : List Int} (h : PoolOk pool) : PoolOk (harbourM pool 12).1 ∧ (0 ≤ maxI (harbourM pool 12).2.depths ∧ maxI (harbourM pool 12).2.depths ≤ 36) ∧ ∀ ships : List Sh, (0 < ships.length ∧ ships.length ≤ 2) → (∀ s ∈ ships, ShB s) → BdOk (harbourM pool 12).2 ships := by
  have D := depths_bd h
  have q1 := depths_ok1 h
  unfold harbourM
  generalize depths1 pool = dd at *
  have Bt := berths_bd q1
  have q2 : PoolOk (berths1 dd.1).1 := itP_ok (step := berStep) (fun pl h => pk_ok (many := 7) h) (pk_ok q1) _
  generalize berths1 dd.1 = bb at *
  refine ⟨pk_ok (many := 5) (pk_ok (many := 3) (pk_ok (many := 7) q2)), ?_, fun ships h1 h2 => last_bd D Bt q2 h1 h2⟩
  show 0 ≤ maxI dd.2 ∧ maxI dd.2 ≤ 36
  exact ⟨maxI_ge (fun n hn => (D.1 n hn).1) D.2.1, maxI_le (fun n hn => (D.1 n hn).2) D.2.1⟩
theorem all_bd {pool : List Int} (h : PoolOk pool) : BdOk (harbourM pool 12).2 (itP (shipM (maxI (harbourM pool 12).2.depths)) (1 + (pk 2 (harbourM pool 12).1).2).toNat (pk 2 (harbourM pool 12).1).1).2 := by
  obtain ⟨h1, h2, h3⟩ := harbour_bd h
  generalize harbourM pool 12 = hh at *
  obtain ⟨h4, h5⟩ := ships_bd h2 h1
  exact h3 _ h4 h5
theorem bdOk_of (script : List Int) : BdOk (hbOf script) (shsOf script) := by
  have h := lawPool_ok script
  unfold shsOf many1 pool2 pool1 hbOf pool0
  generalize 0 :: lawPool script = pool at h
  exact all_bd h
end Tk
end

section
namespace Tk
open PySem
/-! ### one ship alone: what may still come of it -/
/-- ship i may still have the row r at cost c, from hour t in place p -/
inductive Fit (h : Hb) (lat : Lat) (i : Nat) (a : Sh) (t : Int) : Place → List Int → Int → Prop where
  | sea (f b o : Int) : t ≤ f → a.ready ≤ f → f + a.stay + 1 ≤ o → o ≤ h.last → deep h a f = true → deep h a o = true → 0 ≤ b → b < h.berths.length → a.len ≤ h.berths.getD b.toNat 0 → a.tugs ≤ h.tugs → isKept lat i o = true →
      Fit h lat i a t SEA [f, b, o] (a.sea * (f - max t a.ready) + a.lie * (o - f - a.stay - 1))
  | gone : Fit h lat i a t GONE [] 0
  | in_ (b l o : Int) : 0 ≤ b → 0 ≤ l → t + l ≤ o → o ≤ h.last → deep h a o = true → a.tugs ≤ h.tugs → isKept lat i o = true → Fit h lat i a t (b, l) [o] (a.lie * (o - t - l))
/-- what it does at hour t, by its row -/
def chAt (t : Int) : List Int → Option Int
  | [f, b, _] => if f = t then some b else none
  | [o] => if o = t then some (-1) else none
  | _ => none
def stepP (a : Sh) (p : Place) : Option Int → Place
  | none => later1 p
  | some x => if x = -1 then GONE else (x, a.stay)
def costP (a : Sh) (t : Int) (p : Place) : Option Int → Int
  | none => if p = SEA ∧ a.ready ≤ t then a.sea else if 0 ≤ p.1 ∧ p.2 = 0 then a.lie else 0
  | some _ => 0
def aheadP (t : Int) (c : Option Int) (r : List Int) : List Int :=
  match c with
  | none => r
  | some x => (if x = -1 then [t] else [t, x]) ++ r
/-- it may do so, for its own part -/
inductive May (h : Hb) (lat : Lat) (i : Nat) (a : Sh) (t : Int) : Place → Option Int → Prop where
  | stay (p : Place) : May h lat i a t p none
  | enter (x : Int) : deep h a t = true → a.ready ≤ t → 0 ≤ x → x < h.berths.length → a.len ≤ h.berths.getD x.toNat 0 → a.tugs ≤ h.tugs → May h lat i a t SEA (some x)
  | leave (b : Int) : deep h a t = true → 0 ≤ b → isKept lat i t = true → a.tugs ≤ h.tugs → t ≤ h.last → May h lat i a t (b, 0) (some (-1))
inductive PlOk (h : Hb) (a : Sh) : Place → Prop where
  | sea : PlOk h a SEA
  | gone : PlOk h a GONE
  | in_ (b l : Int) : 0 ≤ b → b < h.berths.length → 0 ≤ l → l ≤ a.stay → PlOk h a (b, l)
section
variable {h : Hb} {lat : Lat} {i : Nat} {a : Sh} {t : Int}
theorem chAt3 (f b o : Int) : chAt t [f, b, o] = if f = t then some b else none := rfl
theorem chAt1 (o : Int) : chAt t [o] = if o = t then some (-1) else none := rfl
theorem mul_pred (x y z : Int) (e : y = z + 1) : x * y = x + x * z := by
  rw [e, Int.mul_add, Int.mul_one, Int.add_comm]
theorem Fit.fwd (hs : 0 < a.stay) {p : Place} {r : List Int} {c : Int} (F : Fit h lat i a t p r c) : ∃ r' c', r = aheadP t (chAt t r) r' ∧ c = costP a t p (chAt t r) + c' ∧ Fit h lat i a (t + 1) (stepP a p (chAt t r)) r' c' ∧ May h lat i a t p (chAt t r) := by
  cases F with
  | sea f b o h1 h2 h3 h4 h5 h6 h7 h8 h9 h10 h11 =>
    by_cases e : f = t
    · subst e
      have ec : chAt f [f, b, o] = some b := by rw [chAt3, if_pos rfl]
      rw [ec]
      have hb : ¬ b = -1 := by omega
      refine ⟨[o], a.lie * (o - (f + 1) - a.stay), ?_, ?_, ?_, .enter b h5 h2 h7 h8 h9 h10⟩
      · unfold aheadP; simp only; rw [if_neg hb]; rfl
      · unfold costP; simp only
        rw [show f - max f a.ready = 0 by omega, Int.mul_zero, show o - (f + 1) - a.stay = o - f - a.stay - 1 by omega]
      · show Fit h lat i a (f + 1) (if b = -1 then GONE else (b, a.stay)) [o] _
        rw [if_neg hb]
        exact .in_ b a.stay o h7 (by omega) (by omega) h4 h6 h10 h11
    · have ec : chAt t [f, b, o] = none := by rw [chAt3, if_neg e]
      rw [ec]
      refine ⟨[f, b, o], a.sea * (f - max (t + 1) a.ready) + a.lie * (o - f - a.stay - 1), rfl, ?_, ?_, .stay _⟩
      · unfold costP; simp only
        by_cases hr : a.ready ≤ t
        · rw [if_pos ⟨trivial, hr⟩, ← Int.add_assoc, ← mul_pred a.sea (f - max t a.ready) (f - max (t + 1) a.ready) (by omega)]
        · rw [if_neg (fun z => hr z.2), if_neg (fun z => absurd z.1 (by decide)), Int.zero_add, show max t a.ready = max (t + 1) a.ready by omega]
      · exact .sea f b o (by omega) h2 h3 h4 h5 h6 h7 h8 h9 h10 h11
  | gone => exact ⟨[], 0, rfl, rfl, .gone, .stay _⟩
  | in_ b l o h1 h2 h3 h4 h5 h6 h7 =>
    by_cases e : o = t
    · subst e
      have ec : chAt o [o] = some (-1) := by rw [chAt1, if_pos rfl]
      rw [ec]
      have hl : l = 0 := by omega
      subst hl
      exact ⟨[], 0, rfl, by unfold costP; simp, .gone, .leave b h5 h1 h7 h6 h4⟩
    · have ec : chAt t [o] = none := by rw [chAt1, if_neg e]
      rw [ec]
      have es : stepP a (b, l) none = (b, max 0 (l - 1)) := by
        show later1 (b, l) = _
        unfold later1
        rw [if_pos h1]
      rw [es]
      refine ⟨[o], a.lie * (o - (t + 1) - max 0 (l - 1)), rfl, ?_, .in_ b _ o h1 (by omega) (by omega) h4 h5 h6 h7, .stay _⟩
      unfold costP; simp only
      rw [if_neg (fun z => absurd (congrArg Prod.fst z.1) (by show b ≠ -1; omega))]
      by_cases hl : l = 0
      · rw [if_pos ⟨h1, hl⟩, ← mul_pred a.lie (o - t - l) (o - (t + 1) - max 0 (l - 1)) (by omega)]
      · rw [if_neg (fun z => hl z.2), Int.zero_add, show o - t - l = o - (t + 1) - max 0 (l - 1) by omega]
theorem Fit.bwd (hs : 0 < a.stay) {p : Place} {c : Option Int} {r : List Int} {k : Int} (hp : PlOk h a p) (M : May h lat i a t p c) (F : Fit h lat i a (t + 1) (stepP a p c) r k) : Fit h lat i a t p (aheadP t c r) (costP a t p c + k) ∧ chAt t (aheadP t c r) = c := by
  cases M with
  | stay =>
    cases hp with
    | sea =>
      have e : stepP a SEA none = SEA := rfl
      rw [e] at F
      generalize hq : SEA = q at F
      cases F with
      | sea f b o h1 h2 h3 h4 h5 h6 h7 h8 h9 h10 h11 =>
        refine ⟨?_, ?_⟩
        · have ec : costP a t SEA none + (a.sea * (f - max (t + 1) a.ready) + a.lie * (o - f - a.stay - 1)) = a.sea * (f - max t a.ready) + a.lie * (o - f - a.stay - 1) := by
            unfold costP; simp only
            by_cases hr : a.ready ≤ t
            · rw [if_pos ⟨trivial, hr⟩, ← Int.add_assoc, ← mul_pred a.sea (f - max t a.ready) (f - max (t + 1) a.ready) (by omega)]
            · rw [if_neg (fun z => hr z.2), if_neg (fun z => absurd z.1 (by decide)), Int.zero_add, show max t a.ready = max (t + 1) a.ready by omega]
          rw [ec]
          exact .sea f b o (by omega) h2 h3 h4 h5 h6 h7 h8 h9 h10 h11
        · show chAt t [f, b, o] = none
          rw [chAt3, if_neg (by omega)]
      | gone => exact absurd hq (by decide)
      | in_ b l o h1 => exact absurd (congrArg Prod.fst hq) (by show (-1 : Int) ≠ b; omega)
    | gone =>
      have e : stepP a GONE none = GONE := rfl
      rw [e] at F
      generalize hq : GONE = q at F
      cases F with
      | sea f b o => exact absurd hq (by decide)
      | gone => exact ⟨.gone, rfl⟩
      | in_ b l o h1 => exact absurd (congrArg Prod.fst hq) (by show (-2 : Int) ≠ b; omega)
    | in_ b l g1 g2 g3 g4 =>
      have e : stepP a (b, l) none = (b, max 0 (l - 1)) := by
        show later1 (b, l) = _
        unfold later1
        rw [if_pos g1]
      rw [e] at F
      generalize hq : (b, max 0 (l - 1)) = q at F
      cases F with
      | sea f' b' o' => exact absurd (congrArg Prod.fst hq) (by show b ≠ -1; omega)
      | gone => exact absurd (congrArg Prod.fst hq) (by show b ≠ -2; omega)
      | in_ b' l' o h1 h2 h3 h4 h5 h6 h7 =>
        cases hq
        refine ⟨?_, ?_⟩
        · have ec : costP a t (b, l) none + a.lie * (o - (t + 1) - max 0 (l - 1)) = a.lie * (o - t - l) := by
            unfold costP; simp only
            rw [if_neg (fun z => absurd (congrArg Prod.fst z.1) (by show b ≠ -1; omega))]
            by_cases hl : l = 0
            · rw [if_pos ⟨g1, hl⟩, ← mul_pred a.lie (o - t - l) (o - (t + 1) - max 0 (l - 1)) (by omega)]
            · rw [if_neg (fun z => hl z.2), Int.zero_add, show o - t - l = o - (t + 1) - max 0 (l - 1) by omega]
          rw [ec]
          exact .in_ b l o g1 g3 (by omega) h4 h5 h6 h7
        · show chAt t [o] = none
          rw [chAt1, if_neg (by omega)]
  | enter x h1 h2 h3 h4 h5 h6 =>
    have hx : ¬ x = -1 := by omega
    have e : stepP a SEA (some x) = (x, a.stay) := by show (if x = -1 then GONE else (x, a.stay)) = _; rw [if_neg hx]
    rw [e] at F
    generalize hq : (x, a.stay) = q at F
    cases F with
    | sea f b o => exact absurd (congrArg Prod.fst hq) hx
    | gone => exact absurd (congrArg Prod.fst hq) (by show x ≠ -2; omega)
    | in_ b' l' o k1 k2 k3 k4 k5 k6 k7 =>
      cases hq
      have ea : aheadP t (some x) [o] = [t, x, o] := by unfold aheadP; simp only; rw [if_neg hx]; rfl
      rw [ea]
      refine ⟨?_, by rw [chAt3, if_pos rfl]⟩
      have ec : costP a t SEA (some x) + a.lie * (o - (t + 1) - a.stay) = a.sea * (t - max t a.ready) + a.lie * (o - t - a.stay - 1) := by
        unfold costP; simp only
        rw [show t - max t a.ready = 0 by omega, Int.mul_zero, show o - (t + 1) - a.stay = o - t - a.stay - 1 by omega]
      rw [ec]
      exact .sea t x o (Int.le_refl _) h2 (by omega) k4 h1 k5 h3 h4 h5 h6 k7
  | leave b h2 h1 h3 h4 h5 =>
    have e : stepP a (b, 0) (some (-1)) = GONE := rfl
    rw [e] at F
    generalize hq : GONE = q at F
    cases F with
    | sea f b o => exact absurd hq (by decide)
    | gone =>
      refine ⟨?_, by show chAt t [t] = _; rw [chAt1, if_pos rfl]⟩
      have ec : costP a t (b, 0) (some (-1)) + 0 = a.lie * (t - t - 0) := by
        unfold costP; simp
      rw [ec]
      exact .in_ b 0 t h1 (Int.le_refl _) (by omega) h5 h2 h4 h3
    | in_ b l o h1 => exact absurd (congrArg Prod.fst hq) (by show (-2 : Int) ≠ b; omega)
end
end Tk
end

section
namespace Tk
open PySem
/-! ### two ships -/
def Occ (p : Place) (r : List Int) (b u : Int) : Prop :=
  match r with
  | [f, x, o] => x = b ∧ f ≤ u ∧ u ≤ o
  | [o] => p.1 = b ∧ u ≤ o
  | _ => False
def Ev (r : List Int) (u : Int) : Prop :=
  match r with
  | [f, _, o] => u = f ∨ u = o
  | [o] => u = o
  | _ => False
theorem occ3 {p : Place} {f x o b u : Int} : Occ p [f, x, o] b u ↔ x = b ∧ f ≤ u ∧ u ≤ o := Iff.rfl
theorem occ1 {p : Place} {o b u : Int} : Occ p [o] b u ↔ p.1 = b ∧ u ≤ o := Iff.rfl
theorem occ0 {p : Place} {b u : Int} : Occ p [] b u ↔ False := Iff.rfl
theorem ev3 {f x o u : Int} : Ev [f, x, o] u ↔ u = f ∨ u = o := Iff.rfl
theorem ev1 {o u : Int} : Ev [o] u ↔ u = o := Iff.rfl
theorem ev0 {u : Int} : Ev [] u ↔ False := Iff.rfl
def Both (h : Hb) (a b : Sh) : Prop := 2 ≤ h.pilots ∧ a.tugs + b.tugs ≤ h.tugs
def PairOk (h : Hb) (a b : Sh) (t : Int) (p : Place) (r : List Int) (q : Place) (s : List Int) : Prop :=
  (∀ u, t ≤ u → ∀ x, Occ p r x u → Occ q s x u → False) ∧ ∀ u, t ≤ u → Ev r u → Ev s u → Both h a b
def Joint (h : Hb) (a b : Sh) (p q : Place) (c d : Option Int) : Prop :=
  (∀ x, c = some x → 0 ≤ x → q.1 ≠ x) ∧ (∀ y, d = some y → 0 ≤ y → p.1 ≠ y) ∧ ∀ x y, c = some x → d = some y → Both h a b ∧ (0 ≤ x → x ≠ y)
structure Turn (t : Int) (p : Place) (r : List Int) (c : Option Int) (p' : Place) (r' : List Int) : Prop where
  o : ∀ u, t + 1 ≤ u → ∀ b, (Occ p r b u ↔ Occ p' r' b u)
  o0 : ∀ b, Occ p r b t ↔ (0 ≤ p.1 ∧ p.1 = b) ∨ (c = some b ∧ 0 ≤ b)
  e : ∀ u, t + 1 ≤ u → (Ev r u ↔ Ev r' u)
  e0 : Ev r t ↔ c ≠ none
section
variable {h : Hb} {lat : Lat} {i : Nat} {a b : Sh} {t : Int}
theorem Fit.turn (hs : 0 < a.stay) {p : Place} {r r' : List Int} {k : Int} (F : Fit h lat i a t p r k) (e : r = aheadP t (chAt t r) r') : Turn t p r (chAt t r) (stepP a p (chAt t r)) r' := by
  cases F with
  | sea f b o h1 h2 h3 h4 h5 h6 h7 h8 h9 h10 h11 =>
    by_cases ef : f = t
    · subst ef
      have ec : chAt f [f, b, o] = some b := by rw [chAt3, if_pos rfl]
      rw [ec] at e ⊢
      have hb : ¬ b = -1 := by omega
      have er : r' = [o] := by
        unfold aheadP at e
        simp only at e
        rw [if_neg hb] at e
        simpa using e.symm
      subst er
      have es : stepP a SEA (some b) = (b, a.stay) := by show (if b = -1 then GONE else (b, a.stay)) = _; rw [if_neg hb]
      rw [es]
      refine ⟨fun u hu x => ?_, fun x => ?_, fun u hu => ?_, ?_⟩
      · rw [occ3, occ1]
        constructor
        · intro z; exact ⟨z.1, z.2.2⟩
        · intro z; exact ⟨z.1, by omega, z.2⟩
      · rw [occ3]
        constructor
        · intro z; exact .inr ⟨by rw [z.1], by omega⟩
        · rintro (z | z)
          · exact absurd z.1 (by decide)
          · have := Option.some.inj z.1
            exact ⟨this, by omega, by omega⟩
      · rw [ev3, ev1]
        constructor
        · rintro (z | z)
          · omega
          · exact z
        · exact .inr
      · rw [ev3]
        exact ⟨fun _ => by simp, fun _ => .inl rfl⟩
    · have ec : chAt t [f, b, o] = none := by rw [chAt3, if_neg ef]
      rw [ec] at e ⊢
      have er : r' = [f, b, o] := e.symm
      subst er
      refine ⟨fun u hu x => Iff.rfl, fun x => ?_, fun u hu => Iff.rfl, ?_⟩
      · rw [occ3]
        constructor
        · intro z; omega
        · rintro (z | z)
          · exact absurd z.1 (by decide)
          · cases z.1
      · rw [ev3]
        constructor
        · intro z; omega
        · intro z; exact absurd rfl z
  | gone =>
    have er : r' = [] := e.symm
    subst er
    refine ⟨fun u hu x => Iff.rfl, fun x => ?_, fun u hu => Iff.rfl, ?_⟩
    · rw [occ0]
      constructor
      · exact False.elim
      · rintro (z | z)
        · exact absurd z.1 (by decide)
        · cases z.1
    · rw [ev0]
      exact ⟨False.elim, fun z => absurd rfl z⟩
  | in_ b l o h1 h2 h3 h4 h5 h6 h7 =>
    by_cases ef : o = t
    · subst ef
      have ec : chAt o [o] = some (-1) := by rw [chAt1, if_pos rfl]
      rw [ec] at e ⊢
      have er : r' = [] := by
        unfold aheadP at e
        simpa using e
      subst er
      refine ⟨fun u hu x => ?_, fun x => ?_, fun u hu => ?_, ?_⟩
      · rw [occ1, occ0]
        constructor
        · intro z; omega
        · exact False.elim
      · rw [occ1]
        constructor
        · intro z; exact .inl ⟨h1, z.1⟩
        · rintro (z | z)
          · exact ⟨z.2, Int.le_refl _⟩
          · have := Option.some.inj z.1
            omega
      · rw [ev1, ev0]
        constructor
        · intro z; omega
        · exact False.elim
      · rw [ev1]
        exact ⟨fun _ => by simp, fun _ => rfl⟩
    · have ec : chAt t [o] = none := by rw [chAt1, if_neg ef]
      rw [ec] at e ⊢
      have er : r' = [o] := e.symm
      subst er
      have es : (stepP a (b, l) none).1 = b := by
        show (later1 (b, l)).1 = _
        unfold later1
        rw [if_pos h1]
      refine ⟨fun u hu x => ?_, fun x => ?_, fun u hu => Iff.rfl, ?_⟩
      · rw [occ1, occ1, es]
      · rw [occ1]
        constructor
        · intro z; exact .inl ⟨h1, z.1⟩
        · rintro (z | z)
          · exact ⟨z.2, by omega⟩
          · cases z.1
      · rw [ev1]
        constructor
        · intro z; omega
        · intro z; exact absurd rfl z
theorem PairOk.fwd {p q p' q' : Place} {r s r' s' : List Int} {c d : Option Int} (A : Turn t p r c p' r') (B : Turn t q s d q' s') (P : PairOk h a b t p r q s) : Joint h a b p q c d ∧ PairOk h a b (t + 1) p' r' q' s' := by
  refine ⟨⟨fun x hx h0 z => ?_, fun y hy h0 z => ?_, fun x y hx hy => ⟨?_, fun h0 z => ?_⟩⟩, fun u hu x o1 o2 => ?_, fun u hu e1 e2 => ?_⟩
  · exact P.1 t (Int.le_refl _) x ((A.o0 x).mpr (.inr ⟨hx, h0⟩)) ((B.o0 x).mpr (.inl ⟨by omega, z⟩))
  · exact P.1 t (Int.le_refl _) y ((A.o0 y).mpr (.inl ⟨by omega, z⟩)) ((B.o0 y).mpr (.inr ⟨hy, h0⟩))
  · exact P.2 t (Int.le_refl _) (A.e0.mpr (by rw [hx]; simp)) (B.e0.mpr (by rw [hy]; simp))
  · subst z
    exact P.1 t (Int.le_refl _) x ((A.o0 x).mpr (.inr ⟨hx, h0⟩)) ((B.o0 x).mpr (.inr ⟨hy, h0⟩))
  · exact P.1 u (by omega) x ((A.o u hu x).mpr o1) ((B.o u hu x).mpr o2)
  · exact P.2 u (by omega) ((A.e u hu).mpr e1) ((B.e u hu).mpr e2)
theorem PairOk.bwd {p q p' q' : Place} {r s r' s' : List Int} {c d : Option Int} (A : Turn t p r c p' r') (B : Turn t q s d q' s') (dis : 0 ≤ p.1 → p.1 ≠ q.1) (J : Joint h a b p q c d) (P : PairOk h a b (t + 1) p' r' q' s') : PairOk h a b t p r q s := by
  refine ⟨fun u hu x o1 o2 => ?_, fun u hu e1 e2 => ?_⟩
  · by_cases z : u = t
    · subst z
      rcases (A.o0 x).mp o1 with ⟨g1, g2⟩ | ⟨g1, g2⟩
      · rcases (B.o0 x).mp o2 with ⟨k1, k2⟩ | ⟨k1, k2⟩
        · exact dis g1 (g2.trans k2.symm)
        · exact J.2.1 x k1 k2 g2
      · rcases (B.o0 x).mp o2 with ⟨k1, k2⟩ | ⟨k1, k2⟩
        · exact J.1 x g1 g2 k2
        · exact (J.2.2 x x g1 k1).2 g2 rfl
    · exact P.1 u (by omega) x ((A.o u (by omega) x).mp o1) ((B.o u (by omega) x).mp o2)
  · by_cases z : u = t
    · subst z
      have h1 := A.e0.mp e1
      have h2 := B.e0.mp e2
      cases c with
      | none => exact absurd rfl h1
      | some x =>
        cases d with
        | none => exact absurd rfl h2
        | some y => exact (J.2.2 x y rfl rfl).1
    · exact P.2 u (by omega) ((A.e u (by omega)).mp e1) ((B.e u (by omega)).mp e2)
end
end Tk
end

section
namespace Tk
open PySem
theorem dis2 (x y : Int) : (distinct [x, y]).length = if x = y then 1 else 2 := by
  show (PyProof.Rows.step_dedup (PyProof.Rows.step_dedup [] x) y).length = _
  unfold PyProof.Rows.step_dedup
  by_cases e : x = y
  · subst e; simp
  · have e2 : ¬ y = x := fun z => e z.symm
    simp [e, e2]
theorem dis1 (x : Int) : (distinct [x]).length = 1 := rfl
theorem dis0 : (distinct []).length = 0 := rfl
section
variable {h : Hb} {lat : Lat} {i : Nat} {a b : Sh} {t : Int}
theorem berthsFor_mem {ps : List Place} {x : Int} : x ∈ berthsFor h a ps ↔ 0 ≤ x ∧ x < h.berths.length ∧ a.len ≤ h.berths.getD x.toNat 0 ∧ ∀ q ∈ ps, q.1 ≠ x := by
  unfold berthsFor
  rw [List.mem_map]
  constructor
  · rintro ⟨⟨l, k⟩, hm, rfl⟩
    rw [List.mem_filter, List.mem_zipIdx_iff_getElem?] at hm
    obtain ⟨h1, h2⟩ := hm
    have hk := (List.getElem?_eq_some_iff.mp h1).1
    simp only [Bool.and_eq_true, decide_eq_true_eq, Bool.not_eq_true', List.any_eq_false] at h2
    refine ⟨by simp, by simpa using hk, ?_, fun q hq => by simpa using h2.2 q hq⟩
    rw [(List.getD_eq_getElem?_getD)]
    simp only [Int.toNat_natCast]
    have h1' : h.berths[k]? = some l := h1
    rw [h1']
    exact h2.1
  · rintro ⟨h1, h2, h3, h4⟩
    have hk : x.toNat < h.berths.length := by omega
    refine ⟨(h.berths.getD x.toNat 0, x.toNat), ?_, by show ((x.toNat : Nat) : Int) = x; omega⟩
    rw [List.mem_filter, List.mem_zipIdx_iff_getElem?]
    refine ⟨?_, ?_⟩
    · show h.berths[x.toNat]? = some _
      rw [List.getD_eq_getElem?_getD, List.getElem?_eq_getElem hk]
      rfl
    · simp only [Bool.and_eq_true, decide_eq_true_eq, Bool.not_eq_true', List.any_eq_false]
      refine ⟨h3, fun q hq => ?_⟩
      have := h4 q hq
      omega
/-- the row of a ship's choices -/
theorem rowOf_mem {s : Stt} {p : Place} {x : Int} (hp : placeAt s.2 i = p) (ok : PlOk h a p) (hl : s.1 ≤ h.last) (ht : a.tugs ≤ h.tugs) : x ∈ rowOf h lat s i a ↔ May h lat i a s.1 p (some x) ∧ (0 ≤ x → ∀ q ∈ s.2, q.1 ≠ x) := by
  unfold rowOf
  rw [hp]
  by_cases hd : a.draught ≤ depthAt h s.1
  · rw [if_pos hd]
    have hdp : deep h a s.1 = true := decide_eq_true hd
    cases ok with
    | sea =>
      by_cases hr : a.ready ≤ s.1
      · rw [if_pos ⟨rfl, hr⟩, berthsFor_mem]
        constructor
        · rintro ⟨h1, h2, h3, h4⟩
          exact ⟨.enter x hdp hr h1 h2 h3 ht, fun _ => h4⟩
        · rintro ⟨m, h2⟩
          generalize hq : SEA = q at m
          cases m with
          | enter x g1 g2 g3 g4 g5 g6 => exact ⟨g3, g4, g5, h2 g3⟩
          | leave b g1 g2 => exact absurd (congrArg Prod.fst hq) (by show (-1 : Int) ≠ b; omega)
      · rw [if_neg (fun z => hr z.2), if_neg (fun z => absurd z.1 (by decide))]
        constructor
        · intro z; exact absurd z List.not_mem_nil
        · rintro ⟨m, h2⟩
          generalize hq : SEA = q at m
          cases m with
          | enter x g1 g2 => exact absurd g2 hr
          | leave b g1 g2 => exact absurd (congrArg Prod.fst hq) (by show (-1 : Int) ≠ b; omega)
    | gone =>
      rw [if_neg (fun z => absurd z.1 (by decide)), if_neg (fun z => absurd z.1 (by decide))]
      constructor
      · intro z; exact absurd z List.not_mem_nil
      · rintro ⟨m, h2⟩
        generalize hq : GONE = q at m
        cases m with
        | enter x g1 g2 => exact absurd hq (by decide)
        | leave b g1 g2 => exact absurd (congrArg Prod.fst hq) (by show (-2 : Int) ≠ b; omega)
    | in_ b l k1 k2 k3 k4 =>
      rw [if_neg (fun z => absurd (congrArg Prod.fst z.1) (by show b ≠ -1; omega))]
      by_cases hc : 0 ≤ b ∧ l = 0 ∧ isKept lat i s.1 = true
      · rw [if_pos hc, List.mem_singleton]
        obtain ⟨c1, rfl, c3⟩ := hc
        constructor
        · rintro rfl
          exact ⟨.leave b hdp c1 c3 ht hl, fun z => absurd z (by decide)⟩
        · rintro ⟨m, h2⟩
          generalize hq : (b, (0 : Int)) = q at m
          cases m with
          | enter x g1 g2 => exact absurd (congrArg Prod.fst hq) (by show b ≠ -1; omega)
          | leave b g1 g2 => rfl
      · rw [if_neg hc]
        constructor
        · intro z; exact absurd z List.not_mem_nil
        · rintro ⟨m, h2⟩
          generalize hq : (b, l) = q at m
          cases m with
          | enter x g1 g2 => exact absurd (congrArg Prod.fst hq) (by show b ≠ -1; omega)
          | leave b' g1 g2 g3 g4 => cases hq; exact absurd ⟨k1, rfl, g3⟩ hc
  · rw [if_neg hd]
    have hdp : ¬ deep h a s.1 = true := fun z => hd (of_decide_eq_true z)
    constructor
    · intro z; exact absurd z List.not_mem_nil
    · rintro ⟨m, h2⟩
      cases m with
      | enter x g1 g2 => exact absurd g1 hdp
      | leave b g1 g2 => exact absurd g1 hdp
def mvI (i : Int) : Option Int → Mv
  | none => []
  | some x => [(i, x)]
theorem let1 {ships : List Sh} {n x : Int} {sh : Sh} (hs : shipAt ships n = sh) (hp : 0 < h.pilots) : isLet h ships [(n, x)] = decide (sh.tugs ≤ h.tugs) := by
  unfold isLet
  have e : (distinct (mvBerths [(n, x)])).length = (mvBerths [(n, x)]).length := by
    by_cases hx : 0 ≤ x
    · have : mvBerths [(n, x)] = [x] := by unfold mvBerths; simp [hx]
      rw [this]; rfl
    · have : mvBerths [(n, x)] = [] := by unfold mvBerths; simp [hx]
      rw [this]; rfl
  rw [if_neg (by rw [e]; simp; omega)]
  simp [hs]
theorem let2 {ships : List Sh} {n m x y : Int} (hs : shipAt ships n = a) (hs2 : shipAt ships m = b) : isLet h ships [(n, x), (m, y)] = true ↔ Both h a b ∧ (0 ≤ x → 0 ≤ y → x ≠ y) := by
  unfold isLet Both
  have e : ((distinct (mvBerths [(n, x), (m, y)])).length ≠ (mvBerths [(n, x), (m, y)]).length) ↔ (0 ≤ x ∧ 0 ≤ y ∧ x = y) := by
    rcases Decidable.em (0 ≤ x) with hx|hx <;> rcases Decidable.em (0 ≤ y) with hy|hy
    · have : mvBerths [(n, x), (m, y)] = [x, y] := by unfold mvBerths; simp [hx, hy]
      rw [this, dis2]
      by_cases z : x = y
      · simp [z, hy]
      · simp [z]
    · have : mvBerths [(n, x), (m, y)] = [x] := by unfold mvBerths; simp [hx, hy]
      rw [this, dis1]; simp [hy]
    · have : mvBerths [(n, x), (m, y)] = [y] := by unfold mvBerths; simp [hx, hy]
      rw [this, dis1]; simp [hx]
    · have : mvBerths [(n, x), (m, y)] = [] := by unfold mvBerths; simp [hx, hy]
      rw [this, dis0]; simp [hx]
  show (if (distinct (mvBerths [(n, x), (m, y)])).length ≠ (mvBerths [(n, x), (m, y)]).length ∨ h.pilots < 2 then false else _) = true ↔ _
  by_cases hq : (0 ≤ x ∧ 0 ≤ y ∧ x = y) ∨ h.pilots < 2
  · rw [if_pos (hq.imp e.mpr id)]
    constructor
    · intro z; cases z
    · intro z
      rcases hq with hq | hq
      · exact absurd hq.2.2 (z.2 hq.1 hq.2.1)
      · exact absurd z.1.1 (by omega)
  · rw [if_neg (fun z => hq (z.imp e.mp id))]
    simp [hs, hs2]
    constructor
    · intro z; exact ⟨⟨by omega, z⟩, fun p q r => hq (.inl ⟨p, q, r⟩)⟩
    · intro z; exact z.1.2
end
end Tk
end

section
namespace Tk
open PySem
section
variable {h : Hb} {lat : Lat} {i : Nat} {a b : Sh} {t : Int} {p q : Place}
theorem pick_iff {s : Stt} {x : Int} (hp : placeAt s.2 i = p) (ok : PlOk h a p) (hl : s.1 ≤ h.last) : (x ∈ rowOf h lat s i a ∧ a.tugs ≤ h.tugs) ↔ May h lat i a s.1 p (some x) ∧ (0 ≤ x → ∀ q ∈ s.2, q.1 ≠ x) := by
  constructor
  · rintro ⟨h1, h2⟩
    exact (rowOf_mem hp ok hl h2).mp h1
  · intro z
    have ht : a.tugs ≤ h.tugs := by
      have m := z.1
      generalize hc : some x = c at m
      cases m with
      | stay => cases hc
      | enter x g1 g2 g3 g4 g5 g6 => exact g6
      | leave b g1 g2 g3 g4 => exact g4
    exact ⟨(rowOf_mem hp ok hl ht).mpr z, ht⟩
theorem filter_mem {f : Mv → Bool} {l : List Mv} {mv : Mv} : mv ∈ l.filter f ↔ mv ∈ l ∧ f mv = true := List.mem_filter
/-! ### one ship -/
theorem moves1_mem (hp : 0 < h.pilots) {s : Stt} {mv : Mv} : mv ∈ allMoves h [a] s lat ↔ ∃ c, (∀ x, c = some x → x ∈ rowOf h lat s 0 a ∧ a.tugs ≤ h.tugs) ∧ mv = mvI 0 c := by
  show mv ∈ stepMoves h [a] [[]] (rowOf h lat s 0 a, 0) ↔ _
  unfold stepMoves moreOf
  rw [List.mem_append, List.mem_filter]
  show mv ∈ [[]] ∨ (mv ∈ [] ++ (rowOf h lat s 0 a).map (fun b => [] ++ [(((0 : Nat) : Int), b)])) ∧ _ ↔ _
  rw [List.nil_append, List.mem_map, List.mem_singleton]
  constructor
  · rintro (z | ⟨⟨x, hx, rfl⟩, hl⟩)
    · exact ⟨none, (fun x e => by cases e), z⟩
    · refine ⟨some x, fun y e => ?_, rfl⟩
      cases e
      refine ⟨hx, ?_⟩
      have e1 : isLet h [a] [((0 : Int), x)] = true := hl
      rw [let1 (sh := a) rfl hp] at e1
      exact of_decide_eq_true e1
  · rintro ⟨c, hc, rfl⟩
    cases c with
    | none => exact .inl rfl
    | some x =>
      obtain ⟨h1, h2⟩ := hc x rfl
      refine .inr ⟨⟨x, h1, rfl⟩, ?_⟩
      show isLet h [a] [((0 : Int), x)] = true
      rw [let1 (sh := a) rfl hp]
      exact decide_eq_true h2
theorem cost1 (c : Option Int) : costIn [a] (t, [p]) (mvI 0 c) = costP a t p c := by
  cases c with
  | none =>
    show costStep (t, [p]) [] 0 (a, 0) = _
    unfold costStep costP
    show (if p = SEA ∧ a.ready ≤ t then 0 + a.sea else if 0 ≤ p.1 ∧ p.2 = 0 then 0 + a.lie else 0) = _
    rw [Int.zero_add, Int.zero_add]
  | some x => rfl
theorem after1 (c : Option Int) : afterMoves [a] (t, [p]) (mvI 0 c) = (t + 1, [stepP a p c]) := by
  cases c with
  | none => rfl
  | some x =>
    unfold afterMoves mvI stepP
    simp [moveTo, shipAt]
theorem ahead1 (c : Option Int) (r : List Int) : putAhead t (mvI 0 c) [r] = [aheadP t c r] := by
  cases c with
  | none => rfl
  | some x => rfl
theorem isEnd1 : isEnd (t, [p]) = decide (p = GONE) := by
  unfold isEnd
  simp
theorem ways1 (hp : 0 < h.pilots) (ok : PlOk h a p) {w : Way} : w ∈ waysIn h [a] (t, [p]) lat ↔ t ≤ h.last ∧ p ≠ GONE ∧ ∃ c, May h lat 0 a t p c ∧ w = (mvI 0 c, costP a t p c, (t + 1, [stepP a p c])) := by
  unfold waysIn movesIn
  by_cases hq : h.last < t ∨ isEnd (t, [p]) = true
  · rw [if_pos hq]
    constructor
    · intro z; cases z
    · rintro ⟨z1, z2, _⟩
      rcases hq with hq | hq
      · omega
      · rw [isEnd1] at hq
        exact absurd (of_decide_eq_true hq) z2
  · rw [if_neg hq, List.mem_map]
    have hl : t ≤ h.last := by omega
    have hg : p ≠ GONE := fun z => hq (.inr (by rw [isEnd1]; exact decide_eq_true z))
    have key : ∀ x, (x ∈ rowOf h lat (t, [p]) 0 a ∧ a.tugs ≤ h.tugs) ↔ May h lat 0 a t p (some x) := fun x => by
      rw [pick_iff (s := (t, [p])) (i := 0) rfl ok hl]
      constructor
      · exact fun z => z.1
      · intro m
        refine ⟨m, fun h0 q hq' => ?_⟩
        rw [List.mem_singleton.mp hq']
        generalize hc : some x = c at m
        cases m with
        | stay => cases hc
        | enter x g1 g2 g3 => cases hc; show (-1 : Int) ≠ x; omega
        | leave b g1 g2 g3 g4 => cases hc; omega
    constructor
    · rintro ⟨mv, hm, rfl⟩
      rw [List.mem_mergeSort, moves1_mem hp] at hm
      obtain ⟨c, hc, rfl⟩ := hm
      refine ⟨hl, hg, c, ?_, by rw [cost1, after1]⟩
      cases c with
      | none => exact .stay _
      | some x => exact (key x).mp (hc x rfl)
    · rintro ⟨_, _, c, hc, rfl⟩
      refine ⟨mvI 0 c, ?_, by rw [cost1, after1]⟩
      rw [List.mem_mergeSort, moves1_mem hp]
      exact ⟨c, fun x e => by subst e; exact (key x).mpr hc, rfl⟩
/-! ### two ships -/
theorem moves2_mem (hp : 0 < h.pilots) (ht : 0 ≤ a.tugs ∧ 0 ≤ b.tugs) {s : Stt} {mv : Mv} : mv ∈ allMoves h [a, b] s lat ↔ ∃ c d, (∀ x, c = some x → x ∈ rowOf h lat s 0 a ∧ a.tugs ≤ h.tugs) ∧ (∀ x, d = some x → x ∈ rowOf h lat s 1 b ∧ b.tugs ≤ h.tugs) ∧
    (∀ x y, c = some x → d = some y → Both h a b ∧ (0 ≤ x → 0 ≤ y → x ≠ y)) ∧ mv = mvI 0 c ++ mvI 1 d := by
  show mv ∈ stepMoves h [a, b] (stepMoves h [a, b] [[]] (rowOf h lat s 0 a, 0)) (rowOf h lat s 1 b, 1) ↔ _
  have e1 : stepMoves h [a, b] [[]] (rowOf h lat s 0 a, 0) = [[]] ++ ((rowOf h lat s 0 a).map fun x => [((0 : Int), x)]).filter (isLet h [a, b]) := rfl
  have m1 : ∀ {mv : Mv}, mv ∈ stepMoves h [a, b] [[]] (rowOf h lat s 0 a, 0) ↔ ∃ c, (∀ x, c = some x → x ∈ rowOf h lat s 0 a ∧ a.tugs ≤ h.tugs) ∧ mv = mvI 0 c := by
    intro mv
    rw [e1, List.mem_append, List.mem_filter, List.mem_map, List.mem_singleton]
    constructor
    · rintro (z | ⟨⟨x, hx, rfl⟩, hl⟩)
      · exact ⟨none, (fun x e => by cases e), z⟩
      · refine ⟨some x, fun y e => ?_, rfl⟩
        cases e
        rw [let1 (sh := a) rfl hp] at hl
        exact ⟨hx, of_decide_eq_true hl⟩
    · rintro ⟨c, hc, rfl⟩
      cases c with
      | none => exact .inl rfl
      | some x =>
        obtain ⟨h1, h2⟩ := hc x rfl
        refine .inr ⟨⟨x, h1, rfl⟩, ?_⟩
        show isLet h [a, b] [((0 : Int), x)] = true
        rw [let1 (sh := a) rfl hp]
        exact decide_eq_true h2
  generalize stepMoves h [a, b] [[]] (rowOf h lat s 0 a, 0) = found at m1
  have m2 : ∀ (fs : List Mv) (acc : List Mv) (row : List Int) {mv : Mv}, mv ∈ fs.foldl (fun more mv => more ++ row.map fun y => mv ++ [(((1 : Nat) : Int), y)]) acc ↔ mv ∈ acc ∨ ∃ m ∈ fs, ∃ y ∈ row, mv = m ++ [((1 : Int), y)] := by
    intro fs
    induction fs with
    | nil => intro acc row mv; simp
    | cons f fs ih =>
      intro acc row mv
      rw [List.foldl_cons, ih, List.mem_append, List.mem_map]
      constructor
      · rintro ((z | ⟨y, hy, rfl⟩) | ⟨m, hm, y, hy, rfl⟩)
        · exact .inl z
        · exact .inr ⟨f, List.mem_cons_self, y, hy, rfl⟩
        · exact .inr ⟨m, List.mem_cons_of_mem _ hm, y, hy, rfl⟩
      · rintro (z | ⟨m, hm, y, hy, rfl⟩)
        · exact .inl (.inl z)
        · rcases List.mem_cons.mp hm with rfl | hm
          · exact .inl (.inr ⟨y, hy, rfl⟩)
          · exact .inr ⟨m, hm, y, hy, rfl⟩
  unfold stepMoves moreOf
  rw [List.mem_append, List.mem_filter, m1, m2]
  constructor
  · rintro (⟨c, hc, rfl⟩ | ⟨z | ⟨m, hm, y, hy, rfl⟩, hl⟩)
    · exact ⟨c, none, hc, (fun x e => by cases e), (fun x y _ e => by cases e), by show _ = mvI 0 c ++ []; rw [List.append_nil]⟩
    · cases z
    · obtain ⟨c, hc, rfl⟩ := m1.mp hm
      cases c with
      | none =>
        have e2 : isLet h [a, b] [((1 : Int), y)] = true := hl
        rw [let1 (sh := b) rfl hp] at e2
        exact ⟨none, some y, hc, fun x e => by cases e; exact ⟨hy, of_decide_eq_true e2⟩, fun x y' e _ => (by cases e), rfl⟩
      | some x =>
        have e2 : isLet h [a, b] [((0 : Int), x), ((1 : Int), y)] = true := hl
        rw [let2 (a := a) (b := b) rfl rfl] at e2
        refine ⟨some x, some y, hc, fun x' e => ?_, fun x' y' e1 e3 => ?_, rfl⟩
        · cases e
          have := e2.1.2
          exact ⟨hy, by omega⟩
        · cases e1
          cases e3
          exact e2
  · rintro ⟨c, d, hc, hd, hj, rfl⟩
    cases d with
    | none => exact .inl ⟨c, hc, by show mvI 0 c ++ [] = _; rw [List.append_nil]⟩
    | some y =>
      refine .inr ⟨.inr ⟨mvI 0 c, m1.mpr ⟨c, hc, rfl⟩, y, (hd y rfl).1, rfl⟩, ?_⟩
      cases c with
      | none =>
        show isLet h [a, b] [((1 : Int), y)] = true
        rw [let1 (sh := b) rfl hp]
        exact decide_eq_true (hd y rfl).2
      | some x =>
        show isLet h [a, b] [((0 : Int), x), ((1 : Int), y)] = true
        rw [let2 (a := a) (b := b) rfl rfl]
        exact hj x y rfl rfl
theorem cost2 (c d : Option Int) : costIn [a, b] (t, [p, q]) (mvI 0 c ++ mvI 1 d) = costP a t p c + costP b t q d := by
  have e : costIn [a, b] (t, [p, q]) (mvI 0 c ++ mvI 1 d) = costStep (t, [p, q]) (mvI 0 c ++ mvI 1 d) (costStep (t, [p, q]) (mvI 0 c ++ mvI 1 d) 0 (a, 0)) (b, 1) := rfl
  rw [e]
  have s1 : ∀ k, costStep (t, [p, q]) (mvI 0 c ++ mvI 1 d) k (a, 0) = k + costP a t p c := by
    intro k
    have e2 : ((mvI 0 c ++ mvI 1 d).any fun m => decide (m.1 = ((0 : Nat) : Int))) = c.isSome := by cases c <;> cases d <;> simp [mvI]
    unfold costStep
    simp only
    rw [e2]
    cases c with
    | none =>
      show (if p = SEA ∧ a.ready ≤ t then k + a.sea else if 0 ≤ p.1 ∧ p.2 = 0 then k + a.lie else k) = k + (if p = SEA ∧ a.ready ≤ t then a.sea else if 0 ≤ p.1 ∧ p.2 = 0 then a.lie else 0)
      split
      · rfl
      · split
        · rfl
        · omega
    | some x => show k = k + 0; omega
  have s2 : ∀ k, costStep (t, [p, q]) (mvI 0 c ++ mvI 1 d) k (b, 1) = k + costP b t q d := by
    intro k
    have e2 : ((mvI 0 c ++ mvI 1 d).any fun m => decide (m.1 = ((1 : Nat) : Int))) = d.isSome := by cases c <;> cases d <;> simp [mvI]
    unfold costStep
    simp only
    rw [e2]
    cases d with
    | none =>
      show (if q = SEA ∧ b.ready ≤ t then k + b.sea else if 0 ≤ q.1 ∧ q.2 = 0 then k + b.lie else k) = k + (if q = SEA ∧ b.ready ≤ t then b.sea else if 0 ≤ q.1 ∧ q.2 = 0 then b.lie else 0)
      split
      · rfl
      · split
        · rfl
        · omega
    | some x => show k = k + 0; omega
  rw [s1, s2, Int.zero_add]
theorem after2 (c d : Option Int) : afterMoves [a, b] (t, [p, q]) (mvI 0 c ++ mvI 1 d) = (t + 1, [stepP a p c, stepP b q d]) := by
  cases c <;> cases d <;> rfl
theorem ahead2 (c d : Option Int) (r s : List Int) : putAhead t (mvI 0 c ++ mvI 1 d) [r, s] = [aheadP t c r, aheadP t d s] := by
  cases c <;> cases d <;> rfl
theorem isEnd2 : isEnd (t, [p, q]) = (decide (p = GONE) && decide (q = GONE)) := by
  unfold isEnd
  simp
theorem may_place {x : Int} (m : May h lat i a t p (some x)) : x = -1 ∧ 0 ≤ p.1 ∨ 0 ≤ x ∧ p = SEA := by
  generalize hc : some x = c at m
  cases m with
  | stay => cases hc
  | enter x g1 g2 g3 => cases hc; exact .inr ⟨g3, rfl⟩
  | leave b g1 g2 => cases hc; exact .inl ⟨rfl, g2⟩
theorem ways2 (hp : 0 < h.pilots) (ht : 0 ≤ a.tugs ∧ 0 ≤ b.tugs) (ok : PlOk h a p) (ok2 : PlOk h b q) {w : Way} : w ∈ waysIn h [a, b] (t, [p, q]) lat ↔ t ≤ h.last ∧ ¬ (p = GONE ∧ q = GONE) ∧ ∃ c d, May h lat 0 a t p c ∧ May h lat 1 b t q d ∧ Joint h a b p q c d ∧
    w = (mvI 0 c ++ mvI 1 d, costP a t p c + costP b t q d, (t + 1, [stepP a p c, stepP b q d])) := by
  unfold waysIn movesIn
  by_cases hq : h.last < t ∨ isEnd (t, [p, q]) = true
  · rw [if_pos hq]
    constructor
    · intro z; cases z
    · rintro ⟨z1, z2, _⟩
      rcases hq with hq | hq
      · omega
      · rw [isEnd2, Bool.and_eq_true, decide_eq_true_eq, decide_eq_true_eq] at hq
        exact absurd hq z2
  · rw [if_neg hq, List.mem_map]
    have hl : t ≤ h.last := by omega
    have hg : ¬ (p = GONE ∧ q = GONE) := fun z => hq (.inr (by rw [isEnd2, decide_eq_true z.1, decide_eq_true z.2]; rfl))
    have k1 : ∀ x, (x ∈ rowOf h lat (t, [p, q]) 0 a ∧ a.tugs ≤ h.tugs) ↔ May h lat 0 a t p (some x) ∧ (0 ≤ x → q.1 ≠ x) := fun x => by
      rw [pick_iff (s := (t, [p, q])) (i := 0) rfl ok hl]
      constructor
      · exact fun z => ⟨z.1, fun h0 => z.2 h0 q (by simp)⟩
      · rintro ⟨m, z⟩
        refine ⟨m, fun h0 y hy => ?_⟩
        simp only [List.mem_cons, List.not_mem_nil, or_false] at hy
        rcases hy with rfl | rfl
        · rcases may_place m with g | g
          · omega
          · rw [g.2]; show (-1 : Int) ≠ x; omega
        · exact z h0
    have k2 : ∀ x, (x ∈ rowOf h lat (t, [p, q]) 1 b ∧ b.tugs ≤ h.tugs) ↔ May h lat 1 b t q (some x) ∧ (0 ≤ x → p.1 ≠ x) := fun x => by
      rw [pick_iff (s := (t, [p, q])) (i := 1) rfl ok2 hl]
      constructor
      · exact fun z => ⟨z.1, fun h0 => z.2 h0 p (by simp)⟩
      · rintro ⟨m, z⟩
        refine ⟨m, fun h0 y hy => ?_⟩
        simp only [List.mem_cons, List.not_mem_nil, or_false] at hy
        rcases hy with rfl | rfl
        · exact z h0
        · rcases may_place m with g | g
          · omega
          · rw [g.2]; show (-1 : Int) ≠ x; omega
    constructor
    · rintro ⟨mv, hm, rfl⟩
      rw [List.mem_mergeSort, moves2_mem hp ht] at hm
      obtain ⟨c, d, hc, hd, hj, rfl⟩ := hm
      refine ⟨hl, hg, c, d, ?_, ?_, ⟨fun x e h0 => ?_, fun y e h0 => ?_, fun x y e1 e2 => ?_⟩, by rw [cost2, after2]⟩
      · cases c with
        | none => exact .stay _
        | some x => exact ((k1 x).mp (hc x rfl)).1
      · cases d with
        | none => exact .stay _
        | some x => exact ((k2 x).mp (hd x rfl)).1
      · exact ((k1 x).mp (hc x e)).2 h0
      · exact ((k2 y).mp (hd y e)).2 h0
      · obtain ⟨j1, j2⟩ := hj x y e1 e2
        exact ⟨j1, fun h0 z => j2 h0 (by omega) z⟩
    · rintro ⟨_, _, c, d, hc, hd, hj, rfl⟩
      refine ⟨mvI 0 c ++ mvI 1 d, ?_, by rw [cost2, after2]⟩
      rw [List.mem_mergeSort, moves2_mem hp ht]
      exact ⟨c, d, fun x e => by subst e; exact (k1 x).mpr ⟨hc, fun h0 => hj.1 x rfl h0⟩, fun y e => by subst e; exact (k2 y).mpr ⟨hd, fun h0 => hj.2.1 y rfl h0⟩, fun x y e1 e2 => ⟨(hj.2.2 x y e1 e2).1, fun h0 _ => (hj.2.2 x y e1 e2).2 h0⟩, rfl⟩
end
end Tk
end

section
namespace Tk
open PySem
/-- what may still come of a state: a row and its cost -/
inductive Comp (h : Hb) (ships : List Sh) (lat : Lat) : Stt → Row → Int → Prop where
  | fin (s : Stt) : isEnd s = true → Comp h ships lat s (ships.map fun _ => []) 0
  | step (s : Stt) (w : Way) (row : Row) (c : Int) : isEnd s = false → w ∈ waysIn h ships s lat → Comp h ships lat w.2.2 row c → Comp h ships lat s (putAhead s.1 w.1 row) (w.2.1 + c)
/-- a state as it may be -/
inductive SInv (h : Hb) : List Sh → Stt → Prop where
  | one (a : Sh) (t : Int) (p : Place) : PlOk h a p → SInv h [a] (t, [p])
  | two (a b : Sh) (t : Int) (p q : Place) : PlOk h a p → PlOk h b q → (0 ≤ p.1 → p.1 ≠ q.1) → SInv h [a, b] (t, [p, q])
inductive SV (h : Hb) (lat : Lat) : List Sh → Stt → Row → Int → Prop where
  | one (a : Sh) (t : Int) (p : Place) (r : List Int) (k : Int) : Fit h lat 0 a t p r k → SV h lat [a] (t, [p]) [r] k
  | two (a b : Sh) (t : Int) (p q : Place) (r s : List Int) (k k2 : Int) : Fit h lat 0 a t p r k → Fit h lat 1 b t q s k2 → PairOk h a b t p r q s → SV h lat [a, b] (t, [p, q]) [r, s] (k + k2)
section
variable {h : Hb} {lat : Lat} {i : Nat} {a b : Sh} {t : Int} {p q : Place}
theorem step_pl {c : Option Int} (hs : 0 < a.stay) (ok : PlOk h a p) (m : May h lat i a t p c) : PlOk h a (stepP a p c) := by
  cases m with
  | stay =>
    cases ok with
    | sea => exact .sea
    | gone => exact .gone
    | in_ b l h1 h2 h3 h4 =>
      have e : stepP a (b, l) none = (b, max 0 (l - 1)) := by
        show later1 (b, l) = _
        unfold later1
        rw [if_pos h1]
      rw [e]
      exact .in_ b _ h1 h2 (by omega) (by omega)
  | enter x h1 h2 h3 h4 h5 h6 =>
    have e : stepP a SEA (some x) = (x, a.stay) := by show (if x = -1 then GONE else (x, a.stay)) = _; rw [if_neg (by omega)]
    rw [e]
    exact .in_ x _ h3 h4 (by omega) (Int.le_refl _)
  | leave b => exact .gone
theorem step_fst {c : Option Int} (m : May h lat i a t p c) (h0 : 0 ≤ (stepP a p c).1) : (0 ≤ p.1 ∧ (stepP a p c).1 = p.1) ∨ ∃ x, c = some x ∧ 0 ≤ x ∧ (stepP a p c).1 = x := by
  cases m with
  | stay =>
    have e : (stepP a p none).1 = p.1 := by
      show (later1 p).1 = _
      unfold later1
      split <;> rfl
    rw [e] at h0 ⊢
    exact .inl ⟨h0, rfl⟩
  | enter x h1 h2 h3 =>
    have e : stepP a SEA (some x) = (x, a.stay) := by show (if x = -1 then GONE else (x, a.stay)) = _; rw [if_neg (by omega)]
    rw [e]
    exact .inr ⟨x, rfl, h3, rfl⟩
  | leave b => exact absurd h0 (by show ¬ (0 : Int) ≤ -2; omega)
theorem step_dis {c d : Option Int} (m1 : May h lat 0 a t p c) (m2 : May h lat 1 b t q d) (J : Joint h a b p q c d) (dis : 0 ≤ p.1 → p.1 ≠ q.1) : 0 ≤ (stepP a p c).1 → (stepP a p c).1 ≠ (stepP b q d).1 := by
  intro h0 z
  rcases step_fst m1 h0 with ⟨g1, g2⟩ | ⟨x, g1, g2, g3⟩
  · rcases step_fst m2 (by omega) with ⟨k1, k2⟩ | ⟨y, k1, k2, k3⟩
    · exact dis g1 (by omega)
    · exact J.2.1 y k1 k2 (by omega)
  · rcases step_fst m2 (by omega) with ⟨k1, k2⟩ | ⟨y, k1, k2, k3⟩
    · exact J.1 x g1 g2 (by omega)
    · exact (J.2.2 x y g1 k1).2 g2 (by omega)
theorem SInv.next {ships : List Sh} {s : Stt} (hp : 0 < h.pilots) (hsh : ∀ a ∈ ships, 0 < a.stay ∧ 0 ≤ a.tugs) (I : SInv h ships s) {w : Way} (hw : w ∈ waysIn h ships s lat) : SInv h ships w.2.2 ∧ w.2.2.1 = s.1 + 1 := by
  cases I with
  | one a t p ok =>
    obtain ⟨_, _, c, m, rfl⟩ := (ways1 hp ok).mp hw
    exact ⟨.one a _ _ (step_pl (hsh a (by simp)).1 ok m), rfl⟩
  | two a b t p q ok ok2 dis =>
    have ha := hsh a (by simp)
    have hb := hsh b (by simp)
    obtain ⟨_, _, c, d, m1, m2, J, rfl⟩ := (ways2 hp ⟨ha.2, hb.2⟩ ok ok2).mp hw
    exact ⟨.two a b _ _ _ (step_pl ha.1 ok m1) (step_pl hb.1 ok2 m2) (step_dis m1 m2 J dis), rfl⟩
theorem Fit.hour {r : List Int} {k : Int} (F : Fit h lat i a t p r k) (hs : 0 < a.stay) : p = GONE ∨ t ≤ h.last := by
  cases F with
  | sea f b o h1 h2 h3 h4 => exact .inr (by omega)
  | gone => exact .inl rfl
  | in_ b l o h1 h2 h3 h4 => exact .inr (by omega)
theorem Fit.of_gone {r : List Int} {k : Int} (F : Fit h lat i a t p r k) (e : p = GONE) : r = [] ∧ k = 0 := by
  cases F with
  | sea f b o => exact absurd e (by decide)
  | gone => exact ⟨rfl, rfl⟩
  | in_ b l o h1 => exact absurd (congrArg Prod.fst e) (by show b ≠ -2; omega)
theorem comp_sv {ships : List Sh} (hp : 0 < h.pilots) (hsh : ∀ a ∈ ships, 0 < a.stay ∧ 0 ≤ a.tugs) {s : Stt} {row : Row} {c : Int} (C : Comp h ships lat s row c) (I : SInv h ships s) : SV h lat ships s row c := by
  induction C with
  | fin s he =>
    cases I with
    | one a t p ok =>
      rw [isEnd1] at he
      have e := of_decide_eq_true he
      subst e
      exact .one a t _ [] 0 .gone
    | two a b t p q ok ok2 dis =>
      rw [isEnd2, Bool.and_eq_true, decide_eq_true_eq, decide_eq_true_eq] at he
      obtain ⟨rfl, rfl⟩ := he
      refine .two a b t _ _ [] [] 0 0 .gone .gone ⟨fun u hu x z => ?_, fun u hu z => ?_⟩
      · exact (occ0.mp z).elim
      · exact (ev0.mp z).elim
  | step s w row c he hw C ih =>
    have I2 := (I.next hp hsh hw).1
    have V := ih I2
    cases I with
    | one a t p ok =>
      obtain ⟨_, _, c, m, rfl⟩ := (ways1 hp ok).mp hw
      have ha := hsh a (by simp)
      cases V with
      | one _ _ _ r k F =>
        rw [show putAhead (t, [p]).1 (mvI 0 c) [r] = [aheadP t c r] from ahead1 c r]
        exact .one a t p _ _ (F.bwd ha.1 ok m).1
    | two a b t p q ok ok2 dis =>
      have ha := hsh a (by simp)
      have hb := hsh b (by simp)
      obtain ⟨_, _, c, d, m1, m2, J, rfl⟩ := (ways2 hp ⟨ha.2, hb.2⟩ ok ok2).mp hw
      cases V with
      | two _ _ _ _ _ r s k k2 F F2 P =>
        rw [show putAhead (t, [p, q]).1 (mvI 0 c ++ mvI 1 d) [r, s] = [aheadP t c r, aheadP t d s] from ahead2 c d r s]
        obtain ⟨G, e1⟩ := F.bwd ha.1 ok m1
        obtain ⟨G2, e2⟩ := F2.bwd hb.1 ok2 m2
        have T1 := G.turn ha.1 (r' := r) (by rw [e1])
        have T2 := G2.turn hb.1 (r' := s) (by rw [e2])
        rw [e1] at T1
        rw [e2] at T2
        have e3 : (costP a t p c + costP b t q d) + (k + k2) = (costP a t p c + k) + (costP b t q d + k2) := by omega
        rw [show ((mvI 0 c ++ mvI 1 d, costP a t p c + costP b t q d, (t + 1, [stepP a p c, stepP b q d])) : Way).2.1 + (k + k2) = (costP a t p c + k) + (costP b t q d + k2) from e3]
        exact .two a b t p q _ _ _ _ G G2 (PairOk.bwd T1 T2 dis J P)
theorem sv_comp {ships : List Sh} (hp : 0 < h.pilots) (hsh : ∀ a ∈ ships, 0 < a.stay ∧ 0 ≤ a.tugs) : ∀ (n : Nat) {s : Stt} {row : Row} {c : Int}, (h.last + 1 - s.1).toNat ≤ n → SV h lat ships s row c → SInv h ships s → Comp h ships lat s row c := by
  intro n
  induction n with
  | zero =>
    intro s row c hn V I
    cases V with
    | one a t p r k F =>
      have hn' : (h.last + 1 - t).toNat ≤ 0 := hn
      rcases F.hour (hsh a (by simp)).1 with e | e
      · obtain ⟨rfl, rfl⟩ := F.of_gone e
        exact .fin (t, [p]) (by rw [isEnd1]; exact decide_eq_true e)
      · omega
    | two a b t p q r s k k2 F F2 P =>
      have hn' : (h.last + 1 - t).toNat ≤ 0 := hn
      rcases F.hour (hsh a (by simp)).1 with e | e
      · rcases F2.hour (hsh b (by simp)).1 with e2 | e2
        · obtain ⟨rfl, rfl⟩ := F.of_gone e
          obtain ⟨rfl, rfl⟩ := F2.of_gone e2
          exact .fin (t, [p, q]) (by rw [isEnd2, decide_eq_true e, decide_eq_true e2]; rfl)
        · omega
      · omega
  | succ n ih =>
    intro s row c hn V I
    cases V with
    | one a t p r k F =>
      have ha := hsh a (by simp)
      have hn' : (h.last + 1 - t).toNat ≤ n + 1 := hn
      by_cases e : p = GONE
      · obtain ⟨rfl, rfl⟩ := F.of_gone e
        exact .fin (t, [p]) (by rw [isEnd1]; exact decide_eq_true e)
      · have hl : t ≤ h.last := (F.hour ha.1).resolve_left e
        obtain ⟨r', k', e1, e2, F', m⟩ := F.fwd ha.1
        cases I with
        | one _ _ _ ok =>
          have hw := (ways1 (lat := lat) hp ok (w := (mvI 0 (chAt t r), costP a t p (chAt t r), (t + 1, [stepP a p (chAt t r)])))).mpr ⟨hl, e, _, m, rfl⟩
          have C := ih (s := (t + 1, [stepP a p (chAt t r)])) (row := [r']) (c := k') (by show (h.last + 1 - (t + 1)).toNat ≤ n; omega) (.one a _ _ r' k' F') (.one a _ _ (step_pl ha.1 ok m))
          have C2 := Comp.step (t, [p]) _ _ _ (by rw [isEnd1]; exact decide_eq_false e) hw C
          rw [show putAhead (t, [p]).1 (mvI 0 (chAt t r)) [r'] = [r] from (ahead1 _ _).trans (by rw [← e1])] at C2
          rw [e2]
          exact C2
    | two a b t p q r s k k2 F F2 P =>
      have ha := hsh a (by simp)
      have hb := hsh b (by simp)
      have hn' : (h.last + 1 - t).toNat ≤ n + 1 := hn
      by_cases e : p = GONE ∧ q = GONE
      · obtain ⟨rfl, rfl⟩ := F.of_gone e.1
        obtain ⟨rfl, rfl⟩ := F2.of_gone e.2
        exact .fin (t, [p, q]) (by rw [isEnd2, decide_eq_true e.1, decide_eq_true e.2]; rfl)
      · have hl : t ≤ h.last := by
          rcases F.hour ha.1 with e1 | e1
          · rcases F2.hour hb.1 with e2 | e2
            · exact absurd ⟨e1, e2⟩ e
            · exact e2
          · exact e1
        obtain ⟨r', k', e1, e2, F', m⟩ := F.fwd ha.1
        obtain ⟨s', k2', e3, e4, F2', m2⟩ := F2.fwd hb.1
        obtain ⟨J, P'⟩ := PairOk.fwd (F.turn ha.1 e1) (F2.turn hb.1 e3) P
        cases I with
        | two _ _ _ _ _ ok ok2 dis =>
          have hw := (ways2 (lat := lat) hp ⟨ha.2, hb.2⟩ ok ok2 (w := (mvI 0 (chAt t r) ++ mvI 1 (chAt t s), costP a t p (chAt t r) + costP b t q (chAt t s), (t + 1, [stepP a p (chAt t r), stepP b q (chAt t s)])))).mpr ⟨hl, e, _, _, m, m2, J, rfl⟩
          have C := ih (s := (t + 1, [stepP a p (chAt t r), stepP b q (chAt t s)])) (row := [r', s']) (c := k' + k2') (by show (h.last + 1 - (t + 1)).toNat ≤ n; omega) (.two a b _ _ _ r' s' k' k2' F' F2' P') (.two a b _ _ _ (step_pl ha.1 ok m) (step_pl hb.1 ok2 m2) (step_dis m m2 J dis))
          have C2 := Comp.step (t, [p, q]) _ _ _ (by rw [isEnd2]; by_cases z : p = GONE <;> by_cases z2 : q = GONE <;> simp [z, z2] at e ⊢) hw C
          rw [show putAhead (t, [p, q]).1 (mvI 0 (chAt t r) ++ mvI 1 (chAt t s)) [r', s'] = [r, s] from (ahead2 _ _ _ _).trans (by rw [← e1, ← e3])] at C2
          have e5 : (costP a t p (chAt t r) + costP b t q (chAt t s)) + (k' + k2') = k + k2 := by omega
          rw [← e5]
          exact C2
theorem comp_iff {ships : List Sh} (hp : 0 < h.pilots) (hsh : ∀ a ∈ ships, 0 < a.stay ∧ 0 ≤ a.tugs) {s : Stt} {row : Row} {c : Int} (I : SInv h ships s) : Comp h ships lat s row c ↔ SV h lat ships s row c :=
  ⟨fun C => comp_sv hp hsh C I, fun V => sv_comp hp hsh _ (Nat.le_refl _) V I⟩
end
end Tk
end

section
namespace Tk
open PySem
def tri (o : One) : List Int := [o.1, o.2.1, o.2.2]
def planRow (p : LPlan) : Row := p.map tri
section
variable {h : Hb} {lat : Lat} {i : Nat} {a b : Sh} {t : Int} {p q : Place}
/-- an option, for its own part -/
structure Opt (h : Hb) (a : Sh) (o : One) : Prop where
  r : a.ready ≤ o.1
  s : o.1 + a.stay + 1 ≤ o.2.2
  l : o.2.2 ≤ h.last
  d : deep h a o.1 = true
  d2 : deep h a o.2.2 = true
  b0 : 0 ≤ o.2.1
  b1 : o.2.1 < h.berths.length
  n : a.len ≤ h.berths.getD o.2.1.toNat 0
  u : a.tugs ≤ h.tugs
theorem foldl_mem {α β : Type} {f : List β → α → List β} {R : α → β → Prop} (hf : ∀ acc x y, y ∈ f acc x ↔ y ∈ acc ∨ R x y) : ∀ (xs : List α) (acc : List β) (y : β), y ∈ xs.foldl f acc ↔ y ∈ acc ∨ ∃ x ∈ xs, R x y
  | [], acc, y => by simp
  | x :: xs, acc, y => by
    rw [List.foldl_cons, foldl_mem hf xs, hf]
    constructor
    · rintro ((z | z) | ⟨x', hx, z⟩)
      · exact .inl z
      · exact .inr ⟨x, List.mem_cons_self, z⟩
      · exact .inr ⟨x', List.mem_cons_of_mem _ hx, z⟩
    · rintro (z | ⟨x', hx, z⟩)
      · exact .inl (.inl z)
      · rcases List.mem_cons.mp hx with rfl | hx
        · exact .inl (.inr z)
        · exact .inr ⟨x', hx, z⟩
theorem options_mem (hs : 0 < a.stay) {o : One} : o ∈ options h a ↔ Opt h a o := by
  unfold options
  have m3 : ∀ (first : Int) (berth : Nat) acc out y, y ∈ opt3 h a first berth acc out ↔ y ∈ acc ∨ (optOk h a first berth out = true ∧ y = (first, ((berth : Nat) : Int), out)) := by
    intro first berth acc out y
    unfold opt3
    split
    · rename_i z
      rw [List.mem_append, List.mem_singleton]
      simp [z]
    · rename_i z
      simp [z]
  have m2 : ∀ (first : Int) acc (berth : Nat) y, y ∈ opt2 h a first acc berth ↔ y ∈ acc ∨ ∃ out ∈ rgI (first + a.stay + 1) (h.last + 1), optOk h a first berth out = true ∧ y = (first, ((berth : Nat) : Int), out) := by
    intro first acc berth y
    unfold opt2
    exact foldl_mem (R := fun out y => optOk h a first berth out = true ∧ y = (first, ((berth : Nat) : Int), out)) (m3 first berth) _ _ _
  have m1 : ∀ acc (first : Int) y, y ∈ opt1 h a acc first ↔ y ∈ acc ∨ ∃ berth ∈ List.range h.berths.length, ∃ out ∈ rgI (first + a.stay + 1) (h.last + 1), optOk h a first berth out = true ∧ y = (first, ((berth : Nat) : Int), out) := by
    intro acc first y
    unfold opt1
    exact foldl_mem (R := fun (berth : Nat) y => ∃ out ∈ rgI (first + a.stay + 1) (h.last + 1), optOk h a first berth out = true ∧ y = (first, ((berth : Nat) : Int), out)) (fun acc b y => m2 first acc b y) _ _ _
  rw [foldl_mem (R := fun first y => ∃ berth ∈ List.range h.berths.length, ∃ out ∈ rgI (first + a.stay + 1) (h.last + 1), optOk h a first berth out = true ∧ y = (first, ((berth : Nat) : Int), out)) m1]
  constructor
  · rintro (z | ⟨first, h1, berth, h2, out, h3, h4, rfl⟩)
    · cases z
    · rw [rgI_mem] at h1 h3
      rw [List.mem_range] at h2
      unfold optOk at h4
      simp only [Bool.and_eq_true, decide_eq_true_eq] at h4
      exact ⟨h1.1, h3.1, by show out ≤ h.last; omega, h4.1.1, h4.1.2, by show (0 : Int) ≤ ((berth : Nat) : Int); omega, by show ((berth : Nat) : Int) < _; omega, by simpa using h4.2.1, h4.2.2⟩
  · intro z
    obtain ⟨f, x, o⟩ := o
    obtain ⟨z1, z2, z3, z4, z5, z6, z7, z8, z9⟩ := z
    simp only at z1 z2 z3 z4 z5 z6 z7 z8
    refine .inr ⟨f, rgI_mem.mpr ⟨z1, by omega⟩, x.toNat, List.mem_range.mpr (by omega), o, rgI_mem.mpr ⟨z2, by omega⟩, ?_, ?_⟩
    · unfold optOk
      simp only [decide_eq_true_eq, Bool.and_eq_true]
      exact ⟨⟨z4, z5⟩, z8, z9⟩
    · rw [Int.toNat_of_nonneg z6]
/-- the whole of a ship's hours, from the beginning -/
theorem fit0 (hr : 0 ≤ a.ready) {r : List Int} {k : Int} : Fit h lat i a 0 SEA r k ↔ ∃ o, Opt h a o ∧ isKept lat i o.2.2 = true ∧ r = tri o ∧ k = a.sea * (o.1 - a.ready) + a.lie * (o.2.2 - o.1 - a.stay - 1) := by
  constructor
  · intro F
    generalize hq : SEA = q at F
    cases F with
    | sea f x o h1 h2 h3 h4 h5 h6 h7 h8 h9 h10 h11 =>
      refine ⟨(f, x, o), ⟨h2, h3, h4, h5, h6, h7, h8, h9, h10⟩, h11, rfl, ?_⟩
      rw [show max 0 a.ready = a.ready by omega]
    | gone => exact absurd hq (by decide)
    | in_ b l o h1 => exact absurd (congrArg Prod.fst hq) (by show (-1 : Int) ≠ b; omega)
  · rintro ⟨⟨f, x, o⟩, ⟨z1, z2, z3, z4, z5, z6, z7, z8, z9⟩, hk, rfl, rfl⟩
    simp only at z1 z2 z3 z4 z5 z6 z7 z8 hk
    have := Fit.sea (h := h) (lat := lat) (i := i) (a := a) (t := 0) f x o (by omega) z1 z2 z3 z4 z5 z6 z7 z8 z9 hk
    rw [show max 0 a.ready = a.ready by omega] at this
    exact this
/-- what the law asks of two -/
def Two (h : Hb) (a b : Sh) (o o2 : One) : Prop := ¬ (o.2.1 = o2.2.1 ∧ o.1 ≤ o2.2.2 ∧ o2.1 ≤ o.2.2) ∧ ((o2.1 = o.1 ∨ o2.1 = o.2.2 ∨ o2.2.2 = o.1 ∨ o2.2.2 = o.2.2) → Both h a b)
theorem pair0 {o o2 : One} (h1 : 0 ≤ o.1 ∧ o.1 ≤ o.2.2) (h2 : 0 ≤ o2.1 ∧ o2.1 ≤ o2.2.2) : PairOk h a b 0 SEA (tri o) SEA (tri o2) ↔ Two h a b o o2 := by
  obtain ⟨f, x, u⟩ := o
  obtain ⟨f2, x2, u2⟩ := o2
  simp only at h1 h2
  show PairOk h a b 0 SEA [f, x, u] SEA [f2, x2, u2] ↔ _
  constructor
  · rintro ⟨p1, p2⟩
    refine And.intro (fun z => ?_) fun z => ?_
    · simp only at z
      by_cases g : f ≤ f2
      · exact p1 f2 (by omega) x (occ3.mpr ⟨rfl, by omega, by omega⟩) (occ3.mpr ⟨by omega, by omega, by omega⟩)
      · exact p1 f (by omega) x (occ3.mpr ⟨rfl, by omega, by omega⟩) (occ3.mpr ⟨by omega, by omega, by omega⟩)
    · simp only at z
      rcases z with z | z | z | z
      · exact p2 f2 (by omega) (ev3.mpr (.inl z)) (ev3.mpr (.inl rfl))
      · exact p2 f2 (by omega) (ev3.mpr (.inr z)) (ev3.mpr (.inl rfl))
      · exact p2 u2 (by omega) (ev3.mpr (.inl z)) (ev3.mpr (.inr rfl))
      · exact p2 u2 (by omega) (ev3.mpr (.inr z)) (ev3.mpr (.inr rfl))
  · rintro ⟨p1, p2⟩
    simp only at p1 p2
    refine ⟨fun v hv y z1 z2 => ?_, fun v hv z1 z2 => ?_⟩
    · have g1 := occ3.mp z1
      have g2 := occ3.mp z2
      exact p1 ⟨by omega, by omega, by omega⟩
    · have g1 := ev3.mp z1
      have g2 := ev3.mp z2
      exact p2 (by omega)
theorem movers0 (t : Int) : movers [] t = [0] := rfl
theorem movers1 (o : One) (t : Int) : movers [o] t = (if o.1 = t ∨ o.2.2 = t then [0] else []) ++ [1] := by
  have e : movers [o] t = ((if (decide (o.1 = t) || decide (o.2.2 = t)) = true then [0] else [] : List Nat).map fun k => ((k : Nat) : Int)) ++ [1] := by
    show (([0].filter fun k => decide ((oneAt [o] k).1 = t) || decide ((oneAt [o] k).2.2 = t)).map _) ++ [1] = _
    rw [List.filter_cons, List.filter_nil]
    rfl
  rw [e]
  by_cases z : o.1 = t ∨ o.2.2 = t
  · rw [if_pos z, if_pos (by rw [Bool.or_eq_true, decide_eq_true_eq, decide_eq_true_eq]; exact z)]
    rfl
  · rw [if_neg z, if_neg (by rw [Bool.or_eq_true, decide_eq_true_eq, decide_eq_true_eq]; exact z)]
    rfl
theorem beside0 {ships : List Sh} (hp : 0 < h.pilots) (hs : shipAt ships 0 = a) {o : One} (ho : Opt h a o) : beside h ships [] o = true := by
  have e : ∀ t, besideHour h ships [] t = true := by
    intro t
    have hu := ho.u
    unfold besideHour
    rw [movers0]
    simp only [List.map_cons, List.map_nil, List.sum_cons, List.sum_nil, hs, List.length_cons, List.length_nil]
    simp
    omega
  unfold beside
  simp [e]
theorem beside1 {ships : List Sh} (hp : 0 < h.pilots) (hs : shipAt ships 0 = a) (hs2 : shipAt ships 1 = b) {o o2 : One} (ho : Opt h b o2) : beside h ships [o] o2 = true ↔ Two h a b o o2 := by
  have hu := ho.u
  have e : ∀ t, besideHour h ships [o] t = true ↔ ((o.1 = t ∨ o.2.2 = t) → Both h a b) := by
    intro t
    unfold besideHour Both
    rw [movers1]
    by_cases z : o.1 = t ∨ o.2.2 = t
    · rw [if_pos z]
      simp [hs, hs2, z]
      try omega
    · rw [if_neg z]
      simp [hs, hs2, z]
      try omega
  unfold beside Two
  rw [Bool.and_eq_true, List.all_cons, List.all_cons, List.all_nil, Bool.and_eq_true, Bool.and_eq_true, e, e, List.any_cons, List.any_nil, Bool.or_false]
  unfold clash
  simp only [Bool.not_eq_true', Bool.and_eq_false_iff, decide_eq_false_iff_not]
  constructor
  · rintro ⟨z1, z2, z3, _⟩
    refine ⟨fun g => ?_, fun g => ?_⟩
    · rcases z1 with z1 | z1 | z1
      · exact z1 g.1
      · exact z1 g.2.1
      · exact z1 g.2.2
    · rcases g with g | g | g | g
      · exact z2 (.inl g.symm)
      · exact z2 (.inr g.symm)
      · exact z3 (.inl g.symm)
      · exact z3 (.inr g.symm)
  · rintro ⟨z1, z2⟩
    refine ⟨?_, fun g => z2 ?_, fun g => z2 ?_, trivial⟩
    · by_cases g1 : o.2.1 = o2.2.1
      · by_cases g2 : o.1 ≤ o2.2.2
        · exact .inr (.inr fun g3 => z1 ⟨g1, g2, g3⟩)
        · exact .inr (.inl g2)
      · exact .inl g1
    · rcases g with g | g
      · exact .inl g.symm
      · exact .inr (.inl g.symm)
    · rcases g with g | g
      · exact .inr (.inr (.inl g.symm))
      · exact .inr (.inr (.inr g.symm))
end
end Tk
end

section
namespace Tk
open PySem
section
variable {h : Hb} {lat : Lat} {a b : Sh}
theorem keepsAt_eq (l : List (Option Int)) (p : LPlan) (k : Nat) : keepsAt l p k = isKept (some l) k (oneAt p k).2.2 := rfl
theorem keeps1 (o : One) : keeps lat [o] = isKept lat 0 o.2.2 := by
  cases lat with
  | none => rfl
  | some l =>
    show (keepsAt l [o] 0 && true) = _
    rw [keepsAt_eq, Bool.and_true]
    rfl
theorem keeps2 (o o2 : One) : keeps lat [o, o2] = (isKept lat 0 o.2.2 && isKept lat 1 o2.2.2) := by
  cases lat with
  | none => rfl
  | some l =>
    show (keepsAt l [o, o2] 0 && (keepsAt l [o, o2] 1 && true)) = _
    rw [keepsAt_eq, keepsAt_eq, Bool.and_true]
    rfl
def costO (a : Sh) (o : One) : Int := a.sea * (o.1 - a.ready) + a.lie * (o.2.2 - o.1 - a.stay - 1)
theorem planCost1 (o : One) : planCost [a] [o] = costO a o := by
  show 0 + a.sea * (o.1 - a.ready) + a.lie * (o.2.2 - o.1 - a.stay - 1) = _
  unfold costO
  rw [Int.zero_add]
theorem planCost2 (o o2 : One) : planCost [a, b] [o, o2] = costO a o + costO b o2 := by
  show 0 + a.sea * (o.1 - a.ready) + a.lie * (o.2.2 - o.1 - a.stay - 1) + b.sea * (o2.1 - b.ready) + b.lie * (o2.2.2 - o2.1 - b.stay - 1) = _
  unfold costO
  omega
theorem plans1_mem (hp : 0 < h.pilots) (hs : 0 < a.stay) {p : LPlan} : p ∈ plans h [a] ↔ ∃ o, Opt h a o ∧ p = [o] := by
  have e : plans h [a] = [] ++ ((options h a).filter (beside h [a] [])).map fun one => [] ++ [one] := rfl
  rw [e, List.nil_append, List.mem_map]
  constructor
  · rintro ⟨o, ho, rfl⟩
    rw [List.mem_filter, options_mem hs] at ho
    exact ⟨o, ho.1, rfl⟩
  · rintro ⟨o, ho, rfl⟩
    exact ⟨o, by rw [List.mem_filter, options_mem hs]; exact ⟨ho, beside0 (a := a) hp rfl ho⟩, rfl⟩
theorem planStep_mem {ships : List Sh} {sh : Sh} {found : List LPlan} {p : LPlan} : p ∈ plansStep h ships found sh ↔ ∃ q ∈ found, ∃ o ∈ options h sh, beside h ships q o = true ∧ p = q ++ [o] := by
  unfold plansStep
  rw [foldl_mem (R := fun q p => ∃ o ∈ options h sh, beside h ships q o = true ∧ p = q ++ [o])]
  · constructor
    · rintro (z | z)
      · cases z
      · exact z
    · exact .inr
  · intro acc x y
    unfold planStep
    rw [List.mem_append, List.mem_map]
    constructor
    · rintro (z | ⟨o, ho, rfl⟩)
      · exact .inl z
      · exact .inr ⟨o, (List.mem_filter.mp ho).1, (List.mem_filter.mp ho).2, rfl⟩
    · rintro (z | ⟨o, ho, hb, rfl⟩)
      · exact .inl z
      · exact .inr ⟨o, List.mem_filter.mpr ⟨ho, hb⟩, rfl⟩
theorem plans2_mem (hp : 0 < h.pilots) (hs : 0 < a.stay) (hs2 : 0 < b.stay) {p : LPlan} : p ∈ plans h [a, b] ↔ ∃ o o2, Opt h a o ∧ Opt h b o2 ∧ Two h a b o o2 ∧ p = [o, o2] := by
  have e : plans h [a, b] = plansStep h [a, b] (plansStep h [a, b] [[]] a) b := rfl
  rw [e, planStep_mem]
  constructor
  · rintro ⟨q, hq, o2, ho2, hb, rfl⟩
    rw [planStep_mem] at hq
    obtain ⟨q0, hq0, o, ho, _, rfl⟩ := hq
    have e0 := List.mem_singleton.mp hq0
    subst e0
    rw [options_mem hs] at ho
    rw [options_mem hs2] at ho2
    exact ⟨o, o2, ho, ho2, (beside1 (a := a) (b := b) hp rfl rfl ho2).mp hb, rfl⟩
  · rintro ⟨o, o2, ho, ho2, ht, rfl⟩
    refine ⟨[o], planStep_mem.mpr ⟨[], List.mem_singleton.mpr rfl, o, (options_mem hs).mpr ho, beside0 (a := a) hp rfl ho, rfl⟩, o2, (options_mem hs2).mpr ho2, (beside1 (a := a) (b := b) hp rfl rfl ho2).mpr ht, rfl⟩
theorem plans_iff {ships : List Sh} (L : LwOk h ships) {row : Row} {c : Int} : SV h lat ships (beginning ships) row c ↔ ∃ p ∈ plans h ships, keeps lat p = true ∧ row = planRow p ∧ c = planCost ships p := by
  have hp := L.pi.1
  have hsh := L.sh
  have hn := L.ns
  clear L
  match ships, hn, hsh with
  | _ :: _ :: _ :: _, hn, _ => exact absurd hn.2 (by simp)
  | [a], _, hsh =>
    have ha := hsh a (by simp)
    constructor
    · intro V
      generalize hq : beginning [a] = s at V
      cases V with
      | one _ t p r k F =>
        cases hq
        obtain ⟨o, h1, h2, rfl, rfl⟩ := (fit0 ha.1).mp F
        exact ⟨[o], (plans1_mem hp ha.2.2.2.1).mpr ⟨o, h1, rfl⟩, by rw [keeps1]; exact h2, rfl, by rw [planCost1]; rfl⟩
    · rintro ⟨p, hm, hk, rfl, rfl⟩
      obtain ⟨o, h1, rfl⟩ := (plans1_mem hp ha.2.2.2.1).mp hm
      rw [keeps1] at hk
      rw [planCost1]
      exact .one a 0 SEA (tri o) _ ((fit0 ha.1).mpr ⟨o, h1, hk, rfl, rfl⟩)
  | [a, b], _, hsh =>
    have ha := hsh a (by simp)
    have hb := hsh b (by simp)
    constructor
    · intro V
      generalize hq : beginning [a, b] = s at V
      cases V with
      | two _ _ t p q r s k k2 F F2 P =>
        cases hq
        obtain ⟨o, h1, h2, rfl, rfl⟩ := (fit0 ha.1).mp F
        obtain ⟨o2, h3, h4, rfl, rfl⟩ := (fit0 hb.1).mp F2
        have P' := (pair0 ⟨by have := h1.r; omega, by have := h1.s; omega⟩ ⟨by have := h3.r; omega, by have := h3.s; omega⟩).mp P
        exact ⟨[o, o2], (plans2_mem hp ha.2.2.2.1 hb.2.2.2.1).mpr ⟨o, o2, h1, h3, P', rfl⟩, by rw [keeps2, h2, h4]; rfl, rfl, by rw [planCost2]; rfl⟩
    · rintro ⟨p, hm, hk, rfl, rfl⟩
      obtain ⟨o, o2, h1, h3, P, rfl⟩ := (plans2_mem hp ha.2.2.2.1 hb.2.2.2.1).mp hm
      rw [keeps2, Bool.and_eq_true] at hk
      rw [planCost2]
      have P' := (pair0 (a := a) (b := b) (h := h) ⟨by have := h1.r; omega, by have := h1.s; omega⟩ ⟨by have := h3.r; omega, by have := h3.s; omega⟩).mpr P
      exact .two a b 0 SEA SEA (tri o) (tri o2) _ _ ((fit0 ha.1).mpr ⟨o, h1, hk.1, rfl, rfl⟩) ((fit0 hb.1).mpr ⟨o2, h3, hk.2, rfl, rfl⟩) P'
end
end Tk
end

section
namespace Tk
open PySem
/-! ### what is grown -/
theorem nodup_le {α : Type} : ∀ {l L : List α}, l.Nodup → (∀ x ∈ l, x ∈ L) → l.length ≤ L.length
  | [], _, _, _ => by simp
  | x :: xs, L, hn, hs => by
    obtain ⟨L1, L2, rfl⟩ := List.append_of_mem (hs x List.mem_cons_self)
    rw [List.nodup_cons] at hn
    have := nodup_le (l := xs) (L := L1 ++ L2) hn.2 fun y hy => by
      have h1 := hs y (List.mem_cons_of_mem _ hy)
      rw [List.mem_append, List.mem_cons] at h1
      rw [List.mem_append]
      rcases h1 with h1 | rfl | h1
      · exact .inl h1
      · exact absurd hy hn.1
      · exact .inr h1
    rw [List.length_append] at this
    rw [List.length_append, List.length_cons, List.length_cons]
    omega
def plsAll : List Place := [SEA, GONE] ++ [0, 1].flatMap fun b => [0, 1, 2, 3, 4].map fun l => (b, l)
def hrsAll : List Int := (List.range 14).map fun i => ((i : Nat) : Int)
def stsAll : List Stt := (hrsAll.flatMap fun t => plsAll.map fun p => (t, [p])) ++ hrsAll.flatMap fun t => plsAll.flatMap fun p => plsAll.map fun q => (t, [p, q])
theorem stsAll_len : stsAll.length ≤ 100000 := by decide +kernel
section
variable {h : Hb} {lat : Lat} {ships : List Sh}
theorem pl_all {a : Sh} {p : Place} (hb : h.berths.length ≤ 2) (hs : a.stay ≤ 4) (ok : PlOk h a p) : p ∈ plsAll := by
  cases ok with
  | sea => decide
  | gone => decide
  | in_ b l h1 h2 h3 h4 =>
    unfold plsAll
    refine List.mem_append_right _ (List.mem_flatMap.mpr ⟨b, ?_, List.mem_map.mpr ⟨l, ?_, rfl⟩⟩)
    · simp only [List.mem_cons, List.not_mem_nil, or_false]; omega
    · simp only [List.mem_cons, List.not_mem_nil, or_false]; omega
theorem st_all (L : LwOk h ships) {s : Stt} (I : SInv h ships s) (h0 : 0 ≤ s.1) (h1 : s.1 ≤ 13) : s ∈ stsAll := by
  have ht : s.1 ∈ hrsAll := List.mem_map.mpr ⟨s.1.toNat, List.mem_range.mpr (by omega), by omega⟩
  unfold stsAll
  rw [List.mem_append, List.mem_flatMap, List.mem_flatMap]
  have hb := L.nb
  have hsh := L.sh
  cases I with
  | one a t p ok => exact .inl ⟨t, ht, List.mem_map.mpr ⟨p, pl_all hb (hsh a (by simp)).2.2.2.2.1 ok, rfl⟩⟩
  | two a b t p q ok ok2 dis => exact .inr ⟨t, ht, List.mem_flatMap.mpr ⟨p, pl_all hb (hsh a (by simp)).2.2.2.2.1 ok, List.mem_map.mpr ⟨q, pl_all hb (hsh b (by simp)).2.2.2.2.1 ok2, rfl⟩⟩⟩
theorem SInv.len {s : Stt} (I : SInv h ships s) : s.2.length = ships.length := by cases I <;> rfl
/-- one layer, state by state -/
theorem layer_fold : ∀ (xs : List Stt) (found : Found) (d : List (Stt × Bool)), xs.Nodup → (∀ x ∈ xs, x ∉ akeys found) → (akeys d).Nodup →
    (xs.foldl (layerStep h ships lat) (found, d)).1 = found ++ (xs.map fun s => (s, waysIn h ships s lat)) ∧ (akeys (xs.foldl (layerStep h ships lat) (found, d)).2).Nodup ∧
    ∀ t, t ∈ akeys (xs.foldl (layerStep h ships lat) (found, d)).2 ↔ t ∈ akeys d ∨ ∃ s ∈ xs, ∃ w ∈ waysIn h ships s lat, w.2.2 = t
  | [], found, d, _, _, hd => ⟨by simp, hd, fun t => by simp⟩
  | x :: xs, found, d, hn, hx, hd => by
    rw [List.nodup_cons] at hn
    rw [List.foldl_cons]
    have hxn : aget found x = none := aget_none.mpr (hx x List.mem_cons_self)
    have e : layerStep h ships lat (found, d) x = (found ++ [(x, waysIn h ships x lat)], (waysIn h ships x lat).foldl (fun l w => aput l w.2.2 true) d) := by
      unfold layerStep
      rw [aput_new _ _ hxn]
    rw [e]
    have aux : ∀ (ws : List Way) (d : List (Stt × Bool)), (akeys d).Nodup → (akeys (ws.foldl (fun l w => aput l w.2.2 true) d)).Nodup ∧ ∀ t, t ∈ akeys (ws.foldl (fun l w => aput l w.2.2 true) d) ↔ t ∈ akeys d ∨ ∃ w ∈ ws, w.2.2 = t := by
      intro ws
      induction ws with
      | nil => intro d hd; exact ⟨hd, fun t => by simp⟩
      | cons w ws ih =>
        intro d hd
        rw [List.foldl_cons]
        obtain ⟨i1, i2⟩ := ih (aput d w.2.2 true) (nodup_aput hd)
        refine ⟨i1, fun t => ?_⟩
        rw [i2, mem_akeys_aput]
        constructor
        · rintro ((z | z) | ⟨w', hw, z⟩)
          · exact .inr ⟨w, List.mem_cons_self, z.symm⟩
          · exact .inl z
          · exact .inr ⟨w', List.mem_cons_of_mem _ hw, z⟩
        · rintro (z | ⟨w', hw, z⟩)
          · exact .inl (.inr z)
          · rcases List.mem_cons.mp hw with rfl | hw
            · exact .inl (.inl z.symm)
            · exact .inr ⟨w', hw, z⟩
    obtain ⟨a1, a2⟩ := aux (waysIn h ships x lat) d hd
    obtain ⟨i1, i2, i3⟩ := layer_fold xs (found ++ [(x, waysIn h ships x lat)]) ((waysIn h ships x lat).foldl (fun l w => aput l w.2.2 true) d) hn.2 (fun y hy z => by
      have z' : y ∈ akeys found ++ [x] := by
        rw [show akeys (found ++ [(x, waysIn h ships x lat)]) = akeys found ++ [x] by unfold akeys; rw [List.map_append]; rfl] at z
        exact z
      rcases List.mem_append.mp z' with z' | z'
      · exact hx y (List.mem_cons_of_mem _ hy) z'
      · rw [List.mem_singleton.mp z'] at hy
        exact hn.1 hy) a1
    refine ⟨?_, i2, fun t => ?_⟩
    · rw [i1, List.append_assoc]; rfl
    · rw [i3, a2]
      constructor
      · rintro ((z | ⟨w, hw, z⟩) | ⟨s, hs, w, hw, z⟩)
        · exact .inl z
        · exact .inr ⟨x, List.mem_cons_self, w, hw, z⟩
        · exact .inr ⟨s, List.mem_cons_of_mem _ hs, w, hw, z⟩
      · rintro (z | ⟨s, hs, w, hw, z⟩)
        · exact .inl (.inl z)
        · rcases List.mem_cons.mp hs with rfl | hs
          · exact .inl (.inr ⟨w, hw, z⟩)
          · exact .inr ⟨s, hs, w, hw, z⟩
/-- how it stands behind n layers -/
structure GI (h : Hb) (ships : List Sh) (lat : Lat) (n : Nat) (fl : Found × List Stt) : Prop where
  lay : ∀ s ∈ fl.2, SInv h ships s ∧ s.1 = (n : Nat) ∧ s.1 ≤ h.last + 1
  nd2 : fl.2.Nodup
  fnd : ∀ e ∈ fl.1, SInv h ships e.1 ∧ 0 ≤ e.1.1 ∧ e.1.1 < (n : Nat) ∧ e.1.1 ≤ h.last + 1 ∧ e.2 = waysIn h ships e.1 lat ∧ ∀ w ∈ e.2, w.2.2 ∈ akeys fl.1 ∨ w.2.2 ∈ fl.2
  nd : (akeys fl.1).Nodup
  ord : (akeys fl.1).Pairwise fun s t => s.1 ≤ t.1
  beg : (n = 0 ∧ fl.2 = [beginning ships]) ∨ beginning ships ∈ akeys fl.1
theorem ways_hour {s : Stt} {w : Way} (hw : w ∈ waysIn h ships s lat) : s.1 ≤ h.last := by
  unfold waysIn movesIn at hw
  split at hw
  · cases hw
  · rename_i z
    omega
theorem gi_ok (L : LwOk h ships) : ∀ n, GI h ships lat n (gIter h ships lat (beginning ships) n)
  | 0 => by
    refine ⟨fun s hs => ?_, by show [beginning ships].Nodup; simp, fun e he => absurd he List.not_mem_nil, List.nodup_nil, List.Pairwise.nil, .inl ⟨rfl, rfl⟩⟩
    have e : s = beginning ships := List.mem_singleton.mp hs
    subst e
    refine ⟨?_, rfl, by have := L.la; show (0 : Int) ≤ _; omega⟩
    have hn := L.ns
    clear L
    match ships, hn with
    | _ :: _ :: _ :: _, hn => exact absurd hn.2 (by simp)
    | [a], _ => exact .one a 0 SEA .sea
    | [a, b], _ => exact .two a b 0 SEA SEA .sea .sea (fun z => absurd z (by decide))
  | n + 1 => by
    have G := gi_ok L n
    show GI h ships lat (n + 1) (growStep h ships lat (gIter h ships lat (beginning ships) n))
    generalize gIter h ships lat (beginning ships) n = fl at G
    have hnew : ∀ x ∈ fl.2, x ∉ akeys fl.1 := fun x hx z => by
      obtain ⟨e, he, rfl⟩ := List.mem_map.mp z
      have h1 := (G.fnd e he).2.2.1
      have h2 := (G.lay _ hx).2.1
      omega
    obtain ⟨f1, f2, f3⟩ := layer_fold (h := h) (ships := ships) (lat := lat) fl.2 fl.1 [] G.nd2 hnew List.nodup_nil
    unfold growStep
    have k1 : akeys (fl.1 ++ fl.2.map fun s => (s, waysIn h ships s lat)) = akeys fl.1 ++ fl.2 := by
      unfold akeys
      rw [List.map_append, List.map_map]
      congr 1
      exact (List.map_congr_left fun _ _ => rfl).trans (List.map_id _)
    have hsh : ∀ a ∈ ships, 0 < a.stay ∧ 0 ≤ a.tugs := fun a ha => by have := L.sh a ha; omega
    rw [f1]
    refine ⟨fun s hs => ?_, f2, fun e he => ?_, ?_, ?_, ?_⟩
    · obtain z | ⟨s0, hs0, w, hw, rfl⟩ := (f3 s).mp hs
      · cases z
      · obtain ⟨I, e1, e2⟩ := G.lay s0 hs0
        obtain ⟨I2, e3⟩ := I.next L.pi.1 hsh hw
        have := ways_hour hw
        exact ⟨I2, by omega, by omega⟩
    · rw [k1]
      rcases List.mem_append.mp he with he|he
      · obtain ⟨g1, g2, g3, g4, g5, g6⟩ := G.fnd e he
        refine ⟨g1, g2, by omega, g4, g5, fun w hw => .inl ?_⟩
        rw [List.mem_append]
        exact g6 w hw
      · obtain ⟨s, hs, rfl⟩ := List.mem_map.mp he
        obtain ⟨I, e1, e2⟩ := G.lay s hs
        exact ⟨I, by show 0 ≤ s.1; omega, by show s.1 < _; omega, e2, rfl, fun w hw => .inr ((f3 _).mpr (.inr ⟨s, hs, w, hw, rfl⟩))⟩
    · rw [k1, List.nodup_append]
      exact ⟨G.nd, G.nd2, fun x hx y hy z => hnew y hy (z ▸ hx)⟩
    · rw [k1, List.pairwise_append]
      refine ⟨G.ord, ?_, fun x hx y hy => ?_⟩
      · refine List.Pairwise.imp_of_mem ?_ G.nd2
        intro x y hx hy _
        have := (G.lay x hx).2.1
        have := (G.lay y hy).2.1
        omega
      · obtain ⟨e, he, rfl⟩ := List.mem_map.mp hx
        have := (G.fnd e he).2.2.1
        have := (G.lay y hy).2.1
        omega
    · right
      rw [k1, List.mem_append]
      rcases G.beg with ⟨_, z⟩ | z
      · right; rw [z]; simp
      · exact .inl z
theorem gok_of (L : LwOk h ships) (hl : LatOk lat ships.length) : GOk h ships (beginning ships) lat := by
  have la := L.la
  have fin : ∀ n : Nat, h.last + 1 < n → (gIter h ships lat (beginning ships) n).2 = [] := fun n hn => by
    have G := gi_ok (lat := lat) L n
    cases q : (gIter h ships lat (beginning ships) n).2 with
    | nil => rfl
    | cons s xs =>
      have := G.lay s (by rw [q]; exact List.mem_cons_self)
      omega
  have f20 := fin 20 (by omega)
  have G := gi_ok (lat := lat) L 20
  have szf : ∀ n, (gIter h ships lat (beginning ships) n).1.length ≤ 100000 := fun n => by
    have G := gi_ok (lat := lat) L n
    have := nodup_le G.nd (L := stsAll) fun s hs => by
      obtain ⟨e, he, rfl⟩ := List.mem_map.mp hs
      obtain ⟨g1, g2, g3, g4, _⟩ := G.fnd e he
      exact st_all L g1 g2 (by omega)
    rw [List.length_map] at this
    exact Nat.le_trans this stsAll_len
  refine ⟨⟨L.hb, L.ns.2, by show (ships.map _).length = _; rw [List.length_map], hl⟩, f20, fun n => ⟨szf n, ?_⟩, fun n t ht => (gi_ok L n).lay t ht |>.1.len, ⟨szf 20, G.nd, fun e he => ?_, fun i s ws he w hw => ?_⟩, ?_, fun e he => (G.fnd e he).2.2.2.2.1⟩
  · have G := gi_ok (lat := lat) L n
    refine Nat.le_trans (nodup_le G.nd2 (L := stsAll) fun s hs => ?_) stsAll_len
    obtain ⟨g1, g2, g3⟩ := G.lay s hs
    exact st_all L g1 (by omega) (by omega)
  · obtain ⟨g1, _, _, _, g5, _⟩ := G.fnd e he
    refine ⟨by rw [g1.len]; exact L.ns.2, ?_⟩
    rw [g5]
    exact Nat.le_trans (waysIn_len L.hb L.ns.2) (by decide)
  · have hm : (s, ws) ∈ (gIter h ships lat (beginning ships) 20).1 := List.mem_of_getElem? he
    obtain ⟨g1, g2, g3, g4, g5, g6⟩ := G.fnd _ hm
    have hk : w.2.2 ∈ akeys (gIter h ships lat (beginning ships) 20).1 := by
      rcases g6 w hw with z | z
      · exact z
      · rw [f20] at z; cases z
    obtain ⟨j, hj⟩ := List.mem_iff_getElem?.mp hk
    refine ⟨j, ?_, hj⟩
    have he' : (gIter h ships lat (beginning ships) 20).1[i]? = some (s, ws) := he
    have hki : (akeys (gIter h ships lat (beginning ships) 20).1)[i]? = some s := by rw [List.getElem?_map, he']; rfl
    have hsh : ∀ a ∈ ships, 0 < a.stay ∧ 0 ≤ a.tugs := fun a ha => by have := L.sh a ha; omega
    have hh : w.2.2.1 = s.1 + 1 := (g1.next L.pi.1 hsh (by rw [← g5]; exact hw)).2
    by_cases z : i < j
    · exact z
    · exfalso
      by_cases z2 : i = j
      · subst z2
        rw [hki] at hj
        cases hj
        omega
      · obtain ⟨hi1, hi2⟩ := List.getElem?_eq_some_iff.mp hki
        obtain ⟨hj1, hj2⟩ := List.getElem?_eq_some_iff.mp hj
        have := (List.pairwise_iff_getElem.mp G.ord) j i hj1 hi1 (by omega)
        rw [hi2, hj2] at this
        omega
  · rcases G.beg with ⟨z, _⟩ | z
    · cases z
    · exact z
end
end Tk
end

section
namespace Tk
open PySem
/-! ### the rests are the least costs -/
structure FG (h : Hb) (ships : List Sh) (lat : Lat) (found : Found) : Prop where
  fo : FoOk found
  beg : beginning ships ∈ akeys found
  st : ∀ s ∈ akeys found, SInv h ships s ∧ 0 ≤ s.1 ∧ s.1 ≤ h.last + 1 ∧ aget found s = some (waysIn h ships s lat) ∧ ∀ w ∈ waysIn h ships s lat, w.2.2 ∈ akeys found ∧ w.2.2.1 = s.1 + 1
section
variable {h : Hb} {lat : Lat} {ships : List Sh} {found : Found}
theorem fg_of (L : LwOk h ships) (hl : LatOk lat ships.length) : FG h ships lat (grown h ships (beginning ships) lat) := by
  have GO := gok_of L hl
  have G := gi_ok (lat := lat) L 20
  have hsh : ∀ a ∈ ships, 0 < a.stay ∧ 0 ≤ a.tugs := fun a ha => by have := L.sh a ha; omega
  refine ⟨GO.fo, GO.mem, fun s hs => ?_⟩
  obtain ⟨e, he, rfl⟩ := List.mem_map.mp hs
  obtain ⟨g1, g2, g3, g4, g5, g6⟩ := G.fnd e he
  have ha : aget (grown h ships (beginning ships) lat) e.1 = some (waysIn h ships e.1 lat) := aget_of_mem GO.fo.nd (by rw [← g5]; exact he)
  exact ⟨g1, g2, g4, ha, fun w hw => ⟨GO.fo.behind ha hw, (g1.next L.pi.1 hsh hw).2⟩⟩
theorem rest_end (F : FG h ships lat found) {s : Stt} (hs : s ∈ akeys found) (he : isEnd s = true) : aget (restsIn found) s = some (some 0) := by
  rw [restsIn_at F.fo hs]
  unfold restOf1
  rw [if_pos he]
theorem rest_on (F : FG h ships lat found) {s : Stt} (hs : s ∈ akeys found) (he : isEnd s = false) : aget (restsIn found) s = some (least ((waysIn h ships s lat).map fun w => added w.2.1 ((aget (restsIn found) w.2.2).getD none))) := by
  rw [restsIn_at F.fo hs]
  unfold restOf1
  rw [if_neg (by rw [he]; exact Bool.false_ne_true), (F.st s hs).2.2.2.1]
  rfl
theorem rest_ok (F : FG h ships lat found) : ∀ (n : Nat) {s : Stt}, (h.last + 1 - s.1).toNat ≤ n → s ∈ akeys found →
    (∀ row c, Comp h ships lat s row c → ∃ r, aget (restsIn found) s = some (some r) ∧ r ≤ c) ∧ ∀ r, aget (restsIn found) s = some (some r) → ∃ row, Comp h ships lat s row r := by
  intro n
  induction n with
  | zero =>
    intro s hn hs
    obtain ⟨g1, g2, g3, g4, g5⟩ := F.st s hs
    cases he : isEnd s with
    | true =>
      have e := rest_end F hs he
      refine ⟨fun row c C => ?_, fun r hr => ?_⟩
      · cases C with
        | fin _ _ => exact ⟨0, e, Int.le_refl _⟩
        | step _ w row c he2 _ _ => rw [he] at he2; cases he2
      · rw [e] at hr
        cases hr
        exact ⟨_, .fin s he⟩
    | false =>
      have nw : ∀ w, w ∉ waysIn h ships s lat := fun w hw => by
        have := ways_hour hw
        omega
      refine ⟨fun row c C => ?_, fun r hr => ?_⟩
      · cases C with
        | fin _ he2 => rw [he] at he2; cases he2
        | step _ w row c he2 hw _ => exact absurd hw (nw w)
      · rw [rest_on F hs he] at hr
        have hm := (least_some (Option.some.inj hr)).1
        obtain ⟨w, hw, _⟩ := List.mem_map.mp hm
        exact absurd hw (nw w)
  | succ n ih =>
    intro s hn hs
    obtain ⟨g1, g2, g3, g4, g5⟩ := F.st s hs
    cases he : isEnd s with
    | true =>
      have e := rest_end F hs he
      refine ⟨fun row c C => ?_, fun r hr => ?_⟩
      · cases C with
        | fin _ _ => exact ⟨0, e, Int.le_refl _⟩
        | step _ w row c he2 _ _ => rw [he] at he2; cases he2
      · rw [e] at hr
        cases hr
        exact ⟨_, .fin s he⟩
    | false =>
      have e := rest_on F hs he
      refine ⟨fun row c C => ?_, fun r hr => ?_⟩
      · cases C with
        | fin _ he2 => rw [he] at he2; cases he2
        | step _ w row c he2 hw C =>
          obtain ⟨k1, k2⟩ := g5 w hw
          obtain ⟨r, hr, hle⟩ := (ih (s := w.2.2) (by omega) k1).1 _ _ C
          have hm : some (w.2.1 + r) ∈ (waysIn h ships s lat).map fun w => added w.2.1 ((aget (restsIn found) w.2.2).getD none) := List.mem_map.mpr ⟨w, hw, by rw [hr]; rfl⟩
          cases q : least ((waysIn h ships s lat).map fun w => added w.2.1 ((aget (restsIn found) w.2.2).getD none)) with
          | none => exact absurd hm (least_none.mp q _)
          | some r0 =>
            refine ⟨r0, by rw [e, q], ?_⟩
            have := (least_some q).2 _ hm
            omega
      · rw [e] at hr
        have hm := (least_some (Option.some.inj hr)).1
        obtain ⟨w, hw, hq⟩ := List.mem_map.mp hm
        obtain ⟨y, hy, rfl⟩ := added_some hq
        obtain ⟨k1, k2⟩ := g5 w hw
        have ha : aget (restsIn found) w.2.2 = some (some y) := by
          cases z : aget (restsIn found) w.2.2 with
          | none => rw [z] at hy; cases hy
          | some o => rw [z] at hy; exact congrArg some hy
        obtain ⟨row, C⟩ := (ih (s := w.2.2) (by omega) k1).2 y ha
        exact ⟨_, .step s w row y he hw C⟩
/-- the least cost is the least of the plans' costs -/
theorem leastCost_eq (L : LwOk h ships) (hl : LatOk lat ships.length) : leastCost h ships lat = least (((plans h ships).filter (keeps lat)).map fun p => some (planCost ships p)) := by
  have F := fg_of L hl
  have hsh : ∀ a ∈ ships, 0 < a.stay ∧ 0 ≤ a.tugs := fun a ha => by have := L.sh a ha; omega
  obtain ⟨g1, g2, g3, g4, g5⟩ := F.st _ F.beg
  obtain ⟨r1, r2⟩ := rest_ok F _ (Nat.le_refl _) F.beg
  have key : ∀ c, (∃ row, Comp h ships lat (beginning ships) row c) ↔ some c ∈ ((plans h ships).filter (keeps lat)).map fun p => some (planCost ships p) := by
    intro c
    rw [List.mem_map]
    constructor
    · rintro ⟨row, C⟩
      obtain ⟨p, hp, hk, _, rfl⟩ := (plans_iff L).mp ((comp_iff L.pi.1 hsh g1).mp C)
      exact ⟨p, List.mem_filter.mpr ⟨hp, hk⟩, rfl⟩
    · rintro ⟨p, hp, e⟩
      obtain ⟨h1, h2⟩ := List.mem_filter.mp hp
      cases e
      exact ⟨planRow p, (comp_iff L.pi.1 hsh g1).mpr ((plans_iff L).mpr ⟨p, h1, h2, rfl, rfl⟩)⟩
  unfold leastCost restOf
  generalize grown h ships (beginning ships) lat = found at *
  cases q : least (((plans h ships).filter (keeps lat)).map fun p => some (planCost ships p)) with
  | none =>
    cases z : aget (restsIn found) (beginning ships) with
    | none => rfl
    | some o =>
      cases o with
      | none => rfl
      | some r => exact absurd ((key r).mp (r2 r z)) (least_none.mp q r)
  | some m =>
    obtain ⟨m1, m2⟩ := least_some q
    obtain ⟨row, C⟩ := (key m).mpr m1
    obtain ⟨r, hr, hle⟩ := r1 _ _ C
    have := m2 r ((key r).mp (r2 r hr))
    rw [hr]
    show some r = some m
    rw [show r = m by omega]
end
end Tk
end

section
namespace Tk
open PySem PySem.W
/-! ### the order of rows -/
def ltR (a b : Row) : Bool := dataLt (encRow a) (encRow b)
theorem ltR_irrefl (a : Row) : ltR a a = false := PyProof.Rows.lex_irrefl _
theorem ltR_trans {a b c : Row} : ltR a b = true → ltR b c = true → ltR a c = true := PyProof.Rows.lex_trans _ _ _
theorem ltR_neg {a b c : Row} : ltR a c = true → ltR a b = true ∨ ltR b c = true := PyProof.Rows.lex_negTrans _ _ _
theorem ltR_toks {a b : Row} (h1 : ltR a b = false) (h2 : ltR b a = false) : keyToks (encRow a) = keyToks (encRow b) := PyProof.Rows.lex_total _ _ h1 h2
def T (r : List Int) : List (Int ⊕ List Nat) := keyToks (encTu r)
theorem T_nil : T [] = [.inl 0] := by show keyToksAll [] = _; rw [keyToksAll]
theorem T_cons (n : Int) (r : List Int) : T (n :: r) = .inl 1 :: .inl n :: T r := by
  show keyToksAll (PyData.int n :: r.map PyData.int) = _
  rw [keyToksAll]
  rfl
theorem T_inj : ∀ {r s : List Int}, T r = T s → r = s
  | [], [], _ => rfl
  | [], n :: s, h => by rw [T_nil, T_cons] at h; simp at h
  | n :: r, [], h => by rw [T_nil, T_cons] at h; simp at h
  | n :: r, m :: s, h => by
    rw [T_cons, T_cons] at h
    simp only [List.cons.injEq, true_and, Sum.inl.injEq] at h
    rw [h.1, T_inj h.2]
theorem T_decided {r s : List Int} (hne : r ≠ s) (l m : List (Int ⊕ List Nat)) : PyProof.Rows.lexLt PyProof.Rows.itemOrd (T r ++ l) (T s ++ m) = PyProof.Rows.lexLt PyProof.Rows.itemOrd (T r) (T s) := by
  have al : alikeAll (r.map PyData.int) (s.map PyData.int) = true := by
    clear hne
    induction r generalizing s with
    | nil => cases s <;> simp [alikeAll]
    | cons x xs ih =>
      cases s with
      | nil => simp [alikeAll]
      | cons y ys =>
        show alikeAll (PyData.int x :: xs.map PyData.int) (PyData.int y :: ys.map PyData.int) = true
        rw [alikeAll, ih]
        simp [alike]
  have h := toksAll_eqv (r.map PyData.int) (s.map PyData.int) al
  refine h.2 ?_ l m
  cases q : PyData.eqvAll (r.map PyData.int) (s.map PyData.int) with
  | false => rfl
  | true => exact absurd (T_inj (show keyToksAll (r.map PyData.int) = keyToksAll (s.map PyData.int) from h.1 q)) hne
theorem K1 (r : List Int) : keyToks (encRow [r]) = .inl 1 :: (T r ++ [.inl 0]) := by
  show keyToksAll [encTu r] = _
  rw [keyToksAll, keyToksAll]
  rfl
theorem K2 (r s : List Int) : keyToks (encRow [r, s]) = .inl 1 :: (T r ++ .inl 1 :: (T s ++ [.inl 0])) := by
  show keyToksAll [encTu r, encTu s] = _
  rw [keyToksAll, keyToksAll, keyToksAll]
  rfl
theorem lt1 (r s : List Int) : ltR [r] [s] = PyProof.Rows.lexLt PyProof.Rows.itemOrd (T r ++ [.inl 0]) (T s ++ [.inl 0]) := by
  unfold ltR dataLt
  rw [K1, K1]
  exact PyProof.Rows.lex_self (O := PyProof.Rows.itemOrd) _ _ _
theorem lt2 (r s r' s' : List Int) : ltR [r, s] [r', s'] = if r = r' then PyProof.Rows.lexLt PyProof.Rows.itemOrd (T s ++ [.inl 0]) (T s' ++ [.inl 0]) else PyProof.Rows.lexLt PyProof.Rows.itemOrd (T r) (T r') := by
  unfold ltR dataLt
  rw [K2, K2]
  refine (PyProof.Rows.lex_self (O := PyProof.Rows.itemOrd) _ _ _).trans ?_
  by_cases e : r = r'
  · subst e
    rw [if_pos rfl]
    exact (lex_pre _ _ _).trans (PyProof.Rows.lex_self (O := PyProof.Rows.itemOrd) _ _ _)
  · rw [if_neg e]
    exact T_decided e _ _
def pre (t : Int) : Option Int → List (Int ⊕ List Nat)
  | none => []
  | some x => if x = -1 then [.inl 1, .inl t] else [.inl 1, .inl t, .inl 1, .inl x]
theorem T_ahead (t : Int) (c : Option Int) (r : List Int) : T (aheadP t c r) = pre t c ++ T r := by
  cases c with
  | none => rfl
  | some x =>
    show T ((if x = -1 then [t] else [t, x]) ++ r) = (if x = -1 then [.inl 1, .inl t] else [.inl 1, .inl t, .inl 1, .inl x]) ++ T r
    by_cases e : x = -1
    · rw [if_pos e, if_pos e]; exact T_cons _ _
    · rw [if_neg e, if_neg e]
      show T (t :: x :: r) = _
      rw [T_cons, T_cons]
      rfl
theorem ahead_inj {t : Int} {c : Option Int} {r s : List Int} : aheadP t c r = aheadP t c s ↔ r = s := by
  constructor
  · intro h
    have := congrArg T h
    rw [T_ahead, T_ahead] at this
    exact T_inj (List.append_cancel_left this)
  · rintro rfl; rfl
theorem ltR_ahead1 (t : Int) (c : Option Int) (r s : List Int) : ltR [aheadP t c r] [aheadP t c s] = ltR [r] [s] := by
  rw [lt1, lt1, T_ahead, T_ahead, List.append_assoc, List.append_assoc]
  exact lex_pre _ _ _
theorem ltR_ahead2 (t : Int) (c d : Option Int) (r s r' s' : List Int) : ltR [aheadP t c r, aheadP t d s] [aheadP t c r', aheadP t d s'] = ltR [r, s] [r', s'] := by
  rw [lt2, lt2]
  by_cases e : r = r'
  · rw [if_pos e, if_pos (ahead_inj.mpr e), T_ahead, T_ahead, List.append_assoc, List.append_assoc]
    exact lex_pre _ _ _
  · rw [if_neg e, if_neg (fun z => e (ahead_inj.mp z)), T_ahead, T_ahead]
    exact lex_pre _ _ _
end Tk
end

section
namespace Tk
open PySem
/-! ### the rows of what was found -/
def rowVal (ships : List Sh) (found : Found) (rests : Rests) (rows : Rows) (s : Stt) : Option Row :=
  if isEnd s then some (ships.map fun _ => [])
  else if ((aget rests s).getD none).isSome then some (minRows ((waysOn found rests s).map fun w => putAhead s.1 w.1 ((aget rows w.2.2).getD [])))
  else none
def putO (rows : Rows) (s : Stt) : Option Row → Rows
  | none => rows
  | some v => aput rows s v
theorem rowsStep_eq (ships : List Sh) (found : Found) (rests : Rests) (rows : Rows) (s : Stt) : rowsStep ships found rests rows s = putO rows s (rowVal ships found rests rows s) := by
  unfold rowsStep rowVal
  split
  · rfl
  · split <;> rfl
theorem rowVal_congr {ships : List Sh} {found : Found} {rests : Rests} {r r' : Rows} {s : Stt} (h : ∀ ws, aget found s = some ws → ∀ w ∈ ws, aget r w.2.2 = aget r' w.2.2) : rowVal ships found rests r s = rowVal ships found rests r' s := by
  unfold rowVal
  split
  · rfl
  · split
    · congr 2
      apply List.map_congr_left
      intro w hw
      obtain ⟨_, ws, _, h2, h3, _⟩ := waysOn_mem hw
      rw [h ws h2 w h3]
    · rfl
theorem aget_putO_ne {rows : Rows} {s t : Stt} (o : Option Row) (h : t ≠ s) : aget (putO rows s o) t = aget rows t := by
  cases o with
  | none => rfl
  | some v => exact aget_aput_ne _ _ h
theorem rows_fold {ships : List Sh} {found : Found} (rests : Rests) (F : FoOk found) : ∀ i, i ≤ (akeys found).length → (∀ t ∈ akeys (((akeys found).reverse.take i).foldl (rowsStep ships found rests) []), t ∈ (akeys found).reverse.take i) ∧
    ∀ t ∈ (akeys found).reverse.take i, aget (((akeys found).reverse.take i).foldl (rowsStep ships found rests) []) t = rowVal ships found rests (((akeys found).reverse.take i).foldl (rowsStep ships found rests) []) t
  | 0, _ => ⟨fun t h => by simp at h, fun t h => absurd h (by simp)⟩
  | i + 1, hi => by
    obtain ⟨h1, h2⟩ := rows_fold (ships := ships) rests F i (by omega)
    have hlt : i < (akeys found).reverse.length := by rw [List.length_reverse]; omega
    have hs : (akeys found).reverse[i]? = some (akeys found).reverse[i] := List.getElem?_eq_getElem hlt
    generalize (akeys found).reverse[i] = s at hs
    have ht : (akeys found).reverse.take (i + 1) = (akeys found).reverse.take i ++ [s] := by rw [List.take_add_one, hs]; rfl
    rw [ht, List.foldl_append]
    generalize (((akeys found).reverse.take i).foldl (rowsStep ships found rests) []) = r at h1 h2
    show (∀ t ∈ akeys (rowsStep ships found rests r s), _) ∧ ∀ t ∈ _, aget (rowsStep ships found rests r s) t = rowVal ships found rests (rowsStep ships found rests r s) t
    have hnew : s ∉ (akeys found).reverse.take i := fun hm => by
      obtain ⟨j, hj, e⟩ := List.mem_take_iff_getElem.mp hm
      have hj' : (akeys found).reverse[j]? = some s := by rw [List.getElem?_eq_getElem (by omega), e]
      have := (List.getElem?_inj (by omega) ((List.reverse_perm _).nodup_iff.mpr F.nd)).mp (hj'.trans hs.symm)
      omega
    have keep : ∀ t ∈ (akeys found).reverse.take i ++ [s], ∀ ws, aget found t = some ws → ∀ w ∈ ws, w.2.2 ≠ s := by
      intro t htm ws hw w hm
      rcases List.mem_append.mp htm with htm | htm
      · obtain ⟨j, hj, e⟩ := List.mem_take_iff_getElem.mp htm
        have hj' : (akeys found).reverse[j]? = some t := by rw [List.getElem?_eq_getElem (by omega), e]
        have := F.before hj' hw hm
        intro z
        rw [z] at this
        exact hnew (List.mem_of_mem_take (by rw [show (akeys found).reverse.take j = ((akeys found).reverse.take i).take j by rw [List.take_take, Nat.min_eq_left (by omega)]] at this; exact this))
      · rw [List.mem_singleton.mp htm] at hw
        have := F.before hs hw hm
        exact fun z => hnew (z ▸ this)
    have ec : ∀ t ∈ (akeys found).reverse.take i ++ [s], rowVal ships found rests (rowsStep ships found rests r s) t = rowVal ships found rests r t := fun t htm => rowVal_congr fun ws hw w hm => by
      rw [rowsStep_eq]
      exact aget_putO_ne _ (keep t htm ws hw w hm)
    refine ⟨fun t htm => ?_, fun t htm => ?_⟩
    · rw [rowsStep_eq] at htm
      rw [List.mem_append]
      cases q : rowVal ships found rests r s with
      | none => rw [q] at htm; exact .inl (h1 t htm)
      | some v =>
        rw [q] at htm
        rcases mem_akeys_aput.mp (show t ∈ akeys (aput r s v) from htm) with rfl | z
        · exact .inr (List.mem_singleton.mpr rfl)
        · exact .inl (h1 t z)
    · rw [ec t htm, rowsStep_eq]
      by_cases z : t = s
      · subst z
        cases q : rowVal ships found rests r t with
        | none => exact aget_none.mpr fun m => hnew (h1 t m)
        | some v => exact aget_aput_self _ _ _
      · rw [aget_putO_ne _ z]
        rcases List.mem_append.mp htm with htm | htm
        · exact h2 t htm
        · exact absurd (List.mem_singleton.mp htm) z
theorem rowsIn_at {ships : List Sh} {found : Found} (rests : Rests) (F : FoOk found) {s : Stt} (h : s ∈ akeys found) : aget (rowsIn ships found rests) s = rowVal ships found rests (rowsIn ships found rests) s := by
  have := (rows_fold (ships := ships) rests F (akeys found).length (Nat.le_refl _)).2
  rw [← List.length_reverse, List.take_length] at this
  exact this s (List.mem_reverse.mpr h)
/-- the least of rows -/
theorem minRow_le (r : Row) (rs : List Row) : ∀ y ∈ r :: rs, ltR y (minRow r rs) = false := by
  induction rs generalizing r with
  | nil => intro y hy; rw [List.mem_singleton.mp hy]; exact ltR_irrefl _
  | cons x xs ih =>
    have e : minRow r (x :: xs) = minRow (if ltR x r then x else r) xs := rfl
    rw [e]
    intro y hy
    by_cases q : ltR x r = true
    · rw [if_pos q]
      have i1 := ih x
      rcases List.mem_cons.mp hy with rfl|hy
      · cases z : ltR y (minRow x xs) with
        | false => rfl
        | true =>
          have h1 := ltR_trans q z
          rw [i1 x List.mem_cons_self] at h1
          cases h1
      · exact i1 y hy
    · rw [if_neg q]
      have i1 := ih r
      rcases List.mem_cons.mp hy with rfl|hy
      · exact i1 y List.mem_cons_self
      · rcases List.mem_cons.mp hy with rfl|hy
        · cases z : ltR y (minRow r xs) with
          | false => rfl
          | true =>
            rcases ltR_neg (b := r) z with g | g
            · exact absurd g q
            · rw [i1 r List.mem_cons_self] at g; cases g
        · exact i1 y (List.mem_cons_of_mem _ hy)
theorem minRows_le {rs : List Row} : ∀ y ∈ rs, ltR y (minRows rs) = false := by
  cases rs with
  | nil => intro y hy; cases hy
  | cons r rs => exact minRow_le r rs
end Tk
end

section
namespace Tk
open PySem
section
variable {h : Hb} {lat : Lat} {ships : List Sh} {found : Found}
theorem ltR_put (hp : 0 < h.pilots) (hsh : ∀ a ∈ ships, 0 < a.stay ∧ 0 ≤ a.tugs) {s : Stt} (I : SInv h ships s) {w : Way} (hw : w ∈ waysIn h ships s lat) {r1 r2 : Row} {c1 c2 : Int} (C1 : Comp h ships lat w.2.2 r1 c1) (C2 : Comp h ships lat w.2.2 r2 c2) : ltR (putAhead s.1 w.1 r1) (putAhead s.1 w.1 r2) = ltR r1 r2 := by
  have I2 := (I.next hp hsh hw).1
  have V1 := comp_sv hp hsh C1 I2
  have V2 := comp_sv hp hsh C2 I2
  cases I with
  | one a t p ok =>
    obtain ⟨_, _, c, m, rfl⟩ := (ways1 hp ok).mp hw
    cases V1 with
    | one _ _ _ r k F =>
      cases V2 with
      | one _ _ _ r' k' F' =>
        show ltR (putAhead t (mvI 0 c) [r]) (putAhead t (mvI 0 c) [r']) = _
        rw [ahead1, ahead1]
        exact ltR_ahead1 _ _ _ _
  | two a b t p q ok ok2 dis =>
    have ha := hsh a (by simp)
    have hb := hsh b (by simp)
    obtain ⟨_, _, c, d, m1, m2, J, rfl⟩ := (ways2 hp ⟨ha.2, hb.2⟩ ok ok2).mp hw
    cases V1 with
    | two _ _ _ _ _ r s k k2 F F2 P =>
      cases V2 with
      | two _ _ _ _ _ r' s' k' k2' F' F2' P' =>
        show ltR (putAhead t (mvI 0 c ++ mvI 1 d) [r, s]) (putAhead t (mvI 0 c ++ mvI 1 d) [r', s']) = _
        rw [ahead2, ahead2]
        exact ltR_ahead2 _ _ _ _ _ _ _
theorem comp_end {s : Stt} {row : Row} {c : Int} (he : isEnd s = true) (C : Comp h ships lat s row c) : row = ships.map fun _ => [] := by
  cases C with
  | fin _ _ => rfl
  | step _ w row c he2 _ _ => rw [he] at he2; cases he2
theorem best_ok (hp : 0 < h.pilots) (hsh : ∀ a ∈ ships, 0 < a.stay ∧ 0 ≤ a.tugs) (F : FG h ships lat found) : ∀ (n : Nat) {s : Stt} {r : Int}, (h.last + 1 - s.1).toNat ≤ n → s ∈ akeys found → aget (restsIn found) s = some (some r) →
    ∃ ρ, aget (rowsIn ships found (restsIn found)) s = some ρ ∧ Comp h ships lat s ρ r ∧ ∀ row, Comp h ships lat s row r → ltR row ρ = false := by
  intro n
  induction n with
  | zero =>
    intro s r hn hs hr
    have ha := rowsIn_at (ships := ships) (restsIn found) F.fo hs
    obtain ⟨g1, g2, g3, g4, g5⟩ := F.st s hs
    cases he : isEnd s with
    | true =>
      rw [rest_end F hs he] at hr
      cases hr
      refine ⟨_, by rw [ha]; unfold rowVal; rw [if_pos he], .fin s he, fun row C => ?_⟩
      rw [comp_end he C]
      exact ltR_irrefl _
    | false =>
      exfalso
      rw [rest_on F hs he] at hr
      obtain ⟨w, hw, _⟩ := List.mem_map.mp (least_some (Option.some.inj hr)).1
      have := ways_hour hw
      omega
  | succ n ih =>
    intro s r hn hs hr
    have ha := rowsIn_at (ships := ships) (restsIn found) F.fo hs
    obtain ⟨g1, g2, g3, g4, g5⟩ := F.st s hs
    cases he : isEnd s with
    | true =>
      rw [rest_end F hs he] at hr
      cases hr
      refine ⟨_, by rw [ha]; unfold rowVal; rw [if_pos he], .fin s he, fun row C => ?_⟩
      rw [comp_end he C]
      exact ltR_irrefl _
    | false =>
      have hrs : ((aget (restsIn found) s).getD none).isSome = true := by rw [hr]; rfl
      have ea : aget (rowsIn ships found (restsIn found)) s = some (minRows ((waysOn found (restsIn found) s).map fun w => putAhead s.1 w.1 ((aget (rowsIn ships found (restsIn found)) w.2.2).getD []))) := by
        rw [ha]
        unfold rowVal
        rw [if_neg (by rw [he]; exact Bool.false_ne_true), if_pos hrs]
      refine ⟨_, ea, ?_, fun row C => ?_⟩
      · have hne := waysOn_ne F.fo hs he hrs
        have hm := minRows_mem (rs := (waysOn found (restsIn found) s).map fun w => putAhead s.1 w.1 ((aget (rowsIn ships found (restsIn found)) w.2.2).getD [])) (by simpa using hne)
        obtain ⟨w, hw, e⟩ := List.mem_map.mp hm
        obtain ⟨r0, ws, k1, k2, k3, k4⟩ := waysOn_mem hw
        rw [g4] at k2
        cases k2
        obtain ⟨y, hy, rfl⟩ := added_some k4
        have hay : aget (restsIn found) w.2.2 = some (some y) := by
          cases z : aget (restsIn found) w.2.2 with
          | none => rw [z] at hy; cases hy
          | some o => rw [z] at hy; exact congrArg some hy
        obtain ⟨b1, b2⟩ := g5 w k3
        obtain ⟨ρ', e1, C', _⟩ := ih (s := w.2.2) (by omega) b1 hay
        rw [hr] at k1
        have er : r = w.2.1 + y := Option.some.inj k1
        rw [← e, e1, er]
        exact .step s w ρ' y he k3 C'
      · cases C with
        | fin _ he2 => rw [he] at he2; cases he2
        | step _ w row c he2 hw C =>
          obtain ⟨b1, b2⟩ := g5 w hw
          obtain ⟨y, hy, hle⟩ := (rest_ok F _ (Nat.le_refl _) b1).1 _ _ C
          have hro := rest_on F hs he
          rw [hr] at hro
          have hmem : some (w.2.1 + y) ∈ (waysIn h ships s lat).map fun w => added w.2.1 ((aget (restsIn found) w.2.2).getD none) := List.mem_map.mpr ⟨w, hw, by rw [hy]; rfl⟩
          have := (least_some (Option.some.inj hro).symm).2 _ hmem
          have ey : y = c := by omega
          subst ey
          obtain ⟨ρ', e1, C', hmin⟩ := ih (s := w.2.2) (by omega) b1 hy
          have hon : w ∈ waysOn found (restsIn found) s := by
            unfold waysOn
            rw [hr]
            show w ∈ ((aget found s).getD []).filter _
            rw [g4]
            refine List.mem_filter.mpr ⟨hw, decide_eq_true ?_⟩
            rw [hy]
            rfl
          have h1 := minRows_le (rs := (waysOn found (restsIn found) s).map fun w => putAhead s.1 w.1 ((aget (rowsIn ships found (restsIn found)) w.2.2).getD [])) (putAhead s.1 w.1 ρ') (List.mem_map.mpr ⟨w, hon, by rw [e1]; rfl⟩)
          have h2 := (ltR_put hp hsh g1 hw C C').trans (hmin _ C)
          cases z : ltR (putAhead s.1 w.1 row) (minRows ((waysOn found (restsIn found) s).map fun w => putAhead s.1 w.1 ((aget (rowsIn ships found (restsIn found)) w.2.2).getD []))) with
          | false => rfl
          | true =>
            rcases ltR_neg (b := putAhead s.1 w.1 ρ') z with g | g
            · rw [h2] at g; cases g
            · rw [h1] at g; cases g
end
end Tk
end

section
namespace Tk
open PySem
section
variable {h : Hb} {ships : List Sh}
theorem opt_bd {a : Sh} {o : One} (hl : h.last ≤ 12) (hb : h.berths.length ≤ 2) (hr : 0 ≤ a.ready) (hs : 0 < a.stay) (O : Opt h a o) : 0 ≤ o.1 ∧ o.1 ≤ 12 ∧ 0 ≤ o.2.1 ∧ o.2.1 ≤ 12 ∧ 0 ≤ o.2.2 ∧ o.2.2 ≤ 12 := by
  have h1 := O.r
  have h2 := O.s
  have h3 := O.l
  have h4 := O.b0
  have h5 := O.b1
  omega
theorem mul_bd {x y : Int} (hx : 0 ≤ x ∧ x ≤ 9) (hy : 0 ≤ y ∧ y ≤ 100) : 0 ≤ x * y ∧ x * y ≤ 900 := by
  refine ⟨Int.mul_nonneg hx.1 hy.1, ?_⟩
  have h1 : x * y ≤ 9 * y := Int.mul_le_mul_of_nonneg_right hx.2 hy.1
  omega
theorem costO_bd {a : Sh} {o : One} (hl : h.last ≤ 12) (hb : h.berths.length ≤ 2) (hr : 0 ≤ a.ready) (hs : 0 < a.stay) (h1 : 0 ≤ a.sea ∧ a.sea ≤ 9) (h2 : 0 ≤ a.lie ∧ a.lie ≤ 9) (O : Opt h a o) : 0 ≤ costO a o ∧ costO a o ≤ 1800 := by
  have B := opt_bd hl hb hr hs O
  have k1 := O.r
  have k2 := O.s
  have m1 := mul_bd (x := a.sea) (y := o.1 - a.ready) h1 (by omega)
  have m2 := mul_bd (x := a.lie) (y := o.2.2 - o.1 - a.stay - 1) h2 (by omega)
  unfold costO
  omega
theorem plans_bd (L : LwOk h ships) : ∀ p ∈ plans h ships, (p.length ≤ 2 ∧ ∀ o ∈ p, 0 ≤ o.1 ∧ o.1 ≤ 100 ∧ 0 ≤ o.2.1 ∧ o.2.1 ≤ 100 ∧ 0 ≤ o.2.2 ∧ o.2.2 ≤ 12) ∧ 0 ≤ planCost ships p ∧ planCost ships p < 1000000 := by
  have hp := L.pi.1
  have hsh := L.sh
  have hn := L.ns
  have hl := L.la.2
  have hb := L.nb
  clear L
  match ships, hn, hsh with
  | _ :: _ :: _ :: _, hn, _ => exact absurd hn.2 (by simp)
  | [a], _, hsh =>
    have ha := hsh a (by simp)
    intro p hm
    obtain ⟨o, h1, rfl⟩ := (plans1_mem hp ha.2.2.2.1).mp hm
    have B := opt_bd hl hb ha.1 ha.2.2.2.1 h1
    have Cb := costO_bd hl hb ha.1 ha.2.2.2.1 ⟨by omega, by omega⟩ ⟨by omega, by omega⟩ h1
    refine ⟨⟨by simp, fun o' ho => ?_⟩, ?_⟩
    · rw [List.mem_singleton.mp ho]; omega
    · rw [planCost1]; omega
  | [a, b], _, hsh =>
    have ha := hsh a (by simp)
    have hb' := hsh b (by simp)
    intro p hm
    obtain ⟨o, o2, h1, h3, P, rfl⟩ := (plans2_mem hp ha.2.2.2.1 hb'.2.2.2.1).mp hm
    have B := opt_bd hl hb ha.1 ha.2.2.2.1 h1
    have B2 := opt_bd hl hb hb'.1 hb'.2.2.2.1 h3
    have C1 := costO_bd hl hb ha.1 ha.2.2.2.1 ⟨by omega, by omega⟩ ⟨by omega, by omega⟩ h1
    have C2 := costO_bd hl hb hb'.1 hb'.2.2.2.1 ⟨by omega, by omega⟩ ⟨by omega, by omega⟩ h3
    refine ⟨⟨by simp, fun o' ho => ?_⟩, ?_⟩
    · simp only [List.mem_cons, List.not_mem_nil, or_false] at ho
      rcases ho with rfl | rfl
      · omega
      · omega
    · rw [planCost2]; omega
/-- what is kept sooner is kept -/
theorem soon_of {l : List (Option Int)} {k : Nat} {v : Int} (hk : l[k]? = some (some v)) {c : Int} (e : lstOf h ships (l.set k (some (v - 1))) = some c) : ∃ c0, lstOf h ships l = some c0 ∧ c0 ≤ c := by
  obtain ⟨p, hp, q⟩ := List.mem_map.mp (least_some e).1
  cases q
  obtain ⟨h1, h2⟩ := List.mem_filter.mp hp
  have hkl : k < l.length := (List.getElem?_eq_some_iff.mp hk).1
  have h3 : keeps (some l) p = true := by
    refine List.all_eq_true.mpr fun j hj => ?_
    have h4 := List.all_eq_true.mp (show (List.range p.length).all (keepsAt (l.set k (some (v - 1))) p) = true from h2) j hj
    unfold keepsAt at h4 ⊢
    by_cases z : j = k
    · subst z
      rw [List.getD_eq_getElem?_getD, List.getElem?_set_self hkl] at h4
      rw [List.getD_eq_getElem?_getD, hk]
      have h5 : (oneAt p j).2.2 ≤ v - 1 := of_decide_eq_true h4
      exact decide_eq_true (show (oneAt p j).2.2 ≤ v by omega)
    · rw [List.getD_eq_getElem?_getD, List.getElem?_set_ne (fun y => z y.symm)] at h4
      rw [(List.getD_eq_getElem?_getD)]
      exact h4
  have hm : some (planCost ships p) ∈ (kept h ships l).map fun p => some (planCost ships p) := List.mem_map.mpr ⟨p, List.mem_filter.mpr ⟨h1, h3⟩, rfl⟩
  cases q : lstOf h ships l with
  | none => exact absurd hm (least_none.mp q _)
  | some c0 => exact ⟨c0, rfl, (least_some q).2 _ hm⟩
theorem free_of (L : LwOk h ships) {l : List (Option Int)} (hl : l.length = ships.length) (hx : (∀ x ∈ l, x = none) ∨ ∀ x ∈ l, x = some 100) : lstOf h ships l = leastCost h ships none := by
  rw [leastCost_eq L (fun _ e => by cases e)]
  unfold lstOf kept
  congr 2
  apply List.filter_congr
  intro p hp
  obtain ⟨⟨b1, b2⟩, _⟩ := plans_bd L p hp
  show (List.range p.length).all (keepsAt l p) = true
  refine List.all_eq_true.mpr fun j hj => ?_
  have hj' : j < _ := List.mem_range.mp hj
  unfold keepsAt
  rw [(List.getD_eq_getElem?_getD)]
  cases q : l[j]? with
  | none => rfl
  | some x =>
    have hm := List.mem_of_getElem? q
    rcases hx with hx | hx
    · rw [hx x hm]; rfl
    · rw [hx x hm]
      have ho : oneAt p j ∈ p := by
        unfold oneAt
        rw [List.getD_eq_getElem?_getD, List.getElem?_eq_getElem hj']
        exact List.getElem_mem hj'
      have := b2 _ ho
      exact decide_eq_true (show (oneAt p j).2.2 ≤ 100 by omega)
end
end Tk
end

section
namespace Tk
open PySem
/-! ### the plans stand in order -/
def ltT (r s : List Int) : Bool := PyProof.Rows.lexLt PyProof.Rows.itemOrd (T r) (T s)
theorem ltT_cons (x y : Int) (r s : List Int) : ltT (x :: r) (y :: s) = if x = y then ltT r s else decide (x < y) := by
  unfold ltT
  rw [T_cons, T_cons]
  refine (PyProof.Rows.lex_self (O := PyProof.Rows.itemOrd) _ _ _).trans ?_
  by_cases e : x = y
  · subst e
    rw [if_pos rfl]
    exact PyProof.Rows.lex_self (O := PyProof.Rows.itemOrd) _ _ _
  · rw [if_neg e]
    exact PyProof.Rows.lex_diff (O := PyProof.Rows.itemOrd) (by intro z; exact e (Sum.inl.inj z))
def ltO (o p : One) : Prop := o.1 < p.1 ∨ o.1 = p.1 ∧ (o.2.1 < p.2.1 ∨ o.2.1 = p.2.1 ∧ o.2.2 < p.2.2)
theorem ltO_T {o p : One} (h : ltO o p) : tri o ≠ tri p ∧ ltT (tri o) (tri p) = true := by
  unfold ltO at h
  unfold tri
  constructor
  · intro z
    simp only [List.cons.injEq, and_true] at z
    omega
  · rw [ltT_cons, ltT_cons, ltT_cons]
    split
    · split
      · split
        · omega
        · exact decide_eq_true (by omega)
      · exact decide_eq_true (by omega)
    · exact decide_eq_true (by omega)
theorem ltO1 {o p : One} (h : ltO o p) : ltR (planRow [o]) (planRow [p]) = true := by
  obtain ⟨h1, h2⟩ := ltO_T h
  show ltR [tri o] [tri p] = true
  rw [lt1, T_decided h1]
  exact h2
theorem ltO2 {o o2 p p2 : One} (h : ltO o p ∨ o = p ∧ ltO o2 p2) : ltR (planRow [o, o2]) (planRow [p, p2]) = true := by
  show ltR [tri o, tri o2] [tri p, tri p2] = true
  rw [lt2]
  rcases h with h | ⟨rfl, h⟩
  · obtain ⟨h1, h2⟩ := ltO_T h
    rw [if_neg h1]
    exact h2
  · obtain ⟨h1, h2⟩ := ltO_T h
    rw [if_pos rfl, T_decided h1]
    exact h2
theorem rgI_sorted (m n : Int) : (rgI m n).Pairwise (· < ·) := by
  unfold rgI
  rw [List.pairwise_map]
  exact List.Pairwise.imp (fun h => by omega) (List.pairwise_lt_range)
/-- a fold that lengthens a sorted list by what stands behind -/
theorem foldl_sorted {α β : Type} {lt : β → β → Prop} {f : List β → α → List β} {R : α → β → Prop} {rel : α → α → Prop} (hm : ∀ acc x y, y ∈ f acc x ↔ y ∈ acc ∨ R x y) (hs : ∀ acc x, acc.Pairwise lt → (∀ a ∈ acc, ∀ y, R x y → lt a y) → (f acc x).Pairwise lt) (hr : ∀ x x' y y', rel x x' → R x y → R x' y' → lt y y') :
    ∀ (xs : List α) (acc : List β), xs.Pairwise rel → acc.Pairwise lt → (∀ a ∈ acc, ∀ x ∈ xs, ∀ y, R x y → lt a y) → (xs.foldl f acc).Pairwise lt
  | [], acc, _, h, _ => h
  | x :: xs, acc, hx, h, ha => by
    rw [List.pairwise_cons] at hx
    rw [List.foldl_cons]
    refine foldl_sorted hm hs hr xs (f acc x) hx.2 (hs acc x h fun a ha' y hy => ha a ha' x List.mem_cons_self y hy) fun a ha' x' hx' y hy => ?_
    rcases (hm acc x a).mp ha' with z | z
    · exact ha a z x' (List.mem_cons_of_mem _ hx') y hy
    · exact hr x x' a y (hx.1 x' hx') z hy
section
variable {h : Hb} {a : Sh}
theorem opt3_mem (first : Int) (berth : Nat) (acc : LPlan) (out : Int) (y : One) : y ∈ opt3 h a first berth acc out ↔ y ∈ acc ∨ (optOk h a first berth out = true ∧ y = (first, ((berth : Nat) : Int), out)) := by
  unfold opt3
  split
  · rename_i z
    rw [List.mem_append, List.mem_singleton]
    simp [z]
  · rename_i z
    simp [z]
theorem opt2_mem (first : Int) (acc : LPlan) (berth : Nat) (y : One) : y ∈ opt2 h a first acc berth ↔ y ∈ acc ∨ ∃ out ∈ rgI (first + a.stay + 1) (h.last + 1), optOk h a first berth out = true ∧ y = (first, ((berth : Nat) : Int), out) := by
  unfold opt2
  exact foldl_mem (R := fun out y => optOk h a first berth out = true ∧ y = (first, ((berth : Nat) : Int), out)) (opt3_mem first berth) _ _ _
theorem opt1_mem (acc : LPlan) (first : Int) (y : One) : y ∈ opt1 h a acc first ↔ y ∈ acc ∨ ∃ berth ∈ List.range h.berths.length, ∃ out ∈ rgI (first + a.stay + 1) (h.last + 1), optOk h a first berth out = true ∧ y = (first, ((berth : Nat) : Int), out) := by
  unfold opt1
  exact foldl_mem (R := fun (berth : Nat) y => ∃ out ∈ rgI (first + a.stay + 1) (h.last + 1), optOk h a first berth out = true ∧ y = (first, ((berth : Nat) : Int), out)) (fun acc b y => opt2_mem first acc b y) _ _ _
theorem opt3_sorted (first : Int) (berth : Nat) (acc : LPlan) (out : Int) (hacc : acc.Pairwise ltO) (ha : ∀ x ∈ acc, ∀ y, (optOk h a first berth out = true ∧ y = (first, ((berth : Nat) : Int), out)) → ltO x y) : (opt3 h a first berth acc out).Pairwise ltO := by
  unfold opt3
  split
  · rename_i z
    rw [List.pairwise_append]
    refine ⟨hacc, by simp, fun x hx y hy => ?_⟩
    rw [List.mem_singleton.mp hy]
    exact ha x hx _ ⟨z, rfl⟩
  · exact hacc
theorem opt2_sorted (first : Int) (acc : LPlan) (berth : Nat) (hacc : acc.Pairwise ltO) (ha : ∀ x ∈ acc, ∀ y, (∃ out ∈ rgI (first + a.stay + 1) (h.last + 1), optOk h a first berth out = true ∧ y = (first, ((berth : Nat) : Int), out)) → ltO x y) : (opt2 h a first acc berth).Pairwise ltO := by
  unfold opt2
  refine foldl_sorted (R := fun out y => optOk h a first berth out = true ∧ y = (first, ((berth : Nat) : Int), out)) (rel := (· < ·)) (opt3_mem first berth) (opt3_sorted first berth) (fun x x' y y' hx h1 h2 => ?_) _ _ (rgI_sorted _ _) hacc fun x hx out ho y hy => ha x hx y ⟨out, ho, hy⟩
  rw [h1.2, h2.2]
  exact .inr ⟨rfl, .inr ⟨rfl, hx⟩⟩
theorem opt1_sorted (acc : LPlan) (first : Int) (hacc : acc.Pairwise ltO) (ha : ∀ x ∈ acc, ∀ y, (∃ berth ∈ List.range h.berths.length, ∃ out ∈ rgI (first + a.stay + 1) (h.last + 1), optOk h a first berth out = true ∧ y = (first, ((berth : Nat) : Int), out)) → ltO x y) : (opt1 h a acc first).Pairwise ltO := by
  unfold opt1
  refine foldl_sorted (R := fun (berth : Nat) y => ∃ out ∈ rgI (first + a.stay + 1) (h.last + 1), optOk h a first berth out = true ∧ y = (first, ((berth : Nat) : Int), out)) (rel := (· < ·)) (fun acc b y => opt2_mem first acc b y) (fun acc b => opt2_sorted first acc b) (fun x x' y y' hx h1 h2 => ?_) _ _ List.pairwise_lt_range hacc fun x hx b hb y hy => ha x hx y ⟨b, hb, hy⟩
  obtain ⟨o1, _, _, rfl⟩ := h1
  obtain ⟨o2, _, _, rfl⟩ := h2
  exact .inr ⟨rfl, .inl (by show ((x : Nat) : Int) < ((x' : Nat) : Int); omega)⟩
theorem options_sorted : (options h a).Pairwise ltO := by
  unfold options
  refine foldl_sorted (R := fun first y => ∃ berth ∈ List.range h.berths.length, ∃ out ∈ rgI (first + a.stay + 1) (h.last + 1), optOk h a first berth out = true ∧ y = (first, ((berth : Nat) : Int), out)) (rel := (· < ·)) opt1_mem opt1_sorted (fun x x' y y' hx h1 h2 => ?_) _ _ (rgI_sorted _ _) List.Pairwise.nil fun x hx => (by cases hx)
  obtain ⟨b1, _, o1, _, _, rfl⟩ := h1
  obtain ⟨b2, _, o2, _, _, rfl⟩ := h2
  exact .inl hx
end
end Tk
end

section
namespace Tk
open PySem
theorem ltR_same (r : List Int) (a b : Row) : ltR (r :: a) (r :: b) = ltR a b := by
  unfold ltR PySem.W.dataLt
  have e : ∀ c : Row, PySem.W.keyToks (encRow (r :: c)) = .inl 1 :: (T r ++ PySem.W.keyToks (encRow c)) := fun c => by
    show PySem.W.keyToksAll (encTu r :: c.map encTu) = _
    rw [PySem.W.keyToksAll]
    rfl
  rw [e, e]
  exact (PyProof.Rows.lex_self (O := PyProof.Rows.itemOrd) _ _ _).trans (PySem.W.lex_pre _ _ _)
theorem ltR_snoc {o p : One} (h : ltO o p) : ∀ x : LPlan, ltR (planRow (x ++ [o])) (planRow (x ++ [p])) = true
  | [] => ltO1 h
  | y :: ys => by
    show ltR (tri y :: planRow (ys ++ [o])) (tri y :: planRow (ys ++ [p])) = true
    rw [ltR_same]
    exact ltR_snoc h ys
section
variable {h : Hb} {ships : List Sh}
theorem plans_sorted (L : LwOk h ships) : (plans h ships).Pairwise fun p q => ltR (planRow p) (planRow q) = true := by
  have hn := L.ns
  clear L
  match ships, hn with
  | _ :: _ :: _ :: _, hn => exact absurd hn.2 (by simp)
  | [a], _ =>
    have e : plans h [a] = ((options h a).filter (beside h [a] [])).map fun one => [] ++ [one] := rfl
    rw [e, List.pairwise_map]
    refine List.Pairwise.imp (fun z => ltO1 z) ((options_sorted (h := h) (a := a)).filter _)
  | [a, b], _ =>
    have e : plans h [a, b] = plansStep h [a, b] (((options h a).filter (beside h [a, b] [])).map fun one => [] ++ [one]) b := rfl
    rw [e]
    unfold plansStep
    refine foldl_sorted (R := fun q p => ∃ o ∈ options h b, beside h [a, b] q o = true ∧ p = q ++ [o]) (rel := fun p q => ∃ o o', p = [o] ∧ q = [o'] ∧ ltO o o') (fun acc x y => ?_) (fun acc x hacc ha => ?_) (fun x x' y y' hx h1 h2 => ?_) _ _ ?_ List.Pairwise.nil fun x hx => (by cases hx)
    · unfold planStep
      rw [List.mem_append, List.mem_map]
      constructor
      · rintro (z | ⟨o, ho, rfl⟩)
        · exact .inl z
        · exact .inr ⟨o, (List.mem_filter.mp ho).1, (List.mem_filter.mp ho).2, rfl⟩
      · rintro (z | ⟨o, ho, hb, rfl⟩)
        · exact .inl z
        · exact .inr ⟨o, List.mem_filter.mpr ⟨ho, hb⟩, rfl⟩
    · unfold planStep
      rw [List.pairwise_append]
      refine ⟨hacc, ?_, fun p hp q hq => ?_⟩
      · rw [List.pairwise_map]
        exact List.Pairwise.imp (fun z => ltR_snoc z x) ((options_sorted (h := h) (a := b)).filter _)
      · obtain ⟨o, ho, rfl⟩ := List.mem_map.mp hq
        exact ha p hp _ ⟨o, (List.mem_filter.mp ho).1, (List.mem_filter.mp ho).2, rfl⟩
    · obtain ⟨o, o', rfl, rfl, hlt⟩ := hx
      obtain ⟨p, _, _, rfl⟩ := h1
      obtain ⟨p', _, _, rfl⟩ := h2
      exact ltO2 (.inl hlt)
    · rw [List.pairwise_map]
      exact List.Pairwise.imp (fun z => ⟨_, _, rfl, rfl, z⟩) ((options_sorted (h := h) (a := a)).filter _)
/-- the best plan is the first of those due -/
theorem best_of (L : LwOk h ships) {l : List (Option Int)} (hl : l.length = ships.length) : encPlan (bestPlan h ships (some l)) = headD (due h ships l) := by
  have lok : LatOk (some l) ships.length := fun l' e => by cases e; exact hl
  have F := fg_of L lok
  have hsh : ∀ a ∈ ships, 0 < a.stay ∧ 0 ≤ a.tugs := fun a ha => by have := L.sh a ha; omega
  have hc : leastCost h ships (some l) = lstOf h ships l := leastCost_eq L lok
  have I := (F.st _ F.beg).1
  unfold bestPlan
  unfold leastCost restOf at hc
  generalize grown h ships (beginning ships) (some l) = found at F hc
  unfold planOf
  rw [hc]
  cases q : lstOf h ships l with
  | none =>
    have e : due h ships l = [] := by
      unfold due
      rw [q, List.filter_eq_nil_iff]
      intro p hp z
      cases of_decide_eq_true z
    rw [e]
    rfl
  | some r =>
    rw [q] at hc
    have hr : aget (restsIn found) (beginning ships) = some (some r) := by
      cases z : aget (restsIn found) (beginning ships) with
      | none => rw [z] at hc; cases hc
      | some o => rw [z] at hc; exact congrArg some hc
    obtain ⟨ρ, e1, C, hmin⟩ := best_ok L.pi.1 hsh F _ (Nat.le_refl _) F.beg hr
    have due_iff : ∀ p, p ∈ due h ships l ↔ (p ∈ plans h ships ∧ keeps (some l) p = true) ∧ planCost ships p = r := fun p => by
      unfold due kept
      rw [List.mem_filter, List.mem_filter, q, decide_eq_true_eq]
      exact ⟨fun z => ⟨z.1, Option.some.inj z.2⟩, fun z => ⟨z.1, congrArg some z.2⟩⟩
    obtain ⟨p0, hp0, hk0, rfl, hc0⟩ := (plans_iff L).mp ((comp_iff L.pi.1 hsh I).mp C)
    have m0 : p0 ∈ due h ships l := (due_iff p0).mpr ⟨⟨hp0, hk0⟩, hc0.symm⟩
    have srt : (due h ships l).Pairwise fun p q => ltR (planRow p) (planRow q) = true := ((plans_sorted L).filter _).filter _
    rw [e1]
    cases qd : due h ships l with
    | nil => rw [qd] at m0; cases m0
    | cons p1 ps =>
      rw [qd] at m0 srt
      have m1 : p1 ∈ due h ships l := by rw [qd]; exact List.mem_cons_self
      obtain ⟨⟨k1, k2⟩, k3⟩ := (due_iff p1).mp m1
      have C1 : Comp h ships (some l) (beginning ships) (planRow p1) r := (comp_iff L.pi.1 hsh I).mpr ((plans_iff L).mpr ⟨p1, k1, k2, rfl, k3.symm⟩)
      have e2 : p0 = p1 := by
        rcases List.mem_cons.mp m0 with z | z
        · exact z
        · have h1 := (List.pairwise_cons.mp srt).1 p0 z
          rw [hmin _ C1] at h1
          cases h1
      subst e2
      show PyData.list ((p0.map tri).map encTu) = PyData.list (p0.map encOne)
      rw [List.map_map]
      rfl
end
end Tk
end

section
namespace Tk
open PySem
/-! ### the table -/
def ltS (a b : Stt) : Bool := PySem.W.dataLt (encSt a) (encSt b)
theorem ltS_trans {a b c : Stt} : ltS a b = true → ltS b c = true → ltS a c = true := PyProof.Rows.lex_trans _ _ _
theorem ltS_neg {a b c : Stt} : ltS a c = true → ltS a b = true ∨ ltS b c = true := PyProof.Rows.lex_negTrans _ _ _
theorem ltS_irrefl (a : Stt) : ltS a a = false := PyProof.Rows.lex_irrefl _
theorem toksP (p : Place) : PySem.W.keyToks (encP p) = [.inl 1, .inl p.1, .inl 1, .inl p.2, .inl 0] := by
  show PySem.W.keyToksAll [.int p.1, .int p.2] = _
  rw [PySem.W.keyToksAll, PySem.W.keyToksAll, PySem.W.keyToksAll]
  rfl
theorem toksPs_inj : ∀ {ps qs : List Place}, PySem.W.keyToksAll (ps.map encP) = PySem.W.keyToksAll (qs.map encP) → ps = qs
  | [], [], _ => rfl
  | [], q :: qs, h => by
    rw [List.map_nil, List.map_cons, PySem.W.keyToksAll, PySem.W.keyToksAll] at h
    simp at h
  | p :: ps, [], h => by
    rw [List.map_nil, List.map_cons, PySem.W.keyToksAll, PySem.W.keyToksAll] at h
    simp at h
  | p :: ps, q :: qs, h => by
    rw [List.map_cons, List.map_cons, PySem.W.keyToksAll, PySem.W.keyToksAll, toksP, toksP] at h
    simp only [List.cons_append, List.nil_append, List.cons.injEq, true_and, Sum.inl.injEq] at h
    rw [toksPs_inj h.2.2, Prod.ext h.1 h.2.1]
theorem toksS_inj {a b : Stt} (h : PySem.W.keyToks (encSt a) = PySem.W.keyToks (encSt b)) : a = b := by
  have e : ∀ s : Stt, PySem.W.keyToks (encSt s) = .inl 1 :: .inl s.1 :: .inl 1 :: (PySem.W.keyToksAll (s.2.map encP) ++ [.inl 0]) := fun s => by
    show PySem.W.keyToksAll [.int s.1, .tuple (s.2.map encP)] = _
    rw [PySem.W.keyToksAll, PySem.W.keyToksAll, PySem.W.keyToksAll]
    rfl
  rw [e, e] at h
  simp only [List.cons.injEq, true_and, Sum.inl.injEq] at h
  exact Prod.ext h.1 (toksPs_inj (List.append_cancel_right h.2))
theorem ltS_total {a b : Stt} (h1 : ltS a b = false) (h2 : ltS b a = false) : a = b := toksS_inj (PyProof.Rows.lex_total _ _ h1 h2)
theorem leSt_eq (a b : Stt) : leSt a b = !ltS b a := rfl
theorem leSt_trans (a b c : Stt) (h1 : leSt a b = true) (h2 : leSt b c = true) : leSt a c = true := by
  rw [leSt_eq] at *
  cases q : ltS c a with
  | false => rfl
  | true =>
    rcases ltS_neg (b := b) q with z | z
    · rw [z] at h2; cases h2
    · rw [z] at h1; cases h1
theorem leSt_total (a b : Stt) : (leSt a b || leSt b a) = true := by
  rw [leSt_eq, leSt_eq]
  cases q : ltS b a with
  | false => rfl
  | true =>
    cases z : ltS a b with
    | false => rfl
    | true =>
      have := ltS_trans q z
      rw [ltS_irrefl] at this
      cases this
section
variable {h : Hb} {lat : Lat} {ships : List Sh} {found : Found}
theorem place_ok {a : Sh} {p : Place} (ok : PlOk h a p) : isPlace h a p = true := by
  unfold isPlace
  cases ok with
  | sea => rfl
  | gone => rfl
  | in_ b l h1 h2 h3 h4 =>
    split
    · rfl
    · unfold isWithin
      simp only [decide_eq_true_eq, Bool.and_eq_true]
      omega
theorem state_ok {s : Stt} (I : SInv h ships s) (h0 : 0 ≤ s.1) (h1 : s.1 ≤ h.last + 1) : isState h ships s = true := by
  unfold isState
  have hw : isWithin s.1 0 (h.last + 1) = true := by
    unfold isWithin
    simp only [decide_eq_true_eq, Bool.and_eq_true]
    exact ⟨h0, h1⟩
  rw [if_neg (by
    rintro (z | z)
    · rw [hw] at z; cases z
    · exact z I.len)]
  cases I with
  | one a t p ok =>
    have e : ([a].zip (t, [p]).2).all (fun x => isPlace h x.1 x.2) = true := by
      show (isPlace h a p && true) = true
      rw [place_ok ok]; rfl
    rw [if_neg (by rw [e]; exact Bool.noConfusion)]
    refine decide_eq_true ?_
    unfold heldIn
    by_cases z : 0 ≤ p.1
    · simp [z, dis1]
    · simp [z, dis0]
  | two a b t p q ok ok2 dis =>
    have e : ([a, b].zip (t, [p, q]).2).all (fun x => isPlace h x.1 x.2) = true := by
      show (isPlace h a p && (isPlace h b q && true)) = true
      rw [place_ok ok, place_ok ok2]; rfl
    rw [if_neg (by rw [e]; exact Bool.noConfusion)]
    refine decide_eq_true ?_
    unfold heldIn
    by_cases z : 0 ≤ p.1 <;> by_cases z2 : 0 ≤ q.1
    · simp [z, z2, dis2, dis z]
    · simp [z, z2, dis1]
    · simp [z, z2, dis1]
    · simp [z, z2, dis0]
theorem Fit.nn {i : Nat} {a : Sh} {t : Int} {p : Place} {r : List Int} {k : Int} (h1 : 0 ≤ a.sea) (h2 : 0 ≤ a.lie) (F : Fit h lat i a t p r k) : 0 ≤ k := by
  cases F with
  | sea f b o g1 g2 g3 =>
    have m1 := Int.mul_nonneg h1 (show 0 ≤ f - max t a.ready by omega)
    have m2 := Int.mul_nonneg h2 (show 0 ≤ o - f - a.stay - 1 by omega)
    omega
  | gone => exact Int.le_refl _
  | in_ b l o g1 g2 g3 => exact Int.mul_nonneg h2 (by omega)
theorem comp_nn (L : LwOk h ships) {s : Stt} {row : Row} {c : Int} (I : SInv h ships s) (C : Comp h ships lat s row c) : 0 ≤ c := by
  have hsh : ∀ a ∈ ships, 0 < a.stay ∧ 0 ≤ a.tugs := fun a ha => by have := L.sh a ha; omega
  have V := comp_sv L.pi.1 hsh C I
  have hc := L.sh
  cases V with
  | one a t p r k F =>
    have ha := hc a (by simp)
    exact F.nn (by omega) (by omega)
  | two a b t p q r s k k2 F F2 P =>
    have ha := hc a (by simp)
    have hb := hc b (by simp)
    have := F.nn (by omega) (by omega)
    have := F2.nn (by omega) (by omega)
    omega
theorem bound_fold : ∀ (xs acc : Rests), (akeys (acc ++ xs)).Nodup → xs.foldl boundStep acc = acc ++ xs
  | [], acc, _ => by simp
  | x :: xs, acc, hn => by
    rw [List.foldl_cons]
    have hx : aget acc x.1 = none := aget_none.mpr fun m => by
      rw [show akeys (acc ++ x :: xs) = akeys acc ++ x.1 :: akeys xs by unfold akeys; rw [List.map_append]; rfl, List.nodup_append] at hn
      exact hn.2.2 x.1 m x.1 List.mem_cons_self rfl
    have e : boundStep acc x = acc ++ [x] := aput_new acc x.2 hx
    rw [e, bound_fold xs (acc ++ [x]) (by rw [List.append_assoc]; exact hn), List.append_assoc]
    rfl
/-- the table of any such found -/
theorem tbl_of (L : LwOk h ships) (hl : LatOk lat ships.length) : TblOk h ships (tableOf h ships lat) ∧ (tableOf h ships lat).length ≤ 100000 ∧ beginning ships ∈ akeys ((tableOf h ships lat).foldl boundStep []) ∧ (akeys ((tableOf h ships lat).foldl boundStep [])).length ≤ 100000 ∧
    ∀ s ∈ akeys ((tableOf h ships lat).foldl boundStep []), s.2.length = ships.length ∧ HoldsOk h ships ((tableOf h ships lat).foldl boundStep []) s lat := by
  have F := fg_of L hl
  unfold tableOf
  generalize grown h ships (beginning ships) lat = found at F
  have hk := restsIn_keys F.fo
  have hkn : (akeys (restsIn found)).Nodup := by rw [hk]; exact (List.reverse_perm _).nodup_iff.mpr F.fo.nd
  have km : ∀ s, s ∈ akeys (restsIn found) ↔ s ∈ akeys found := fun s => by rw [hk, List.mem_reverse]
  have kl : (akeys (restsIn found)).length ≤ 100000 := by
    rw [hk, List.length_reverse, List.length_map]
    exact F.fo.sz
  show TblOk h ships (((akeys (restsIn found)).mergeSort leSt).map _) ∧ _
  have P := List.mergeSort_perm (akeys (restsIn found)) leSt
  have S := List.pairwise_mergeSort (le := leSt) leSt_trans leSt_total (akeys (restsIn found))
  generalize (akeys (restsIn found)).mergeSort leSt = ks at P S
  have kn : ks.Nodup := P.nodup_iff.mpr hkn
  have km2 : ∀ s, s ∈ ks ↔ s ∈ akeys found := fun s => P.mem_iff.trans (km s)
  have kl2 : ks.length ≤ 100000 := by rw [P.length_eq]; exact kl
  have ek : akeys (ks.map fun s => (s, (aget (restsIn found) s).getD none)) = ks := by
    unfold akeys
    rw [List.map_map]
    exact (List.map_congr_left fun _ _ => rfl).trans (List.map_id _)
  have eb : (ks.map fun s => (s, (aget (restsIn found) s).getD none)).foldl boundStep [] = ks.map fun s => (s, (aget (restsIn found) s).getD none) := by
    have := bound_fold (ks.map fun s => (s, (aget (restsIn found) s).getD none)) [] (by rw [List.nil_append, ek]; exact kn)
    rw [List.nil_append] at this
    exact this
  show TblOk h ships (ks.map fun s => (s, (aget (restsIn found) s).getD none)) ∧ _
  rw [eb, ek]
  have ag : ∀ s ∈ akeys found, aget (ks.map fun s => (s, (aget (restsIn found) s).getD none)) s = aget (restsIn found) s := fun s hs => by
    rw [aget_of_mem (v := (aget (restsIn found) s).getD none) (by rw [ek]; exact kn) (List.mem_map.mpr ⟨s, (km2 s).mpr hs, rfl⟩), restsIn_at F.fo hs]
    rfl
  refine ⟨⟨fun e he => ?_, fun i a b ha hb => ?_⟩, by rw [List.length_map]; exact kl2, (km2 _).mpr F.beg, kl2, fun s hs => ?_⟩
  · obtain ⟨s, hs, rfl⟩ := List.mem_map.mp he
    have hs' := (km2 s).mp hs
    obtain ⟨g1, g2, g3, g4, g5⟩ := F.st s hs'
    refine ⟨state_ok g1 g2 g3, fun b hb => ?_⟩
    have hr : aget (restsIn found) s = some (some b) := by
      have hb' : (aget (restsIn found) s).getD none = some b := hb
      rw [restsIn_at F.fo hs'] at hb' ⊢
      exact congrArg some hb'
    obtain ⟨row, C⟩ := (rest_ok F _ (Nat.le_refl _) hs').2 b hr
    exact comp_nn L g1 C
  · rw [List.getElem?_map] at ha hb
    cases qa : ks[i]? with
    | none => rw [qa] at ha; cases ha
    | some x =>
      cases qb : ks[i + 1]? with
      | none => rw [qb] at hb; cases hb
      | some y =>
        rw [qa] at ha
        rw [qb] at hb
        cases ha
        cases hb
        show ltS x y = true
        obtain ⟨ha1, ha2⟩ := List.getElem?_eq_some_iff.mp qa
        obtain ⟨hb1, hb2⟩ := List.getElem?_eq_some_iff.mp qb
        have h1 := (List.pairwise_iff_getElem.mp S) i (i + 1) ha1 hb1 (by omega)
        rw [ha2, hb2, leSt_eq] at h1
        cases z : ltS x y with
        | true => rfl
        | false =>
          exfalso
          have e := ltS_total z (by simpa using h1)
          have := (List.getElem?_inj ha1 kn).mp (qa.trans (by rw [e, qb]))
          omega
  · have hs' := (km2 s).mp hs
    obtain ⟨g1, g2, g3, g4, g5⟩ := F.st s hs'
    refine ⟨g1.len, ?_⟩
    refine ⟨restOf1 found (restsIn found) s, by rw [ag s hs', restsIn_at F.fo hs'], fun he => ?_, fun he w hw => ?_⟩
    · have := rest_end F hs' he
      rw [restsIn_at F.fo hs'] at this
      exact Option.some.inj this
    · obtain ⟨k1, k2⟩ := g5 w hw
      refine ⟨restOf1 found (restsIn found) w.2.2, by rw [ag _ k1, restsIn_at F.fo k1], ?_⟩
      have e := rest_on F hs' he
      rw [restsIn_at F.fo hs'] at e
      have e' := Option.some.inj e
      rw [e']
      have hm : added w.2.1 (restOf1 found (restsIn found) w.2.2) ∈ (waysIn h ships s lat).map fun w => added w.2.1 ((aget (restsIn found) w.2.2).getD none) := List.mem_map.mpr ⟨w, hw, by rw [restsIn_at F.fo k1]; rfl⟩
      cases q : added w.2.1 (restOf1 found (restsIn found) w.2.2) with
      | none => rfl
      | some m =>
        rw [q] at hm
        cases z : least ((waysIn h ships s lat).map fun w => added w.2.1 ((aget (restsIn found) w.2.2).getD none)) with
        | none => exact absurd hm (least_none.mp z m)
        | some b => exact decide_eq_true ((least_some z).2 m hm)
end
end Tk
end

section
namespace Tk
open PySem
/-! ### the facts, all of them -/
theorem facts {h : Hb} {ships : List Sh} (B : BdOk h ships) : LwFacts h ships where
  lw := B.lw
  dp := B.dp
  bt := B.bt
  dr := B.dr
  gok := fun lat hl => gok_of B.lw hl
  one := fun p hp => by
    obtain ⟨⟨h1, h2⟩, _⟩ := plans_bd B.lw p hp
    refine ⟨h1, fun o ho => ?_⟩
    have := h2 o ho
    omega
  cst := fun p hp => (plans_bd B.lw p hp).2
  best := fun l hl => best_of B.lw hl
  cost := fun l hl => leastCost_eq B.lw fun l' e => by cases e; exact hl
  soon := fun l k v _ hk _ c e => soon_of hk e
  free := fun l hl hx => free_of B.lw hl hx
  tbl := fun l hl => tbl_of B.lw fun l' e => by cases e; exact hl
theorem facts_of (script : List Int) : LwFacts (hbOf script) (shsOf script) := facts (bdOk_of script)
end Tk
end

section
namespace Tk
open L2 PyProof.Rows PySem PySem.Spec
/-- the defs that the law calls -/
structure LawDefs (P : Program) (w : World) (K : PySem.W.Frag) (mg : Str → Option Value) (base : Heap) : Prop where
  b : Bn mg
  stream : FdF P w K mg base 2 "_law_stream" ["_law_script"] R_law_stream
  pick : FdP P w K mg base 1 "_law_pick" ["_law_pool_here", "_law_many"] R_law_pick
  harbour : FdP P w K mg base 2 "_law_harbour" ["_law_pool_here", "_law_last"] R_law_harbour
  ships : FdP P w K mg base 2 "_law_ships" ["_law_pool_here", "_law_harbour_here", "_law_many"] R_law_ships
  plans : Fd P w K mg base 3 "_law_plans" ["_law_harbour_here", "_law_ships_here"] R_law_plans
  keeps : Fd P w K mg base 1 "_law_keeps" ["_law_latest", "_law_plan"] R_law_keeps
  least : Fd P w K mg base 1 "_law_least" ["_law_numbers"] R_law_least
  cost : Fd P w K mg base 1 "_law_cost" ["_law_ships_here", "_law_plan"] R_law_cost
  best : FdK P w K mg base 6 "best_plan" ["harbour", "ships", "latest"] R_best_plan
  lcost : FdK P w K mg base 7 "least_cost" ["harbour", "ships", "latest"] R_least_cost
  table : FdK P w K mg base 6 "table_of" ["harbour", "ships", "latest"] R_table_of
  isT : FdK P w K mg base 6 "is_table" ["harbour", "ships", "table", "latest"] R_is_table
theorem latStep_ok (m : Int) : ∀ pl, PoolOk pl → PoolOk (latStep m pl).1 := fun pl h => pk_ok (many := 4) (pk_ok (many := m) h)
theorem dep_all {n : Nat} : ∀ {xs : List PyData}, (∀ x ∈ xs, x.depth ≤ n) → PyData.depthAll xs ≤ n
  | [], _ => Nat.zero_le _
  | x :: xs, h => by
    show max x.depth (PyData.depthAll xs) ≤ n
    have h1 := h x List.mem_cons_self
    have h2 := dep_all (xs := xs) fun y hy => h y (List.mem_cons_of_mem _ hy)
    omega
theorem dep_map {α : Type} {n : Nat} {enc : α → PyData} (h : ∀ a, (enc a).depth ≤ n) (xs : List α) : PyData.depthAll (xs.map enc) ≤ n := dep_all fun x hx => by
  obtain ⟨a, -, rfl⟩ := List.mem_map.mp hx
  exact h a
theorem dep_encO (o : Option Int) : (encO o).depth ≤ 0 := by cases o <;> exact Nat.le_refl _
theorem dep_encH (h : Hb) : (encH h).depth ≤ 2 := by
  show max (PyData.depthAll (h.depths.map .int) + 1) (max (PyData.depthAll (h.berths.map .int) + 1) _) + 1 ≤ 2
  have h1 := dep_map (n := 0) (enc := PyData.int) (fun _ => Nat.le_refl _) h.depths
  have h2 := dep_map (n := 0) (enc := PyData.int) (fun _ => Nat.le_refl _) h.berths
  have h3 : PyData.depthAll [.int h.tugs, .int h.pilots, .int h.last] = 0 := rfl
  rw [h3]
  omega
theorem dep_encLP (p : LPlan) : (encLP p).depth ≤ 2 := by
  show PyData.depthAll (p.map encOne) + 1 ≤ 2
  have h1 := dep_map (n := 1) (enc := encOne) (fun _ => Nat.le_refl _) p
  omega
theorem dep_headD (ps : List LPlan) : (headD ps).depth ≤ 64 := by
  cases ps with
  | nil => exact Nat.zero_le _
  | cons p ps => exact Nat.le_trans (dep_encLP p) (by decide)
theorem line_200k {n : Nat} (h : n ≤ 200000) : n ≤ sizeLine := Nat.le_trans h (by decide)
theorem eqv_str (x : Str) : PyData.eqv (.str x) (.str x) = true := by simp [PyData.eqv]
section
variable {P : Program} {w : World} {K : PySem.W.Frag} {mg : Str → Option Value} {base : Heap} {f : Addr} {cdv : Value} {s : Shared} {H : Hp} {C : Cc} {σ : L2.St} {H1 : Hp} {p : Addr} {L : List Addr}
/-- the end of the law: what is known of the names -/
theorem law_tail (U : LawDefs P w K mg base) {script : List Int} {pool : List Int} {h : Hb} {ships : List Sh} {l : List (Option Int)} (hp : PoolOk pool) (F : LwFacts h ships) (hl : l.length = ships.length) (hv : ∀ v, some v ∈ l → 0 ≤ v ∧ v ≤ 100)
    (hr : Room 11 (lawX P w K mg base N_law "law" s_law f cdv s H).A) (hgd : (lawX P w K mg base N_law "law" s_law f cdv s H).A.guards = some []) (hC : C.n = 16)
    (S : SitX (lawX P w K mg base N_law "law" s_law f cdv s H) C [p] [.py (.list (script.map .int)), .ml p (pool.map .int), .py (encH h), .py (encSs ships), .py (.list (l.map encO)), .any, .any, .any, .any, .any, .any, .any, .any, .any, .any, .any] σ H1) :
    tSs (lawX P w K mg base N_law "law" s_law f cdv s H) ((defBody s_law).drop 4) { nx := fun _ _ => False, rt := fun v _ => v = .bl true } σ H1 := by
  have B := U.b
  have hu := room_u hr
  have ns := F.lw.ns
  obtain ⟨M0, H0, T, Fs, n⟩ := C
  cases hC
  have rep3 : ShN 32000 (.tuple [encH h, encSs ships, .list (l.map encO)]) := by
    have h1 := F.shH
    have h2 := F.shS
    have h3 := shN_lat (by omega) hv
    have e := shN_all (n := 0) (xs := []) (fun x hx => absurd hx List.not_mem_nil)
    refine ⟨?_, ?_, ?_, ?_⟩
    · show (PyData.showable _ && (PyData.showable _ && (PyData.showable _ && true))) = true
      rw [h1.1, h2.1, h3.1]; rfl
    · show (PyData.hasDict _ || (PyData.hasDict _ || (PyData.hasDict _ || false))) = false
      rw [h1.2.1, h2.2.1, h3.2.1]; rfl
    · show (PyData.leavesShort 13 _ && (PyData.leavesShort 13 _ && (PyData.leavesShort 13 _ && true))) = true
      rw [h1.2.2.1, h2.2.2.1, h3.2.2.1]; rfl
    · show PyData.weight _ + 1 + (PyData.weight _ + 1 + (PyData.weight _ + 1 + 0)) ≤ _
      have := h1.2.2.2
      have := h2.2.2.2
      have := h3.2.2.2
      omega
  have dep3 : (PyData.tuple [encH h, encSs ships, .list (l.map encO)]).depth ≤ 64 := by
    show max _ (max (PyData.depthAll (ships.map encS) + 1) (max (PyData.depthAll (l.map encO) + 1) 0)) + 1 ≤ 64
    have h1 := dep_encH h
    have h2 := dep_map (n := 1) (enc := encS) (fun _ => Nat.le_refl _) ships
    have h3 := dep_map dep_encO l
    omega
  have shp : ∀ s ∈ ships, 0 ≤ s.sea ∧ s.sea ≤ 9 ∧ 0 ≤ s.lie ∧ s.lie ≤ 9 := fun s hs => by have := F.lw.sh s hs; omega
  have pok : PlansOk ships.length (plans h ships) := plans_ok fun sh hs => by
    have h1 := F.lw.sh sh hs
    exact options_len h sh h1.1 (by omega) F.lw.la.2 F.lw.nb
  have pln : (plans h ships).length ≤ 200000 := by
    have h1 := pok.1
    have h2 : 338 ^ ships.length ≤ 338 ^ 2 := Nat.pow_le_pow_right (by decide) ns.2
    have h3 : 338 ^ 2 = 114244 := by decide
    omega
  have ktl : (kept h ships l).length ≤ 200000 := Nat.le_trans (List.length_filter_le _ _) pln
  have ktm : ∀ p ∈ kept h ships l, p.length = ships.length := fun p hp => pok.2 p (List.mem_filter.mp hp).1
  have lok : LatOk (some l) ships.length := fun l' e => by cases e; exact hl
  refine go_cons (go_set 5 S (ev_repr B.repr hgd hu (ev_tup (ds := [_, _, _]) (ea_cons (ev_var 2) (ea_cons (ev_var 3) (ea_one (ev_var 4) rfl)))) rep3 (.inr (.inr (.inr ⟨_, rfl⟩))) (by decide) dep3) (fun σ5 H5 S5 => ?_) sc_law.nd)
  refine go_cons (go_setLc 6 S5 (lc_P (own := [("_law_plan", 15)]) (plans h ships) encLP (keeps (some l)) encLP (it_list (ev_cl U.plans hr (ea_cons (ev_var 2) (ea_one (ev_var 3) rfl)) ⟨h, ships, rfl, F.lw, rfl⟩)) (blkOk_by (sc := defScope s_law) (N := N_law) (by decide +kernel)) (own_lt rfl) (line_200k (by omega)) rfl fun φ q ds x hx => ?_) (fun σ6 H6 S6 => ?_) rfl sc_law.nd (sw_true rfl rfl rfl rfl))
  · exact ⟨[15], _, by decide, rfl, fun s H0 Ca cl fp => bd_name 15 sc_law.nd, fun s H0 Ca cl fp => ets_one (et_val (ev_cl U.keeps hr (ea_cons (ev_var 4) (ea_one (ev_var 15) rfl)) ⟨some l, ships.length, x, rfl, lok, pok.2 x hx, ns.2, rfl⟩)), fun _ s H0 Ca cl fp => ev_var 15⟩
  refine go_cons (go_set 7 S6 (ev_cl U.least hr (ea_one (ev_cast (d' := .list (((kept h ships l).map fun p => some (planCost ships p)).map encO)) (ev_F (ev_lcP (own := [("_law_plan", 15)]) (kept h ships l) encLP (fun _ => true) (fun p => .int (planCost ships p)) rfl sc_law.nd (it_list (ev_var 6)) (blkOk_by (sc := defScope s_law) (N := N_law) (by decide +kernel)) (own_lt rfl) (line_200k (by omega)) rfl fun φ q ds x hx => ?_)) ?_) rfl) ⟨_, rfl, by rw [List.length_map]; omega, rfl⟩) (fun σ7 H7 S7 => ?_) sc_law.nd)
  · exact ⟨[15], _, by decide, rfl, fun s H0 Ca cl fp => bd_name 15 sc_law.nd, fun s H0 Ca cl fp => ets_nil, fun _ s H0 Ca cl fp => ev_cl U.cost hr (ea_cons (ev_var 3) (ea_one (ev_var 15) rfl)) ⟨ships, x, rfl, ns.2, ktm x hx, shp, rfl⟩⟩
  · rw [List.filter_eq_self.mpr (fun _ _ => rfl), List.map_map]
    rfl
  rw [show least ((kept h ships l).map fun p => some (planCost ships p)) = lstOf h ships l from rfl] at S7
  refine go_cons (go_setLc 8 S7 (lc_P (own := [("_law_plan", 15)]) (kept h ships l) encLP (fun p => decide (some (planCost ships p) = lstOf h ships l)) encLP (it_list (ev_var 6)) (blkOk_by (sc := defScope s_law) (N := N_law) (by decide +kernel)) (own_lt rfl) (line_200k (by omega)) rfl fun φ q ds x hx => ?_) (fun σ8 H8 S8 => ?_) rfl sc_law.nd (sw_true rfl rfl rfl rfl))
  · exact ⟨[15], _, by decide, rfl, fun s H0 Ca cl fp => bd_name 15 sc_law.nd, fun s H0 Ca cl fp => ets_one (et_eq hu (ev_cl U.cost hr (ea_cons (ev_var 3) (ea_one (ev_var 15) rfl)) ⟨ships, x, rfl, ns.2, ktm x hx, shp, rfl⟩) (ev_var 7) (eqv_encO (some (planCost ships x)) (lstOf h ships l)) (Nat.le_trans (Nat.min_le_left _ _) (Nat.zero_le _))), fun _ s H0 Ca cl fp => ev_var 15⟩
  rw [show (kept h ships l).filter (fun p => decide (some (planCost ships p) = lstOf h ships l)) = due h ships l from rfl] at S8
  have hnx : ((due h ships l).map encLP ++ [PyData.none])[0]? = some (headD (due h ships l)) := by
    cases due h ships l <;> rfl
  have dul : (due h ships l).length ≤ 200000 := Nat.le_trans (List.length_filter_le _ _) ktl
  refine go_cons (go_if S8 (k := false) (et_ne hu (ev_repr B.repr hgd hu (ev_cast (ev_clK U.best hr (ea_cons (ev_var 2) (ea_one (ev_var 3) rfl)) (ev_var 4) ⟨h, ships, some l, rfl, F.gok _ lok, rfl⟩) (F.best l hl)) (F.shD l) (headD_kind _) (by decide) (dep_headD _))
    (ev_repr B.repr hgd hu (ev_ixL (j := 0) (ev_cat (ev_var 8) (ev_lst (ds := [.none]) (ea_one ev_none rfl)) (Nat.le_trans (show _ ≤ 200001 by rw [List.length_map]; simp; omega) (by decide))) ev_int rfl hnx) (F.shD l) (headD_kind _) (by decide) (dep_headD _)) (by rw [eqv_str]; rfl)) (fun hk => Bool.noConfusion hk) fun _ H9 S9 => ?_)
  refine go_nil ?_
  refine go_cons (go_if S9 (k := false) (et_ne hu (ev_repr B.repr hgd hu (ev_cast (ev_clK U.lcost hr (ea_cons (ev_var 2) (ea_one (ev_var 3) rfl)) (ev_var 4) ⟨h, ships, some l, rfl, F.gok _ lok, rfl⟩) (by rw [F.cost l hl])) (F.shL l) (encO_kind _) (by decide) (Nat.le_trans (dep_encO _) (by decide)))
    (ev_repr B.repr hgd hu (ev_var 7) (F.shL l) (encO_kind _) (by decide) (Nat.le_trans (dep_encO _) (by decide))) (by rw [eqv_str]; rfl)) (fun hk => Bool.noConfusion hk) fun _ H10 S10 => ?_)
  refine go_nil ?_
  have kb := pk_bd (pool := pool) (many := ((ships.length : Nat) : Int)) (by omega)
  refine go_cons (go_set 9 S10 (ev_pick 1 U.pick hr (ev_cast (ev_len B.len (ev_var 3)) (by rw [List.length_map])) ⟨_, rfl⟩ rfl (by simp) hp (by omega)) (fun σ11 H11 S11 => ?_) sc_law.nd)
  obtain ⟨kn, hkn⟩ : ∃ kn : Nat, (pk ((ships.length : Nat) : Int) pool).2 = ((kn : Nat) : Int) := ⟨_, (Int.toNat_of_nonneg kb.1).symm⟩
  rw [hkn] at S11 kb
  generalize (pk ((ships.length : Nat) : Int) pool).1 = pool' at S11
  have knl : kn < l.length := by omega
  have hlk : l[kn]? = some l[kn] := List.getElem?_eq_getElem knl
  generalize l[kn] = o at hlk
  have hek : (l.map encO)[kn]? = some (encO o) := by rw [List.getElem?_map, hlk]; rfl
  have nxt : ∀ σ2 H2, SitX (lawX P w K mg base N_law "law" s_law f cdv s H) ⟨M0, H0, T, Fs, 16⟩ [p] [.py (.list (script.map .int)), .ml p (pool'.map .int), .py (encH h), .py (encSs ships), .py (.list (l.map encO)), .py (.str (PyData.shown (.tuple [encH h, encSs ships, .list (l.map encO)]))), .any, .py (encO (lstOf h ships l)), .any, .any, .any, .any, .any, .any, .any, .any] σ2 H2 →
      tSs (lawX P w K mg base N_law "law" s_law f cdv s H) ((defBody s_law).drop 12) { nx := fun _ _ => False, rt := fun v _ => v = .bl true } σ2 H2 := by
    intro σ2 H2 S12
    refine go_cons (go_setLc 11 S12 (lc_P (own := [("_law_ship", 14)]) ships encS (fun _ => true) (fun _ => .none) (it_list (ev_var 3)) (blkOk_by (sc := defScope s_law) (N := N_law) (by decide +kernel)) (own_lt rfl) (line_200k (by omega)) rfl fun φ q ds x hx => ?_) (fun σ13 H13 S13 => ?_) rfl sc_law.nd (sw_true rfl rfl rfl rfl))
    · exact ⟨[14], _, by decide, rfl, fun s H0 Ca cl fp => bd_name 14 sc_law.nd, fun s H0 Ca cl fp => ets_nil, fun _ s H0 Ca cl fp => ev_none⟩
    rw [show ((ships.filter fun _ => true).map fun _ => PyData.none) = (ships.map fun _ => (none : Option Int)).map encO by rw [List.filter_eq_self.mpr (fun _ _ => rfl), List.map_map]; rfl] at S13
    refine go_cons (go_set 12 S13 (ev_cl0 U.lcost hr (ea_cons (ev_var 2) (ea_one (ev_var 3) rfl)) ⟨h, ships, none, rfl, F.gok _ (fun _ e => by cases e), rfl⟩) (fun σ14 H14 S14 => ?_) sc_law.nd)
    refine go_cons (go_fold [13] [ships.map fun _ => (none : Option Int), ships.map fun _ => some 100] (fun l' => PyData.list (l'.map encO)) (fun (u : Unit) _ => u) () (fun _ => [.py (.list (script.map .int)), .ml p (pool'.map .int), .py (encH h), .py (encSs ships), .py (.list (l.map encO)), .py (.str (PyData.shown (.tuple [encH h, encSs ships, .list (l.map encO)]))), .any, .any, .any, .any, .any, .any, .py (encO (leastCost h ships none)), .any, .any, .any]) (fun _ _ => True) S14 PassesOwn.never rfl
      (it_list (ev_lst (ds := [_, _]) (ea_cons (ev_var 11) (ea_one (ev_cast (d' := .list ((ships.map fun _ => some 100).map encO)) (ev_F (ev_lcP (own := [("_law_ship", 14)]) ships encS (fun _ => true) (fun _ => .int 100) rfl sc_law.nd (it_list (ev_var 3)) (blkOk_by (sc := defScope s_law) (N := N_law) (by decide +kernel)) (own_lt rfl) (line_200k (by omega)) rfl fun φ q ds x hx => ?_)) ?_) rfl)))) (fun σ H S => ?_) trivial (fun φ i l' u σ' H' hx hb' hP S15 => ?_) (fun σ' H' _ S15 => ?_))
    · exact ⟨[14], _, by decide, rfl, fun s H0 Ca cl fp => bd_name 14 sc_law.nd, fun s H0 Ca cl fp => ets_nil, fun _ s H0 Ca cl fp => ev_int⟩
    · rw [List.filter_eq_self.mpr (fun _ _ => rfl), List.map_map]
      rfl
    · exact (((S.forget 7).forget 11))
    · have hl' : l'.length = ships.length ∧ ((∀ x ∈ l', x = none) ∨ ∀ x ∈ l', x = some 100) := by
        have hm := List.mem_of_getElem? hx
        simp only [List.not_mem_nil, or_false, List.mem_cons] at hm
        rcases hm with rfl | rfl
        · refine ⟨List.length_map _, .inl fun x hx => ?_⟩
          obtain ⟨_, _, rfl⟩ := List.mem_map.mp hx
          rfl
        · refine ⟨List.length_map _, .inr fun x hx => ?_⟩
          obtain ⟨_, _, rfl⟩ := List.mem_map.mp hx
          rfl
      have e1 : leastCost h ships (some l') = leastCost h ships none := by rw [F.cost l' hl'.1, F.free l' hl'.1 hl'.2]
      refine ⟨_, bd_name 13 sc_law.nd, fun σ16 H16 S16 => ?_⟩
      refine go_one (go_if S16 (k := false) (et_ne hu (ev_cast (ev_clK U.lcost hr (ea_cons (ev_var 2) (ea_one (ev_var 3) rfl)) (ev_var 13) ⟨h, ships, some l', rfl, F.gok _ (fun l2 e => by cases e; exact hl'.1), rfl⟩) (by rw [e1])) (ev_var 12) (by rw [eqv_encO]; simp) (Nat.le_trans (Nat.min_le_left _ _) (Nat.le_trans (dep_encO _) (by decide)))) (fun hk => Bool.noConfusion hk) fun _ H17 S17 => ?_)
      exact go_nil ⟨trivial, S17.forget 13⟩
    · obtain ⟨t1, t2, t3, t4, t5⟩ := F.tbl l hl
      refine go_cons (go_if S15 (k := false) (et_cast (et_isnotB (k1 := true) (k2 := true) (ev_clK U.isT hr (ea_cons (ev_var 2) (ea_cons (ev_var 3) (ea_one (ev_clK U.table hr (ea_cons (ev_var 2) (ea_one (ev_var 3) rfl)) (ev_var 4) ⟨h, ships, some l, rfl, F.gok _ lok, rfl⟩) rfl))) (ev_var 4) ⟨h, ships, tableOf h ships (some l), some l, rfl, F.lw.hb, lok, ns.2, t2, t1, t3, t4, t5, rfl⟩) ev_bool) rfl) (fun hk => Bool.noConfusion hk) fun _ H16 S16 => ?_)
      refine go_nil ?_
      refine go_one (go_ret S16 (ev_eqK hu (ev_repr B.repr hgd hu (ev_tup (ds := [_, _, _]) (ea_cons (ev_var 2) (ea_cons (ev_var 3) (ea_one (ev_var 4) rfl)))) rep3 (.inr (.inr (.inr ⟨_, rfl⟩))) (by decide) dep3) (ev_var 5) (eqv_str _)) fun v H17 S17 r => dp_bool r)
  have S12 := (((S11.forget 6).forget 8).forget 10)
  cases o with
  | none =>
    refine go_cons (go_if S12 (k := false) (et_cast (et_and (k1 := false) (k2 := false) (et_notN (ev_ixL (j := kn) (ev_var 4) (ev_var 9) rfl hek) rfl) (fun h => Bool.noConfusion h)) rfl) (fun hk => Bool.noConfusion hk) fun _ H13 S13 => ?_)
    exact go_nil (nxt _ _ (S13.forget 9))
  | some v =>
    refine go_cons (go_ifJ (k := decide (0 < v)) [.py (.list (script.map .int)), .ml p (pool'.map .int), .py (encH h), .py (encSs ships), .py (.list (l.map encO)), .py (.str (PyData.shown (.tuple [encH h, encSs ships, .list (l.map encO)]))), .any, .py (encO (lstOf h ships l)), .any, .any, .any, .any, .any, .any, .any, .any] S12 (et_cast (et_and (k1 := true) (k2 := decide (0 < v)) (et_notN (ev_ixL (j := kn) (ev_var 4) (ev_var 9) rfl hek) rfl) (fun _ => et_gt (ev_ixL (d := .int v) (j := kn) (ev_var 4) (ev_var 9) rfl hek) ev_int)) rfl) (fun hk H13 S13 => ?_) (fun hk H13 S13 => ?_) fun σ2 H2 S2 => nxt σ2 H2 S2)
    · have hv0 : 0 < v := of_decide_eq_true hk
      have e1 : ((l.map encO).take kn ++ [PyData.int (v - 1)]) ++ (l.map encO).drop (kn + 1) = (l.set kn (some (v - 1))).map encO := by
        rw [List.set_eq_take_append_cons_drop, if_pos knl, List.map_append, List.map_cons, List.map_take, List.map_drop, List.append_assoc]
        rfl
      have hl2 : (l.set kn (some (v - 1))).length = ships.length := by rw [List.length_set]; exact hl
      have zl : (l.map encO).length ≤ 2 := by rw [List.length_map]; omega
      refine go_cons (go_set 10 S13 (ev_clK U.lcost hr (ea_cons (ev_var 2) (ea_one (ev_var 3) rfl)) (ev_cast (ev_cat (ev_cat (ev_sliceTo (ev_var 4) (ev_var 9)) (ev_lst (ds := [_]) (ea_one (ev_sub (ev_ixL (d := .int v) (j := kn) (ev_var 4) (ev_var 9) rfl hek) ev_int) rfl)) ?_) (ev_sliceFrom (k := kn + 1) (ev_var 4) (ev_cast (ev_add (i := ((kn : Nat) : Int)) (j := 1) (ev_var 9) ev_int) (congrArg PyData.int (by omega)))) ?_) (congrArg PyData.list e1)) ⟨h, ships, some (l.set kn (some (v - 1))), rfl, F.gok _ (fun l3 e => by cases e; exact hl2), rfl⟩) (fun σ14 H14 S14 => ?_) sc_law.nd)
      · exact line_200k (by rw [List.length_take]; simp; omega)
      · exact line_200k (by rw [List.length_append, List.length_take, List.length_drop]; simp; omega)
      rw [show leastCost h ships (some (l.set kn (some (v - 1)))) = lstOf h ships (l.set kn (some (v - 1))) from F.cost _ hl2] at S14
      have hs := F.soon l kn v hl hlk hv0
      have fin : ∀ H15, SitX (lawX P w K mg base N_law "law" s_law f cdv s H) ⟨M0, H0, T, Fs, 16⟩ [p] [.py (.list (script.map .int)), .ml p (pool'.map .int), .py (encH h), .py (encSs ships), .py (.list (l.map encO)), .py (.str (PyData.shown (.tuple [encH h, encSs ships, .list (l.map encO)]))), .any, .py (encO (lstOf h ships l)), .any, .py (.int ((kn : Nat) : Int)), .py (encO (lstOf h ships (l.set kn (some (v - 1))))), .any, .any, .any, .any, .any] σ14 H15 → SitX (lawX P w K mg base N_law "law" s_law f cdv s H) ⟨M0, H0, T, Fs, 16⟩ [p] [.py (.list (script.map .int)), .ml p (pool'.map .int), .py (encH h), .py (encSs ships), .py (.list (l.map encO)), .py (.str (PyData.shown (.tuple [encH h, encSs ships, .list (l.map encO)]))), .any, .py (encO (lstOf h ships l)), .any, .any, .any, .any, .any, .any, .any, .any] σ14 H15 := fun H15 S15 => (S15.forget 9).forget 10
      generalize lstOf h ships (l.set kn (some (v - 1))) = so at S14 hs fin
      generalize lstOf h ships l = lo at S14 hs fin
      cases lo with
      | none =>
        cases so with
        | some c => obtain ⟨c0, z, _⟩ := hs c rfl; cases z
        | none =>
          exact go_one (go_if S14 (k := false) (et_cast (et_or (k1 := false) (k2 := false) (et_cast (et_and (k1 := true) (k2 := false) (et_isN (ev_var 7) rfl) fun _ => et_notN (ev_var 10) rfl) rfl) fun _ => et_cast (et_and3 (k1 := false) (k2 := false) (k3 := false) (et_notN (ev_var 7) rfl) (fun h => Bool.noConfusion h) fun h => Bool.noConfusion h) rfl) rfl) (fun hk => Bool.noConfusion hk) fun _ H15 S15 => go_nil (fin _ S15))
      | some c0 =>
        cases so with
        | none =>
          exact go_one (go_if S14 (k := false) (et_cast (et_or (k1 := false) (k2 := false) (et_cast (et_and (k1 := false) (k2 := false) (et_isN (ev_var 7) rfl) fun h => Bool.noConfusion h) rfl) fun _ => et_cast (et_and3 (k1 := true) (k2 := false) (k3 := false) (et_notN (ev_var 7) rfl) (fun _ => et_notN (ev_var 10) rfl) fun _ h => Bool.noConfusion h) rfl) rfl) (fun hk => Bool.noConfusion hk) fun _ H15 S15 => go_nil (fin _ S15))
        | some c =>
          obtain ⟨c1, z, hle⟩ := hs c rfl
          cases z
          have hf : decide (c < c0) = false := decide_eq_false (by omega)
          exact go_one (go_if S14 (k := false) (et_cast (et_or (k1 := false) (k2 := false) (et_cast (et_and (k1 := false) (k2 := false) (et_isN (ev_var 7) rfl) fun h => Bool.noConfusion h) rfl) fun _ => et_cast (et_and3 (k1 := true) (k2 := true) (k3 := decide (c < c0)) (et_notN (ev_var 7) rfl) (fun _ => et_notN (ev_var 10) rfl) fun _ _ => et_lt (i := c) (j := c0) (ev_var 10) (ev_var 7)) (by rw [hf]; rfl)) rfl) (fun hk => Bool.noConfusion hk) fun _ H15 S15 => go_nil (fin _ S15))
    · exact go_nil (S13.forget 9)
end
end Tk
end

section
namespace Tk
open L2 PyProof.Rows PySem PySem.Spec
theorem maxI_nn {ns : List Int} (h : ∀ n ∈ ns, 0 ≤ n) (hn : 0 < ns.length) : 0 ≤ maxI ns := by
  unfold maxI
  cases ns with
  | nil => cases hn
  | cons n ns =>
    rcases foldl_max_mem (n :: ns) n with e | e
    · show 0 ≤ (n :: ns).foldl max n
      rw [e]; exact h n List.mem_cons_self
    · exact h _ e
theorem latOf_mem {m : Int} (hm : 0 < m) {pool : List Int} (hp : PoolOk pool) (n : Nat) : ∀ v, some v ∈ (itP (latStep m) n pool).2 → 0 ≤ v ∧ v < m := by
  have := itP_mem (step := latStep m) (latStep_ok m) (Q := fun o => ∀ v, o = some v → 0 ≤ v ∧ v < m) (fun pl hpl v e => by
    unfold latStep at e
    simp only at e
    split at e
    · cases e
      exact pk_bd hm
    · cases e) hp n
  exact fun v hv => this _ hv v rfl
theorem getD_opt (v c : Int) (hc : 0 ≤ c) : ([PyData.none, PyData.int v] : List PyData)[if decide (0 < c) = true then 1 else 0]? = some (encO (if 0 < c then some v else none)) := by
  by_cases h : 0 < c
  · rw [if_pos (decide_eq_true h), if_pos h]; rfl
  · rw [if_neg (by rw [decide_eq_false h]; exact Bool.false_ne_true), if_neg h]; rfl
theorem depths_ok {pool : List Int} (h : PoolOk pool) : PoolOk (depths1 pool).1 :=
  itP_ok (step := depStep (moreOf1 pool).2) (fun pl h => pk_ok (many := 13) h) (show PoolOk (manyOf (moreOf1 pool).1).1 from pk_ok (pk_ok (many := 4) (pk_ok (many := 4) h))) _
theorem berths_ok {pool : List Int} (h : PoolOk pool) : PoolOk (berths1 pool).1 :=
  itP_ok (step := berStep) (fun pl h => pk_ok (many := 7) h) (pk_ok h) _
theorem harbourM_ok {pool : List Int} (last : Int) (h : PoolOk pool) : PoolOk (harbourM pool last).1 :=
  pk_ok (many := 5) (pk_ok (many := 3) (pk_ok (many := 7) (berths_ok (depths_ok h))))
section
variable {P : Program} {w : World} {K : PySem.W.Frag} {mg : Str → Option Value} {base : Heap} {f : Addr} {cdv : Value} {s : Shared} {H : Hp}
theorem law_body (U : LawDefs P w K mg base) {script : List Int} {a : Addr} (hsc : script.length ≤ 1000) (F : LwFacts (hbOf script) (shsOf script)) (hr : Room 11 (lawX P w K mg base N_law "law" s_law f cdv s H).A) (hgd : (lawX P w K mg base N_law "law" s_law f cdv s H).A.guards = some []) (ha : SqL K H a (script.map V.int)) :
    tSs (lawX P w K mg base N_law "law" s_law f cdv s H) (defBody s_law) { nx := fun _ _ => False, rt := fun v _ => v = .bl true } (L2.start N_law [.ref a]) H := by
  have B := U.b
  have hu := room_u hr
  have rp : Paired (RepX K P w (off H [])) [V.ref a] [Dt.py (.list (script.map .int))] := by
    refine .cons ?_ .nil
    show Dp K (off H []) (.ref a) _
    rw [off_nil]
    exact .lst ha (DpAll.of_ints _)
  have S0 : SitX (lawX P w K mg base N_law "law" s_law f cdv s H) ⟨[], H, [], [], N_law.length⟩ [] ([Dt.py (.list (script.map .int))].map Slot.val ++ List.replicate (N_law.length - 1) .any) (L2.start N_law [.ref a]) H := sit_start (fun p hp => absurd hp List.not_mem_nil) rp (Nat.le_of_ble_eq_true rfl)
  have S : SitX (lawX P w K mg base N_law "law" s_law f cdv s H) ⟨[], H, [], [], 16⟩ [] [.py (.list (script.map .int)), .any, .any, .any, .any, .any, .any, .any, .any, .any, .any, .any, .any, .any, .any, .any] (L2.start N_law [.ref a]) H := S0
  clear S0
  have q0 : PoolOk (pool0 script) := lawPool_ok script
  refine go_cons (go_setF 1 U.stream hr S (ea_one (ev_var 0) rfl) ⟨script, rfl, hsc, rfl⟩ (by decide) (fun p σ1 H1 S1 => ?_) sc_law.nd)
  refine go_cons (go_set 2 S1 (ev_clP 1 U.harbour hr (ea_one ev_int rfl) ⟨_, rfl⟩ rfl (by simp) ⟨12, rfl, q0, rfl, rfl⟩) (fun σ2 H2 S2 => ?_) sc_law.nd)
  have q1 : PoolOk (pool1 script) := harbourM_ok 12 q0
  have S3 : SitX (lawX P w K mg base N_law "law" s_law f cdv s H) ⟨[], H, [], [], 16⟩ [p] [.py (.list (script.map .int)), .ml p ((pool1 script).map .int), .py (encH (hbOf script)), .any, .any, .any, .any, .any, .any, .any, .any, .any, .any, .any, .any, .any] σ2 H2 := S2
  clear S2
  have b1 := pk_bd (pool := pool1 script) (many := 2) (by decide)
  have hmany : ((many1 script : Nat) : Int) = 1 + (pk 2 (pool1 script)).2 := Int.toNat_of_nonneg (by omega)
  have hmx : 0 ≤ maxI (hbOf script).depths := maxI_nn (fun d hd => (F.dp d hd).1) F.lw.hb.1
  have q2 : PoolOk (pool2 script) := pk_ok q1
  refine go_cons (go_set 3 S3 (ev_clP 1 U.ships hr (ea_cons (ev_var 2) (ea_one (ev_cast (d' := .int ((many1 script : Nat) : Int)) (ev_add ev_int (ev_pick 1 U.pick hr ev_int ⟨_, rfl⟩ rfl (by simp) q1 (by decide))) (by rw [hmany])) rfl)) ⟨_, rfl⟩ rfl (by simp) ⟨hbOf script, many1 script, rfl, q2, F.lw.hb, hmx, by omega, rfl, rfl⟩) (fun σ4 H4 S4 => ?_) sc_law.nd)
  have q3 : PoolOk (pool3 script) := itP_ok (step := shipM (maxI (hbOf script).depths)) (fun pl h => shipM_ok hmx h) q2 _
  have S5 : SitX (lawX P w K mg base N_law "law" s_law f cdv s H) ⟨[], H, [], [], 16⟩ [p] [.py (.list (script.map .int)), .ml p ((pool3 script).map .int), .py (encH (hbOf script)), .py (encSs (shsOf script)), .any, .any, .any, .any, .any, .any, .any, .any, .any, .any, .any, .any] σ4 H4 := S4
  clear S4
  have la := F.lw.la
  have hns := F.lw.ns
  refine go_cons (go_set 4 S5 (ev_F (ev_lcF rfl sc_law.nd (lc_pool (own := [("_law_ship", 14)]) encO ((shsOf script).map encS) (fun pl => [.py (.list (script.map .int)), .ml p (pl.map .int), .py (encH (hbOf script)), .py (encSs (shsOf script)), .any, .any, .any, .any, .any, .any, .any, .any, .any, .any, .any, .any]) (latStep ((hbOf script).last + 3)) (pool := pool3 script) (it_list (ev_var 3))
    (blkOk_by (sc := defScope s_law) (N := N_law) (by decide +kernel)) (own_lt rfl) (line_200k (by rw [List.length_map]; omega)) q3 (latStep_ok _) (fun pl => rfl) (fun pl v hv => by rw [List.mem_singleton.mp hv]; rfl) fun φ q ds pl x hpl hx => ?_))) (fun σ6 H6 S6 => ?_) sc_law.nd)
  · have c1 := pk_bd (pool := (pk ((hbOf script).last + 3) pl).1) (many := 4) (by decide)
    refine ⟨[14], _, _, by decide, ?_, fun s H0 Ca cl fp => bd_name 14 sc_law.nd, fun s H0 Ca cl fp => ev_ixL (j := if decide (0 < (pk 4 (pk ((hbOf script).last + 3) pl).1).2) = true then 1 else 0) (ev_lst (ds := [_, _]) (ea_cons ev_none (ea_one (ev_pick 1 U.pick hr (ev_add (ev_ixT (j := 4) (ev_var 2) ev_int rfl rfl) ev_int) ⟨_, rfl⟩ rfl (by simp) hpl (by omega)) rfl))) (ev_intB B.int (ev_gt (ev_pick 1 U.pick hr ev_int ⟨_, rfl⟩ rfl (by simp) (pk_ok hpl) (by decide)) ev_int)) (by split <;> rfl) (getD_opt _ _ c1.1)⟩
    rfl
  · rw [List.length_map] at S6
    have hv := latOf_mem (m := (hbOf script).last + 3) (by omega) q3 (shsOf script).length
    exact law_tail U (pool := pool4 script) (l := latOf script) (itP_ok (latStep_ok _) q3 _) F (itP_len _ _ _) (fun v h => by have := hv v h; omega) hr hgd rfl S6
end
end Tk
end

section
namespace Tk
open L2 PyProof.Rows PySem PySem.Spec
/-- how the call of the law ends, seen from the heap it began with -/
def GoneWell (P : Program) (w : World) (s : Shared) (H : Hp) (r : Except Value Flow) (s' : Shared) : Prop :=
  r = .ok (.ret (.bool true)) ∧ ∃ H', s'.os = s.os ∧ AllBare s'.gens ∧ Un (frs []) [] H H' s.heap s'.heap ∧ HOk P w H' s'.heap
/-- the script's object -/
abbrev scrO (vs : List Value) : Obj := { cls := .type "list", data := .seq vs.toArray }
/-- the heap in which the script alone is known -/
def scrH (a : Addr) (vs : List Value) (ns : List Int) : Hp := fun b => if b = a then some (.frz (scrO vs) (.lst (ns.map V.int))) else none
theorem scrH_old {P : Program} {w : World} {a : Addr} {vs : List Value} {ns : List Int} {H : Hp} (hH : H = (fun _ => none) ∨ H = scrH a vs ns) (b : Addr) : H b = none ∨ ∃ o xs, H b = some (.frz o (.lst xs)) := by
  rcases hH with rfl | rfl
  · exact .inl rfl
  · by_cases z : b = a
    · exact .inr ⟨_, _, if_pos z⟩
    · exact .inl (if_neg z)
section
variable {P : Program} {w : World} {K : PySem.W.Frag} {mg mb : Str → Option Value} {fa a : Addr} {s₁ : Shared} {vs : List Value} {ns : List Int}
theorem law_here (kin : K.In s₁.heap) (nsG : s₁.heap.Ns mainGlobals mg) (nsB : s₁.heap.Ns builtinsNs mb) (bl : ∀ x : Str, x ≠ "__name__" → mb x = bootBuiltins x) (lim : s₁.heap.NoLimit) (gens : s₁.gens = #[])
    (obj : s₁.heap.get? a = some (scrO vs)) (its : IntsAre vs ns) (len : ns.length ≤ sizeLine)
    (go : ∀ (base : Heap) (H : Hp), Env0 P w K mg base callerA [] s₁ H → SqL K H a (ns.map V.int) → codeAny (model P w) callerA (.call (.ref fa) ⟨[.ref a], []⟩) (GoneWell P w s₁ H) s₁) :
    codeAny (model P w) callerA (.call (.ref fa) ⟨[.ref a], []⟩) (fun r t => r = .ok (.ret (.bool true)) ∧ OldK s₁.heap t.heap ∧ t.os = s₁.os ∧ AllBare t.gens) s₁ := by
  have vi := vals_ints its
  have main : ∀ H : Hp, (H = (fun _ => none) ∨ H = scrH a vs ns) → SqL K H a (ns.map V.int) → HOk P w H s₁.heap → (H a ≠ none → K.lookup a = none) → codeAny (model P w) callerA (.call (.ref fa) ⟨[.ref a], []⟩) (fun r s' => r = .ok (.ret (.bool true)) ∧ OldK s₁.heap s'.heap ∧ s'.os = s₁.os ∧ AllBare s'.gens) s₁ := by
    intro H hH seq ok free
    have only : ∀ b, H b ≠ none → b = a := fun b nb => by
      rcases hH with rfl | rfl
      · exact absurd rfl nb
      · by_cases z : b = a
        · exact z
        · exact absurd (if_neg z) nb
    have stays : ∀ {b : Addr} {o : Obj}, s₁.heap.get? b = some o → (∀ vs, o.data = .seq vs 0 → False) ∨ H b = none → (hidT s₁.heap H).get? b = some o := fun {b o} e h => by
      refine hidT_get e ?_
      rcases h with h | h
      · cases q : H b with
        | none => rfl
        | some u =>
          have z := only b (by rw [q]; exact Option.some_ne_none _)
          subst z
          rw [obj] at e
          cases e
          exact (h vs.toArray rfl).elim
      · exact h
    have nsT : ∀ {b : Addr} {m : Str → Option Value}, s₁.heap.Ns b m → (hidT s₁.heap H).Ns b m := fun {b m} ⟨o, es, ep, e, d, r⟩ => ⟨o, es, ep, stays e (.inl fun _ z => by rw [d] at z; cases z), d, r⟩
    have kinT : K.In (hidT s₁.heap H) := fun b o e => stays (kin b o e) (.inr (by
      cases q : H b with
      | none => rfl
      | some u =>
        have z := only b (by rw [q]; exact Option.some_ne_none _)
        subst z
        rw [free (by rw [q]; exact Option.some_ne_none _)] at e
        cases e))
    have mod : Mod K mg (hidT s₁.heap H) := ⟨kinT, nsT nsG, ⟨mb, nsT nsB, bl⟩, let ⟨mc, h1, h2⟩ := lim; ⟨mc, nsT h1, h2⟩⟩
    have e0 : Env0 P w K mg (hidT s₁.heap H) callerA [] s₁ H := ⟨rfl, mod, fun b o e => of_hidT e, Nat.le_of_eq (hidT_size _ _), trivial, (fun b hb => absurd (show b ∈ ([] : List Addr) from hb) List.not_mem_nil), ok, .of_eq gens⟩
    refine codeAny_mono (go _ H e0 seq) fun r s' h => ?_
    obtain ⟨h1, H', os, bare, un, ok'⟩ := h
    refine ⟨h1, OldK.of_keep fun b o e => ?_, os, bare⟩
    rcases scrH_old (P := P) (w := w) hH b with z | ⟨o1, xs, z⟩
    · exact un.keep b o e z (fun m => absurd (show b ∈ ([] : List Addr) from m) List.not_mem_nil) List.not_mem_nil
    · have z2 := un.frzs b o1 _ z
      have k1 := (ok b _ z).1
      have k2 := (ok' b _ z2).1
      rw [e] at k1
      cases k1
      exact k2
  by_cases hk : ∃ o, K.lookup a = some o
  · obtain ⟨o, hk⟩ := hk
    have e := kin a o hk
    rw [obj] at e
    cases e
    refine main (fun _ => none) (.inl rfl) (.inr ⟨_, vs.toArray, _, hk, rfl, rfl, rfl, ?_, by simpa using vi⟩) (fun b u z => by cases (show (none : Option HO) = some u from z)) fun z => absurd rfl z
    rw [List.size_toArray, its.length]
    exact len
  · have hk' : K.lookup a = none := by
      cases q : K.lookup a with
      | none => rfl
      | some o => exact absurd ⟨o, q⟩ hk
    refine main (scrH a vs ns) (.inr rfl) (.inl (.inr ⟨scrO vs, if_pos rfl⟩)) (fun b u z => ?_) fun _ => hk'
    by_cases hb : b = a
    · have z' : some (HO.frz (scrO vs) (.lst (ns.map V.int))) = some u := (if_pos hb).symm.trans z
      cases z'
      subst hb
      exact ⟨obj, by rw [List.length_map]; exact len, vs, _, vi, obj⟩
    · cases (if_neg hb).symm.trans z
end
end Tk
end

section
namespace Tk
open L2 PyProof.Rows PySem PySem.Spec
/-! ### what the top leaves -/
def d_is_within : He.DefD := ⟨("is_within", none), "is_within", "is_within", defArgs (topS 1), defBody (topS 1), defScope (topS 1), [], []⟩
def d_depth_at : He.DefD := ⟨("depth_at", none), "depth_at", "depth_at", defArgs (topS 2), defBody (topS 2), defScope (topS 2), [], []⟩
def d_beginning : He.DefD := ⟨("beginning", none), "beginning", "beginning", defArgs (topS 6), defBody (topS 6), defScope (topS 6), [], []⟩
def d_is_end : He.DefD := ⟨("is_end", none), "is_end", "is_end", defArgs (topS 7), defBody (topS 7), defScope (topS 7), [], []⟩
def d_berths_for : He.DefD := ⟨("berths_for", none), "berths_for", "berths_for", defArgs (topS 8), defBody (topS 8), defScope (topS 8), [], []⟩
def d_choices : He.DefD := ⟨("choices", none), "choices", "choices", defArgs (topS 9), defBody (topS 9), defScope (topS 9), [], []⟩
def d_is_kept : He.DefD := ⟨("is_kept", none), "is_kept", "is_kept", defArgs (topS 10), defBody (topS 10), defScope (topS 10), [], []⟩
def d_is_let : He.DefD := ⟨("is_let", none), "is_let", "is_let", defArgs (topS 11), defBody (topS 11), defScope (topS 11), [], []⟩
def d_moves_in : He.DefD := ⟨("moves_in", none), "moves_in", "moves_in", defArgs (topS 12), defBody (topS 12), defScope (topS 12), [], [("latest", .non)]⟩
def d_cost_in : He.DefD := ⟨("cost_in", none), "cost_in", "cost_in", defArgs (topS 13), defBody (topS 13), defScope (topS 13), [], []⟩
def d_after_moves : He.DefD := ⟨("after_moves", none), "after_moves", "after_moves", defArgs (topS 14), defBody (topS 14), defScope (topS 14), [], []⟩
def d_ways_in : He.DefD := ⟨("ways_in", none), "ways_in", "ways_in", defArgs (topS 15), defBody (topS 15), defScope (topS 15), [], []⟩
def d_grown : He.DefD := ⟨("grown", none), "grown", "grown", defArgs (topS 16), defBody (topS 16), defScope (topS 16), [], []⟩
def d_least : He.DefD := ⟨("least", none), "least", "least", defArgs (topS 17), defBody (topS 17), defScope (topS 17), [], []⟩
def d_added : He.DefD := ⟨("added", none), "added", "added", defArgs (topS 18), defBody (topS 18), defScope (topS 18), [], []⟩
def d_rests_in : He.DefD := ⟨("rests_in", none), "rests_in", "rests_in", defArgs (topS 19), defBody (topS 19), defScope (topS 19), [], []⟩
def d_rest_of : He.DefD := ⟨("rest_of", none), "rest_of", "rest_of", defArgs (topS 20), defBody (topS 20), defScope (topS 20), [], [("latest", .non)]⟩
def d_ways_on : He.DefD := ⟨("ways_on", none), "ways_on", "ways_on", defArgs (topS 21), defBody (topS 21), defScope (topS 21), [], []⟩
def d_least_cost : He.DefD := ⟨("least_cost", none), "least_cost", "least_cost", defArgs (topS 22), defBody (topS 22), defScope (topS 22), [], [("latest", .non)]⟩
def d_put_ahead : He.DefD := ⟨("put_ahead", none), "put_ahead", "put_ahead", defArgs (topS 23), defBody (topS 23), defScope (topS 23), [], []⟩
def d_best_plan : He.DefD := ⟨("best_plan", none), "best_plan", "best_plan", defArgs (topS 24), defBody (topS 24), defScope (topS 24), [], [("latest", .non)]⟩
def d_table_of : He.DefD := ⟨("table_of", none), "table_of", "table_of", defArgs (topS 25), defBody (topS 25), defScope (topS 25), [], [("latest", .non)]⟩
def d_is_place : He.DefD := ⟨("is_place", none), "is_place", "is_place", defArgs (topS 26), defBody (topS 26), defScope (topS 26), [], []⟩
def d_is_state : He.DefD := ⟨("is_state", none), "is_state", "is_state", defArgs (topS 27), defBody (topS 27), defScope (topS 27), [], []⟩
def d_bounds_in : He.DefD := ⟨("bounds_in", none), "bounds_in", "bounds_in", defArgs (topS 28), defBody (topS 28), defScope (topS 28), [], []⟩
def d_is_at_most : He.DefD := ⟨("is_at_most", none), "is_at_most", "is_at_most", defArgs (topS 29), defBody (topS 29), defScope (topS 29), [], []⟩
def d_holds_in : He.DefD := ⟨("holds_in", none), "holds_in", "holds_in", defArgs (topS 30), defBody (topS 30), defScope (topS 30), [], []⟩
def d_is_table : He.DefD := ⟨("is_table", none), "is_table", "is_table", defArgs (topS 31), defBody (topS 31), defScope (topS 31), [], [("latest", .non)]⟩
def d_law_pool : He.DefD := ⟨("_law_pool", none), "_law_pool", "_law_pool", defArgs (topS 33), defBody (topS 33), defScope (topS 33), [], []⟩
def d_law_stream : He.DefD := ⟨("_law_stream", none), "_law_stream", "_law_stream", defArgs (topS 34), defBody (topS 34), defScope (topS 34), [], []⟩
def d_law_pick : He.DefD := ⟨("_law_pick", none), "_law_pick", "_law_pick", defArgs (topS 35), defBody (topS 35), defScope (topS 35), [], []⟩
def d_law_harbour : He.DefD := ⟨("_law_harbour", none), "_law_harbour", "_law_harbour", defArgs (topS 36), defBody (topS 36), defScope (topS 36), [], []⟩
def d_law_ships : He.DefD := ⟨("_law_ships", none), "_law_ships", "_law_ships", defArgs (topS 37), defBody (topS 37), defScope (topS 37), [], []⟩
def d_law_deep : He.DefD := ⟨("_law_deep", none), "_law_deep", "_law_deep", defArgs (topS 38), defBody (topS 38), defScope (topS 38), [], []⟩
def d_law_options : He.DefD := ⟨("_law_options", none), "_law_options", "_law_options", defArgs (topS 39), defBody (topS 39), defScope (topS 39), [], []⟩
def d_law_beside : He.DefD := ⟨("_law_beside", none), "_law_beside", "_law_beside", defArgs (topS 40), defBody (topS 40), defScope (topS 40), [], []⟩
def d_law_plans : He.DefD := ⟨("_law_plans", none), "_law_plans", "_law_plans", defArgs (topS 41), defBody (topS 41), defScope (topS 41), [], []⟩
def d_law_keeps : He.DefD := ⟨("_law_keeps", none), "_law_keeps", "_law_keeps", defArgs (topS 42), defBody (topS 42), defScope (topS 42), [], []⟩
def d_law_least : He.DefD := ⟨("_law_least", none), "_law_least", "_law_least", defArgs (topS 43), defBody (topS 43), defScope (topS 43), [], []⟩
def d_law_cost : He.DefD := ⟨("_law_cost", none), "_law_cost", "_law_cost", defArgs (topS 44), defBody (topS 44), defScope (topS 44), [], []⟩
def d_law : He.DefD := ⟨("law", none), "law", "law", defArgs (topS 45), defBody (topS 45), defScope (topS 45), [], []⟩
def fnL0 : List He.DefD := [d_is_within, d_depth_at, d_beginning, d_is_end, d_berths_for, d_choices, d_is_kept, d_is_let, d_moves_in, d_cost_in, d_after_moves, d_ways_in, d_grown, d_least, d_added]
def fnL1 : List He.DefD := [d_rests_in, d_rest_of, d_ways_on, d_least_cost, d_put_ahead, d_best_plan, d_table_of, d_is_place, d_is_state, d_bounds_in, d_is_at_most, d_holds_in, d_is_table, d_law_pool, d_law_stream]
def fnL2 : List He.DefD := [d_law_pick, d_law_harbour, d_law_ships, d_law_deep, d_law_options, d_law_beside, d_law_plans, d_law_keeps, d_law_least, d_law_cost, d_law]
def fnL : List He.DefD := fnL0 ++ fnL1 ++ fnL2
def faL0 : List He.Fa := [.glo "is_within", .glo "depth_at", .glo "beginning", .glo "is_end", .glo "berths_for", .glo "choices", .glo "is_kept", .glo "is_let", .glo "moves_in", .glo "cost_in", .glo "after_moves", .glo "ways_in", .glo "grown", .glo "least", .glo "added"]
def faL1 : List He.Fa := [.glo "rests_in", .glo "rest_of", .glo "ways_on", .glo "least_cost", .glo "put_ahead", .glo "best_plan", .glo "table_of", .glo "is_place", .glo "is_state", .glo "bounds_in", .glo "is_at_most", .glo "holds_in", .glo "is_table", .glo "_law_pool", .glo "_law_stream"]
def faL2 : List He.Fa := [.glo "_law_pick", .glo "_law_harbour", .glo "_law_ships", .glo "_law_deep", .glo "_law_options", .glo "_law_beside", .glo "_law_plans", .glo "_law_keeps", .glo "_law_least", .glo "_law_cost", .glo "law", .glo "SEA", .glo "GONE", .free "len", .free "tuple"]
def faL3 : List He.Fa := [.free "enumerate", .free "all", .free "isinstance", .free "int", .free "bool", .free "set", .free "sum", .free "sorted", .free "list", .free "max", .free "min", .free "reversed", .free "zip", .free "range", .free "repr"]
def faL : List He.Fa := faL0 ++ faL1 ++ faL2 ++ faL3
def exL (K : PySem.W.Frag) : Bool := He.tupB K "SEA" [.int (-1), .int 0] && He.tupB K "GONE" [.int (-2), .int 0]
def obsL (n : Nat) (g : Addr → Option Obj) : He.AlD × Bool := (He.obsD faL fnL (He.frG g (He.asD g n)), exL (He.frG g (He.asD g n)))
def hookL (n : Nat) : PySem.W.Hook where
  α := He.AlD × Bool
  obs := fun s => obsL n s.heap.get?
  val := fun _ => (He.valD fnL, true)
  says := fun _ h => ∃ K : PySem.W.Frag, K.In h ∧ He.SaysD faL fnL K ∧ exL K = true
  of := fun _ _ e => ⟨_, He.frG_in, congrArg Prod.fst e, congrArg Prod.snd e⟩
  keeps := fun _ _ _ ⟨K, hK, c⟩ k => ⟨K, hK.keeps k, c⟩
theorem obsL_eq {n : Nat} {g : Addr → Option Obj} {s : Shared} (h : ∀ a, g a = s.heap.get? a) : obsL n g = (hookL n).obs s := by
  have same : g = s.heap.get? := funext h
  rw [same]
  rfl
theorem gd_tup {K : PySem.W.Frag} {mg : Str → Option Value} {x : Str} {i j : Int} (h1 : mg x = some (.ref (He.ga K x))) (h2 : He.tupB K x [.int i, .int j] = true) : Gd K mg x (.tuple [.int i, .int j]) :=
  ⟨_, h1, fun H => .tup (He.tupB_ok h2 H) (.cons (.int i) (.cons (.int j) .nil))⟩
theorem kw_of {K : PySem.W.Frag} {x qual : Str} {st : Stmt} {f : Addr} {fd : FuncData} {ps : List Str} {R : List Dt → Dt → Prop} (F : FunD K x qual (defArgs st) (defBody st) (defScope st) [] [("latest", .non)] f fd) (n : Nat) (hn : n + 1 = ps.length) (hl : ∀ ds r, R ds r → ds.length = n + 1)
    (h1 : ∀ (D : Addr) (doc pm : Value) (an : Option Addr) (cdv ct : Value) (us : List Value) (v : Value), us.length = n → bindArgs (PySem.W.fnOf x qual (defArgs st) (defBody st) (defScope st) .none (.ref D) doc pm an cdv ct) ⟨us, [("latest", v)]⟩ = pure (ps.zip (us ++ [v])))
    (h2 : ∀ (D : Addr) (doc pm : Value) (an : Option Addr) (cdv ct : Value) (us : List Value) (v : Value), us.length = n → KwChain D [("latest", v)] (bindArgs (PySem.W.fnOf x qual (defArgs st) (defBody st) (defScope st) .none (.ref D) doc pm an cdv ct) ⟨us, []⟩) (ps.zip (us ++ [v]))) :
    (∃ n : Nat, KBn K fd ps n [("latest" : Str)] (fun us ws => us ++ ws) (fun vs zs => vs ++ zs) ∧ ∀ ds r, R ds r → ds.length = n + 1) ∧ ∃ dus, Binds K fd ps dus ∧ Vals [V.non] dus := by
  obtain ⟨mv, kb⟩ := FunD.kbinds0 (ps := ps) F n ["latest"] [] (fun us _ ws => us ++ ws) (List.cons_ne_nil _ _) (fun q hq => absurd hq List.not_mem_nil) (fun r1 _ r3 => r1.append r3) fun D doc pm an cdv ct us mv ws l1 l2 l3 => by
    match mv, l2, ws, l3 with
    | [], _, [v], _ => exact h1 D doc pm an cdv ct us v l1
  obtain ⟨dus, rv, hb⟩ := FunD.binds0 (ps := ps) F n (List.cons_ne_nil _ _) hn fun D doc pm an cdv ct us ks l1 l2 => by
    match ks, l2 with
    | [v], _ => exact h2 D doc pm an cdv ct us v l1
  exact ⟨⟨n, kb, hl⟩, dus, hb, rv⟩
section
variable {P : Program} {w : World} {K : PySem.W.Frag} {mg : Str → Option Value} {h : Heap}
theorem have_bn (X : K.In h) (G : h.Ns mainGlobals mg) (c : He.SaysD faL fnL K) : Bn mg := ⟨He.free_ok X G (c.fact 43 (f := .free "len") rfl), He.free_ok X G (c.fact 44 (f := .free "tuple") rfl), He.free_ok X G (c.fact 45 (f := .free "enumerate") rfl), He.free_ok X G (c.fact 46 (f := .free "all") rfl), He.free_ok X G (c.fact 47 (f := .free "isinstance") rfl), He.free_ok X G (c.fact 48 (f := .free "int") rfl), He.free_ok X G (c.fact 49 (f := .free "bool") rfl), He.free_ok X G (c.fact 50 (f := .free "set") rfl), He.free_ok X G (c.fact 51 (f := .free "sum") rfl), He.free_ok X G (c.fact 52 (f := .free "sorted") rfl), He.free_ok X G (c.fact 53 (f := .free "list") rfl), He.free_ok X G (c.fact 54 (f := .free "max") rfl), He.free_ok X G (c.fact 55 (f := .free "min") rfl), He.free_ok X G (c.fact 56 (f := .free "reversed") rfl), He.free_ok X G (c.fact 57 (f := .free "zip") rfl), He.free_ok X G (c.fact 58 (f := .free "range") rfl), He.free_ok X G (c.fact 59 (f := .free "repr") rfl)⟩

theorem have_SEA (X : K.In h) (G : h.Ns mainGlobals mg) (c : He.SaysD faL fnL K) (cx : exL K = true) : Gd K mg "SEA" (encP SEA) := gd_tup (He.glo_ok X G (c.fact 41 (f := .glo "SEA") rfl)) (He.ba (show (_ && _) = true from cx)).1
theorem have_GONE (X : K.In h) (G : h.Ns mainGlobals mg) (c : He.SaysD faL fnL K) (cx : exL K = true) : Gd K mg "GONE" (encP GONE) := gd_tup (He.glo_ok X G (c.fact 42 (f := .glo "GONE") rfl)) (He.ba (show (_ && _) = true from cx)).2
theorem have_is_within (X : K.In h) (G : h.Ns mainGlobals mg) (c : He.SaysD faL fnL K) (cx : exL K = true) (B : Bn mg) (base : Heap) : Fd P w K mg base 1 "is_within" ["value", "low", "high"] R_is_within := by
  obtain ⟨fd, F⟩ := c.def_ 0 (d := d_is_within) rfl
  have q := He.glo_ok X G (c.fact 0 (f := .glo "is_within") rfl)
  exact ⟨_, fd, ok_is_within (He5.fun_of F) B, q, F.kp, FunD.bindsN (ps := ["value", "low", "high"]) F fun _ _ _ _ _ _ us hl => match us, hl with | [_, _, _], _ => rfl⟩
theorem have_depth_at (X : K.In h) (G : h.Ns mainGlobals mg) (c : He.SaysD faL fnL K) (cx : exL K = true) (B : Bn mg) (base : Heap) : Fd P w K mg base 1 "depth_at" ["harbour", "hour"] R_depth_at := by
  obtain ⟨fd, F⟩ := c.def_ 1 (d := d_depth_at) rfl
  have q := He.glo_ok X G (c.fact 1 (f := .glo "depth_at") rfl)
  exact ⟨_, fd, ok_depth_at (He5.fun_of F) B, q, F.kp, FunD.bindsN (ps := ["harbour", "hour"]) F fun _ _ _ _ _ _ us hl => match us, hl with | [_, _], _ => rfl⟩
theorem have_beginning (X : K.In h) (G : h.Ns mainGlobals mg) (c : He.SaysD faL fnL K) (cx : exL K = true) (B : Bn mg) (base : Heap) : Fd P w K mg base 1 "beginning" ["ships"] R_beginning := by
  obtain ⟨fd, F⟩ := c.def_ 2 (d := d_beginning) rfl
  have q := He.glo_ok X G (c.fact 2 (f := .glo "beginning") rfl)
  exact ⟨_, fd, ok_beginning (He5.fun_of F) B (have_SEA X G c cx), q, F.kp, FunD.bindsN (ps := ["ships"]) F fun _ _ _ _ _ _ us hl => match us, hl with | [_], _ => rfl⟩
theorem have_is_end (X : K.In h) (G : h.Ns mainGlobals mg) (c : He.SaysD faL fnL K) (cx : exL K = true) (B : Bn mg) (base : Heap) : Fd P w K mg base 1 "is_end" ["state"] R_is_end := by
  obtain ⟨fd, F⟩ := c.def_ 3 (d := d_is_end) rfl
  have q := He.glo_ok X G (c.fact 3 (f := .glo "is_end") rfl)
  exact ⟨_, fd, ok_is_end (He5.fun_of F) B (have_GONE X G c cx), q, F.kp, FunD.bindsN (ps := ["state"]) F fun _ _ _ _ _ _ us hl => match us, hl with | [_], _ => rfl⟩
theorem have_berths_for (X : K.In h) (G : h.Ns mainGlobals mg) (c : He.SaysD faL fnL K) (cx : exL K = true) (B : Bn mg) (base : Heap) : Fd P w K mg base 1 "berths_for" ["harbour", "ship", "places"] R_berths_for := by
  obtain ⟨fd, F⟩ := c.def_ 4 (d := d_berths_for) rfl
  have q := He.glo_ok X G (c.fact 4 (f := .glo "berths_for") rfl)
  exact ⟨_, fd, ok_berths_for (He5.fun_of F) B, q, F.kp, FunD.bindsN (ps := ["harbour", "ship", "places"]) F fun _ _ _ _ _ _ us hl => match us, hl with | [_, _, _], _ => rfl⟩
theorem have_is_kept (X : K.In h) (G : h.Ns mainGlobals mg) (c : He.SaysD faL fnL K) (cx : exL K = true) (B : Bn mg) (base : Heap) : Fd P w K mg base 1 "is_kept" ["latest", "name", "hour"] R_is_kept := by
  obtain ⟨fd, F⟩ := c.def_ 6 (d := d_is_kept) rfl
  have q := He.glo_ok X G (c.fact 6 (f := .glo "is_kept") rfl)
  exact ⟨_, fd, ok_is_kept (He5.fun_of F) B, q, F.kp, FunD.bindsN (ps := ["latest", "name", "hour"]) F fun _ _ _ _ _ _ us hl => match us, hl with | [_, _, _], _ => rfl⟩
theorem have_choices (X : K.In h) (G : h.Ns mainGlobals mg) (c : He.SaysD faL fnL K) (cx : exL K = true) (B : Bn mg) (base : Heap) : Fd P w K mg base 2 "choices" ["harbour", "ships", "state", "latest"] R_choices := by
  obtain ⟨fd, F⟩ := c.def_ 5 (d := d_choices) rfl
  have q := He.glo_ok X G (c.fact 5 (f := .glo "choices") rfl)
  exact ⟨_, fd, ok_choices (He5.fun_of F) B (have_SEA X G c cx) (have_depth_at X G c cx B base) (have_berths_for X G c cx B base) (have_is_kept X G c cx B base), q, F.kp, FunD.bindsN (ps := ["harbour", "ships", "state", "latest"]) F fun _ _ _ _ _ _ us hl => match us, hl with | [_, _, _, _], _ => rfl⟩
theorem have_is_let (X : K.In h) (G : h.Ns mainGlobals mg) (c : He.SaysD faL fnL K) (cx : exL K = true) (B : Bn mg) (base : Heap) : Fd P w K mg base 1 "is_let" ["harbour", "ships", "moves"] R_is_let := by
  obtain ⟨fd, F⟩ := c.def_ 7 (d := d_is_let) rfl
  have q := He.glo_ok X G (c.fact 7 (f := .glo "is_let") rfl)
  exact ⟨_, fd, ok_is_let (He5.fun_of F) B, q, F.kp, FunD.bindsN (ps := ["harbour", "ships", "moves"]) F fun _ _ _ _ _ _ us hl => match us, hl with | [_, _, _], _ => rfl⟩
theorem have_moves_in (X : K.In h) (G : h.Ns mainGlobals mg) (c : He.SaysD faL fnL K) (cx : exL K = true) (B : Bn mg) (base : Heap) : FdK P w K mg base 3 "moves_in" ["harbour", "ships", "state", "latest"] R_moves_in := by
  obtain ⟨fd, F⟩ := c.def_ 8 (d := d_moves_in) rfl
  have q := He.glo_ok X G (c.fact 8 (f := .glo "moves_in") rfl)
  refine ⟨_, fd, ok_moves_in (He5.fun_of F) B (have_is_end X G c cx B base) (have_choices X G c cx B base) (have_is_let X G c cx B base), q, F.kp, kw_of (x := "moves_in") (qual := "moves_in") (st := topS 12) (ps := ["harbour", "ships", "state", "latest"]) (R := R_moves_in) F 3 rfl (fun ds r hR => ?_) (fun _ _ _ _ _ _ us v hl => match us, hl with | [_, _, _], _ => rfl) (fun _ _ _ _ _ _ us v hl => match us, hl with | [_, _, _], _ => ⟨_, _, _, _, _, _, rfl, rfl, rfl⟩)⟩
  unfold R_moves_in at hR
  have e : ds.length = 4 := by
    first | (obtain ⟨_, _, _, rfl, _⟩ := hR; rfl) | (obtain ⟨_, _, _, _, rfl, _⟩ := hR; rfl)
  exact e
theorem have_cost_in (X : K.In h) (G : h.Ns mainGlobals mg) (c : He.SaysD faL fnL K) (cx : exL K = true) (B : Bn mg) (base : Heap) : Fd P w K mg base 1 "cost_in" ["ships", "state", "moves"] R_cost_in := by
  obtain ⟨fd, F⟩ := c.def_ 9 (d := d_cost_in) rfl
  have q := He.glo_ok X G (c.fact 9 (f := .glo "cost_in") rfl)
  exact ⟨_, fd, ok_cost_in (He5.fun_of F) B (have_SEA X G c cx), q, F.kp, FunD.bindsN (ps := ["ships", "state", "moves"]) F fun _ _ _ _ _ _ us hl => match us, hl with | [_, _, _], _ => rfl⟩
theorem have_after_moves (X : K.In h) (G : h.Ns mainGlobals mg) (c : He.SaysD faL fnL K) (cx : exL K = true) (B : Bn mg) (base : Heap) : Fd P w K mg base 1 "after_moves" ["ships", "state", "moves"] R_after_moves := by
  obtain ⟨fd, F⟩ := c.def_ 10 (d := d_after_moves) rfl
  have q := He.glo_ok X G (c.fact 10 (f := .glo "after_moves") rfl)
  exact ⟨_, fd, ok_after_moves (He5.fun_of F) B (have_GONE X G c cx), q, F.kp, FunD.bindsN (ps := ["ships", "state", "moves"]) F fun _ _ _ _ _ _ us hl => match us, hl with | [_, _, _], _ => rfl⟩
theorem have_ways_in (X : K.In h) (G : h.Ns mainGlobals mg) (c : He.SaysD faL fnL K) (cx : exL K = true) (B : Bn mg) (base : Heap) : Fd P w K mg base 4 "ways_in" ["harbour", "ships", "state", "latest"] R_ways_in := by
  obtain ⟨fd, F⟩ := c.def_ 11 (d := d_ways_in) rfl
  have q := He.glo_ok X G (c.fact 11 (f := .glo "ways_in") rfl)
  exact ⟨_, fd, ok_ways_in (He5.fun_of F) B (have_moves_in X G c cx B base) (have_cost_in X G c cx B base) (have_after_moves X G c cx B base), q, F.kp, FunD.bindsN (ps := ["harbour", "ships", "state", "latest"]) F fun _ _ _ _ _ _ us hl => match us, hl with | [_, _, _, _], _ => rfl⟩
theorem have_grown (X : K.In h) (G : h.Ns mainGlobals mg) (c : He.SaysD faL fnL K) (cx : exL K = true) (B : Bn mg) (base : Heap) : Fd P w K mg base 5 "grown" ["harbour", "ships", "state", "latest"] R_grown := by
  obtain ⟨fd, F⟩ := c.def_ 12 (d := d_grown) rfl
  have q := He.glo_ok X G (c.fact 12 (f := .glo "grown") rfl)
  exact ⟨_, fd, ok_grown (He5.fun_of F) B (have_ways_in X G c cx B base), q, F.kp, FunD.bindsN (ps := ["harbour", "ships", "state", "latest"]) F fun _ _ _ _ _ _ us hl => match us, hl with | [_, _, _, _], _ => rfl⟩
theorem have_least (X : K.In h) (G : h.Ns mainGlobals mg) (c : He.SaysD faL fnL K) (cx : exL K = true) (B : Bn mg) (base : Heap) : Fd P w K mg base 1 "least" ["numbers"] R_least := by
  obtain ⟨fd, F⟩ := c.def_ 13 (d := d_least) rfl
  have q := He.glo_ok X G (c.fact 13 (f := .glo "least") rfl)
  exact ⟨_, fd, ok_least (He5.fun_of F) B, q, F.kp, FunD.bindsN (ps := ["numbers"]) F fun _ _ _ _ _ _ us hl => match us, hl with | [_], _ => rfl⟩
theorem have_added (X : K.In h) (G : h.Ns mainGlobals mg) (c : He.SaysD faL fnL K) (cx : exL K = true) (B : Bn mg) (base : Heap) : Fd P w K mg base 1 "added" ["cost", "rest"] R_added := by
  obtain ⟨fd, F⟩ := c.def_ 14 (d := d_added) rfl
  have q := He.glo_ok X G (c.fact 14 (f := .glo "added") rfl)
  exact ⟨_, fd, ok_added (He5.fun_of F) B, q, F.kp, FunD.bindsN (ps := ["cost", "rest"]) F fun _ _ _ _ _ _ us hl => match us, hl with | [_, _], _ => rfl⟩
theorem have_rests_in (X : K.In h) (G : h.Ns mainGlobals mg) (c : He.SaysD faL fnL K) (cx : exL K = true) (B : Bn mg) (base : Heap) : Fd P w K mg base 2 "rests_in" ["found"] R_rests_in := by
  obtain ⟨fd, F⟩ := c.def_ 15 (d := d_rests_in) rfl
  have q := He.glo_ok X G (c.fact 15 (f := .glo "rests_in") rfl)
  exact ⟨_, fd, ok_rests_in (He5.fun_of F) B (have_is_end X G c cx B base) (have_least X G c cx B base) (have_added X G c cx B base), q, F.kp, FunD.bindsN (ps := ["found"]) F fun _ _ _ _ _ _ us hl => match us, hl with | [_], _ => rfl⟩
theorem have_rest_of (X : K.In h) (G : h.Ns mainGlobals mg) (c : He.SaysD faL fnL K) (cx : exL K = true) (B : Bn mg) (base : Heap) : FdK P w K mg base 6 "rest_of" ["harbour", "ships", "state", "latest"] R_rest_of := by
  obtain ⟨fd, F⟩ := c.def_ 16 (d := d_rest_of) rfl
  have q := He.glo_ok X G (c.fact 16 (f := .glo "rest_of") rfl)
  refine ⟨_, fd, ok_rest_of (He5.fun_of F) B (have_grown X G c cx B base) (have_rests_in X G c cx B base), q, F.kp, kw_of (x := "rest_of") (qual := "rest_of") (st := topS 20) (ps := ["harbour", "ships", "state", "latest"]) (R := R_rest_of) F 3 rfl (fun ds r hR => ?_) (fun _ _ _ _ _ _ us v hl => match us, hl with | [_, _, _], _ => rfl) (fun _ _ _ _ _ _ us v hl => match us, hl with | [_, _, _], _ => ⟨_, _, _, _, _, _, rfl, rfl, rfl⟩)⟩
  unfold R_rest_of at hR
  have e : ds.length = 4 := by
    first | (obtain ⟨_, _, _, rfl, _⟩ := hR; rfl) | (obtain ⟨_, _, _, _, rfl, _⟩ := hR; rfl)
  exact e
theorem have_ways_on (X : K.In h) (G : h.Ns mainGlobals mg) (c : He.SaysD faL fnL K) (cx : exL K = true) (B : Bn mg) (base : Heap) : Fd P w K mg base 2 "ways_on" ["found", "rests", "state"] R_ways_on := by
  obtain ⟨fd, F⟩ := c.def_ 17 (d := d_ways_on) rfl
  have q := He.glo_ok X G (c.fact 17 (f := .glo "ways_on") rfl)
  exact ⟨_, fd, ok_ways_on (He5.fun_of F) B (have_added X G c cx B base), q, F.kp, FunD.bindsN (ps := ["found", "rests", "state"]) F fun _ _ _ _ _ _ us hl => match us, hl with | [_, _, _], _ => rfl⟩
theorem have_least_cost (X : K.In h) (G : h.Ns mainGlobals mg) (c : He.SaysD faL fnL K) (cx : exL K = true) (B : Bn mg) (base : Heap) : FdK P w K mg base 7 "least_cost" ["harbour", "ships", "latest"] R_least_cost := by
  obtain ⟨fd, F⟩ := c.def_ 18 (d := d_least_cost) rfl
  have q := He.glo_ok X G (c.fact 18 (f := .glo "least_cost") rfl)
  refine ⟨_, fd, ok_least_cost (He5.fun_of F) B (have_rest_of X G c cx B base) (have_beginning X G c cx B base), q, F.kp, kw_of (x := "least_cost") (qual := "least_cost") (st := topS 22) (ps := ["harbour", "ships", "latest"]) (R := R_least_cost) F 2 rfl (fun ds r hR => ?_) (fun _ _ _ _ _ _ us v hl => match us, hl with | [_, _], _ => rfl) (fun _ _ _ _ _ _ us v hl => match us, hl with | [_, _], _ => ⟨_, _, _, _, _, _, rfl, rfl, rfl⟩)⟩
  unfold R_least_cost at hR
  have e : ds.length = 3 := by
    first | (obtain ⟨_, _, _, rfl, _⟩ := hR; rfl) | (obtain ⟨_, _, _, _, rfl, _⟩ := hR; rfl)
  exact e
theorem have_put_ahead (X : K.In h) (G : h.Ns mainGlobals mg) (c : He.SaysD faL fnL K) (cx : exL K = true) (B : Bn mg) (base : Heap) : Fd P w K mg base 1 "put_ahead" ["hour", "moves", "row"] R_put_ahead := by
  obtain ⟨fd, F⟩ := c.def_ 19 (d := d_put_ahead) rfl
  have q := He.glo_ok X G (c.fact 19 (f := .glo "put_ahead") rfl)
  exact ⟨_, fd, ok_put_ahead (He5.fun_of F) B, q, F.kp, FunD.bindsN (ps := ["hour", "moves", "row"]) F fun _ _ _ _ _ _ us hl => match us, hl with | [_, _, _], _ => rfl⟩
theorem have_best_plan (X : K.In h) (G : h.Ns mainGlobals mg) (c : He.SaysD faL fnL K) (cx : exL K = true) (B : Bn mg) (base : Heap) : FdK P w K mg base 6 "best_plan" ["harbour", "ships", "latest"] R_best_plan := by
  obtain ⟨fd, F⟩ := c.def_ 20 (d := d_best_plan) rfl
  have q := He.glo_ok X G (c.fact 20 (f := .glo "best_plan") rfl)
  refine ⟨_, fd, ok_best_plan (He5.fun_of F) B (have_grown X G c cx B base) (have_rests_in X G c cx B base) (have_beginning X G c cx B base) (have_is_end X G c cx B base) (have_ways_on X G c cx B base) (have_put_ahead X G c cx B base), q, F.kp, kw_of (x := "best_plan") (qual := "best_plan") (st := topS 24) (ps := ["harbour", "ships", "latest"]) (R := R_best_plan) F 2 rfl (fun ds r hR => ?_) (fun _ _ _ _ _ _ us v hl => match us, hl with | [_, _], _ => rfl) (fun _ _ _ _ _ _ us v hl => match us, hl with | [_, _], _ => ⟨_, _, _, _, _, _, rfl, rfl, rfl⟩)⟩
  unfold R_best_plan at hR
  have e : ds.length = 3 := by
    first | (obtain ⟨_, _, _, rfl, _⟩ := hR; rfl) | (obtain ⟨_, _, _, _, rfl, _⟩ := hR; rfl)
  exact e
theorem have_table_of (X : K.In h) (G : h.Ns mainGlobals mg) (c : He.SaysD faL fnL K) (cx : exL K = true) (B : Bn mg) (base : Heap) : FdK P w K mg base 6 "table_of" ["harbour", "ships", "latest"] R_table_of := by
  obtain ⟨fd, F⟩ := c.def_ 21 (d := d_table_of) rfl
  have q := He.glo_ok X G (c.fact 21 (f := .glo "table_of") rfl)
  refine ⟨_, fd, ok_table_of (He5.fun_of F) B (have_grown X G c cx B base) (have_rests_in X G c cx B base) (have_beginning X G c cx B base), q, F.kp, kw_of (x := "table_of") (qual := "table_of") (st := topS 25) (ps := ["harbour", "ships", "latest"]) (R := R_table_of) F 2 rfl (fun ds r hR => ?_) (fun _ _ _ _ _ _ us v hl => match us, hl with | [_, _], _ => rfl) (fun _ _ _ _ _ _ us v hl => match us, hl with | [_, _], _ => ⟨_, _, _, _, _, _, rfl, rfl, rfl⟩)⟩
  unfold R_table_of at hR
  have e : ds.length = 3 := by
    first | (obtain ⟨_, _, _, rfl, _⟩ := hR; rfl) | (obtain ⟨_, _, _, _, rfl, _⟩ := hR; rfl)
  exact e
theorem have_is_place (X : K.In h) (G : h.Ns mainGlobals mg) (c : He.SaysD faL fnL K) (cx : exL K = true) (B : Bn mg) (base : Heap) : Fd P w K mg base 2 "is_place" ["harbour", "ship", "place"] R_is_place := by
  obtain ⟨fd, F⟩ := c.def_ 22 (d := d_is_place) rfl
  have q := He.glo_ok X G (c.fact 22 (f := .glo "is_place") rfl)
  exact ⟨_, fd, ok_is_place (He5.fun_of F) B (have_SEA X G c cx) (have_GONE X G c cx) (have_is_within X G c cx B base), q, F.kp, FunD.bindsN (ps := ["harbour", "ship", "place"]) F fun _ _ _ _ _ _ us hl => match us, hl with | [_, _, _], _ => rfl⟩
theorem have_is_state (X : K.In h) (G : h.Ns mainGlobals mg) (c : He.SaysD faL fnL K) (cx : exL K = true) (B : Bn mg) (base : Heap) : Fd P w K mg base 3 "is_state" ["harbour", "ships", "state"] R_is_state := by
  obtain ⟨fd, F⟩ := c.def_ 23 (d := d_is_state) rfl
  have q := He.glo_ok X G (c.fact 23 (f := .glo "is_state") rfl)
  exact ⟨_, fd, ok_is_state (He5.fun_of F) B (have_is_within X G c cx B base) (have_is_place X G c cx B base), q, F.kp, FunD.bindsN (ps := ["harbour", "ships", "state"]) F fun _ _ _ _ _ _ us hl => match us, hl with | [_, _, _], _ => rfl⟩
theorem have_bounds_in (X : K.In h) (G : h.Ns mainGlobals mg) (c : He.SaysD faL fnL K) (cx : exL K = true) (B : Bn mg) (base : Heap) : Fd P w K mg base 4 "bounds_in" ["harbour", "ships", "table"] R_bounds_in := by
  obtain ⟨fd, F⟩ := c.def_ 24 (d := d_bounds_in) rfl
  have q := He.glo_ok X G (c.fact 24 (f := .glo "bounds_in") rfl)
  exact ⟨_, fd, ok_bounds_in (He5.fun_of F) B (have_is_state X G c cx B base), q, F.kp, FunD.bindsN (ps := ["harbour", "ships", "table"]) F fun _ _ _ _ _ _ us hl => match us, hl with | [_, _, _], _ => rfl⟩
theorem have_is_at_most (X : K.In h) (G : h.Ns mainGlobals mg) (c : He.SaysD faL fnL K) (cx : exL K = true) (B : Bn mg) (base : Heap) : Fd P w K mg base 1 "is_at_most" ["bound", "most"] R_is_at_most := by
  obtain ⟨fd, F⟩ := c.def_ 25 (d := d_is_at_most) rfl
  have q := He.glo_ok X G (c.fact 25 (f := .glo "is_at_most") rfl)
  exact ⟨_, fd, ok_is_at_most (He5.fun_of F) B, q, F.kp, FunD.bindsN (ps := ["bound", "most"]) F fun _ _ _ _ _ _ us hl => match us, hl with | [_, _], _ => rfl⟩
theorem have_holds_in (X : K.In h) (G : h.Ns mainGlobals mg) (c : He.SaysD faL fnL K) (cx : exL K = true) (B : Bn mg) (base : Heap) : Fd P w K mg base 5 "holds_in" ["harbour", "ships", "bounds", "state", "latest"] R_holds_in := by
  obtain ⟨fd, F⟩ := c.def_ 26 (d := d_holds_in) rfl
  have q := He.glo_ok X G (c.fact 26 (f := .glo "holds_in") rfl)
  exact ⟨_, fd, ok_holds_in (He5.fun_of F) B (have_is_end X G c cx B base) (have_ways_in X G c cx B base) (have_is_at_most X G c cx B base) (have_added X G c cx B base), q, F.kp, FunD.bindsN (ps := ["harbour", "ships", "bounds", "state", "latest"]) F fun _ _ _ _ _ _ us hl => match us, hl with | [_, _, _, _, _], _ => rfl⟩
theorem have_is_table (X : K.In h) (G : h.Ns mainGlobals mg) (c : He.SaysD faL fnL K) (cx : exL K = true) (B : Bn mg) (base : Heap) : FdK P w K mg base 6 "is_table" ["harbour", "ships", "table", "latest"] R_is_table := by
  obtain ⟨fd, F⟩ := c.def_ 27 (d := d_is_table) rfl
  have q := He.glo_ok X G (c.fact 27 (f := .glo "is_table") rfl)
  refine ⟨_, fd, ok_is_table (He5.fun_of F) B (have_bounds_in X G c cx B base) (have_beginning X G c cx B base) (have_holds_in X G c cx B base), q, F.kp, kw_of (x := "is_table") (qual := "is_table") (st := topS 31) (ps := ["harbour", "ships", "table", "latest"]) (R := R_is_table) F 3 rfl (fun ds r hR => ?_) (fun _ _ _ _ _ _ us v hl => match us, hl with | [_, _, _], _ => rfl) (fun _ _ _ _ _ _ us v hl => match us, hl with | [_, _, _], _ => ⟨_, _, _, _, _, _, rfl, rfl, rfl⟩)⟩
  unfold R_is_table at hR
  have e : ds.length = 4 := by
    first | (obtain ⟨_, _, _, rfl, _⟩ := hR; rfl) | (obtain ⟨_, _, _, _, rfl, _⟩ := hR; rfl)
  exact e
theorem have_law_pool (X : K.In h) (G : h.Ns mainGlobals mg) (c : He.SaysD faL fnL K) (cx : exL K = true) (B : Bn mg) (base : Heap) : Fd P w K mg base 1 "_law_pool" ["_law_script"] R_law_pool := by
  obtain ⟨fd, F⟩ := c.def_ 28 (d := d_law_pool) rfl
  have q := He.glo_ok X G (c.fact 28 (f := .glo "_law_pool") rfl)
  exact ⟨_, fd, ok_law_pool (He5.fun_of F) B, q, F.kp, FunD.bindsN (ps := ["_law_script"]) F fun _ _ _ _ _ _ us hl => match us, hl with | [_], _ => rfl⟩
theorem have_law_stream (X : K.In h) (G : h.Ns mainGlobals mg) (c : He.SaysD faL fnL K) (cx : exL K = true) (B : Bn mg) (base : Heap) : FdF P w K mg base 2 "_law_stream" ["_law_script"] R_law_stream := by
  obtain ⟨fd, F⟩ := c.def_ 29 (d := d_law_stream) rfl
  have q := He.glo_ok X G (c.fact 29 (f := .glo "_law_stream") rfl)
  exact ⟨_, fd, ok_law_stream (He5.fun_of F) B (have_law_pool X G c cx B base), q, F.kp, FunD.bindsN (ps := ["_law_script"]) F fun _ _ _ _ _ _ us hl => match us, hl with | [_], _ => rfl⟩
theorem have_law_pick (X : K.In h) (G : h.Ns mainGlobals mg) (c : He.SaysD faL fnL K) (cx : exL K = true) (B : Bn mg) (base : Heap) : FdP P w K mg base 1 "_law_pick" ["_law_pool_here", "_law_many"] R_law_pick := by
  obtain ⟨fd, F⟩ := c.def_ 30 (d := d_law_pick) rfl
  have q := He.glo_ok X G (c.fact 30 (f := .glo "_law_pick") rfl)
  exact ⟨_, fd, ok_law_pick (He5.fun_of F) B, q, F.kp, FunD.bindsN (ps := ["_law_pool_here", "_law_many"]) F fun _ _ _ _ _ _ us hl => match us, hl with | [_, _], _ => rfl⟩
theorem have_law_harbour (X : K.In h) (G : h.Ns mainGlobals mg) (c : He.SaysD faL fnL K) (cx : exL K = true) (B : Bn mg) (base : Heap) : FdP P w K mg base 2 "_law_harbour" ["_law_pool_here", "_law_last"] R_law_harbour := by
  obtain ⟨fd, F⟩ := c.def_ 31 (d := d_law_harbour) rfl
  have q := He.glo_ok X G (c.fact 31 (f := .glo "_law_harbour") rfl)
  exact ⟨_, fd, ok_law_harbour (He5.fun_of F) B (have_law_pick X G c cx B base), q, F.kp, FunD.bindsN (ps := ["_law_pool_here", "_law_last"]) F fun _ _ _ _ _ _ us hl => match us, hl with | [_, _], _ => rfl⟩
theorem have_law_ships (X : K.In h) (G : h.Ns mainGlobals mg) (c : He.SaysD faL fnL K) (cx : exL K = true) (B : Bn mg) (base : Heap) : FdP P w K mg base 2 "_law_ships" ["_law_pool_here", "_law_harbour_here", "_law_many"] R_law_ships := by
  obtain ⟨fd, F⟩ := c.def_ 32 (d := d_law_ships) rfl
  have q := He.glo_ok X G (c.fact 32 (f := .glo "_law_ships") rfl)
  exact ⟨_, fd, ok_law_ships (He5.fun_of F) B (have_law_pick X G c cx B base), q, F.kp, FunD.bindsN (ps := ["_law_pool_here", "_law_harbour_here", "_law_many"]) F fun _ _ _ _ _ _ us hl => match us, hl with | [_, _, _], _ => rfl⟩
theorem have_law_deep (X : K.In h) (G : h.Ns mainGlobals mg) (c : He.SaysD faL fnL K) (cx : exL K = true) (B : Bn mg) (base : Heap) : Fd P w K mg base 1 "_law_deep" ["_law_harbour_here", "_law_ship", "_law_hour"] R_law_deep := by
  obtain ⟨fd, F⟩ := c.def_ 33 (d := d_law_deep) rfl
  have q := He.glo_ok X G (c.fact 33 (f := .glo "_law_deep") rfl)
  exact ⟨_, fd, ok_law_deep (He5.fun_of F) B, q, F.kp, FunD.bindsN (ps := ["_law_harbour_here", "_law_ship", "_law_hour"]) F fun _ _ _ _ _ _ us hl => match us, hl with | [_, _, _], _ => rfl⟩
theorem have_law_options (X : K.In h) (G : h.Ns mainGlobals mg) (c : He.SaysD faL fnL K) (cx : exL K = true) (B : Bn mg) (base : Heap) : Fd P w K mg base 2 "_law_options" ["_law_harbour_here", "_law_ship"] R_law_options := by
  obtain ⟨fd, F⟩ := c.def_ 34 (d := d_law_options) rfl
  have q := He.glo_ok X G (c.fact 34 (f := .glo "_law_options") rfl)
  exact ⟨_, fd, ok_law_options (He5.fun_of F) B (have_law_deep X G c cx B base), q, F.kp, FunD.bindsN (ps := ["_law_harbour_here", "_law_ship"]) F fun _ _ _ _ _ _ us hl => match us, hl with | [_, _], _ => rfl⟩
theorem have_law_beside (X : K.In h) (G : h.Ns mainGlobals mg) (c : He.SaysD faL fnL K) (cx : exL K = true) (B : Bn mg) (base : Heap) : Fd P w K mg base 1 "_law_beside" ["_law_harbour_here", "_law_ships_here", "_law_plan", "_law_one"] R_law_beside := by
  obtain ⟨fd, F⟩ := c.def_ 35 (d := d_law_beside) rfl
  have q := He.glo_ok X G (c.fact 35 (f := .glo "_law_beside") rfl)
  exact ⟨_, fd, ok_law_beside (He5.fun_of F) B, q, F.kp, FunD.bindsN (ps := ["_law_harbour_here", "_law_ships_here", "_law_plan", "_law_one"]) F fun _ _ _ _ _ _ us hl => match us, hl with | [_, _, _, _], _ => rfl⟩
theorem have_law_plans (X : K.In h) (G : h.Ns mainGlobals mg) (c : He.SaysD faL fnL K) (cx : exL K = true) (B : Bn mg) (base : Heap) : Fd P w K mg base 3 "_law_plans" ["_law_harbour_here", "_law_ships_here"] R_law_plans := by
  obtain ⟨fd, F⟩ := c.def_ 36 (d := d_law_plans) rfl
  have q := He.glo_ok X G (c.fact 36 (f := .glo "_law_plans") rfl)
  exact ⟨_, fd, ok_law_plans (He5.fun_of F) B (have_law_options X G c cx B base) (have_law_beside X G c cx B base), q, F.kp, FunD.bindsN (ps := ["_law_harbour_here", "_law_ships_here"]) F fun _ _ _ _ _ _ us hl => match us, hl with | [_, _], _ => rfl⟩
theorem have_law_keeps (X : K.In h) (G : h.Ns mainGlobals mg) (c : He.SaysD faL fnL K) (cx : exL K = true) (B : Bn mg) (base : Heap) : Fd P w K mg base 1 "_law_keeps" ["_law_latest", "_law_plan"] R_law_keeps := by
  obtain ⟨fd, F⟩ := c.def_ 37 (d := d_law_keeps) rfl
  have q := He.glo_ok X G (c.fact 37 (f := .glo "_law_keeps") rfl)
  exact ⟨_, fd, ok_law_keeps (He5.fun_of F) B, q, F.kp, FunD.bindsN (ps := ["_law_latest", "_law_plan"]) F fun _ _ _ _ _ _ us hl => match us, hl with | [_, _], _ => rfl⟩
theorem have_law_least (X : K.In h) (G : h.Ns mainGlobals mg) (c : He.SaysD faL fnL K) (cx : exL K = true) (B : Bn mg) (base : Heap) : Fd P w K mg base 1 "_law_least" ["_law_numbers"] R_law_least := by
  obtain ⟨fd, F⟩ := c.def_ 38 (d := d_law_least) rfl
  have q := He.glo_ok X G (c.fact 38 (f := .glo "_law_least") rfl)
  exact ⟨_, fd, ok_law_least (He5.fun_of F) B, q, F.kp, FunD.bindsN (ps := ["_law_numbers"]) F fun _ _ _ _ _ _ us hl => match us, hl with | [_], _ => rfl⟩
theorem have_law_cost (X : K.In h) (G : h.Ns mainGlobals mg) (c : He.SaysD faL fnL K) (cx : exL K = true) (B : Bn mg) (base : Heap) : Fd P w K mg base 1 "_law_cost" ["_law_ships_here", "_law_plan"] R_law_cost := by
  obtain ⟨fd, F⟩ := c.def_ 39 (d := d_law_cost) rfl
  have q := He.glo_ok X G (c.fact 39 (f := .glo "_law_cost") rfl)
  exact ⟨_, fd, ok_law_cost (He5.fun_of F) B, q, F.kp, FunD.bindsN (ps := ["_law_ships_here", "_law_plan"]) F fun _ _ _ _ _ _ us hl => match us, hl with | [_, _], _ => rfl⟩
theorem have_all (X : K.In h) (G : h.Ns mainGlobals mg) (c : He.SaysD faL fnL K) (cx : exL K = true) (B : Bn mg) (base : Heap) : LawDefs P w K mg base := ⟨B, have_law_stream X G c cx B base, have_law_pick X G c cx B base, have_law_harbour X G c cx B base, have_law_ships X G c cx B base, have_law_plans X G c cx B base, have_law_keeps X G c cx B base, have_law_least X G c cx B base, have_law_cost X G c cx B base, have_best_plan X G c cx B base, have_least_cost X G c cx B base, have_table_of X G c cx B base, have_is_table X G c cx B base⟩
theorem have_law (X : K.In h) (G : h.Ns mainGlobals mg) (c : He.SaysD faL fnL K) {fa : Addr} (hfa : mg "law" = some (.ref fa)) : ∃ fd, Fun K "law" "law" s_law fa fd ∧ ∀ (s : Shared) (a : Addr), BindsTo s fd ⟨[.ref a], []⟩ [("_law_script", .ref a)] := by
  obtain ⟨fd, F⟩ := c.def_ 40 (d := d_law) rfl
  have e := hfa.symm.trans (He.glo_ok X G (c.fact 40 (f := .glo "law") rfl))
  cases e
  exact ⟨fd, He5.fun_of F, fun s a => FunD.bindsA (ps := ["_law_script"]) F (fun _ _ _ _ _ _ us hl => match us, hl with | [_], _ => rfl) s [.ref a] rfl⟩
end
end Tk
end

section
set_option maxHeartbeats 0
namespace Tk
open L2 PyProof.Rows PySem PySem.Spec
abbrev RL : PySem.W.OpenRow := PySem.W.OpenLaw.row PySem.Challenge.rw_tidewaits_k23_whole_promised_hours
def obL (s : PySem.W.SharedT) : He.AlD × Bool := obsL 4 (HandSHeadRun.getT s)
theorem obL_eq (s : PySem.W.SharedT) : obL s = (hookL 4).obs s.abs := obsL_eq (HandSHeadRun.getT_eq s)
def loose0 : List Str := ["is_within", "depth_at", "SEA", "GONE", "beginning", "is_end", "berths_for", "choices", "is_kept", "is_let", "moves_in", "cost_in", "after_moves", "ways_in", "grown", "least", "added", "rests_in", "rest_of", "ways_on", "least_cost", "put_ahead", "best_plan", "table_of"]
def loose1 : List Str := ["is_place", "is_state", "bounds_in", "is_at_most", "holds_in", "is_table", "_law_pool", "_law_stream", "_law_pick", "_law_harbour", "_law_ships", "_law_deep", "_law_options", "_law_beside", "_law_plans", "_law_keeps", "_law_least", "_law_cost", "__name__"]
def looseL : List Str := loose0 ++ loose1
theorem runL (w : World) : HandSHeadRun.RunEq RL (PySem.W.view RL.prog [45]) (hookL 4) obL 3000 looseL w := by
  intro os
  kernel_rfl
/-- the call, from the plain facts -/
theorem call_ok (facts : ∀ script : List Int, LwFacts (hbOf script) (shsOf script)) {w : World} {s₁ : Shared} {mg mb : Str → Option Value} {fa a : Addr} {vs : List Value} {ns : List Int} (Y : ∃ K : PySem.W.Frag, K.In s₁.heap ∧ He.SaysD faL fnL K ∧ exL K = true) (nsG : s₁.heap.Ns mainGlobals mg) (nsB : s₁.heap.Ns builtinsNs mb) (bl : ∀ x : Str, x ≠ "__name__" → mb x = bootBuiltins x) (lim : s₁.heap.NoLimit) (gens : s₁.gens = #[])
    (hmg : mg "law" = some (.ref fa)) (obj : s₁.heap.get? a = some (scrO vs)) (its : IntsAre vs ns) (len : ns.length ≤ 63) :
    codeAny (model (PySem.Challenge.rw_tidewaits_k23_whole_promised_hours).prog w) callerA (.call (.ref fa) ⟨[.ref a], []⟩) (fun r s' => r = .ok (.ret (.bool true)) ∧ OldK s₁.heap s'.heap ∧ s'.os = s₁.os ∧ AllBare s'.gens) s₁ := by
  obtain ⟨K, kin, c, cx⟩ := Y
  refine law_here kin nsG nsB bl lim gens obj its (Nat.le_trans len (by decide)) fun base H e0 seq => ?_
  have B := have_bn kin nsG c
  obtain ⟨fd, F, hb⟩ := have_law kin nsG c hmg
  exact enter_law (k := 11) F sc_law ⟨rfl, by decide, by decide⟩ e0 (hb s₁ a) fun cdv hr => law_body (have_all kin nsG c cx B base) (by omega) (facts ns) hr rfl seq
end Tk
open PyProof.Rows PySem PySem.Calls PySem.W
theorem holds_of (facts : ∀ script : List Int, Tk.LwFacts (Tk.hbOf script) (Tk.shsOf script)) : PySem.Challenge.rw_tidewaits_k23_whole_promised_hours.Holds := by
  w_on; o_law
  refine HandSHeadRun.head_any (r := Tk.RL) (q := view Tk.RL.prog [45]) (H := Tk.hookL 4) (ob := Tk.obL) (M := 3000) (loose := Tk.looseL) (d := HandSHeadRun.topDef Tk.RL.prog 45) (kwd := []) Tk.obL_eq
    (by kernel_rfl) (fun s => by kernel_rfl) Tk.runL (by kernel_rfl) (by kernel_rfl) (by kernel_rfl) (by rfl) (by first | assumption | decide +kernel) (by decide +kernel) ⟨rfl, rfl, rfl, rfl, rfl, by decide +kernel⟩ ?hw ?hc
  case hw => w_witness2
  case hc =>
    refine Att.attach_call (l := PySem.Challenge.rw_tidewaits_k23_whole_promised_hours) (n := 63) rfl (by kernel_rfl) fun w s₀ s₁ mg mb fa o pm cd doc a vs ns G Y ho hd hcd hmg hobj hints hlen hg => ?_
    have hmg2 : mg ("law" : PySem.Str) = some (.ref fa) := by
      have e : (HandSHeadRun.topDef Tk.RL.prog 45).name = ("law" : PySem.Str) := by kernel_rfl
      rw [← e]
      exact hmg
    exact Tk.call_ok facts Y G.T.g G.T.b G.T.builtins G.T.nolimit hg hmg2 hobj hints hlen
end

theorem PySem.Challenge.cw_tidewaits_k23_whole_promised_hours_holds : PySem.Challenge.rw_tidewaits_k23_whole_promised_hours.Holds := by
  exact holds_of fun script => Tk.facts_of script
